import PyProof.Rows.All
import Wide.All
import OpenK.AllK
import Wide.FinOn
import HandS.ForMost
import HandS.Wide
import HandS.Star
import HandS.Property
import HandS.IsInst
import HandS.Style
import HandS.TupAny
import HandS.Defaults
import HandS.Flow
import HandS.Lambda
import HandS.Exc
import KE.KOpsOwn
import PyProof.InstEq
import PyProof.InstNe
import HandS.TupMul
import HandS.Zip
import HandS.Head0
import HandS.Head1
import HandS.Head2
import HandS.HeadEnd
import HandS.HeadHook1
import HandS.HeadHook2
import KE.GoesMore
import KE.KRevSl
import KE.KIsAll
import HandS.ExcIs
import HandS.ExcField
import PyProof.ReprReads
import PyProof.ReprRoads
import PyProof.ReprLen
import PyProof.P3Eq
import PyProof.Fits
import HandS.ExcInit
import HandS.ExcOwn
import HandS.ClsMeth
import HandS.RaiseMore
import HandS.ExcValue
import HandS.EndTab
import HandS.HeadHook4
import PyProof.ListRange
import HandS.MakeKwOnly
import HandS.OwnEq
import HandS.NamedTupGet
import PySem.Challenge.RW_crossadds_k19_steps_judged
set_option Elab.async false
set_option linter.all false
set_option maxRecDepth 100000
set_option maxHeartbeats 4000000
/-! A0: a logic of plain data over the hand layer: data, cells, the world. -/
namespace DL
open PySem L2

/-- plain data; a cell is a thing that still changes -/
inductive D where
  | none | bool (b : Bool) | int (i : Int) | str (s : Str)
  | list (ds : List D) | tup (ds : List D)
  | dk (ks : List Key) (ds : List D) | dt (ks : List (List Key)) (ds : List D)
  | obj (c : Str) (fs : List Str) (ds : List D)
  | script (ns : List Int) | state | ty (n : String) | cls (n : Str)
  | err (c : Str) (fs : List Str) (ds : List D)
  | cell (a : Addr)
/-- what a cell holds -/
inductive Nd where
  | list (ds : List D) | dk (ks : List Key) (ds : List D) | dt (ks : List (List Key)) (ds : List D)
  | obj (c : Str) (fs : List Str) (ds : List D)
def Nd.frz : Nd → D
  | .list ds => .list ds
  | .dk ks ds => .dk ks ds
  | .dt ks ds => .dt ks ds
  | .obj c fs ds => .obj c fs ds
abbrev Mu := Addr → Option Nd
def up (μ : Mu) (a : Addr) (x : Nd) : Mu := fun b => if b = a then some x else μ b
def del (μ : Mu) (a : Addr) : Mu := fun b => if b = a then Option.none else μ b
theorem up_same {μ : Mu} {a : Addr} {x : Nd} : up μ a x a = some x := if_pos rfl
theorem up_ne {μ : Mu} {a b : Addr} {x : Nd} (h : b ≠ a) : up μ a x b = μ b := if_neg h
theorem up_up {μ : Mu} {a : Addr} {x y : Nd} : up (up μ a x) a y = up μ a y := by
  funext b
  unfold up
  split <;> rfl
theorem del_same {μ : Mu} {a : Addr} : del μ a a = Option.none := if_pos rfl
theorem del_ne {μ : Mu} {a b : Addr} (h : b ≠ a) : del μ a b = μ b := if_neg h
theorem del_up {μ : Mu} {a : Addr} {x : Nd} (h : μ a = Option.none) : del (up μ a x) a = μ := by
  funext b
  by_cases z : b = a
  · subst z
    rw [del_same, h]
  · rw [del_ne z, up_ne z]

/-- the written part, the classes by name -/
structure Ctx where
  K : PySem.W.Frag
  cl : Str → Addr
  tb : List (Addr × Str) := []
  ns : List Str := []
  es : List Str := []
/-- the built-in types that are named -/
def tyNames : List String := ["int", "bool", "str", "list", "tuple", "dict", "NoneType", "ValueError", "KeyError", "ZeroDivisionError", "TypeError"]
/-- where the law's state stands: its dict, its list of wide cells, its list of cells -/
structure SA where
  d : Addr
  l : Addr
  k : Addr
  T : List (Addr × Str) := []

/-- at a: an error of the class cls, its dict at d -/
def ErO (a : Addr) (cls : Value) (d : Option Addr) : HO := .ext fun h => ∃ (oe : Obj) (vs : Array Value), h.get? a = some oe ∧ Zc cls d oe ∧ oe.data = .fields vs
/-- what an error's dict holds -/
def ErF (I : Hp) (d : Option Addr) (fs : List Str) (xs : List V) : Prop := fs.length = xs.length ∧ ((d = none ∧ fs = []) ∨ ∃ dx, d = some dx ∧ I dx = some (.xd (List.zip fs xs)))
/-- a tuple at a: made while running, or the empty one of the written part -/
def TupA (K : PySem.W.Frag) (I : Hp) (a : Addr) (xs : List V) : Prop := I a = some (.tup xs) ∨ (xs = [] ∧ SqT K I a [])
theorem TupA.sq {K : PySem.W.Frag} {I : Hp} {a : Addr} {xs : List V} (h : TupA K I a xs) : SqT K I a xs := by
  rcases h with h | ⟨rfl, h⟩
  · exact .inl (.inl h)
  · exact h
mutual
/-- what a value stands for, by what is known -/
inductive Rep (c : Ctx) (S : Option SA) (I : Hp) : D → V → Prop where
  | none : Rep c S I .none .non
  | bool {b} : Rep c S I (.bool b) (.bl b)
  | int {i} : Rep c S I (.int i) (.int i)
  | str {s} : Rep c S I (.str s) (.str s)
  | list {a ds xs} (h : I a = some (.lst xs)) (r : Reps c S I ds xs) : Rep c S I (.list ds) (.ref a)
  | tup {a ds xs} (h : TupA c.K I a xs) (r : Reps c S I ds xs) : Rep c S I (.tup ds) (.ref a)
  | dk {a ks ds xs} (h : I a = some (.dK (List.zip ks xs))) (r : Reps c S I ds xs) (l : ks.length = xs.length) : Rep c S I (.dk ks ds) (.ref a)
  | dt {a ks ds xs} (h : I a = some (.dT (List.zip ks xs))) (r : Reps c S I ds xs) (l : ks.length = xs.length) : Rep c S I (.dt ks ds) (.ref a)
  | obj {a n dx fs ds xs} (h : I a = some (.ins (c.cl n) dx (List.zip fs xs))) (r : Reps c S I ds xs) (l : fs.length = xs.length) (hn : n ∈ c.ns) : Rep c S I (.obj n fs ds) (.ref a)
  | script {a ns} (h : SqL c.K I a (ns.map V.int)) : Rep c S I (.script ns) (.ref a)
  | state {s} (h : S = some s) (ht : s.T = c.tb) : Rep c S I .state (.ref s.d)
  | ty {n} (hn : n ∈ tyNames) : Rep c S I (.ty n) (.ty n)
  | cls {n} (hn : n ∈ c.ns ++ c.es) : Rep c S I (.cls n) (.ref (c.cl n))
  | err {a n d fs ds xs} (h : I a = some (ErO a (.ref (c.cl n)) d)) (hf : ErF I d fs xs) (r : Reps c S I ds xs) (hn : n ∈ c.es) : Rep c S I (.err n fs ds) (.ref a)
  | cell {a} : Rep c S I (.cell a) (.ref a)
inductive Reps (c : Ctx) (S : Option SA) (I : Hp) : List D → List V → Prop where
  | nil : Reps c S I [] []
  | cons {d ds x xs} (h : Rep c S I d x) (r : Reps c S I ds xs) : Reps c S I (d :: ds) (x :: xs)
end

theorem Same.sqT {K : PySem.W.Frag} {H H' : Hp} {a : Addr} {xs : List V} (e : Same H H') (h : SqT K H a xs) : SqT K H' a xs := by
  rcases h with (h | ⟨o, h⟩) | h
  · exact .inl (.inl (e _ _ h))
  · exact .inl (.inr ⟨o, e _ _ h⟩)
  · exact .inr h
theorem Same.tup {K : PySem.W.Frag} {H H' : Hp} {a : Addr} {xs : List V} (e : Same H H') (h : TupA K H a xs) : TupA K H' a xs := by
  rcases h with h | ⟨h, g⟩
  · exact .inl (e _ _ h)
  · exact .inr ⟨h, Same.sqT e g⟩
theorem ErF.mono {I I' : Hp} (e : Same I I') {d : Option Addr} {fs : List Str} {xs : List V} (h : ErF I d fs xs) : ErF I' d fs xs := by
  obtain ⟨h1, h2⟩ := h
  refine ⟨h1, ?_⟩
  rcases h2 with z | ⟨dx, z, q⟩
  · exact .inl z
  · exact .inr ⟨dx, z, e _ _ q⟩
section
variable {c : Ctx} {S : Option SA} {I I' : Hp}
mutual
theorem Rep.mono (e : Same I I') : ∀ {d : D} {v : V}, Rep c S I d v → Rep c S I' d v
  | _, _, .none => .none
  | _, _, .bool => .bool
  | _, _, .int => .int
  | _, _, .str => .str
  | _, _, .list h r => .list (e _ _ h) (Reps.mono e r)
  | _, _, .tup h r => .tup (Same.tup e h) (Reps.mono e r)
  | _, _, .dk h r l => .dk (e _ _ h) (Reps.mono e r) l
  | _, _, .dt h r l => .dt (e _ _ h) (Reps.mono e r) l
  | _, _, .obj h r l hn => .obj (e _ _ h) (Reps.mono e r) l hn
  | _, _, .script h => .script (e.seq h)
  | _, _, .state h t => .state h t
  | _, _, .ty hn => .ty hn
  | _, _, .cls hn => .cls hn
  | _, _, .err h f r hn => .err (e _ _ h) (f.mono e) (Reps.mono e r) hn
  | _, _, .cell => .cell
theorem Reps.mono (e : Same I I') : ∀ {ds : List D} {xs : List V}, Reps c S I ds xs → Reps c S I' ds xs
  | _, _, .nil => .nil
  | _, _, .cons h r => .cons (Rep.mono e h) (Reps.mono e r)
end
theorem Reps.length : ∀ {ds : List D} {xs : List V}, Reps c S I ds xs → ds.length = xs.length
  | _, _, .nil => rfl
  | _, _, .cons _ r => by rw [List.length_cons, List.length_cons, r.length]
theorem Reps.get : ∀ {ds : List D} {xs : List V} {i : Nat} {d : D}, Reps c S I ds xs → ds[i]? = some d → ∃ x, xs[i]? = some x ∧ Rep c S I d x
  | _, _, _, _, .nil, h => by simp at h
  | _, _, 0, _, .cons r _, h => by
    simp at h
    subst h
    exact ⟨_, rfl, r⟩
  | _, _, i + 1, d, .cons _ r, h => by
    obtain ⟨x, h1, h2⟩ := r.get (i := i) (by simpa using h)
    exact ⟨x, by simpa using h1, h2⟩
theorem Reps.append : ∀ {ds es : List D} {xs ys : List V}, Reps c S I ds xs → Reps c S I es ys → Reps c S I (ds ++ es) (xs ++ ys)
  | _, _, _, _, .nil, s => s
  | _, _, _, _, .cons h r, s => .cons h (r.append s)
theorem Reps.set {d : D} {x : V} (q : Rep c S I d x) : ∀ {ds : List D} {xs : List V} (i : Nat), Reps c S I ds xs → Reps c S I (ds.set i d) (xs.set i x)
  | _, _, _, .nil => .nil
  | _, _, 0, .cons _ r => .cons q r
  | _, _, i + 1, .cons h r => .cons h (Reps.set q i r)
theorem Reps.take : ∀ {ds : List D} {xs : List V} (i : Nat), Reps c S I ds xs → Reps c S I (ds.take i) (xs.take i)
  | _, _, 0, _ => .nil
  | _, _, _ + 1, .nil => .nil
  | _, _, i + 1, .cons h r => .cons h (r.take i)
theorem Reps.drop : ∀ {ds : List D} {xs : List V} (i : Nat), Reps c S I ds xs → Reps c S I (ds.drop i) (xs.drop i)
  | _, _, 0, r => r
  | _, _, _ + 1, .nil => .nil
  | _, _, i + 1, .cons _ r => r.drop i
theorem Reps.reverse : ∀ {ds : List D} {xs : List V}, Reps c S I ds xs → Reps c S I ds.reverse xs.reverse
  | _, _, .nil => .nil
  | _, _, .cons h r => by
    rw [List.reverse_cons, List.reverse_cons]
    exact r.reverse.append (.cons h .nil)
theorem Reps.flat {ds : List D} {xs : List V} (q : Reps c S I ds xs) : ∀ n : Nat, Reps c S I (List.replicate n ds).flatten (List.replicate n xs).flatten
  | 0 => .nil
  | n + 1 => by
    rw [List.replicate_succ, List.replicate_succ, List.flatten_cons, List.flatten_cons]
    exact q.append (Reps.flat q n)
theorem Reps.dropLast {ds : List D} {xs : List V} (q : Reps c S I ds xs) : Reps c S I ds.dropLast xs.dropLast := by
  rw [List.dropLast_eq_take, List.dropLast_eq_take, q.length]
  exact q.take _
theorem Reps.eraseIdx : ∀ {ds : List D} {xs : List V} (i : Nat), Reps c S I ds xs → Reps c S I (ds.eraseIdx i) (xs.eraseIdx i)
  | _, _, _, .nil => .nil
  | _, _, 0, .cons _ r => r
  | _, _, i + 1, .cons h r => .cons h (Reps.eraseIdx i r)
theorem Reps.ints : ∀ {ns : List Int} {xs : List V}, Reps c S I (ns.map D.int) xs → xs = ns.map V.int
  | [], _, .nil => rfl
  | _ :: ns, _, .cons h r => by
    cases h
    rw [r.ints]
    rfl
theorem Reps.of_ints : ∀ {ns : List Int}, Reps c S I (ns.map D.int) (ns.map V.int)
  | [] => .nil
  | _ :: _ => .cons .int Reps.of_ints
end
/-- what a cell's thing is -/
inductive NdR (c : Ctx) (S : Option SA) (I : Hp) : Nd → HO → Prop where
  | list {ds xs} (r : Reps c S I ds xs) : NdR c S I (.list ds) (.lst xs)
  | dk {ks ds xs} (r : Reps c S I ds xs) (l : ks.length = xs.length) : NdR c S I (.dk ks ds) (.dK (List.zip ks xs))
  | dt {ks ds xs} (r : Reps c S I ds xs) (l : ks.length = xs.length) : NdR c S I (.dt ks ds) (.dT (List.zip ks xs))
  | obj {n dx fs ds xs} (r : Reps c S I ds xs) (l : fs.length = xs.length) (hn : n ∈ c.ns) : NdR c S I (.obj n fs ds) (.ins (c.cl n) dx (List.zip fs xs))
theorem NdR.mono {c : Ctx} {S : Option SA} {I I' : Hp} (e : Same I I') {nd : Nd} {o : HO} (h : NdR c S I nd o) : NdR c S I' nd o := by
  cases h with
  | list r => exact .list (r.mono e)
  | dk r l => exact .dk (r.mono e) l
  | dt r l => exact .dt (r.mono e) l
  | obj r l hn => exact .obj (r.mono e) l hn
theorem NdR.frz {c : Ctx} {S : Option SA} {I : Hp} {nd : Nd} {o : HO} {a : Addr} (h : NdR c S I nd o) (ha : I a = some o) : Rep c S I nd.frz (.ref a) := by
  cases h with
  | list r => exact .list ha r
  | dk r l => exact .dk ha r l
  | dt r l => exact .dt ha r l
  | obj r l hn => exact .obj ha r l hn

/-! ### the world -/
def isDict : HO → Bool
  | .dK _ => true
  | _ => false
/-- no table of code objects -/
def notTb : HO → Prop
  | .tbl _ => False
  | _ => True
def notTX : HO → Prop
  | .tbl _ => False
  | .ext _ => False
  | .tup _ => False
  | _ => True
theorem notTX.tb : ∀ {o : HO}, notTX o → notTb o := fun {o} h => by cases o <;> first | trivial | exact h
theorem NdR.tx {c : Ctx} {S : Option SA} {I : Hp} {nd : Nd} {o : HO} (h : NdR c S I nd o) : notTX o := by cases h <;> trivial
/-- the places of the state -/
def Cell (a : SA) (b : Addr) : Prop := (b = a.d ∨ b = a.l ∨ b = a.k) ∨ ∃ p ∈ a.T, b = p.1
def StOk (s : SA) (n : Nat) (H : Hp) : Prop := LamX.Tabs s.T H ∧ s.l ≠ s.k ∧ ∃ (ws cs : List Int) (r t : Int),
  H s.d = some (.dK [(Sum.inr "wide", .ref s.l), (Sum.inr "cells", .ref s.k), (Sum.inr "rest", .int r), (Sum.inr "turn", .int t)]) ∧
  H s.l = some (.lst (ws.map V.int)) ∧ H s.k = some (.lst (cs.map V.int)) ∧ ws.length ≤ 63 ∧ cs.length ≤ 63 ∧ 0 ≤ t ∧ t ≤ (n : Int)
/-- what is known (I), the cells (μ), what is left alone meanwhile (F), the state -/
structure Wd (c : Ctx) (S : Option SA) (F : Hp) (n : Nat) (I : Hp) (μ : Mu) (H : Hp) : Prop where
  i : ∀ b o, I b = some o → H b = some o ∨ (isDict o = true ∧ ∃ ob, H b = some (.frz ob o))
  m : ∀ b nd, μ b = some nd → I b = Option.none ∧ ∃ o, NdR c S I nd o ∧ H b = some o
  s : ∀ a, S = some a → StOk a n H ∧ ∀ b, Cell a b → I b = Option.none ∧ μ b = Option.none
  ni : ∀ b o, I b = some o → notTb o
  f : ∀ b o, F b = some o → H b = some o ∧ I b = Option.none ∧ μ b = Option.none ∧ notTX o ∧ ∀ a, S = some a → ¬ Cell a b
  z : ∃ a, S = some a ∧ a.T = c.tb
theorem none_of {α : Type} {x : Option α} (h : ∀ o, x = some o → False) : x = Option.none := by
  cases e : x with
  | none => rfl
  | some o => exact (h o e).elim
theorem StOk.up {s : SA} {n m : Nat} {H : Hp} (h : StOk s n H) (e : n ≤ m) : StOk s m H := by
  obtain ⟨h9, h0, ws, cs, r, t, h1, h2, h3, h4, h5, h6, h7⟩ := h
  exact ⟨h9, h0, ws, cs, r, t, h1, h2, h3, h4, h5, h6, by omega⟩
theorem StOk.cells {s : SA} {n : Nat} {H : Hp} (h : StOk s n H) {b : Addr} (q : Cell s b) : ∃ o, H b = some o := by
  obtain ⟨h9, h0, ws, cs, r, t, h1, h2, h3, _⟩ := h
  rcases q with (rfl | rfl | rfl) | ⟨p, hp, rfl⟩
  · exact ⟨_, h1⟩
  · exact ⟨_, h2⟩
  · exact ⟨_, h3⟩
  · obtain ⟨ps, z, _⟩ := h9 p hp
    exact ⟨_, z⟩
/-- the tables stay where they and what they tell stay -/
theorem tabs_keep {T : List (Addr × Str)} {H H' : Hp} (h : LamX.Tabs T H) (k : ∀ p ∈ T, H' p.1 = H p.1) (k2 : ∀ b φ, H b = some (.ext φ) → H' b = some (.ext φ)) : LamX.Tabs T H' := fun p hp => by
  obtain ⟨ps, h1, h2, h3⟩ := h p hp
  refine ⟨ps, by rw [k p hp]; exact h1, h2, fun pos cv hc => ?_⟩
  obtain ⟨c, e1, e2⟩ := h3 pos cv hc
  exact ⟨c, e1, k2 _ _ e2⟩
theorem StOk.keep {s : SA} {n : Nat} {H H' : Hp} (h : StOk s n H) (k : ∀ b, Cell s b → H' b = H b) (k2 : ∀ b φ, H b = some (.ext φ) → H' b = some (.ext φ)) : StOk s n H' := by
  obtain ⟨h9, h0, ws, cs, r, t, h1, h2, h3, h4⟩ := h
  exact ⟨tabs_keep h9 (fun p hp => k _ (.inr ⟨p, hp, rfl⟩)) k2, h0, ws, cs, r, t, by rw [k _ (.inl (.inl rfl))]; exact h1, by rw [k _ (.inl (.inr (.inl rfl)))]; exact h2, by rw [k _ (.inl (.inr (.inr rfl)))]; exact h3, h4⟩
section
variable {c : Ctx} {S : Option SA} {n m : Nat} {I H F F' : Hp} {μ μ' : Mu} {p : Addr} {u o : HO} {nd : Nd}
theorem Wd.up (w : Wd c S F n I μ H) (e : n ≤ m) : Wd c S F m I μ H := ⟨w.i, w.m, fun a h => ⟨(w.s a h).1.up e, (w.s a h).2⟩, w.ni, w.f, w.z⟩
/-- less is owned -/
theorem Wd.drop (w : Wd c S F n I μ H) (e : ∀ b nd, μ' b = some nd → μ b = some nd) : Wd c S F n I μ' H :=
  ⟨w.i, fun b nd h => w.m b nd (e b nd h), fun a h => ⟨(w.s a h).1, fun b q => ⟨((w.s a h).2 b q).1, none_of fun o z => by
    have := e b o z
    rw [((w.s a h).2 b q).2] at this
    cases this⟩⟩, w.ni, fun b o h => ⟨(w.f b o h).1, (w.f b o h).2.1, none_of (fun nd z => nomatch (w.f b o h).2.2.1.symm.trans (e b nd z)), (w.f b o h).2.2.2⟩, w.z⟩
/-- less is left alone -/
theorem Wd.less (w : Wd c S F n I μ H) (e : ∀ b o, F' b = some o → F b = some o) : Wd c S F' n I μ H := ⟨w.i, w.m, w.s, w.ni, fun b o h => w.f b o (e b o h), w.z⟩
theorem Wd.nf (w : Wd c S F n I μ H) (h : H p = Option.none) : F p = Option.none := none_of fun o e => by
  have := (w.f p o e).1
  rw [h] at this
  cases this
theorem Wd.nfm (w : Wd c S F n I μ H) (h : μ p = some nd) : F p = Option.none := none_of fun o e => by
  have := (w.f p o e).2.2.1
  rw [h] at this
  cases this
theorem Wd.fresh (w : Wd c S F n I μ H) (h : H p = Option.none) : I p = Option.none ∧ μ p = Option.none := by
  constructor
  · refine none_of fun o e => ?_
    rcases w.i p o e with z | ⟨_, ob, z⟩
    · rw [h] at z; cases z
    · rw [h] at z; cases z
  · refine none_of fun nd e => ?_
    obtain ⟨_, o, _, z⟩ := w.m p nd e
    rw [h] at z; cases z
theorem Wd.ne_st (w : Wd c S F n I μ H) (h : H p = Option.none) {a : SA} (e : S = some a) {b : Addr} (q : Cell a b) : b ≠ p := by
  obtain ⟨o, z⟩ := (w.s a e).1.cells q
  exact ne_of_none z h
theorem ext_new (h : H p = Option.none) : ∀ b φ, H b = some (.ext φ) → upd H p u b = some (.ext φ) := fun b φ e => by
  rw [upd_ne (ne_of_none e h)]
  exact e
theorem same_new (h : I p = Option.none) : Same I (upd I p u) := fun b o e => by
  rw [upd_ne (ne_of_none e h)]
  exact e
/-- a new thing of which nothing is said -/
theorem Wd.frame (w : Wd c S F n I μ H) (h : H p = Option.none) : Wd c S F n I μ (upd H p u) := by
  have hf := w.fresh h
  refine ⟨fun b o e => ?_, fun b nd e => ?_, fun a e => ⟨?_, (w.s a e).2⟩, w.ni, fun b o e => ⟨by rw [upd_ne (ne_of_none (w.f b o e).1 h)]; exact (w.f b o e).1, (w.f b o e).2⟩, w.z⟩
  · rw [upd_ne (ne_of_none e hf.1)]
    exact w.i b o e
  · obtain ⟨h1, o, h2, h3⟩ := w.m b nd e
    exact ⟨h1, o, h2, by rw [upd_ne (ne_of_none h3 h)]; exact h3⟩
  · exact (w.s a e).1.keep (fun b q => upd_ne (w.ne_st h e q)) (ext_new h)
/-- it is known from now on -/
theorem Wd.know (w : Wd c S F n I μ H) (h : H p = some u) (hi : I p = Option.none) (hm : μ p = Option.none) (hc : ∀ a, S = some a → ¬ Cell a p) (hf : F p = Option.none) (hu : notTb u) : Wd c S F n (upd I p u) μ H := by
  have sm : Same I (upd I p u) := same_new hi
  have ap : ∀ {b : Addr}, b ≠ p → upd I p u b = I b := fun z => upd_ne z
  refine ⟨fun b o e => ?_, fun b nd e => ?_, fun a e => ⟨(w.s a e).1, fun b q => ?_⟩, fun b o e => ?_, fun b o e => ⟨(w.f b o e).1, by rw [ap (ne_of_none e hf)]; exact (w.f b o e).2.1, (w.f b o e).2.2⟩, w.z⟩
  · by_cases z : b = p
    · subst z
      rw [upd_same] at e
      cases e
      exact .inl h
    · rw [ap z] at e
      exact w.i b o e
  · have z : b ≠ p := fun z => by
      rw [z, hm] at e
      cases e
    obtain ⟨h1, o, h2, h3⟩ := w.m b nd e
    exact ⟨by rw [ap z]; exact h1, o, h2.mono sm, h3⟩
  · have z : b ≠ p := fun z => hc a e (z ▸ q)
    rw [ap z]
    exact (w.s a e).2 b q
  · by_cases z : b = p
    · subst z
      rw [upd_same] at e
      cases e
      exact hu
    · rw [ap z] at e
      exact w.ni b o e
/-- it is a cell from now on -/
theorem Wd.own (w : Wd c S F n I μ H) (r : NdR c S I nd u) (h : H p = some u) (hi : I p = Option.none) (hc : ∀ a, S = some a → ¬ Cell a p) (hf : F p = Option.none) : Wd c S F n I (DL.up μ p nd) H := by
  refine ⟨w.i, fun b nd' e => ?_, fun a e => ⟨(w.s a e).1, fun b q => ?_⟩, w.ni, fun b o e => ⟨(w.f b o e).1, (w.f b o e).2.1, by rw [up_ne (ne_of_none e hf)]; exact (w.f b o e).2.2.1, (w.f b o e).2.2.2⟩, w.z⟩
  · by_cases z : b = p
    · subst z
      rw [up_same] at e
      cases e
      exact ⟨hi, u, r, h⟩
    · rw [up_ne z] at e
      exact w.m b nd' e
  · rw [up_ne fun (z : b = p) => hc a e (z ▸ q)]
    exact (w.s a e).2 b q
theorem Wd.no_cell (w : Wd c S F n I μ H) (h : H p = Option.none) : ∀ a, S = some a → ¬ Cell a p := fun _ e q => w.ne_st h e q rfl
/-- a new thing, known -/
theorem Wd.new (w : Wd c S F n I μ H) (h : H p = Option.none) (hu : notTb u := by trivial) : Wd c S F n (upd I p u) μ (upd H p u) :=
  (w.frame h).know upd_same (w.fresh h).1 (w.fresh h).2 (w.no_cell h) (w.nf h) hu
/-- a new thing, a cell -/
theorem Wd.newCell (w : Wd c S F n I μ H) (h : H p = Option.none) (r : NdR c S I nd u) : Wd c S F n I (DL.up μ p nd) (upd H p u) :=
  (w.frame h).own r upd_same (w.fresh h).1 (w.no_cell h) (w.nf h)
/-- a cell is changed -/
theorem Wd.put (w : Wd c S F n I μ H) {nd0 : Nd} (h : μ p = some nd0) (r : NdR c S I nd u) : Wd c S F n I (DL.up μ p nd) (upd H p u) := by
  obtain ⟨hi, o0, r0, h0⟩ := w.m p nd0 h
  have hc : ∀ a, S = some a → ¬ Cell a p := fun a e q => by
    have := ((w.s a e).2 p q).2
    rw [h] at this
    cases this
  have hf := w.nfm h
  refine ⟨fun b o e => ?_, fun b nd' e => ?_, fun a e => ⟨?_, fun b q => ?_⟩, w.ni, fun b o e => ⟨by rw [upd_ne (ne_of_none e hf)]; exact (w.f b o e).1, (w.f b o e).2.1, by rw [up_ne (ne_of_none e hf)]; exact (w.f b o e).2.2.1, (w.f b o e).2.2.2⟩, w.z⟩
  · rw [upd_ne (ne_of_none e hi)]
    exact w.i b o e
  · by_cases z : b = p
    · subst z
      rw [up_same] at e
      cases e
      exact ⟨hi, u, r, upd_same⟩
    · rw [up_ne z] at e
      rw [upd_ne z]
      exact w.m b nd' e
  · refine (w.s a e).1.keep (fun b q => upd_ne fun z => hc a e (z ▸ q)) fun b φ z => ?_
    rw [upd_ne fun q => ?_]
    · exact z
    · rw [q, h0] at z
      cases z
      exact r0.tx
  · rw [up_ne fun (z : b = p) => hc a e (z ▸ q)]
    exact (w.s a e).2 b q
/-- a cell is known from now on -/
theorem Wd.freeze (w : Wd c S F n I μ H) (h : μ p = some nd) : ∃ o, NdR c S I nd o ∧ H p = some o ∧ I p = Option.none ∧ Wd c S F n (upd I p o) (del μ p) H := by
  obtain ⟨hi, o, r, h0⟩ := w.m p nd h
  refine ⟨o, r, h0, hi, (w.drop fun b nd' e => ?_).know h0 hi del_same (fun a e q => ?_) ?_ r.tx.tb⟩
  · by_cases z : b = p
    · rw [z, del_same] at e
      cases e
    · rw [del_ne z] at e
      exact e
  · have := ((w.s a e).2 p q).2
    rw [h] at this
    cases this
  · exact w.nfm h
theorem Wd.lst (w : Wd c S F n I μ H) {xs : List V} (h : I p = some (.lst xs)) : H p = some (.lst xs) := by
  rcases w.i p _ h with z | ⟨z, _⟩
  · exact z
  · cases z
theorem Wd.ins (w : Wd c S F n I μ H) {C dx : Addr} {fs : List (Str × V)} (h : I p = some (.ins C dx fs)) : H p = some (.ins C dx fs) := by
  rcases w.i p _ h with z | ⟨z, _⟩
  · exact z
  · cases z
theorem Wd.tupH (w : Wd c S F n I μ H) {K : PySem.W.Frag} {xs : List V} (h : TupA K I p xs) : SqT K H p xs := by
  rcases h.sq with (h | ⟨o, h⟩) | h
  · rcases w.i p _ h with z | ⟨z, _⟩
    · exact .inl (.inl z)
    · cases z
  · rcases w.i p _ h with z | ⟨z, _⟩
    · exact .inl (.inr ⟨o, z⟩)
    · cases z
  · exact .inr h
/-- a tuple that stands is known -/
theorem Wd.tupK (w : Wd c S F n I μ H) {xs : List V} (h : H p = some (.tup xs)) : ∃ I', Same I I' ∧ I' p = some (.tup xs) ∧ Wd c S F n I' μ H := by
  cases e : I p with
  | some o =>
    rcases w.i p o e with z | ⟨_, ob, z⟩
    · rw [h] at z
      cases z
      exact ⟨I, Same.refl I, e, w⟩
    · rw [h] at z
      cases z
  | none =>
    refine ⟨upd I p (.tup xs), same_new e, upd_same, w.know h e (none_of fun nd z => ?_) (fun a ea q => ?_) (none_of fun o z => ?_) trivial⟩
    · obtain ⟨_, o, r, q⟩ := w.m p nd z
      rw [h] at q
      cases q
      exact r.tx
    · obtain ⟨h9, h0, ws, cs, r, t, h1, h2, h3, _⟩ := (w.s a ea).1
      rcases q with (rfl | rfl | rfl) | ⟨pp, hp, rfl⟩
      · rw [h] at h1; cases h1
      · rw [h] at h2; cases h2
      · rw [h] at h3; cases h3
      · obtain ⟨ps, z, _⟩ := h9 pp hp
        rw [h] at z; cases z
    · obtain ⟨q1, _, _, q2, _⟩ := w.f p o z
      rw [h] at q1
      cases q1
      exact q2
theorem Wd.seqH (w : Wd c S F n I μ H) {K : PySem.W.Frag} {xs : List V} (h : SqL K I p xs) : SqL K H p xs := by
  rcases h with (h | ⟨o, h⟩) | h
  · rcases w.i p _ h with z | ⟨z, _⟩
    · exact .inl (.inl z)
    · cases z
  · rcases w.i p _ h with z | ⟨z, _⟩
    · exact .inl (.inr ⟨o, z⟩)
    · cases z
  · exact .inr h
end
/-! ### the names' values -/
abbrev EnvD := List (Option D)
def gt : EnvD → Nat → Option D
  | [], _ => Option.none
  | x :: _, 0 => x
  | _ :: r, n + 1 => gt r n
def st : EnvD → Nat → Option D → EnvD
  | [], _, _ => []
  | _ :: r, 0, x => x :: r
  | y :: r, n + 1, x => y :: st r n x
inductive EnvR (c : Ctx) (S : Option SA) (I : Hp) : EnvD → L2.St → Prop where
  | nil : EnvR c S I [] []
  | no {e σ x} (h : EnvR c S I e σ) : EnvR c S I (Option.none :: e) (x :: σ)
  | yes {e σ d v} (r : Rep c S I d v) (h : EnvR c S I e σ) : EnvR c S I (some d :: e) (some v :: σ)
section
variable {c : Ctx} {S : Option SA} {I I' : Hp}
theorem EnvR.mono (k : Same I I') : ∀ {e : EnvD} {σ : L2.St}, EnvR c S I e σ → EnvR c S I' e σ
  | _, _, .nil => .nil
  | _, _, .no h => .no (h.mono k)
  | _, _, .yes r h => .yes (r.mono k) (h.mono k)
theorem EnvR.len : ∀ {e : EnvD} {σ : L2.St}, EnvR c S I e σ → e.length = σ.length
  | _, _, .nil => rfl
  | _, _, .no h => by rw [List.length_cons, List.length_cons, h.len]
  | _, _, .yes _ h => by rw [List.length_cons, List.length_cons, h.len]
theorem EnvR.get {d : D} : ∀ {e : EnvD} {σ : L2.St} {i : Nat}, EnvR c S I e σ → gt e i = some d → ∃ v, σ[i]? = some (some v) ∧ Rep c S I d v
  | _, _, _, .nil, h => by simp [gt] at h
  | _, _, 0, .no _, h => by simp [gt] at h
  | _, _, 0, .yes r _, h => by
    simp only [gt, Option.some.injEq] at h
    subst h
    exact ⟨_, rfl, r⟩
  | _, _, i + 1, .no q, h => by simpa using q.get (i := i) (by simpa [gt] using h)
  | _, _, i + 1, .yes _ q, h => by simpa using q.get (i := i) (by simpa [gt] using h)
theorem EnvR.put {d : D} {v : V} (r : Rep c S I d v) : ∀ {e : EnvD} {σ : L2.St} (i : Nat), EnvR c S I e σ → EnvR c S I (st e i (some d)) (σ.set i (some v))
  | _, _, _, .nil => .nil
  | _, _, 0, .no h => .yes r h
  | _, _, 0, .yes _ h => .yes r h
  | _, _, i + 1, .no h => .no (EnvR.put r i h)
  | _, _, i + 1, .yes q h => .yes q (EnvR.put r i h)
theorem EnvR.clr {x : Option V} : ∀ {e : EnvD} {σ : L2.St} (i : Nat), EnvR c S I e σ → EnvR c S I (st e i Option.none) (σ.set i x)
  | _, _, _, .nil => .nil
  | _, _, 0, .no h => .no h
  | _, _, 0, .yes _ h => .no h
  | _, _, i + 1, .no h => .no (EnvR.clr i h)
  | _, _, i + 1, .yes q h => .yes q (EnvR.clr i h)
/-- comprehension names are gone -/
def wipeE (e : EnvD) : List Nat → EnvD
  | [] => e
  | v :: vs => st (wipeE e vs) v Option.none
theorem EnvR.wipe : ∀ (vs : List Nat) {e : EnvD} {σ : L2.St}, EnvR c S I e σ → EnvR c S I (wipeE e vs) (L2.wipe σ vs)
  | [], _, _, h => h
  | v :: vs, _, _, h => EnvR.clr v (EnvR.wipe vs h)
theorem EnvR.init (m : Nat) : ∀ {ds : List D} {vs : List V}, Reps c S I ds vs → EnvR c S I (ds.map some ++ List.replicate m Option.none) (vs.map some ++ List.replicate m Option.none)
  | _, _, .nil => by
    induction m with
    | zero => exact .nil
    | succ m ih => exact .no ih
  | _, _, .cons r rs => .yes r (EnvR.init m rs)
end
/-- an error as it leaves -/
def ErrAt (c : Ctx) (S : Option SA) (I : Hp) (err : D) (cls : Value) (d : Option Addr) : Prop := ∃ n fs ds xs, err = .err n fs ds ∧ cls = .ref (c.cl n) ∧ ErF I d fs xs ∧ Reps c S I ds xs ∧ n ∈ c.es
theorem ErrAt.mono {c : Ctx} {S : Option SA} {I I' : Hp} (e : Same I I') {err : D} {cls : Value} {d : Option Addr} (h : ErrAt c S I err cls d) : ErrAt c S I' err cls d := by
  obtain ⟨n, fs, ds, xs, h1, h2, h3, h4⟩ := h
  exact ⟨n, fs, ds, xs, h1, h2, h3.mono e, h4.1.mono e, h4.2⟩
end DL

set_option Elab.async false
set_option linter.all false
set_option maxRecDepth 100000
set_option maxHeartbeats 4000000
/-! A1: wishes over data (weakest preconditions), and that a reading keeps them: expressions. -/
namespace DL
open PySem PyProof.Rows L2
/-- the most draws that are mixed -/
def LIM : Nat := 2 ^ 20000
/-- a result: a piece of data, or a new thing that nobody holds yet -/
inductive Rs where
  | v (d : D) | n (nd : Nd)
abbrev QD := D → Mu → Prop
abbrev QR := Rs → Mu → Prop
abbrev WE := EnvD → Mu → QD → QD → Prop
abbrev WT := EnvD → Mu → (Bool → Mu → Prop) → QD → Prop
abbrev WA := EnvD → Mu → (List D → Mu → Prop) → QD → Prop
abbrev WO := EnvD → Mu → (Option Int → Mu → Prop) → QD → Prop
abbrev WOp := D → D → Mu → QR → QD → Prop
abbrev WU := D → Mu → QR → QD → Prop
abbrev WC := List D → Mu → QR → QD → Prop
abbrev WM := D → List D → Mu → QR → QD → Prop
/-- a def -/
abbrev WP := List D → Mu → QD → QD → Prop
/-- a new thing is known from now on (false), or a cell (true) -/
def sett : Bool → QD → QR
  | _, Q, .v d, μ => Q d μ
  | false, Q, .n nd, μ => Q nd.frz μ
  | true, Q, .n nd, μ => ∀ p, μ p = Option.none → Q (.cell p) (up μ p nd)
/-! ### wishes -/
def wV (i : Nat) : WE := fun e μ Q _ => match gt e i with
  | some d => Q d μ
  | Option.none => False
def wK (d : D) : WE := fun _ μ Q _ => Q d μ
def wOp (m : Bool) (o : WOp) (a b : WE) : WE := fun e μ Q X => a e μ (fun x μ1 => b e μ1 (fun y μ2 => o x y μ2 (sett m Q) X) X) X
def wUn (m : Bool) (o : WU) (a : WE) : WE := fun e μ Q X => a e μ (fun x μ1 => o x μ1 (sett m Q) X) X
def waNil : WA := fun _ μ Q _ => Q [] μ
def waCons (a : WE) (r : WA) : WA := fun e μ Q X => a e μ (fun x μ1 => r e μ1 (fun xs μ2 => Q (x :: xs) μ2) X) X
def wTup (a : WA) : WE := fun e μ Q X => a e μ (fun xs μ1 => xs.length ≤ sizeLine ∧ Q (.tup xs) μ1) X
def wLst (m : Bool) (a : WA) : WE := fun e μ Q X => a e μ (fun xs μ1 => xs.length ≤ sizeLine ∧ sett m Q (.n (.list xs)) μ1) X
def wCb (m : Bool) (o : WC) (a : WA) : WE := fun e μ Q X => a e μ (fun xs μ1 => o xs μ1 (sett m Q) X) X
def wBm (m : Bool) (o : WM) (r : WE) (a : WA) : WE := fun e μ Q X => r e μ (fun x μ1 => a e μ1 (fun xs μ2 => o x xs μ2 (sett m Q) X) X) X
/-- tests -/
def wTst (a : WE) : WT := fun e μ Q X => a e μ (fun x μ1 => match x with
  | .bool b => Q b μ1
  | _ => False) X
def wNotT (t : WT) : WT := fun e μ Q X => t e μ (fun b μ1 => Q (!b) μ1) X
def wAndT (t u : WT) : WT := fun e μ Q X => t e μ (fun b μ1 => if b = true then u e μ1 Q X else Q false μ1) X
def wOrT (t u : WT) : WT := fun e μ Q X => t e μ (fun b μ1 => if b = true then Q true μ1 else u e μ1 Q X) X
def wIf (t : WT) (a b : WE) : WE := fun e μ Q X => t e μ (fun k μ1 => if k = true then a e μ1 Q X else b e μ1 Q X) X
def wAnd (a b : WE) : WE := fun e μ Q X => a e μ (fun x μ1 => match x with
  | .bool k => if k = true then b e μ1 Q X else Q (.bool false) μ1
  | _ => False) X
def wOr (a b : WE) : WE := fun e μ Q X => a e μ (fun x μ1 => match x with
  | .bool k => if k = true then Q (.bool true) μ1 else b e μ1 Q X
  | _ => False) X
def wNot (a : WE) : WE := fun e μ Q X => a e μ (fun x μ1 => match x with
  | .bool k => Q (.bool (!k)) μ1
  | _ => False) X
def woNone : WO := fun _ μ Q _ => Q Option.none μ
def woSome (a : WE) : WO := fun e μ Q X => a e μ (fun x μ1 => match x with
  | .int i => Q (some i) μ1
  | _ => False) X
def wSl (m : Bool) (o : D → Option Int → Option Int → Mu → QR → QD → Prop) (a : WE) (l h : WO) : WE := fun e μ Q X => a e μ (fun x μ1 => l e μ1 (fun lo μ2 => h e μ2 (fun hi μ3 => o x lo hi μ3 (sett m Q) X) X) X) X
/-! ### readings -/
section
variable (c : Ctx) (W : WX) (S : Option SA) (F : Hp) (n : Nat) (I : Hp)
def RsR (S : Option SA) (F : Hp) (I : Hp) (μ : Mu) (H : Hp) : Rs → V → Prop
  | .v d, v => Rep c S I d v
  | .n nd, v => ∃ l o, v = .ref l ∧ H l = some o ∧ NdR c S I nd o ∧ I l = Option.none ∧ μ l = Option.none ∧ (∀ a, S = some a → ¬ Cell a l) ∧ F l = Option.none
def QV (Qd : QD) (Q : VK) : Prop := ∀ d μ' v I' H', Qd d μ' → Same I I' → Wd c S F n I' μ' H' → Rep c S I' d v → Q v H'
def QVR (Qd : QR) (Q : VK) : Prop := ∀ r μ' v I' H', Qd r μ' → Same I I' → Wd c S F n I' μ' H' → RsR c S F I' μ' H' r v → Q v H'
def QVA (Qd : List D → Mu → Prop) (Q : List V → Hp → Prop) : Prop := ∀ ds μ' vs I' H', Qd ds μ' → Same I I' → Wd c S F n I' μ' H' → Reps c S I' ds vs → Q vs H'
def QVB {α : Type} (Qd : α → Mu → Prop) (Q : α → Hp → Prop) : Prop := ∀ b μ' I' H', Qd b μ' → Same I I' → Wd c S F n I' μ' H' → Q b H'
def XV (σ : L2.St) (Xd : QD) : Prop := ∀ d μ' cls dx I' H', Xd d μ' → Same I I' → Wd c S F n I' μ' H' → ErrAt c S I' d cls dx → W cls dx σ H'
end
section
variable {c : Ctx} {W : WX} {S : Option SA} {F : Hp} {n n' : Nat} {I I' : Hp} {σ : L2.St} {Xd : QD}
theorem XV.mono (h : XV c W S F n I σ Xd) (e : n' ≤ n) (s : Same I I') : XV c W S F n' I' σ Xd := fun d μ' cls dx I2 H2 p s2 w er => h d μ' cls dx I2 H2 p (s.trans s2) (w.up e) er
theorem QV.mono {Qd : QD} {Q : VK} (h : QV c S F n I Qd Q) (e : n' ≤ n) (s : Same I I') : QV c S F n' I' Qd Q := fun d μ' v I2 H2 p s2 w er => h d μ' v I2 H2 p (s.trans s2) (w.up e) er
theorem QVB.mono {α : Type} {Qd : α → Mu → Prop} {Q : α → Hp → Prop} (h : QVB c S F n I Qd Q) (e : n' ≤ n) (s : Same I I') : QVB c S F n' I' Qd Q := fun d μ' I2 H2 p s2 w => h d μ' I2 H2 p (s.trans s2) (w.up e)
theorem RsR.new {μ : Mu} {H : Hp} {p : Addr} {u : HO} {nd : Nd} (w : Wd c S F n I μ H) (h : H p = Option.none) (r : NdR c S I nd u) : Wd c S F n I μ (upd H p u) ∧ RsR c S F I μ (upd H p u) (.n nd) (.ref p) :=
  ⟨w.frame h, p, u, rfl, upd_same, r, (w.fresh h).1, (w.fresh h).2, w.no_cell h, w.nf h⟩
/-- a result settles -/
theorem settle {μ : Mu} {H : Hp} {r : Rs} {v : V} {m : Bool} {Q : QD} (w : Wd c S F n I μ H) (hr : RsR c S F I μ H r v) (h : sett m Q r μ) : ∃ d μ' I', Q d μ' ∧ Same I I' ∧ Wd c S F n I' μ' H ∧ Rep c S I' d v := by
  cases r with
  | v d => exact ⟨d, μ, I, (by cases m <;> exact h), Same.refl I, w, hr⟩
  | n nd =>
    obtain ⟨l, o, rfl, hl, nr, hi, hm, hc, hf⟩ := hr
    cases m with
    | false =>
      have sm : Same I (upd I l o) := same_new hi
      exact ⟨nd.frz, μ, upd I l o, h, sm, w.know hl hi hm hc hf nr.tx.tb, (nr.mono sm).frz upd_same⟩
    | true => exact ⟨.cell l, up μ l nd, I, h l hm, Same.refl I, w.own nr hl hi hc hf, .cell⟩
theorem QV.sett {m : Bool} {Qd : QD} {Q : VK} (h : QV c S F n I Qd Q) : QVR c S F n I (sett m Qd) Q := fun r μ' v I' H' p s w rr => by
  obtain ⟨d, μ2, I2, q, s2, w2, r2⟩ := settle w rr p
  exact h d μ2 v I2 H' q (s.trans s2) w2 r2
end
section
variable (c : Ctx) (W : WX) (k : Nat)
def ldE (w : WE) : TE := fun σ H Q => ∃ S F n I μ e Qd Xd, n + k ≤ LIM ∧ EnvR c S I e σ ∧ Wd c S F n I μ H ∧ w e μ Qd Xd ∧ QV c S F (n + k) I Qd Q ∧ XV c W S F (n + k) I σ Xd
def ldT (w : WT) : TT := fun σ H Q => ∃ S F n I μ e Qd Xd, n + k ≤ LIM ∧ EnvR c S I e σ ∧ Wd c S F n I μ H ∧ w e μ Qd Xd ∧ QVB c S F (n + k) I Qd Q ∧ XV c W S F (n + k) I σ Xd
def ldA (w : WA) : TA := fun σ H Q => ∃ S F n I μ e Qd Xd, n + k ≤ LIM ∧ EnvR c S I e σ ∧ Wd c S F n I μ H ∧ w e μ Qd Xd ∧ QVA c S F (n + k) I Qd Q ∧ XV c W S F (n + k) I σ Xd
def ldO (w : WO) : TO := fun σ H Q => ∃ S F n I μ e Qd Xd, n + k ≤ LIM ∧ EnvR c S I e σ ∧ Wd c S F n I μ H ∧ w e μ Qd Xd ∧ QVB c S F (n + k) I Qd Q ∧ XV c W S F (n + k) I σ Xd
/-- operations by values -/
def ld2 (o : WOp) (σ : L2.St) : R2 := fun x y H Q => ∃ S F n I μ dx dy Qd Xd, n + k ≤ LIM ∧ Wd c S F n I μ H ∧ Rep c S I dx x ∧ Rep c S I dy y ∧ o dx dy μ Qd Xd ∧ QVR c S F (n + k) I Qd Q ∧ XV c W S F (n + k) I σ Xd
def ld1 (o : WU) (σ : L2.St) : V → Hp → VK → Prop := fun x H Q => ∃ S F n I μ dx Qd Xd, n + k ≤ LIM ∧ Wd c S F n I μ H ∧ Rep c S I dx x ∧ o dx μ Qd Xd ∧ QVR c S F (n + k) I Qd Q ∧ XV c W S F (n + k) I σ Xd
def ldC (o : WC) (σ : L2.St) : List V → Hp → VK → Prop := fun xs H Q => ∃ S F n I μ ds Qd Xd, n + k ≤ LIM ∧ Wd c S F n I μ H ∧ Reps c S I ds xs ∧ o ds μ Qd Xd ∧ QVR c S F (n + k) I Qd Q ∧ XV c W S F (n + k) I σ Xd
def ldM (o : WM) (σ : L2.St) : V → List V → Hp → VK → Prop := fun x xs H Q => ∃ S F n I μ d ds Qd Xd, n + k ≤ LIM ∧ Wd c S F n I μ H ∧ Rep c S I d x ∧ Reps c S I ds xs ∧ o d ds μ Qd Xd ∧ QVR c S F (n + k) I Qd Q ∧ XV c W S F (n + k) I σ Xd
def ldSl (o : D → Option Int → Option Int → Mu → QR → QD → Prop) (σ : L2.St) : V → Option Int → Option Int → Hp → VK → Prop := fun x lo hi H Q => ∃ S F n I μ d Qd Xd, n + k ≤ LIM ∧ Wd c S F n I μ H ∧ Rep c S I d x ∧ o d lo hi μ Qd Xd ∧ QVR c S F (n + k) I Qd Q ∧ XV c W S F (n + k) I σ Xd
end
theorem lim1 {n a b : Nat} (h : n + (a + b) ≤ LIM) : n + a ≤ LIM := by omega
theorem lim2 {n a b : Nat} (h : n + (a + b) ≤ LIM) : n + a + b ≤ LIM := by omega
/-! ### judgements -/
section
variable (X : Cx) (c : Ctx) (W : WX) (k : Nat)
abbrev GE (ex : Expr) (w : WE) : Prop := PE X ex (ldE c W k w)
abbrev GT (ex : Expr) (w : WT) : Prop := PT X ex (ldT c W k w)
abbrev GW (ex : Expr) (w : WT) : Prop := PW X ex (ldT c W k w)
abbrev GA (es : List Expr) (w : WA) : Prop := PA X es (ldA c W k w)
abbrev GO (ex : Option Expr) (w : WO) : Prop := PO X ex (ldO c W k w)
/-- an operation that keeps a wish -/
def Op2 (f : Value → Value → Sem Value) (o : WOp) : Prop := ∀ (pins : List (Addr × Obj)) (s : Shared) (σ : L2.St) (H : Hp) (x y : V) (v u : Value) (Q : VK), Inv X pins σ H s → RelV x v → RelV y u → ld2 c W k o σ x y H Q → wpAny (model X.prog X.w) X.A (f v u) (EP X pins σ Q) X.xe s
def Op1 (f : Value → Sem Value) (o : WU) : Prop := ∀ (pins : List (Addr × Obj)) (s : Shared) (σ : L2.St) (H : Hp) (x : V) (v : Value) (Q : VK), Inv X pins σ H s → RelV x v → ld1 c W k o σ x H Q → wpAny (model X.prog X.w) X.A (f v) (EP X pins σ Q) X.xe s
end
theorem _root_.L2.PE.imp {X : Cx} {ex : Expr} {t t' : TE} (h : PE X ex t) (i : ∀ σ H Q, t' σ H Q → t σ H Q) : PE X ex t' := ⟨fun pins s σ H Q J z => h.run pins s σ H Q J (i σ H Q z)⟩
theorem _root_.L2.PT.imp {X : Cx} {ex : Expr} {t t' : TT} (h : PT X ex t) (i : ∀ σ H Q, t' σ H Q → t σ H Q) : PT X ex t' := ⟨fun pins s σ H Q J z => h.run pins s σ H Q J (i σ H Q z)⟩
theorem _root_.L2.PW.imp {X : Cx} {ex : Expr} {t t' : TT} (h : PW X ex t) (i : ∀ σ H Q, t' σ H Q → t σ H Q) : PW X ex t' := ⟨fun wh pins s σ H Q J z => h.run wh pins s σ H Q J (i σ H Q z)⟩
theorem _root_.L2.PA.imp {X : Cx} {es : List Expr} {t t' : TA} (h : PA X es t) (i : ∀ σ H Q, t' σ H Q → t σ H Q) : PA X es t' := ⟨fun pos pins s σ H Q J z => h.run pos pins s σ H Q J (i σ H Q z)⟩
section
variable {X : Cx} {c : Ctx} {W : WX} {k ka kb kc ko : Nat} {a b d : Expr} {wa wb : WE} {o : WOp} {m : Bool} {pos : Pos} {es : List Expr} {wr : WA} {wt wu : WT}
theorem op2_of {f : Value → Value → Sem Value} {r : R2} (h : OpR X f r) (i : ∀ σ x y H Q, ld2 c W k o σ x y H Q → r x y H Q) : Op2 X c W k f o := fun pins s σ H x y v u Q J rx ry z => h pins s σ H x y v u Q J rx ry (i σ x y H Q z)
/-- two expressions in a row, as wishes -/
theorem ld_two {o : WOp} {σ : L2.St} {H : Hp} {Q : VK} (h : ldE c W (ka + (kb + ko)) (wOp m o wa wb) σ H Q) : ldE c W ka wa σ H fun x H1 => ldE c W kb wb σ H1 fun y H2 => ld2 c W ko o σ x y H2 Q := by
  obtain ⟨S, F, n, I, μ, e, Qd, Xd, hl, he, hw, h, q, x⟩ := h
  refine ⟨S, F, n, I, μ, e, _, Xd, by omega, he, hw, h, fun da μ1 va I1 H1 pa s1 w1 ra => ?_, x.mono (by omega) (Same.refl I)⟩
  refine ⟨S, F, n + ka, I1, μ1, e, _, Xd, by omega, he.mono s1, w1, pa, fun db μ2 vb I2 H2 pb s2 w2 rb => ?_, x.mono (by omega) s1⟩
  exact ⟨S, F, n + ka + kb, I2, μ2, da, db, _, Xd, by omega, w2, ra.mono s2, rb, pb, (q.mono (by omega) (s1.trans s2)).sett, x.mono (by omega) (s1.trans s2)⟩
theorem g_op {op : Operator} (ho : Op2 X c W ko (binaryOp op) o) (ha : GE X c W ka a wa) (hb : GE X c W kb b wb) : GE X c W (ka + (kb + ko)) (.BinOp a op b pos) (wOp m o wa wb) :=
  ⟨fun pins s σ H Q J h => wpAny_BinOp (binT ha hb J (ld_two h) fun v u s2 x y H2 I2 rx ry q => ho pins s2 σ H2 x y v u Q I2 rx ry q)⟩
theorem ld_un {o : WU} {σ : L2.St} {H : Hp} {Q : VK} (h : ldE c W (ka + ko) (wUn m o wa) σ H Q) : ldE c W ka wa σ H fun x H1 => ld1 c W ko o σ x H1 Q := by
  obtain ⟨S, F, n, I, μ, e, Qd, Xd, hl, he, hw, h, q, x⟩ := h
  refine ⟨S, F, n, I, μ, e, _, Xd, by omega, he, hw, h, fun da μ1 va I1 H1 pa s1 w1 ra => ?_, x.mono (by omega) (Same.refl I)⟩
  exact ⟨S, F, n + ka, I1, μ1, da, _, Xd, by omega, w1, ra, pa, (q.mono (by omega) s1).sett, x.mono (by omega) s1⟩
theorem g_un {op : UnaryOp} {o : WU} (ho : Op1 X c W ko (unaryOp op) o) (ha : GE X c W ka a wa) : GE X c W (ka + ko) (.UnaryOp op a pos) (wUn m o wa) :=
  ⟨fun pins s σ H Q J h => UnaryOp_ (thn (ha.run pins s σ H _ J (ld_un h)) fun v s1 ⟨x, H1, I1, r1, q1⟩ => ho pins s1 σ H1 x v Q I1 r1 q1)⟩
theorem g_cmp {op : CmpOp} (ho : Op2 X c W ko (compareOp op) o) (ha : GE X c W ka a wa) (hb : GE X c W kb b wb) (hm : behindInMarks op b = false) : GE X c W (ka + (kb + ko)) (.Compare a [op] [b] pos) (wOp m o wa wb) :=
  ⟨fun pins s σ H Q J h => wpAny_Compare1 (binT ha hb J (ld_two h) fun v u s2 x y H2 I2 rx ry q => ho pins s2 σ H2 x y v u Q I2 rx ry q) hm⟩
/-- a value as a test -/
theorem ld_tst {σ : L2.St} {H : Hp} {Q : Bool → Hp → Prop} (h : ldT c W k (wTst wa) σ H Q) : ldE c W k wa σ H fun x H' => ∃ k, x = .bl k ∧ Q k H' := by
  obtain ⟨S, F, n, I, μ, e, Qd, Xd, hl, he, hw, h, q, x⟩ := h
  refine ⟨S, F, n, I, μ, e, _, Xd, hl, he, hw, h, fun da μ1 va I1 H1 pa s1 w1 ra => ?_, x⟩
  cases ra <;> first | exact False.elim pa | exact ⟨_, rfl, q _ μ1 I1 H1 pa s1 w1⟩
theorem g_tcmp {op : CmpOp} (ho : Op2 X c W ko (compareOp op) o) (ha : GE X c W ka a wa) (hb : GE X c W kb b wb) (hm : behindInMarks op b = false) : GT X c W (ka + (kb + ko)) (.Compare a [op] [b] pos) (wTst (wOp false o wa wb)) := by
  refine ⟨fun pins s σ H Q J h => ?_⟩
  refine wpAny_isTrue_Compare1 (thn (ha.run pins s σ H _ J (ld_two (ld_tst h))) fun v s1 ⟨x, H1, I1, r1, q1⟩ => thn (hb.run pins s1 σ H1 _ I1 q1) fun u s2 ⟨y, H2, I2, r2, q2⟩ =>
    thn (ho pins s2 σ H2 x y v u _ I2 r1 r2 q2) fun cc s3 ⟨z, H3, I3, r3, k, e, q3⟩ => ?_) hm
  subst e
  cases r3
  exact wpAny_truthy_bool ⟨H3, I3, q3⟩
theorem g_tval (ha : GE X c W k a wa) (he : ∀ whole, isTrue a X.env whole = (do let v ← whole; standAt a.pos; holding [v] (truthy v)) := by intro _; rfl) : GT X c W k a (wTst wa) := (pt_val ha he).imp fun σ H Q h => ld_tst h
theorem g_tnot (ha : GT X c W k a wt) : GT X c W k (.UnaryOp .Not a pos) (wNotT wt) := (pt_not ha).imp fun σ H Q h => by
  obtain ⟨S, F, n, I, μ, e, Qd, Xd, hl, he, hw, h, q, x⟩ := h
  exact ⟨S, F, n, I, μ, e, _, Xd, hl, he, hw, h, fun b μ1 I1 H1 pb s1 w1 => q _ μ1 I1 H1 pb s1 w1, x⟩
theorem g_wand1 (ha : GT X c W k a wt) : GW X c W k (.BoolOp .And [a] pos) wt := pw_and1 ha
theorem g_wor1 (ha : GT X c W k a wt) : GW X c W k (.BoolOp .Or [a] pos) wt := pw_or1 ha
theorem ite_b {b : Bool} {A B A' B' : Prop} (h : if b = true then A else B) (h1 : b = true → A → A') (h2 : b = false → B → B') : if b = true then A' else B' := by
  cases b with
  | true => exact h1 rfl h
  | false => exact h2 rfl h
theorem g_wand {rest : List Expr} (ha : GT X c W ka a wt) (hb : GW X c W kb (.BoolOp .And (b :: rest) pos) wu) : GW X c W (ka + kb) (.BoolOp .And (a :: b :: rest) pos) (wAndT wt wu) := (pw_and ha hb).imp fun σ H Q h => by
  obtain ⟨S, F, n, I, μ, e, Qd, Xd, hl, he, hw, h, q, x⟩ := h
  refine ⟨S, F, n, I, μ, e, _, Xd, by omega, he, hw, h, fun b μ1 I1 H1 pb s1 w1 => ?_, x.mono (by omega) (Same.refl I)⟩
  exact ite_b pb (fun _ h => ⟨S, F, n + ka, I1, μ1, e, Qd, Xd, by omega, he.mono s1, w1, h, q.mono (by omega) s1, x.mono (by omega) s1⟩) fun _ h => q _ μ1 I1 H1 h s1 (w1.up (by omega))
theorem g_wor {rest : List Expr} (ha : GT X c W ka a wt) (hb : GW X c W kb (.BoolOp .Or (b :: rest) pos) wu) : GW X c W (ka + kb) (.BoolOp .Or (a :: b :: rest) pos) (wOrT wt wu) := (pw_or ha hb).imp fun σ H Q h => by
  obtain ⟨S, F, n, I, μ, e, Qd, Xd, hl, he, hw, h, q, x⟩ := h
  refine ⟨S, F, n, I, μ, e, _, Xd, by omega, he, hw, h, fun b μ1 I1 H1 pb s1 w1 => ?_, x.mono (by omega) (Same.refl I)⟩
  exact ite_b pb (fun _ h => q _ μ1 I1 H1 h s1 (w1.up (by omega))) fun _ h => ⟨S, F, n + ka, I1, μ1, e, Qd, Xd, by omega, he.mono s1, w1, h, q.mono (by omega) s1, x.mono (by omega) s1⟩
theorem g_pt (h : GW X c W k a wt) : GT X c W k a wt := h.pt
/-! values by and, or, not, if -/
theorem g_one {op} (h : GE X c W k a wa) : GE X c W k (.BoolOp op [a] pos) wa := pe_one h
theorem g_and {rest : List Expr} (ha : GE X c W ka a wa) (hb : GE X c W kb (.BoolOp .And (b :: rest) pos) wb) : GE X c W (ka + kb) (.BoolOp .And (a :: b :: rest) pos) (wAnd wa wb) := L2.PE.imp (pe_and ha hb) fun σ H Q h => by
  obtain ⟨S, F, n, I, μ, e, Qd, Xd, hl, he, hw, h, q, x⟩ := h
  refine ⟨S, F, n, I, μ, e, _, Xd, by omega, he, hw, h, fun da μ1 va I1 H1 pa s1 w1 ra => ?_, x.mono (by omega) (Same.refl I)⟩
  cases ra <;> first | exact False.elim pa | refine ⟨_, rfl, ite_b pa (fun _ h => ⟨S, F, n + ka, I1, μ1, e, Qd, Xd, by omega, he.mono s1, w1, h, q.mono (by omega) s1, x.mono (by omega) s1⟩) fun _ h => q _ μ1 _ I1 H1 h s1 (w1.up (by omega)) .bool⟩
theorem g_or {rest : List Expr} (ha : GE X c W ka a wa) (hb : GE X c W kb (.BoolOp .Or (b :: rest) pos) wb) : GE X c W (ka + kb) (.BoolOp .Or (a :: b :: rest) pos) (wOr wa wb) := L2.PE.imp (pe_or ha hb) fun σ H Q h => by
  obtain ⟨S, F, n, I, μ, e, Qd, Xd, hl, he, hw, h, q, x⟩ := h
  refine ⟨S, F, n, I, μ, e, _, Xd, by omega, he, hw, h, fun da μ1 va I1 H1 pa s1 w1 ra => ?_, x.mono (by omega) (Same.refl I)⟩
  cases ra <;> first | exact False.elim pa | refine ⟨_, rfl, ite_b pa (fun _ h => q _ μ1 _ I1 H1 h s1 (w1.up (by omega)) .bool) fun _ h => ⟨S, F, n + ka, I1, μ1, e, Qd, Xd, by omega, he.mono s1, w1, h, q.mono (by omega) s1, x.mono (by omega) s1⟩⟩
theorem g_not (ha : GE X c W k a wa) : GE X c W k (.UnaryOp .Not a pos) (wNot wa) := L2.PE.imp (pe_not ha) fun σ H Q h => by
  obtain ⟨S, F, n, I, μ, e, Qd, Xd, hl, he, hw, h, q, x⟩ := h
  refine ⟨S, F, n, I, μ, e, _, Xd, by omega, he, hw, h, fun da μ1 va I1 H1 pa s1 w1 ra => ?_, x⟩
  cases ra <;> first | exact False.elim pa | exact ⟨_, rfl, q _ μ1 _ I1 H1 pa s1 w1 .bool⟩
theorem g_if (hc : GT X c W kc d wt) (ha : GE X c W ka a wa) (hb : GE X c W kb b wb) : GE X c W (kc + (ka + kb)) (.IfExp d a b pos) (wIf wt wa wb) := L2.PE.imp (pe_ifExp hc ha hb) fun σ H Q h => by
  obtain ⟨S, F, n, I, μ, e, Qd, Xd, hl, he, hw, h, q, x⟩ := h
  refine ⟨S, F, n, I, μ, e, _, Xd, by omega, he, hw, h, fun b μ1 I1 H1 pb s1 w1 => ?_, x.mono (by omega) (Same.refl I)⟩
  exact ite_b pb (fun _ h => ⟨S, F, n + kc, I1, μ1, e, Qd, Xd, by omega, he.mono s1, w1, h, q.mono (by omega) s1, x.mono (by omega) s1⟩) fun _ h => ⟨S, F, n + kc, I1, μ1, e, Qd, Xd, by omega, he.mono s1, w1, h, q.mono (by omega) s1, x.mono (by omega) s1⟩
/-! names, constants -/
theorem g_var {i : Nat} {x : Str} (h : PE X (.Name x pos) (tVar i)) : GE X c W 0 (.Name x pos) (wV i) := h.imp fun σ H Q h => by
  obtain ⟨S, F, n, I, μ, e, Qd, Xd, hl, he, hw, h, q, x⟩ := h
  unfold wV at h
  cases hg : gt e i with
  | none =>
    rw [hg] at h
    exact h.elim
  | some d =>
    rw [hg] at h
    obtain ⟨v, h1, h2⟩ := he.get hg
    exact ⟨v, h1, q d μ v I H h (Same.refl I) hw h2⟩
theorem g_con {ex : Expr} {v : V} {d : D} (h : PE X ex (tC v)) (r : ∀ S I, Rep c S I d v) : GE X c W 0 ex (wK d) := h.imp fun σ H Q h => by
  obtain ⟨S, F, n, I, μ, e, Qd, Xd, hl, he, hw, h, q, x⟩ := h
  exact q d μ v I H h (Same.refl I) hw (r S I)
theorem g_int {i j p} : GE X c W 0 (.Constant (.int i) j p) (wK (.int i)) := g_con pe_int fun _ _ => .int
theorem g_bl {i j p} : GE X c W 0 (.Constant (.bool i) j p) (wK (.bool i)) := g_con pe_bl fun _ _ => .bool
theorem g_str {i j p} : GE X c W 0 (.Constant (.str i) j p) (wK (.str i)) := g_con pe_str fun _ _ => .str
theorem g_non {j p} : GE X c W 0 (.Constant .none j p) (wK .none) := g_con pe_non fun _ _ => .none
/-! arguments -/
theorem ga_nil : GA X c W 0 [] waNil := L2.PA.imp pa_nil fun σ H Q h => by
  obtain ⟨S, F, n, I, μ, e, Qd, Xd, hl, he, hw, h, q, x⟩ := h
  exact q [] μ [] I H h (Same.refl I) hw .nil
theorem ld_cons {σ : L2.St} {H : Hp} {Q : List V → Hp → Prop} (h : ldA c W (ka + kb) (waCons wa wr) σ H Q) : tCons (ldE c W ka wa) (ldA c W kb wr) σ H Q := by
  obtain ⟨S, F, n, I, μ, e, Qd, Xd, hl, he, hw, h, q, x⟩ := h
  refine ⟨S, F, n, I, μ, e, _, Xd, by omega, he, hw, h, fun da μ1 va I1 H1 pa s1 w1 ra => ?_, x.mono (by omega) (Same.refl I)⟩
  refine ⟨S, F, n + ka, I1, μ1, e, _, Xd, by omega, he.mono s1, w1, pa, fun ds μ2 vs I2 H2 pb s2 w2 rb => ?_, x.mono (by omega) s1⟩
  exact q _ μ2 _ I2 H2 pb (s1.trans s2) (w2.up (by omega)) (.cons (ra.mono s2) rb)
theorem ga_cons (ha : GE X c W ka a wa) (hr : GA X c W kb es wr) (hs : starEach (a :: es) X.env = (false, eval a X.env) :: starEach es X.env := by rfl) : GA X c W (ka + kb) (a :: es) (waCons wa wr) := L2.PA.imp (pa_cons ha hr hs) fun σ H Q h => ld_cons h
/-! displays -/
theorem g_tup {x1} (h : GA X c W k es wr) : GE X c W k (.Tuple es x1 pos) (wTup wr) := L2.PE.imp (pe_tup h) fun σ H Q h => by
  obtain ⟨S, F, n, I, μ, e, Qd, Xd, hl, he, hw, h, q, x⟩ := h
  refine ⟨S, F, n, I, μ, e, _, Xd, hl, he, hw, h, fun ds μ1 vs I1 H1 ⟨hz, pa⟩ s1 w1 ra => ?_, x⟩
  refine ⟨by rw [← ra.length]; exact hz, fun p hp => ?_⟩
  have sm : Same I1 (upd I1 p (.tup vs)) := same_new (w1.fresh hp).1
  exact q _ μ1 _ _ _ pa (s1.trans sm) (w1.new hp) (.tup (.inl upd_same) (ra.mono sm))
theorem g_lst (h : GA X c W k es wr) : GE X c W k (.List es pos) (wLst m wr) := L2.PE.imp (pe_lst h) fun σ H Q h => by
  obtain ⟨S, F, n, I, μ, e, Qd, Xd, hl, he, hw, h, q, x⟩ := h
  refine ⟨S, F, n, I, μ, e, _, Xd, hl, he, hw, h, fun ds μ1 vs I1 H1 ⟨hz, pa⟩ s1 w1 ra => ?_, x⟩
  refine ⟨by rw [← ra.length]; exact hz, fun p hp => ?_⟩
  obtain ⟨w2, r2⟩ := RsR.new w1 hp (.list ra)
  exact (q.sett (m := m)) _ μ1 _ _ _ pa s1 w2 r2
/-! built-ins called by their names -/
theorem ld_cb {o : WC} {σ : L2.St} {H : Hp} {Q : VK} (h : ldE c W (ka + ko) (wCb m o wr) σ H Q) : ldA c W ka wr σ H fun xs H1 => ldC c W ko o σ xs H1 Q := by
  obtain ⟨S, F, n, I, μ, e, Qd, Xd, hl, he, hw, h, q, x⟩ := h
  refine ⟨S, F, n, I, μ, e, _, Xd, by omega, he, hw, h, fun ds μ1 vs I1 H1 pa s1 w1 ra => ?_, x.mono (by omega) (Same.refl I)⟩
  exact ⟨S, F, n + ka, I1, μ1, ds, _, Xd, by omega, w1, ra, pa, (q.mono (by omega) s1).sett, x.mono (by omega) s1⟩
/-- a built-in that keeps a wish -/
def CbW (X : Cx) (c : Ctx) (f : Value) (o : WC) : Prop := ∃ r, CallR X f r ∧ ∀ W σ xs H Q, ldC c W 0 o σ xs H Q → r xs H Q
theorem g_cb {x : Str} {id : String} {p : Pos} {o : WC} (hc : CbW X c (.builtin id) o) (hg : Gl X x) (hm : X.mg x = none) (hv : bootBuiltins x = some (.builtin id)) (ha : GA X c W k (a :: es) wr) (hn : x ≠ "__name__" := by decide) (hdb : (x == ("__debug__" : Str)) = false := by decide)
    (he : starEach (a :: es) X.env = (false, eval a X.env) :: starEach es X.env := by rfl) (hpl : (backTo pos (starEach es X.env)).any (·.1) = false := by rfl) : GE X c W (k + 0) (.Call (.Name x p) (a :: es) [] pos) (wCb m o wr) := by
  obtain ⟨r, h1, h2⟩ := hc
  refine L2.PE.imp (pe_callB h1 hg hm hv ha hn hdb he hpl) fun σ H Q h => ?_
  have h3 := ld_cb h
  obtain ⟨S, F, n, I, μ, e, Qd, Xd, hl, he, hw, h, q, x⟩ := h3
  exact ⟨S, F, n, I, μ, e, Qd, Xd, hl, he, hw, h, fun ds μ' vs I' H' p s w r => h2 W σ vs H' Q (q ds μ' vs I' H' p s w r), x⟩
theorem g_cty {x : Str} {T : String} {p : Pos} {o : WC} (hc : CbW X c (.type T) o) (hg : Gl X x) (hm : X.mg x = none) (hv : bootBuiltins x = some (.type T)) (ha : GA X c W k (a :: es) wr) (hn : x ≠ "__name__" := by decide) (hdb : (x == ("__debug__" : Str)) = false := by decide)
    (he : starEach (a :: es) X.env = (false, eval a X.env) :: starEach es X.env := by rfl) (hpl : (backTo pos (starEach es X.env)).any (·.1) = false := by rfl) : GE X c W (k + 0) (.Call (.Name x p) (a :: es) [] pos) (wCb m o wr) := by
  obtain ⟨r, h1, h2⟩ := hc
  refine L2.PE.imp (pe_callTy h1 hg hm hv ha hn hdb he hpl) fun σ H Q h => ?_
  have h3 := ld_cb h
  obtain ⟨S, F, n, I, μ, e, Qd, Xd, hl, he, hw, h, q, x⟩ := h3
  exact ⟨S, F, n, I, μ, e, Qd, Xd, hl, he, hw, h, fun ds μ' vs I' H' p s w r => h2 W σ vs H' Q (q ds μ' vs I' H' p s w r), x⟩
/-! slices -/
theorem go_none : GO X c W 0 none woNone := ⟨fun pins s σ H Q J h => po_none.run pins s σ H Q J (by
  obtain ⟨S, F, n, I, μ, e, Qd, Xd, hl, he, hw, h, q, x⟩ := h
  exact q _ μ I H h (Same.refl I) hw)⟩
theorem go_some (ha : GE X c W k a wa) : GO X c W k (some a) (woSome wa) := ⟨fun pins s σ H Q J h => (po_some ha).run pins s σ H Q J (by
  obtain ⟨S, F, n, I, μ, e, Qd, Xd, hl, he, hw, h, q, x⟩ := h
  refine ⟨S, F, n, I, μ, e, _, Xd, hl, he, hw, h, fun da μ1 va I1 H1 pa s1 w1 ra => ?_, x⟩
  cases ra <;> first | exact False.elim pa | exact ⟨_, rfl, q _ μ1 I1 H1 pa s1 w1⟩)⟩
def SlW (X : Cx) (c : Ctx) (o : D → Option Int → Option Int → Mu → QR → QD → Prop) : Prop := ∃ r, SlR X r ∧ ∀ W σ x lo hi H Q, ldSl c W 0 o σ x lo hi H Q → r x lo hi H Q
theorem g_sl {lo hi : Option Expr} {wl wh : WO} {p2 : Pos} {o : D → Option Int → Option Int → Mu → QR → QD → Prop} (ho : SlW X c o) (ha : GE X c W k a wa) (hl : GO X c W ka lo wl) (hh : GO X c W kb hi wh) : GE X c W (k + (ka + kb)) (.Subscript a (.Slice lo hi none p2) pos) (wSl m o wa wl wh) := by
  obtain ⟨r, h1, h2⟩ := ho
  refine L2.PE.imp (pe_slice h1 ha hl hh) fun σ H Q h => ?_
  obtain ⟨S, F, n, I, μ, e, Qd, Xd, hl, he, hw, h, q, x⟩ := h
  refine ⟨S, F, n, I, μ, e, _, Xd, by omega, he, hw, h, fun da μ1 va I1 H1 pa s1 w1 ra => ?_, x.mono (by omega) (Same.refl I)⟩
  refine ⟨S, F, n + k, I1, μ1, e, _, Xd, by omega, he.mono s1, w1, pa, fun lo μ2 I2 H2 pb s2 w2 => ?_, x.mono (by omega) s1⟩
  refine ⟨S, F, n + k + ka, I2, μ2, e, _, Xd, by omega, he.mono (s1.trans s2), w2, pb, fun hi μ3 I3 H3 pc s3 w3 => ?_, x.mono (by omega) (s1.trans s2)⟩
  exact h2 W σ _ _ _ _ _ ⟨S, F, n + k + ka + kb, I3, μ3, da, _, Xd, by omega, w3, ra.mono (s2.trans s3), pc, (q.mono (by omega) ((s1.trans s2).trans s3)).sett, x.mono (by omega) ((s1.trans s2).trans s3)⟩
/-- less wished is less to be kept -/
theorem g_le (h : GE X c W ka a wa) (hk : ka ≤ kb) : GE X c W kb a wa := L2.PE.imp h fun σ H Q h => by
  obtain ⟨S, F, n, I, μ, e, Qd, Xd, hl, he, hw, h, q, x⟩ := h
  exact ⟨S, F, n, I, μ, e, Qd, Xd, by omega, he, hw, h, q.mono (by omega) (Same.refl I), x.mono (by omega) (Same.refl I)⟩
end
end DL

set_option Elab.async false
set_option linter.all false
set_option maxRecDepth 100000
set_option maxHeartbeats 4000000
/-! A2: operations on data, and that the layer's rules keep them. -/
namespace DL
open PySem PyProof.Rows L2
abbrev iL (ns : List Int) : List D := ns.map D.int
def ndL : Option Nd → Option (List D)
  | some (.list ds) => some ds
  | _ => Option.none
/-- a list's items -/
def seqL (μ : Mu) : D → Option (List D)
  | .list ds => some ds
  | .cell p => ndL (μ p)
  | _ => Option.none
/-- a list's or a tuple's items -/
def sqD (μ : Mu) : D → Option (List D)
  | .tup ds => some ds
  | .script ns => some (iL ns)
  | .list ds => some ds
  | .cell p => ndL (μ p)
  | _ => Option.none
section
variable {c : Ctx} {S : Option SA} {F : Hp} {n : Nat} {I H : Hp} {μ : Mu} {d : D} {v : V} {ds : List D}
theorem ndL_some {x : Option Nd} (h : ndL x = some ds) : x = some (.list ds) := by
  unfold ndL at h
  split at h
  · cases h
    rfl
  · cases h
theorem Wd.cellL (w : Wd c S F n I μ H) {p : Addr} (h : ndL (μ p) = some ds) : ∃ xs, H p = some (.lst xs) ∧ Reps c S I ds xs := by
  obtain ⟨_, o, r, h2⟩ := w.m p _ (ndL_some h)
  cases r with
  | list r => exact ⟨_, h2, r⟩
theorem seqL_rep (w : Wd c S F n I μ H) (r : Rep c S I d v) (h : seqL μ d = some ds) : ∃ l xs, v = .ref l ∧ H l = some (.lst xs) ∧ Reps c S I ds xs := by
  cases r with
  | list g r =>
    cases h
    exact ⟨_, _, rfl, w.lst g, r⟩
  | cell =>
    obtain ⟨xs, h1, h2⟩ := w.cellL h
    exact ⟨_, xs, rfl, h1, h2⟩
  | _ => cases h
theorem sqD_rep (w : Wd c S F n I μ H) (r : Rep c S I d v) (h : sqD μ d = some ds) : ∃ l xs, v = .ref l ∧ (SqL c.K H l xs ∨ SqT c.K H l xs) ∧ Reps c S I ds xs := by
  cases r with
  | list g r =>
    cases h
    exact ⟨_, _, rfl, .inl (SqL.of (w.lst g)), r⟩
  | tup g r =>
    cases h
    exact ⟨_, _, rfl, .inr (w.tupH g), r⟩
  | script g =>
    cases h
    exact ⟨_, _, rfl, .inl (w.seqH g), Reps.of_ints⟩
  | cell =>
    obtain ⟨xs, h1, h2⟩ := w.cellL h
    exact ⟨_, xs, rfl, .inl (SqL.of h1), h2⟩
  | _ => cases h
end
/-! ### + - * // % ** -/
def oAdd : WOp := fun x y μ Q _ => match x with
  | .int i => (match y with
    | .int j => Q (.v (.int (i + j))) μ
    | _ => False)
  | .str a => (match y with
    | .str b => a.length + b.length ≤ sizeLine ∧ Q (.v (.str (a ++ b))) μ
    | _ => False)
  | .tup a => (match y with
    | .tup b => a.length + b.length ≤ sizeLine ∧ Q (.v (.tup (a ++ b))) μ
    | _ => False)
  | x => (match seqL μ x, seqL μ y with
    | some a, some b => a.length + b.length ≤ sizeLine ∧ Q (.n (.list (a ++ b))) μ
    | _, _ => False)
def oInt2 (C : Int → Int → Prop) (f : Int → Int → D) : WOp := fun x y μ Q _ => match x with
  | .int i => (match y with
    | .int j => C i j ∧ Q (.v (f i j)) μ
    | _ => False)
  | _ => False
def oSub : WOp := oInt2 (fun _ _ => True) fun i j => .int (i - j)
def oFdiv : WOp := oInt2 CDivW fun i j => .int (i / j)
def oMod : WOp := oInt2 (fun _ j => 0 < j) fun i j => .int (i % j)
def CPowW (i j : Int) : Prop := 0 ≤ j ∧ (Builtin.Int.intBits i : Int) * j ≤ 2 ^ 27
def oPow : WOp := oInt2 CPowW fun i j => .int (i ^ j.toNat)
def CMulU (i j : Int) : Prop := CMulW i j ∨ CMul i j
def oMul : WOp := fun x y μ Q _ => match x with
  | .int i => (match y with
    | .int j => CMulU i j ∧ Q (.v (.int (i * j))) μ
    | _ => False)
  | x => (match seqL μ x, y with
    | some a, .int k => -(2 ^ 63) ≤ k ∧ k < 2 ^ 63 ∧ a.length * k.toNat ≤ sizeLine ∧ Q (.n (.list (List.replicate k.toNat a).flatten)) μ
    | _, _ => False)
def oLt : WOp := oInt2 (fun _ _ => True) fun i j => .bool (decide (i < j))
def oLe : WOp := oInt2 (fun _ _ => True) fun i j => .bool (decide (i ≤ j))
def oGt : WOp := oInt2 (fun _ _ => True) fun i j => .bool (decide (j < i))
def oGe : WOp := oInt2 (fun _ _ => True) fun i j => .bool (decide (j ≤ i))
def oNeg : WU := fun x μ Q _ => match x with
  | .int i => Q (.v (.int (-i))) μ
  | _ => False
section
variable {X : Cx} {c : Ctx} {W : WX}
theorem op_pow27 : OpR X (binaryOp .Pow) (rI CPowW fun i j => .int (i ^ j.toNat)) := opI fun _ _ _ _ _ _ _ hc q => pow_int hc.1 hc.2 q
/-- two ints -/
theorem ld_int2 {C : Int → Int → Prop} {f : Int → Int → D} {g : Int → Int → V} (hg : ∀ S I i j, Rep c S I (f i j) (g i j)) {σ : L2.St} {x y : V} {H : Hp} {Q : VK} (h : ld2 c W 0 (oInt2 C f) σ x y H Q) : rI C g x y H Q := by
  obtain ⟨S, F, n, I, μ, dx, dy, Qd, Xd, hl, w, rx, ry, h, q, _⟩ := h
  cases rx <;> try exact h.elim
  cases ry <;> try exact h.elim
  exact ⟨_, _, rfl, rfl, h.1, q _ μ _ I H h.2 (Same.refl I) w (hg S I _ _)⟩
theorem rI0_of {g : Int → Int → V} {x y : V} {H : Hp} {Q : VK} (h : rI (fun _ _ => True) g x y H Q) : rI0 g x y H Q := by
  obtain ⟨i, j, h1, h2, _, h3⟩ := h
  exact ⟨i, j, h1, h2, h3⟩
theorem w_sub : Op2 X c W 0 (binaryOp .Sub) oSub := op2_of op_sub fun σ x y H Q h => rI0_of (ld_int2 (fun _ _ _ _ => .int) h)
theorem w_fdiv : Op2 X c W 0 (binaryOp .FloorDiv) oFdiv := op2_of op_fdivW fun σ x y H Q h => ld_int2 (fun _ _ _ _ => .int) h
theorem w_mod : Op2 X c W 0 (binaryOp .Mod) oMod := op2_of op_mod fun σ x y H Q h => ld_int2 (fun _ _ _ _ => .int) h
theorem w_pow : Op2 X c W 0 (binaryOp .Pow) oPow := op2_of op_pow27 fun σ x y H Q h => ld_int2 (fun _ _ _ _ => .int) h
theorem w_lt : Op2 X c W 0 (compareOp .Lt) oLt := op2_of op_lt fun σ x y H Q h => rI0_of (ld_int2 (fun _ _ _ _ => .bool) h)
theorem w_le : Op2 X c W 0 (compareOp .LtE) oLe := op2_of op_le fun σ x y H Q h => rI0_of (ld_int2 (fun _ _ _ _ => .bool) h)
theorem w_gt : Op2 X c W 0 (compareOp .Gt) oGt := op2_of op_gt fun σ x y H Q h => rI0_of (ld_int2 (fun _ _ _ _ => .bool) h)
theorem w_ge : Op2 X c W 0 (compareOp .GtE) oGe := op2_of op_ge fun σ x y H Q h => rI0_of (ld_int2 (fun _ _ _ _ => .bool) h)
theorem w_neg : Op1 X c W 0 (unaryOp .USub) oNeg := fun pins s σ H x v Q J rx h => un_neg pins s σ H x v Q J rx (by
  obtain ⟨S, F, n, I, μ, dx, Qd, Xd, hl, w, rx, h, q, _⟩ := h
  cases rx <;> try exact h.elim
  exact ⟨_, rfl, q _ μ _ I H h (Same.refl I) w .int⟩)
theorem w_add (hK : X.K = c.K := by rfl) : Op2 X c W 0 (binaryOp .Add) oAdd := by
  obtain ⟨K, cl, tb, ns, es0⟩ := c
  cases hK
  refine op2_of (op_add.or (op_add_str.or (op_catA.or op_cat))) fun σ x y H Q h => ?_
  obtain ⟨S, F, n, I, μ, dx, dy, Qd, Xd, hl, w, rx, ry, h, q, _⟩ := h
  unfold oAdd at h
  split at h
  · split at h
    · cases rx
      cases ry
      exact .inl ⟨_, _, rfl, rfl, q _ μ _ I H h (Same.refl I) w .int⟩
    · exact h.elim
  · split at h
    · cases rx
      cases ry
      exact .inr (.inl ⟨_, _, rfl, rfl, h.1, q _ μ _ I H h.2 (Same.refl I) w .str⟩)
    · exact h.elim
  · split at h
    · rename_i a _ _ b
      cases rx with
      | @tup pa _ xs g1 r1 =>
        cases ry with
        | @tup pb _ ys g2 r2 =>
          refine .inr (.inr (.inl ⟨_, _, _, _, rfl, rfl, w.tupH g1, w.tupH g2, by rw [← r1.length, ← r2.length]; exact h.1, fun e => ?_, fun e1 e2 => ?_, fun e1 e2 p hp => ?_⟩))
          · subst e
            cases r1
            exact q _ μ _ I H h.2 (Same.refl I) w (.tup g2 r2)
          · subst e2
            cases r2
            have h2 := h.2
            rw [List.append_nil] at h2
            exact q _ μ _ I H h2 (Same.refl I) w (.tup g1 r1)
          · have sm : Same I (upd I p (.tup (xs ++ ys))) := same_new (w.fresh hp).1
            exact q _ μ _ _ _ h.2 sm (w.new hp) (.tup (.inl upd_same) ((r1.append r2).mono sm))
    · exact h.elim
  · split at h
    · rename_i _ _ _ _ _ _ e1 e2
      obtain ⟨l1, xs, rfl, h1, r1⟩ := seqL_rep w rx e1
      obtain ⟨l2, ys, rfl, h2, r2⟩ := seqL_rep w ry e2
      refine .inr (.inr (.inr ⟨_, _, _, _, rfl, rfl, h1, h2, by rw [← r1.length, ← r2.length]; exact h.1, fun p hp => ?_⟩))
      obtain ⟨w2, rr⟩ := RsR.new w hp (NdR.list (r1.append r2))
      exact q _ μ _ _ _ h.2 (Same.refl I) w2 rr
    · exact h.elim
theorem w_mul : Op2 X c W 0 (binaryOp .Mult) oMul := by
  refine op2_of (op_mulW.or (op_mul.or op_rep)) fun σ x y H Q h => ?_
  obtain ⟨S, F, n, I, μ, dx, dy, Qd, Xd, hl, w, rx, ry, h, q, _⟩ := h
  unfold oMul at h
  split at h
  · split at h
    · cases rx
      cases ry
      rcases h.1 with z | z
      · exact .inl ⟨_, _, rfl, rfl, z, q _ μ _ I H h.2 (Same.refl I) w .int⟩
      · exact .inr (.inl ⟨_, _, rfl, rfl, z, q _ μ _ I H h.2 (Same.refl I) w .int⟩)
    · exact h.elim
  · split at h
    · rename_i _ _ _ _ a k e1
      obtain ⟨l1, xs, rfl, h1, r1⟩ := seqL_rep w rx e1
      cases ry
      refine .inr (.inr ⟨_, _, _, rfl, rfl, h1, h.1, h.2.1, by rw [← r1.length]; exact h.2.2.1, fun p hp => ?_⟩)
      obtain ⟨w2, rr⟩ := RsR.new w hp (NdR.list (r1.flat k.toNat))
      exact q _ μ _ _ _ h.2.2.2 (Same.refl I) w2 rr
    · exact h.elim
end
/-! ### items, slices -/
theorem atI_rep {c : Ctx} {S : Option SA} {I : Hp} {ds : List D} {xs : List V} {i : Int} {d : D} (r : Reps c S I ds xs) (h : atI ds i = some d) : ∃ x, atI xs i = some x ∧ Rep c S I d x := by
  unfold atI at h ⊢
  rw [← r.length]
  cases q : ixN ds.length i with
  | none =>
    rw [q] at h
    cases h
  | some j =>
    rw [q] at h
    exact r.get h
def oIx : WOp := fun x y μ Q _ => match x with
  | .str z => (match y with
    | .int i => z.length ≤ sizeLine ∧ (match atI z.cps.toList i with
      | some ch => Q (.v (.str ⟨#[ch]⟩)) μ
      | Option.none => False)
    | _ => False)
  | x => (match sqD μ x, y with
    | some ds, .int i => (match atI ds i with
      | some d => Q (.v d) μ
      | Option.none => False)
    | _, _ => False)
/-- a slice's items -/
def cutD (xs : List D) (lo hi : Option Int) : List D := (xs.drop (HT.sIx xs.length 0 lo)).take (HT.sIx xs.length xs.length hi - HT.sIx xs.length 0 lo)
theorem cut_rep {c : Ctx} {S : Option SA} {I : Hp} {ds : List D} {xs : List V} (r : Reps c S I ds xs) (lo hi : Option Int) : Reps c S I (cutD ds lo hi) (cutV xs lo hi) := by
  unfold cutD cutV
  rw [r.length]
  exact (r.drop _).take _
def oSl : D → Option Int → Option Int → Mu → QR → QD → Prop := fun x lo hi μ Q _ => match x with
  | .str z => z.length ≤ sizeLine ∧ Q (.v (.str (cutS z lo hi))) μ
  | .tup ds => Q (.v (.tup (cutD ds lo hi))) μ
  | x => (match seqL μ x with
    | some ds => Q (.n (.list (cutD ds lo hi))) μ
    | Option.none => False)
section
variable {X : Cx} {c : Ctx} {W : WX} {k ka kb : Nat} {a b : Expr} {wa wb : WE} {m : Bool} {pos : Pos}
theorem ld_ix {σ : L2.St} {x y : V} {H : Hp} {Q : VK} (h : ld2 c W 0 oIx σ x y H Q) : rIx c.K x y H Q := by
  obtain ⟨S, F, n, I, μ, dx, dy, Qd, Xd, hl, w, rx, ry, h, q, _⟩ := h
  unfold oIx at h
  split at h
  · split at h
    · obtain ⟨hz, h⟩ := h
      split at h
      · rename_i ch e
        cases rx
        cases ry
        exact .inr (.inr ⟨_, _, _, rfl, rfl, hz, e, q _ μ _ I H h (Same.refl I) w .str⟩)
      · exact h.elim
    · exact h.elim
  · split at h
    · rename_i _ _ _ _ ds i e1
      split at h
      · rename_i d e2
        obtain ⟨l, xs, rfl, h1, r1⟩ := sqD_rep w rx e1
        cases ry
        obtain ⟨v, h3, h4⟩ := atI_rep r1 e2
        rcases h1 with h1 | h1
        · exact .inl ⟨_, _, _, _, rfl, rfl, h1, h3, q _ μ _ I H h (Same.refl I) w h4⟩
        · exact .inr (.inl ⟨_, _, _, _, rfl, rfl, h1, h3, q _ μ _ I H h (Same.refl I) w h4⟩)
      · exact h.elim
    · exact h.elim
theorem g_ix (ha : GE X c W ka a wa) (hb : GE X c W kb b wb) (hp : PlainIx b := by exact fun _ _ => rfl) (hK : X.K = c.K := by rfl) : GE X c W (ka + (kb + 0)) (.Subscript a b pos) (wOp m oIx wa wb) := by
  obtain ⟨K, cl, tb, ns, es0⟩ := c
  cases hK
  refine L2.PE.imp (pe_ix ix_seq ha hb hp) fun σ H Q h => ?_
  obtain ⟨S, F, n, I, μ, e, Qd, Xd, hl, he, hw, h, q, x⟩ := ld_two h
  refine ⟨S, F, n, I, μ, e, Qd, Xd, hl, he, hw, h, fun d μ1 v I1 H1 p s1 w1 r1 => ?_, x⟩
  obtain ⟨S, F, n, I, μ, e, Qd, Xd, hl, he, hw, h, q, x⟩ := q d μ1 v I1 H1 p s1 w1 r1
  exact ⟨S, F, n, I, μ, e, Qd, Xd, hl, he, hw, h, fun d μ1 v I1 H1 p s1 w1 r1 => ld_ix (q d μ1 v I1 H1 p s1 w1 r1), x⟩
theorem w_sl (hK : X.K = c.K := by rfl) : SlW X c oSl := by
  obtain ⟨K, cl, tb, ns, es0⟩ := c
  cases hK
  refine ⟨_, SlR.or sl_str (SlR.or sl_tupA sl_list), fun W σ x lo hi H Q h => ?_⟩
  obtain ⟨S, F, n, I, μ, d, Qd, Xd, hl, w, r, h, q, _⟩ := h
  unfold oSl at h
  split at h
  · cases r
    exact .inl ⟨_, rfl, h.1, q _ μ _ I H h.2 (Same.refl I) w .str⟩
  · cases r with
    | @tup a _ xs g r =>
      refine .inr (.inl ⟨_, _, rfl, w.tupH g, fun hw => ?_, fun hw p hp => ?_⟩)
      · refine q _ μ _ I H h (Same.refl I) w ?_
        have e1 : cutV xs lo hi = xs := by
          unfold cutV
          rw [hw.1, hw.2, List.drop_zero, Nat.sub_zero, List.take_length]
        have r4 := cut_rep r lo hi
        rw [e1] at r4
        exact .tup g r4
      · have sm : Same I (upd I p (.tup (cutV xs lo hi))) := same_new (w.fresh hp).1
        exact q _ μ _ _ _ h sm (w.new hp) (.tup (.inl upd_same) ((cut_rep r lo hi).mono sm))
  · split at h
    · rename_i ds e1
      obtain ⟨l1, xs, rfl, h1, r1⟩ := seqL_rep w r e1
      refine .inr (.inr ⟨_, _, rfl, SqL.of h1, fun p hp => ?_⟩)
      obtain ⟨w2, rr⟩ := RsR.new w hp (NdR.list (cut_rep r1 lo hi))
      exact q _ μ _ _ _ h (Same.refl I) w2 rr
    · exact h.elim
end
/-! ### built-ins by their names -/
def one (xs : List D) (f : D → Prop) : Prop := match xs with
  | [x] => f x
  | _ => False
def two (xs : List D) (f : D → D → Prop) : Prop := match xs with
  | [x, y] => f x y
  | _ => False
theorem one_cases {xs : List D} {f : D → Prop} (h : one xs f) : ∃ x, xs = [x] ∧ f x := by
  unfold one at h
  split at h
  · exact ⟨_, rfl, h⟩
  · exact h.elim
theorem two_cases {xs : List D} {f : D → D → Prop} (h : two xs f) : ∃ x y, xs = [x, y] ∧ f x y := by
  unfold two at h
  split at h
  · exact ⟨_, _, rfl, h⟩
  · exact h.elim
theorem reps1 {c : Ctx} {S : Option SA} {I : Hp} {x : D} {vs : List V} (r : Reps c S I [x] vs) : ∃ v, vs = [v] ∧ Rep c S I x v := by
  cases r with
  | cons h r =>
    cases r
    exact ⟨_, rfl, h⟩
theorem reps2 {c : Ctx} {S : Option SA} {I : Hp} {x y : D} {vs : List V} (r : Reps c S I [x, y] vs) : ∃ v u, vs = [v, u] ∧ Rep c S I x v ∧ Rep c S I y u := by
  cases r with
  | cons h r =>
    obtain ⟨u, rfl, h2⟩ := reps1 r
    exact ⟨_, u, rfl, h, h2⟩
def cbLen : WC := fun xs μ Q _ => one xs fun x => match x with
  | .str z => z.length ≤ sizeLine ∧ Q (.v (.int (z.length : Int))) μ
  | x => (match sqD μ x with
    | some ds => Q (.v (.int (ds.length : Int))) μ
    | Option.none => False)
def int1 (x : D) (f : Int → Prop) : Prop := match x with
  | .int i => f i
  | _ => False
theorem int1_cases {x : D} {f : Int → Prop} (h : int1 x f) : ∃ i, x = .int i ∧ f i := by
  unfold int1 at h
  split at h
  · exact ⟨_, rfl, h⟩
  · exact h.elim
def cbMin2 : WC := fun xs μ Q _ => two xs fun x y => int1 x fun i => int1 y fun j => Q (.v (.int (if j < i then j else i))) μ
def cbMax2 : WC := fun xs μ Q _ => two xs fun x y => int1 x fun i => int1 y fun j => Q (.v (.int (if j > i then j else i))) μ
def cbAbs : WC := fun xs μ Q _ => one xs fun x => int1 x fun i => Q (.v (.int (if i < 0 then -i else i))) μ
def cbInt : WC := fun xs μ Q _ => one xs fun x => match x with
  | .int i => Q (.v (.int i)) μ
  | .bool b => Q (.v (.int (if b then 1 else 0))) μ
  | _ => False
def cbList : WC := fun xs μ Q _ => one xs fun x => match sqD μ x with
  | some ds => Q (.n (.list ds)) μ
  | Option.none => False
def cbTup : WC := fun xs μ Q _ => one xs fun x => match sqD μ x with
  | some ds => Q (.v (.tup ds)) μ
  | Option.none => False
section
variable {X : Cx} {c : Ctx} {W : WX}
theorem cbw_of {f : Value} {o : WC} {r : List V → Hp → VK → Prop} (h : CallR X f r) (i : ∀ S F n I μ ds vs H Qd Xd Q, Wd c S F n I μ H → Reps c S I ds vs → o ds μ Qd Xd → QVR c S F n I Qd Q → r vs H Q) : CbW X c f o := ⟨r, h, fun W σ xs H Q h => by
  obtain ⟨S, F, n, I, μ, ds, Qd, Xd, hl, w, rs, h, q, _⟩ := h
  exact i S F n I μ ds xs H Qd Xd Q w rs h q⟩
theorem w_len (hK : X.K = c.K := by rfl) : CbW X c (.builtin "len") cbLen := by
  obtain ⟨K, cl, tb, ns, es0⟩ := c
  cases hK
  refine cbw_of call_len fun S F n I μ ds vs H Qd Xd Q w rs h q => ?_
  obtain ⟨x, rfl, g⟩ := one_cases h
  obtain ⟨v, rfl, rv⟩ := reps1 rs
  clear h rs
  revert g; intro h
  split at h
  · cases rv
    exact ⟨_, _, rfl, ⟨h.1, rfl⟩, q _ μ _ I H h.2 (Same.refl I) w .int⟩
  · split at h
    · rename_i ds e
      obtain ⟨l, xs, rfl, h1, r1⟩ := sqD_rep w rv e
      rw [r1.length] at h
      rcases h1 with h1 | h1
      · exact ⟨_, _, rfl, .inl ⟨_, h1, rfl⟩, q _ μ _ I H h (Same.refl I) w .int⟩
      · exact ⟨_, _, rfl, .inr ⟨_, h1, rfl⟩, q _ μ _ I H h (Same.refl I) w .int⟩
    · exact h.elim
theorem w_min2 (hc : X.calm = true := by rfl) : CbW X c (.builtin "min") cbMin2 := cbw_of (call_min2 hc) fun S F n I μ ds vs H Qd Xd Q w rs h q => by
  obtain ⟨x, y, rfl, h⟩ := two_cases h
  obtain ⟨i, rfl, h⟩ := int1_cases h
  obtain ⟨j, rfl, h⟩ := int1_cases h
  obtain ⟨v, u, rfl, rv, ru⟩ := reps2 rs
  cases rv
  cases ru
  exact ⟨i, j, rfl, q _ μ _ I H h (Same.refl I) w .int⟩
theorem w_max2 (hc : X.calm = true := by rfl) : CbW X c (.builtin "max") cbMax2 := cbw_of (call_max2 hc) fun S F n I μ ds vs H Qd Xd Q w rs h q => by
  obtain ⟨x, y, rfl, h⟩ := two_cases h
  obtain ⟨i, rfl, h⟩ := int1_cases h
  obtain ⟨j, rfl, h⟩ := int1_cases h
  obtain ⟨v, u, rfl, rv, ru⟩ := reps2 rs
  cases rv
  cases ru
  exact ⟨i, j, rfl, q _ μ _ I H h (Same.refl I) w .int⟩
theorem w_abs : CbW X c (.builtin "abs") cbAbs := cbw_of call_abs fun S F n I μ ds vs H Qd Xd Q w rs h q => by
  obtain ⟨x, rfl, h⟩ := one_cases h
  obtain ⟨i, rfl, h⟩ := int1_cases h
  obtain ⟨v, rfl, rv⟩ := reps1 rs
  cases rv
  exact ⟨i, rfl, q _ μ _ I H h (Same.refl I) w .int⟩
theorem w_int : CbW X c (.type "int") cbInt := cbw_of call_int1 fun S F n I μ ds vs H Qd Xd Q w rs h q => by
  obtain ⟨x, rfl, h⟩ := one_cases h
  obtain ⟨v, rfl, rv⟩ := reps1 rs
  cases rv <;> try exact h.elim
  · exact .inr ⟨_, rfl, q _ μ _ I H h (Same.refl I) w .int⟩
  · exact .inl ⟨_, rfl, q _ μ _ I H h (Same.refl I) w .int⟩
theorem w_list (hK : X.K = c.K := by rfl) : CbW X c (.type "list") cbList := by
  obtain ⟨K, cl, tb, ns, es0⟩ := c
  cases hK
  refine cbw_of call_list_of fun S F n I μ ds vs H Qd Xd Q w rs h q => ?_
  obtain ⟨x, rfl, g⟩ := one_cases h
  obtain ⟨v, rfl, rv⟩ := reps1 rs
  clear h rs
  revert g; intro h
  split at h
  · rename_i ds e
    obtain ⟨l, xs, rfl, h1, r1⟩ := sqD_rep w rv e
    refine ⟨_, _, rfl, h1, fun p hp => ?_⟩
    obtain ⟨w2, rr⟩ := RsR.new w hp (NdR.list r1)
    exact q _ μ _ _ _ h (Same.refl I) w2 rr
  · exact h.elim
theorem w_tuple (hK : X.K = c.K := by rfl) : CbW X c (.type "tuple") cbTup := by
  obtain ⟨K, cl, tb, ns, es0⟩ := c
  cases hK
  refine cbw_of call_tuple_of fun S F n I μ ds vs H Qd Xd Q w rs h q => ?_
  obtain ⟨x, rfl, g⟩ := one_cases h
  obtain ⟨v, rfl, rv⟩ := reps1 rs
  clear h rs
  revert g; intro h
  split at h
  · rename_i ds e
    have new : ∀ {xs : List V}, Reps ⟨X.K, cl, tb, ns, es0⟩ S I ds xs → ∀ p, H p = Option.none → Q (.ref p) (upd H p (.tup xs)) := fun {xs} r1 p hp => by
      have sm : Same I (upd I p (.tup xs)) := same_new (w.fresh hp).1
      exact q _ μ _ _ _ h sm (w.new hp) (.tup (.inl upd_same) (r1.mono sm))
    cases rv with
    | list g r =>
      cases e
      exact ⟨_, _, rfl, .inl ⟨SqL.of (w.lst g), new r⟩⟩
    | tup g r =>
      cases e
      exact ⟨_, _, rfl, .inr ⟨w.tupH g, q _ μ _ I H h (Same.refl I) w (.tup g r)⟩⟩
    | script g =>
      cases e
      exact ⟨_, _, rfl, .inl ⟨w.seqH g, new Reps.of_ints⟩⟩
    | cell =>
      obtain ⟨xs, h1, h2⟩ := w.cellL e
      exact ⟨_, _, rfl, .inl ⟨SqL.of h1, new h2⟩⟩
    | _ => cases e
  · exact h.elim
end
/-! ### is None -/
def isNone : D → Bool
  | .none => true
  | _ => false
def oIsN : WOp := fun x y μ Q _ => match y with
  | .none => Q (.v (.bool (isNone x))) μ
  | _ => False
def oNotN : WOp := fun x y μ Q _ => match y with
  | .none => Q (.v (.bool (!isNone x))) μ
  | _ => False
section
variable {X : Cx} {c : Ctx} {W : WX}
theorem rep_none {S : Option SA} {I : Hp} {d : D} {v : V} (r : Rep c S I d v) : decide (v = V.non) = isNone d := by
  cases r <;> first | rfl | exact decide_eq_false fun z => nomatch z
theorem w_is : Op2 X c W 0 (compareOp .Is) oIsN := op2_of op_isN fun σ x y H Q h => by
  obtain ⟨S, F, n, I, μ, dx, dy, Qd, Xd, hl, w, rx, ry, h, q, _⟩ := h
  cases ry <;> try exact h.elim
  exact ⟨rfl, by rw [rep_none rx]; exact q _ μ _ I H h (Same.refl I) w .bool⟩
theorem w_isnot : Op2 X c W 0 (compareOp .IsNot) oNotN := op2_of op_notN fun σ x y H Q h => by
  obtain ⟨S, F, n, I, μ, dx, dy, Qd, Xd, hl, w, rx, ry, h, q, _⟩ := h
  cases ry <;> try exact h.elim
  exact ⟨rfl, by rw [rep_none rx]; exact q _ μ _ I H h (Same.refl I) w .bool⟩
end
end DL

set_option Elab.async false
set_option linter.all false
set_option maxRecDepth 100000
set_option maxHeartbeats 4000000
/-! A3: statements, targets, what is walked, loops, comprehensions. -/
namespace DL
open PySem PyProof.Rows L2
structure WEnds where
  nx : EnvD → Mu → Prop
  rt : QD
  bk : EnvD → Mu → Prop
  ct : EnvD → Mu → Prop
  xp : D → EnvD → Mu → Prop
abbrev WS := EnvD → Mu → WEnds → Prop
abbrev WG := D → EnvD → (EnvD → Prop) → Prop
abbrev WGs := List D → EnvD → (EnvD → Prop) → Prop
/-- what is walked: the items, what stays meanwhile -/
structure Src where
  xs : List D
  ok : Mu → Prop
abbrev WI := EnvD → Mu → (Src → Mu → Prop) → QD → Prop
/-! ### wishes -/
def wSeq (a b : WS) : WS := fun e μ E => a e μ { E with nx := fun e1 μ1 => b e1 μ1 E }
def wNext : WS := fun e μ E => E.nx e μ
def wBreak : WS := fun e μ E => E.bk e μ
def wCont : WS := fun e μ E => E.ct e μ
def wNever : WS := fun _ _ _ => False
def wAsg (i : Nat) (a : WE) : WS := fun e μ E => a e μ (fun d μ1 => E.nx (st e i (some d)) μ1) fun d μ1 => E.xp d e μ1
def wAsgG (g : WG) (a : WE) : WS := fun e μ E => a e μ (fun d μ1 => g d e fun e1 => E.nx e1 μ1) fun d μ1 => E.xp d e μ1
def wDrop (a : WE) : WS := fun e μ E => a e μ (fun _ μ1 => E.nx e μ1) fun d μ1 => E.xp d e μ1
def wRet (a : WE) : WS := fun e μ E => a e μ E.rt fun d μ1 => E.xp d e μ1
def wRetN : WS := fun _ μ E => E.rt .none μ
def wIfS (t : WT) (a b : WS) : WS := fun e μ E => t e μ (fun k μ1 => if k = true then a e μ1 E else b e μ1 E) fun d μ1 => E.xp d e μ1
def wPar (i j : Nat) (a : WA) : WS := fun e μ E => a e μ (fun ds μ1 => match ds with
  | [x, y] => E.nx (st (st e i (some x)) j (some y)) μ1
  | _ => False) fun d μ1 => E.xp d e μ1
def wAug (i : Nat) (f : Int → Int → Int) (a : WE) : WS := fun e μ E => match gt e i with
  | some (.int x) => a e μ (fun d μ1 => match d with
    | .int y => E.nx (st e i (some (.int (f x y)))) μ1
    | _ => False) fun d μ1 => E.xp d e μ1
  | _ => False
/-- l[i] = v -/
def wSetL (v o i : WE) : WS := fun e μ E => v e μ (fun d μ1 => o e μ1 (fun x μ2 => i e μ2 (fun y μ3 => match x, y with
  | .cell p, .int k => (match ndL (μ3 p) with
    | some ds => (match ixN ds.length k with
      | some j => E.nx e (up μ3 p (.list (ds.set j d)))
      | Option.none => False)
    | Option.none => False)
  | _, _ => False) fun d μ1 => E.xp d e μ1) fun d μ1 => E.xp d e μ1) fun d μ1 => E.xp d e μ1
def wgN (i : Nat) : WG := fun d e Q => Q (st e i (some d))
def wgNil : WGs := fun ds e Q => match ds with
  | [] => Q e
  | _ => False
def wgCons (g : WG) (gs : WGs) : WGs := fun ds e Q => match ds with
  | d :: ds => g d e fun e1 => gs ds e1 Q
  | _ => False
def wgTup (n : Nat) (gs : WGs) : WG := fun d e Q => match d with
  | .tup ds => ds.length = n ∧ gs ds e Q
  | _ => False
def okS : D → List D → Mu → Prop
  | .cell p, ds, μ => ndL (μ p) = some ds
  | _, _, _ => True
def wiSeq (a : WE) : WI := fun e μ Q X => a e μ (fun d μ1 => match sqD μ1 d with
  | some ds => Q ⟨ds, okS d ds⟩ μ1
  | Option.none => False) X
def rangeD (lo : Int) (n : Nat) : List D := (List.range n).map fun (i : Nat) => .int (lo + (i : Int))
def inR (i : Int) : Prop := -(2 ^ 62) ≤ i ∧ i < 2 ^ 62
def wiRng1 (a : WA) : WI := fun e μ Q X => a e μ (fun ds μ1 => one ds fun x => int1 x fun j => inR j ∧ Q ⟨rangeD 0 j.toNat, fun _ => True⟩ μ1) X
def wiRng2 (a : WA) : WI := fun e μ Q X => a e μ (fun ds μ1 => two ds fun x y => int1 x fun lo => int1 y fun hi => inR lo ∧ inR hi ∧ Q ⟨rangeD lo (hi - lo).toNat, fun _ => True⟩ μ1) X
def goFor (ok : Mu → Prop) (g : WG) (b : WS) : List D → WS
  | [], e, μ, E => ok μ ∧ E.nx e μ
  | x :: xs, e, μ, E => ok μ ∧ g x e fun e1 => b e1 μ { nx := fun e2 μ2 => goFor ok g b xs e2 μ2 E, rt := E.rt, bk := E.nx, ct := fun e2 μ2 => goFor ok g b xs e2 μ2 E, xp := E.xp }
def wFor (s : WI) (g : WG) (b : WS) : WS := fun e μ E => s e μ (fun s μ1 => s.xs.length ≤ 2 ^ 63 ∧ goFor s.ok g b s.xs e μ1 E) fun d μ1 => E.xp d e μ1
/-- n turns at most -/
def goWhile (t : WT) (b : WS) : Nat → WS
  | 0, _, _, _ => False
  | n + 1, e, μ, E => t e μ (fun k μ1 => if k = true then b e μ1 { nx := fun e2 μ2 => goWhile t b n e2 μ2 E, rt := E.rt, bk := E.nx, ct := fun e2 μ2 => goWhile t b n e2 μ2 E, xp := E.xp } else E.nx e μ1) fun d μ1 => E.xp d e μ1
def wWhile (t : WT) (b : WS) : WS := fun e μ E => ∃ n, n ≤ 2 ^ 63 ∧ goWhile t b n e μ E
def wYes : WT := fun _ μ Q _ => Q true μ
def goLc (ok : Mu → Prop) (g : WG) (t : WT) (a : WE) (e : EnvD) (X : QD) : List D → List D → Mu → (List D → Mu → Prop) → Prop
  | [], acc, μ, Q => ok μ ∧ Q acc μ
  | x :: xs, acc, μ, Q => ok μ ∧ g x e fun e1 => t e1 μ (fun k μ1 => if k = true then a e1 μ1 (fun d μ2 => goLc ok g t a e X xs (acc ++ [d]) μ2 Q) X else goLc ok g t a e X xs acc μ1 Q) X
def wLc (m : Bool) (s : WI) (g : WG) (t : WT) (a : WE) (vs : List Nat) : WE := fun e μ Q X => s e μ (fun s μ1 => s.xs.length ≤ sizeLine ∧ goLc s.ok g t a (wipeE e vs) (fun _ _ => False) s.xs [] μ1 fun ds μ2 => sett m Q (.n (.list ds)) μ2) X
/-! ### readings -/
structure EV (c : Ctx) (W : WX) (S : Option SA) (F : Hp) (n : Nat) (I : Hp) (E : WEnds) (K : Ends) : Prop where
  nx : ∀ e' μ' σ' I' H', E.nx e' μ' → Same I I' → EnvR c S I' e' σ' → Wd c S F n I' μ' H' → K.nx σ' H'
  rt : ∀ d μ' v I' H', E.rt d μ' → Same I I' → Wd c S F n I' μ' H' → Rep c S I' d v → K.rt v H'
  bk : ∀ e' μ' σ' I' H', E.bk e' μ' → Same I I' → EnvR c S I' e' σ' → Wd c S F n I' μ' H' → K.bk σ' H'
  ct : ∀ e' μ' σ' I' H', E.ct e' μ' → Same I I' → EnvR c S I' e' σ' → Wd c S F n I' μ' H' → K.ct σ' H'
  xp : ∀ d e' μ' cls dx σ' I' H', E.xp d e' μ' → Same I I' → EnvR c S I' e' σ' → Wd c S F n I' μ' H' → ErrAt c S I' d cls dx → W cls dx σ' H'
theorem EV.mono {c : Ctx} {W : WX} {S : Option SA} {F : Hp} {n n' : Nat} {I I' : Hp} {E : WEnds} {K : Ends} (h : EV c W S F n I E K) (l : n' ≤ n) (s : Same I I') : EV c W S F n' I' E K :=
  ⟨fun e' μ' σ' I2 H' p s2 r w => h.nx e' μ' σ' I2 H' p (s.trans s2) r (w.up l), fun d μ' v I2 H' p s2 w r => h.rt d μ' v I2 H' p (s.trans s2) (w.up l) r, fun e' μ' σ' I2 H' p s2 r w => h.bk e' μ' σ' I2 H' p (s.trans s2) r (w.up l),
    fun e' μ' σ' I2 H' p s2 r w => h.ct e' μ' σ' I2 H' p (s.trans s2) r (w.up l), fun d e' μ' cls dx σ' I2 H' p s2 r w er => h.xp d e' μ' cls dx σ' I2 H' p (s.trans s2) r (w.up l) er⟩
/-- what errors of an expression come to -/
theorem EV.x {c : Ctx} {W : WX} {S : Option SA} {F : Hp} {n : Nat} {I : Hp} {E : WEnds} {K : Ends} {e : EnvD} {σ : L2.St} (h : EV c W S F n I E K) (he : EnvR c S I e σ) : XV c W S F n I σ fun d μ1 => E.xp d e μ1 := fun d μ' cls dx I' H' p s w er => h.xp d e μ' cls dx σ I' H' p s (he.mono s) w er
section
variable (c : Ctx) (W : WX) (k : Nat)
def ldS (w : WS) : TS := fun K σ H => ∃ S F n I μ e E, n + k ≤ LIM ∧ EnvR c S I e σ ∧ Wd c S F n I μ H ∧ w e μ E ∧ EV c W S F (n + k) I E K
/-- a target; js the slots that it stores -/
def ldG (js : List Nat) (g : WG) : TG := fun v σ H Q => ∃ S F n I μ e d Qd, EnvR c S I e σ ∧ Wd c S F n I μ H ∧ Rep c S I d v ∧ g d e Qd ∧ ∀ e' σ', Qd e' → EnvR c S I e' σ' → (∀ i, i ∉ js → σ'[i]? = σ[i]?) → σ'.length = σ.length → Q σ' H
def ldGs (js : List Nat) (g : WGs) : TGs := fun vs σ H Q => ∃ S F n I μ e ds Qd, EnvR c S I e σ ∧ Wd c S F n I μ H ∧ Reps c S I ds vs ∧ g ds e Qd ∧ ∀ e' σ', Qd e' → EnvR c S I e' σ' → (∀ i, i ∉ js → σ'[i]? = σ[i]?) → σ'.length = σ.length → Q σ' H
def ItD (S : Option SA) (J : It) (I1 : Hp) (s : Src) : Prop := ∀ F i n I μ H, Same I1 I → Wd c S F n I μ H → s.ok μ →
  (∀ d, s.xs[i]? = some d → J.go i H ∧ ∀ v H', J.yld i H v H' → ∃ I', Same I I' ∧ Wd c S F n I' μ H' ∧ Rep c S I' d v) ∧ (s.xs[i]? = Option.none → J.stop i H)
def ldI (w : WI) : TI := fun σ H R => ∃ S F n I μ e Qd Xd, n + k ≤ LIM ∧ EnvR c S I e σ ∧ Wd c S F n I μ H ∧ w e μ Qd Xd ∧ (∀ s μ' J I' H', Qd s μ' → Same I I' → Wd c S F (n + k) I' μ' H' → ItD c S J I' s → R J H') ∧ XV c W S F (n + k) I σ Xd
end
section
variable (X : Cx) (c : Ctx) (W : WX) (k : Nat)
abbrev GS (s : Stmt) (w : WS) : Prop := PS X s (ldS c W k w)
abbrev GSs (s : List Stmt) (w : WS) : Prop := PSs X s (ldS c W k w)
abbrev GG (js : List Nat) (t : Expr) (g : WG) : Prop := PG X t (ldG c js g)
abbrev GGs (js : List Nat) (t : List Expr) (g : WGs) : Prop := PGs X t (ldGs c js g)
abbrev GI (tg it : Expr) (w : WI) : Prop := PI X tg it (ldI c W k w)
end
theorem _root_.L2.PS.imp {X : Cx} {s : Stmt} {t t' : TS} (h : PS X s t) (i : ∀ D σ H, t' D σ H → t D σ H) : PS X s t' := ⟨fun pins s σ H D J z => h.run pins s σ H D J (i D σ H z)⟩
theorem _root_.L2.PSs.imp {X : Cx} {s : List Stmt} {t t' : TS} (h : PSs X s t) (i : ∀ D σ H, t' D σ H → t D σ H) : PSs X s t' := ⟨fun pins s σ H D J z => h.run pins s σ H D J (i D σ H z)⟩
theorem _root_.L2.PG.imp {X : Cx} {s : Expr} {t t' : TG} (h : PG X s t) (i : ∀ v σ H Q, t' v σ H Q → t v σ H Q) : PG X s t' := ⟨fun pins s σ H v u Q J r z => h.run pins s σ H v u Q J r (i v σ H Q z)⟩
theorem _root_.L2.PGs.imp {X : Cx} {s : List Expr} {t t' : TGs} (h : PGs X s t) (i : ∀ v σ H Q, t' v σ H Q → t v σ H Q) : PGs X s t' := ⟨fun pins s σ H v u Q J r z => h.run pins s σ H v u Q J r (i v σ H Q z)⟩
theorem _root_.L2.PI.imp {X : Cx} {tg s : Expr} {t t' : TI} (h : PI X tg s t) (i : ∀ σ H Q, t' σ H Q → t σ H Q) : PI X tg s t' := ⟨fun pins s σ H R J z => h.run pins s σ H R J (i σ H R z)⟩
section
variable {X : Cx} {c : Ctx} {W : WX} {k ka kb kc ko : Nat} {a b d tg it : Expr} {wa wb wo wi' : WE} {m : Bool} {pos pos' : Pos} {es : List Expr} {wr : WA} {wt wu : WT} {s : Stmt} {ss ss2 : List Stmt} {w1 w2 : WS} {i j : Nat} {x y : Str} {js js2 : List Nat} {g : WG} {gs : WGs} {wi : WI}
theorem gs_nil : GSs X c W 0 [] wNext := L2.PSs.imp pss_nil fun K σ H h => by
  obtain ⟨S, F, n, I, μ, e, E, hl, he, hw, h, q⟩ := h
  exact q.nx e μ σ I H h (Same.refl I) he hw
theorem ldS_seq {K : Ends} {σ : L2.St} {H : Hp} (h : ldS c W (ka + kb) (wSeq w1 w2) K σ H) : tSeq (ldS c W ka w1) (ldS c W kb w2) K σ H := by
  obtain ⟨S, F, n, I, μ, e, E, hl, he, hw, h, q⟩ := h
  refine ⟨S, F, n, I, μ, e, _, by omega, he, hw, h, ?_⟩
  have q1 := q.mono (n' := n + ka) (by omega) (Same.refl I)
  exact ⟨fun e1 μ1 σ1 I1 H1 p1 s1 r1 u1 => ⟨S, F, n + ka, I1, μ1, e1, E, by omega, r1, u1, p1, q.mono (by omega) s1⟩, q1.rt, q1.bk, q1.ct, q1.xp⟩
theorem gs_cons (h1 : GS X c W ka s w1) (h2 : GSs X c W kb ss w2) : GSs X c W (ka + kb) (s :: ss) (wSeq w1 w2) := L2.PSs.imp (pss_cons h1 h2) fun K σ H h => ldS_seq h
theorem gs_one (h1 : GS X c W k s w1) : GSs X c W k [s] w1 := pss_one h1
theorem g_pass : GS X c W 0 (.Pass pos) wNext := L2.PS.imp ps_pass fun K σ H h => by
  obtain ⟨S, F, n, I, μ, e, E, hl, he, hw, h, q⟩ := h
  exact q.nx e μ σ I H h (Same.refl I) he hw
theorem g_break : GS X c W 0 (.Break pos) wBreak := L2.PS.imp ps_break fun K σ H h => by
  obtain ⟨S, F, n, I, μ, e, E, hl, he, hw, h, q⟩ := h
  exact q.bk e μ σ I H h (Same.refl I) he hw
theorem g_cont : GS X c W 0 (.Continue pos) wCont := L2.PS.imp ps_continue fun K σ H h => by
  obtain ⟨S, F, n, I, μ, e, E, hl, he, hw, h, q⟩ := h
  exact q.ct e μ σ I H h (Same.refl I) he hw
theorem g_never : GS X c W 0 s wNever := L2.PS.imp (t := tNever) ps_never fun K σ H h => by
  obtain ⟨S, F, n, I, μ, e, E, hl, he, hw, h, q⟩ := h
  exact h.elim
theorem ldE_S {Q : VK} {σ : L2.St} {H : Hp} {E : WEnds} {K : Ends} {S : Option SA} {F : Hp} {n : Nat} {I : Hp} {μ : Mu} {e : EnvD} {Qd : QD} (hl : n + k ≤ LIM) (he : EnvR c S I e σ) (hw : Wd c S F n I μ H) (q : EV c W S F (n + k) I E K) (h : wa e μ Qd fun d μ1 => E.xp d e μ1)
    (hq : QV c S F (n + k) I Qd Q) : ldE c W k wa σ H Q := ⟨S, F, n, I, μ, e, Qd, _, hl, he, hw, h, hq, q.x he⟩
theorem g_ret (ha : GE X c W k a wa) : GS X c W k (.Return (some a) pos) (wRet wa) := L2.PS.imp (ps_ret ha) fun K σ H h => by
  obtain ⟨S, F, n, I, μ, e, E, hl, he, hw, h, q⟩ := h
  exact ldE_S hl he hw q h fun d μ1 v I1 H1 p s1 u1 r1 => q.rt d μ1 v I1 H1 p s1 u1 r1
theorem g_retN : GS X c W 0 (.Return none pos) wRetN := L2.PS.imp ps_retN fun K σ H h => by
  obtain ⟨S, F, n, I, μ, e, E, hl, he, hw, h, q⟩ := h
  exact q.rt .none μ .non I H h (Same.refl I) hw .none
theorem g_drop (ha : GE X c W k a wa) (hs : swapsWith a none pos.line X.env = pure false := by rfl) : GS X c W k (.Expr a pos) (wDrop wa) := L2.PS.imp (ps_expr ha hs) fun K σ H h => by
  obtain ⟨S, F, n, I, μ, e, E, hl, he, hw, h, q⟩ := h
  exact ldE_S hl he hw q h fun d μ1 v I1 H1 p s1 u1 r1 => q.nx e μ1 σ I1 H1 p s1 (he.mono s1) u1
theorem g_doc {z j p p'} : GS X c W 0 (.Expr (.Constant (.str z) j p) p') wNext := L2.PS.imp ps_doc fun K σ H h => by
  obtain ⟨S, F, n, I, μ, e, E, hl, he, hw, h, q⟩ := h
  exact q.nx e μ σ I H h (Same.refl I) he hw
theorem g_ifS {bb b2 : List Stmt} (hc : GT X c W kc d wt) (ha : GSs X c W ka bb w1) (hb : GSs X c W kb b2 w2) : GS X c W (kc + (ka + kb)) (.If d bb b2 pos) (wIfS wt w1 w2) := L2.PS.imp (ps_if hc ha hb) fun K σ H h => by
  obtain ⟨S, F, n, I, μ, e, E, hl, he, hw, h, q⟩ := h
  refine ⟨S, F, n, I, μ, e, _, _, by omega, he, hw, h, fun b μ1 I1 H1 pb s1 u1 => ?_, (q.x he).mono (by omega) (Same.refl I)⟩
  exact ite_b pb (fun _ h => ⟨S, F, n + kc, I1, μ1, e, E, by omega, he.mono s1, u1, h, q.mono (by omega) s1⟩) fun _ h => ⟨S, F, n + kc, I1, μ1, e, E, by omega, he.mono s1, u1, h, q.mono (by omega) s1⟩
theorem ld_asg {K : Ends} {σ : L2.St} {H : Hp} (h : ldS c W k (wAsg i wa) K σ H) : tAsg (ldE c W k wa) (gName i) K σ H := by
  obtain ⟨S, F, n, I, μ, e, E, hl, he, hw, h, q⟩ := h
  exact ldE_S hl he hw q h fun d μ1 v I1 H1 p s1 u1 r1 => q.nx _ μ1 _ I1 H1 p s1 ((he.mono s1).put r1 i) u1
theorem g_set (hN : X.N.Nodup) (hi : X.N[i]? = some x) (hx : Loc X.env.scope x) (he : GE X c W k a wa) (hs : swapsWith a (some (.Name x pos')) pos.line X.env = pure false := by rfl) (hf : X.fn x = true ∨ X.env.scope.names.lookup x = some .local := by first | exact .inl rfl | exact .inr rfl | assumption) :
    GS X c W k (.Assign [.Name x pos'] a pos) (wAsg i wa) := L2.PS.imp (ps_set hN hi hx he hs hf) fun K σ H h => ld_asg h
theorem g_asg (he : GE X c W k a wa) (hg : GG X c js tg g) (hs : swapsWithSole [tg] a pos.line X.env = pure false := by rfl) (hw : swappedStores [tg] a X.env = pure none := by rfl)
    (h1 : (assignEach [tg] X.env).map (·.2) = [assign tg X.env] := by rfl) : GS X c W k (.Assign [tg] a pos) (wAsgG g wa) := L2.PS.imp (ps_asg he hg hs hw h1) fun K σ H h => by
  obtain ⟨S, F, n, I, μ, e, E, hl, he, hw, h, q⟩ := h
  refine ldE_S hl he hw q h fun d μ1 v I1 H1 p s1 u1 r1 => ?_
  exact ⟨S, F, _, I1, μ1, e, d, _, he.mono s1, u1, r1, p, fun e' σ' p' r' _ _ => q.nx e' μ1 σ' I1 H1 p' s1 r' u1⟩
theorem g_par {px py pt : Pos} {kt k2 pt2} (hc : X.calm = true) (hN : X.N.Nodup) (hi : X.N[i]? = some x) (hj : X.N[j]? = some y) (hij : i ≠ j)
    (hx : X.env.scope.names.lookup x = some .local) (hy : X.env.scope.names.lookup y = some .local) (ha : GA X c W k [a, b] wr) (hp : PS X (.Assign [.Tuple [.Name x px, .Name y py] kt pt] (.Tuple [a, b] k2 pt2) pos) (tPar i j (ldA c W k wr))) : GS X c W k (.Assign [.Tuple [.Name x px, .Name y py] kt pt] (.Tuple [a, b] k2 pt2) pos) (wPar i j wr) := L2.PS.imp hp fun K σ H h => by
  obtain ⟨S, F, n, I, μ, e, E, hl, he, hw, h, q⟩ := h
  refine ⟨S, F, n, I, μ, e, _, _, hl, he, hw, h, fun ds μ1 vs I1 H1 p s1 u1 r1 => ?_, q.x he⟩
  cases r1 with
  | nil => exact False.elim p
  | cons r1 r2 =>
    cases r2 with
    | nil => exact False.elim p
    | cons r2 r3 =>
      cases r3 with
      | nil => exact ⟨_, _, rfl, q.nx _ μ1 _ I1 H1 p s1 (((he.mono s1).put r1 i).put r2 j) u1⟩
      | cons => exact False.elim p
theorem g_parN {hp : PS X s (tPar i j (ldA c W k wr))} : GS X c W k s (wPar i j wr) := L2.PS.imp hp fun K σ H h => by
  obtain ⟨S, F, n, I, μ, e, E, hl, he, hw, h, q⟩ := h
  refine ⟨S, F, n, I, μ, e, _, _, hl, he, hw, h, fun ds μ1 vs I1 H1 p s1 u1 r1 => ?_, q.x he⟩
  cases r1 with
  | nil => exact False.elim p
  | cons r1 r2 =>
    cases r2 with
    | nil => exact False.elim p
    | cons r2 r3 =>
      cases r3 with
      | nil => exact ⟨_, _, rfl, q.nx _ μ1 _ I1 H1 p s1 (((he.mono s1).put r1 i).put r2 j) u1⟩
      | cons => exact False.elim p
theorem g_aug {op : Operator} {f : Int → Int → Int} (hN : X.N.Nodup) (hi : X.N[i]? = some x) (hx : Loc X.env.scope x) (he : GE X c W k a wa) (ho : PIp X op (ipI f)) (hf : X.fn x = true ∨ X.env.scope.names.lookup x = some .local := by first | exact .inl rfl | exact .inr rfl | assumption) :
    GS X c W k (.AugAssign (.Name x pos') op a pos) (wAug i f wa) := L2.PS.imp (ps_aug hN hi hx he ho hf) fun K σ H h => by
  obtain ⟨S, F, n, I, μ, e, E, hl, he, hw, h, q⟩ := h
  unfold wAug at h
  split at h
  · rename_i z hz
    obtain ⟨v, h1, h2⟩ := he.get hz
    cases h2
    refine ⟨_, h1, ldE_S hl he hw q h fun d μ1 v I1 H1 p s1 u1 r1 => ?_⟩
    cases r1 <;> first | exact False.elim p | exact ⟨_, _, rfl, rfl, q.nx _ μ1 _ I1 H1 p s1 ((he.mono s1).put .int i) u1⟩
  · exact h.elim
theorem g_setL (hv : GE X c W ka a wa) (ho : GE X c W kb b wo) (hi : GE X c W kc d wi') (hs : swapsWithSole [.Subscript b d pos'] a pos.line X.env = pure false := by rfl) (hw : swappedStores [.Subscript b d pos'] a X.env = pure none := by rfl)
    (h1 : (assignEach [.Subscript b d pos'] X.env).map (·.2) = [assign (.Subscript b d pos') X.env] := by rfl)
    (ha : ∀ v, assign (.Subscript b d pos') X.env v = (do
      let ov ← holding [v] (eval b X.env)
      let iv ← holding [v, ov] (eval d X.env)
      standAt pos'
      holding [v, ov, iv] (setItem ov iv v)
      release [v, ov, iv] []) := by intro _; rfl) : GS X c W (ka + (kb + kc)) (.Assign [.Subscript b d pos'] a pos) (wSetL wa wo wi') := L2.PS.imp (ps_asg hv (pg_sub ho hi set_list ha) hs hw h1) fun K σ H h => by
  obtain ⟨S, F, n, I, μ, e, E, hl, he, hw, h, q⟩ := h
  refine ⟨S, F, n, I, μ, e, _, _, by omega, he, hw, h, fun d μ1 v I1 H1 p s1 u1 r1 => ?_, (q.x he).mono (by omega) (Same.refl I)⟩
  refine ⟨S, F, n + ka, I1, μ1, e, _, _, by omega, he.mono s1, u1, p, fun d2 μ2 v2 I2 H2 p2 s2 u2 r2 => ?_, (q.x he).mono (by omega) s1⟩
  refine ⟨S, F, n + ka + kb, I2, μ2, e, _, _, by omega, he.mono (s1.trans s2), u2, p2, fun d3 μ3 v3 I3 H3 p3 s3 u3 r3 => ?_, (q.x he).mono (by omega) (s1.trans s2)⟩
  dsimp only at p3
  split at p3
  · split at p3
    · rename_i ds e1
      split at p3
      · rename_i jj e2
        cases r2
        cases r3
        obtain ⟨xs, h5, h6⟩ := u3.cellL e1
        refine ⟨_, xs, _, jj, rfl, rfl, h5, by rw [← h6.length]; exact e2, ?_⟩
        refine q.nx e _ σ I3 _ p3 ((s1.trans s2).trans s3) (he.mono ((s1.trans s2).trans s3)) ?_
        exact (u3.put (ndL_some e1) (NdR.list (h6.set (r1.mono (s2.trans s3)) jj))).up (by omega)
      · exact p3.elim
    · exact p3.elim
  · exact p3.elim
/-! targets -/
theorem gg_name (hN : X.N.Nodup) (hi : X.N[i]? = some x) (hx : Loc X.env.scope x) (hf : X.fn x = true ∨ X.env.scope.names.lookup x = some .local := by first | exact .inl rfl | exact .inr rfl | assumption) : GG X c [i] (.Name x pos) (wgN i) := L2.PG.imp (pg_name hN hi hx hf) fun v σ H Q h => by
  obtain ⟨S, F, n, I, μ, e, d, Qd, he, hw, r, h, q⟩ := h
  exact q _ _ h (he.put r i) (fun j hj => List.getElem?_set_ne fun z => hj (by rw [z]; exact List.mem_cons_self)) List.length_set
theorem ggs_nil : GGs X c [] [] wgNil := L2.PGs.imp pgs_nil fun vs σ H Q h => by
  obtain ⟨S, F, n, I, μ, e, ds, Qd, he, hw, r, h, q⟩ := h
  cases r with
  | nil => exact ⟨rfl, q e σ h he (fun _ _ => rfl) rfl⟩
  | cons => exact False.elim h
theorem ggs_cons (h1 : GG X c js a g) (h2 : GGs X c js2 es gs) (hs : (assignEach (a :: es) X.env).map (·.2) = assign a X.env :: (assignEach es X.env).map (·.2) := by rfl) : GGs X c (js ++ js2) (a :: es) (wgCons g gs) := L2.PGs.imp (pgs_cons h1 h2 hs) fun vs σ H Q h => by
  obtain ⟨S, F, n, I, μ, e, ds, Qd, he, hw, r, h, q⟩ := h
  cases r with
  | nil => exact False.elim h
  | cons r1 r2 =>
    refine ⟨_, _, rfl, S, F, n, I, μ, e, _, _, he, hw, r1, h, fun e1 σ1 p1 he1 k1 l1 => ?_⟩
    refine ⟨S, F, n, I, μ, e1, _, _, he1, hw, r2, p1, fun e2 σ2 p2 he2 k2 l2 => ?_⟩
    exact q e2 σ2 p2 he2 (fun i hi => (k2 i fun z => hi (List.mem_append_right _ z)).trans (k1 i fun z => hi (List.mem_append_left _ z))) (l2.trans l1)
theorem gg_tup {kk n : Nat} (h : GGs X c js es gs) (hc : X.calm = true := by rfl) (hn : (assignEach es X.env).length = n := by rfl) (hst : (assignEach es X.env).findIdx? (·.1) = none := by rfl) (hK : X.K = c.K := by rfl) : GG X c js (.Tuple es kk pos) (wgTup n gs) := by
  obtain ⟨K, cl, tb, ns, es0⟩ := c
  cases hK
  refine L2.PG.imp (pg_tup hc h hn hst) fun v σ H Q h => ?_
  obtain ⟨S, F, m, I, μ, e, d, Qd, he, hw, r, h, q⟩ := h
  cases r <;> try exact False.elim h
  rename_i a ds xs g r
  exact ⟨_, _, rfl, hw.tupH g, by rw [← r.length]; exact h.1, S, F, m, I, μ, e, ds, Qd, he, hw, r, h.2, q⟩
/-! what is walked -/
def iSeq (K : PySem.W.Frag) (tl : TE) : TI := fun σ H R => tl σ H fun x H1 => ∃ a xs, x = .ref a ∧ ((SqL K H1 a xs ∧ R (Itl K a) H1) ∨ (SqT K H1 a xs ∧ R (Itt K a) H1))
theorem pi_seq {tl : TE} (hl : PE X a tl) : PI X tg a (iSeq X.K tl) := by
  refine ⟨fun pins s σ H R I h => ?_⟩
  refine thn (hl.run pins s σ H _ I h) fun v s1 ⟨x, H1, I1, r1, q1⟩ => ?_
  obtain ⟨a, xs, e, q1⟩ := q1
  subst e
  cases r1
  rcases q1 with ⟨hq, q⟩ | ⟨hq, q⟩
  · obtain ⟨its, rv, p, hz⟩ := I1.list hq
    refine wpAny_pyIter_list p.isList ?_
    refine ⟨s1.heap.objs.size, [s1.heap.objs.size], _, _, H1, rfl, I1.kept (t' := s1.toks) fun b o e => Heap.get?_push_of_some _ e, turn_list a _, ⟨_, Heap.get?_push_size _ rfl, rfl, rfl⟩, fun b hb => ?_, q⟩
    have e : b = s1.heap.objs.size := by simpa using hb
    subst e
    exact I1.fpOk (Nat.le_refl _) (I1.hok.fresh (Nat.le_refl _))
  · obtain ⟨its, rv, p, hz⟩ := I1.tuple hq
    refine wpAny_pyIter_tuple (show s1.heap.IsTuple a its.toArray from p) ?_
    refine ⟨s1.heap.objs.size, [s1.heap.objs.size], _, _, H1, rfl, I1.kept (t' := s1.toks) fun b o e => Heap.get?_push_of_some _ e, turn_tuple a _, ⟨_, Heap.get?_push_size _ rfl, rfl, rfl⟩, fun b hb => ?_, q⟩
    have e : b = s1.heap.objs.size := by simpa using hb
    subst e
    exact I1.fpOk (Nat.le_refl _) (I1.hok.fresh (Nat.le_refl _))
theorem itd_list {S : Option SA} {I1 : Hp} {a : Addr} {ds : List D} {ok : Mu → Prop} (h : ∀ F n I μ H, Same I1 I → Wd c S F n I μ H → ok μ → ∃ xs, SqL c.K H a xs ∧ Reps c S I ds xs) : ItD c S (Itl c.K a) I1 ⟨ds, ok⟩ := fun F i n I μ H s w o => by
  obtain ⟨xs, hq, r⟩ := h F n I μ H s w o
  refine ⟨fun d hd => ?_, fun hd => ?_⟩
  · obtain ⟨x, hx, rx⟩ := r.get hd
    refine ⟨⟨xs, x, hq, hx⟩, fun v H' ⟨e1, y⟩ => ⟨I, Same.refl I, by rw [e1]; exact w, ?_⟩⟩
    have e2 := y xs hq
    rw [hx] at e2
    rw [← Option.some.inj e2]
    exact rx
  · refine ⟨xs, hq, ?_⟩
    rw [← r.length]
    exact List.getElem?_eq_none_iff.mp hd
theorem itd_tup {S : Option SA} {I1 : Hp} {a : Addr} {ds : List D} {ok : Mu → Prop} (h : ∀ F n I μ H, Same I1 I → Wd c S F n I μ H → ok μ → ∃ xs, SqT c.K H a xs ∧ Reps c S I ds xs) : ItD c S (Itt c.K a) I1 ⟨ds, ok⟩ := fun F i n I μ H s w o => by
  obtain ⟨xs, hq, r⟩ := h F n I μ H s w o
  refine ⟨fun d hd => ?_, fun hd => ?_⟩
  · obtain ⟨x, hx, rx⟩ := r.get hd
    refine ⟨⟨xs, x, hq, hx⟩, fun v H' ⟨e1, y⟩ => ⟨I, Same.refl I, by rw [e1]; exact w, ?_⟩⟩
    have e2 := y xs hq
    rw [hx] at e2
    rw [← Option.some.inj e2]
    exact rx
  · refine ⟨xs, hq, ?_⟩
    rw [← r.length]
    exact List.getElem?_eq_none_iff.mp hd
/-- a list or a tuple, as it is walked -/
theorem itd_sq {S : Option SA} {F : Hp} {n : Nat} {I H : Hp} {μ : Mu} {d : D} {v : V} {ds : List D} (w : Wd c S F n I μ H) (r : Rep c S I d v) (e : sqD μ d = some ds) : ∃ a xs, v = .ref a ∧ ((SqL c.K H a xs ∧ ItD c S (Itl c.K a) I ⟨ds, okS d ds⟩) ∨ (SqT c.K H a xs ∧ ItD c S (Itt c.K a) I ⟨ds, okS d ds⟩)) := by
  cases r with
  | list g r =>
    cases e
    exact ⟨_, _, rfl, .inl ⟨SqL.of (w.lst g), itd_list fun F n I2 μ2 H2 s2 w2 _ => ⟨_, SqL.of (w2.lst (s2 _ _ g)), r.mono s2⟩⟩⟩
  | tup g r =>
    cases e
    exact ⟨_, _, rfl, .inr ⟨w.tupH g, itd_tup fun F n I2 μ2 H2 s2 w2 _ => ⟨_, w2.tupH (Same.tup s2 g), r.mono s2⟩⟩⟩
  | script g =>
    cases e
    exact ⟨_, _, rfl, .inl ⟨w.seqH g, itd_list fun F n I2 μ2 H2 s2 w2 _ => ⟨_, w2.seqH (s2.seq g), Reps.of_ints⟩⟩⟩
  | cell =>
    obtain ⟨xs, h1, h2⟩ := w.cellL e
    refine ⟨_, _, rfl, .inl ⟨SqL.of h1, itd_list fun F n I2 μ2 H2 s2 w2 o => ?_⟩⟩
    obtain ⟨ys, h3, h4⟩ := w2.cellL o
    exact ⟨ys, SqL.of h3, h4⟩
  | _ => cases e
theorem gi_seq (ha : GE X c W k a wa) (hK : X.K = c.K := by rfl) : GI X c W k tg a (wiSeq wa) := by
  obtain ⟨K, cl, tb, ns, es0⟩ := c
  cases hK
  refine L2.PI.imp (pi_seq ha) fun σ H R h => ?_
  obtain ⟨S, F, n, I, μ, e, Qd, Xd, hl, he, hw, h, q, x⟩ := h
  refine ⟨S, F, n, I, μ, e, _, Xd, hl, he, hw, h, fun d μ1 v I1 H1 p s1 u1 r1 => ?_, x⟩
  dsimp only at p
  split at p
  · rename_i ds e1
    obtain ⟨a, xs, rfl, h1⟩ := itd_sq u1 r1 e1
    refine ⟨a, xs, rfl, ?_⟩
    rcases h1 with ⟨h1, h2⟩ | ⟨h1, h2⟩
    · exact .inl ⟨h1, q _ μ1 _ I1 H1 p s1 u1 h2⟩
    · exact .inr ⟨h1, q _ μ1 _ I1 H1 p s1 u1 h2⟩
  · exact p.elim
theorem rangeD_get (lo : Int) (n i : Nat) : (rangeD lo n)[i]? = if i < n then some (.int (lo + (i : Int))) else Option.none := by
  unfold rangeD
  rw [List.getElem?_map]
  by_cases h : i < n
  · rw [List.getElem?_range h, if_pos h]
    rfl
  · rw [List.getElem?_eq_none (by rw [List.length_range]; omega), if_neg h]
    rfl
theorem rangeD_len (lo : Int) (n : Nat) : (rangeD lo n).length = n := by
  unfold rangeD
  rw [List.length_map, List.length_range]
theorem itr_d {S : Option SA} {I : Hp} {ok : Mu → Prop} (lo : Int) (n : Nat) : ItD c S (Itr lo n) I ⟨rangeD lo n, ok⟩ := fun F i m I2 O2 H2 s2 w2 o => by
  show (∀ d, (rangeD lo n)[i]? = some d → _) ∧ ((rangeD lo n)[i]? = _ → _)
  rw [rangeD_get]
  by_cases h : i < n
  · rw [if_pos h]
    refine ⟨fun d hd => ⟨h, fun v H' ⟨e1, e2⟩ => ⟨I2, Same.refl I2, by rw [e1]; exact w2, ?_⟩⟩, fun hd => by cases hd⟩
    rw [← Option.some.inj hd, e2]
    exact .int
  · rw [if_neg h]
    refine ⟨fun d hd => (by cases hd), fun _ => ?_⟩
    show n ≤ i
    omega
theorem gi_rng1 {p : Pos} (hg : Gl X "range") (hm : X.mg "range" = none) (ha : GA X c W k [a] wr) (hs : starEach [a] X.env = [(false, eval a X.env)] := by rfl) : GI X c W k tg (.Call (.Name "range" p) [a] [] pos) (wiRng1 wr) := L2.PI.imp (pi_range1 hg hm ha hs) fun σ H R h => by
  obtain ⟨S, F, n, I, μ, e, Qd, Xd, hl, he, hw, h, q, x⟩ := h
  refine ⟨S, F, n, I, μ, e, _, Xd, hl, he, hw, h, fun ds μ1 vs I1 H1 p s1 u1 r1 => ?_, x⟩
  obtain ⟨z, rfl, p⟩ := one_cases p
  obtain ⟨j, rfl, p⟩ := int1_cases p
  obtain ⟨v, rfl, rv⟩ := reps1 r1
  cases rv
  exact ⟨j, rfl, p.1.1, p.1.2, q _ μ1 _ I1 H1 p.2 s1 u1 (itr_d 0 _)⟩
theorem gi_rng2 {p : Pos} (hg : Gl X "range") (hm : X.mg "range" = none) (ha : GA X c W k [a, b] wr) (hs : starEach [a, b] X.env = [(false, eval a X.env), (false, eval b X.env)] := by rfl) (hs2 : starEach [b] X.env = [(false, eval b X.env)] := by rfl) : GI X c W k tg (.Call (.Name "range" p) [a, b] [] pos) (wiRng2 wr) := L2.PI.imp (pi_range2 hg hm ha hs hs2) fun σ H R h => by
  obtain ⟨S, F, n, I, μ, e, Qd, Xd, hl, he, hw, h, q, x⟩ := h
  refine ⟨S, F, n, I, μ, e, _, Xd, hl, he, hw, h, fun ds μ1 vs I1 H1 p s1 u1 r1 => ?_, x⟩
  obtain ⟨z, z2, rfl, p⟩ := two_cases p
  obtain ⟨lo, rfl, p⟩ := int1_cases p
  obtain ⟨hi, rfl, p⟩ := int1_cases p
  obtain ⟨v, u, rfl, rv, ru⟩ := reps2 r1
  cases rv
  cases ru
  exact ⟨lo, hi, rfl, ⟨p.1.1, p.1.2, p.2.1.1, p.2.1.2⟩, q _ μ1 _ I1 H1 p.2.2 s1 u1 (itr_d lo _)⟩
/-! loops -/
theorem g_for {body : List Stmt} {kk : Nat} (hp : PassesOwn (model X.prog X.w) X.A X.env X.xe) (hi : GI X c W ka tg it wi) (hg : GG X c js tg g) (hb : GSs X c W kk body w1) (hc : X.calm = true := by rfl) (hs : ∀ x, foldedSetIterable it X.env x = pure x := by intro _; rfl) :
    GS X c W (ka + 2 ^ 63 * kk) (.For tg it body [] pos) (wFor wi g w1) := L2.PS.imp (ps_for hp hc hi hg hb hs) fun K σ H h => by
  obtain ⟨S, F, n, I, μ, e, E, hl, he, hw, h, q⟩ := h
  refine ⟨S, F, n, I, μ, e, _, _, by omega, he, hw, h, fun sr μ1 J I1 H1 p s1 u1 it1 => ?_, (q.x he).mono (by omega) (Same.refl I)⟩
  obtain ⟨hlen, p⟩ := p
  have hk : sr.xs.length * kk ≤ 2 ^ 63 * kk := Nat.mul_le_mul_right kk hlen
  refine ⟨fun i r σ' H' => r = sr.xs.length - i ∧ i ≤ sr.xs.length ∧ ∃ e' μ' I', Same I1 I' ∧ EnvR c S I' e' σ' ∧ Wd c S F (n + ka + i * kk) I' μ' H' ∧ goFor sr.ok g w1 (sr.xs.drop i) e' μ' E,
    ⟨sr.xs.length, by omega, Nat.zero_le _, e, μ1, I1, Same.refl I1, he.mono s1, by rw [Nat.zero_mul, Nat.add_zero]; exact u1, p⟩, ?_⟩
  rintro i r σ2 H2 ⟨rfl, hi, e2, μ2, I2, s2, r2, u2, p2⟩
  by_cases hlt : i < sr.xs.length
  · have hx1 : sr.xs[i]? = some sr.xs[i] := List.getElem?_eq_getElem hlt
    rw [List.drop_eq_getElem_cons hlt] at p2
    obtain ⟨ok2, p2⟩ := p2
    obtain ⟨hgo, hy⟩ := (it1 F i _ I2 μ2 H2 s2 u2 ok2).1 _ hx1
    refine .inr ⟨hgo, fun σ' H' => ∃ e' μ' I', Same I1 I' ∧ EnvR c S I' e' σ' ∧ Wd c S F (n + ka + (i + 1) * kk) I' μ' H' ∧ goFor sr.ok g w1 (sr.xs.drop (i + 1)) e' μ' E, fun σ' H' z => ⟨sr.xs.length - (i + 1), by omega, rfl, hlt, z⟩, fun x H3 yl => ?_⟩
    obtain ⟨I3, s3, u3, r3⟩ := hy x H3 yl
    have hmul : (i + 1) * kk = i * kk + kk := by rw [Nat.add_mul, Nat.one_mul]
    have hle : (i + 1) * kk ≤ sr.xs.length * kk := Nat.mul_le_mul_right kk hlt
    refine ⟨S, F, _, I3, μ2, e2, _, _, r2.mono s3, u3, r3, p2, fun e4 σ4 p4 r4 _ _ => ?_⟩
    refine ⟨S, F, n + ka + i * kk, I3, μ2, e4, _, by omega, r4, u3, p4, ?_⟩
    have q3 := q.mono (n' := n + ka + i * kk + kk) (by omega) ((s1.trans s2).trans s3)
    refine ⟨fun e5 μ5 σ5 I5 H5 p5 s5 r5 u5 => ⟨e5, μ5, I5, (s2.trans s3).trans s5, r5, u5.up (by omega), p5⟩, q3.rt, q3.nx, fun e5 μ5 σ5 I5 H5 p5 s5 r5 u5 => ⟨e5, μ5, I5, (s2.trans s3).trans s5, r5, u5.up (by omega), p5⟩, q3.xp⟩
  · have e0 : i = sr.xs.length := by omega
    subst e0
    rw [List.drop_length] at p2
    obtain ⟨ok2, p2⟩ := p2
    exact .inl ⟨(it1 F _ _ I2 μ2 H2 s2 u2 ok2).2 (List.getElem?_eq_none_iff.mpr (Nat.le_refl _)), q.nx e2 μ2 σ2 I2 H2 p2 (s1.trans s2) r2 (u2.up (by omega))⟩
theorem g_while {body : List Stmt} {kt kk : Nat} (hp : PassesOwn (model X.prog X.w) X.A X.env X.xe) (ht : GT X c W kt a wt) (hb : GSs X c W kk body w1) : GS X c W (2 ^ 63 * (kt + kk)) (.While a body [] pos) (wWhile wt w1) := L2.PS.imp (ps_while hp ht hb) fun K σ H h => by
  obtain ⟨S, F, n, I, μ, e, E, hl, he, hw, ⟨N, hN, h⟩, q⟩ := h
  have hk : N * (kt + kk) ≤ 2 ^ 63 * (kt + kk) := Nat.mul_le_mul_right _ hN
  refine ⟨fun r σ' H' => r ≤ N ∧ ∃ e' μ' I', Same I I' ∧ EnvR c S I' e' σ' ∧ Wd c S F (n + (N - r) * (kt + kk)) I' μ' H' ∧ goWhile wt w1 r e' μ' E, ⟨N, Nat.le_refl _, e, μ, I, Same.refl I, he, by rw [Nat.sub_self, Nat.zero_mul, Nat.add_zero]; exact hw, h⟩, ?_⟩
  rintro r σ2 H2 ⟨hr, e2, μ2, I2, s2, r2, u2, p2⟩
  cases r with
  | zero => exact p2.elim
  | succ r =>
    have hmul : (N - r) * (kt + kk) = (N - (r + 1)) * (kt + kk) + (kt + kk) := by rw [show N - r = N - (r + 1) + 1 by omega, Nat.add_mul, Nat.one_mul]
    have hle : (N - r) * (kt + kk) ≤ N * (kt + kk) := Nat.mul_le_mul_right _ (by omega)
    refine ⟨S, F, n + (N - (r + 1)) * (kt + kk), I2, μ2, e2, _, _, by omega, r2, u2, p2, fun b μ3 I3 H3 p3 s3 u3 => ?_, ((q.mono (n' := n + 2 ^ 63 * (kt + kk)) (Nat.le_refl _) s2).x r2).mono (by omega) (Same.refl I2)⟩
    refine ite_b p3 (fun _ p4 => ⟨fun σ' H' => ∃ e' μ' I', Same I I' ∧ EnvR c S I' e' σ' ∧ Wd c S F (n + (N - r) * (kt + kk)) I' μ' H' ∧ goWhile wt w1 r e' μ' E, fun σ' H' z => ⟨r, Nat.lt_succ_self r, by omega, z⟩, ?_⟩) fun _ p4 => q.nx e2 μ3 σ2 I3 H3 p4 (s2.trans s3) (r2.mono s3) (u3.up (by omega))
    refine ⟨S, F, n + (N - (r + 1)) * (kt + kk) + kt, I3, μ3, e2, _, by omega, r2.mono s3, u3, p4, ?_⟩
    have q3 := q.mono (n' := n + (N - (r + 1)) * (kt + kk) + kt + kk) (by omega) (s2.trans s3)
    exact ⟨fun e5 μ5 σ5 I5 H5 p5 s5 r5 u5 => ⟨e5, μ5, I5, (s2.trans s3).trans s5, r5, u5.up (by omega), p5⟩, q3.rt, q3.nx, fun e5 μ5 σ5 I5 H5 p5 s5 r5 u5 => ⟨e5, μ5, I5, (s2.trans s3).trans s5, r5, u5.up (by omega), p5⟩, q3.xp⟩
end
/-! ### comprehensions -/
theorem wipe_eq {σ σ' : L2.St} (hl : σ'.length = σ.length) : ∀ {vs : List Nat}, (∀ i, i ∉ vs → σ'[i]? = σ[i]?) → wipe σ' vs = wipe σ vs := by
  intro vs h
  have key : ∀ (vs : List Nat) (σ : L2.St) (i : Nat), (wipe σ vs)[i]? = if i ∈ vs then (if i < σ.length then some Option.none else Option.none) else σ[i]? := by
    intro vs
    induction vs with
    | nil =>
      intro σ i
      rw [if_neg (by simp)]
      rfl
    | cons a vs ih =>
      intro σ i
      show ((wipe σ vs).set a Option.none)[i]? = _
      by_cases hi : a = i
      · subst hi
        rw [if_pos List.mem_cons_self]
        by_cases hv : a < σ.length
        · rw [if_pos hv, List.getElem?_set_self (by rw [wipe_length]; exact hv)]
        · rw [if_neg hv, List.getElem?_eq_none (by rw [List.length_set, wipe_length]; omega)]
      · rw [List.getElem?_set_ne hi, ih]
        by_cases hm : i ∈ vs
        · rw [if_pos hm, if_pos (List.mem_cons_of_mem _ hm)]
        · rw [if_neg hm, if_neg (by
            intro z
            rcases List.mem_cons.mp z with z | z
            · exact hi z.symm
            · exact hm z)]
  refine List.ext_getElem? fun i => ?_
  rw [key, key, hl]
  by_cases hm : i ∈ vs
  · rw [if_pos hm, if_pos hm]
  · rw [if_neg hm, if_neg hm]
    exact h i hm
theorem wipe_get {σ : L2.St} {vs : List Nat} {i : Nat} (h : i ∉ vs) : (wipe σ vs)[i]? = σ[i]? := by
  induction vs with
  | nil => rfl
  | cons a vs ih =>
    show ((wipe σ vs).set a Option.none)[i]? = _
    rw [List.getElem?_set_ne (fun z => h (by rw [z]; exact List.mem_cons_self)), ih fun z => h (List.mem_cons_of_mem _ z)]
abbrev W0 : WX := fun _ _ _ _ => False
section
variable {X : Cx} {c : Ctx} {W : WX} {k ka kb kc kt kk : Nat} {m : Bool} {js : List Nat} {g : WG} {wi : WI} {wt : WT} {wa : WE} {vs : List Nat}
/-- one more thing is left alone -/
theorem Wd.leave {S : Option SA} {F : Hp} {n : Nat} {I H : Hp} {μ : Mu} {p : Addr} {o : HO} (w : Wd c S F n I μ H) (h : H p = some o) (hi : I p = none) (hm : μ p = none) (ho : notTX o) (hc : ∀ a, S = some a → ¬ Cell a p) : Wd c S (upd F p o) n I μ H := ⟨w.i, w.m, w.s, w.ni, fun b u e => by
  by_cases z : b = p
  · subst z
    rw [upd_same] at e
    cases e
    exact ⟨h, hi, hm, ho, hc⟩
  · rw [upd_ne z] at e
    exact w.f b u e, w.z⟩
/-- what is left alone changes -/
theorem Wd.turn {S : Option SA} {F : Hp} {n : Nat} {I H : Hp} {μ : Mu} {p : Addr} {o u : HO} (w : Wd c S (upd F p o) n I μ H) (hu : notTX u) : Wd c S (upd F p u) n I μ (upd H p u) := by
  obtain ⟨h1, h2, h3, h4, h5⟩ := w.f p o upd_same
  refine ⟨fun b v e => ?_, fun b nd e => ?_, fun a e => ⟨?_, (w.s a e).2⟩, w.ni, fun b v e => ?_, w.z⟩
  · rw [upd_ne (ne_of_none e h2)]
    exact w.i b v e
  · obtain ⟨g1, v, g2, g3⟩ := w.m b nd e
    refine ⟨g1, v, g2, ?_⟩
    rw [upd_ne fun z => ?_]
    · exact g3
    · rw [z, h3] at e
      cases e
  · refine (w.s a e).1.keep (fun b q => upd_ne fun (z : b = p) => h5 a e (z ▸ q)) fun b φ z => ?_
    rw [upd_ne fun q => ?_]
    · exact z
    · rw [q, h1] at z
      cases z
      exact h4
  · by_cases z : b = p
    · subst z
      rw [upd_same] at e ⊢
      cases e
      exact ⟨rfl, h2, h3, hu, h5⟩
    · have e2 : upd F p o b = some v := by
        rw [upd_ne z] at e ⊢
        exact e
      rw [upd_ne z]
      exact w.f b v e2
theorem ld_lc {σ : L2.St} {H : Hp} {Q : VK} (hjs : ∀ i ∈ js, i ∈ vs) (h : ldE c W (ka + sizeLine * (kt + kk)) (wLc m wi g wt wa vs) σ H Q) : tLc (ldI c W ka wi) (ldG c js g) (ldT c W0 kt wt) (ldE c W0 kk wa) vs σ H Q := by
  obtain ⟨S, F, n, I, μ, e, Qd, Xd, hl, he, hw, h, q, x⟩ := h
  refine ⟨S, F, n, I, μ, e, _, Xd, by omega, he, hw, h, fun sr μ1 J I1 H1 p s1 u1 it1 Dl hD => ?_, x.mono (by omega) (Same.refl I)⟩
  obtain ⟨hlen, p⟩ := p
  have hk : sr.xs.length * (kt + kk) ≤ sizeLine * (kt + kk) := Nat.mul_le_mul_right _ hlen
  have fD := u1.fresh hD
  have nD := u1.no_cell hD
  have nF := u1.nf hD
  refine ⟨fun i r H' => r = sr.xs.length - i ∧ i ≤ sr.xs.length ∧ ∃ I' μ' acc ds, Same I1 I' ∧ Wd c S (upd F Dl (.lst acc)) (n + ka + i * (kt + kk)) I' μ' H' ∧ Reps c S I' ds acc ∧ ds.length ≤ i ∧ goLc sr.ok g wt wa (wipeE e vs) (fun _ _ => False) (sr.xs.drop i) ds μ' fun ds μ2 => sett m Qd (.n (.list ds)) μ2,
    ⟨sr.xs.length, by omega, Nat.zero_le _, I1, μ1, [], [], Same.refl I1, by rw [Nat.zero_mul, Nat.add_zero]; exact (u1.frame hD).leave upd_same fD.1 fD.2 trivial nD, .nil, Nat.le_refl _, p⟩, ?_⟩
  rintro i r H2 ⟨rfl, hi, I2, μ2, acc, ds, s2, u2, r2, l2, p2⟩
  by_cases hlt : i < sr.xs.length
  · have hx1 : sr.xs[i]? = some sr.xs[i] := List.getElem?_eq_getElem hlt
    rw [List.drop_eq_getElem_cons hlt] at p2
    obtain ⟨ok2, p2⟩ := p2
    obtain ⟨hgo, hy⟩ := (it1 _ i _ I2 μ2 H2 s2 u2 ok2).1 _ hx1
    refine .inr ⟨hgo, fun H' => ∃ I' μ' acc ds, Same I1 I' ∧ Wd c S (upd F Dl (.lst acc)) (n + ka + (i + 1) * (kt + kk)) I' μ' H' ∧ Reps c S I' ds acc ∧ ds.length ≤ i + 1 ∧ goLc sr.ok g wt wa (wipeE e vs) (fun _ _ => False) (sr.xs.drop (i + 1)) ds μ' fun ds μ2 => sett m Qd (.n (.list ds)) μ2, fun H' z => ⟨sr.xs.length - (i + 1), by omega, rfl, hlt, z⟩, fun v H3 yl => ?_⟩
    obtain ⟨I3, s3, u3, r3⟩ := hy v H3 yl
    have hmul : (i + 1) * (kt + kk) = i * (kt + kk) + (kt + kk) := by rw [Nat.add_mul, Nat.one_mul]
    have hle : (i + 1) * (kt + kk) ≤ sr.xs.length * (kt + kk) := Nat.mul_le_mul_right _ hlt
    have he3 := EnvR.wipe vs (he.mono ((s1.trans s2).trans s3))
    refine ⟨S, _, _, I3, μ2, wipeE e vs, _, _, he3, u3, r3, p2, fun e4 σ4 p4 r4 k4 l4 => ⟨?_, ?_⟩⟩
    · have e1 : wipe σ4 vs = wipe (wipe σ vs) vs := wipe_eq l4 fun j hj => k4 j fun z => hj (hjs j z)
      rw [e1]
      exact wipe_eq (wipe_length σ vs) fun j hj => wipe_get hj
    · refine ⟨S, _, n + ka + i * (kt + kk), I3, μ2, e4, _, _, by omega, r4, u3, p4, fun b μ5 I5 H5 p5 s5 u5 => ?_, fun d μ' cls dx I' H' z => z.elim⟩
      refine ite_b p5 (fun _ p6 => ?_) fun _ p6 => ⟨I5, μ5, acc, ds, (s2.trans s3).trans s5, u5.up (by omega), r2.mono (s3.trans s5), by omega, p6⟩
      refine ⟨S, _, n + ka + i * (kt + kk) + kt, I5, μ5, e4, _, _, by omega, r4.mono s5, u5, p6, fun d μ7 v7 I7 H7 p7 s7 u7 r7 => ?_, fun d μ' cls dx I' H' z => z.elim⟩
      have r8 := r2.mono ((s3.trans s5).trans s7)
      refine ⟨acc, (u7.f Dl _ upd_same).1, by rw [← r8.length]; omega, I7, μ7, acc ++ [v7], ds ++ [d], ((s2.trans s3).trans s5).trans s7, (u7.turn (u := .lst (acc ++ [v7])) trivial).up (by omega), r8.append (.cons r7 .nil), by rw [List.length_append]; show ds.length + 1 ≤ i + 1; omega, p7⟩
  · have e0 : i = sr.xs.length := by omega
    subst e0
    rw [List.drop_length] at p2
    obtain ⟨ok2, p2⟩ := p2
    refine .inl ⟨(it1 _ _ _ I2 μ2 H2 s2 u2 ok2).2 (List.getElem?_eq_none_iff.mpr (Nat.le_refl _)), ?_⟩
    obtain ⟨h1, h2, h3, h4, h5⟩ := u2.f Dl _ upd_same
    refine (q.sett (m := m)) _ μ2 _ I2 H2 p2 (s1.trans s2) ((u2.less fun b o e => ?_).up (by omega)) ⟨Dl, _, rfl, h1, .list r2, h2, h3, h5, nF⟩
    rw [upd_ne (ne_of_none e nF)]
    exact e
theorem gt_yes {X' : Cx} : PTs X' [] (ldT c W0 0 wYes) := ⟨fun pins s σ H Q J h => pts_nil.run pins s σ H Q J (by
  obtain ⟨S, F, n, I, μ, e, Qd, Xd, hl, he, hw, h, q, x⟩ := h
  exact q true μ I H h (Same.refl I) hw)⟩
theorem gt_one {X' : Cx} {a : Expr} (h : GT X' c W0 k a wt) : PTs X' [a] (ldT c W0 k wt) := pts_one h
theorem g_lc {elt tg iter : Expr} {ifs : List Expr} {scope : Scope} {own : List (Str × Nat)} {pos : Pos} (hN : X.N.Nodup) (hi : GI X c W ka tg iter wi) (ok : BlkOk X.N X.env.scope scope own)
    (hg : ∀ (s : Shared) (H : Hp) (C : Addr) (cl : List (Str × Addr)) (fp : List Addr), GG (X.blk s H scope (compEnvC scope cl C X.env) fp) c js tg g) (ht : ∀ (s : Shared) (H : Hp) (C : Addr) (cl : List (Str × Addr)) (fp : List Addr), PTs (X.blk s H scope (compEnvC scope cl C X.env) fp) ifs (ldT c W0 kt wt))
    (he : ∀ (s : Shared) (H : Hp) (C : Addr) (cl : List (Str × Addr)) (fp : List Addr), GE (X.blk s H scope (compEnvC scope cl C X.env) fp) c W0 kk elt wa) (hjs : ∀ i ∈ js, i ∈ own.map (·.2) := by decide) (hc : X.calm = true := by rfl) (hs : ∀ x, foldedSetIterable iter X.env x = pure x := by intro _; rfl) :
    GE X c W (ka + sizeLine * (kt + kk)) (.ListComp elt [⟨tg, iter, ifs, 0⟩] scope pos) (wLc m wi g wt wa (own.map (·.2))) := L2.PE.imp (pe_lc hc hN hi ok hg ht he hs) fun σ H Q h => ld_lc hjs h
theorem g_setLc {i : Nat} {y : Str} {py : Pos} {elt tg iter : Expr} {ifs : List Expr} {scope : Scope} {own : List (Str × Nat)} {pos spos : Pos} (hN : X.N.Nodup) (hy : X.N[i]? = some y) (hyl : X.env.scope.names.lookup y = some .local)
    (hsw : swapsWith (.ListComp elt [⟨tg, iter, ifs, 0⟩] scope pos) (some (.Name y py)) spos.line X.env = pure true) (hi : GI X c W ka tg iter wi) (ok : BlkOk X.N X.env.scope scope own)
    (hg : ∀ (s : Shared) (H : Hp) (C : Addr) (cl : List (Str × Addr)) (fp : List Addr), GG (X.blk s H scope (compEnvC scope cl C X.env) fp) c js tg g) (ht : ∀ (s : Shared) (H : Hp) (C : Addr) (cl : List (Str × Addr)) (fp : List Addr), PTs (X.blk s H scope (compEnvC scope cl C X.env) fp) ifs (ldT c W0 kt wt))
    (he : ∀ (s : Shared) (H : Hp) (C : Addr) (cl : List (Str × Addr)) (fp : List Addr), GE (X.blk s H scope (compEnvC scope cl C X.env) fp) c W0 kk elt wa) (hjs : ∀ i ∈ js, i ∈ own.map (·.2) := by decide) (hc : X.calm = true := by rfl) (hs : ∀ x, foldedSetIterable iter X.env x = pure x := by intro _; rfl) :
    GS X c W (ka + sizeLine * (kt + kk)) (.Assign [.Name y py] (.ListComp elt [⟨tg, iter, ifs, 0⟩] scope pos) spos) (wAsg i (wLc m wi g wt wa (own.map (·.2)))) := L2.PS.imp (ps_setLc hc hN hy hyl hsw hi ok hg ht he hs) fun K σ H h => by
  have h1 := ld_asg h
  exact ld_lc hjs h1
end
end DL

set_option Elab.async false
set_option linter.all false
set_option maxRecDepth 100000
set_option maxHeartbeats 4000000
/-! Y1: rules of the machine for operators of own classes; the head's facts. -/
namespace DL
open PySem PySem.Calls PyProof.Rows L2
section
variable {prog : Program} {w : World} {A : Around} {E : Value → Shared → Prop} {s : Shared} {K : PySem.W.Frag} {x y C f : Addr} {ox oy : Obj} {od od' : Option Obj}
open PySem.W in
theorem bin_same {op : Operator} {Q : Value → Shared → Prop} (X : K.In s.heap) (I : InstAt s.heap x ox C od) (Iy : InstAt s.heap y oy C od') (hc : selfFirst K C = true)
    (hs : findIn K (.ref C) (PySem.dunder op.info.2) = some (some (.ref f))) (hf : isFn K (.ref f) = true)
    (h : wpAny (model prog w) A (call (.ref f) [.ref x, .ref y]) (PySem.W.CmpBack Q) E s) : wpAny (model prog w) A (binaryOp op (.ref x) (.ref y)) Q E s := by
  obtain ⟨cd, rest, hcd, hm⟩ := ksp_first hc
  rcases hi : op.info with ⟨sym, nm'⟩
  rw [hi] at hs
  dsimp only at hs
  have one := ksp_try X I hs hf h
  obtain ⟨hh, g, d, tt, os⟩ := s
  have L1 : Looks (model prog w) hh (typeOf (.ref x)) (.ref C) := I.type
  have L2 : Looks (model prog w) hh (typeOf (.ref y)) (.ref C) := Iy.type
  have L3 : Looks (model prog w) hh (fillsNumberSlot (.ref C) nm') true := fills_K X hcd hm hs
  simp only [binaryOp, hi]
  refine wpAny_holding (wpAny_bind ?_)
  unfold binaryOp1
  refine wpAny_bind (L1.at (wpAny_bind (L2.at (wpAny_bind (L3.at ?_)))))
  simp only [beq_self_eq_true, if_true]
  ksp_lk
  refine wpAny_mono one (fun r s' hr' => ?_) fun _ _ e => e
  obtain ⟨v, rfl, hq⟩ := hr'
  ksp_lk
  exact hq
open PySem.W in
theorem un_own {op : UnaryOp} {nm : Str} {Q : Value → Shared → Prop} (hop : (op = .USub ∧ nm = "__neg__") ∨ (op = .Invert ∧ nm = "__invert__")) (X : K.In s.heap) (I : InstAt s.heap x ox C od) (hs : findIn K (.ref C) nm = some (some (.ref f))) (hf : isFn K (.ref f) = true)
    (h : wpAny (model prog w) A (call (.ref f) [.ref x]) Q E s) : wpAny (model prog w) A (unaryOp op (.ref x)) Q E s := by
  rcases hop with ⟨rfl, rfl⟩ | ⟨rfl, rfl⟩
  · unfold unaryOp
    refine wpAny_holding ?_
    exact wpAny_bind (special_fn X I hs (beq_iff_eq.mp hf) (wpAny_mono h (fun _ _ z => wpAny_pure z) fun _ _ z => z))
  · unfold unaryOp
    refine wpAny_holding ?_
    exact wpAny_bind (special_fn X I hs (beq_iff_eq.mp hf) (wpAny_mono h (fun _ _ z => wpAny_pure z) fun _ _ z => z))
open PySem.W in
theorem item_own {i : Value} {Q : Value → Shared → Prop} (X : K.In s.heap) (I : InstAt s.heap x ox C od) (hq : noSeq K C = true) (hs : findIn K (.ref C) "__getitem__" = some (some (.ref f))) (hf : isFn K (.ref f) = true)
    (h : wpAny (model prog w) A (call (.ref f) [.ref x, i]) Q E s) : wpAny (model prog w) A (getItem (.ref x) i) Q E s := by
  unfold getItem sequenceKey
  refine wpAny_holding (wpAny_bind (wpAny_bind (I.type.here ?_)))
  refine wpAny_bind ((anyM_none X hq).here ?_)
  rw [if_pos (show (!false) = true from rfl)]
  exact wpAny_pure (wpAny_bind (special_fn X I hs (beq_iff_eq.mp hf) (wpAny_mono h (fun _ _ z => wpAny_pure z) fun _ _ z => z)))
open PySem.W in
theorem cmp_own {op : CmpOp} {b tb : Value} {Q : Value → Shared → Prop} (hu : A.units < cLine) (X : K.In s.heap) (I : InstAt s.heap x ox C od) (hb : Looks (model prog w) s.heap (typeOf b) tb) (hn : notFirst K C tb = true)
    (hs : findIn K (.ref C) (cmpInfo op).2.1 = some (some (.ref f))) (hf : isFn K (.ref f) = true)
    (h : wpAny (model prog w) A (call (.ref f) [.ref x, b]) (PySem.W.CmpBack Q) E s) : wpAny (model prog w) A (richCompare op (.ref x) b) Q E s := by
  have one : wpAny (model prog w) A (tryCompare (.ref x) (cmpInfo op).2.1 b) (fun r s' => ∃ v, r = some v ∧ Q v s') E s := by
    unfold tryCompare
    refine wpAny_bind (ifBound_K X I hs hf (wpAny_mono h (fun v s' hv => ?_) fun _ _ e => e))
    cases v <;> first | exact hv.elim | exact wpAny_pure ⟨_, rfl, hv⟩
  unfold richCompare
  simp only [oneThing_ref]
  refine wpAny_holding (wpAny_bind (wpAny_cRoomFor hu ?_))
  refine wpAny_bind (I.type.here (wpAny_bind (hb.here ?_)))
  split
  · rename_i q
    have e : subIn K tb (.ref C) = some false := by
      rcases Bool.or_eq_true_iff.mp hn with e | e
      · rw [beq_iff_eq.mp e] at q; simp at q
      · exact beq_iff_eq.mp e
    refine wpAny_bind ((looks_subIn X e).here ?_)
    simp only [Bool.false_eq_true, if_false]
    refine wpAny_bind (wpAny_mono one (fun r s' z => ?_) fun _ _ e => e)
    obtain ⟨v, rfl, hq⟩ := z
    exact wpAny_pure hq
  · refine wpAny_bind (wpAny_pure ?_)
    simp only [Bool.false_eq_true, if_false]
    refine wpAny_bind (wpAny_mono one (fun r s' z => ?_) fun _ _ e => e)
    obtain ⟨v, rfl, hq⟩ := z
    exact wpAny_pure hq
end
/-! ### over the layer -/
/-- what a class has a special method by -/
structure Spl (K : PySem.W.Frag) (C : Addr) (nm : Str) (f : Addr) : Prop where
  at_ : PySem.W.findIn K (.ref C) nm = some (some (.ref f))
  fn : PySem.W.isFn K (.ref f) = true
theorem cmpBack_of {X : Cx} {pins : List (Addr × Obj)} {σ : L2.St} {Q : VK} {u : Value} {s' : Shared} (h : EP X pins σ Q u s') : PySem.W.CmpBack (EP X pins σ Q) u s' := by
  obtain ⟨v, H', I, r, q⟩ := h
  cases v with
  | non => cases r; exact ⟨.non, H', I, rfl, q⟩
  | bl b => cases r; exact ⟨.bl b, H', I, rfl, q⟩
  | int i => obtain ⟨t, rfl⟩ := r; exact ⟨.int i, H', I, ⟨t, rfl⟩, q⟩
  | str z => obtain ⟨t, rfl⟩ := r; exact ⟨.str z, H', I, ⟨t, rfl⟩, q⟩
  | byt z => obtain ⟨t, rfl⟩ := r; exact ⟨.byt z, H', I, ⟨t, rfl⟩, q⟩
  | flt z => obtain ⟨t, rfl⟩ := r; exact ⟨.flt z, H', I, ⟨t, rfl⟩, q⟩
  | ref a => cases r; exact ⟨.ref a, H', I, rfl, q⟩
  | ty n => cases r; exact ⟨.ty n, H', I, rfl, q⟩
open PySem.W in
theorem sub_own {prog : Program} {w : PySem.World} {A : Around} {Ex : Value → Shared → Prop} {s : Shared} {K : PySem.W.Frag} {x C f : Addr} {ox : Obj} {od : Option Obj} {value slice : Expr} {i : Value} {Q : Value → Shared → Prop} (X : K.In s.heap) (I : InstAt s.heap x ox C od) (hs : findIn K (.ref C) "__getitem__" = some (some (.ref f))) (hf : fnIn K f = true) (hfn : isFn K (.ref f) = true)
    (h : wpAny (model prog w) A.in1 (call (.ref f) [.ref x, i]) Q Ex s) (hsl : subscripted slice true (.ref x) i = runValue (.builtin "lifetime.subscript" ⟨[.ref x, i], []⟩)) :
    wpAny (model prog w) A (subscriptTail value slice (.ref x) i) Q Ex s := by
  unfold fnIn at hf
  split at hf
  · rename_i e
    unfold subscriptTail getitemInPython
    refine wpAny_bind (wpAny_bind (wpAny_bind (I.type.here ((looks_findIn X hs).here ?_))))
    dsimp only
    refine wpAny_bind (wpAny_load (X _ _ e) (wpAny_pure ?_))
    dsimp only
    rw [hsl]
    refine wpAny_bind (wpAny_runValue (codeAny_builtin entry_sub ?_))
    unfold Builtin.«lifetime.subscript»
    refine wpAny_bind (special_fn X I hs (beq_iff_eq.mp hfn) (wpAny_mono h (fun v s' z => ?_) fun _ _ z => z))
    refine wpAny_pure ?_
    show wpAny (model prog w) A (letTemporaryGo value (.ref x) v >>= fun _ => pure v) Q Ex s'
    exact wpAny_bind (wpAny_letTemporaryGo (wpAny_pure z))
  · cases hf
section
variable {prog : Program} {w : PySem.World} {A : Around} {E : Value → Shared → Prop} {s : Shared} {K : PySem.W.Frag} {x y C f : Addr} {ox oy : Obj} {od od' : Option Obj}
open PySem.W in
theorem ne_entry {b : Value} {Q : Fin → Shared → Prop} (hu : A.units < cLine) (X : K.In s.heap) (I : InstAt s.heap x ox C od) (hs : findIn K (.ref C) "__eq__" = some (some (.ref f))) (hf : isFn K (.ref f) = true)
    (h : wpAny (model prog w) A (call (.ref f) [.ref x, b]) (fun v s' => ∃ r, v = .bool r ∧ Q (.done (.ret (.bool (!r)))) s') E s) : wpAny (model prog w) A (Builtin.«object.__ne__» ⟨[.ref x, b], []⟩) Q E s := by
  obtain ⟨hh, g, d, tt, os⟩ := s
  unfold Builtin.«object.__ne__»
  repeat (first
    | with_reducible refine wpAny_cRoomFor hu ?_
    | (refine wpAny_bind (m := callSpecialIfBound? (.ref x) (Str.ofString "__eq__") [b]) (ifBound_K X I hs hf (wpAny_mono h (fun r s' z => by
          obtain ⟨q, rfl, hq⟩ := z
          repeat (first | exact hq | exact wpAny_pure hq | (refine wpAny_bind (m := truthy (.bool _)) (wpAny_truthy_bool ?_)) | wp_step)) fun _ _ z => z)))
    | wp_step)
open PySem.W in
theorem ne_own {b tb : Value} {Q : Value → Shared → Prop} (hu : A.units + 1 < cLine) (X : K.In s.heap) (I : InstAt s.heap x ox C od) (hb : Looks (model prog w) s.heap (typeOf b) tb) (hn : notFirst K C tb = true) (hne : findIn K (.ref C) "__ne__" = some (some (.builtin "object.__ne__")))
    (hob : mroIn K C (.type "object") = some true) (hs : findIn K (.ref C) "__eq__" = some (some (.ref f))) (hf : isFn K (.ref f) = true)
    (h : wpAny (model prog w) A.in1 (call (.ref f) [.ref x, b]) (fun v s' => ∃ r, v = .bool r ∧ Q (.bool (!r)) s') E s) : wpAny (model prog w) A (richCompare .NotEq (.ref x) b) Q E s := by
  have inst : Looks (model prog w) s.heap (isInstance (.ref x) (.type "object")) true := I.type.andThen (looks_mroIn X hob)
  have go : wpAny (model prog w) A (call (.builtin "object.__ne__") [.ref x, b]) (fun v s' => ∃ r, v = .bool r ∧ Q v s') E s := by
    refine wpAny_call (codeAny_call_builtin F.cmp_object.ne.plain F.cmpEntry_ne (check_slot F.cmpKind_ne F.cmpSplit_ne inst (F.cmpArgs_ne _ _) (ne_entry (A := A.in1) hu X I hs hf (wpAny_mono h (fun v s' z => ?_) fun _ _ z => z))))
    obtain ⟨r, rfl, hq⟩ := z
    exact ⟨r, rfl, !r, rfl, hq⟩
  have one : wpAny (model prog w) A (tryCompare (.ref x) "__ne__" b) (fun r s' => ∃ v, r = some v ∧ Q v s') E s := by
    unfold tryCompare
    simp only [callSpecialIfBound?, bindSpecialIfBound?]
    refine wpAny_bind (wpAny_holding (wpAny_bind (wpAny_bind (wpAny_bind (I.type.here ((looks_findIn X hne).here ?_))))))
    simp only [F.cmp_object.ne.bind]
    refine wpAny_bind (wpAny_askSetting (wpAny_ite ?_))
    have fin : wpAny (model prog w) A (call (.builtin "object.__ne__") ([.ref x] ++ [b]) >>= fun v => pure (some v)) (fun o s' => wpAny (model prog w) A (match o with | some .notImplemented | none => pure none | some v => pure (some v)) (fun r s' => ∃ v, r = some v ∧ Q v s') E s') E s :=
      wpAny_bind (wpAny_mono go (fun v s' z => by
        obtain ⟨r, rfl, hq⟩ := z
        exact wpAny_pure (wpAny_pure ⟨_, rfl, hq⟩)) fun _ _ z => z)
    split
    · exact wpAny_bind (wpAny_pure (wpAny_pure fin))
    · exact wpAny_tryCatch (wpAny_bind (wpAny_pure (wpAny_pure fin)))
  unfold richCompare
  simp only [oneThing_ref]
  refine wpAny_holding (wpAny_bind (wpAny_cRoomFor (Nat.lt_of_succ_lt hu) ?_))
  rw [cmpInfo_NotEq]
  dsimp only
  refine wpAny_bind (I.type.here (wpAny_bind (hb.here ?_)))
  split
  · rename_i q
    have e : subIn K tb (.ref C) = some false := by
      rcases Bool.or_eq_true_iff.mp hn with e | e
      · rw [beq_iff_eq.mp e] at q; simp at q
      · exact beq_iff_eq.mp e
    refine wpAny_bind ((looks_subIn X e).here ?_)
    simp only [Bool.false_eq_true, if_false]
    refine wpAny_bind (wpAny_mono one (fun r s' z => ?_) fun _ _ e => e)
    obtain ⟨v, rfl, hq⟩ := z
    exact wpAny_pure hq
  · refine wpAny_bind (wpAny_pure ?_)
    simp only [Bool.false_eq_true, if_false]
    refine wpAny_bind (wpAny_mono one (fun r s' z => ?_) fun _ _ e => e)
    obtain ⟨v, rfl, hq⟩ := z
    exact wpAny_pure hq
/-- int.__mul__ declines an own thing -/
theorem int_mul_own (i : Int) (t : Tok) (x C dx : Addr) : Meets (Builtin.«int.__mul__» ⟨[.int i t, .ref x], []⟩) (fun _ R s => s.heap.get? x = some (PySem.W.instObj C dx) ∧ R (.ok (.ret Value.notImplemented)) s) :=
  .of_wp fun prog w A R s h => by
    obtain ⟨hp, g, d, tk, os⟩ := s
    obtain ⟨hl, h⟩ := h
    unfold PySem.W.instObj at hl
    wp_walk using wpAny_loadPart' hl
    exact ⟨_, rfl, h⟩
open PySem.W in
/-- a number times an own thing: its __rmul__ -/
theorem rmul_own {i : Int} {t : Tok} {g dx : Addr} {Q : Value → Shared → Prop} (X : K.In s.heap) (I : InstAt s.heap x (instObj C dx) C od) (hc : selfFirst K C = true) (hm : findIn K (.ref C) "__mul__" = some (some (.ref g))) (hsub : subIn K (.ref C) (.type "int") = some false)
    (hs : findIn K (.ref C) "__rmul__" = some (some (.ref f))) (hf : isFn K (.ref f) = true)
    (h : wpAny (model prog w) A (call (.ref f) [.ref x, .int i t]) (PySem.W.CmpBack Q) E s) : wpAny (model prog w) A (binaryOp .Mult (.int i t) (.ref x)) Q E s := by
  obtain ⟨cd, rest, hcd, hmr⟩ := ksp_first hc
  have one := ksp_try X I hs hf h
  have L1 : Looks (model prog w) s.heap (typeOf (.int i t)) (.type "int") := Looks.of_pure rfl
  have L2 : Looks (model prog w) s.heap (typeOf (.ref x)) (.ref C) := I.type
  have L3 : Looks (model prog w) s.heap (fillsNumberSlot (.type "int") "mul") true := Looks.of_pure F.fills_int_mul
  have L4 : Looks (model prog w) s.heap (fillsNumberSlot (.ref C) "mul") true := fills_K X hcd hmr hm
  have L5 : Looks (model prog w) s.heap (isSubtype (.ref C) (.type "int")) false := looks_subIn X hsub
  have L6 : Looks (model prog w) s.heap (numberSlotInPython (.type "int") "mul") false := Looks.of_pure rfl
  have two : wpAny (model prog w) A (tryMethod (.int i t) (dunder "mul") (.ref x)) (fun r s' => r = none ∧ s' = s) E s := by
    unfold tryMethod
    refine wpAny_bind (wpAny_callSpecial?_slot (typeIs_int s i t) F.slot_int_mul (call_meets F.slot_int_mul (typeIs_int s i t) F.entry_int_mul (F.args_int_mul_2 _ _) (int_mul_own i t x C dx) ⟨I.at_, ?_⟩))
    exact wpAny_pure ⟨rfl, rfl⟩
  obtain ⟨hh, gg, d, tt, os⟩ := s
  have hne : (Value.type "int" == Value.ref C) = false := Bool.eq_false_iff.mpr fun q => by cases beq_iff_eq.mp q
  have hi : Operator.info .Mult = ("*", "mul") := rfl
  simp only [binaryOp, hi]
  refine wpAny_holding (wpAny_bind ?_)
  unfold binaryOp1
  refine wpAny_bind (L1.at (wpAny_bind (L2.at (wpAny_bind (L3.at ?_)))))
  simp only [hne, Bool.false_eq_true, if_false]
  ksp_lk
  refine wpAny_mono two (fun r s' z => ?_) fun _ _ e => e
  obtain ⟨rfl, rfl⟩ := z
  ksp_lk
  refine wpAny_mono one (fun r s' z => ?_) fun _ _ e => e
  obtain ⟨v, rfl, hq⟩ := z
  ksp_lk
  exact hq
end
/-- what a class has its != by -/
structure NeOf (K : PySem.W.Frag) (C : Addr) : Prop where
  at_ : PySem.W.findIn K (.ref C) "__ne__" = some (some (.builtin "object.__ne__"))
  ob : PySem.W.mroIn K C (.type "object") = some true
end DL
namespace DL
open PySem PySem.Spec PyProof.Rows L2
/-- what the look for an instance's class asks of the class -/
structure IsiC (K : PySem.W.Frag) (C : Addr) : Prop where
  cl : Cls K C
  ha : PySem.W.findIn K (.ref C) "__class__" = some (some (.builtin "object.__class__"))
  hn : PySem.W.specialIn K (.builtin "object.__class__") "__get__" = some (some (.builtin "getset_descriptor.__get__"))
  htk : PySem.W.takesIn K (.builtin "object.__class__") = some true
  hm : PySem.W.mroIn K C (.type "object") = some true
/-! ### the head's facts: defs by their addresses, any Bools besides -/
structure DefX where
  at_ : PySem.W.Frag → Addr
  name : Str
  qual : Str
  params : Arguments
  body : List Stmt
  scope : Scope
  dfl : List He.Dv := []
def fnX (K : PySem.W.Frag) (a : Addr) : He.FnW := match K.lookup a with
  | some ⟨_, _, .func fd, _⟩ => some (fd.name, fd.qualname, fd.params, fd.body, fd.scope, fd.globals, fd.closure, fd.builtins)
  | _ => none
def DefX.val (d : DefX) : He.FnW := some (d.name, d.qual, d.params, .stmts d.body, d.scope, mainGlobals, [], builtinsNs)
def DefX.dvs (K : PySem.W.Frag) (d : DefX) : List V := d.dfl.map (He.Dv.v K)
def DefX.ok (K : PySem.W.Frag) (d : DefX) : Bool := PySem.W.keepIn K (.ref (d.at_ K)) && (match K.lookup (d.at_ K) with
  | some ⟨_, _, .func fd, _⟩ => PySem.W.codeIn K fd.code d.qual && He.dflB K fd.defaults (d.dvs K)
  | _ => false)
theorem DefX.funD {K : PySem.W.Frag} {d : DefX} (e : fnX K (d.at_ K) = d.val) (c : d.ok K = true) : ∃ fd, FunD K d.name d.qual d.params d.body d.scope (d.dvs K) [] (d.at_ K) fd := by
  obtain ⟨kp, c2⟩ := He.ba c
  unfold fnX at e
  cases q : K.lookup (d.at_ K) with
  | none =>
    rw [q] at c2
    cases c2
  | some o =>
    obtain ⟨oc, od, dt, osl⟩ := o
    rw [q] at c2 e
    cases dt with
    | func fd =>
      obtain ⟨n1, n2, n3, n4, n5, n6, n7, n8, n9, n10, n11, n12, n13, n14, n15⟩ := fd
      have e2 : (some (n1, n2, n3, n4, n5, n6, n7, n15) : He.FnW) = some (d.name, d.qual, d.params, .stmts d.body, d.scope, mainGlobals, [], builtinsNs) := e
      simp only [Option.some.injEq, Prod.mk.injEq] at e2
      obtain ⟨h1, h2, h3, h4, h5, h6, h7, h8⟩ := e2
      subst h1 h2 h3 h4 h5 h6 h7 h8
      have c3 : (PySem.W.codeIn K n13 d.qual && He.dflB K n8 (d.dvs K)) = true := c2
      obtain ⟨k1, k3⟩ := He.ba c3
      exact ⟨_, ⟨oc, od, n8, n9, n10, n11, n12, n13, n14, osl, rfl, q, k1, He.dflB_ok k3, .inl rfl⟩, kp⟩
    | _ => cases c2
abbrev AlX : Type := Bool × List He.FnW
def obsX (bs : List (PySem.W.Frag → Bool)) (fn : List DefX) (K : PySem.W.Frag) : AlX := ((bs.all fun b => b K) && fn.all fun d => d.ok K, fn.map fun d => fnX K (d.at_ K))
def valX (fn : List DefX) : AlX := (true, fn.map DefX.val)
def SaysX (bs : List (PySem.W.Frag → Bool)) (fn : List DefX) (K : PySem.W.Frag) : Prop := obsX bs fn K = valX fn
def obsXG (n : Nat) (bs : List (PySem.W.Frag → Bool)) (fn : List DefX) (g : Addr → Option Obj) : AlX := obsX bs fn (He.frG g (He.asD g n))
def hookX (n : Nat) (bs : List (PySem.W.Frag → Bool)) (fn : List DefX) : PySem.W.Hook where
  α := AlX
  obs := fun s => obsXG n bs fn s.heap.get?
  val := fun _ => valX fn
  says := fun _ h => ∃ K : PySem.W.Frag, K.In h ∧ SaysX bs fn K
  of := fun _ _ e => ⟨_, He.frG_in, e⟩
  keeps := fun _ _ _ ⟨K, hK, c⟩ k => ⟨K, PySem.W.Frag.In.keeps hK k, c⟩
theorem obsXG_eq {n : Nat} {bs : List (PySem.W.Frag → Bool)} {fn : List DefX} {g : Addr → Option Obj} {s : Shared} (h : ∀ a, g a = s.heap.get? a) : obsXG n bs fn g = (hookX n bs fn).obs s := by
  have e : g = s.heap.get? := funext h
  rw [e] <;> rfl
section
variable {bs : List (PySem.W.Frag → Bool)} {fn : List DefX} {K : PySem.W.Frag}
theorem SaysX.fact (c : SaysX bs fn K) (i : Nat) {f : PySem.W.Frag → Bool} (h : bs[i]? = some f := by rfl) : f K = true := by
  have c1 := (He.ba (show ((bs.all fun b => b K) && fn.all fun d => d.ok K) = true from congrArg (fun z : AlX => z.1) c)).1
  exact List.all_eq_true.mp c1 f (List.mem_of_getElem? h)
theorem SaysX.def_ (c : SaysX bs fn K) (i : Nat) {d : DefX} (h : fn[i]? = some d := by rfl) : ∃ fd, FunD K d.name d.qual d.params d.body d.scope (d.dvs K) [] (d.at_ K) fd := by
  have c2 := (He.ba (show ((bs.all fun b => b K) && fn.all fun d => d.ok K) = true from congrArg (fun z : AlX => z.1) c)).2
  have e : fn.map (fun d => fnX K (d.at_ K)) = fn.map DefX.val := congrArg (fun z : AlX => z.2) c
  have e2 : (fn.map fun d => fnX K (d.at_ K))[i]? = (fn.map DefX.val)[i]? := by rw [e]
  rw [List.getElem?_map, List.getElem?_map, h] at e2
  exact DefX.funD (Option.some.inj e2) (List.all_eq_true.mp c2 d (List.mem_of_getElem? h))
end
/-! addresses: a property's getter, a static method's def -/
def recAt (K : PySem.W.Frag) (T : String) (p : Addr) : Addr := match PySem.W.recIn K p T with
  | some (.ref g :: _) => g
  | _ => 0
def isSomeRef (o : Option (List Value)) (g : Addr) : Bool := match o with
  | some (.ref a :: _) => decide (a = g)
  | _ => false
/-- a property of a class -/
def propB (K : PySem.W.Frag) (C : Addr) (f : Str) : Bool := He.eqO (PySem.W.findIn K (.ref C) f) (some (some (.ref (He.ma K C f)))) && (He.eqO (PySem.W.specialIn K (.ref (He.ma K C f)) "__get__") (some (some (.builtin "property.__get__"))) &&
  (decide (PySem.W.takesIn K (.ref (He.ma K C f)) = some true) && isSomeRef (PySem.W.recIn K (He.ma K C f) "property") (recAt K "property" (He.ma K C f))))
theorem propB_ok {K : PySem.W.Frag} {C : Addr} {f : Str} (h : propB K C f = true) : PropOf K C f (He.ma K C f) (recAt K "property" (He.ma K C f)) := by
  obtain ⟨h1, h⟩ := He.ba h
  obtain ⟨h2, h⟩ := He.ba h
  obtain ⟨h3, h4⟩ := He.ba h
  refine ⟨He.eqO_ok h1, He.eqO_ok h2, of_decide_eq_true h3, ?_⟩
  unfold isSomeRef at h4
  split at h4
  · rename_i a rest e
    have e2 := of_decide_eq_true h4
    rw [e2] at e
    exact ⟨rest, e⟩
  · cases h4
/-- a special method of a class -/
def splB (K : PySem.W.Frag) (C : Addr) (nm : Str) : Bool := He.eqO (PySem.W.findIn K (.ref C) nm) (some (some (.ref (He.ma K C nm)))) && PySem.W.isFn K (.ref (He.ma K C nm))
theorem splB_ok {K : PySem.W.Frag} {C : Addr} {nm : Str} (h : splB K C nm = true) : Spl K C nm (He.ma K C nm) := by
  obtain ⟨h1, h2⟩ := He.ba h
  exact ⟨He.eqO_ok h1, h2⟩
def callB (K : PySem.W.Frag) (C : Addr) : Bool := splB K C "__call__" && PySem.W.fnIn K (He.ma K C "__call__")
theorem callB_ok {K : PySem.W.Frag} {C : Addr} (h : callB K C = true) : StX.CallO K C (He.ma K C "__call__") := by
  obtain ⟨h1, h2⟩ := He.ba h
  exact ⟨(splB_ok h1).at_, (splB_ok h1).fn, h2⟩
def isiB (K : PySem.W.Frag) (C : Addr) : Bool := He.eqO (PySem.W.findIn K (.ref C) "__class__") (some (some (.builtin "object.__class__"))) && (He.eqO (PySem.W.specialIn K (.builtin "object.__class__") "__get__") (some (some (.builtin "getset_descriptor.__get__"))) &&
  (decide (PySem.W.takesIn K (.builtin "object.__class__") = some true) && decide (PySem.W.mroIn K C (.type "object") = some true)))
theorem isiB_ok {K : PySem.W.Frag} {C : Addr} (hc : Cls K C) (h : isiB K C = true) : IsiC K C := by
  obtain ⟨h1, h⟩ := He.ba h
  obtain ⟨h2, h⟩ := He.ba h
  obtain ⟨h3, h4⟩ := He.ba h
  exact ⟨hc, He.eqO_ok h1, He.eqO_ok h2, of_decide_eq_true h3, of_decide_eq_true h4⟩
def kitB2 (K : PySem.W.Frag) (t u : Value) (b : Bool) : Bool := decide (PySem.W.kitOne K t u = some b)
theorem kitB2_ok {K : PySem.W.Frag} {t u : Value} {b : Bool} (h : kitB2 K t u b = true) : PySem.W.kitOne K t u = some b := of_decide_eq_true h
end DL

set_option Elab.async false
set_option linter.all false
set_option maxRecDepth 100000
set_option maxHeartbeats 4000000
/-! DLe: enumerate of a tuple, a tuple turned about. -/
namespace DL
open PySem PySem.Calls PyProof.Rows
open AutoSeq1 (wpAny_loadPart')
theorem meets_enumerate_newT (l : Addr) (items : Array Value) (n : Nat) (dct : Option Addr) (sl : Array (Option Value)) :
    Meets (Builtin.«enumerate.__new__» ⟨[.type "enumerate", .ref l], []⟩) (fun _ R s => s.heap.get? l = some { cls := .type "tuple", dict := dct, data := .seq items n, slots := sl } ∧
      R (.ok (.ret (.ref (s.heap.push { cls := .type "tuple_iterator", data := .fields #[.ref l, .int 0 0] }).objs.size)))
        { s with heap := (s.heap.push { cls := .type "tuple_iterator", data := .fields #[.ref l, .int 0 0] }).push { cls := .type "enumerate", data := .fields #[.none, .bool false, .ref s.heap.objs.size, rawInt 0, .none, .none] } }) :=
  .of_wp fun prog w A R s h => by
    obtain ⟨hp, g, d, tk, os⟩ := s; obtain ⟨hl, h⟩ := h
    have hsub := sub_enumerate
    have hL : Heap.IsTuple (Shared.heap ⟨hp, g, d, tk, os⟩) l items := ⟨_, hl, rfl, n, rfl⟩
    wp_walk using wpAny_loadPart' hl
    refine wpAny_stack_any fun st => wpAny_pure ?_
    split
    · rename_i c _ _ _ _ _
      cases (c == Value.type "enumerate")
      · wp_walk using wpAny_loadPart' hl, wpAny_pyIter_tuple hL
        exact ⟨_, rfl, h⟩
      · wp_walk using wpAny_loadPart' hl, wpAny_pyIter_tuple hL
        exact ⟨_, rfl, h⟩
    · wp_walk using wpAny_loadPart' hl, wpAny_pyIter_tuple hL
      exact ⟨_, rfl, h⟩
section
variable {prog : Program} {w : PySem.World} {A : Around} {Ex : Value → Shared → Prop} {s : Shared}
theorem call_enumerate_tuple {l : Addr} {items : Array Value} {Q : Value → Shared → Prop} (hL : s.heap.IsTuple l items)
    (h : ∀ h', IsEnum h' (s.heap.objs.size + 1) s.heap.objs.size 0 .none → h'.IsTupleIter s.heap.objs.size l 0 → h'.objs.size = s.heap.objs.size + 2 →
      (∀ b o, s.heap.get? b = some o → h'.get? b = some o) → Q (.ref (s.heap.objs.size + 1)) { s with heap := h' }) :
    wpAny (model prog w) A (call (.type "enumerate") [.ref l]) Q Ex s := by
  obtain ⟨⟨c, dct, dt, sl⟩, hl, hc, n, hd⟩ := hL
  replace hc : c = .type "tuple" := hc
  replace hd : dt = .seq items n := hd
  subst hc hd
  refine callType_new F.called_enumerate (by decide) (F.typeCall_enumerate_1 _) (F.newCall_enumerate_1 _) (fun obj => F.args_object_init_2 obj _) F.entry_enumerate_new
    (meets_enumerate_newT l items n dct sl) ⟨hl, ?_⟩
  have hz : (s.heap.push { cls := .type "tuple_iterator", data := .fields #[.ref l, .int 0 0] }).objs.size = s.heap.objs.size + 1 := Heap.size_push ..
  show _ ∧ _
  rw [hz]
  have he : IsEnum ((s.heap.push { cls := .type "tuple_iterator", data := .fields #[.ref l, .int 0 0] }).push
      { cls := .type "enumerate", data := .fields #[.none, .bool false, .ref s.heap.objs.size, rawInt 0, .none, .none] }) (s.heap.objs.size + 1) s.heap.objs.size 0 .none := by
    have := Heap.get?_push_size (s.heap.push { cls := .type "tuple_iterator", data := .fields #[.ref l, .int 0 0] })
      (o := { cls := .type "enumerate", data := .fields #[.none, .bool false, .ref s.heap.objs.size, rawInt 0, .none, .none] }) rfl
    rw [hz] at this; exact this
  refine ⟨⟨_, he, rfl⟩, h _ he ⟨_, Heap.get?_push_of_some _ (Heap.get?_push_size _ rfl), rfl, rfl⟩ (by rw [Heap.size_push, hz]) fun b o x => Heap.get?_push_of_some _ (Heap.get?_push_of_some _ x)⟩
/-! ### t[::-1] -/
theorem sliceApplied_rev {sl : Addr} {vl vu vs : Value} {n : Nat} {Q : Int × Int × Nat → Shared → Prop} (hs : s.heap.IsSliceOf sl vl vu vs) (pl : IsPart vl none) (pu : IsPart vu none) (ps : IsPart vs (some (-1)))
    (h : Q ((n : Int) - 1, -1, n) s) : wpAny (model prog w) A (Builtin.Slice.sliceApplied (.ref sl) (pure (n : Int))) Q Ex s := by
  obtain ⟨os, hos, hcs, hds⟩ := id hs
  unfold Builtin.Slice.sliceApplied Builtin.Slice.sliceFields
  refine wpAny_bind (wpAny_bind (wpAny_field hos hds (x := vl) rfl (wpAny_bind (wpAny_field hos hds (x := vu) rfl (wpAny_bind (wpAny_field hos hds (x := vs) rfl (wpAny_pure ?_)))))))
  refine wpAny_bind (HT.slicePart_ ps ?_)
  show wpAny _ _ (if ((-1 : Int) == 0) = true then _ else _) _ _ s
  rw [if_neg (by decide)]
  refine wpAny_bind (HT.slicePart_ pl (wpAny_bind (HT.slicePart_ pu (wpAny_bind (wpAny_pure ?_)))))
  show wpAny _ _ (match Builtin.Slice.sliceAdjust none none (-1) (n : Int) with | (lo, hi) => pure (lo, (-1 : Int), Builtin.Slice.slicePlaces lo hi (-1))) _ _ s
  have e1 : Builtin.Slice.sliceAdjust none none (-1) (n : Int) = ((n : Int) - 1, -1) := by
    unfold Builtin.Slice.sliceAdjust
    simp
  have e2 : Builtin.Slice.slicePlaces ((n : Int) - 1) (-1) (-1) = n := by
    unfold Builtin.Slice.slicePlaces
    have h1 : ¬ ((-1 : Int) > 0) := by decide
    simp only [h1, if_false]
    by_cases hn : n = 0
    · subst hn
      decide
    · have h2 : (n : Int) - 1 > -1 := by omega
      simp only [h2, if_true]
      rw [show (- -1 : Int) = 1 by decide, Int.ediv_one]
      omega
  rw [e1]
  show wpAny _ _ (pure ((n : Int) - 1, (-1 : Int), Builtin.Slice.slicePlaces ((n : Int) - 1) (-1) (-1))) _ _ s
  rw [e2]
  exact wpAny_pure h
theorem filterMap_same {α β : Type} {f g : α → Option β} : ∀ (l : List α), (∀ k ∈ l, f k = g k) → l.filterMap f = l.filterMap g
  | [], _ => rfl
  | a :: l, h => by
    rw [List.filterMap_cons, List.filterMap_cons, h a List.mem_cons_self, filterMap_same l fun k hk => h k (List.mem_cons_of_mem _ hk)]
theorem pick_rev (xs : Array Value) : ((List.range xs.size).filterMap fun (k : Nat) => xs[(((xs.size : Nat) : Int) - 1 + (k : Int) * (-1)).toNat]?).toArray = xs.toList.reverse.toArray := by
  have e : (List.range xs.size).filterMap (fun (k : Nat) => xs[(((xs.size : Nat) : Int) - 1 + (k : Int) * (-1)).toNat]?) = ((List.range xs.size).map fun k => xs.size - 1 - k).filterMap (xs[·]?) := by
    rw [List.filterMap_map]
    refine filterMap_same _ fun k hk => ?_
    have hk' := List.mem_range.mp hk
    show xs[(((xs.size : Nat) : Int) - 1 + (k : Int) * (-1)).toNat]? = xs[xs.size - 1 - k]?
    rw [show (((xs.size : Nat) : Int) - 1 + (k : Int) * (-1)).toNat = xs.size - 1 - k by omega]
  rw [e, PySem.W.krv_range, List.filterMap_reverse, PySem.W.krv_all]
theorem getItem_tuple_rev {t sl : Addr} {items : Array Value} {vl vu vs : Value} {Q : Value → Shared → Prop} (ht : IsTup s.heap t items) (hs : s.heap.IsSliceOf sl vl vu vs) (pl : IsPart vl none) (pu : IsPart vu none) (ps : IsPart vs (some (-1)))
    (h : Q (.ref s.heap.objs.size) { s with heap := s.heap.push { cls := .type "tuple", data := .seq items.toList.reverse.toArray } })
    (hsz : items.size ≤ sizeLine) : wpAny (model prog w) A (getItem (.ref t) (.ref sl)) Q Ex s := by
  have htake : sizeOk (.seq items.toList.reverse.toArray) := by
    show items.toList.reverse.toArray.size ≤ sizeLine
    rw [List.size_toArray, List.length_reverse, Array.length_toList]
    exact hsz
  obtain ⟨os, hos, hcs, hds⟩ := id hs
  have hTs : s.TypeIs (.ref sl) "slice" := ⟨os, hos, hcs⟩
  unfold getItem
  try with_reducible refine wpAny_holding ?_
  first | refine wpAny_bind (wpAny_pure ?_) | skip
  refine wpAny_bind (wpAny_sequenceKey ht.typeIs (by decide) ?_)
  refine wpAny_bind (wpAny_callSpecial?_slot (name := Str.ofString "__getitem__") ht.typeIs PyProof.Rows.slot_tuple_getitem
    (wpAny_call_entry PyProof.Rows.slot_tuple_getitem ht.typeIs entry_tuple_getitem ?_ (args_tuple_getitem _ _)))
  show wpAny _ _ (Builtin.Tuple.tupleItemsOf (.ref t) >>= _) _ _ s
  refine wpAny_bind (tupleItemsOf_ ht ?_)
  refine wpAny_bind (wpAny_typeOf hTs ?_)
  rw [if_pos (by decide)]
  refine wpAny_bind (sliceApplied_rev hs pl pu ps ?_)
  have hno : ¬ ((((items.size : Nat) : Int) - 1 == 0 && (-1 : Int) == 1 && items.size == items.size) = true) := by
    intro q
    rw [Bool.and_eq_true, Bool.and_eq_true] at q
    exact absurd q.1.2 (by decide)
  show wpAny _ _ (if (((items.size : Nat) : Int) - 1 == 0 && (-1 : Int) == 1 && items.size == items.size) = true then _ else _) _ _ s
  rw [if_neg hno, pick_rev]
  first
    | exact wpAny_bind (m := Builtin.Tuple.tupleExact _) (wpAny_newObj_type (wpAny_pure ⟨_, rfl, wpAny_pure h⟩) htake)
    | exact wpAny_bind (m := Builtin.Tuple.tupleExact _) (wpAny_newObj_type (wpAny_bind (wpAny_pure (wpAny_pure ⟨_, rfl, wpAny_pure h⟩))) htake)
    | exact wpAny_bind (wpAny_bind (m := Builtin.Tuple.tupleExact _) (wpAny_newObj_type (wpAny_pure (wpAny_pure ⟨_, rfl, wpAny_pure h⟩)) htake))
    | exact wpAny_bind (wpAny_bind (m := Builtin.Tuple.tupleExact _) (wpAny_newObj_type (wpAny_pure ⟨_, rfl, wpAny_pure h⟩) htake))
end
end DL
namespace DL
open PySem PySem.Spec PyProof.Rows L2
section
variable {X : Cx}
/-- xs[::-1]: a list gives a new list, a tuple a new tuple -/
def tRevU (K : PySem.W.Frag) (te : TE) : TE := fun σ H Q => te σ H fun x H1 => ∃ a xs, x = .ref a ∧ ((SqL K H1 a xs ∧ ∀ p, H1 p = Option.none → Q (.ref p) (upd H1 p (.lst xs.reverse))) ∨ (SqT K H1 a xs ∧ ∀ p, H1 p = Option.none → Q (.ref p) (upd H1 p (.tup xs.reverse))))
theorem pe_revU {e : Expr} {te : TE} {k : Nat} {p1 p2 p3 pos : Pos} (he : PE X e te) : PE X (.Subscript e (.Slice none none (some (.UnaryOp .USub (.Constant (.int 1) k p1) p2)) p3) pos) (tRevU X.K te) := by
  refine ⟨fun pins s σ H Q I h => ?_⟩
  refine Subscript_ (thn (he.run pins s σ H _ I h) fun v s1 ⟨x, H1, I1, r1, q1⟩ => ?_)
  obtain ⟨a, xs, ex, hx⟩ := q1
  subst ex
  cases r1
  have hst : PO X (some (.UnaryOp .USub (.Constant (.int 1) k p1) p2)) (tPart (tUn (rU fun i => .int (-i)) (tC (.int 1)))) := po_some (pe_un un_neg pe_int)
  refine wpAny_Slice (thn (po_none.run pins s1 σ H1 (fun o H2 => o = none ∧ H2 = H1) I1 ⟨rfl, rfl⟩) fun vl s2 ⟨l, H2, I2, pl, el, e2⟩ => ?_)
  subst el e2
  refine thn (po_none.run pins s2 σ H2 (fun o H3 => o = none ∧ H3 = H2) I2 ⟨rfl, rfl⟩) fun vu s3 ⟨u, H3, I3, pu, eu, e3⟩ => ?_
  subst eu e3
  refine thn (hst.run pins s3 σ H3 (fun o H4 => o = some (-1) ∧ H4 = H3) I3 ⟨1, rfl, -1, rfl, rfl, rfl⟩) fun vs s4 ⟨o, H4, I4, ps, eo, e4⟩ => ?_
  subst eo e4
  have I5 : Inv X pins σ H4 { s4 with heap := s4.heap.push { cls := .type "slice", data := .fields #[vl, vu, vs] } } := I4.kept (t' := s4.toks) fun b ob q => Heap.get?_push_of_some _ q
  show wpAny (model X.prog X.w) X.A (subscriptTail e (.Slice none none (some (.UnaryOp .USub (.Constant (.int 1) k p1) p2)) p3) (.ref a) (.ref s4.heap.objs.size)) (EP X pins σ Q) X.xe { s4 with heap := s4.heap.push { cls := .type "slice", data := .fields #[vl, vu, vs] } }
  rcases hx with ⟨hx, q⟩ | ⟨hx, q⟩
  · obtain ⟨its, r, ht, hz⟩ := I5.list hx
    have hlen := r.length
    refine tail_any (ops := [.ref a, .ref s4.heap.objs.size]) ht.isList.typeIs (PySem.slot_list_getitem.lookup) ?_ (by with_unfolding_all rfl)
    refine wpAny_getItem_list_slice ht.isList (Heap.IsSliceOf.new _ vl vu vs) pl pu ps (by decide) ?_ (by rw [List.size_toArray]; omega)
    rw [PySem.W.krv_pick]
    refine ⟨.ref _, _, I5.laid (t' := s4.toks) (o := .lst xs.reverse) (fun b ob q => Heap.get?_push_of_some _ q) (Nat.le_refl _) ?_, rfl, q _ (I5.hok.fresh (Nat.le_refl _))⟩
    exact ⟨by rw [List.length_reverse]; exact hz, _, 0, r.reverse, Heap.get?_push_size _ rfl⟩
  · obtain ⟨its, r, ht, hz⟩ := I5.tuple hx
    have hlen := r.length
    refine tail_any (ops := [.ref a, .ref s4.heap.objs.size]) ht.typeIs (PyProof.Rows.slot_tuple_getitem.lookup) ?_ (by with_unfolding_all rfl)
    refine getItem_tuple_rev ht (Heap.IsSliceOf.new _ vl vu vs) pl pu ps ?_ (by rw [List.size_toArray]; omega)
    refine ⟨.ref _, _, I5.laid (t' := s4.toks) (o := .tup xs.reverse) (fun b ob q => Heap.get?_push_of_some _ q) (Nat.le_refl _) ?_, rfl, q _ (I5.hok.fresh (Nat.le_refl _))⟩
    exact ⟨by rw [List.length_reverse]; exact hz, _, r.reverse, IsTup.new _ _⟩
/-- enumerate of a tuple: each item in a new pair -/
def IteT (K : PySem.W.Frag) (a : Addr) : It :=
  ⟨fun i H => ∃ (xs : List V) (x : V), SqT K H a xs ∧ xs[i]? = some x, fun i H v H' => ∃ T x, v = .ref T ∧ H T = none ∧ H' = upd H T (.tup [.int (i : Nat), x]) ∧ ∀ xs, SqT K H a xs → xs[i]? = some x, fun i H => ∃ xs : List V, SqT K H a xs ∧ xs.length ≤ i⟩
theorem turn_enumT {P : Program} {w : PySem.World} {K : PySem.W.Frag} {elts : List Expr} {kk : Nat} {tpos : Pos} (a e it : Addr) :
    Turn P w K (.Tuple elts kk tpos) (IteT K a) [e, it] e (fun i h => (∃ old, IsEnum h e it ((i : Nat) : Int) old) ∧ h.IsTupleIter it a i ∧ e ≠ it) where
  mem := by simp
  obj := fun i h st b hb => by
    obtain ⟨⟨old, he⟩, ⟨o, ho, hc, hd⟩, _⟩ := st
    have e' : b = e ∨ b = it := by simpa using hb
    rcases e' with z | z
    · rw [z]; exact ⟨_, he, fun v q => nomatch q⟩
    · rw [z]; exact ⟨o, ho, fun v q => by rw [hd] at q; cases q⟩
  keep := fun i h h' st k => let ⟨⟨old, he⟩, hi, hne⟩ := st; ⟨⟨old, k e (by simp) _ he⟩, hi.at fun o q => k it (by simp) o q, hne⟩
  item := by
    intro X hP hw hK hc i pins s σ H E I hf st hg
    subst hP hw hK
    obtain ⟨⟨old, he⟩, hit, hne⟩ := st
    obtain ⟨xs, x, hq, hx⟩ := hg
    obtain ⟨its, rv, p, hz⟩ := I.tuple hq
    obtain ⟨u, hu, ru⟩ := rv.get hx
    have hel : e < s.heap.objs.size := Heap.lt_size he
    have hil : it < s.heap.objs.size := by obtain ⟨_, q, _⟩ := hit; exact Heap.lt_size q
    have hpT : s.heap.IsTuple a its.toArray := p
    have nea : e ≠ a := fun z => by
      obtain ⟨o, h1, h2, _⟩ := hpT
      subst z
      rw [show s.heap.get? e = some _ from he] at h1
      cases h1
      exact absurd (Value.type.inj h2) (by decide)
    have nia : a ≠ it := fun z => by
      obtain ⟨o, h1, h2, _⟩ := hpT
      obtain ⟨o2, h3, h4, _⟩ := hit
      subst z
      rw [h1] at h3
      cases h3
      rw [h2] at h4
      exact absurd (Value.type.inj h4) (by decide)
    have hui : its.toArray[i]? = some u := by simpa using hu
    have hlt : i < its.toArray.size := (Array.getElem?_eq_some_iff.mp hui).1
    refine wpAny_pyNext_enum_itemD (Draws.tuple (A := X.A.in1) (I.ok.hd hc) it a nia its.toArray) he ⟨hit, hpT⟩ hlt hne (by simp; exact ⟨hne, nea⟩) fun x' h' tk hx' ho hst' hT hsz hk => ?_
    have ex : x' = u := by
      rw [hui] at hx'
      exact (Option.some.inj hx').symm
    subst ex
    refine ⟨_, rfl, wpAny_letOwnedTupleGo_enum (s := { s with heap := h', toks := tk + 1 }) ho fun h'' he' sb => ?_⟩
    have hT2 : h''.get? s.heap.objs.size = some { cls := .type "tuple", data := .seq #[.int i tk, x'] } := (sb.2 _ (Nat.ne_of_gt hel)).trans hT
    have new : ObjOk X.prog X.w (upd H s.heap.objs.size (.tup [.int (i : Nat), x])) h'' s.heap.objs.size (.tup [.int (i : Nat), x]) :=
      ⟨by show 2 ≤ sizeLine; decide, [.int i tk, x'], .cons ⟨_, rfl⟩ (.cons ru .nil), ⟨_, hT2, rfl, _, rfl⟩⟩
    have I1 : Inv X pins σ (upd H s.heap.objs.size (.tup [.int (i : Nat), x])) { s with heap := h'', toks := tk + 1 } :=
      I.turnedNew (ch := [e, it]) (fun b ob hb q => (sb.2 b (fun z => hb (by simp [z]))).trans (hk b ob (fun z => hb (by simp [z])) (fun z => hb (by simp [z])) q)) hf (Nat.le_refl _) new
    refine ⟨.ref s.heap.objs.size, _, I1, rfl, ⟨_, x, rfl, I.hok.fresh (Nat.le_refl _), rfl, fun ys hy => by rw [I.tuple_inj hy hq]; exact hx⟩, ⟨⟨x', ?_⟩, hst'.1.at fun o q => (sb.2 it (Ne.symm hne)).trans q, hne⟩, fun b hb => ?_⟩
    · have e1 : ((i + 1 : Nat) : Int) = (i : Int) + 1 := by omega
      rw [e1]; exact he'
    · have hb' : b < s.heap.objs.size := by
        have e' : b = e ∨ b = it := by simpa using hb
        rcases e' with z | z
        · rw [z]; exact hel
        · rw [z]; exact hil
      rw [upd_ne (Nat.ne_of_lt hb')]
      exact (hf b hb).1
  done := by
    intro X hP hw hK hc i pins s σ H E I hf st hg
    subst hP hw hK
    obtain ⟨⟨old, he⟩, hit, hne⟩ := st
    obtain ⟨xs, hq, hx⟩ := hg
    obtain ⟨its, rv, p, hz⟩ := I.tuple hq
    obtain ⟨f0, f1, f2, f3, f4, f5⟩ := hf it (by simp)
    have hl := rv.length
    have hpT : s.heap.IsTuple a its.toArray := p
    have hT : s.TypeIs (.ref e) "enumerate" := ⟨_, he, rfl⟩
    unfold pyNext
    refine wpAny_bind (wpAny_attempt (wpAny_callSpecial?_slot (name := Str.ofString "__next__") hT F.slot_enumerate_next
      (wpAny_call_entry F.slot_enumerate_next hT F.entry_enumerate_next ?_ (F.args_enumerate_next_1 _))))
    show wpAny _ _ (field (.ref e) 2 >>= _) _ _ _
    refine wpAny_bind (wpAny_field he rfl (x := .ref it) rfl ?_)
    refine wpAny_bind (wpAny_nextOf_tuple_end (I.ok.hd hc) hit hpT (by simp; omega) fun h' x he' hx' => ?_)
    obtain ⟨o, ho, hcc⟩ := hx'
    refine wpAny_bind (wpAny_isInstance (T := "StopIteration") (b := true) ⟨o, ho, hcc⟩ isSubtype_stop ?_)
    exact wpAny_pure ⟨rfl, I.turned (t' := s.toks) (fun b o hb q => he' b o hb q) f0 f1 f3 f4 f5⟩
  self := fun A i s Q E st h => let ⟨⟨_, he⟩, _⟩ := st; wpAny_pyIter_enum he h
/-- enumerate of a list or a tuple -/
def iEnumU (K : PySem.W.Frag) (ta : TA) : TI := fun σ H R => ta σ H fun vs H1 => ∃ a xs, vs = [.ref a] ∧ ((SqL K H1 a xs ∧ R (Ite K a) H1) ∨ (SqT K H1 a xs ∧ R (IteT K a) H1))
theorem pi_enumU {e : Expr} {ta : TA} {p pos tpos : Pos} {elts : List Expr} {kk : Nat} (hg : Gl X "enumerate") (hm : X.mg "enumerate" = none) (ha : PA X [e] ta) (hs : starEach [e] X.env = [(false, eval e X.env)] := by rfl) :
    PI X (.Tuple elts kk tpos) (.Call (.Name "enumerate" p) [e] [] pos) (iEnumU X.K ta) := by
  refine ⟨fun pins s σ H R I h => ?_⟩
  refine Call_ (ld_blt I hg hm boot_enumerate (PyProof.Rows.callWith_type1 (thn (ha.run pos pins s σ H _ I h) fun us s1 ⟨vs, H1, I1, r1, q1⟩ => ?_) hs rfl))
  obtain ⟨a, xs, ex, hq⟩ := q1
  subst ex
  cases r1 with
  | cons r rr =>
    cases rr
    cases r
    rcases hq with ⟨hq, q⟩ | ⟨hq, q⟩
    · obtain ⟨its, rv, p', hz⟩ := I1.list hq
      refine call_enumerate_list p'.isList fun h' he hit hsz hk => wpAny_pyIter_enum he ?_
      have I2 : Inv X pins σ H1 { s1 with heap := h' } := I1.kept (t' := s1.toks) hk
      refine ⟨s1.heap.objs.size + 1, [s1.heap.objs.size + 1, s1.heap.objs.size], _, _, H1, rfl, I2, turn_enum a (s1.heap.objs.size + 1) s1.heap.objs.size, ⟨⟨.none, he⟩, hit, Nat.succ_ne_self _⟩, fun b hb => ?_, q⟩
      have e' : b = s1.heap.objs.size + 1 ∨ b = s1.heap.objs.size := by simpa using hb
      have hle : s1.heap.objs.size ≤ b := by
        rcases e' with z | z
        · rw [z]; exact Nat.le_add_right _ _
        · rw [z]; exact Nat.le_refl _
      exact I1.fpOk hle (I1.hok.fresh hle)
    · obtain ⟨its, rv, p', hz⟩ := I1.tuple hq
      refine call_enumerate_tuple (show s1.heap.IsTuple a its.toArray from p') fun h' he hit hsz hk => wpAny_pyIter_enum he ?_
      have I2 : Inv X pins σ H1 { s1 with heap := h' } := I1.kept (t' := s1.toks) hk
      refine ⟨s1.heap.objs.size + 1, [s1.heap.objs.size + 1, s1.heap.objs.size], _, _, H1, rfl, I2, turn_enumT a (s1.heap.objs.size + 1) s1.heap.objs.size, ⟨⟨.none, he⟩, hit, Nat.succ_ne_self _⟩, fun b hb => ?_, q⟩
      have e' : b = s1.heap.objs.size + 1 ∨ b = s1.heap.objs.size := by simpa using hb
      have hle : s1.heap.objs.size ≤ b := by
        rcases e' with z | z
        · rw [z]; exact Nat.le_add_right _ _
        · rw [z]; exact Nat.le_refl _
      exact I1.fpOk hle (I1.hok.fresh hle)
end
end DL

set_option Elab.async false
set_option linter.all false
set_option maxRecDepth 100000
set_option maxHeartbeats 4000000
/-! A4: defs and their calls, objects, fields, properties, operators of own classes. -/
namespace DL
open PySem PySem.Spec PyProof.Rows L2
/-! ### views of objects -/
def ndO : Option Nd → Option (Str × List Str × List D)
  | some (.obj n fs ds) => some (n, fs, ds)
  | _ => Option.none
def asObj (μ : Mu) : D → Option (Str × List Str × List D)
  | .obj n fs ds => some (n, fs, ds)
  | .cell p => ndO (μ p)
  | _ => Option.none
theorem ndO_some {x : Option Nd} {n : Str} {fs : List Str} {ds : List D} (h : ndO x = some (n, fs, ds)) : x = some (.obj n fs ds) := by
  unfold ndO at h
  split at h
  · cases h
    rfl
  · cases h
theorem asObj_rep {c : Ctx} {S : Option SA} {F : Hp} {m : Nat} {I H : Hp} {μ : Mu} {d : D} {v : V} {n : Str} {fs : List Str} {ds : List D} (w : Wd c S F m I μ H) (r : Rep c S I d v) (h : asObj μ d = some (n, fs, ds)) :
    ∃ a dx xs, v = .ref a ∧ H a = some (.ins (c.cl n) dx (List.zip fs xs)) ∧ Reps c S I ds xs ∧ fs.length = xs.length ∧ n ∈ c.ns := by
  cases r with
  | obj g r l hn =>
    cases h
    exact ⟨_, _, _, rfl, w.ins g, r, l, hn⟩
  | cell =>
    obtain ⟨_, o, r, h2⟩ := w.m _ _ (ndO_some h)
    cases r with
    | obj r l hn => exact ⟨_, _, _, rfl, h2, r, l, hn⟩
  | _ => cases h
def fldD (f : Str) : List Str → List D → Option D
  | g :: gs, d :: ds => if f = g then some d else fldD f gs ds
  | _, _ => Option.none
theorem fld_rep {c : Ctx} {S : Option SA} {I : Hp} {f : Str} {d : D} : ∀ {fs : List Str} {ds : List D} {xs : List V}, Reps c S I ds xs → fldD f fs ds = some d → ∃ x, (List.zip fs xs).lookup f = some x ∧ Rep c S I d x
  | [], _, _, _, h => by simp [fldD] at h
  | _ :: _, _, _, .nil, h => by simp [fldD] at h
  | g :: gs, _, _, .cons (x := x) r rs, h => by
    unfold fldD at h
    by_cases e : f = g
    · rw [if_pos e] at h
      cases h
      subst e
      exact ⟨x, by simp [List.lookup], r⟩
    · rw [if_neg e] at h
      obtain ⟨y, h1, h2⟩ := fld_rep rs h
      refine ⟨y, ?_, h2⟩
      rw [List.zip_cons_cons, List.lookup_cons, show (f == g) = false from beq_eq_false_iff_ne.mpr e]
      exact h1
theorem fld_none {f : Str} : ∀ {fs : List Str} {xs : List V}, f ∉ fs → (List.zip fs xs).lookup f = Option.none
  | [], _, _ => rfl
  | _ :: _, [], _ => rfl
  | g :: gs, x :: xs, h => by
    rw [List.zip_cons_cons, List.lookup_cons, show (f == g) = false from beq_eq_false_iff_ne.mpr fun z => h (by rw [z]; exact List.mem_cons_self)]
    exact fld_none fun z => h (List.mem_cons_of_mem _ z)
/-- a field is stored -/
def putN (f : Str) (d : D) : List Str → List D → List Str × List D
  | g :: gs, x :: xs => if g = f then (g :: gs, d :: xs) else ((g :: (putN f d gs xs).1), (x :: (putN f d gs xs).2))
  | gs, xs => (gs ++ [f], xs ++ [d])
theorem putN_rep {c : Ctx} {S : Option SA} {I : Hp} {f : Str} {d : D} {v : V} (r : Rep c S I d v) : ∀ {fs : List Str} {ds : List D} {xs : List V}, Reps c S I ds xs → fs.length = xs.length →
    ∃ ys, Reps c S I (putN f d fs ds).2 ys ∧ (putN f d fs ds).1.length = ys.length ∧ putF f v (List.zip fs xs) = List.zip (putN f d fs ds).1 ys
  | [], _, _, .nil, _ => ⟨[v], .cons r .nil, rfl, rfl⟩
  | [], _, _ :: _, .cons _ _, h => by cases h
  | _ :: _, _, [], .nil, h => by cases h
  | g :: gs, _, x :: xs, .cons h rs, l => by
    unfold putN
    by_cases e : g = f
    · rw [if_pos e]
      refine ⟨v :: xs, .cons r rs, by simpa using l, ?_⟩
      rw [List.zip_cons_cons, List.zip_cons_cons]
      show (if g = f then _ else _) = _
      rw [if_pos e]
    · rw [if_neg e]
      obtain ⟨ys, h1, h2, h3⟩ := putN_rep (f := f) r rs (by simpa using l : gs.length = xs.length)
      refine ⟨x :: ys, .cons h h1, by simpa using h2, ?_⟩
      rw [List.zip_cons_cons, List.zip_cons_cons, ← h3]
      show (if g = f then _ else _) = _
      rw [if_neg e]
/-! ### wishes -/
def wCall (s : WP) (dd : List D) (a : WA) : WE := fun e μ Q X => a e μ (fun ds μ1 => s (ds ++ dd) μ1 Q X) X
/-- an instance of the class n without an attribute m -/
def isOf (n m : Str) (μ : Mu) (x : D) (P : Prop) : Prop := match asObj μ x with
  | some (k, fs, _) => k = n ∧ m ∉ fs ∧ P
  | Option.none => False
theorem isOf_cases {n m : Str} {μ : Mu} {x : D} {P : Prop} (h : isOf n m μ x P) : ∃ fs ds, asObj μ x = some (n, fs, ds) ∧ m ∉ fs ∧ P := by
  unfold isOf at h
  split at h
  · rename_i k fs ds e
    obtain ⟨rfl, h1, h2⟩ := h
    exact ⟨fs, ds, e, h1, h2⟩
  · exact h.elim
def wMeth (n m : Str) (s : WP) (dd : List D) (r : WE) (a : WA) : WE := fun e μ Q X => r e μ (fun x μ1 => isOf n m μ1 x (a e μ1 (fun ds μ2 => s (x :: (ds ++ dd)) μ2 Q X) X)) X
def wProp (n f : Str) (s : WP) (r : WE) : WE := fun e μ Q X => r e μ (fun x μ1 => isOf n f μ1 x (s [x] μ1 Q fun _ _ => False)) X
def wFld (n f : Str) (r : WE) : WE := fun e μ Q X => r e μ (fun x μ1 => match asObj μ1 x with
  | some (k, fs, ds) => k = n ∧ (match fldD f fs ds with
    | some d => Q d μ1
    | Option.none => False)
  | Option.none => False) X
def wSetF (n f : Str) (o v : WE) : WS := fun e μ E => v e μ (fun d μ1 => o e μ1 (fun x μ2 => match x with
  | .cell p => (match ndO (μ2 p) with
    | some (k, fs, ds) => k = n ∧ fs.length < 1000 ∧ E.nx e (up μ2 p (.obj k (putN f d fs ds).1 (putN f d fs ds).2))
    | Option.none => False)
  | _ => False) fun d μ1 => E.xp d e μ1) fun d μ1 => E.xp d e μ1
def wMake (m : Bool) (n : Str) (s : WP) (dd : List D) (a : WA) : WE := fun e μ Q X => a e μ (fun ds μ1 => ∀ p, μ1 p = Option.none → s (.cell p :: (ds ++ dd)) (up μ1 p (.obj n [] [])) (fun r μ2 => r = .none ∧ (match μ2 p with
  | some nd => sett m Q (.n nd) (del μ2 p)
  | Option.none => False)) X) X
/-- a def of n parameters, N names -/
def initE (N : Nat) (ds : List D) : EnvD := ds.map some ++ List.replicate (N - ds.length) Option.none
def wDef (n N : Nat) (b : WS) : WP := fun ds μ Q X => ds.length = n ∧ b (initE N ds) μ ⟨fun _ μ1 => Q .none μ1, Q, fun _ _ => False, fun _ _ => False, fun d _ μ1 => X d μ1⟩
/-! ### a def's promise -/
def SpW (c : Ctx) (s : WP) (k : Nat) : Sp := fun vs H Q Ex => ∃ S F n I μ ds Qd Xd, n + k ≤ LIM ∧ Wd c S F n I μ H ∧ Reps c S I ds vs ∧ s ds μ Qd Xd ∧ QV c S F (n + k) I Qd Q ∧ ∀ d μ' cls dx I' H', Xd d μ' → Same I I' → Wd c S F (n + k) I' μ' H' → ErrAt c S I' d cls dx → Ex cls dx H'
structure FnW (P : Program) (w : PySem.World) (K : PySem.W.Frag) (mg : Str → Option Value) (base : Heap) (k : Nat) (f : Addr) (fd : FuncData) (ps : List Str) (sp : Sp) : Prop where
  len : ∀ vs H Q E, sp vs H Q E → vs.length = ps.length
  run : ∀ (A : Around) (outer : List Env) (s : Shared) (H : Hp) (args : Args) (us : List Value) (vs : List V) (Q : VK) (E : XK), A.guards = some [] → Room k A → Env0 P w K mg base A outer s H →
    BindsTo s fd args (ps.zip us) → Vals vs us → sp vs H Q E → codeAny (model P w) A (.call (.ref f) args) (CR (L2.CX P w) outer P w H s Q E) s
/-- a def's code object -/
def codeAt (K : PySem.W.Frag) (f : Addr) : Addr := match K.lookup f with
  | some ⟨_, _, .func fd, _⟩ => (match fd.code with
    | .ref c => c
    | _ => 0)
  | _ => 0
theorem codeAt_eq {K : PySem.W.Frag} {f : Addr} {oc : Value} {od : Option Addr} {osl : Array (Option Value)} {fd : FuncData} {q : Str} (lk : K.lookup f = some ⟨oc, od, .func fd, osl⟩) (h : PySem.W.codeIn K fd.code q = true) : fd.code = .ref (codeAt K f) := by
  unfold codeAt
  rw [lk]
  show fd.code = .ref (match fd.code with | .ref c => c | _ => 0)
  cases e : fd.code with
  | ref c => rfl
  | _ =>
    rw [e] at h
    cases h
section
variable {P : Program} {w : PySem.World} {K : PySem.W.Frag} {mg : Str → Option Value} {base : Heap} {k : Nat} {f : Addr} {fd : FuncData} {ps : List Str} {sp : Sp}
theorem fnW_of {x qual : Str} {pa : Arguments} {bd : List Stmt} {sc : Scope} {dvs : List V} {kws : List (Str × V)} {N : List Str} (F : FunD K x qual pa bd sc dvs kws f fd) (Sc : FnScope N ps sc) (len : ∀ vs H Q E, sp vs H Q E → vs.length = ps.length)
    (hb : ∀ (A : Around) (outer : List Env) (s : Shared) (H : Hp) (vs : List V) (Q : VK) (E : XK), A.guards = some [] → Room k (A.deeper (envOfC qual sc s.heap.objs.size f (.ref (codeAt K f)))) → sp vs H Q E →
      ∃ t, PSs (cxOf (L2.CX P w) P w K mg base N qual sc f (.ref (codeAt K f)) A outer s H E) bd t ∧ t { nx := fun _ H' => Q .non H', rt := Q } (start N vs) H) : FnW P w K mg base (k + 1) f fd ps sp := by
  obtain ⟨oc, od, dV, kV, doc, pm, an, cdv, ct, osl, rfl, lk, hc, _, _⟩ := F.ex
  have hcd : cdv = .ref (codeAt K f) := codeAt_eq (fd := PySem.W.fnOf x qual pa bd sc dV kV doc pm an cdv ct) lk hc
  subst hcd
  refine ⟨len, fun A outer s H args us vs Q E gd room en bi re hs => ?_⟩
  have many := len _ _ _ _ hs
  have kin : K.In s.heap := en.mod.kin.keeps fun b o z => (en.bs b o z).1
  have nol : s.heap.NoLimit := en.mod.nolimit.keeps fun b o z => (en.bs b o z).1
  have kinds : ∀ y ∈ ps.zip us, sc.names.lookup y.1 = some .local ∨ (sc.names.lookup y.1 = some .cell ∧ ((cellsFrom (s.heap.objs.size + 1) sc.names []).lookup y.1).isSome = true) := by
    rintro ⟨n, v⟩ hy
    have hp := Sc.par n (List.of_mem_zip hy).1
    rcases hp with z | z
    · exact .inl z
    · exact .inr ⟨z, PySem.W.cellsFrom_some _ _ _ (.inl z)⟩
  have after : ∀ s1 : Shared, InCallC s s.heap.objs.size (bindL (envOfC qual sc s.heap.objs.size f (.ref (codeAt K f))).kindOf (ps.zip us) fun _ => none) (cellsFrom (s.heap.objs.size + 1) sc.names [])
        (bindC (envOfC qual sc s.heap.objs.size f (.ref (codeAt K f))).kindOf (ps.zip us) fun _ => none) s1 → s1.heap.NoLimit ∧ codeAny (model P w) A (.func bd (envOfC qual sc s.heap.objs.size f (.ref (codeAt K f)))) (CR (L2.CX P w) outer P w H s Q E) s1 := fun s1 x1 => by
    refine ⟨nol.keeps x1.toInCall.keep, codeAny_func ?_⟩
    obtain ⟨t, ht, hq⟩ := hb A outer s H vs Q E gd (room.deeper _) hs
    have J : Inv (cxOf (L2.CX P w) P w K mg base N qual sc f (.ref (codeAt K f)) A outer s H E) [] (start N vs) H s1 := inv_start Sc room.hd en many re x1
    refine wpAny_mono (ht.run [] s1 (start N vs) H _ J hq) (fun fl s2 z => ?_) fun e s2 z => z
    cases fl with
    | ret u =>
      obtain ⟨v, σ2, H2, J2, rv, q2⟩ := z
      exact ⟨v, H2, J2.os, J2.bare, J2.base, J2.hok, rv, q2⟩
    | next =>
      obtain ⟨σ2, H2, J2, q2⟩ := z
      exact ⟨.non, H2, J2.os, J2.bare, J2.base, J2.hok, rfl, q2⟩
    | brk => exact z.elim fun _ z => z.elim fun _ z => False.elim z.2
    | cont => exact z.elim fun _ z => z.elim fun _ z => False.elim z.2
  refine codeAny_call_function room.depth (kin _ _ lk) rfl Sc.co Sc.gen rfl (PySem.W.codeRec_of kin hc) (bi _ _ _ _ (wpAny_newFunctionEnv_cells Sc.kind kinds fun env he s1 x1 => ?_))
  subst he
  exact after s1 x1
end
theorem SpW.len {c : Ctx} {n N : Nat} {b : WS} {k : Nat} {ps : List Str} (hn : n = ps.length) {vs : List V} {H : Hp} {Q : VK} {Ex : XK} (h : SpW c (wDef n N b) k vs H Q Ex) : vs.length = ps.length := by
  obtain ⟨S, F, m, I, μ, ds, Qd, Xd, hl, w, r, h, _⟩ := h
  rw [← r.length, h.1, hn]
/-- a def's body runs -/
theorem run_wDef {c : Ctx} {n : Nat} {b : WS} {k kb : Nat} {N : List Str} {vs : List V} {H : Hp} {Q : VK} {Ex : XK} (h : SpW c (wDef n N.length b) k vs H Q Ex) (hk : kb ≤ k) : ldS c (fun cls d _ H => Ex cls d H) kb b { nx := fun _ H' => Q .non H', rt := Q } (L2.start N vs) H := by
  obtain ⟨S, F, m, I, μ, ds, Qd, Xd, hl, w, r, ⟨hn, h⟩, q, x⟩ := h
  refine ⟨S, F, m, I, μ, initE N.length ds, _, by omega, ?_, w, h, ⟨fun e' μ' σ' I' H' p s r' w' => q .none μ' .non I' H' p s (w'.up (by omega)) .none, fun d μ' v I' H' p s w' r' => q d μ' v I' H' p s (w'.up (by omega)) r', fun _ _ _ _ _ p => p.elim, fun _ _ _ _ _ p => p.elim, fun d e' μ' cls dx σ' I' H' p s _ w' er => x d μ' cls dx I' H' p s (w'.up (by omega)) er⟩⟩
  unfold initE L2.start
  rw [r.length]
  exact EnvR.init _ r
/-- a def with its promise -/
def OkW (P : Program) (w : PySem.World) (c : Ctx) (mg : Str → Option Value) (base : Heap) (k : Nat) (f : Addr) (ps : List Str) (s : WP) (kf : Nat) (dvs : List V) : Prop :=
  ∃ fd, FnW P w c.K mg base k f fd ps (SpW c s kf) ∧ Binds c.K fd ps [] ∧ PySem.W.keepIn c.K (.ref f) = true ∧ ∃ ds, Vals dvs ds ∧ Binds c.K fd ps ds
section
variable {X : Cx} {c : Ctx} {W : WX} {k kf ka kb ko : Nat} {f C : Addr} {fd : FuncData} {ps : List Str} {sp : Sp} {s : WP} {dvs : List V} {dv : List Value} {dd : List D}
theorem FnW.mono {j : Nat} (F : FnW X.prog X.w X.K X.mg X.base j f fd ps sp) (h : j ≤ k) : FnW X.prog X.w X.K X.mg X.base k f fd ps sp := ⟨F.len, fun A outer s H args us vs Q E gd hr => F.run A outer s H args us vs Q E gd (hr.mono h)⟩
/-- the callee runs -/
theorem run_fnW {pins : List (Addr × Obj)} {σ : L2.St} {H : Hp} {s : Shared} {Q : VK} {us : List Value} {vs : List V} (F : FnW X.prog X.w X.K X.mg X.base k f fd ps sp) (gd : X.A.guards = some []) (hr : Room k X.A) (hb : Binds X.K fd ps dv) (hd : Vals dvs dv) (tk : Takes X W)
    (J : Inv X pins σ H s) (r : Vals vs us) (h : sp (vs ++ dvs) H Q fun cls d H' => W cls d σ H') : wpAny (model X.prog X.w) X.A (call (.ref f) us) (EP X pins σ Q) X.xe s := by
  have r2 : Vals (vs ++ dvs) (us ++ dv) := r.append hd
  have hl : (us ++ dv).length = ps.length := by rw [← r2.length]; exact F.len _ _ _ _ h
  refine wpAny_call (codeAny_mono (F.run X.A X.stack s H ⟨us, []⟩ (us ++ dv) (vs ++ dvs) Q _ gd hr J.env0 (hb s us J.kIn hl) r2 h) fun r s' hq => ?_)
  cases r with
  | error e => exact tk e s' (XE.of_call J (fun _ _ _ h => h) hq)
  | ok fl =>
    cases fl with
    | ret u => exact J.after hq
    | next => exact False.elim hq
    | brk => exact False.elim hq
    | cont => exact False.elim hq
theorem run_fnW1 {pins : List (Addr × Obj)} {σ : L2.St} {H : Hp} {s : Shared} {Q : VK} {us : List Value} {vs : List V} (F : FnW X.prog X.w X.K X.mg X.base k f fd ps sp) (gd : X.A.guards = some []) (hr : Room (k + 1) X.A) (hb : Binds X.K fd ps []) (tk : Takes X W)
    (J : Inv X pins σ H s) (r : Vals vs us) (h : sp vs H Q fun cls d H' => W cls d σ H') : wpAny (model X.prog X.w) X.A.in1 (call (.ref f) us) (EP X pins σ Q) X.xe s := by
  have hl : (us ++ ([] : List Value)).length = ps.length := by rw [List.append_nil, ← r.length]; exact F.len _ _ _ _ h
  have hbs := hb s us J.kIn hl
  rw [List.append_nil] at hbs
  refine wpAny_call (codeAny_mono (F.run X.A.in1 X.stack s H ⟨us, []⟩ us vs Q _ gd hr.in1 J.env0.in1 hbs r h) fun r s' hq => ?_)
  cases r with
  | error e => exact tk e s' (XE.of_call J (fun _ _ _ h => h) hq)
  | ok fl =>
    cases fl with
    | ret u => exact J.after hq
    | next => exact False.elim hq
    | brk => exact False.elim hq
    | cont => exact False.elim hq
/-- a call as a wish: the arguments, then the promise -/
theorem ld_call {wr : WA} {σ : L2.St} {H : Hp} {Q : VK} (hd : ∀ S I, Reps c S I dd dvs) (h : ldE c W (ka + kf) (wCall s dd wr) σ H Q) : ldA c W ka wr σ H fun vs H1 => SpW c s kf (vs ++ dvs) H1 Q fun cls d H' => W cls d σ H' := by
  obtain ⟨S, F, n, I, μ, e, Qd, Xd, hl, he, hw, h, q, x⟩ := h
  refine ⟨S, F, n, I, μ, e, _, Xd, by omega, he, hw, h, fun ds μ1 vs I1 H1 pa s1 w1 ra => ?_, x.mono (by omega) (Same.refl I)⟩
  exact ⟨S, F, n + ka, I1, μ1, _, Qd, Xd, by omega, w1, ra.append (hd S I1), pa, q.mono (by omega) s1, fun d μ' cls dx I' H' p s2 w' er => x d μ' cls dx I' H' p (s1.trans s2) (w'.up (by omega)) er⟩
variable {x m : Str} {p pos apos : Pos} {a o : Expr} {es : List Expr} {wr : WA} {wo : WE}
/-- f(a, ..) -/
theorem g_call (F : FnW X.prog X.w X.K X.mg X.base k f fd ps (SpW c s kf)) (gd : X.A.guards = some []) (hr : Room k X.A) (hg : Gl X x) (hm : X.mg x = some (.ref f)) (hk : PySem.W.keepIn X.K (.ref f) = true) (hb : Binds X.K fd ps dv) (hd : Vals dvs dv) (hdd : ∀ S I, Reps c S I dd dvs) (tk : Takes X W)
    (ha : GA X c W ka (a :: es) wr) (hdb : (x == ("__debug__" : Str)) = false := by decide) (he : starEach (a :: es) X.env = (false, eval a X.env) :: starEach es X.env := by rfl) (hpl : (backTo pos (starEach es X.env)).any (·.1) = false := by rfl) :
    GE X c W (ka + kf) (.Call (.Name x p) (a :: es) [] pos) (wCall s dd wr) := by
  refine ⟨fun pins s σ H Q J h => ?_⟩
  refine wpAny_Call_Name_kw (ld_glob J hg hm ?_ hdb)
  refine PySem.W.callWith_K (h₀ := X.base) J.ok.mod.kin hk (thn (ha.run pos pins s σ H _ J (ld_call hdd h)) fun us s1 ⟨vs, H1, I1, r, q⟩ => ⟨I1.kIn, ?_⟩) he hpl
  exact run_fnW F gd hr hb hd tk I1 r q
theorem g_call0 (F : FnW X.prog X.w X.K X.mg X.base k f fd ps (SpW c s kf)) (gd : X.A.guards = some []) (hr : Room k X.A) (hg : Gl X x) (hm : X.mg x = some (.ref f)) (hk : PySem.W.keepIn X.K (.ref f) = true) (hb : Binds X.K fd ps dv) (hd : Vals dvs dv) (hdd : ∀ S I, Reps c S I dd dvs) (tk : Takes X W)
    (hdb : (x == ("__debug__" : Str)) = false := by decide) : GE X c W (0 + kf) (.Call (.Name x p) [] [] pos) (wCall s dd waNil) := by
  refine ⟨fun pins s σ H Q J h => ?_⟩
  refine wpAny_Call_Name_kw (ld_glob J hg hm ?_ hdb)
  obtain ⟨S, F', n, I, μ, e, Qd, Xd, hl, he, hw, h, q, x⟩ := ld_call hdd h
  exact PySem.W.callWith_K0 J.kIn hk (run_fnW (us := []) (vs := []) F gd hr hb hd tk J .nil (q [] μ [] I H h (Same.refl I) hw .nil))
/-- o.m(a, ..) -/
theorem ld_meth {n : Str} {σ : L2.St} {H : Hp} {Q : VK} (hd : ∀ S I, Reps c S I dd dvs) (h : ldE c W (ko + (ka + kf)) (wMeth n m s dd wo wr) σ H Q) : ldE c W ko wo σ H fun x H1 => ∃ a dx fs, x = .ref a ∧ H1 a = some (.ins (c.cl n) dx fs) ∧ fs.lookup m = none ∧
    ldA c W ka wr σ H1 fun vs H2 => SpW c s kf (x :: (vs ++ dvs)) H2 Q fun cls d H' => W cls d σ H' := by
  obtain ⟨S, F, nn, I, μ, e, Qd, Xd, hl, he, hw, h, q, x⟩ := h
  refine ⟨S, F, nn, I, μ, e, _, Xd, by omega, he, hw, h, fun d μ1 v I1 H1 pa s1 w1 ra => ?_, x.mono (by omega) (Same.refl I)⟩
  obtain ⟨fs, ds, e1, e2, pa⟩ := isOf_cases pa
  obtain ⟨a, dx, xs, rfl, h1, r1, l1⟩ := asObj_rep w1 ra e1
  refine ⟨a, dx, _, rfl, h1, fld_none e2, S, F, nn + ko, I1, μ1, e, _, Xd, by omega, he.mono s1, w1, pa, fun ds μ2 vs I2 H2 pb s2 w2 rb => ?_, x.mono (by omega) s1⟩
  exact ⟨S, F, nn + ko + ka, I2, μ2, _, Qd, Xd, by omega, w2, .cons (ra.mono s2) (rb.append (hd S I2)), pb, q.mono (by omega) (s1.trans s2), fun d μ' cls dx I' H' p s3 w' er => x d μ' cls dx I' H' p ((s1.trans s2).trans s3) (w'.up (by omega)) er⟩
theorem g_meth {n : Str} {pl : Sem Bool} (ho : GE X c W ko o wo) (cc : Cls X.K (c.cl n)) (hm : Meth X.K (c.cl n) m f) (F : FnW X.prog X.w X.K X.mg X.base k f fd ps (SpW c s kf)) (gd : X.A.guards = some []) (hr : Room k X.A) (hb : Binds X.K fd ps dv) (hd : Vals dvs dv) (hdd : ∀ S I, Reps c S I dd dvs) (tk : Takes X W)
    (ha : GA X c W ka (a :: es) wr)
    (hst : starEach (a :: es) X.env = (false, eval a X.env) :: starEach es X.env := by rfl) (hpl : (backTo pos (starEach es X.env)).any (·.1) = false := by rfl)
    (ht : eval (.Call (.Attribute o m apos) (a :: es) [] pos) X.env = (do
      let ov ← eval o X.env
      standAt apos.atName
      let (f, first) ← holding [ov] (getMethod ov m pl)
      callWith pos f first (backTo pos (starEach (a :: es) X.env)) (backToKw pos (keywordEach [] X.env))) := by rfl) :
    GE X c W (ko + (ka + kf)) (.Call (.Attribute o m apos) (a :: es) [] pos) (wMeth n m s dd wo wr) := by
  refine ⟨fun pins s σ H Q J h => ?_⟩
  refine PySem.W.methodCall_KW (pl := pl) (thn (ho.run pins s σ H _ J (ld_meth hdd h)) fun u s1 ⟨x, H1, I1, rx, a, dx, fs, ex, ea, l, q⟩ => ?_) ht
  subst ex
  obtain rfl : u = Value.ref a := rx
  refine getmeth_ok I1 ea cc hm l ?_
  refine PySem.W.callWith_K (first := [.ref a]) (h₀ := X.base) J.ok.mod.kin hm.kp (thn (ha.run pos pins s1 σ H1 _ I1 q) fun us s2 ⟨vs, H2, I2, r, q2⟩ => ⟨I2.kIn, ?_⟩) hst hpl
  exact run_fnW (us := .ref a :: us) (vs := .ref a :: vs) F gd hr hb hd tk I2 (.cons rfl r) q2
theorem g_meth0 {n : Str} {pl : Sem Bool} (ho : GE X c W ko o wo) (cc : Cls X.K (c.cl n)) (hm : Meth X.K (c.cl n) m f) (F : FnW X.prog X.w X.K X.mg X.base k f fd ps (SpW c s kf)) (gd : X.A.guards = some []) (hr : Room k X.A) (hb : Binds X.K fd ps dv) (hd : Vals dvs dv) (hdd : ∀ S I, Reps c S I dd dvs) (tk : Takes X W)
    (ht : eval (.Call (.Attribute o m apos) [] [] pos) X.env = (do
      let ov ← eval o X.env
      standAt apos.atName
      let (f, first) ← holding [ov] (getMethod ov m pl)
      callWith pos f first (backTo pos (starEach [] X.env)) (backToKw pos (keywordEach [] X.env))) := by rfl) :
    GE X c W (ko + (0 + kf)) (.Call (.Attribute o m apos) [] [] pos) (wMeth n m s dd wo waNil) := by
  refine ⟨fun pins s σ H Q J h => ?_⟩
  refine PySem.W.methodCall_KW (pl := pl) (thn (ho.run pins s σ H _ J (ld_meth hdd h)) fun u s1 ⟨x, H1, I1, rx, a, dx, fs, ex, ea, l, q⟩ => ?_) ht
  subst ex
  obtain rfl : u = Value.ref a := rx
  refine getmeth_ok I1 ea cc hm l ?_
  obtain ⟨S, F', nn, I, μ, e, Qd, Xd, hl, he, hw, h, q, x⟩ := q
  exact PySem.W.callWith_K0 (first := [.ref a]) I1.kIn hm.kp (run_fnW (us := [.ref a]) (vs := [.ref a]) F gd hr hb hd tk I1 (.cons rfl .nil) (q [] μ [] I H1 h (Same.refl I) hw .nil))
/-! properties, fields -/
theorem getprop_okW {pr g aa dx : Addr} {fs : List (Str × V)} {pins : List (Addr × Obj)} {σ : L2.St} {H : Hp} {s : Shared} {Q : VK} {b : Bool} {E' : Value → Shared → Prop} (J : Inv X pins σ H s) (ea : H aa = some (.ins C dx fs)) (cc : Cls X.K C) (hp : PropOf X.K C m pr g)
    (F : FnW X.prog X.w X.K X.mg X.base k g fd ps sp) (gd : X.A.guards = some []) (hr : Room (k + 1) X.A) (hb : Binds X.K fd ps []) (h : sp [.ref aa] H Q fun _ _ _ => False) : wpAny (model X.prog X.w) X.A (getAttr (.ref aa) m b) (EP X pins σ Q) E' s := by
  obtain ⟨mA, O, _, _, _, _⟩ := ins_get J.hok ea
  obtain ⟨od, Jx, _⟩ := O.look
  obtain ⟨rest, hrec⟩ := hp.rec_
  have I1 := J.tok (s.toks + 1)
  have hl : ([Value.ref aa] ++ ([] : List Value)).length = ps.length := by
    rw [← F.len _ _ _ _ h]
    rfl
  have hc : (PySem.W.clsIn X.K C).isSome = true := by
    obtain ⟨cd, hc, _⟩ := PySem.W.any_some cc.hd
    rw [hc]
    rfl
  have hbs := hb { s with toks := s.toks + 1 } [.ref aa] I1.kIn hl
  rw [List.append_nil] at hbs
  refine PySem.W.get_bind J.kIn Jx (PySem.W.plainGet_of (cc.get m)).1 (PySem.W.findObj_data hc hp.at_ hp.get hp.tak) (PySem.W.plainGet_of (cc.get m)).2 (wpAny_call (PySem.W.prop_get (s := { s with toks := s.toks + 1 }) J.kIn hrec ?_))
  refine codeAny_mono (F.run X.A.in1 X.stack { s with toks := s.toks + 1 } H ⟨[.ref aa], []⟩ [.ref aa] [.ref aa] Q _ gd hr.in1 I1.env0.in1 hbs (.cons rfl .nil) h) fun r s' hq => ?_
  cases r with
  | error er =>
    obtain ⟨_, _, _, _, _, _, _, _, _, _, _, _, z⟩ := hq
    exact z.elim
  | ok fl =>
    cases fl with
    | ret u =>
      obtain ⟨v, H', I3, rv, q3⟩ := I1.after hq
      show wpAny _ _ (handedOut u) _ _ _
      rw [PySem.W.handedOut_of (handed_of rv)]
      exact wpAny_pure ⟨v, H', I3, rv, q3⟩
    | next => exact False.elim hq
    | brk => exact False.elim hq
    | cont => exact False.elim hq
theorem g_prop {n : Str} {pr g : Addr} (ho : GE X c W ko o wo) (cc : Cls X.K (c.cl n)) (hp : PropOf X.K (c.cl n) m pr g) (F : FnW X.prog X.w X.K X.mg X.base k g fd ps (SpW c s kf)) (gd : X.A.guards = some []) (hr : Room (k + 1) X.A) (hb : Binds X.K fd ps [])
    (hab : attributeBase o m X.env (eval o X.env) = eval o X.env := by rfl) : GE X c W (ko + kf) (.Attribute o m pos) (wProp n m s wo) := by
  refine ⟨fun pins sh σ H Q J h => ?_⟩
  have h2 : ldE c W ko wo σ H fun x H1 => ∃ a dx fs, x = .ref a ∧ H1 a = some (.ins (c.cl n) dx fs) ∧ SpW c s kf [.ref a] H1 Q fun _ _ _ => False := by
    obtain ⟨S, F', nn, I, μ, e, Qd, Xd, hl, he, hw, h, q, x⟩ := h
    refine ⟨S, F', nn, I, μ, e, _, Xd, by omega, he, hw, h, fun d μ1 v I1 H1 pa s1 w1 ra => ?_, x.mono (by omega) (Same.refl I)⟩
    obtain ⟨fs, ds, e1, e2, pa⟩ := isOf_cases pa
    obtain ⟨a, dx, xs, rfl, h1, r1, l1⟩ := asObj_rep w1 ra e1
    exact ⟨a, dx, _, rfl, h1, S, F', nn + ko, I1, μ1, [d], Qd, _, by omega, w1, .cons ra .nil, pa, q.mono (by omega) s1, fun _ _ _ _ _ _ z => z.elim⟩
  refine attr_of hab (thn (ho.run pins sh σ H _ J h2) fun u s1 ⟨x, H1, I1, rx, a, dx, fs, ex, ea, q⟩ => ?_)
  subst ex
  obtain rfl : u = Value.ref a := rx
  exact getprop_okW I1 ea cc hp F gd hr hb q
theorem g_fld {n : Str} (ho : GE X c W ko o wo) (cc : Cls X.K (c.cl n)) (hn : NoAttr X.K (c.cl n) m) (hb : attributeBase o m X.env (eval o X.env) = eval o X.env := by rfl) : GE X c W ko (.Attribute o m pos) (wFld n m wo) := L2.PE.imp (pe_fld ho hb) fun σ H Q h => by
  obtain ⟨S, F', nn, I, μ, e, Qd, Xd, hl, he, hw, h, q, x⟩ := h
  refine ⟨S, F', nn, I, μ, e, _, Xd, hl, he, hw, h, fun d μ1 v I1 H1 pa s1 w1 ra => ?_, x⟩
  dsimp only at pa
  split at pa
  · rename_i k fs ds e1
    obtain ⟨rfl, pa⟩ := pa
    split at pa
    · rename_i d2 e2
      obtain ⟨a, dx, xs, rfl, h1, r1, l1⟩ := asObj_rep w1 ra e1
      obtain ⟨y, h2, h3⟩ := fld_rep r1 e2
      exact ⟨_, _, _, _, y, rfl, h1, cc, hn, h2, q d2 μ1 y I1 H1 pa s1 w1 h3⟩
    · exact pa.elim
  · exact pa.elim
theorem g_setF {n : Str} {v : Expr} {wv : WE} {pos' : Pos} (ho : GE X c W ko o wo) (hv : GE X c W ka v wv) (cc : Cls X.K (c.cl n)) (hn : NoAttr X.K (c.cl n) m) (hs : swapsWith v (some (.Attribute o m pos')) pos.line X.env = pure false := by rfl) :
    GS X c W (ka + ko) (.Assign [.Attribute o m pos'] v pos) (wSetF n m wo wv) := L2.PS.imp (ps_fld ho hv hs) fun K σ H h => by
  obtain ⟨S, F', nn, I, μ, e, E, hl, he, hw, h, q⟩ := h
  refine ⟨S, F', nn, I, μ, e, _, _, by omega, he, hw, h, fun d μ1 v I1 H1 pa s1 w1 ra => ?_, (q.x he).mono (by omega) (Same.refl I)⟩
  refine ⟨S, F', nn + ka, I1, μ1, e, _, _, by omega, he.mono s1, w1, pa, fun d2 μ2 v2 I2 H2 pb s2 w2 rb => ?_, (q.x he).mono (by omega) s1⟩
  dsimp only at pb
  split at pb
  · split at pb
    · rename_i pp _ k fs ds e1
      obtain ⟨rfl, hz, pb⟩ := pb
      cases rb
      obtain ⟨_, o2, r2, h2⟩ := w2.m _ _ (ndO_some e1)
      cases r2 with
      | @obj _ dx _ _ xs r2 l2 hn2 =>
        obtain ⟨ys, g1, g2, g3⟩ := putN_rep (f := m) (ra.mono s2) r2 l2
        refine ⟨_, _, _, _, rfl, h2, cc, hn, by rw [List.length_zip, ← l2, Nat.min_self]; exact hz, ?_⟩
        rw [g3]
        exact q.nx e _ σ I2 _ pb (s1.trans s2) (he.mono (s1.trans s2)) ((w2.put (ndO_some e1) (NdR.obj g1 g2 hn2)).up (by omega))
    · exact pb.elim
  · exact pb.elim
/-! C(..) -/
theorem run_makeW {pins : List (Addr × Obj)} {σ : L2.St} {H : Hp} {s : Shared} {Q : VK} {us : List Value} {vs : List V} (M : Mk X.K C f) (F : FnW X.prog X.w X.K X.mg X.base k f fd ps sp) (gd : X.A.guards = some []) (hr : Room (k + 1) X.A) (hb : Binds X.K fd ps dv) (hd : Vals dvs dv)
    (tk : Takes X W) (J : Inv X pins σ H s) (r : Vals vs us)
    (h : ∀ x dx, H x = none → H dx = none → dx ≠ x → sp (.ref x :: (vs ++ dvs)) (upd (upd H dx (.own x)) x (.ins C dx [])) (fun v H2 => v = .non ∧ Q (.ref x) H2) fun cls d H' => W cls d σ H') :
    wpAny (model X.prog X.w) X.A (call (.ref C) us) (EP X pins σ Q) X.xe s := by
  have hq := h (s.heap.objs.size + 1) s.heap.objs.size (J.hok.fresh (Nat.le_succ _)) (J.hok.fresh (Nat.le_refl _)) (Nat.ne_of_lt (Nat.lt_succ_self _))
  have I2 := Inv.made (C := C) J
  have r2 : Vals (V.ref (s.heap.objs.size + 1) :: (vs ++ dvs)) (Value.ref (s.heap.objs.size + 1) :: (us ++ dv)) := .cons rfl (r.append hd)
  have hl : (Value.ref (s.heap.objs.size + 1) :: us ++ dv).length = ps.length := by
    have e := r2.length
    rw [F.len _ _ _ _ hq] at e
    exact e.symm
  have gd2 : (X.A.under (.builtin "type.__call__" ⟨.ref C :: us, []⟩)).guards = some [] := by
    first | exact gd | (simpa [Around.under, Code.isGuard, guardIds] using gd)
  refine wpAny_call (make_map (f := f) J.kIn M.makes M.init (beq_iff_eq.mp M.fn) (codeAny_mono (F.run _ X.stack _ _ ⟨Value.ref (s.heap.objs.size + 1) :: us, []⟩ (Value.ref (s.heap.objs.size + 1) :: (us ++ dv)) _ _ _ gd2 (hr.make C us [])
    (I2.env0.make C us []) (hb _ (Value.ref (s.heap.objs.size + 1) :: us) I2.kIn hl) r2 hq) fun r s' hq' => ?_))
  cases r with
  | error e => exact tk e s' (XE.of_call I2 (fun _ _ _ h => h) hq')
  | ok fl =>
    cases fl with
    | ret u =>
      obtain ⟨v, H', I3, rv, ev, q3⟩ := I2.after hq'
      subst ev
      exact ⟨rv, ⟨V.ref (s.heap.objs.size + 1), H', I3, rfl, q3⟩⟩
    | next => exact False.elim hq'
    | brk => exact False.elim hq'
    | cont => exact False.elim hq'
theorem ld_make {n : Str} {mm : Bool} {σ : L2.St} {H : Hp} {Q : VK} (hns : n ∈ c.ns) (hd : ∀ S I, Reps c S I dd dvs) (h : ldE c W (ka + kf) (wMake mm n s dd wr) σ H Q) : ldA c W ka wr σ H fun vs H1 => ∀ x dx, H1 x = none → H1 dx = none → dx ≠ x →
    SpW c s kf (.ref x :: (vs ++ dvs)) (upd (upd H1 dx (.own x)) x (.ins (c.cl n) dx [])) (fun v H2 => v = .non ∧ Q (.ref x) H2) fun cls d H' => W cls d σ H' := by
  obtain ⟨S, F, nn, I, μ, e, Qd, Xd, hl, he, hw, h, q, x⟩ := h
  refine ⟨S, F, nn, I, μ, e, _, Xd, by omega, he, hw, h, fun ds μ1 vs I1 H1 pa s1 w1 ra p dx hp hdx ne => ?_, x.mono (by omega) (Same.refl I)⟩
  have w2 := w1.frame (p := dx) (u := .own p) hdx
  have hp2 : upd H1 dx (.own p) p = none := by rw [upd_ne (Ne.symm ne)]; exact hp
  have w3 := w2.newCell (p := p) (u := .ins (c.cl n) dx []) (nd := .obj n [] []) hp2 (NdR.obj (fs := []) (xs := []) .nil rfl hns)
  refine ⟨S, F, nn + ka, I1, _, _, _, Xd, by omega, w3, .cons .cell (ra.append (hd S I1)), pa p (w1.fresh hp).2, fun d μ2 v I2 H2 pb s2 w4 rb => ?_, fun d μ' cls dx I' H' p s2 w' er => x d μ' cls dx I' H' p (s1.trans s2) (w'.up (by omega)) er⟩
  obtain ⟨rfl, pb⟩ := pb
  cases rb
  refine ⟨rfl, ?_⟩
  split at pb
  · rename_i nd e1
    obtain ⟨hi, o, r1, h1⟩ := w4.m p nd e1
    have hnc : ∀ a, S = some a → ¬ Cell a p := fun a ea qq => by
      have := ((w4.s a ea).2 p qq).2
      rw [e1] at this
      cases this
    refine (q.sett (m := mm)) _ (del μ2 p) _ I2 H2 pb (s1.trans s2) ((w4.drop fun b nd' e => ?_).up (by omega)) ⟨p, o, rfl, h1, r1, hi, del_same, hnc, w4.nfm e1⟩
    by_cases z : b = p
    · rw [z, del_same] at e
      cases e
    · rw [del_ne z] at e
      exact e
  · exact pb.elim
theorem g_make {n : Str} {mm : Bool} (M : Mk X.K (c.cl n) f) (F : FnW X.prog X.w X.K X.mg X.base k f fd ps (SpW c s kf)) (gd : X.A.guards = some []) (hr : Room (k + 1) X.A) (hg : Gl X x) (hm : X.mg x = some (.ref (c.cl n))) (hb : Binds X.K fd ps dv) (hd : Vals dvs dv) (hdd : ∀ S I, Reps c S I dd dvs) (tk : Takes X W)
    (ha : GA X c W ka (a :: es) wr) (hns : n ∈ c.ns := by decide) (hdb : (x == ("__debug__" : Str)) = false := by decide) (he : starEach (a :: es) X.env = (false, eval a X.env) :: starEach es X.env := by rfl) (hpl : (backTo pos (starEach es X.env)).any (·.1) = false := by rfl) :
    GE X c W (ka + kf) (.Call (.Name x p) (a :: es) [] pos) (wMake mm n s dd wr) := by
  refine ⟨fun pins s σ H Q J h => ?_⟩
  refine wpAny_Call_Name_kw (ld_glob J hg hm ?_ hdb)
  refine PySem.W.callWith_K (h₀ := X.base) J.ok.mod.kin M.kp (thn (ha.run pos pins s σ H _ J (ld_make hns hdd h)) fun us s1 ⟨vs, H1, I1, r, q⟩ => ⟨I1.kIn, ?_⟩) he hpl
  exact run_makeW M F gd hr hb hd tk I1 r q
theorem g_make0 {n : Str} {mm : Bool} (M : Mk X.K (c.cl n) f) (F : FnW X.prog X.w X.K X.mg X.base k f fd ps (SpW c s kf)) (gd : X.A.guards = some []) (hr : Room (k + 1) X.A) (hg : Gl X x) (hm : X.mg x = some (.ref (c.cl n))) (hb : Binds X.K fd ps dv) (hd : Vals dvs dv) (hdd : ∀ S I, Reps c S I dd dvs) (tk : Takes X W)
    (hns : n ∈ c.ns := by decide) (hdb : (x == ("__debug__" : Str)) = false := by decide) : GE X c W (0 + kf) (.Call (.Name x p) [] [] pos) (wMake mm n s dd waNil) := by
  refine ⟨fun pins s σ H Q J h => ?_⟩
  refine wpAny_Call_Name_kw (ld_glob J hg hm ?_ hdb)
  obtain ⟨S, F', nn, I, μ, e, Qd, Xd, hl, he, hw, h, q, x⟩ := ld_make hns hdd h
  exact PySem.W.callWith_K0 J.kIn M.kp (run_makeW (us := []) (vs := []) M F gd hr hb hd tk J .nil (q [] μ [] I H h (Same.refl I) hw .nil))
end
end DL

set_option Elab.async false
set_option linter.all false
set_option maxRecDepth 100000
set_option maxHeartbeats 4000000
/-! A5: operators of own classes, instances called, enumerate, reversal, stars, methods of lists. -/
namespace DL
open PySem PySem.Calls PySem.Spec PyProof.Rows L2
def clsOf (μ : Mu) (x : D) : Option Str := (asObj μ x).map fun z => z.1
theorem clsOf_some {μ : Mu} {x : D} {n : Str} (h : clsOf μ x = some n) : ∃ fs ds, asObj μ x = some (n, fs, ds) := by
  unfold clsOf at h
  cases e : asObj μ x with
  | none =>
    rw [e] at h
    cases h
  | some z =>
    rw [e] at h
    cases h
    exact ⟨z.2.1, z.2.2, rfl⟩
def vR (Q : QR) : QD := fun d μ => Q (.v d) μ
/-- x op y by a method of the class n -/
def oOwn (n : Str) (s : WP) : WOp := fun x y μ Q X => clsOf μ x = some n ∧ clsOf μ y = some n ∧ s [x, y] μ (vR Q) X
def oOwn1 (n : Str) (s : WP) : WU := fun x μ Q X => clsOf μ x = some n ∧ s [x] μ (vR Q) X
def oOwnIx (n : Str) (s : WP) : WOp := fun x y μ Q X => clsOf μ x = some n ∧ s [x, y] μ (vR Q) X
def oOwnNe (n : Str) (s : WP) : WOp := fun x y μ Q X => clsOf μ x = some n ∧ clsOf μ y = some n ∧ s [x, y] μ (fun d μ1 => match d with
  | .bool b => Q (.v (.bool (!b))) μ1
  | _ => False) X
def oOwnR (n : Str) (s : WP) : WOp := fun x y μ Q X => int1 x fun i => clsOf μ y = some n ∧ s [y, .int i] μ (vR Q) X
def wCallI (n : Str) (s : WP) (r : WE) (a : WA) : WE := fun e μ Q X => r e μ (fun x μ1 => clsOf μ1 x = some n ∧ a e μ1 (fun ds μ2 => clsOf μ2 x = some n ∧ s (x :: ds) μ2 Q X) X) X
section
variable {X : Cx} {c : Ctx} {W : WX} {k kf ka kb ko : Nat} {f C : Addr} {fd : FuncData} {ps : List Str} {s : WP} {n : Str}
theorem cmpBack_of' {pins : List (Addr × Obj)} {σ : L2.St} {Q : VK} {u : Value} {s' : Shared} (h : EP X pins σ Q u s') : PySem.W.CmpBack (EP X pins σ Q) u s' := by
  obtain ⟨v, H', I, r, q⟩ := h
  cases v with
  | non => cases r; exact ⟨.non, H', I, rfl, q⟩
  | bl b => cases r; exact ⟨.bl b, H', I, rfl, q⟩
  | int i => obtain ⟨t, rfl⟩ := r; exact ⟨.int i, H', I, ⟨t, rfl⟩, q⟩
  | str z => obtain ⟨t, rfl⟩ := r; exact ⟨.str z, H', I, ⟨t, rfl⟩, q⟩
  | byt z => obtain ⟨t, rfl⟩ := r; exact ⟨.byt z, H', I, ⟨t, rfl⟩, q⟩
  | flt z => obtain ⟨t, rfl⟩ := r; exact ⟨.flt z, H', I, ⟨t, rfl⟩, q⟩
  | ref a => cases r; exact ⟨.ref a, H', I, rfl, q⟩
  | ty n => cases r; exact ⟨.ty n, H', I, rfl, q⟩
/-- the promise of a def out of a wish at values -/
theorem sp_of {S : Option SA} {F I H : Hp} {m : Nat} {μ : Mu} {ds : List D} {vs : List V} {Qd : QD} {Xd : QD} {Q : VK} {σ : L2.St} (hl : m + kf ≤ LIM) (w : Wd c S F m I μ H) (r : Reps c S I ds vs) (h : s ds μ Qd Xd) (q : QV c S F (m + kf) I Qd Q) (x : XV c W S F (m + kf) I σ Xd) :
    SpW c s kf vs H Q fun cls d H' => W cls d σ H' := ⟨S, F, m, I, μ, ds, Qd, Xd, hl, w, r, h, q, fun d μ' cls dx I' H' p s2 w' er => x d μ' cls dx I' H' p s2 w' er⟩
theorem QVR.vR {S : Option SA} {F I : Hp} {m : Nat} {Qd : QR} {Q : VK} (q : QVR c S F m I Qd Q) : QV c S F m I (vR Qd) Q := fun d μ' v I' H' p s w r => q (.v d) μ' v I' H' p s w r
theorem w_own {op : Operator} (G : FnW X.prog X.w X.K X.mg X.base k f fd ps (SpW c s kf)) (gd : X.A.guards = some []) (hr : Room k X.A) (hb : Binds X.K fd ps []) (tk : Takes X W) (hc : PySem.W.selfFirst X.K (c.cl n) = true) (hs : Spl X.K (c.cl n) (PySem.dunder op.info.2) f) : Op2 X c W kf (binaryOp op) (oOwn n s) := by
  intro pins sh σ H x y v u Q J rx ry h
  obtain ⟨S, F, m, I, μ, dx, dy, Qd, Xd, hl, w, ra, rb, ⟨h1, h2, h⟩, q, x⟩ := h
  obtain ⟨fs, ds, e1⟩ := clsOf_some h1
  obtain ⟨gs, es, e2⟩ := clsOf_some h2
  obtain ⟨a, _, _, rfl, ha, _⟩ := asObj_rep w ra e1
  obtain ⟨b, _, _, rfl, hb', _⟩ := asObj_rep w rb e2
  cases rx
  cases ry
  obtain ⟨mA, Oa, _⟩ := ins_get J.hok ha
  obtain ⟨od, Ja, _⟩ := Oa.look
  obtain ⟨mB, Ob, _⟩ := ins_get J.hok hb'
  obtain ⟨od', Jb, _⟩ := Ob.look
  refine bin_same J.kIn Ja Jb hc hs.at_ hs.fn ?_
  exact thn (run_fnW (us := [.ref a, .ref b]) (vs := [.ref a, .ref b]) (dvs := []) G gd hr hb .nil tk J (.cons rfl (.cons rfl .nil)) (sp_of hl w (.cons ra (.cons rb .nil)) h q.vR x)) fun r s' z => cmpBack_of' z
theorem w_own1 {op : UnaryOp} {nm : Str} (hop : (op = .USub ∧ nm = "__neg__") ∨ (op = .Invert ∧ nm = "__invert__")) (G : FnW X.prog X.w X.K X.mg X.base k f fd ps (SpW c s kf)) (gd : X.A.guards = some []) (hr : Room k X.A) (hb : Binds X.K fd ps []) (tk : Takes X W) (hs : Spl X.K (c.cl n) nm f) : Op1 X c W kf (unaryOp op) (oOwn1 n s) := by
  intro pins sh σ H x v Q J rx h
  obtain ⟨S, F, m, I, μ, dx, Qd, Xd, hl, w, ra, ⟨h1, h⟩, q, x⟩ := h
  obtain ⟨fs, ds, e1⟩ := clsOf_some h1
  obtain ⟨a, _, _, rfl, ha, _⟩ := asObj_rep w ra e1
  cases rx
  obtain ⟨mA, Oa, _⟩ := ins_get J.hok ha
  obtain ⟨od, Ja, _⟩ := Oa.look
  exact un_own hop J.kIn Ja hs.at_ hs.fn (run_fnW (us := [.ref a]) (vs := [.ref a]) (dvs := []) G gd hr hb .nil tk J (.cons rfl .nil) (sp_of hl w (.cons ra .nil) h q.vR x))
theorem w_ownEq (G : FnW X.prog X.w X.K X.mg X.base k f fd ps (SpW c s kf)) (gd : X.A.guards = some []) (hr : Room k X.A) (hb : Binds X.K fd ps []) (tk : Takes X W) (hn : PySem.W.notFirst X.K (c.cl n) (.ref (c.cl n)) = true) (hs : Spl X.K (c.cl n) "__eq__" f) : Op2 X c W kf (compareOp .Eq) (oOwn n s) := by
  intro pins sh σ H x y v u Q J rx ry h
  obtain ⟨S, F, m, I, μ, dx, dy, Qd, Xd, hl, w, ra, rb, ⟨h1, h2, h⟩, q, x⟩ := h
  obtain ⟨fs, ds, e1⟩ := clsOf_some h1
  obtain ⟨gs, es, e2⟩ := clsOf_some h2
  obtain ⟨a, _, _, rfl, ha, _⟩ := asObj_rep w ra e1
  obtain ⟨b, _, _, rfl, hb', _⟩ := asObj_rep w rb e2
  cases rx
  cases ry
  obtain ⟨mA, Oa, _⟩ := ins_get J.hok ha
  obtain ⟨od, Ja, _⟩ := Oa.look
  obtain ⟨mB, Ob, _⟩ := ins_get J.hok hb'
  obtain ⟨od', Jb, _⟩ := Ob.look
  refine cmp_own (op := .Eq) hr.units0 J.kIn Ja Jb.type hn hs.at_ hs.fn ?_
  exact thn (run_fnW (us := [.ref a, .ref b]) (vs := [.ref a, .ref b]) (dvs := []) G gd hr hb .nil tk J (.cons rfl (.cons rfl .nil)) (sp_of hl w (.cons ra (.cons rb .nil)) h q.vR x)) fun r s' z => cmpBack_of' z
theorem w_ownNe (G : FnW X.prog X.w X.K X.mg X.base k f fd ps (SpW c s kf)) (gd : X.A.guards = some []) (hr : Room (k + 1) X.A) (hb : Binds X.K fd ps []) (tk : Takes X W) (hn : PySem.W.notFirst X.K (c.cl n) (.ref (c.cl n)) = true) (hne : NeOf X.K (c.cl n)) (hs : Spl X.K (c.cl n) "__eq__" f) : Op2 X c W kf (compareOp .NotEq) (oOwnNe n s) := by
  intro pins sh σ H x y v u Q J rx ry h
  obtain ⟨S, F, m, I, μ, dx, dy, Qd, Xd, hl, w, ra, rb, ⟨h1, h2, h⟩, q, x⟩ := h
  obtain ⟨fs, ds, e1⟩ := clsOf_some h1
  obtain ⟨gs, es, e2⟩ := clsOf_some h2
  obtain ⟨a, _, _, rfl, ha, _⟩ := asObj_rep w ra e1
  obtain ⟨b, _, _, rfl, hb', _⟩ := asObj_rep w rb e2
  cases rx
  cases ry
  obtain ⟨mA, Oa, _⟩ := ins_get J.hok ha
  obtain ⟨od, Ja, _⟩ := Oa.look
  obtain ⟨mB, Ob, _⟩ := ins_get J.hok hb'
  obtain ⟨od', Jb, _⟩ := Ob.look
  have hu : X.A.units + 1 < cLine := by have := hr.un; omega
  refine ne_own hu J.kIn Ja Jb.type hn hne.at_ hne.ob hs.at_ hs.fn (thn (run_fnW1 (us := [.ref a, .ref b]) (vs := [.ref a, .ref b]) (Q := fun v H' => ∃ r, v = .bl r ∧ Q (.bl (!r)) H') G gd hr hb tk J (.cons rfl (.cons rfl .nil)) (sp_of hl w (.cons ra (.cons rb .nil)) h (fun d μ' v I' H' p s w r => ?_) x)) fun r s' z => ?_)
  · cases r <;> first | exact False.elim p | exact ⟨_, rfl, q _ μ' _ I' H' p s w .bool⟩
  · obtain ⟨z, H', I', rz, b', rfl, q'⟩ := z
    cases rz
    exact ⟨b', rfl, .bl _, H', I', rfl, q'⟩
theorem w_ownR {g : Addr} (G : FnW X.prog X.w X.K X.mg X.base k f fd ps (SpW c s kf)) (gd : X.A.guards = some []) (hr : Room k X.A) (hb : Binds X.K fd ps []) (tk : Takes X W) (hc : PySem.W.selfFirst X.K (c.cl n) = true) (hm : Spl X.K (c.cl n) "__mul__" g) (hsub : PySem.W.subIn X.K (.ref (c.cl n)) (.type "int") = some false) (hs : Spl X.K (c.cl n) "__rmul__" f) :
    Op2 X c W kf (binaryOp .Mult) (oOwnR n s) := by
  intro pins sh σ H x y v u Q J rx ry h
  obtain ⟨S, F, m, I, μ, dx, dy, Qd, Xd, hl, w, ra, rb, h, q, x⟩ := h
  obtain ⟨i, rfl, h1, h⟩ := int1_cases h
  obtain ⟨gs, es, e2⟩ := clsOf_some h1
  obtain ⟨b, _, _, rfl, hb', _⟩ := asObj_rep w rb e2
  cases ra
  obtain ⟨t, rfl⟩ := rx
  cases ry
  obtain ⟨mB, Ob, _⟩ := ins_get J.hok hb'
  obtain ⟨od', Jb, _⟩ := Ob.look
  exact rmul_own J.kIn Jb hc hm.at_ hsub hs.at_ hs.fn (thn (run_fnW (us := [.ref b, .int i t]) (vs := [.ref b, .int i]) (dvs := []) G gd hr hb .nil tk J (.cons rfl (.cons ⟨t, rfl⟩ .nil)) (sp_of hl w (.cons rb (.cons .int .nil)) h q.vR x)) fun r s' z => cmpBack_of' z)
variable {a b o : Expr} {wa wb wo : WE} {pos : Pos} {es : List Expr} {wr : WA} {m : Bool}
theorem g_ixO (G : FnW X.prog X.w X.K X.mg X.base k f fd ps (SpW c s kf)) (gd : X.A.guards = some []) (hr : Room (k + 1) X.A) (hb : Binds X.K fd ps []) (tk : Takes X W) (hs : Spl X.K (c.cl n) "__getitem__" f) (hf : PySem.W.fnIn X.K f = true) (h1 : GE X c W ka a wa) (h2 : GE X c W kb b wb)
    (hsl : ∀ x i, subscripted b true (.ref x) i = runValue (.builtin "lifetime.subscript" ⟨[.ref x, i], []⟩) := by intro _ _; with_unfolding_all rfl) : GE X c W (ka + (kb + kf)) (.Subscript a b pos) (wOp m (oOwnIx n s) wa wb) := by
  refine ⟨fun pins sh σ H Q J h => ?_⟩
  refine Subscript_ (binT h1 h2 J (ld_two h) fun v u s2 x y H2 I2 rx ry q => ?_)
  obtain ⟨S, F, mm, I, μ, dx, dy, Qd, Xd, hl, w, ra, rb, ⟨g1, h⟩, q, x⟩ := q
  obtain ⟨fs, ds, e1⟩ := clsOf_some g1
  obtain ⟨p, _, _, rfl, ha, _⟩ := asObj_rep w ra e1
  cases rx
  obtain ⟨mA, Oa, _⟩ := ins_get I2.hok ha
  obtain ⟨od, Ja, _⟩ := Oa.look
  exact sub_own I2.kIn Ja hs.at_ hf hs.fn (run_fnW1 (us := [.ref p, u]) (vs := [.ref p, y]) G gd hr hb tk I2 (.cons rfl (.cons ry .nil)) (sp_of hl w (.cons ra (.cons rb .nil)) h q.vR x)) (hsl p u)
/-- an instance called -/
theorem g_callI (ho : GE X c W ko o wo) (cc : StX.CallO X.K (c.cl n) f) (G : FnW X.prog X.w X.K X.mg X.base k f fd ps (SpW c s kf)) (gd : X.A.guards = some []) (hr : Room k X.A) (hb : Binds X.K fd ps []) (tk : Takes X W) (ha : GA X c W ka (a :: es) wr)
    (ht : eval (.Call o (a :: es) [] pos) X.env = (do callWith pos (← eval o X.env) [] (backTo pos (starEach (a :: es) X.env)) (backToKw pos (keywordEach [] X.env))) := by rfl)
    (he : starEach (a :: es) X.env = (false, eval a X.env) :: starEach es X.env := by rfl) (hpl : (backTo pos (starEach es X.env)).any (·.1) = false := by rfl) : GE X c W (ko + (ka + kf)) (.Call o (a :: es) [] pos) (wCallI n s wo wr) := by
  refine ⟨fun pins sh σ H Q J h => ?_⟩
  have h2 : ldE c W ko wo σ H fun y H1 => ∃ p, y = V.ref p ∧ ldA c W ka wr σ H1 fun vs H2 => (∃ dx fs, H2 p = some (.ins (c.cl n) dx fs)) ∧ SpW c s kf (V.ref p :: vs) H2 Q fun cls d H' => W cls d σ H' := by
    obtain ⟨S, F, mm, I, μ, e, Qd, Xd, hl, he, hw, h, q, x⟩ := h
    refine ⟨S, F, mm, I, μ, e, _, Xd, by omega, he, hw, h, fun d μ1 v I1 H1 pa s1 w1 ra => ?_, x.mono (by omega) (Same.refl I)⟩
    obtain ⟨g1, pa⟩ := pa
    obtain ⟨fs, ds, e1⟩ := clsOf_some g1
    obtain ⟨p, _, _, rfl, hp, _⟩ := asObj_rep w1 ra e1
    refine ⟨p, rfl, S, F, mm + ko, I1, μ1, e, _, Xd, by omega, he.mono s1, w1, pa, fun ds μ2 vs I2 H2 pb s2 w2 rb => ?_, x.mono (by omega) s1⟩
    obtain ⟨g2, pb⟩ := pb
    obtain ⟨fs2, ds2, e2⟩ := clsOf_some g2
    obtain ⟨p', dx', xs', e3, hp', _⟩ := asObj_rep w2 (ra.mono s2) e2
    cases e3
    exact ⟨⟨_, _, hp'⟩, sp_of (by omega) w2 (.cons (ra.mono s2) rb) pb (q.mono (by omega) (s1.trans s2)) (x.mono (by omega) (s1.trans s2))⟩
  refine Call_ (thn (ho.run pins sh σ H _ J h2) fun u s1 ⟨y, H1, I1, ry, p, ey, q⟩ => ?_) ht
  subst ey
  obtain rfl : u = Value.ref p := ry
  refine StX.callO_with (thn (ha.run pos pins s1 σ H1 _ I1 q) fun us s2 ⟨vs, H2, I2, r, hi, q2⟩ => ?_) he hpl
  obtain ⟨dx, fs, hi⟩ := hi
  obtain ⟨ox, od, Jx, hd⟩ := StX.insC_at (X := X) I2 (.inr ⟨dx, fs, hi⟩)
  refine ⟨⟨c.cl n, ox, od, Jx, hd⟩, ?_⟩
  refine wpAny_call (PySem.W.kco_code I2.kIn Jx hd cc.at_ cc.fn cc.fi ?_)
  have rr : Vals (V.ref p :: vs) (Value.ref p :: us) := .cons rfl r
  have hl : ((Value.ref p :: us) ++ ([] : List Value)).length = ps.length := by rw [List.append_nil, ← rr.length]; exact G.len _ _ _ _ q2
  have hbs := hb s2 (.ref p :: us) I2.kIn hl
  rw [List.append_nil] at hbs
  refine codeAny_mono (G.run X.A X.stack s2 H2 ⟨.ref p :: us, []⟩ (.ref p :: us) (.ref p :: vs) Q _ gd hr I2.env0 hbs rr q2) fun r s' hq => ?_
  cases r with
  | error e => exact tk e s' (XE.of_call I2 (fun _ _ _ h => h) hq)
  | ok fl =>
    cases fl with
    | ret u => exact I2.after hq
    | next => exact False.elim hq
    | brk => exact False.elim hq
    | cont => exact False.elim hq
end
/-! ### enumerate, reversal, stars -/
def enumD : Nat → List D → List D
  | _, [] => []
  | i, d :: ds => .tup [.int (i : Int), d] :: enumD (i + 1) ds
theorem enumD_get : ∀ (ds : List D) (k i : Nat), (enumD k ds)[i]? = (ds[i]?).map fun d => .tup [.int ((k + i : Nat) : Int), d]
  | [], _, _ => rfl
  | d :: ds, k, 0 => rfl
  | d :: ds, k, i + 1 => by
    show (enumD (k + 1) ds)[i]? = (ds[i]?).map _
    rw [enumD_get ds (k + 1) i, show k + 1 + i = k + (i + 1) by omega]
theorem enumD_len : ∀ (ds : List D) (k : Nat), (enumD k ds).length = ds.length
  | [], _ => rfl
  | d :: ds, k => by rw [enumD, List.length_cons, List.length_cons, enumD_len ds]
def wiEnum (a : WA) : WI := fun e μ Q X => a e μ (fun ds μ1 => one ds fun d => match sqD μ1 d with
  | some xs => Q ⟨enumD 0 xs, okS d xs⟩ μ1
  | Option.none => False) X
def wRev (m : Bool) (a : WE) : WE := fun e μ Q X => a e μ (fun x μ1 => match x with
  | .tup ds => Q (.tup ds.reverse) μ1
  | x => (match seqL μ1 x with
    | some ds => sett m Q (.n (.list ds.reverse)) μ1
    | Option.none => False)) X
def waStar (a : WE) (r : WA) : WA := fun e μ Q X => a e μ (fun x μ1 => match sqD μ1 x with
  | some ds => r e μ1 (fun es μ2 => Q (ds ++ es) μ2) X
  | Option.none => False) X
section
variable {X : Cx} {c : Ctx} {W : WX} {k ka kb : Nat} {a tg : Expr} {wa : WE} {pos p : Pos} {es : List Expr} {wr : WA} {m : Bool}
/-- what enumerate tells of a sequence that is walked -/
theorem itd_enum {S : Option SA} {I1 : Hp} {J : It} {ds : List D} {ok : Mu → Prop} {sq : Hp → List V → Prop} (h : ∀ F n I μ H, Same I1 I → Wd c S F n I μ H → ok μ → ∃ xs, sq H xs ∧ Reps c S I ds xs)
    (hgo : ∀ i H xs x, sq H xs → xs[i]? = some x → J.go i H) (hy : ∀ i H xs x v H', sq H xs → xs[i]? = some x → J.yld i H v H' → ∃ T, v = .ref T ∧ H T = none ∧ H' = upd H T (.tup [.int (i : Nat), x])) (hst : ∀ i H xs, sq H xs → xs.length ≤ i → J.stop i H) : ItD c S J I1 ⟨enumD 0 ds, ok⟩ := fun F i n I μ H s w o => by
  obtain ⟨xs, hq, r⟩ := h F n I μ H s w o
  show (∀ d, (enumD 0 ds)[i]? = some d → _) ∧ ((enumD 0 ds)[i]? = _ → _)
  rw [enumD_get]
  refine ⟨fun d hd => ?_, fun hd => ?_⟩
  · cases hx : ds[i]? with
    | none =>
      rw [hx] at hd
      cases hd
    | some d0 =>
      rw [hx] at hd
      have hd' : D.tup [.int ((0 + i : Nat) : Int), d0] = d := Option.some.inj hd
      obtain ⟨x, hx1, rx⟩ := r.get hx
      refine ⟨hgo i H xs x hq hx1, fun v H' yl => ?_⟩
      obtain ⟨T, e1, hT, e2⟩ := hy i H xs x v H' hq hx1 yl
      have sm : Same I (upd I T (.tup [.int (i : Nat), x])) := same_new (w.fresh hT).1
      refine ⟨_, sm, by rw [e2]; exact w.new hT, ?_⟩
      rw [e1, ← hd', Nat.zero_add]
      exact .tup (.inl upd_same) (.cons .int (.cons (rx.mono sm) .nil))
  · refine hst i H xs hq ?_
    rw [← r.length]
    cases hx : ds[i]? with
    | none => exact List.getElem?_eq_none_iff.mp hx
    | some d0 =>
      rw [hx] at hd
      cases hd
theorem itd_enumL {S : Option SA} {I1 : Hp} {aa : Addr} {ds : List D} {ok : Mu → Prop} (h : ∀ F n I μ H, Same I1 I → Wd c S F n I μ H → ok μ → ∃ xs, SqL c.K H aa xs ∧ Reps c S I ds xs) : ItD c S (Ite c.K aa) I1 ⟨enumD 0 ds, ok⟩ :=
  itd_enum (sq := fun H xs => SqL c.K H aa xs) h (fun i H xs x hq hx => ⟨xs, x, hq, hx⟩) (fun i H xs x v H' hq hx ⟨T, x2, e1, hT, e2, y⟩ => by
    have e3 := y xs hq
    rw [hx] at e3
    have e4 : x = x2 := Option.some.inj e3
    subst e4
    exact ⟨T, e1, hT, e2⟩) fun i H xs hq hl => ⟨xs, hq, hl⟩
theorem itd_enumT {S : Option SA} {I1 : Hp} {aa : Addr} {ds : List D} {ok : Mu → Prop} (h : ∀ F n I μ H, Same I1 I → Wd c S F n I μ H → ok μ → ∃ xs, SqT c.K H aa xs ∧ Reps c S I ds xs) : ItD c S (IteT c.K aa) I1 ⟨enumD 0 ds, ok⟩ :=
  itd_enum (sq := fun H xs => SqT c.K H aa xs) h (fun i H xs x hq hx => ⟨xs, x, hq, hx⟩) (fun i H xs x v H' hq hx ⟨T, x2, e1, hT, e2, y⟩ => by
    have e3 := y xs hq
    rw [hx] at e3
    have e4 : x = x2 := Option.some.inj e3
    subst e4
    exact ⟨T, e1, hT, e2⟩) fun i H xs hq hl => ⟨xs, hq, hl⟩
theorem gi_enum {tpos : Pos} {elts : List Expr} {kk : Nat} (hg : Gl X "enumerate") (hm : X.mg "enumerate" = none) (ha : GA X c W k [a] wr) (hs : starEach [a] X.env = [(false, eval a X.env)] := by rfl) (hK : X.K = c.K := by rfl) : GI X c W k (.Tuple elts kk tpos) (.Call (.Name "enumerate" p) [a] [] pos) (wiEnum wr) := by
  obtain ⟨K, cl, tb, ns, es0⟩ := c
  cases hK
  refine L2.PI.imp (pi_enumU hg hm ha hs) fun σ H R h => ?_
  obtain ⟨S, F, n, I, μ, e, Qd, Xd, hl, he, hw, h, q, x⟩ := h
  refine ⟨S, F, n, I, μ, e, _, Xd, hl, he, hw, h, fun ds μ1 vs I1 H1 p s1 u1 r1 => ?_, x⟩
  obtain ⟨z, rfl, p2⟩ := one_cases p
  obtain ⟨v, rfl, rv⟩ := reps1 r1
  clear p
  split at p2
  · rename_i xs e1
    cases rv with
    | list g r =>
      cases e1
      exact ⟨_, _, rfl, .inl ⟨SqL.of (u1.lst g), q _ μ1 _ I1 H1 p2 s1 u1 (itd_enumL fun F n I2 μ2 H2 s2 w2 _ => ⟨_, SqL.of (w2.lst (s2 _ _ g)), r.mono s2⟩)⟩⟩
    | tup g r =>
      cases e1
      exact ⟨_, _, rfl, .inr ⟨u1.tupH g, q _ μ1 _ I1 H1 p2 s1 u1 (itd_enumT fun F n I2 μ2 H2 s2 w2 _ => ⟨_, w2.tupH (Same.tup s2 g), r.mono s2⟩)⟩⟩
    | script g =>
      cases e1
      exact ⟨_, _, rfl, .inl ⟨u1.seqH g, q _ μ1 _ I1 H1 p2 s1 u1 (itd_enumL fun F n I2 μ2 H2 s2 w2 _ => ⟨_, w2.seqH (s2.seq g), Reps.of_ints⟩)⟩⟩
    | cell =>
      obtain ⟨ys, h1, h2⟩ := u1.cellL e1
      refine ⟨_, _, rfl, .inl ⟨SqL.of h1, q _ μ1 _ I1 H1 p2 s1 u1 (itd_enumL fun F n I2 μ2 H2 s2 w2 o => ?_)⟩⟩
      obtain ⟨zs, h3, h4⟩ := w2.cellL o
      exact ⟨zs, SqL.of h3, h4⟩
    | _ => cases e1
  · exact p2.elim
theorem g_rev {kk : Nat} {p1 p2 p3 : Pos} (ha : GE X c W k a wa) (hK : X.K = c.K := by rfl) : GE X c W k (.Subscript a (.Slice none none (some (.UnaryOp .USub (.Constant (.int 1) kk p1) p2)) p3) pos) (wRev m wa) := by
  obtain ⟨K, cl, tb, ns, es0⟩ := c
  cases hK
  refine L2.PE.imp (pe_revU ha) fun σ H Q h => ?_
  obtain ⟨S, F, n, I, μ, e, Qd, Xd, hl, he, hw, h, q, x⟩ := h
  refine ⟨S, F, n, I, μ, e, _, Xd, hl, he, hw, h, fun d μ1 v I1 H1 pa s1 w1 ra => ?_, x⟩
  dsimp only at pa
  split at pa
  · cases ra with
    | @tup aa _ xs g r =>
      refine ⟨_, _, rfl, .inr ⟨w1.tupH g, fun p hp => ?_⟩⟩
      have sm : Same I1 (upd I1 p (.tup xs.reverse)) := same_new (w1.fresh hp).1
      exact q _ μ1 _ _ _ pa (s1.trans sm) (w1.new hp) (.tup (.inl upd_same) (r.reverse.mono sm))
  · split at pa
    · rename_i ds e1
      obtain ⟨l, xs, rfl, h1, r1⟩ := seqL_rep w1 ra e1
      refine ⟨_, _, rfl, .inl ⟨SqL.of h1, fun p hp => ?_⟩⟩
      obtain ⟨w2, rr⟩ := RsR.new w1 hp (NdR.list r1.reverse)
      exact (q.sett (m := m)) _ μ1 _ _ _ pa s1 w2 rr
    · exact pa.elim
theorem ga_star (ha : GE X c W ka a wa) (hr : GA X c W kb es wr) (hs : starEach (.Starred a p :: es) X.env = (true, eval a X.env) :: starEach es X.env := by rfl) (hK : X.K = c.K := by rfl) : GA X c W (ka + kb) (.Starred a p :: es) (waStar wa wr) := by
  obtain ⟨K, cl, tb, ns, es0⟩ := c
  cases hK
  refine L2.PA.imp (StX.pa_star ha hr hs) fun σ H Q h => ?_
  obtain ⟨S, F, n, I, μ, e, Qd, Xd, hl, he, hw, h, q, x⟩ := h
  refine ⟨S, F, n, I, μ, e, _, Xd, by omega, he, hw, h, fun d μ1 v I1 H1 pa s1 w1 ra => ?_, x.mono (by omega) (Same.refl I)⟩
  dsimp only at pa
  split at pa
  · rename_i ds e1
    obtain ⟨l, xs, rfl, h1, r1⟩ := sqD_rep w1 ra e1
    refine ⟨l, xs, rfl, h1.symm, S, F, n + ka, I1, μ1, e, _, Xd, by omega, he.mono s1, w1, pa, fun es μ2 vs I2 H2 pb s2 w2 rb => ?_, x.mono (by omega) s1⟩
    exact q _ μ2 _ I2 H2 pb (s1.trans s2) (w2.up (by omega)) ((r1.mono s2).append rb)
  · exact pa.elim
end
/-! ### methods of lists -/
/-- a list that is a cell -/
def lstC (x : D) (μ : Mu) (f : Addr → List D → Prop) : Prop := match x with
  | .cell p => (match ndL (μ p) with
    | some ds => f p ds
    | Option.none => False)
  | _ => False
theorem lstC_cases {x : D} {μ : Mu} {f : Addr → List D → Prop} (h : lstC x μ f) : ∃ p ds, x = .cell p ∧ ndL (μ p) = some ds ∧ f p ds := by
  unfold lstC at h
  split at h
  · split at h
    · rename_i e
      exact ⟨_, _, rfl, e, h⟩
    · exact h.elim
  · exact h.elim
def isL (μ : Mu) (x : D) : Prop := (seqL μ x).isSome = true
def mApp : WM := fun x xs μ Q _ => lstC x μ fun p ds => one xs fun y => ds.length < sizeLine ∧ Q (.v .none) (up μ p (.list (ds ++ [y])))
def mPop : WM := fun x xs μ Q _ => xs = [] ∧ lstC x μ fun p ds => match ds[ds.length - 1]? with
  | some y => Q (.v y) (up μ p (.list ds.dropLast))
  | Option.none => False
def mPopAt : WM := fun x xs μ Q _ => lstC x μ fun p ds => one xs fun y => int1 y fun i => -(2 ^ 63) ≤ i ∧ i < 2 ^ 63 ∧ (match seqIndex? i ds.length with
  | some k => (match ds[k]? with
    | some y => Q (.v y) (up μ p (.list (ds.eraseIdx k)))
    | Option.none => False)
  | Option.none => False)
/-- x.m(..) of a list -/
def wLm (m : Bool) (o : WM) (r : WE) (a : WA) : WE := fun e μ Q X => r e μ (fun x μ1 => isL μ1 x ∧ a e μ1 (fun xs μ2 => o x xs μ2 (sett m Q) X) X) X
section
variable {X : Cx} {c : Ctx} {W : WX} {ko ka : Nat} {a o : Expr} {wo : WE} {es : List Expr} {wr : WA} {m : Bool} {name : Str} {id : String}
/-- a method that keeps a wish -/
def MtW (X : Cx) (c : Ctx) (id : String) (o : WM) : Prop := ∃ r, MtR X id r ∧ ∀ S F n I μ d ds v vs H Qd Xd Q, Wd c S F n I μ H → Rep c S I d v → Reps c S I ds vs → o d ds μ Qd Xd → QVR c S F n I Qd Q → r v vs H Q
theorem mw_app : MtW X c "list.append" mApp := ⟨_, mt_append, fun S F n I μ d ds v vs H Qd Xd Q w rv rs h q => by
  obtain ⟨p, xs, rfl, e, h⟩ := lstC_cases h
  obtain ⟨y, rfl, h⟩ := one_cases h
  obtain ⟨u, rfl, ru⟩ := reps1 rs
  cases rv
  obtain ⟨zs, h1, h2⟩ := w.cellL e
  refine ⟨p, zs, u, rfl, rfl, h1, by rw [← h2.length]; exact h.1, ?_⟩
  exact q _ _ _ I _ h.2 (Same.refl I) (w.put (ndL_some e) (NdR.list (h2.append (.cons ru .nil)))) .none⟩
theorem mw_pop : MtW X c "list.pop" mPop := ⟨_, mt_pop, fun S F n I μ d ds v vs H Qd Xd Q w rv rs h q => by
  obtain ⟨rfl, h⟩ := h
  obtain ⟨p, xs, rfl, e, h⟩ := lstC_cases h
  cases rs
  cases rv
  obtain ⟨zs, h1, h2⟩ := w.cellL e
  split at h
  · rename_i y ey
    obtain ⟨u, hu, ru⟩ := h2.get ey
    refine ⟨p, zs, u, rfl, rfl, h1, by rw [← h2.length]; exact hu, ?_⟩
    exact q _ _ _ I _ h (Same.refl I) (w.put (ndL_some e) (NdR.list h2.dropLast)) ru
  · exact h.elim⟩
theorem mw_popAt : MtW X c "list.pop" mPopAt := ⟨_, mt_popAt, fun S F n I μ d ds v vs H Qd Xd Q w rv rs h q => by
  obtain ⟨p, xs, rfl, e, h⟩ := lstC_cases h
  obtain ⟨y, rfl, h⟩ := one_cases h
  obtain ⟨i, rfl, h0, h1, h⟩ := int1_cases h
  obtain ⟨u, rfl, ru⟩ := reps1 rs
  cases ru
  cases rv
  obtain ⟨zs, h2, h3⟩ := w.cellL e
  split at h
  · rename_i k ek
    split at h
    · rename_i y ey
      obtain ⟨u, hu, ru⟩ := h3.get ey
      refine ⟨p, zs, i, k, u, rfl, rfl, h2, h0, h1, by rw [← h3.length]; exact ek, hu, ?_⟩
      exact q _ _ _ I _ h (Same.refl I) (w.put (ndL_some e) (NdR.list (h3.eraseIdx k))) ru
    · exact h.elim
  · exact h.elim⟩
theorem ld_lm {oo : WM} {r : V → List V → Hp → VK → Prop} (hr : ∀ S F n I μ d ds v vs H Qd Xd Q, Wd c S F n I μ H → Rep c S I d v → Reps c S I ds vs → oo d ds μ Qd Xd → QVR c S F n I Qd Q → r v vs H Q) {σ : L2.St} {H : Hp} {Q : VK} (h : ldE c W (ko + ka) (wLm m oo wo wr) σ H Q) : tBM c.K "list" r (ldE c W ko wo) (ldA c W ka wr) σ H Q := by
  obtain ⟨S, F, n, I, μ, e, Qd, Xd, hl, he, hw, h, q, x⟩ := h
  refine ⟨S, F, n, I, μ, e, _, Xd, by omega, he, hw, h, fun d μ1 v I1 H1 pa s1 w1 ra => ?_, x.mono (by omega) (Same.refl I)⟩
  obtain ⟨g1, pa⟩ := pa
  obtain ⟨ds, e1⟩ := Option.isSome_iff_exists.mp g1
  obtain ⟨l, xs, rfl, h1, r1⟩ := seqL_rep w1 ra e1
  refine ⟨.inl ⟨rfl, _, SqL.of h1⟩, S, F, n + ko, I1, μ1, e, _, Xd, by omega, he.mono s1, w1, pa, fun es μ2 vs I2 H2 pb s2 w2 rb => ?_, x.mono (by omega) s1⟩
  exact hr S F _ I2 μ2 _ _ _ _ H2 _ _ Q w2 (ra.mono s2) rb pb (QV.sett (q.mono (by omega) (s1.trans s2)))
theorem g_lm {oo : WM} {pl : Sem Bool} {apos pos : Pos} (slot : Slot "list" name id) (hty : typeOf (.builtin id) = pure (.type "method_descriptor")) (hm : MtW X c id oo) (ho : GE X c W ko o wo) (ha : GA X c W ka (a :: es) wr) (hb : ∀ r, MtR X id r → PE X (.Call (.Attribute o name apos) (a :: es) [] pos) (tBM X.K "list" r (ldE c W ko wo) (ldA c W ka wr))) (hK : X.K = c.K := by rfl) :
    GE X c W (ko + ka) (.Call (.Attribute o name apos) (a :: es) [] pos) (wLm m oo wo wr) := by
  obtain ⟨r, h1, h2⟩ := hm
  refine L2.PE.imp (hb r h1) fun σ H Q h => ?_
  rw [hK]
  exact ld_lm h2 h
theorem g_lmN {oo : WM} {ex : Expr} (hm : MtW X c id oo) (hb : ∀ r, MtR X id r → PE X ex (tBM X.K "list" r (ldE c W ko wo) (ldA c W ka wr))) (hK : X.K = c.K := by rfl) : GE X c W (ko + ka) ex (wLm m oo wo wr) := by
  obtain ⟨r, h1, h2⟩ := hm
  refine L2.PE.imp (hb r h1) fun σ H Q h => ?_
  rw [hK]
  exact ld_lm h2 h
theorem g_lm0 {oo : WM} {ex : Expr} (hm : MtW X c id oo) (hb : ∀ r, MtR X id r → PE X ex (tBM0 X.K "list" r (ldE c W ko wo))) (hK : X.K = c.K := by rfl) : GE X c W (ko + 0) ex (wLm m oo wo waNil) := by
  obtain ⟨r, h1, h2⟩ := hm
  refine L2.PE.imp (hb r h1) fun σ H Q h => ?_
  rw [hK]
  obtain ⟨S, F, n, I, μ, e, Qd, Xd, hl, he, hw, h, q, x⟩ := ld_lm h2 h
  refine ⟨S, F, n, I, μ, e, Qd, Xd, hl, he, hw, h, fun d μ1 v I1 H1 pa s1 w1 ra => ?_, x⟩
  obtain ⟨g1, g2⟩ := q d μ1 v I1 H1 pa s1 w1 ra
  obtain ⟨S, F, n, I, μ, e, Qd, Xd, hl, he, hw, h, q, x⟩ := g2
  exact ⟨g1, q [] μ [] I H1 h (Same.refl I) hw .nil⟩
end
end DL

set_option Elab.async false
set_option linter.all false
set_option maxRecDepth 100000
set_option maxHeartbeats 4000000
/-! Y3: isinstance of an error, whatever dict it has. -/
namespace DL
open PySem PySem.W PySem.Spec PySem.Calls PyProof.Rows L2
section
variable {prog : Program} {w : PySem.World} {A : Around} {E : Value → Shared → Prop} {s : Shared} {K : Frag} {x C : Addr} {ox : Obj} {od : Option Obj}
theorem class_find (T : ExcC K C) : findObj K C od "__class__" = some (.bind (.builtin "getset_descriptor.__get__") (.builtin "object.__class__")) := by
  have hc : (clsIn K C).isSome = true := by
    obtain ⟨cd, z, _⟩ := any_some T.hd
    rw [z]
    rfl
  cases od with
  | none => exact findObj_dataN hc T.ha T.hn T.ht
  | some o => exact findObj_data hc T.ha T.hn T.ht
theorem class_exc {Q : Option Value → Shared → Prop} (T : ExcC K C) (kin : K.In s.heap) (ins : PySem.W.InstAt s.heap x ox C od) (fin : Q (some (.ref C)) { s with toks := s.toks + 1 }) : wpAny (model prog w) A (getAttr? (.ref x) "__class__") Q E s := by
  obtain ⟨hp, gs, dr, tk, osx⟩ := s
  have l0 := ins.type (M := model prog w)
  have l1 := looks_findIn (M := model prog w) kin T.hg
  have l2 := looks_findIn (M := model prog w) kin T.hk
  have l3 := looks_find (M := model prog w) kin ins (class_find T)
  have below : Looks (model prog w) hp (isInstance (.ref x) (.type "BaseException")) true := l0.andThen (looks_subIn kin T.hs)
  have z0 : (false && onTheHeap (Value.builtin "BaseException.__getattribute__")) = false := rfl
  have z2 : (Value.builtin "BaseException.__getattribute__" == Value.builtin "object.__getattribute__") = false := by decide +kernel
  have z1 : (onTheHeap (Value.ref C) && Value.builtin "BaseException.__getattribute__" == Value.builtin "object.__getattribute__") = false := by
    rw [z2]
    rfl
  unfold getAttr? getAttrBy? getAttrBy
  refine wpAny_bind (wpAny_mkText (wpAny_bind (wpAny_attempt (wpAny_holding (wpAny_bind (l0.at (wpAny_bind (l1.at ?_))))))))
  show wpAny _ _ (if (onTheHeap (Value.ref C) && Value.builtin "BaseException.__getattribute__" == Value.builtin "object.__getattribute__") = true then _ else _) _ _ _
  rw [z1, if_neg Bool.false_ne_true]
  unfold getAttrByItsOwn hookBefore
  refine wpAny_bind ?_
  rw [if_pos (show onTheHeap (Value.ref C) = true from rfl)]
  refine l2.at (wpAny_bind (wpAny_attempt (wpAny_holding ?_)))
  unfold callGetattribute
  rw [z0, if_neg Bool.false_ne_true]
  unfold boundAndCalled
  rw [PySem.F.excAttr_ValueError.ga.bind (.ref x)]
  refine wpAny_bind (wpAny_pure ?_)
  show wpAny _ _ (call (.builtin "BaseException.__getattribute__") [.ref x, .str "__class__" tk]) _ _ _
  refine wpAny_call (codeAny_call_builtin PySem.F.excAttr_ValueError.ga.plain PySem.F.entry_bexc_ga (@check_slot (model prog w) _ _ ⟨hp, gs, dr, tk + 1, osx⟩ "BaseException.__getattribute__" "BaseException" "__getattribute__" (.ref x) [.str "__class__" tk] [] _ (by decide +kernel) (by decide +kernel) below (PySem.F.args_bexc_ga (.ref x) (.str "__class__" tk)) ?_))
  unfold Builtin.«object.__getattribute__»
  refine wpAny_bind (wpAny_of_eq (a := ((Value.ref x : Value), [Value.str "__class__" tk])) (by first | rfl | (simp only [slotArgs]; rfl)) (wpAny_bind (wpAny_pure (wpAny_bind (l0.at (wpAny_bind (l3.at ?_)))))))
  show wpAny _ _ (holding [Value.builtin "object.__class__"] (call (.builtin "getset_descriptor.__get__") [.builtin "object.__class__", .ref x, .ref C]) >>= ret) _ _ _
  refine wpAny_bind (wpAny_holding (wpAny_call (class_get (s := ⟨hp, gs, dr, tk + 1, osx⟩) (ox := ox) (od := od) kin ins T.hm (wpAny_pure ?_))))
  show wpAny _ _ (handedOut (.ref C)) _ _ _
  rw [handedOut_of (v := .ref C) rfl]
  first
    | exact wpAny_pure (wpAny_pure fin)
    | exact wpAny_pure fin
    | exact wpAny_pure (wpAny_bind (wpAny_pure (wpAny_pure fin)))
theorem kitx_err (T : ExcC K C) : KitX K (.ref x) (.ref C) (fun h => ∃ ox od, PySem.W.InstAt h x ox C od) where
  ty := fun _ _ _ ⟨_, _, ins⟩ => ins.type
  it := fun _ _ kin _ => by
    obtain ⟨cd, hc, _⟩ := any_some T.hd
    unfold clsIn at hc
    split at hc
    · rename_i _ _ _ _ ho
      intro A' Q' E' s' k q
      unfold isType loadHead
      exact wpAny_bind (wpAny_loadPart (k _ _ (kin _ _ ho)) (wpAny_pure q))
    · cases hc
  ne := fun h tp dd its n sl kin htp => by
    obtain ⟨cd, hc, _⟩ := any_some T.hd
    refine Bool.eq_false_iff.mpr fun q => ?_
    have e : C = tp := Value.ref.inj (beq_iff_eq.mp q)
    subst e
    unfold clsIn at hc
    split at hc
    · rename_i _ _ _ _ ho
      cases (kin _ _ ho).symm.trans htp
    · cases hc
  ca := fun kin ⟨_, _, ins⟩ k => class_exc T kin ins k
end
/-- the error at a as the machine sees it -/
theorem inst_err {X : Cx} {pins : List (Addr × Obj)} {σ : L2.St} {H : Hp} {s : Shared} {a C : Addr} {d : Option Addr} {fs : List Str} {xs : List V} (J : Inv X pins σ H s) (h : H a = some (ErO a (.ref C) d)) (hf : ErF H d fs xs) : ∃ oe od, PySem.W.InstAt s.heap a oe C od ∧ ∀ f v, (List.zip fs xs).lookup f = some v → ∃ o u, od = some o ∧ PySem.W.lookIn f o = some (some u) ∧ RelV v u := by
  obtain ⟨⟨oe, vs, h1, h2, h3⟩, _⟩ := J.hok a _ h
  have no : PySem.W.notCls oe = true := by
    unfold PySem.W.notCls
    rw [h3]
  rcases hf.2 with ⟨rfl, rfl⟩ | ⟨dx, rfl, hd⟩
  · exact ⟨oe, none, ⟨h1, h2.1, no, by rw [h2.2]; trivial⟩, fun f v z => by simp at z⟩
  · obtain ⟨mA, hns, hr⟩ := J.hok dx _ hd
    obtain ⟨od, ho, hl⟩ := lookIn_ns hns
    refine ⟨oe, some od, ⟨h1, h2.1, no, by rw [h2.2]; exact ho⟩, fun f v z => ?_⟩
    obtain ⟨u, hu, ru⟩ := RelO.some_of (v := v) (o := mA f) (by rw [← z]; exact hr f)
    exact ⟨od, u, rfl, by rw [hl, hu], ru⟩
end DL

set_option Elab.async false
set_option linter.all false
set_option maxRecDepth 100000
set_option maxHeartbeats 4000000
/-! A6: equality of data, isinstance, in, repr, fields of errors. -/
namespace DL
open PySem PySem.Spec PyProof.Rows L2
mutual
def pd : D → PyData
  | .bool b => .bool b
  | .int i => .int i
  | .str s => .str s
  | .list ds => .list (pds ds)
  | .tup ds => .tuple (pds ds)
  | _ => .none
def pds : List D → List PyData
  | [] => []
  | d :: ds => pd d :: pds ds
end
mutual
/-- data of None, bools, ints, texts, lists, tuples -/
def plainD : D → Bool
  | .none => true
  | .bool _ => true
  | .int _ => true
  | .str _ => true
  | .list ds => plainsD ds
  | .tup ds => plainsD ds
  | _ => false
def plainsD : List D → Bool
  | [] => true
  | d :: ds => plainD d && plainsD ds
end
section
variable {c : Ctx} {S : Option SA} {F : Hp} {n : Nat} {I H : Hp} {μ : Mu}
mutual
theorem rep_dp (w : Wd c S F n I μ H) : ∀ {d : D} {v : V}, Rep c S I d v → plainD d = true → Dp c.K H v (pd d)
  | _, _, .none, _ => by rw [pd]; exact .non; all_goals intros; contradiction
  | _, _, .bool, _ => by rw [pd]; exact .bl _
  | _, _, .int, _ => by rw [pd]; exact .int _
  | _, _, .str, _ => by rw [pd]; exact .str _
  | _, _, .list h r, p => by
    rw [pd]
    rw [plainD] at p
    exact .lst (SqL.of (w.lst h)) (reps_dp w r p)
  | _, _, .tup h r, p => by
    rw [pd]
    rw [plainD] at p
    exact .tup (w.tupH h) (reps_dp w r p)
  | _, _, .dk h r l, p => by simp [plainD] at p
  | _, _, .dt h r l, p => by simp [plainD] at p
  | _, _, .obj h r l _, p => by simp [plainD] at p
  | _, _, .script h, p => by simp [plainD] at p
  | _, _, .state h t, p => by simp [plainD] at p
  | _, _, .ty _, p => by simp [plainD] at p
  | _, _, .cls _, p => by simp [plainD] at p
  | _, _, .err h f r _, p => by simp [plainD] at p
  | _, _, .cell, p => by simp [plainD] at p
theorem reps_dp (w : Wd c S F n I μ H) : ∀ {ds : List D} {vs : List V}, Reps c S I ds vs → plainsD ds = true → DpAll c.K H vs (pds ds)
  | _, _, .nil, _ => by rw [pds]; exact .nil
  | _, _, .cons h r, p => by
    rw [pds]
    rw [plainsD, Bool.and_eq_true] at p
    exact .cons (rep_dp w h p.1) (reps_dp w r p.2)
end
end
/-- a list that is a cell, as it stands -/
def drf (μ : Mu) : D → D
  | .cell p => (match ndL (μ p) with
    | some ds => .list ds
    | Option.none => .cell p)
  | d => d
theorem drf_dp {c : Ctx} {S : Option SA} {F : Hp} {n : Nat} {I H : Hp} {μ : Mu} {d : D} {v : V} (w : Wd c S F n I μ H) (r : Rep c S I d v) (p : plainD (drf μ d) = true) : Dp c.K H v (pd (drf μ d)) := by
  cases d with
  | cell a =>
    cases r
    cases e : ndL (μ a) with
    | none =>
      have e2 : drf μ (.cell a) = .cell a := by
        simp only [drf, e]
      rw [e2] at p
      simp [plainD] at p
    | some ds =>
      have e2 : drf μ (.cell a) = .list ds := by
        simp only [drf, e]
      rw [e2] at p ⊢
      rw [pd]
      rw [plainD] at p
      obtain ⟨xs, h1, h2⟩ := w.cellL e
      exact .lst (SqL.of h1) (reps_dp w h2 p)
  | _ => exact rep_dp w r p
/-- == of plain data -/
structure EqOk (a b : D) : Prop where
  pa : plainD a = true
  pb : plainD b = true
  sa : SeqAt.shaped (pd a) = true
  sb : SeqAt.shaped (pd b) = true
def eqG (a b : D) (Q : Bool → Prop) : Prop := EqOk a b ∧ Q (PyData.eqv (pd a) (pd b))
def eqU (x y : D) (μ : Mu) (Q : Bool → Prop) : Prop := match x with
  | .int i => (match y with
    | .int j => Q (decide (i = j))
    | y => eqG (.int i) (drf μ y) Q)
  | .str a => (match y with
    | .str b => Q (decide (a = b))
    | y => eqG (.str a) (drf μ y) Q)
  | x => eqG (drf μ x) (drf μ y) Q
def oEq : WOp := fun x y μ Q _ => eqU x y μ fun b => Q (.v (.bool b)) μ
def oNe : WOp := fun x y μ Q _ => eqU x y μ fun b => Q (.v (.bool (!b))) μ
section
variable {X : Cx} {c : Ctx} {W : WX}
theorem dec_intV {i j : Int} : decide (V.int i = V.int j) = decide (i = j) := by
  by_cases h : i = j
  · rw [h, decide_eq_true rfl, decide_eq_true rfl]
  · rw [decide_eq_false h, decide_eq_false fun z => h (V.int.inj z)]
theorem dec_strV {i j : Str} : decide (V.str i = V.str j) = decide (i = j) := by
  by_cases h : i = j
  · rw [h, decide_eq_true rfl, decide_eq_true rfl]
  · rw [decide_eq_false h, decide_eq_false fun z => h (V.str.inj z)]
theorem eqU_cases {S : Option SA} {F : Hp} {n : Nat} {I H : Hp} {μ : Mu} {x y : D} {v u : V} {Q : Bool → Prop} (w : Wd c S F n I μ H) (rx : Rep c S I x v) (ry : Rep c S I y u) (h : eqU x y μ Q) : (scal v u = true ∧ Q (decide (v = u))) ∨ ∃ d e, Dp c.K H v d ∧ Dp c.K H u e ∧ SeqAt.shaped d = true ∧ SeqAt.shaped e = true ∧ Q (PyData.eqv d e) := by
  have gen : ∀ {x : D} {v : V}, Rep c S I x v → eqG (drf μ x) (drf μ y) Q → ∃ d e, Dp c.K H v d ∧ Dp c.K H u e ∧ SeqAt.shaped d = true ∧ SeqAt.shaped e = true ∧ Q (PyData.eqv d e) := fun rx ⟨o, q⟩ => ⟨_, _, drf_dp w rx o.pa, drf_dp w ry o.pb, o.sa, o.sb, q⟩
  unfold eqU at h
  split at h
  · split at h
    · cases rx
      cases ry
      exact .inl ⟨rfl, by rw [dec_intV]; exact h⟩
    · exact .inr (gen rx h)
  · split at h
    · cases rx
      cases ry
      exact .inl ⟨rfl, by rw [dec_strV]; exact h⟩
    · exact .inr (gen rx h)
  · exact .inr (gen rx h)
theorem w_eq (hu : X.A.units + 64 < cLine) (hK : X.K = c.K := by rfl) : Op2 X c W 0 (compareOp .Eq) oEq := by
  obtain ⟨K, cl, tb, ns, es0⟩ := c
  cases hK
  refine op2_of (op_eq.or (op_eqD hu)) fun σ x y H Q h => ?_
  obtain ⟨S, F, n, I, μ, dx, dy, Qd, Xd, hl, w, rx, ry, h, q, _⟩ := h
  rcases eqU_cases w rx ry h with ⟨h1, h2⟩ | ⟨d, e, h1, h2, h3, h4, h5⟩
  · exact .inl ⟨h1, q _ μ _ I H h2 (Same.refl I) w .bool⟩
  · exact .inr ⟨d, e, h1, h2, h3, h4, q _ μ _ I H h5 (Same.refl I) w .bool⟩
theorem w_ne (hu : X.A.units + 64 < cLine) (hK : X.K = c.K := by rfl) : Op2 X c W 0 (compareOp .NotEq) oNe := by
  obtain ⟨K, cl, tb, ns, es0⟩ := c
  cases hK
  refine op2_of (op_ne.or (op_neD hu)) fun σ x y H Q h => ?_
  obtain ⟨S, F, n, I, μ, dx, dy, Qd, Xd, hl, w, rx, ry, h, q, _⟩ := h
  rcases eqU_cases w rx ry h with ⟨h1, h2⟩ | ⟨d, e, h1, h2, h3, h4, h5⟩
  · exact .inl ⟨h1, q _ μ _ I H h2 (Same.refl I) w .bool⟩
  · exact .inr ⟨d, e, h1, h2, h3, h4, q _ μ _ I H h5 (Same.refl I) w .bool⟩
end
/-! ### isinstance -/
inductive TyD where
  | b (n : String) | o (n : Str)
def ndTy : Option Nd → Option TyD
  | some (.list _) => some (.b "list")
  | some (.dk _ _) => some (.b "dict")
  | some (.dt _ _) => some (.b "dict")
  | some (.obj n _ _) => some (.o n)
  | Option.none => Option.none
def tyD (μ : Mu) : D → Option TyD
  | .none => some (.b "NoneType")
  | .bool _ => some (.b "bool")
  | .int _ => some (.b "int")
  | .str _ => some (.b "str")
  | .list _ => some (.b "list")
  | .tup _ => some (.b "tuple")
  | .dk _ _ => some (.b "dict")
  | .dt _ _ => some (.b "dict")
  | .obj n _ _ => some (.o n)
  | .err n _ _ => some (.o n)
  | .cell p => ndTy (μ p)
  | _ => Option.none
/-- the errors of the package -/
def errNames : List Str := ["CrossError", "BadRule", "BadPower", "BadFormula", "BadPair", "BadProgram", "BadPoint", "BadCount", "TooMany", "NoCore", "BadDeed", "NothingLeft", "BadJournal", "BadText"]
def subCC (n m : Str) : Bool := decide (n = m) || (decide (m = "CrossError") && errNames.contains n)
def subCT (n : Str) (t : String) : Bool := decide (t = "ValueError") && errNames.contains n
def isi1 (t : TyD) (y : D) : Option Bool := match y with
  | .ty u => (match t with
    | .b a => kitB a u
    | .o n => some (subCT n u))
  | .cls m => (match t with
    | .b _ => some false
    | .o n => some (subCC n m))
  | _ => Option.none
def isiN (t : TyD) : List D → Option Bool
  | [] => some false
  | y :: ys => (match isi1 t y, isiN t ys with
    | some a, some b => some (a || b)
    | _, _ => Option.none)
def isiD (t : TyD) (y : D) : Option Bool := match y with
  | .tup ys => isiN t ys
  | y => isi1 t y
def cbIsi : WC := fun xs μ Q _ => two xs fun x y => match tyD μ x with
  | some t => (match isiD t y with
    | some b => Q (.v (.bool b)) μ
    | Option.none => False)
  | Option.none => False
/-- what a law's classes say -/
structure CtxOk (c : Ctx) : Prop where
  isi : ∀ n ∈ c.ns, IsiC c.K (c.cl n)
  exc : ∀ n ∈ c.es, ExcC c.K (c.cl n)
  cc : ∀ n ∈ c.ns ++ c.es, ∀ m ∈ c.ns ++ c.es, PySem.W.kitOne c.K (.ref (c.cl n)) (.ref (c.cl m)) = some (subCC n m)
  ct : ∀ n ∈ c.ns ++ c.es, ∀ t ∈ tyNames, PySem.W.kitOne c.K (.ref (c.cl n)) (.type t) = some (subCT n t)
  tc : ∀ t ∈ tyNames, ∀ n ∈ c.ns ++ c.es, PySem.W.kitOne c.K (.type t) (.ref (c.cl n)) = some false
def TyV (c : Ctx) : TyD → Value → Prop
  | .b n, u => u = .type n ∧ n ∈ tyNames
  | .o n, u => u = .ref (c.cl n) ∧ n ∈ c.ns ++ c.es
section
variable {X : Cx} {c : Ctx} {W : WX}
theorem ty_rep (T : CtxOk c) {S : Option SA} {F : Hp} {n : Nat} {I H : Hp} {μ : Mu} {d : D} {v : V} {t : TyD} (w : Wd c S F n I μ H) (r : Rep c S I d v) (h : tyD μ d = some t) (he : ∀ n fs ds, d ≠ .err n fs ds) : ∃ u, TyV c t u ∧ TyX c.K H v u := by
  cases r with
  | none => cases h; exact ⟨_, ⟨rfl, by decide⟩, .base .non⟩
  | bool => cases h; exact ⟨_, ⟨rfl, by decide⟩, .base (.bl _)⟩
  | int => cases h; exact ⟨_, ⟨rfl, by decide⟩, .base (.int _)⟩
  | str => cases h; exact ⟨_, ⟨rfl, by decide⟩, .base (.str _)⟩
  | list g r => cases h; exact ⟨_, ⟨rfl, by decide⟩, .base (.lst (w.lst g))⟩
  | tup g r =>
    cases h
    refine ⟨_, ⟨rfl, by decide⟩, ?_⟩
    rcases w.tupH g with (g | ⟨o, g⟩) | ⟨o, its, m, g, h2, _⟩
    · exact .base (.tup g)
    · exact .fTuple g
    · exact .kTuple g h2
  | dk g r l =>
    cases h
    refine ⟨_, ⟨rfl, by decide⟩, ?_⟩
    rcases w.i _ _ g with z | ⟨_, ob, z⟩
    · exact .base (.dK z)
    · exact .fDict z
  | dt g r l =>
    cases h
    refine ⟨_, ⟨rfl, by decide⟩, ?_⟩
    rcases w.i _ _ g with z | ⟨z, _⟩
    · exact .base (.dT z)
    · cases z
  | obj g r l hn =>
    cases h
    have hc := T.isi _ hn
    exact ⟨_, ⟨rfl, List.mem_append_left _ hn⟩, .base (.ins (w.ins g) hc.cl hc.ha hc.hn hc.htk hc.hm)⟩
  | err => exact absurd rfl (he _ _ _)
  | @cell p =>
    have h' : ndTy (μ p) = some t := h
    cases e : μ p with
    | none =>
      rw [e] at h'
      cases h'
    | some nd =>
      rw [e] at h'
      obtain ⟨_, o, r, hh⟩ := w.m p nd e
      cases r with
      | list r => cases h'; exact ⟨_, ⟨rfl, by decide⟩, .base (.lst hh)⟩
      | dk r l => cases h'; exact ⟨_, ⟨rfl, by decide⟩, .base (.dK hh)⟩
      | dt r l => cases h'; exact ⟨_, ⟨rfl, by decide⟩, .base (.dT hh)⟩
      | obj r l hn =>
        cases h'
        have hc := T.isi _ hn
        exact ⟨_, ⟨rfl, List.mem_append_left _ hn⟩, .base (.ins hh hc.cl hc.ha hc.hn hc.htk hc.hm)⟩
  | _ => cases h
theorem Wd.err {S : Option SA} {F : Hp} {n : Nat} {I H : Hp} {μ : Mu} {a : Addr} {cv : Value} {dd : Option Addr} (w : Wd c S F n I μ H) (h : I a = some (ErO a cv dd)) : H a = some (ErO a cv dd) := by
  rcases w.i _ _ h with z | ⟨z, _⟩
  · exact z
  · cases z
theorem Wd.erF {S : Option SA} {F : Hp} {n : Nat} {I H : Hp} {μ : Mu} {dd : Option Addr} {fs : List Str} {xs : List V} (w : Wd c S F n I μ H) (h : ErF I dd fs xs) : ErF H dd fs xs := by
  refine ⟨h.1, ?_⟩
  rcases h.2 with z | ⟨dx, z1, z2⟩
  · exact .inl z
  · rcases w.i _ _ z2 with z | ⟨z, _⟩
    · exact .inr ⟨dx, z1, z⟩
    · cases z
theorem isi1_kit (T : CtxOk c) {S : Option SA} {I : Hp} {t : TyD} {u : Value} {y : D} {v : V} {b : Bool} (ht : TyV c t u) (r : Rep c S I y v) (h : isi1 t y = some b) : ∃ k, ClsV v k ∧ PySem.W.kitOne c.K u k = some b := by
  cases r with
  | ty hn =>
    refine ⟨_, .ty _, ?_⟩
    cases t with
    | b a =>
      obtain ⟨rfl, _⟩ := ht
      exact kit_ty h
    | o n =>
      obtain ⟨rfl, hm⟩ := ht
      rw [T.ct _ hm _ hn]
      exact h
  | cls hn =>
    refine ⟨_, .own _, ?_⟩
    cases t with
    | b a =>
      obtain ⟨rfl, hm⟩ := ht
      rw [T.tc _ hm _ hn]
      exact h
    | o n =>
      obtain ⟨rfl, hm⟩ := ht
      rw [T.cc _ hm _ hn]
      exact h
  | _ => cases h
theorem isiN_kit (T : CtxOk c) {S : Option SA} {I : Hp} {t : TyD} {u : Value} (ht : TyV c t u) : ∀ {ys : List D} {vs : List V} {b : Bool}, Reps c S I ys vs → isiN t ys = some b → ∃ ks, Paired ClsV vs ks ∧ PySem.W.kitAny c.K u ks = some b
  | _, _, _, .nil, h => by
    cases h
    exact ⟨[], .nil, rfl⟩
  | y :: ys, _, b, .cons r rs, h => by
    rw [isiN] at h
    split at h
    · rename_i b1 b2 e1 e2
      cases h
      obtain ⟨k, h1, h2⟩ := isi1_kit T ht r e1
      obtain ⟨ks, p, q⟩ := isiN_kit T ht rs e2
      refine ⟨k :: ks, .cons h1 p, kitAny_cons h2 (fun z => ?_) fun z => ?_⟩
      · rw [z]
        exact q
      · rw [z]
        rfl
    · cases h
theorem isiN_tup (T : CtxOk c) {S : Option SA} {I : Hp} {t : TyD} {u : Value} {ys : List D} {v : V} {b : Bool} (ht : TyV c t u) (r : Rep c S I (.tup ys) v) (h : isiN t ys = some b) : ∃ a xs ks, v = .ref a ∧ TupA c.K I a xs ∧ Paired ClsV xs ks ∧ PySem.W.kitAny c.K u ks = some b := by
  cases r with
  | tup g r =>
    obtain ⟨ks, p, q⟩ := isiN_kit T ht r h
    exact ⟨_, _, ks, rfl, g, p, q⟩
/-- isinstance, any value that is known, a class or a tuple of them -/
theorem call_isiW (T : CtxOk c) {pins : List (Addr × Obj)} {s : Shared} {σ σ' : L2.St} {H : Hp} {xs : List V} {us : List Value} {Q : VK} (hK : X.K = c.K) (J : Inv X pins σ H s) (rv : Vals xs us) (h : ldC c W 0 cbIsi σ' xs H Q) : wpAny (model X.prog X.w) X.A (call (.builtin "isinstance") us) (EP X pins σ Q) X.xe s := by
  obtain ⟨K, cl, tb, ns, es0⟩ := c
  cases hK
  obtain ⟨S, F, n, I, μ, ds, Qd, Xd, hl, w, rs, h, q, _⟩ := h
  obtain ⟨x, y, rfl, g⟩ := two_cases h
  obtain ⟨v, u, rfl, rx, ry⟩ := reps2 rs
  obtain ⟨v1, v2, rfl, r1, r2⟩ := vals2 rv
  clear h rs rv
  split at g
  · rename_i t et
    split at g
    · rename_i b eb
      have fin : ∀ tk, EP X pins σ Q (.bool b) { s with toks := tk } := fun tk => ⟨.bl b, H, J.tok tk, rfl, q _ μ _ I H g (Same.refl I) w .bool⟩
      -- the type of x, as isinstance asks it
      have ask : ∃ z, TyV ⟨X.K, cl, tb, ns, es0⟩ t z ∧ ∃ P : Heap → Prop, PySem.W.KitX X.K v1 z P ∧ P s.heap ∧ v1 ≠ .builtin "__main__.__loader__#opaque" := by
        by_cases he : ∃ n fs ds, x = .err n fs ds
        · obtain ⟨m, fs, es, rfl⟩ := he
          cases et
          cases rx with
          | err g1 g2 g3 hn =>
            obtain ⟨oe, od, ins, _⟩ := inst_err (C := cl m) (fs := fs) J (w.err g1) (w.erF g2)
            cases r1
            exact ⟨_, ⟨rfl, List.mem_append_right _ hn⟩, _, kitx_err (T.exc m hn), ⟨oe, od, ins⟩, fun z => nomatch z⟩
        · obtain ⟨z, h1, h2⟩ := ty_rep T w rx et fun n fs ds e => he ⟨n, fs, ds, e⟩
          exact ⟨z, h1, kit_of J r1 h2⟩
      obtain ⟨z, tz, P, Z, p, hx⟩ := ask
      unfold isiD at eb
      split at eb
      · obtain ⟨a, xs, ks, rfl, gt, pk, ek⟩ := isiN_tup T tz ry eb
        cases (show v2 = Value.ref a from r2)
        obtain ⟨its, rv, ht, hz⟩ := J.tuple (w.tupH gt)
        have e3 := ClsV.all pk rv
        subst e3
        obtain ⟨⟨oc, od, dt, sl⟩, h1, h2, m, h3⟩ := ht
        dsimp only at h2 h3
        subst h2 h3
        exact PySem.W.kia_tup Z J.kIn p h1 ek hx fin
      · obtain ⟨k, ck, ek⟩ := isi1_kit T tz ry eb
        have e2 := ck.eq r2
        subst e2
        exact PySem.W.kia_one Z J.kIn p ek hx fin
    · exact g.elim
  · exact g.elim
theorem w_isi (T : CtxOk c) (hK : X.K = c.K := by rfl) : CbW X c (.builtin "isinstance") cbIsi := ⟨fun xs H Q => ∃ W σ, ldC c W 0 cbIsi σ xs H Q, fun pins s σ H xs us Q J rv ⟨W, σ', h⟩ => call_isiW T hK J rv h, fun W σ xs H Q h => ⟨W, σ, h⟩⟩
end
/-! ### in -/
def flatD : D → Bool
  | .none => true
  | .bool _ => true
  | .int _ => true
  | .str _ => true
  | _ => false
/-- == of flat data -/
def eqF : D → D → Bool
  | .none, .none => true
  | .bool a, .bool b => a == b
  | .bool a, .int j => (if a then 1 else 0) == j
  | .int i, .bool b => i == (if b then 1 else 0)
  | .int i, .int j => i == j
  | .str a, .str b => a == b
  | _, _ => false
def vF : D → V
  | .bool b => .bl b
  | .int i => .int i
  | .str s => .str s
  | _ => .non
theorem rep_flat {c : Ctx} {S : Option SA} {I : Hp} {d : D} {v : V} (r : Rep c S I d v) (h : flatD d = true) : v = vF d ∧ flatV v = true := by
  cases r <;> first | exact ⟨rfl, rfl⟩ | cases h
theorem reps_flat {c : Ctx} {S : Option SA} {I : Hp} : ∀ {ds : List D} {vs : List V}, Reps c S I ds vs → ds.all flatD = true → vs = ds.map vF ∧ vs.all flatV = true
  | _, _, .nil, _ => ⟨rfl, rfl⟩
  | _, _, .cons r rs, h => by
    rw [List.all_cons, Bool.and_eq_true] at h
    obtain ⟨h1, h2⟩ := rep_flat r h.1
    obtain ⟨h3, h4⟩ := reps_flat rs h.2
    exact ⟨by rw [h1, h3, List.map_cons], by rw [List.all_cons, h2, h4]; rfl⟩
def inF (x : D) (ds : List D) : Bool := ds.any fun y => eqF y x
theorem eqF_eqV {a b : D} (ha : flatD a = true) (hb : flatD b = true) : eqV (vF a) (vF b) = eqF a b := by
  cases a <;> cases b <;> first | rfl | (simp [flatD] at ha; done) | (simp [flatD] at hb; done)
theorem inF_inV {x : D} {ds : List D} (hx : flatD x = true) (hd : ds.all flatD = true) : inV (vF x) (ds.map vF) = inF x ds := by
  unfold inV inF
  induction ds with
  | nil => rfl
  | cons d ds ih =>
    rw [List.all_cons, Bool.and_eq_true] at hd
    rw [List.map_cons, List.any_cons, List.any_cons, ih hd.2, eqF_eqV hd.1 hx]
def oIn (neg : Bool) : WOp := fun x y μ Q _ => match sqD μ y with
  | some ds => flatD x = true ∧ ds.all flatD = true ∧ Q (.v (.bool (if neg then !inF x ds else inF x ds))) μ
  | Option.none => False
section
variable {X : Cx} {c : Ctx} {W : WX}
theorem ld_in {neg : Bool} {σ : L2.St} {x y : V} {H : Hp} {Q : VK} (h : ld2 c W 0 (oIn neg) σ x y H Q) : rIn c.K neg x y H Q := by
  obtain ⟨S, F, n, I, μ, dx, dy, Qd, Xd, hl, w, rx, ry, h, q, _⟩ := h
  unfold oIn at h
  split at h
  · rename_i ds e
    obtain ⟨l, xs, rfl, h1, r1⟩ := sqD_rep w ry e
    obtain ⟨e1, f1⟩ := rep_flat rx h.1
    obtain ⟨e2, f2⟩ := reps_flat r1 h.2.1
    refine ⟨l, xs, rfl, h1, f1, f2, ?_⟩
    rw [e1, e2, inF_inV h.1 h.2.1]
    exact q _ μ _ I H h.2.2 (Same.refl I) w .bool
  · exact h.elim
theorem w_in (hK : X.K = c.K := by rfl) : Op2 X c W 0 (compareOp .In) (oIn false) := by
  obtain ⟨K, cl, tb, ns, es0⟩ := c
  cases hK
  exact op2_of op_in_seq fun σ x y H Q h => ld_in h
theorem w_notin (hK : X.K = c.K := by rfl) : Op2 X c W 0 (compareOp .NotIn) (oIn true) := by
  obtain ⟨K, cl, tb, ns, es0⟩ := c
  cases hK
  exact op2_of op_notIn_seq fun σ x y H Q h => ld_in h
end
/-! ### repr of plain data -/
structure Sh (L k : Nat) (p : PyData) : Prop where
  len : p.shown.length ≤ L
  dep : p.depth ≤ k
  can : p.showable = true
  nod : p.hasDict = false
def cbRepr : WC := fun xs μ Q _ => one xs fun x => plainD (drf μ x) = true ∧ Sh sizeLine 60 (pd (drf μ x)) ∧ Q (.v (.str (pd (drf μ x)).shown)) μ
section
variable {X : Cx} {c : Ctx} {W : WX}
def rRepr (K : PySem.W.Frag) : List V → Hp → VK → Prop := fun xs H Q => ∃ v p, xs = [v] ∧ Dp K H v p ∧ Sh sizeLine 60 p ∧ Q (.str p.shown) H
theorem call_reprG (gd : X.A.guards = some []) (hu : X.A.units + 64 < cLine) : CallR X (.builtin "repr") (rRepr X.K) := by
  intro pins s σ H xs us Q J r h
  obtain ⟨v, p, rfl, hp, sh, q⟩ := h
  obtain ⟨u, rfl, ru⟩ := vals1 r
  obtain ⟨as, rd⟩ := Dp.reads J p v u hp ru
  have key : ∀ a, u = .ref a → wpAny (model X.prog X.w) X.A (call (.builtin "repr") [u]) (EP X pins σ Q) X.xe s := fun a e => by
    subst e
    exact repr_of_reads' rd sh.can (PyData.noDict_hsm sh.nod) gd (by have := sh.dep; omega) (fun _ _ z => z) (fun h' t tk kp => ⟨.str _, H, J.kept kp, ⟨t, rfl⟩, q⟩) sh.len
  cases hp with
  | non =>
    cases ru
    rw [PyData.shown_none] at q
    exact PySem.P.repr_of_none ⟨.str _, H, J.tok _, ⟨_, rfl⟩, q⟩
  | bl b =>
    cases ru
    rw [PyData.shown_bool] at q
    exact PySem.P.repr_of_bool ⟨.str _, H, J.tok _, ⟨_, rfl⟩, q⟩
  | int i =>
    obtain ⟨t, rfl⟩ := ru
    rw [PyData.shown_int] at q
    exact PySem.P.repr_of_int (by have := sh.can; simpa [PyData.showable] using this) ⟨.str _, H, J.tok _, ⟨_, rfl⟩, q⟩
  | str x =>
    obtain ⟨t, rfl⟩ := ru
    have := sh.len
    rw [PyData.shown_str] at q this
    exact PySem.P.repr_of_str ⟨.str _, H, J.tok _, ⟨_, rfl⟩, q⟩ this
  | lst g r2 => exact key _ ru
  | tup g r2 => exact key _ ru
theorem w_repr (gd : X.A.guards = some []) (hu : X.A.units + 64 < cLine) (hK : X.K = c.K := by rfl) : CbW X c (.builtin "repr") cbRepr := by
  obtain ⟨K, cl, tb, ns, es0⟩ := c
  cases hK
  refine cbw_of (call_reprG gd hu) fun S F n I μ ds vs H Qd Xd Q w rs h q => ?_
  obtain ⟨x, rfl, h1, h2, h3⟩ := one_cases h
  obtain ⟨v, rfl, rv⟩ := reps1 rs
  exact ⟨v, _, rfl, drf_dp w rv h1, h2, q _ μ _ I H h3 (Same.refl I) w .str⟩
end
/-! ### a field of an error -/
def wErrF (f : Str) (r : WE) : WE := fun e μ Q X => r e μ (fun x μ1 => match x with
  | .err _ fs ds => (match fldD f fs ds with
    | some d => Q d μ1
    | Option.none => False)
  | _ => False) X
section
variable {X : Cx} {c : Ctx} {W : WX} {ko : Nat} {o : Expr} {wo : WE} {m : Str} {pos : Pos}
theorem g_errF (T : CtxOk c) (hn : ∀ n ∈ c.es, PySem.W.findIn X.K (.ref (c.cl n)) m = some none) (ho : GE X c W ko o wo) (hb : attributeBase o m X.env (eval o X.env) = eval o X.env := by rfl) (hK : X.K = c.K := by rfl) : GE X c W ko (.Attribute o m pos) (wErrF m wo) := by
  obtain ⟨K, cl, tb, ns, es0⟩ := c
  cases hK
  refine ⟨fun pins s σ H Q J h => ?_⟩
  have h2 : ldE ⟨X.K, cl, tb, ns, es0⟩ W ko wo σ H fun x H1 => ∃ a n d fs xs v, x = .ref a ∧ n ∈ es0 ∧ H1 a = some (ErO a (.ref (cl n)) d) ∧ ErF H1 d fs xs ∧ (List.zip fs xs).lookup m = some v ∧ Q v H1 := by
    obtain ⟨S, F, n, I, μ, e, Qd, Xd, hl, he, hw, h, q, x⟩ := h
    refine ⟨S, F, n, I, μ, e, _, Xd, hl, he, hw, h, fun d μ1 v I1 H1 pa s1 w1 ra => ?_, x⟩
    cases ra <;> try exact False.elim pa
    rename_i a n dd fs ds xs h1 h2 h3 h4
    dsimp only at pa
    split at pa
    · rename_i y ey
      obtain ⟨v, g1, g2⟩ := fld_rep h3 ey
      exact ⟨a, n, dd, fs, xs, v, rfl, h4, w1.err h1, w1.erF h2, g1, q y μ1 v I1 H1 pa s1 w1 g2⟩
    · exact pa.elim
  refine attr_of hb (thn (ho.run pins s σ H _ J h2) fun u s1 ⟨x, H1, I1, rx, a, n, d, fs, xs, v, ex, hm, e1, e2, e3, q⟩ => ?_)
  subst ex
  cases rx
  obtain ⟨oe, od, ins, z⟩ := inst_err I1 e1 e2
  obtain ⟨o', u', rfl, hl, ru⟩ := z m v e3
  have T2 := T.exc n hm
  exact HandSPX.exc_get I1.kIn ins T2.hg T2.hk T2.hs (PySem.W.findObj_own T2.hd (hn n hm) rfl hl) (handed_of ru) ⟨v, H1, I1.tok _, ru, q⟩
end
end DL

set_option Elab.async false
set_option linter.all false
set_option maxRecDepth 100000
set_option maxHeartbeats 4000000
/-! A7: the law's own state of draws. -/
namespace DL
open PySem PyProof.Rows L2
def rAbs : List V → Hp → VK → Prop := fun xs H Q => ∃ i, xs = [.int i] ∧ Q (.int (if i < 0 then -i else i)) H
def rInt1 : List V → Hp → VK → Prop := fun xs H Q => (∃ i, xs = [.int i] ∧ Q (.int i) H) ∨ ∃ k, xs = [.bl k] ∧ Q (.int (if k then 1 else 0)) H
theorem call_absG {X : Cx} : CallR X (.builtin "abs") rAbs := call_abs
theorem call_intG {X : Cx} : CallR X (.type "int") rInt1 := call_int1
theorem pds_ints : ∀ ns : List Int, pds (ns.map D.int) = ns.map PyData.int
  | [] => rfl
  | n :: ns => by rw [List.map_cons, pds, pd, pds_ints ns]; rfl
theorem plains_ints : ∀ ns : List Int, plainsD (ns.map D.int) = true
  | [] => rfl
  | n :: ns => by rw [List.map_cons, plainsD, plainD, plains_ints ns]; rfl
theorem eqvAll_ints : ∀ ns ms : List Int, PyData.eqvAll (ns.map PyData.int) (ms.map PyData.int) = decide (ns = ms)
  | [], [] => rfl
  | [], _ :: _ => rfl
  | _ :: _, [] => rfl
  | n :: ns, m :: ms => by
    rw [List.map_cons, List.map_cons, PyData.eqvAll, PyData.eqv, eqvAll_ints ns ms]
    by_cases h : n = m
    · subst h
      by_cases h2 : ns = ms
      · subst h2
        simp
      · simp [h2]
    · simp [h]
theorem canLay_ints : ∀ ns : List Int, PyData.canLayAll0 (ns.map PyData.int) = true
  | [] => rfl
  | n :: ns => by rw [List.map_cons, PyData.canLayAll0, PyData.canLay0, canLay_ints ns]; rfl
theorem depth_ints : ∀ ns : List Int, PyData.depthAll (ns.map PyData.int) = 0
  | [] => rfl
  | n :: ns => by
    rw [List.map_cons, PyData.depthAll, depth_ints ns]
    rfl
theorem shaped_ints (ns : List Int) : SeqAt.shaped (pd (.list (ns.map D.int))) = true := by
  rw [pd, pds_ints]
  unfold SeqAt.shaped
  rw [PyData.canLay0, canLay_ints, PyData.depth, depth_ints]
  rfl
theorem shaped_intsT (ns : List Int) : SeqAt.shaped (pd (.tup (ns.map D.int))) = true := by
  rw [pd, pds_ints]
  unfold SeqAt.shaped
  rw [PyData.canLay0, canLay_ints, PyData.depth, depth_ints]
  rfl
/-- f(a, ..) where nothing is raised -/
theorem pe_callW0 {X : Cx} {k : Nat} {f : Addr} {fd : FuncData} {ps : List Str} {sp : Sp} {x : Str} {p pos : Pos} {e : Expr} {es : List Expr} {t : TA} (G : FnW X.prog X.w X.K X.mg X.base k f fd ps sp) (gd : X.A.guards = some []) (room : Room k X.A) (gl : Gl X x) (hm : X.mg x = some (.ref f)) (kp : PySem.W.keepIn X.K (.ref f) = true) (bi : Binds X.K fd ps [])
    (ha : PA X (e :: es) t) (hdb : (x == ("__debug__" : Str)) = false := by decide) (he : starEach (e :: es) X.env = (false, eval e X.env) :: starEach es X.env := by rfl) (hpl : (backTo pos (starEach es X.env)).any (·.1) = false := by rfl) :
    PE X (.Call (.Name x p) (e :: es) [] pos) (tCall sp [] E0 t) := ⟨fun pins s σ H Q J h => wpAny_Call_Name_kw (ld_glob J gl hm (PySem.W.callWith_K (h₀ := X.base) J.ok.mod.kin kp (thn (ha.run pos pins s σ H _ J h) fun us s1 ⟨vs, H1, J1, r1, q1⟩ => ⟨J1.kIn, run_fnW (W := W0) (dvs := []) G gd room bi .nil (fun u s' z => by
      obtain ⟨_, _, _, _, _, _, _, _, _, _, _, _, _, _, _, _, z⟩ := z
      exact z.elim) J1 r1 q1⟩) he hpl) hdb)⟩
def stD (l k : Addr) (r t : Int) : List (Key × V) := [(Sum.inr "wide", .ref l), (Sum.inr "cells", .ref k), (Sum.inr "rest", .int r), (Sum.inr "turn", .int t)]
theorem st_wide (l k : Addr) (r t : Int) : valV (stD l k r t) (Sum.inr "wide") = some (.ref l) := rfl
theorem st_cells (l k : Addr) (r t : Int) : valV (stD l k r t) (Sum.inr "cells") = some (.ref k) := rfl
theorem st_rest (l k : Addr) (r t : Int) : valV (stD l k r t) (Sum.inr "rest") = some (.int r) := rfl
theorem st_turn (l k : Addr) (r t : Int) : valV (stD l k r t) (Sum.inr "turn") = some (.int t) := rfl
theorem put_rest (l k : Addr) (r t r' : Int) : putK (stD l k r t) (Sum.inr "rest") (.int r') = stD l k r' t := rfl
theorem put_turn (l k : Addr) (r t t' : Int) : putK (stD l k r t) (Sum.inr "turn") (.int t') = stD l k r t' := rfl

theorem tabs_upd {T : List (Addr × Str)} {H : Hp} {x : Addr} {o u : HO} (h : LamX.Tabs T H) (hx : H x = some o) (ho : notTX o) : LamX.Tabs T (upd H x u) := by
  refine tabs_keep h (fun p hp => upd_ne fun z => ?_) fun b φ e => ?_
  · obtain ⟨ps, h1, _⟩ := h p hp
    rw [z, hx] at h1
    cases h1
    exact ho
  · rw [upd_ne fun z => ?_]
    · exact e
    · rw [z, hx] at e
      cases e
      exact ho
/-- the state's own cells change -/
theorem Wd.st {c : Ctx} {s : SA} {F : Hp} {n m : Nat} {I H H' : Hp} {μ : Mu} (w : Wd c (some s) F n I μ H) (h : StOk s m H') (k : ∀ b o, b ≠ s.d → b ≠ s.l → b ≠ s.k → H b = some o → H' b = some o) : Wd c (some s) F m I μ H' := by
  have ne : ∀ {b : Addr}, (Cell s b → False) → b ≠ s.d ∧ b ≠ s.l ∧ b ≠ s.k := fun {b} hb => ⟨fun e => hb (.inl (.inl e)), fun e => hb (.inl (.inr (.inl e))), fun e => hb (.inl (.inr (.inr e)))⟩
  have nI : ∀ {b : Addr} {o : HO}, I b = some o → Cell s b → False := fun {b o} e q => by
    rw [((w.s s rfl).2 b q).1] at e
    cases e
  have nM : ∀ {b : Addr} {o : Nd}, μ b = some o → Cell s b → False := fun {b o} e q => by
    rw [((w.s s rfl).2 b q).2] at e
    cases e
  refine ⟨fun b o e => ?_, fun b nd e => ?_, fun a e => ?_, w.ni, fun b o e => ?_, w.z⟩
  · obtain ⟨n1, n2, n3⟩ := ne (nI e)
    rcases w.i b o e with z | ⟨z, ob, z2⟩
    · exact .inl (k b o n1 n2 n3 z)
    · exact .inr ⟨z, ob, k b _ n1 n2 n3 z2⟩
  · obtain ⟨n1, n2, n3⟩ := ne (nM e)
    obtain ⟨h1, o, h2, h3⟩ := w.m b nd e
    exact ⟨h1, o, h2, k b _ n1 n2 n3 h3⟩
  · cases e
    exact ⟨h, (w.s s rfl).2⟩
  · obtain ⟨h1, h2, h3, h4, h5⟩ := w.f b o e
    obtain ⟨n1, n2, n3⟩ := ne (h5 s rfl)
    exact ⟨k b _ n1 n2 n3 h1, h2, h3, h4, h5⟩
/-- one more long number -/
def wp_law_mixed : WP := fun ds μ Q _ => match ds with
  | [.state] => ∀ i, Q (.int i) μ
  | _ => False
abbrev rd_law_mixed (c : Ctx) : TS := (tSeq (tPar 1 2 (tCons (tOp (rI0 fun i j => .int (i + j)) (tDGet (tVar 0) (tC (.str "turn"))) (tC (.int 1))) (tCons (tC (.int 0)) tNil)))
    (tSeq (sDPut (tVar 0) (tC (.str "turn")) (tVar 1))
    (tSeq (tFor (iList c.K (tLst (tCons (tC (.int 2147483629)) (tCons (tC (.int 2147483587)) (tCons (tC (.int 2147483579)) (tCons (tC (.int 2147483563)) tNil)))))) (gName 3) (tSeq (tAsg (tOp (rI0 fun i j => .int (i + j)) (tOp (rI CMul fun i j => .int (i * j)) (tC (.int 49999)) (tVar 1)) (tOp (rI CDiv fun i j => .int (i / j)) (tVar 3) (tC (.int 23)))) (gName 4))
    (tSeq (tFor (iList c.K (tDGet (tVar 0) (tC (.str "cells")))) (gName 5) (tAsg (tOp (rI (fun _ j => 0 < j) fun i j => .int (i % j)) (tCB rInt1 (tCons (tOp (rI0 fun i j => .int (i + j)) (tOp (rI0 fun i j => .int (i + j)) (tOp (rI CMul fun i j => .int (i * j)) (tVar 4) (tC (.int 48271))) (tVar 5)) (tVar 1)) tNil)) (tVar 3)) (gName 4)))
    (tAsg (tOp (rI0 fun i j => .int (i + j)) (tOp (rI CMul fun i j => .int (i * j)) (tVar 2) (tC (.int 2147483647))) (tOp (rI (fun _ j => 0 < j) fun i j => .int (i % j)) (tCB rInt1 (tCons (tOp (rI CPowW fun i j => .int (i ^ j.toNat)) (tVar 4) (tC (.int 5))) tNil)) (tVar 3))) (gName 2)))))
    (tRet (tVar 2)))))
def primes : List Int := [2147483629, 2147483587, 2147483579, 2147483563]
theorem primes_ok : ∀ p ∈ primes, 0 < p ∧ p < 2147483648 := by decide
theorem DGet.st {H : Hp} {s : SA} {r t : Int} {key : Str} {v : V} (h : H s.d = some (.dK (stD s.l s.k r t))) (e : valV (stD s.l s.k r t) (Sum.inr key) = some v) : DGet H s.d (.str key) (some v) := by
  rw [← e]
  exact DGet.k (k := Sum.inr key) h
theorem pow5 {b : Int} (h : b.natAbs < 2 ^ 20100) : (Builtin.Int.intBits b : Int) * 5 ≤ 2 ^ 27 := by
  have := intBits_le h
  omega
theorem run_mixed {c : Ctx} {N : List Str} (hN : N.length = 6) {vs : List V} {H : Hp} {Q : VK} {Ex : XK} (hs : SpW c wp_law_mixed 1 vs H Q Ex) : rd_law_mixed c { nx := fun _ H' => Q .non H', rt := Q } (L2.start N vs) H := by
  obtain ⟨S, F, n, I, μ, ds, Qd, Xd, hl, w, rs, h, q, _⟩ := hs
  unfold wp_law_mixed at h
  split at h
  case h_2 => exact h.elim
  cases rs with
  | cons r1 r2 =>
    cases r2
    cases r1 with
    | @state s hS hTB =>
      subst hS
      obtain ⟨htb, hlk, ws, cs, r, t, hd, hw, hk, hwl, hcl, ht0, htn⟩ := (w.s s rfl).1
      have est : L2.start N [V.ref s.d] = [some (V.ref s.d), none, none, none, none, none] := by
        unfold L2.start
        rw [hN]
        rfl
      rw [est]
      -- turn = state["turn"] + 1, found = 0
      refine ⟨_, rfl, s.d, .int t, rfl, DGet.st hd (st_turn _ _ _ _), t, 1, rfl, rfl, ?_⟩
      refine ⟨_, _, rfl, ?_⟩
      -- state["turn"] = turn
      refine ⟨_, rfl, _, rfl, s.d, _, rfl, DPut.k (k := Sum.inr "turn") hd (by show 4 < sizeLine; decide), ?_⟩
      have ndl : s.l ≠ s.d := fun z => by
        rw [z, hd] at hw
        cases hw
      have ndk : s.k ≠ s.d := fun z => by
        rw [z, hd] at hk
        cases hk
      have w1 : Wd c (some s) F (n + 1) I μ (upd H s.d (.dK (stD s.l s.k r (t + 1)))) := by
        refine w.st ⟨tabs_upd htb hd trivial, hlk, ws, cs, r, t + 1, upd_same, by rw [upd_ne ndl]; exact hw, by rw [upd_ne ndk]; exact hk, hwl, hcl, by omega, by push_cast; omega⟩ fun b o h1 h2 h3 e => ?_
        rw [upd_ne h1]
        exact e
      show tSeq _ _ _ _ (upd H s.d (.dK (putK (stD s.l s.k r t) (Sum.inr "turn") (.int (t + 1)))))
      rw [put_turn]
      generalize upd H s.d (.dK (stD s.l s.k r (t + 1))) = H1 at w1
      -- for prime in [..]
      refine ⟨by show 4 ≤ sizeLine; decide, fun l0 hl0 => ⟨l0, rfl, ⟨_, SqL.of upd_same⟩, ?_⟩⟩
      have f0 := w1.nf hl0
      have w2 : Wd c (some s) (upd F l0 (.lst (primes.map V.int))) (n + 1) I μ (upd H1 l0 (.lst (primes.map V.int))) := (w1.frame hl0).leave upd_same (w1.fresh hl0).1 (w1.fresh hl0).2 trivial (w1.no_cell hl0)
      refine for_list (K := c.K) (a := l0) (xs := primes.map V.int) (fun i σ H' => ∃ (f : Int) (p b cl : Option V), σ = [some (V.ref s.d), some (V.int (t + 1)), some (V.int f), p, b, cl] ∧ Wd c (some s) (upd F l0 (.lst (primes.map V.int))) (n + 1) I μ H')
        ⟨0, _, _, _, rfl, w2⟩ (fun i σ H' _ ⟨_, _, _, _, _, w'⟩ => SqL.of (w'.f _ _ upd_same).1) ?_ ?_
      · rintro i x σ H' hx ⟨f, p, b, cl, rfl, w'⟩
        have hxm : x ∈ primes.map V.int := List.mem_of_getElem? hx
        obtain ⟨pr, hpr, rfl⟩ := List.mem_map.mp hxm
        obtain ⟨hp0, hp1⟩ := primes_ok pr hpr
        obtain ⟨htb', hlk', ws', cs', r', t', hd', hw', hk', hwl', hcl', ht0', htn'⟩ := (w'.s s rfl).1
        -- blend = 49999 * turn + prime // 23
        refine ⟨_, rfl, 49999, t + 1, rfl, rfl, .inl ⟨by decide, by decide⟩, ?_⟩
        refine ⟨_, rfl, pr, 23, rfl, rfl, ⟨by decide, by decide⟩, _, _, rfl, rfl, ?_⟩
        -- for cell in state["cells"]
        refine ⟨_, rfl, s.d, _, rfl, DGet.st hd' (st_cells _ _ _ _), s.k, rfl, ⟨_, SqL.of hk'⟩, ?_⟩
        refine for_list (K := c.K) (a := s.k) (xs := cs'.map V.int) (fun j σ2 H2 => ∃ (bl : Int) (cl2 : Option V), σ2 = [some (V.ref s.d), some (V.int (t + 1)), some (V.int f), some (V.int pr), some (V.int bl), cl2] ∧ H2 = H' ∧ bl.natAbs < 2 ^ 20100)
          ⟨_, cl, rfl, rfl, ?_⟩ (fun j σ2 H2 _ ⟨_, _, _, e, _⟩ => by rw [e]; exact SqL.of hk') ?_ ?_
        · have h23 : 0 ≤ pr / 23 ∧ pr / 23 < 2147483648 := by omega
          have e1 : (49999 * (t + 1) + pr / 23).natAbs ≤ 49999 * LIM + 2147483648 := by omega
          refine Nat.lt_of_le_of_lt e1 ?_
          unfold LIM
          decide +kernel
        · rintro j x σ2 H2 hx2 ⟨bl, cl2, rfl, rfl, hbl⟩
          obtain ⟨cv, hcv, rfl⟩ := List.mem_map.mp (List.mem_of_getElem? hx2)
          refine ⟨_, rfl, bl, 48271, rfl, rfl, .inr ⟨by decide, by decide⟩, ?_⟩
          refine ⟨_, rfl, _, _, rfl, rfl, _, rfl, _, _, rfl, rfl, .inl ⟨_, rfl, _, rfl, _, _, rfl, rfl, hp0, ?_⟩⟩
          refine ⟨_, _, rfl, rfl, ?_⟩
          have h1 := Int.emod_nonneg (bl * 48271 + cv + (t + 1)) (show pr ≠ 0 by omega)
          have h2 := Int.emod_lt_of_pos (bl * 48271 + cv + (t + 1)) hp0
          refine Nat.lt_of_lt_of_le (m := 2 ^ 31) (by omega) (Nat.pow_le_pow_right (by decide) (by decide))
        · rintro σ2 H2 ⟨bl, cl2, rfl, rfl, hbl⟩
          refine ⟨_, rfl, f, 2147483647, rfl, rfl, .inr ⟨by decide, by decide⟩, ?_⟩
          refine ⟨_, rfl, bl, 5, rfl, rfl, ⟨by decide, pow5 hbl⟩, .inl ⟨_, rfl, _, rfl, _, _, rfl, rfl, hp0, _, _, rfl, rfl, ?_⟩⟩
          exact ⟨_, _, _, _, rfl, w'⟩
      · rintro σ H' ⟨f, p, b, cl, rfl, w'⟩
        exact ⟨_, rfl, q (.int f) μ _ I H' (h f) (Same.refl I) (w'.less fun b o e => by rw [upd_ne (ne_of_none e f0)]; exact e) .int⟩
/-! ### a draw -/
def wp_law_take : WP := fun ds μ Q _ => match ds with
  | [.state, .int m] => (0 < m ∧ m.natAbs.log2 < 9000) ∧ ∀ i, 0 ≤ i → i < m → Q (.int i) μ
  | _ => False
abbrev rd_law_take (c : Ctx) : TS := (tSeq (tIfS (tTest (tOp rEq (tDGet (tVar 0) (tC (.str "rest"))) (tC (.int 0)))) (sDPut (tVar 0) (tC (.str "rest")) (tIf (tTest (tOp (rNeD c.K) (tDGet (tVar 0) (tC (.str "wide"))) (tLst tNil))) (tBM c.K "list" rPopAt (tDGet (tVar 0) (tC (.str "wide"))) (tCons (tC (.int 0)) tNil)) (tCall (SpW c wp_law_mixed 1) [] E0 (tCons (tVar 0) tNil)))) tNext)
    (tSeq (tAsg (tOp (rI (fun _ j => 0 < j) fun i j => .int (i % j)) (tCB rInt1 (tCons (tDGet (tVar 0) (tC (.str "rest"))) tNil)) (tVar 1)) (gName 2))
    (tSeq (sDPut (tVar 0) (tC (.str "rest")) (tOp (rI CDivW fun i j => .int (i / j)) (tDGet (tVar 0) (tC (.str "rest"))) (tVar 1)))
    (tRet (tVar 2)))))
theorem seq0 (n : Nat) : seqIndex? 0 (n + 1) = some 0 := by
  unfold seqIndex?
  simp
theorem run_take {c : Ctx} {N : List Str} (hN : N.length = 3) {vs : List V} {H : Hp} {Q : VK} {Ex : XK} (hs : SpW c wp_law_take 1 vs H Q Ex) : rd_law_take c { nx := fun _ H' => Q .non H', rt := Q } (L2.start N vs) H := by
  obtain ⟨S, F, n, I, μ, ds, Qd, Xd, hl, w, rs, h, q, _⟩ := hs
  unfold wp_law_take at h
  split at h
  case h_2 => exact h.elim
  rename_i m
  obtain ⟨⟨hm0, hm1⟩, h⟩ := h
  cases rs with
  | cons r1 r2 =>
    cases r2 with
    | cons r2 r3 =>
      cases r3
      cases r2
      cases r1 with
      | @state s hS hTB =>
        subst hS
        have est : L2.start N [V.ref s.d, V.int m] = [some (V.ref s.d), some (V.int m), none] := by
          unfold L2.start
          rw [hN]
          rfl
        rw [est]
        -- what follows the if
        have rest : ∀ I2 H', Same I I2 → Wd c (some s) F (n + 1) I2 μ H' → tSeq (tAsg (tOp (rI (fun _ j => 0 < j) fun i j => .int (i % j)) (tCB rInt1 (tCons (tDGet (tVar 0) (tC (.str "rest"))) tNil)) (tVar 1)) (gName 2))
            (tSeq (sDPut (tVar 0) (tC (.str "rest")) (tOp (rI CDivW fun i j => .int (i / j)) (tDGet (tVar 0) (tC (.str "rest"))) (tVar 1)))
            (tRet (tVar 2))) { nx := fun _ H' => Q .non H', rt := Q } [some (V.ref s.d), some (V.int m), none] H' := fun I2 H' sm0 w' => by
          obtain ⟨htb, hlk, ws, cs, r, t, hd, hw, hk, hwl, hcl, ht0, htn⟩ := (w'.s s rfl).1
          refine ⟨_, rfl, s.d, _, rfl, DGet.st hd (st_rest _ _ _ _), .inl ⟨r, rfl, _, rfl, r, m, rfl, rfl, hm0, ?_⟩⟩
          refine ⟨_, rfl, s.d, _, rfl, DGet.st hd (st_rest _ _ _ _), _, rfl, r, m, rfl, rfl, ⟨hm0, hm1⟩, _, rfl, s.d, _, rfl, DPut.k (k := Sum.inr "rest") hd (by show 4 < sizeLine; decide), ?_⟩
          have ndl : s.l ≠ s.d := fun z => by
            rw [z, hd] at hw
            cases hw
          have ndk : s.k ≠ s.d := fun z => by
            rw [z, hd] at hk
            cases hk
          refine ⟨_, rfl, q (.int (r % m)) μ _ I2 _ (h _ (Int.emod_nonneg _ (by omega)) (Int.emod_lt_of_pos _ hm0)) sm0 ?_ .int⟩
          show Wd c (some s) F (n + 1) I2 μ (upd H' s.d (.dK (putK (stD s.l s.k r t) (Sum.inr "rest") (.int (r / m)))))
          rw [put_rest]
          refine w'.st ⟨tabs_upd htb hd trivial, hlk, ws, cs, r / m, t, upd_same, by rw [upd_ne ndl]; exact hw, by rw [upd_ne ndk]; exact hk, hwl, hcl, ht0, htn⟩ fun b o h1 h2 h3 e => ?_
          rw [upd_ne h1]
          exact e
        obtain ⟨htb, hlk, ws, cs, r, t, hd, hw, hk, hwl, hcl, ht0, htn⟩ := (w.s s rfl).1
        refine ⟨_, rfl, s.d, _, rfl, DGet.st hd (st_rest _ _ _ _), rfl, _, rfl, ?_⟩
        refine ite2 (fun _ => ?_) (fun _ => rest I H (Same.refl I) (w.up (by omega)))
        -- a new rest
        have ndl : s.l ≠ s.d := fun z => by
          rw [z, hd] at hw
          cases hw
        have ndk : s.k ≠ s.d := fun z => by
          rw [z, hd] at hk
          cases hk
        have store : ∀ (v : Int) I2 H', Wd c (some s) F (n + 1) I2 μ H' → ∃ a H4, V.ref s.d = .ref a ∧ DPut H' a (.str "rest") (.int v) H4 ∧ Wd c (some s) F (n + 1) I2 μ H4 := fun v I2 H' w' => by
          obtain ⟨htb, hlk, ws, cs, r, t, hd, hw, hk, hwl, hcl, ht0, htn⟩ := (w'.s s rfl).1
          refine ⟨s.d, _, rfl, DPut.k (k := Sum.inr "rest") hd (by show 4 < sizeLine; decide), ?_⟩
          show Wd c (some s) F (n + 1) I2 μ (upd H' s.d (.dK (putK (stD s.l s.k r t) (Sum.inr "rest") (.int v))))
          rw [put_rest]
          have ndl : s.l ≠ s.d := fun z => by
            rw [z, hd] at hw
            cases hw
          have ndk : s.k ≠ s.d := fun z => by
            rw [z, hd] at hk
            cases hk
          refine w'.st ⟨tabs_upd htb hd trivial, hlk, ws, cs, v, t, upd_same, by rw [upd_ne ndl]; exact hw, by rw [upd_ne ndk]; exact hk, hwl, hcl, ht0, htn⟩ fun b o h1 h2 h3 e => ?_
          rw [upd_ne h1]
          exact e
        refine ⟨_, rfl, s.d, _, rfl, DGet.st hd (st_wide _ _ _ _), Nat.zero_le _, fun p hp => ?_⟩
        have hpl : s.l ≠ p := ne_of_none hw hp
        have hw' : upd H p (.lst []) s.l = some (.lst (ws.map V.int)) := by rw [upd_ne hpl]; exact hw
        have hd' : upd H p (.lst []) s.d = some (.dK (stD s.l s.k r t)) := by rw [upd_ne (ne_of_none hd hp)]; exact hd
        have hk' : upd H p (.lst []) s.k = some (.lst (cs.map V.int)) := by rw [upd_ne (ne_of_none hk hp)]; exact hk
        have w2 : Wd c (some s) F n I μ (upd H p (.lst [])) := w.frame hp
        have dpw : ∀ (xs : List Int) (b : Addr), upd H p (.lst []) b = some (.lst (xs.map V.int)) → Dp c.K (upd H p (.lst [])) (.ref b) (.list (xs.map PyData.int)) := fun xs b hb => by
          refine .lst (SqL.of hb) ?_
          clear hb
          induction xs with
          | nil => exact .nil
          | cons x xs ih => exact .cons (.int x) ih
        refine ⟨_, _, dpw ws s.l hw', dpw [] p upd_same, ?_, ?_, _, rfl, ?_⟩
        · have := shaped_ints ws
          rw [pd, pds_ints] at this
          exact this
        · decide +kernel
        · cases ws with
          | nil =>
            refine iteF ?_
            -- by mixing
            refine ⟨_, rfl, ?_⟩
            refine ⟨some s, F, n, I, μ, [.state], fun d μ' => μ' = μ ∧ ∃ i, d = .int i, fun _ _ => False, hl, w2, .cons (.state rfl hTB) .nil, fun i => ⟨rfl, i, rfl⟩, fun d μ' v I' H' ⟨e0, i, hi⟩ sm w3 r3 => ?_, fun _ _ _ _ _ _ z => z.elim⟩
            subst e0 hi
            cases r3
            obtain ⟨a, H4, e1, e2, e3⟩ := store i I' H' w3
            exact ⟨_, rfl, a, H4, e1, e2, rest I' H4 sm e3⟩
          | cons x xs =>
            refine iteT ?_
            refine ⟨_, rfl, s.d, _, rfl, DGet.st hd' (st_wide _ _ _ _), .inl ⟨rfl, _, SqL.of hw'⟩, ?_⟩
            refine ⟨s.l, _, 0, 0, .int x, rfl, rfl, hw', by decide, by decide, ?_, rfl, ?_⟩
            · rw [List.length_map]
              exact seq0 _
            · have w4 : Wd c (some s) F (n + 1) I μ (upd (upd H p (.lst [])) s.l (.lst (xs.map V.int))) := by
                refine w2.st ⟨tabs_upd ((w2.s s rfl).1.1) hw' trivial, hlk, xs, cs, r, t, by rw [upd_ne (Ne.symm ndl)]; exact hd', upd_same, by rw [upd_ne (Ne.symm hlk)]; exact hk', ?_, hcl, ht0, by push_cast; omega⟩ fun b o h1 h2 h3 e => ?_
                · rw [List.length_cons] at hwl
                  omega
                · rw [upd_ne h2]
                  exact e
              obtain ⟨a, H4, e1, e2, e3⟩ := store x I _ w4
              exact ⟨_, rfl, a, H4, e1, e2, rest I H4 (Same.refl I) e3⟩
/-! ### the state's making -/
def sp_law_begun (c : Ctx) : Sp := fun vs H Q _ => ∃ (a : Addr) (ns : List Int), vs = [.ref a] ∧ SqL c.K H a (ns.map V.int) ∧ ns.length ≤ 63 ∧ LamX.Tabs c.tb H ∧
  ∀ (s : SA) H', s.T = c.tb → H s.d = Option.none → H s.l = Option.none → H s.k = Option.none → StOk s 0 H' → Same H H' → Q (.ref s.d) H'
abbrev rd_law_begun (c : Ctx) : TS := (tSeq (tAsg (tLc (iList c.K (tVar 0)) (gName 2) (tTest (tOp (rI0 fun i j => .bl (decide (j ≤ i))) (tCB rAbs (tCons (tVar 2) tNil)) (tOp (rI CPowW fun i j => .int (i ^ j.toNat)) (tC (.int 10)) (tC (.int 18))))) (tOp (rI0 fun i j => .int (i - j)) (tCB rAbs (tCons (tVar 2) tNil)) (tOp (rI CPowW fun i j => .int (i ^ j.toNat)) (tC (.int 10)) (tC (.int 18)))) [2]) (gName 1))
    (tRet (tDisp [((tC (.str "wide")), (tVar 1)), ((tC (.str "cells")), (tLc (iList c.K (tVar 0)) (gName 2) tYes (tOp (rI (fun _ j => 0 < j) fun i j => .int (i % j)) (tCB rInt1 (tCons (tCB rAbs (tCons (tVar 2) tNil)) tNil)) (tC (.int 2147483629))) [2])), ((tC (.str "rest")), (tC (.int 0))), ((tC (.str "turn")), (tC (.int 0)))])))
theorem st_merge (l k : Addr) : mergeK [] (stD l k 0 0) = stD l k 0 0 := rfl
theorem run_begun {c : Ctx} {N : List Str} (hN : N.length = 3) {vs : List V} {H : Hp} {Q : VK} {Ex : XK} (hs : sp_law_begun c vs H Q Ex) : rd_law_begun c { nx := fun _ H' => Q .non H', rt := Q } (L2.start N vs) H := by
  obtain ⟨a, ns, rfl, hS, hl, hT, q⟩ := hs
  have est : L2.start N [V.ref a] = [some (V.ref a), none, none] := by
    unfold L2.start
    rw [hN]
    rfl
  rw [est]
  have get : ∀ {i : Nat} {y : V}, (ns.map V.int)[i]? = some y → ∃ z, y = V.int z := fun {i y} h => by
    obtain ⟨z, _, e⟩ := List.mem_map.mp (List.mem_of_getElem? h)
    exact ⟨z, e.symm⟩
  refine ⟨_, rfl, a, rfl, ⟨_, hS⟩, fun Dw hD => lc_list (K := c.K) (a := a) (xs := ns.map V.int) (fun i H' => Same H H' ∧ ∃ ws : List Int, H' Dw = some (.lst (ws.map V.int)) ∧ ws.length ≤ i) ⟨same_new hD, [], upd_same, Nat.le_refl _⟩ (fun i H' _ p => p.1.seq hS) ?_ ?_⟩
  · rintro i y H' hy ⟨sm, ws, hw, hwl⟩
    obtain ⟨z, rfl⟩ := get hy
    have hil : i < ns.length := by
      have := (List.getElem?_eq_some_iff.mp hy).1
      rw [List.length_map] at this
      exact this
    refine ⟨rfl, _, rfl, z, rfl, 10, 18, rfl, rfl, ⟨by decide, by decide +kernel⟩, _, _, rfl, rfl, _, rfl, ?_⟩
    refine ite2 (fun _ => ?_) (fun _ => ⟨sm, ws, hw, by omega⟩)
    refine ⟨_, rfl, z, rfl, 10, 18, rfl, rfl, ⟨by decide, by decide +kernel⟩, _, _, rfl, rfl, _, hw, ?_, ?_, ws ++ [(if z < 0 then -z else z) - 10 ^ (18 : Int).toNat], ?_, ?_⟩
    · rw [List.length_map]
      exact small1000 (by omega)
    · intro b o e
      rw [upd_ne (ne_of_none e hD)]
      exact sm b o e
    · rw [upd_same, List.map_append]
      rfl
    · rw [List.length_append]
      show ws.length + 1 ≤ i + 1
      omega
  · rintro H1 ⟨sm1, ws, hw, hwl⟩
    rw [List.length_map] at hwl
    intro p hp
    have hpD : Dw ≠ p := ne_of_none hw hp
    have hpH : H p = none := sm1.free hp
    have smp : Same H (upd H1 p (.dK [])) := fun b o e => by
      rw [upd_ne (ne_of_none e hpH)]
      exact sm1 b o e
    refine ⟨_, rfl, _, rfl, a, rfl, ⟨_, smp.seq hS⟩, fun Dc hDc => lc_list (K := c.K) (a := a) (xs := ns.map V.int) (fun i H' => Same (upd H1 p (.dK [])) H' ∧ ∃ cs : List Int, H' Dc = some (.lst (cs.map V.int)) ∧ cs.length ≤ i) ⟨same_new hDc, [], upd_same, Nat.le_refl _⟩ (fun i H' _ p => (smp.trans p.1).seq hS) ?_ ?_⟩
    · rintro i y H' hy ⟨sm, cs, hc, hcl⟩
      obtain ⟨z, rfl⟩ := get hy
      have hil : i < ns.length := by
        have := (List.getElem?_eq_some_iff.mp hy).1
        rw [List.length_map] at this
        exact this
      refine ⟨rfl, ?_⟩
      unfold tYes
      dsimp only
      rw [if_pos rfl]
      refine ⟨_, rfl, z, rfl, .inl ⟨_, rfl, _, _, rfl, rfl, (by show (0 : Int) < 2147483629; decide), _, hc, ?_, ?_, cs ++ [(if z < 0 then -z else z) % 2147483629], ?_, ?_⟩⟩
      · rw [List.length_map]
        exact small1000 (by omega)
      · intro b o e
        rw [upd_ne (ne_of_none e hDc)]
        exact sm b o e
      · rw [upd_same, List.map_append]
        rfl
      · rw [List.length_append]
        show cs.length + 1 ≤ i + 1
        omega
    · rintro H2 ⟨sm2, cs, hc, hcl⟩
      rw [List.length_map] at hcl
      have hDcp : Dc ≠ p := fun z => by
        rw [z, upd_same] at hDc
        cases hDc
      have hDcw : Dw ≠ Dc := fun z => by
        rw [← z, upd_ne hpD, hw] at hDc
        cases hDc
      refine ⟨sm2 _ _ upd_same, stD Dw Dc 0 0, rfl, by show 4 ≤ 15; decide, ?_⟩
      rw [st_merge]
      have hDcH : H Dc = none := smp.free hDc
      have smF : ∀ u, Same H (upd H2 p u) := fun u b o e => by
        rw [upd_ne (ne_of_none e hpH)]
        exact sm2 b o (smp b o e)
      refine q ⟨p, Dw, Dc, c.tb⟩ _ rfl hpH hD hDcH ⟨hT.ext (smF _), hDcw, ws, cs, 0, 0, upd_same, ?_, ?_, by omega, by omega, by omega, by omega⟩ (smF _)
      · rw [upd_ne hpD]
        exact sm2 _ _ (by rw [upd_ne hpD]; exact hw)
      · rw [upd_ne hDcp]
        exact hc
/-! ### the law -/
def spLaw (c : Ctx) : Sp := fun vs H Q _ => ∃ (a : Addr) (ns : List Int), vs = [.ref a] ∧ SqL c.K H a (ns.map V.int) ∧ ns.length ≤ 63 ∧ (∀ p ∈ c.tb, H p.1 = some (.tbl #[])) ∧ ∀ H', Q (.bl true) H'
/-- the law's wish behind its first row -/
def lawEnds : WEnds := ⟨fun _ _ => False, fun d _ => d = .bool true, fun _ _ => False, fun _ _ => False, fun _ _ _ => False⟩
theorem law_start {c : Ctx} {W : WX} {u : WS} {N : List Str} {k : Nat} (hN : 2 ≤ N.length) (hk : k ≤ LIM) (h : ∀ ns : List Int, ns.length ≤ 63 → u (some (.script ns) :: some .state :: List.replicate (N.length - 2) Option.none) (fun _ => Option.none) lawEnds)
    {vs : List V} {H : Hp} {Q : VK} {Ex : XK} (hs : spLaw c vs H Q Ex) : tSeq (tAsg (tCall (sp_law_begun c) [] E0 (tCons (tVar 0) tNil)) (gName 1)) (ldS c W k u) { nx := fun _ H' => Q .non H', rt := Q } (L2.start N vs) H := by
  obtain ⟨a, ns, rfl, hS, hl, hT, q⟩ := hs
  have est : L2.start N [V.ref a] = some (V.ref a) :: none :: List.replicate (N.length - 2) none := by
    unfold L2.start
    obtain ⟨m, hm⟩ : ∃ m, N.length = m + 2 := ⟨N.length - 2, by omega⟩
    rw [hm]
    rfl
  rw [est]
  refine ⟨_, rfl, a, ns, rfl, hS, hl, fun p hp => .nil (hT p hp), fun s H' eT h1 h2 h3 hst sm => ?_⟩
  show ldS c W k u _ (some (V.ref a) :: some (V.ref s.d) :: List.replicate (N.length - 2) none) H'
  obtain ⟨I, hI, hIS⟩ : ∃ I : Hp, (∀ b o, I b = some o → H b = some o ∧ notTb o) ∧ SqL c.K I a (ns.map V.int) := by
    have one : ∀ o0 : HO, H a = some o0 → notTb o0 → ∃ I : Hp, (∀ b o, I b = some o → H b = some o ∧ notTb o) ∧ I a = some o0 := fun o0 e0 n0 => by
      refine ⟨fun b => if b = a then some o0 else Option.none, fun b o e => ?_, if_pos rfl⟩
      by_cases z : b = a
      · have e2 := (if_pos z).symm.trans e
        cases e2
        rw [z]
        exact ⟨e0, n0⟩
      · have e2 := (if_neg z).symm.trans e
        cases e2
    rcases hS with (z | ⟨o, z⟩) | z
    · obtain ⟨I, p1, p2⟩ := one _ z trivial
      exact ⟨I, p1, .inl (.inl p2)⟩
    · obtain ⟨I, p1, p2⟩ := one _ z trivial
      exact ⟨I, p1, .inl (.inr ⟨o, p2⟩)⟩
    · exact ⟨fun _ => Option.none, fun _ _ e => (by cases e), .inr z⟩
  have w : Wd c (some s) (fun _ => Option.none) 0 I (fun _ => Option.none) H' := by
    refine ⟨fun b o e => .inl (sm _ _ (hI b o e).1), fun b o e => (by cases e), fun x e => ?_, fun b o e => (hI b o e).2, fun b o e => (by cases e), s, rfl, eT⟩
    cases e
    refine ⟨hst, fun b hb => ⟨none_of fun o e => ?_, rfl⟩⟩
    obtain ⟨e1, e2⟩ := hI b o e
    rcases hb with (z | z | z) | ⟨p, hp, z⟩
    · rw [z, h1] at e1; cases e1
    · rw [z, h2] at e1; cases e1
    · rw [z, h3] at e1; cases e1
    · rw [eT] at hp
      rw [z, hT p hp] at e1
      cases e1
      exact e2
  have r : Rep c (some s) I (.script ns) (.ref a) := .script hIS
  have er : EnvR c (some s) I (some (.script ns) :: some .state :: List.replicate (N.length - 2) Option.none) (some (V.ref a) :: some (V.ref s.d) :: List.replicate (N.length - 2) none) := by
    refine .yes r (.yes (.state rfl eT) ?_)
    exact EnvR.init (N.length - 2) (ds := []) (vs := []) .nil
  refine ⟨some s, fun _ => Option.none, 0, I, fun _ => Option.none, _, lawEnds, by omega, er, w, h ns hl, ⟨fun _ _ _ _ _ p => p.elim, fun d μ' v I' H2 p s2 w2 r2 => ?_, fun _ _ _ _ _ p => p.elim, fun _ _ _ _ _ p => p.elim, fun _ _ _ _ _ _ _ _ p => p.elim⟩⟩
  cases p
  cases r2
  exact q H2
end DL

set_option Elab.async false
set_option linter.all false
set_option maxRecDepth 100000
set_option maxHeartbeats 4000000
/-! A8: raise, errors with a field, errors caught, a cell that stays as it is from now on. -/
namespace DL
open PySem PySem.Spec PyProof.Rows L2
/-! ### raise -/
def wRz (n : Str) : WS := fun e μ E => E.xp (.err n [] []) e μ
def wRzA (n f : Str) (a : WE) : WS := fun e μ E => a e μ (fun d μ1 => E.xp (.err n [f] [d]) e μ1) fun d μ1 => E.xp d e μ1
/-- the error's own __init__: its field is kept -/
def sp_ei (K : PySem.W.Frag) (f : Str) : Sp := fun vs H Q _ => ∃ (a C : Addr) (y : V), vs = [.ref a, y] ∧ OexC K C ∧ PySem.W.findIn K (.ref C) f = some none ∧ H a = some (exo a C none) ∧ ∀ dx, H dx = none → dx ≠ a → Q .non (upd (upd H dx (exd dx [(f, y)])) a (exo a C (some dx)))
section
variable {X : Cx}
/-- CrossError.__init__(self, ..) -/
theorem pe_ceinit {x : Str} {CE : Addr} {e : Expr} {es : List Expr} {ta : TA} {p1 p2 pos : Pos} {pl : Sem Bool} (hg : Gl X x) (hm : X.mg x = some (.ref CE)) (rd : ClX.CRead X.K CE (.type "type"))
    (vV : PySem.W.findCls X.K (.ref CE) (.type "type") "__init__" = some (.val (.builtin "ValueError.__init__"))) (ha : PA X (e :: es) ta) (hdb : (x == ("__debug__" : Str)) = false := by decide)
    (hc : eval (.Call (.Attribute (.Name x p1) "__init__" p2) (e :: es) [] pos) X.env = (do
      let ov ← eval (.Name x p1) X.env
      standAt p2.atName
      let (f, first) ← holding [ov] (getMethod ov "__init__" pl)
      callWith pos f first (backTo pos (starEach (e :: es) X.env)) (backToKw pos (keywordEach [] X.env))) := by rfl)
    (he : starEach (e :: es) X.env = (false, eval e X.env) :: starEach es X.env := by rfl) (hpl : (backTo pos (starEach es X.env)).any (·.1) = false := by rfl) :
    PE X (.Call (.Attribute (.Name x p1) "__init__" p2) (e :: es) [] pos) (tVeI X.K ta) := by
  refine ⟨fun pins s σ H Q J h => ?_⟩
  refine PySem.W.methodCall_KW (ld_glob J hg hm ?_ hdb) hc
  refine PySem.W.method_cls J.kIn rd.ga (PySem.W.cls_value J.kIn rd.rd vV (by decide +kernel) ?_)
  show wpAny _ _ (callWith pos (Value.builtin "ValueError.__init__") [] (backTo pos (starEach (e :: es) X.env)) []) _ _ _
  refine PyProof.Rows.callWith_method1 (thn (ha.run pos pins _ σ H _ (J.tok _) h) fun us s1 ⟨vs, H1, J1, r1, a, C, ws, ev, hl, T, ea, q⟩ => ?_) he hpl
  subst ev
  cases r1 with
  | @cons _ u0 _ ur ra rw' =>
    obtain rfl : u0 = Value.ref a := ra
    exact oinit_ok T J1 ea (by rw [← Paired.length rw', sizeLine_eq]; omega) fun s' J2 => ⟨.non, H1, J2, rfl, q⟩
end
/-- def __init__(self, f): CrossError.__init__(self, '..'); self.f = f -/
theorem einit_of {P : Program} {w : PySem.World} {K : PySem.W.Frag} {mg : Str → Option Value} {base : Heap} {fa CE : Addr} {fd : FuncData} {x qual s a fld txt : Str} {pa : Arguments} {sc : Scope} {dvs : List V} {kws : List (Str × V)} {j : Nat} {p1 p2 p3 p4 p5 p6 p7 p8 p9 p10 : Pos}
    (F : FunD K x qual pa [.Expr (.Call (.Attribute (.Name "CrossError" p1) "__init__" p2) [.Name s p3, .Constant (.str txt) j p4] [] p5) p6, .Assign [.Attribute (.Name s p7) fld p8] (.Name a p9) p10] sc dvs kws fa fd)
    (Sc : FnScope [s, a] [s, a] sc) (hm : mg "CrossError" = some (.ref CE)) (hgl : sc.names.lookup ("CrossError" : Str) = some .globalImplicit) (hs : sc.names.lookup s = some .local) (ha : sc.names.lookup a = some .local) (rd : ClX.CRead K CE (.type "type"))
    (vV : PySem.W.findCls K (.ref CE) (.type "type") "__init__" = some (.val (.builtin "ValueError.__init__")))
    {pl : Env → Sem Bool} (hcl : ∀ env, eval (.Call (.Attribute (.Name "CrossError" p1) "__init__" p2) [.Name s p3, .Constant (.str txt) j p4] [] p5) env = (do
      let ov ← eval (.Name "CrossError" p1) env
      standAt p2.atName
      let (f, first) ← holding [ov] (getMethod ov "__init__" (pl env))
      callWith p5 f first (backTo p5 (starEach [.Name s p3, .Constant (.str txt) j p4] env)) (backToKw p5 (keywordEach [] env))) := by intro _; rfl)
    (hsw : ∀ env, swapsWith (.Call (.Attribute (.Name "CrossError" p1) "__init__" p2) [.Name s p3, .Constant (.str txt) j p4] [] p5) none p6.line env = pure false := by intro _; rfl) (hsw2 : ∀ env, swapsWith (.Name a p9) (some (.Attribute (.Name s p7) fld p8)) p10.line env = pure false := by intro _; rfl)
    (ds : (s == ("__debug__" : Str)) = false := by decide) (ds2 : (s == ("__classdict__" : Str)) = false := by decide) (da : (a == ("__debug__" : Str)) = false := by decide) (da2 : (a == ("__classdict__" : Str)) = false := by decide) :
    FnOk P w K mg base C8.CX0 1 fa fd [s, a] (sp_ei K fld) := by
  refine F.ok (k := 0) Sc (fun vs H Q E h => ?_) fun cdv A outer sh H vs Q E hr h => ?_
  · obtain ⟨_, _, _, rfl, _⟩ := h
    rfl
  · obtain ⟨a0, C, y, rfl, T, hf, hx, q⟩ := h
    refine ⟨_, pss_cons (ps_expr (pe_ceinit (X := cxOf C8.CX0 P w K mg base [s, a] qual sc fa cdv A outer sh H E) hgl hm rd vV (pa_cons (pe_var (i := 0) rfl (Or.inl hs) ds ds2) (pa_cons pe_str pa_nil)) (hc := hcl _)) (hsw _)) (pss_one (ps_ost (X := cxOf C8.CX0 P w K mg base [s, a] qual sc fa cdv A outer sh H E) (pe_var (i := 0) rfl (Or.inl hs) ds ds2) (pe_var (i := 1) rfl (Or.inl ha) da da2) (hsw2 _))), ?_⟩
    exact ⟨_, rfl, a0, C, _, rfl, by show 1 ≤ 1000; omega, T, hx, y, rfl, _, rfl, a0, C, rfl, T, hf, .inl ⟨hx, q⟩⟩
section
variable {X : Cx} {c : Ctx} {W : WX} {k ka : Nat} {a : Expr} {wa : WE} {n x f : Str} {p p2 pos pos' : Pos}
/-- raise x('..') -/
theorem g_rz {m : Str} {j : Nat} {bmB : List Value} {B newId initId : String} (hc : X.calm = true) (tk : Takes X W) (G : ExcBaseFacts B newId initId bmB) (q : PySem.W.excIn X.K (c.cl n) bmB newId = true) (gC : X.mg x = some (.ref (c.cl n))) (kC : PySem.W.keepIn X.K (.ref (c.cl n)) = true)
    (r : Raises X (.ref (c.cl n))) (hg : Gl X x) (hn : n ∈ c.es := by decide) (hdb : (x == ("__debug__" : Str)) = false := by decide) : GS X c W 0 (.Raise (some (.Call (.Name x p) [.Constant (.str m) j p2] [] pos)) none pos') (wRz n) := L2.PS.imp (ps_raise hc tk (pmk_own G q gC kC r hg hdb)) fun K σ H h => by
  obtain ⟨S, F, nn, I, μ, e, E, hl, he, hw, h, q⟩ := h
  exact q.x he _ μ _ _ I H h (Same.refl I) hw ⟨n, [], [], [], rfl, rfl, ⟨rfl, .inl ⟨rfl, rfl⟩⟩, .nil, hn⟩
theorem exd_del {H1 : Hp} {a C dx : Addr} {f : Str} {y : V} (ha : H1 a = none) (hd : dx ≠ a) : upd (L2.del (upd (upd (upd H1 a (exo a C none)) dx (exd dx [(f, y)])) a (exo a C (some dx))) a) dx (.xd [(f, y)]) = upd H1 dx (.xd [(f, y)]) := by
  funext b
  by_cases h1 : b = dx
  · subst h1
    rw [upd_same, upd_same]
  · rw [upd_ne h1, upd_ne h1]
    by_cases h2 : b = a
    · subst h2
      rw [L2.del_same, ha]
    · rw [L2.del_ne h2, upd_ne h2, upd_ne h1, upd_ne h2]
theorem g_rzA {fI : Addr} {fd : FuncData} {ps : List Str} (hc : X.calm = true) (tk : Takes X W) (T : OexC X.K (c.cl n)) (iC : PySem.W.findIn X.K (.ref (c.cl n)) "__init__" = some (some (.ref fI))) (tI : PySem.W.typeIn X.K (.ref fI) = some (.type "function")) (hf : PySem.W.findIn X.K (.ref (c.cl n)) f = some none)
    (G : FnOk X.prog X.w X.K X.mg X.base C8.CX0 k fI fd ps (sp_ei X.K f)) (hr : Room (k + 1) X.A) (hb : Binds X.K fd ps []) (hg : Gl X x) (hm : X.mg x = some (.ref (c.cl n))) (ha : GE X c W ka a wa) (hn : n ∈ c.es := by decide) (hdb : (x == ("__debug__" : Str)) = false := by decide) (hst : starEach [a] X.env = [(false, eval a X.env)] := by rfl) :
    GS X c W ka (.Raise (some (.Call (.Name x p) [a] [] pos)) none pos') (wRzA n f wa) := L2.PS.imp (ps_raise hc tk (pmk_oex (ds := []) (dvs := []) T iC tI G hr hb .nil (fun _ _ _ _ _ _ _ z => False.elim z) hg hm (ga_cons ha ga_nil hst) hdb hst rfl)) fun K σ H h => by
  obtain ⟨S, F, nn, I, μ, e, E, hl, he, hw, h, q⟩ := h
  refine ⟨S, F, nn, I, μ, e, fun ds μ1 => one ds fun d => E.xp (.err n [f] [d]) e μ1, _, hl, he, hw, h, fun ds μ1 vs I1 H1 pa s1 w1 ra => ?_, q.x he⟩
  cases ra with
  | nil => exact pa.elim
  | cons r1 r2 =>
    cases r2 with
    | cons _ _ => exact pa.elim
    | nil =>
      rename_i d y
      refine ⟨by show 1 ≤ 1000; omega, fun b hb1 => ⟨b, _, y, rfl, T, hf, upd_same, fun dx h1 h2 => ⟨rfl, dx, [(f, y)], upd_same, ?_, ?_, ?_⟩⟩⟩
      · rw [upd_ne h2, upd_same]
      · rw [upd_ne h2] at h1
        exact h1
      · rw [upd_ne h2] at h1
        rw [exd_del hb1 h2]
        have sm : Same I1 (upd I1 dx (.xd [(f, y)])) := same_new (w1.fresh h1).1
        exact q.x he _ μ1 _ _ _ _ pa (s1.trans sm) (w1.new h1) ⟨n, [f], [d], [y], rfl, rfl, ⟨rfl, .inr ⟨dx, rfl, upd_same⟩⟩, .cons (r1.mono sm) .nil, hn⟩
/-! ### a cell that stays as it is from now on -/
def wFz (i : Nat) (w : WS) : WS := fun e μ E => match gt e i with
  | some (.cell b) => (match μ b with
    | some nd => w (st e i (some nd.frz)) (del μ b) E
    | Option.none => False)
  | some _ => w e μ E
  | Option.none => False
theorem EnvR.same {S : Option SA} {I : Hp} {d : D} {v : V} : ∀ {e : EnvD} {σ : L2.St} {i : Nat}, EnvR c S I e σ → σ[i]? = some (some v) → Rep c S I d v → EnvR c S I (st e i (some d)) σ
  | _, _, _, .nil, h, _ => by simp at h
  | _, _, 0, .no h, h1, r => by
    simp at h1
    subst h1
    exact .yes r h
  | _, _, 0, .yes _ h, h1, r => by
    simp at h1
    subst h1
    exact .yes r h
  | _, _, i + 1, .no h, h1, r => .no (EnvR.same h (by simpa using h1) r)
  | _, _, i + 1, .yes q h, h1, r => .yes q (EnvR.same h (by simpa using h1) r)
theorem g_fz {s : Stmt} {w : WS} (i : Nat) (h : GS X c W k s w) : GS X c W k s (wFz i w) := L2.PS.imp h fun K σ H h => by
  obtain ⟨S, F, nn, I, μ, e, E, hl, he, hw, h, q⟩ := h
  unfold wFz at h
  split at h
  · rename_i b hb
    split at h
    · rename_i nd hnd
      obtain ⟨o, r, h0, hi, w2⟩ := hw.freeze hnd
      obtain ⟨v, h1, h2⟩ := he.get hb
      cases h2
      have sm : Same I (upd I b o) := same_new hi
      exact ⟨S, F, nn, upd I b o, _, _, E, hl, (he.mono sm).same h1 ((r.mono sm).frz upd_same), w2, h, q.mono (Nat.le_refl _) sm⟩
    · exact h.elim
  · exact ⟨S, F, nn, I, μ, e, E, hl, he, hw, h, q⟩
  · exact h.elim
end
end DL

set_option Elab.async false
set_option linter.all false
set_option maxRecDepth 100000
set_option maxHeartbeats 4000000
/-! A9: caught(lambda: ..). -/
namespace DL
open PySem PySem.Spec PyProof.Rows L2
open LamX (lamCx lamEnv LamS GivesTo CodeO ExtN Tabs TabB tLam)
section
variable {X : Cx} {pins : List (Addr × Obj)} {σ : L2.St} {H HZ : Hp} {s s1 : Shared}
/-- the def that got the lambda calls it, where no repr is under way -/
theorem act_ok {CXg : CXT} {Eg : XK} {Ng : List Str} {qg : Str} {sg : Scope} {g f c' : Addr} {cdg pm ctv : Value} {params : Arguments} {body : Expr} {scope : Scope} {k i : Nat} {a : Str} {pn : List (Addr × Obj)} {xe : Value → Shared → Prop} {W : WX} {E : XK} {tb : TE} {p1 p2 : Pos}
    (gd : X.A.guards = some []) (J : Inv X pins σ H s) (L : LamS X.env.scope scope) (hf : s.heap.get? f = some (PySem.W.kla_obj "<lambda>" (X.env.qual ++ "<lambda>") params body scope (cloFrom X.env.cells scope.names []) pm c' ctv)) (hfn : H f = none) (hfr : f ∉ frs X.stack)
    (bi : bindArgs (PySem.W.kla_fn "<lambda>" (X.env.qual ++ "<lambda>") params body scope (cloFrom X.env.cells scope.names []) pm (.ref c') ctv) ⟨[], []⟩ = pure [])
    (tk : Takes ((cxOf CXg X.prog X.w X.K X.mg X.base Ng qg sg g cdg X.A X.stack s H Eg).tr pn xe) W) (hW : ∀ cls d σ' H', E cls d H' → W cls d σ' H') (room : Room (k + 1) (X.A.deeper (envOfC qg sg s.heap.objs.size g cdg)))
    (hb : ∀ (A : Around) (outer : List Env) (s : Shared) (H : Hp), A.guards = some [] → Room k (A.deeper (lamEnv X scope s.heap.objs.size f c')) → PE (lamCx X A outer s H E scope f c') body tb)
    (hN : Ng[i]? = some a) (hv : Vis sg a) (hd : (a == ("__debug__" : Str)) = false := by decide) (hcd : (a == ("__classdict__" : Str)) = false := by decide) :
    PE ((cxOf CXg X.prog X.w X.K X.mg X.base Ng qg sg g cdg X.A X.stack s H Eg).tr pn xe) (.Call (.Name a p1) [] [] p2)
      (fun σZ HZ Q => σZ[i]? = some (some (.ref f)) ∧ HZ c' = some (CodeO c' (X.env.qual ++ "<lambda>")) ∧ tb σ HZ Q) := by
  refine ⟨fun pinsZ sZ σZ HZ Q JZ ⟨e1, e2, e3⟩ => ?_⟩
  refine wpAny_Call_Name_kw (thn ((pe_var (pos := p1) (i := i) hN hv hd hcd).run pinsZ sZ σZ HZ (fun v H1 => v = .ref f ∧ H1 = HZ) JZ ⟨.ref f, e1, rfl, rfl⟩) fun u t1 ⟨v, H1, J1, r1, ev, eH⟩ => ?_)
  subst ev
  rw [eH] at J1
  obtain rfl : u = Value.ref f := r1
  have here : t1.heap.get? f = some (PySem.W.kla_obj "<lambda>" (X.env.qual ++ "<lambda>") params body scope (cloFrom X.env.cells scope.names []) pm c' ctv) := J1.base.keep f _ hf hfn hfr (fun z => nomatch (show f ∈ ([] : List Addr) from z))
  have un : Un (frs X.stack) [] H HZ s.heap t1.heap := J1.base
  obtain ⟨⟨oc, vs, t, hoc, hdc, hvc⟩, _, _⟩ := J1.hok c' _ e2
  have runs : codeAny (model X.prog X.w) (X.A.deeper (envOfC qg sg s.heap.objs.size g cdg)) (.call (.ref f) ⟨[], []⟩) (CR (L2.CX X.prog X.w) (envOfC qg sg s.heap.objs.size g cdg :: X.stack) X.prog X.w HZ t1 Q E) t1 := by
    refine PySem.W.kla_callFunE room.depth here rfl L.co L.gen rfl ⟨c', oc, vs, t, rfl, hoc, hdc, hvc⟩ ?_
    rw [bi]
    refine wpAny_pure (wpAny_newFunctionEnv (fun y hy => (L.own y hy).2) (fun y hy => absurd hy (by simp)) (fun h₁ hns hsb => ⟨J1.nolimit.fresh _ hsb, ?_⟩) L.kind)
    show codeAny _ _ (.expr body (lamEnv X scope t1.heap.objs.size f c')) _ _
    have J2 : Inv (lamCx X (X.A.deeper (envOfC qg sg s.heap.objs.size g cdg)) (envOfC qg sg s.heap.objs.size g cdg :: X.stack) t1 HZ E scope f c') [] σ HZ { t1 with heap := h₁, toks := t1.toks + ([] : List (Str × Value)).length } :=
      LamX.lam_start2 J L J1.env0 room.hd un hns fun b o e => hsb.extBut b o (Nat.ne_of_lt (Heap.lt_size e)) (Heap.get?_push_of_some _ e)
    refine PySem.W.kla_codeExpr (wpAny_mono ((hb (X.A.deeper (envOfC qg sg s.heap.objs.size g cdg)) _ t1 HZ gd (room.deeper _)).run [] _ _ HZ Q J2 e3) (fun v s' ⟨w', H', J', rv, q⟩ => ⟨w', H', J'.os, J'.bare, J'.base, J'.hok, rv, q⟩) fun e s' hq => hq)
  refine PySem.W.callWith_F0 ⟨_, _, _, _, here⟩ (wpAny_call (codeAny_mono runs fun res t2 hq => ?_))
  · match res, hq with
    | .error e, hq => exact passes_call (X := (cxOf CXg X.prog X.w X.K X.mg X.base Ng qg sg g cdg X.A X.stack s H Eg).tr pn xe) tk hW pinsZ σZ HZ t1 e t2 J1 hq
    | .ok (.ret u), hq => exact J1.after hq
    | .ok .next, hq => exact False.elim hq
    | .ok .brk, hq => exact False.elim hq
    | .ok .cont, hq => exact False.elim hq
/-- x(lambda: ..), where no repr is under way -/
theorem lamcall_ok {T : List (Addr × Str)} {TT : (XK → Hp → VK → Prop) → Hp → VK → Prop} {x a : Str} {g cc P : Addr} {k : Nat} {pg : Arguments} {bg : List Stmt} {sg : Scope} {dvg : List V} {kwg : List (Str × V)} {fdg : FuncData} {Ng : List Str}
    {params : Arguments} {body : Expr} {scope : Scope} {t : XK → TE} {p lpos pos : Pos} (gd : X.A.guards = some []) (hg : Gl X x) (hm : X.mg x = some (.ref g)) (hk : PySem.W.keepIn X.K (.ref g) = true)
    (Fg : FunD X.K x x pg bg sg dvg kwg g fdg) (bi : L2.Binds X.K fdg [a] []) (Sg : FnScope Ng [a] sg) (hNg : Ng[0]? = some a) (hva : Vis sg a)
    (gv : ∀ cdv : Value, GivesTo X Ng x sg g cdv bg a (X.env.qual ++ "<lambda>") TT)
    (TB : TabB X.base X.mg cc P) (hcode : X.env.code = .ref cc) (hmT : (P, X.env.qual ++ "<lambda>") ∈ T) (hu : ∀ p ∈ T, p.1 = P → p.2 = X.env.qual ++ "<lambda>") (room : Room (k + 2) X.A) (L : LamS X.env.scope scope) (hdef : defaultsOf params X.env = ([], []))
    (hbind : ∀ (q : Str) (cl : List (Str × Addr)) (pm cv ctv : Value), bindArgs (PySem.W.kla_fn "<lambda>" q params body scope cl pm cv ctv) ⟨[], []⟩ = pure [])
    (hb : ∀ (A : Around) (outer : List Env) (s : Shared) (H : Hp) (E : XK) (f c' : Addr), A.guards = some [] → Room k (A.deeper (lamEnv X scope s.heap.objs.size f c')) → PE (lamCx X A outer s H E scope f c') body (t E))
    (hdb : (x == ("__debug__" : Str)) = false := by decide) (hd : (a == ("__debug__" : Str)) = false := by decide) (hcd : (a == ("__classdict__" : Str)) = false := by decide) :
    PE X (.Call (.Name x p) [.Lambda params body scope lpos] [] pos) (tLam T TT t) := by
  refine ⟨fun pins s σ H Q J ⟨hT, h⟩ => ?_⟩
  obtain ⟨oc, od, dV, kV, doc, pm, an, cdv, ct, osl, rfl, lk, hcg, _, _⟩ := Fg.ex
  refine wpAny_Call_Name_kw (ld_glob J hg hm (PySem.W.callWith_K (h₀ := X.base) J.ok.mod.kin hk ?_ (by rfl) (by rfl)) hdb)
  show wpAny _ _ (spliced ((false, eval (.Lambda params body scope lpos) X.env) :: backTo pos (starEach [] X.env))) _ _ s
  refine Calls.spliced_cons (LamX.lam_make2 J TB hcode hmT hu hT hdef (L.has J.ok) fun f c' pm' ctv H1 s' J1 eN T1 hf hfn hfr hco => Calls.spliced_nil ⟨J1.kIn, ?_⟩)
  refine wpAny_call (codeAny_mono (R := CR C8.CX0 X.stack X.prog X.w H1 s' Q C8.E0) (LamX.run_ofS (N := Ng) (ps := [a]) (us := [.ref f]) (vs := [.ref f]) lk hcg Sg room J1.env0 (bi s' [.ref f] J1.kIn rfl) (.cons rfl .nil) rfl fun room' => ?_) fun res s2 hq => ?_)
  · obtain ⟨t', ht', hq'⟩ := gv cdv f c' s' H1 Q (fun E H' Q' => t E σ H' Q') (fun W pn xe E p1 p2 tk hW => act_ok (i := 0) gd J1 L hf hfn hfr (hbind _ _ _ _ _) tk hW room' (fun A outer s H gd2 room2 => hb A outer s H E f c' gd2 room2) hNg hva hd hcd) hco (h H1 eN T1)
    exact ⟨t', ht'.nox, hq'⟩
  · match res, hq with
    | .error e, hq => exact (show False from hq).elim
    | .ok (.ret u), hq => exact J1.after hq
    | .ok .next, hq => exact False.elim hq
    | .ok .brk, hq => exact False.elim hq
    | .ok .cont, hq => exact False.elim hq
end
section
variable {X : Cx} {pins : List (Addr × Obj)} {σ : L2.St} {H : Hp} {s : Shared}
/-- an error that is new since the frame began is tracked from now on -/
theorem inv_track {a : Addr} {oe : Obj} {vs : Array Value} {cls : Value} {d : Option Addr} (J : Inv X pins σ H s) (ha : s.heap.get? a = some oe) (na : H a = none) (nl : a ≠ X.env.locals) (hz : Zc cls d oe) (hd : oe.data = .fields vs) (new : X.s_0.heap.get? a = none)
    (np : ∀ p ∈ X.pn ++ pins, p.1 ≠ a) : Inv X pins σ (upd H a (ErO a cls d)) s := by
  have up : ∀ {b : Addr} {o : HO}, H b = some o → upd H a (ErO a cls d) b = some o := fun {b o} e => by
    rw [upd_ne (ne_of_none e na)]
    exact e
  have old : ∀ {b : Addr} {o : Obj}, X.s_0.heap.get? b = some o → b ≠ a := fun {b o} e z => by
    rw [z, new] at e
    cases e
  refine ⟨J.ok, J.os, J.bare, ⟨J.base.keep, J.base.slot, fun b o e n hx => ?_, J.base.there, fun b xs e => up (J.base.tups b xs e), fun b o u e => up (J.base.frzs b o u e), fun b ps e => ?_⟩, J.loc, J.cell, ?_, fun y c e => ?_, fun p hp => ?_, ?_, J.len⟩
  · rw [upd_ne (old e)]
    exact J.base.free b o e n hx
  · obtain ⟨more, z⟩ := J.base.tbls b ps e
    exact ⟨more, up z⟩
  · rw [upd_ne (Ne.symm nl)]
    exact J.free
  · obtain ⟨v, o, e1, e2⟩ := J.cell y c e
    rw [upd_ne fun z => ?_]
    · exact J.freeC y c e
    · rw [z, ha] at e1
      cases e1
      rw [hd] at e2
      cases e2
  · obtain ⟨e1, e2, e3⟩ := J.pin p hp
    exact ⟨e1, by rw [upd_ne (np p hp)]; exact e2, e3⟩
  · exact J.hok.laidN (fun _ _ z => z) na ⟨⟨oe, vs, ha, hz, hd⟩, ⟨oe, ha⟩, fun h1 h2 ⟨o, v, e1, e2, e3⟩ k => ⟨o, v, k _ e1, e2, e3⟩⟩
end
/-- what 'except x as n: ..' wishes of an error of the body, where the suite keeps it: it is tracked behind the statement -/
def wTr (K : PySem.W.Frag) (c : Value) (i : Nat) (ts : Addr → Value → Option Addr → TS) (D : Ends) : WX := fun cls d σ H =>
  PySem.W.exmOne K cls c = some true ∧ ∀ a, H a = none → ts a cls d { nx := fun σ' H' => H' a = none → D.nx (σ'.set i none) (upd H' a (ErO a cls d)), rt := fun _ _ => False, bk := fun _ _ => False, ct := fun _ _ => False } (σ.set i (some (.ref a))) H
section
variable {X : Cx} {x n : Str} {c : Value} {i : Nat} {body suite : List Stmt} {b₀ : Stmt} {np pos pos' : Pos} {tb : WX → TS} {ts : Addr → Value → Option Addr → TS}
theorem ps_try_track (hex0 : X.ex = []) (hst : X.stack = X.env :: X.outer) (hfm : X.env.frame = some X.env.locals) (hN : X.N.Nodup) (hi : X.N[i]? = some n) (hln : X.env.kindOf n = some .local) (hc : Names X x c)
    (hb : ∀ (W : WX) (pn : List (Addr × Obj)) (xe : Value → Shared → Prop), Takes (X.tr pn xe) W → PassesOwn (model X.prog X.w) X.A X.env xe → PSs (X.tr pn xe) body (tb W))
    (hsu : ∀ (a : Addr) (oe : Obj) (cls : Value) (d : Option Addr) (pn : List (Addr × Obj)), Zc cls d oe → (∃ vs, oe.data = .fields vs) → PSs (X.suite a ((a, oe) :: pn)) (b₀ :: suite) (ts a cls d)) :
    PS X (.Try body [.ExceptHandler (some (.Name x np)) (some n) (b₀ :: suite) pos'] [] [] pos) (fun D σ H => tb (wTr X.K c i ts D) D σ H) := by
  refine ⟨fun pins s σ H D I0 h => ?_⟩
  have ok := I0.ok
  have frm : X.A.frames = some (X.env :: X.outer) := by rw [ok.frames, hst]
  let xe1 : Value → Shared → Prop := fun e t1 => wpAny (model X.prog X.w) X.A (noteFrame e X.env) (fun _ t2 => wpAny (model X.prog X.w) X.A (setFlight e none) (fun _ t3 => wpAny (model X.prog X.w) X.A (handleBy e X.env [.ExceptHandler (some (.Name x np)) (some n) (b₀ :: suite) pos']) (SP X pins D) X.xe t3) X.xe t2) X.xe t1
  have catch_ : Takes (X.tr (X.pn ++ pins) xe1) (wTr X.K c i ts D) := fun u t xx => by
    obtain ⟨a, B, sI, pins1, σ1, H1, cls, d, rfl, J0, nb, upS, sky, na, oss, ags, hex, hyes⟩ := xx
    have J : Inv X pins σ1 H1 sI := J0.ofTry ok
    have sky1 : Sky B (X.env :: X.outer) a (Zc cls d) X.env.locals t.heap := by rw [← hst]; exact sky
    show wpAny (model X.prog X.w) X.A (noteFrame (.ref a) X.env) _ _ _
    refine Sky.land Zc.steady frm hfm sky1 fun h3 fl3 up3 => ?_
    have J3 : Inv X pins σ1 H1 { t with heap := h3 } := J.landed nb fl3.1 (upS.trans up3) oss ags
    obtain ⟨oe3, vs3, he3, hz3, hd3⟩ := fl3.there
    have nfr : a ∉ frs (X.env :: X.outer) := fun hm => by
      obtain ⟨_, o', e', hnf⟩ := fl3.2.2.1.mem hm
      rw [he3] at e'
      cases e'
      exact hnf _ hd3
    have nL : a ≠ X.env.locals := fun z => nfr (List.mem_filterMap.mpr ⟨X.env, List.mem_cons_self, by rw [hfm, z]⟩)
    have nF : a ∉ X.fs := fun hm => by
      obtain ⟨e, he, q⟩ := List.mem_filterMap.mp hm
      exact nfr (List.mem_filterMap.mpr ⟨e, List.mem_cons_of_mem _ he, q⟩)
    have newI : sI.heap.get? a = none := by
      cases q : sI.heap.get? a with
      | none => rfl
      | some o =>
        have z := nb a o q (by rw [hst]; exact nfr)
        rw [fl3.2.1] at z
        cases z
    have new0 : a ∉ X.ex → X.s_0.heap.get? a = none := fun hx => by
      cases q : X.s_0.heap.get? a with
      | none => rfl
      | some o =>
        obtain ⟨o', z⟩ := J.base.there a o q hx
        rw [newI] at z
        cases z
    have npin : ∀ p ∈ X.pn ++ pins, p.1 ≠ a := fun p hp z => by
      have z2 := (J.pin p hp).1
      rw [z, newI] at z2
      cases z2
    have S3 := J3.suite he3 hd3 na nL nF
    refine wpAny_handleBy_cons (codeAny_handlers_test ?_) (by intro q; cases q)
    have lt : PySem.W.Looks (model X.prog X.w) h3 (typeOf (.ref a)) cls := fun A Q E s k q => wpAny_typeOf_ref (k _ _ he3) (by rw [hz3.1]; exact q)
    have lm := PySem.W.exm_one (M := model X.prog X.w) J3.kIn lt hex
    have test : ∀ {Q E : Value → Shared → Prop}, Q c { t with heap := h3 } → wpAny (model X.prog X.w) (X.A.mark (some (.ref a))) (eval (.Name x np) X.env) Q E { t with heap := h3 } := fun {Q E} q => by
      obtain ⟨hg, hdbg, hm⟩ := hc
      rcases hm with hm | ⟨hm, hv, hnn⟩
      · exact ld_glob (X := X.suite a ((a, oe3) :: (X.pn ++ pins))) S3 hg hm q hdbg
      · exact ld_blt (X := X.suite a ((a, oe3) :: (X.pn ++ pins))) S3 hg hm hv q hnn hdbg
    refine test (lm.here (codeAny_handlers_suite_as (HandSPX.lands_againZ fl3 fun h4 fl4 up4 => ?_)))
    have J4 : Inv X pins σ1 H1 { t with heap := h4 } := J.landed nb fl4.1 ((upS.trans up3).trans up4) oss ags
    obtain ⟨oe4, vs4, he4, hz4, hd4⟩ := fl4.there
    have S4 := J4.suite he4 hd4 na nL nF
    refine store_ok (X := X.suite a ((a, oe4) :: (X.pn ++ pins))) (v := .ref a) S4 hN hi (.inl hln) rfl (fun s5 S5 => ?_) (.inr hln)
    refine wpAny_mono ((hsu a oe4 cls d (X.pn ++ pins) hz4 ⟨_, hd4⟩).run [] s5 _ H1 _ S5 (hyes a na)) (fun f s6 hsp => ?_) (fun _ _ z => False.elim z)
    match f, hsp with
    | .next, hsp =>
      obtain ⟨σ6, H6, S6, q6⟩ := hsp
      have pa := S6.pin (a, oe4) (List.mem_append_left _ List.mem_cons_self)
      have J6 : Inv X ((a, oe4) :: pins) σ6 H6 s6 := (S6.unsuite ok).pins_of fun p hp => by
        rcases List.mem_cons.mp (show p ∈ (a, oe4) :: pins from hp) with rfl | hp
        · exact pa
        · exact (S6.unsuite ok).pin p (List.mem_append_right _ hp)
      refine gone_ok J6 hN hi hln fun s7 J7 => ?_
      have p7 := J7.pin (a, oe4) (List.mem_append_right _ List.mem_cons_self)
      have J8 : Inv X pins (σ6.set i none) H6 s7 := J7.pins_of fun p hp => J7.pin p (List.mem_append_right _ (List.mem_cons_of_mem _ hp))
      exact ⟨_, _, inv_track J8 p7.1 p7.2.1 nL hz4 hd4 (new0 (by rw [hex0]; exact List.not_mem_nil)) npin, q6 p7.2.1⟩
    | .brk, hsp => exact (hsp.elim fun _ z => z.elim fun _ z => z.2).elim
    | .cont, hsp => exact (hsp.elim fun _ z => z.elim fun _ z => z.2).elim
    | .ret u, hsp => exact (hsp.elim fun _ z => z.elim fun _ z => z.elim fun _ z => z.2.2).elim
  refine wpAny_Try_except (wpAny_mono ((hb (wTr X.K c i ts D) (X.pn ++ pins) xe1 catch_ PassesOwn.looking).run [] s σ H D (I0.toTry _) h) (fun f s1 hsp => ?_) (fun e s1 he => he))
  match f, hsp with
  | .next, hsp =>
    obtain ⟨σ', H', J', q⟩ := hsp
    exact wpAny_execs_nil ⟨σ', H', J'.ofTry ok, q⟩
  | .brk, hsp =>
    obtain ⟨σ', H', J', q⟩ := hsp
    exact ⟨σ', H', J'.ofTry ok, q⟩
  | .cont, hsp =>
    obtain ⟨σ', H', J', q⟩ := hsp
    exact ⟨σ', H', J'.ofTry ok, q⟩
  | .ret u, hsp =>
    obtain ⟨v, σ', H', J', r, q⟩ := hsp
    exact ⟨v, σ', H', J'.ofTry ok, r, q⟩
end
/-- what `caught` makes of the lambda's reading -/
def TTc (K : PySem.W.Frag) (CS : Addr) : (XK → Hp → VK → Prop) → Hp → VK → Prop := fun tl H Q =>
  tl (fun cls d H' => PySem.W.exmOne K cls (.ref CS) = some true ∧ ∀ a, H' a = none → Q (.ref a) (upd H' a (ErO a cls d))) H fun _ H' => Q .non H'
def tLen (m : Nat) (t : TS) : TS := fun D σ H => σ.length = m → t D σ H
theorem pss_len {X : Cx} {body : List Stmt} {t : TS} {m : Nat} (hm : X.N.length = m) (h : PSs X body t) : PSs X body (tLen m t) := ⟨fun pins s σ H D J z => h.run pins s σ H D J (z (J.len.trans hm))⟩
theorem pss_imp {X : Cx} {body : List Stmt} {t t' : TS} (h : PSs X body t) (i : ∀ D σ H, t' D σ H → t D σ H) : PSs X body t' := ⟨fun pins s σ H D J z => h.run pins s σ H D J (i D σ H z)⟩
def tRat (i : Nat) : TS := fun D σ H => match σ[i]? with
  | some (some v) => D.rt v H
  | _ => False
theorem tRat_ret {i : Nat} {D : Ends} {σ : L2.St} {H : Hp} (h : tRat i D σ H) : tRet (tVar i) D σ H := by
  unfold tRat at h
  split at h
  · rename_i v e
    exact ⟨v, e, h⟩
  · exact h.elim
theorem caught_gives {X : Cx} {x a e n cn q : Str} {sg : Scope} {g CS : Addr} {cdg : Value} {j : Nat} {p1 p2 p3 p4 p5 p6 p7 p8 p9 p10 p11 p12 p13 p14 : Pos}
    (nd : [a, cn, n].Nodup) (hkn : sg.names.lookup n = some .local) (hkc : sg.names.lookup cn = some .local) (hge : sg.names.lookup e = some .globalImplicit) (hme : X.mg e = some (.ref CS)) (hde : (e == ("__debug__" : Str)) = false)
    (dn : (n == ("__debug__" : Str)) = false) (dn2 : (n == ("__classdict__" : Str)) = false) (dc : (cn == ("__debug__" : Str)) = false) (dc2 : (cn == ("__classdict__" : Str)) = false) :
    LamX.GivesTo X [a, cn, n] x sg g cdg [.Assign [.Name cn p1] (.Constant .none j p2) p3, .Try [.Expr (.Call (.Name a p4) [] [] p5) p6] [.ExceptHandler (some (.Name e p7)) (some n) [.Assign [.Name cn p8] (.Name n p9) p10] p11] [] [] p12, .Return (some (.Name cn p13)) p14] a q (TTc X.K CS) := by
  intro f c' s H Q tl act hc h
  have hgl : Gl (cxOf C8.CX0 X.prog X.w X.K X.mg X.base [a, cn, n] x sg g cdg X.A X.stack s H C8.E0).nox e := hge
  refine ⟨_, pss_cons (ps_set (i := 1) nd rfl (Or.inl hkc) pe_non) (pss_cons (ps_try_track (X := (cxOf C8.CX0 X.prog X.w X.K X.mg X.base [a, cn, n] x sg g cdg X.A X.stack s H C8.E0).nox) (c := .ref CS) (i := 2)
      (tb := fun W D σ H => ∃ Ech : XK, (∀ cls d σ' H', Ech cls d H' → W cls d σ' H') ∧ σ[0]? = some (some (.ref f)) ∧ H c' = some (LamX.CodeO c' q) ∧ tl Ech H fun _ H' => D.nx σ H')
      (ts := fun _ _ _ => tLen 3 (tAsg (tVar 2) (gName 1))) rfl rfl rfl nd rfl hkn ⟨hgl, hde, .inl hme⟩ (fun W pn xe tk _ => ?_) (fun a oe cls d pn _ _ => pss_len rfl (pss_one (ps_set (i := 1) nd rfl (Or.inl hkc) (pv 2 (hv := Or.inl hkn) (hd := dn) (hcd := dn2)))))) (pss_imp (t' := tRat 1) (pss_one (ps_ret (pv 1 (hv := Or.inl hkc) (hd := dc) (hcd := dc2)))) fun D σ H => tRat_ret)), ?_⟩
  · refine ⟨fun pins s' σ H' D I h' => ?_⟩
    obtain ⟨Ech, hW, h1, h2, h3⟩ := h'
    exact (pss_one (ps_expr (pos := p6) (act W pn xe Ech p4 p5 tk hW))).run pins s' σ H' D I ⟨h1, h2, h3⟩
  · refine ⟨fun cls d H' => PySem.W.exmOne X.K cls (.ref CS) = some true ∧ ∀ a, H' a = none → Q (.ref a) (upd H' a (ErO a cls d)), fun cls d σ' H' ⟨e1, e2⟩ => ⟨e1, fun a0 ha hl => ?_⟩, rfl, hc, ?_⟩
    · have hl3 : σ'.length = 3 := by
        rw [List.length_set] at hl
        exact hl
      match σ', hl3 with
      | [x0, x1, x2], _ => exact ⟨_, rfl, fun na => e2 a0 ha⟩
    · exact h
/-! ### over data -/
theorem Wd.extN {c : Ctx} {s : SA} {F : Hp} {n : Nat} {I H H1 : Hp} {μ : Mu} (w : Wd c (some s) F n I μ H) (e : ExtN H H1) (t : Tabs s.T H1) : Wd c (some s) F n I μ H1 := by
  have keep : ∀ b o, H b = some o → notTb o → H1 b = some o := fun b o h k => e b o h fun ps z => by
    rw [z] at k
    exact k
  refine ⟨fun b o h => ?_, fun b nd h => ?_, fun a h => ?_, w.ni, fun b o h => ⟨keep b o (w.f b o h).1 (w.f b o h).2.2.2.1.tb, (w.f b o h).2⟩, w.z⟩
  · rcases w.i b o h with z | ⟨z, ob, z2⟩
    · exact .inl (keep b o z (w.ni b o h))
    · exact .inr ⟨z, ob, keep b _ z2 trivial⟩
  · obtain ⟨h1, o, h2, h3⟩ := w.m b nd h
    exact ⟨h1, o, h2, keep b o h3 h2.tx.tb⟩
  · cases h
    obtain ⟨h9, h0, ws, cs, r, t0, h1, h2, h3, h4⟩ := (w.s s rfl).1
    exact ⟨⟨t, h0, ws, cs, r, t0, keep _ _ h1 trivial, keep _ _ h2 trivial, keep _ _ h3 trivial, h4⟩, (w.s s rfl).2⟩
/-- what caught tells: None, or the error, which is one of the classes es -/
def wCaught (es : List Str) (w : WE) : WE := fun e μ Q _ => w e μ (fun _ μ1 => Q .none μ1) fun d μ1 => match d with
  | .err n _ _ => n ∈ es ∧ Q d μ1
  | _ => False
section
variable {X : Cx} {c : Ctx} {W : WX} {k kl : Nat} {w : WE} {es : List Str}
theorem ld_caught {σ : L2.St} {H : Hp} {Q : VK} {CS : Addr} (hes : ∀ n ∈ es, PySem.W.exmOne c.K (.ref (c.cl n)) (.ref CS) = some true) (h : ldE c W k (wCaught es w) σ H Q) : tLam c.tb (TTc c.K CS) (fun E => ldE c (fun cls d _ H => E cls d H) k w) σ H Q := by
  obtain ⟨S, F, n, I, μ, e, Qd, Xd, hl, he, hw, h, q, x⟩ := h
  obtain ⟨s, rfl, hT⟩ := hw.z
  refine ⟨by rw [← hT]; exact (hw.s s rfl).1.1, fun H1 eN t1 => ?_⟩
  refine ⟨some s, F, n, I, μ, e, _, _, hl, he, hw.extN eN (by rw [hT]; exact t1), h, fun d μ1 v I1 H1 pa s1 w1 ra => q .none μ1 .non I1 H1 pa s1 w1 .none, fun d μ' cls dx I' H' p sm w' er => ?_⟩
  obtain ⟨n', fs, ds, xs, rfl, rfl, hf, hr, hn⟩ := er
  obtain ⟨p1, p2⟩ := p
  refine ⟨hes n' p1, fun a ha => ?_⟩
  have sm2 : Same I' (upd I' a (ErO a (.ref (c.cl n')) dx)) := same_new (w'.fresh ha).1
  exact q _ μ' (.ref a) _ _ p2 (sm.trans sm2) (w'.new ha (show notTb (.ext _) from trivial)) (.err upd_same (hf.mono sm2) (hr.mono sm2) hn)
/-- caught(lambda: ..) -/
theorem g_caught {x a e n cn : Str} {g CS cc P : Addr} {pg : Arguments} {sg : Scope} {dvg : List V} {kwg : List (Str × V)} {fdg : FuncData} {params : Arguments} {body : Expr} {scope : Scope} {p lpos pos : Pos} {j : Nat} {p1 p2 p3 p4 p5 p6 p7 p8 p9 p10 p11 p12 p13 p14 : Pos}
    (gd : X.A.guards = some []) (hg : Gl X x) (hm : X.mg x = some (.ref g)) (hk : PySem.W.keepIn X.K (.ref g) = true)
    (Fg : FunD X.K x x pg [.Assign [.Name cn p1] (.Constant .none j p2) p3, .Try [.Expr (.Call (.Name a p4) [] [] p5) p6] [.ExceptHandler (some (.Name e p7)) (some n) [.Assign [.Name cn p8] (.Name n p9) p10] p11] [] [] p12, .Return (some (.Name cn p13)) p14] sg dvg kwg g fdg)
    (bi : L2.Binds X.K fdg [a] []) (Sg : FnScope [a, cn, n] [a] sg) (hva : Vis sg a) (nd : [a, cn, n].Nodup) (hkn : sg.names.lookup n = some .local) (hkc : sg.names.lookup cn = some .local) (hge : sg.names.lookup e = some .globalImplicit) (hme : X.mg e = some (.ref CS))
    (TB : TabB X.base X.mg cc P) (hcode : X.env.code = .ref cc) (hmT : (P, X.env.qual ++ "<lambda>") ∈ c.tb) (hu : ∀ p ∈ c.tb, p.1 = P → p.2 = X.env.qual ++ "<lambda>") (room : Room (kl + 2) X.A) (L : LamS X.env.scope scope) (hdef : defaultsOf params X.env = ([], []))
    (hbind : ∀ (q : Str) (cl : List (Str × Addr)) (pm cv ctv : Value), bindArgs (PySem.W.kla_fn "<lambda>" q params body scope cl pm cv ctv) ⟨[], []⟩ = pure [])
    (hes : ∀ n ∈ es, PySem.W.exmOne c.K (.ref (c.cl n)) (.ref CS) = some true)
    (hb : ∀ (A : Around) (outer : List Env) (s : Shared) (H : Hp) (E : XK) (f c' : Addr), A.guards = some [] → Room kl (A.deeper (lamEnv X scope s.heap.objs.size f c')) → GE (lamCx X A outer s H E scope f c') c (fun cls d _ H => E cls d H) k body w)
    (hdb : (x == ("__debug__" : Str)) = false := by decide) (hd : (a == ("__debug__" : Str)) = false := by decide) (hcd : (a == ("__classdict__" : Str)) = false := by decide) (hde : (e == ("__debug__" : Str)) = false := by decide)
    (dn : (n == ("__debug__" : Str)) = false := by decide) (dn2 : (n == ("__classdict__" : Str)) = false := by decide) (dc : (cn == ("__debug__" : Str)) = false := by decide) (dc2 : (cn == ("__classdict__" : Str)) = false := by decide) (hK : X.K = c.K := by rfl) :
    GE X c W k (.Call (.Name x p) [.Lambda params body scope lpos] [] pos) (wCaught es w) :=
  L2.PE.imp (lamcall_ok gd hg hm hk Fg bi Sg rfl hva (fun cdv => caught_gives nd hkn hkc hge hme hde dn dn2 dc dc2) TB hcode hmT hu room L hdef hbind hb hdb hd hcd) fun σ H Q h => by
    rw [hK]
    exact ld_caught hes h
end
end DL

set_option Elab.async false
set_option linter.all false
set_option maxRecDepth 100000
set_option maxHeartbeats 4000000
/-! A10: the law's end, with tables of code objects, where no repr is under way. -/
namespace DL
open PySem PySem.Spec PyProof.Rows L2
open LamX (TabB)
/-- what the caller asks behind the law -/
abbrev Ended (s1 : Shared) : Result → Shared → Prop := fun r s' => r = .ok (.ret (.bool true)) ∧ OldK s1.heap s'.heap ∧ s'.os = s1.os ∧ AllBare s'.gens
section
variable {P : Program} {w : PySem.World} {K : PySem.W.Frag} {mg mb : Str → Option Value} {k : Nat} {fa a : Addr} {fd : FuncData} {x : Str} {sp : Sp} {s1 : Shared} {vs : List Value} {ns : List Int} {cs : List (Addr × Addr)}
/-- what is known of the law's heap -/
structure LawH (K : PySem.W.Frag) (mg mb : Str → Option Value) (s1 : Shared) (cs : List (Addr × Addr)) (a : Addr) (vs : List Value) : Prop where
  kx : K.In s1.heap
  hns : s1.heap.Ns mainGlobals mg
  hb : s1.heap.Ns builtinsNs mb
  hbb : ∀ x : Str, x ≠ "__name__" → mb x = bootBuiltins x
  lim : s1.heap.NoLimit
  hg : s1.gens = #[]
  tab : ∀ p ∈ cs, s1.heap.get? p.2 = some { cls := .none, data := .fields #[] }
  ntab : ∀ p ∈ cs, K.lookup p.2 = none
  code : ∀ p ∈ cs, PySem.W.CodeHd s1.heap p.1 p.2
  bm : ∃ (bm : Addr) (ob : Obj), mg "__builtins__" = some (.ref bm) ∧ bm ≠ builtinsNs ∧ s1.heap.get? bm = some ob ∧ ob.cls = .type "module" ∧ ob.dict = some builtinsNs ∧ ob.data = .plain
  ha : s1.heap.get? a = some { cls := .type "list", data := .seq vs.toArray }
def isTb (cs : List (Addr × Addr)) (b : Addr) : Prop := ∃ p ∈ cs, b = p.2
/-- what is tracked ahead of the law: the script, the tables -/
structure Track (cs : List (Addr × Addr)) (K : PySem.W.Frag) (a : Addr) (H : Hp) : Prop where
  tb : ∀ p ∈ cs, H p.2 = some (.tbl #[])
  only : ∀ b u, H b = some u → (b = a ∧ K.lookup a = none ∧ ∃ o xs, u = .frz o (.lst xs)) ∨ isTb cs b
theorem law_end (L : LawH K mg mb s1 cs a vs) (room : Room k callerA) (F : ∀ base : Heap, K.In base → base.Ns mainGlobals mg → (∀ p ∈ cs, TabB base mg p.1 p.2) → FnW P w K mg base k fa fd [x] sp) (bi : ∀ (s : Shared) (u : Value), BindsTo s fd ⟨[u], []⟩ [(x, u)])
    {H : Hp} (T : Track cs K a H) (hok : HOk P w H s1.heap) (hs : sp [.ref a] H (fun v _ => v = .bl true) fun _ _ _ => False) : codeAny (model P w) callerA (.call (.ref fa) ⟨[.ref a], []⟩) (Ended s1) s1 := by
  have isT : ∀ {b : Addr}, isTb cs b → s1.heap.get? b = some { cls := .none, data := .fields #[] } := by
    rintro b ⟨p, hp, rfl⟩
    exact L.tab p hp
  have seen : ∀ {b : Addr} {o : Obj}, s1.heap.get? b = some o → H b = none → (hidT s1.heap H).get? b = some o := fun p q => hidT_get p q
  have off : ∀ {b : Addr} {o : Obj}, s1.heap.get? b = some o → (∀ vs n, o.data ≠ .seq vs n) → o.data ≠ .fields #[] → H b = none := fun {b o} e h1 h2 => none_of fun u q => by
    rcases T.only b u q with ⟨z, _⟩ | z
    · rw [z, L.ha] at e
      cases e
      exact h1 _ _ rfl
    · rw [isT z] at e
      cases e
      exact h2 rfl
  have dct : ∀ {b : Addr} {o : Obj} {es : Array DictEntry} {n : Nat}, s1.heap.get? b = some o → o.data = .dict es n → H b = none := fun {b o es n} e d => off e (fun _ _ z => by rw [d] at z; cases z) fun z => by rw [d] at z; cases z
  have names : ∀ {b : Addr} {m : Str → Option Value}, s1.heap.Ns b m → (hidT s1.heap H).Ns b m := by
    rintro b m ⟨o, es, n, p, q, r⟩
    exact ⟨o, es, n, seen p (dct p q), q, r⟩
  have kin : K.In (hidT s1.heap H) := fun b o p => seen (L.kx b o p) (none_of fun u q => by
    rcases T.only b u q with ⟨z, z2, _⟩ | ⟨t, ht, z⟩
    · rw [z, z2] at p
      cases p
    · rw [z, L.ntab t ht] at p
      cases p)
  have md : Mod K mg (hidT s1.heap H) := by
    obtain ⟨mc, l1, l2⟩ := L.lim
    exact ⟨kin, names L.hns, ⟨mb, names L.hb, L.hbb⟩, ⟨mc, names l1, l2⟩⟩
  have tabs : ∀ p ∈ cs, TabB (hidT s1.heap H) mg p.1 p.2 := fun p hp => by
    have tp := L.tab p hp
    refine ⟨?_, ?_, fun z => ?_⟩
    · obtain ⟨o, us, file, tf, flags, tg, inF, text, tt, e1, r1, r2, r3, rest⟩ := L.code p hp
      refine ⟨o, us, file, tf, flags, tg, inF, text, tt, seen e1 (off e1 (fun _ _ z => ?_) fun z => ?_), r1, r2, r3, rest⟩
      · rw [r2] at z
        cases z
      · rw [r2] at z
        cases z
        simp at r3
    · obtain ⟨bm, ob, b1, b2, b3, b4, b5, b6⟩ := L.bm
      refine ⟨bm, ob, b1, b2, fun q => ?_, fun q => ?_, seen b3 (off b3 (fun _ _ z => ?_) fun z => ?_), b4, b5, b6⟩
      · obtain ⟨o, es, n, e, hd, _⟩ := L.hns
        rw [q, e] at b3
        cases b3
        rw [hd] at b6
        cases b6
      · rw [q, tp] at b3
        cases b3
        cases b6
      · rw [b6] at z
        cases z
      · rw [b6] at z
        cases z
    · obtain ⟨o, es, n, e, hd, _⟩ := L.hns
      rw [z, tp] at e
      cases e
      cases hd
  have en : Env0 P w K mg (hidT s1.heap H) callerA [] s1 H := ⟨rfl, md, fun b o p => of_hidT p, Nat.le_of_eq (hidT_size _ _), trivial, fun b p => absurd (show b ∈ ([] : List Addr) from p) List.not_mem_nil, hok, .of_eq L.hg⟩
  refine codeAny_mono ((F _ kin (names L.hns) tabs).run callerA [] s1 H ⟨[.ref a], []⟩ [.ref a] [.ref a] _ _ rfl room en (bi s1 (.ref a)) (.cons rfl .nil) hs) fun res s2 z => ?_
  match res, z with
  | .error e, z =>
    obtain ⟨_, _, _, _, _, _, _, _, _, _, _, _, z⟩ := z
    exact z.elim
  | .ok .next, z => exact False.elim z
  | .ok .brk, z => exact False.elim z
  | .ok .cont, z => exact False.elim z
  | .ok (.ret u), z =>
    obtain ⟨v, H2, e1, e2, un, hok2, e3, e4⟩ := z
    cases (show v = .bl true from e4)
    cases (show u = Value.bool true from e3)
    have kept : ∀ b o, ¬ isTb cs b → s1.heap.get? b = some o → s2.heap.get? b = some o := fun b o nb p => by
      cases q : H b with
      | none => exact un.keep b o p q (fun q => nomatch (show b ∈ ([] : List Addr) from q)) List.not_mem_nil
      | some u =>
        rcases T.only b u q with ⟨_, _, ob, xs, z⟩ | z
        · rw [z] at q
          have p1 := (hok b _ q).1
          have p2 := (hok2 b _ (un.frzs b ob _ q)).1
          rw [p] at p1
          cases p1
          exact p2
        · exact absurd z nb
    have grown : ∀ {b : Addr}, isTb cs b → ∃ more : Array Value, s2.heap.get? b = some { cls := .none, data := .fields more } := by
      rintro b ⟨p, hp, rfl⟩
      obtain ⟨more, z⟩ := un.tbls p.2 #[] (T.tb p hp)
      exact ⟨_, hok2 p.2 _ z⟩
    refine ⟨rfl, ⟨fun b o p => ?_, fun b o p => ?_⟩, e1, e2⟩
    · rcases Classical.em (isTb cs b) with z | z
      · obtain ⟨more, hm⟩ := grown z
        rw [isT z] at p
        cases p
        obtain ⟨p, hp, rfl⟩ := z
        exact .inr (.inl ⟨((L.code p hp).tab (L.tab p hp)).isCodeTable, rfl, #[], more, rfl, by rw [Array.empty_append]; exact hm⟩)
      · exact .inl (kept b o z p)
    · rcases Classical.em (isTb cs b) with z | z
      · obtain ⟨more, hm⟩ := grown z
        exact ⟨_, hm⟩
      · exact ⟨o, kept b o z p⟩
theorem law_runs (L : LawH K mg mb s1 cs a vs) (hi : IntsAre vs ns) (hl : ns.length ≤ sizeLine) (room : Room k callerA) (F : ∀ base : Heap, K.In base → base.Ns mainGlobals mg → (∀ p ∈ cs, TabB base mg p.1 p.2) → FnW P w K mg base k fa fd [x] sp) (bi : ∀ (s : Shared) (u : Value), BindsTo s fd ⟨[u], []⟩ [(x, u)])
    (hsp : ∀ H : Hp, (∀ p ∈ cs, H p.2 = some (.tbl #[])) → SqL K H a (ns.map V.int) → sp [.ref a] H (fun v _ => v = .bl true) fun _ _ _ => False) : codeAny (model P w) callerA (.call (.ref fa) ⟨[.ref a], []⟩) (Ended s1) s1 := by
  have rv := vals_ints hi
  have aT : ¬ isTb cs a := by
    rintro ⟨p, hp, z⟩
    have q := L.tab p hp
    rw [← z, L.ha] at q
    cases (show Data.seq vs.toArray _ = Data.fields #[] from congrArg Obj.data (Option.some.inj q))
  classical
  let H0 : Hp := fun b => if isTb cs b then some (.tbl #[]) else none
  have on : ∀ {b : Addr}, isTb cs b → H0 b = some (.tbl #[]) := fun z => if_pos z
  have no : ∀ {b : Addr}, ¬ isTb cs b → H0 b = none := fun z => if_neg z
  have ok0 : ∀ {H : Hp} {b : Addr} {u : HO}, H0 b = some u → ObjOk P w H s1.heap b u := fun {H b u} q => by
    rcases Classical.em (isTb cs b) with z | z
    · rw [on z] at q
      cases q
      obtain ⟨p, hp, rfl⟩ := z
      exact L.tab p hp
    · rw [no z] at q
      cases q
  have t0 : ∀ {b : Addr} {u : HO}, H0 b = some u → isTb cs b := fun {b u} q => Classical.byContradiction fun z => by
    rw [no z] at q
    cases q
  cases hk : K.lookup a with
  | some o =>
    have p := L.kx a o hk
    rw [L.ha] at p
    cases p
    refine law_end L room F bi (H := H0) ⟨fun p hp => on ⟨p, hp, rfl⟩, fun b u q => .inr (t0 q)⟩ (fun b u q => ok0 q) (hsp _ (fun p hp => on ⟨p, hp, rfl⟩) (.inr ⟨_, vs.toArray, _, hk, rfl, rfl, rfl, by rw [List.size_toArray, hi.length]; exact hl, rv⟩))
  | none =>
    let h0 : HO := .frz { cls := .type "list", data := .seq vs.toArray } (.lst (ns.map V.int))
    have ne : ∀ {p : Addr × Addr}, p ∈ cs → p.2 ≠ a := fun {p} hp z => aT ⟨p, hp, z.symm⟩
    refine law_end L room F bi (H := upd H0 a h0) ⟨fun p hp => by rw [upd_ne (ne hp)]; exact on ⟨p, hp, rfl⟩, fun b u q => ?_⟩ (fun b u q => ?_) (hsp _ (fun p hp => by rw [upd_ne (ne hp)]; exact on ⟨p, hp, rfl⟩) (.inl (.inr ⟨_, upd_same⟩)))
    · by_cases z : b = a
      · subst z
        rw [upd_same] at q
        cases q
        exact .inl ⟨rfl, hk, _, _, rfl⟩
      · rw [upd_ne z] at q
        exact .inr (t0 q)
    · by_cases z : b = a
      · subst z
        rw [upd_same] at q
        cases q
        exact ⟨L.ha, by rw [List.length_map]; exact hl, vs, _, rv, L.ha⟩
      · rw [upd_ne z] at q
        exact ok0 q
end
/-- a law, by its def's promise at the head's heap h -/
def LawAt (l : PySem.W.OpenLaw) (w : PySem.World) (k n : Nat) (x : Str) (mg : Str → Option Value) (fa : Addr) (h : Heap) : Prop :=
  ∃ (c : Ctx) (fd : FuncData) (cs : List (Addr × Addr)), c.K.In h ∧ (∀ p ∈ cs, h.get? p.2 = some { cls := .none, data := .fields #[] }) ∧ (∀ p ∈ cs, c.K.lookup p.2 = none) ∧ (∀ p ∈ cs, PySem.W.CodeHd h p.1 p.2) ∧ (∀ p ∈ c.tb, isTb cs p.1) ∧ (∀ (s : Shared) (u : Value), BindsTo s fd ⟨[u], []⟩ [(x, u)]) ∧
    ∀ base : Heap, c.K.In base → base.Ns mainGlobals mg → (∀ p ∈ cs, TabB base mg p.1 p.2) → FnW l.prog w c.K mg base k fa fd [x] (spLaw c)
theorem walk_of {l : PySem.W.OpenLaw} {n k : Nat} {q : Program} {loose : List Str} {XP : (Str → Option Value) → Heap → Prop} {YP : PySem.World → Heap → Prop} {d : DefRec} {x : Str} (hn : l.most = some n) (hn2 : n ≤ 63) (hdf : d.params.defaults = []) (room : Room k callerA)
    (F : ∀ (w : PySem.World) (mg : Str → Option Value) (fa : Addr) (h : Heap), YP w h → h.Ns mainGlobals mg → mg d.name = some (.ref fa) → LawAt l w k n x mg fa h) :
    PySem.W.WalkO q loose XP YP l.row.toRowW d [] (fun f vs => PySem.call f vs) := Att.attach_call hn hdf fun w s0 s1 mg mb fa o pm cd doc a vs ns G Y ho hd hcd hmg hobj hints hlen hg => by
  obtain ⟨c, fd, cs, kx, b1, b2, b3, b4, b5, b6⟩ := F w mg fa _ Y G.T.g hmg
  refine law_runs ⟨kx, G.T.g, G.T.b, G.T.builtins, G.T.nolimit, hg, b1, b2, b3, G.T.bmain, hobj⟩ hints (by rw [sizeLine_eq]; omega) room b6 b5 fun H hT hS => ⟨a, ns, rfl, hS, by omega, fun p hp => ?_, fun _ => rfl⟩
  obtain ⟨r, hr, e⟩ := b4 p hp
  rw [e]
  exact hT r hr
end DL

set_option Elab.async false
set_option linter.all false
set_option maxRecDepth 100000
set_option maxHeartbeats 4000000
/-! A11: the head's facts: with empty tables left out; errors, classes by lists of names; static methods; some displays. -/
namespace DL
open PySem PySem.Spec PyProof.Rows L2
/-! ### the hook with tables -/
/-- what the names reach in n steps, and the interpreter's own statics -/
def asY (g : Addr → Option Obj) (n : Nat) : List Addr := He.asD g n ++ [cStatics]
abbrev tabAt (K : PySem.W.Frag) (f : Addr) : Addr := He.tabOf K (codeAt K f)
structure SaysY (bs : List (PySem.W.Frag → Bool)) (fn : List DefX) (tf : List (PySem.W.Frag → Addr)) (h : Heap) (K : PySem.W.Frag) : Prop where
  t : SaysX bs fn K
  hd : ∀ f ∈ tf, PySem.W.codeHdIn K (codeAt K (f K)) (tabAt K (f K)) = true
  out : ∀ f ∈ tf, K.lookup (tabAt K (f K)) = none
  empty : ∀ f ∈ tf, h.get? (tabAt K (f K)) = some { cls := .none, data := .fields #[] }
def tabsY (g : Addr → Option Obj) (tf : List (PySem.W.Frag → Addr)) (K : PySem.W.Frag) : Bool := tf.all fun f => PySem.W.codeHdIn K (codeAt K (f K)) (tabAt K (f K)) && (match g (tabAt K (f K)) with
  | some o => He.emptyTab o
  | none => false)
abbrev AlY : Type := AlX × Bool
def obsY (n : Nat) (bs : List (PySem.W.Frag → Bool)) (fn : List DefX) (tf : List (PySem.W.Frag → Addr)) (g : Addr → Option Obj) : AlY := (obsX bs fn (He.frT g (asY g n)), tabsY g tf (He.frT g (asY g n)))
theorem saysY_of {n : Nat} {bs : List (PySem.W.Frag → Bool)} {fn : List DefX} {tf : List (PySem.W.Frag → Addr)} {h : Heap} (e : obsY n bs fn tf h.get? = (valX fn, true)) : SaysY bs fn tf h (He.frT h.get? (asY h.get? n)) := by
  have e1 : obsX bs fn (He.frT h.get? (asY h.get? n)) = valX fn := congrArg (fun z : AlY => z.1) e
  have e2 : tabsY h.get? tf (He.frT h.get? (asY h.get? n)) = true := congrArg (fun z : AlY => z.2) e
  have each : ∀ f ∈ tf, PySem.W.codeHdIn (He.frT h.get? (asY h.get? n)) (codeAt (He.frT h.get? (asY h.get? n)) (f (He.frT h.get? (asY h.get? n)))) (tabAt (He.frT h.get? (asY h.get? n)) (f (He.frT h.get? (asY h.get? n)))) = true ∧
      ∃ o, h.get? (tabAt (He.frT h.get? (asY h.get? n)) (f (He.frT h.get? (asY h.get? n)))) = some o ∧ He.emptyTab o = true := fun f hf => by
    obtain ⟨z1, z2⟩ := He.ba (List.all_eq_true.mp e2 f hf)
    refine ⟨z1, ?_⟩
    split at z2
    · rename_i o q
      exact ⟨o, q, z2⟩
    · cases z2
  refine ⟨e1, fun f hf => (each f hf).1, fun f hf => ?_, fun f hf => ?_⟩
  · obtain ⟨_, o, q, z⟩ := each f hf
    exact He.frT_none q z
  · obtain ⟨_, o, q, z⟩ := each f hf
    rw [q, He.emptyTab_eq z]
def hookY (n : Nat) (bs : List (PySem.W.Frag → Bool)) (fn : List DefX) (tf : List (PySem.W.Frag → Addr)) : PySem.W.Hook where
  α := AlY
  obs := fun s => obsY n bs fn tf s.heap.get?
  val := fun _ => (valX fn, true)
  says := fun _ h => ∃ K : PySem.W.Frag, K.In h ∧ SaysY bs fn tf h K
  of := fun _ _ e => ⟨_, He.frT_in, saysY_of e⟩
  keeps := fun _ _ _ ⟨K, hK, c⟩ k => ⟨K, PySem.W.Frag.In.keeps hK k, ⟨c.t, c.hd, c.out, fun f hf => k _ _ (c.empty f hf)⟩⟩
theorem obsY_eq {n : Nat} {bs : List (PySem.W.Frag → Bool)} {fn : List DefX} {tf : List (PySem.W.Frag → Addr)} {g : Addr → Option Obj} {s : Shared} (h : ∀ a, g a = s.heap.get? a) : obsY n bs fn tf g = (hookY n bs fn tf).obs s := by
  have e : g = s.heap.get? := funext h
  rw [e] <;> rfl
/-- the tables of the defs tf -/
def tabsOf (K : PySem.W.Frag) (tf : List (PySem.W.Frag → Addr)) : List (Addr × Addr) := tf.map fun f => (codeAt K (f K), tabAt K (f K))
/-! ### Bools of the head -/
def noneB (o : Option (Option Value)) : Bool := match o with
  | some none => true
  | _ => false
theorem noneB_ok {o : Option (Option Value)} (h : noneB o = true) : o = some none := by
  unfold noneB at h
  split at h
  · rfl
  · cases h
theorem all_ok {α : Type} {l : List α} {p : α → Bool} {P : α → Prop} (h : l.all p = true) (i : ∀ a, p a = true → P a) : ∀ a ∈ l, P a := fun a ha => i a (List.all_eq_true.mp h a ha)
def excB (K : PySem.W.Frag) (D : Addr) : Bool := He.eqO (PySem.W.findIn K (.ref D) "__getattribute__") (some (some (.builtin "BaseException.__getattribute__"))) && (noneB (PySem.W.findIn K (.ref D) "__getattr__") && (decide (PySem.W.subIn K (.ref D) (.type "BaseException") = some true) && (PySem.W.hasDictIn K D &&
  (He.eqO (PySem.W.findIn K (.ref D) "__class__") (some (some (.builtin "object.__class__"))) && (He.eqO (PySem.W.specialIn K (.builtin "object.__class__") "__get__") (some (some (.builtin "getset_descriptor.__get__"))) && (decide (PySem.W.takesIn K (.builtin "object.__class__") = some true) && decide (PySem.W.mroIn K D (.type "object") = some true)))))))
theorem excB_ok {K : PySem.W.Frag} {D : Addr} (h : excB K D = true) : ExcC K D := by
  obtain ⟨h1, h⟩ := He.ba h
  obtain ⟨h2, h⟩ := He.ba h
  obtain ⟨h3, h⟩ := He.ba h
  obtain ⟨h4, h⟩ := He.ba h
  obtain ⟨h5, h⟩ := He.ba h
  obtain ⟨h6, h⟩ := He.ba h
  obtain ⟨h7, h8⟩ := He.ba h
  exact ⟨He.eqO_ok h1, noneB_ok h2, of_decide_eq_true h3, h4, He.eqO_ok h5, He.eqO_ok h6, of_decide_eq_true h7, of_decide_eq_true h8⟩
/-- all that is asked of the classes of a law -/
def ctxB (ns es : List Str) (K : PySem.W.Frag) : Bool := (ns.all fun n => (He.Fa.cls n).ok K && isiB K (He.ga K n)) && ((es.all fun n => excB K (He.ga K n)) && (((ns ++ es).all fun n => (ns ++ es).all fun m => kitB2 K (.ref (He.ga K n)) (.ref (He.ga K m)) (subCC n m)) &&
  (((ns ++ es).all fun n => tyNames.all fun t => kitB2 K (.ref (He.ga K n)) (.type t) (subCT n t)) && (tyNames.all fun t => (ns ++ es).all fun n => kitB2 K (.type t) (.ref (He.ga K n)) false))))
theorem ctxB_ok {ns es : List Str} {K : PySem.W.Frag} {tb : List (Addr × Str)} (h : ctxB ns es K = true) : CtxOk { K := K, cl := He.ga K, tb := tb, ns := ns, es := es } := by
  obtain ⟨h1, h⟩ := He.ba h
  obtain ⟨h2, h⟩ := He.ba h
  obtain ⟨h3, h⟩ := He.ba h
  obtain ⟨h4, h5⟩ := He.ba h
  refine ⟨all_ok h1 fun n z => ?_, all_ok h2 fun n z => excB_ok z, all_ok h3 fun n z => all_ok z fun m z => kitB2_ok z, all_ok h4 fun n z => all_ok z fun m z => kitB2_ok z, all_ok h5 fun n z => all_ok z fun m z => kitB2_ok z⟩
  obtain ⟨z1, z2⟩ := He.ba z
  exact isiB_ok (He.cls_ok z1) z2
/-- an error class without own __init__ -/
structure ErN (K : PySem.W.Frag) (C : Addr) : Prop where
  q : PySem.W.excIn K C PySem.HandSPX.veTail "ValueError.__new__" = true
  kp : PySem.W.keepIn K (.ref C) = true
  be : PySem.W.subIn K (.ref C) (.type "BaseException") = some true
  ty : PySem.W.typeIn K (.ref C) = some (.type "type")
def erB (K : PySem.W.Frag) (C : Addr) : Bool := PySem.W.excIn K C PySem.HandSPX.veTail "ValueError.__new__" && (PySem.W.keepIn K (.ref C) && (decide (PySem.W.subIn K (.ref C) (.type "BaseException") = some true) && decide (PySem.W.typeIn K (.ref C) = some (.type "type"))))
theorem erB_ok {K : PySem.W.Frag} {C : Addr} (h : erB K C = true) : ErN K C := by
  obtain ⟨h1, h⟩ := He.ba h
  obtain ⟨h2, h⟩ := He.ba h
  obtain ⟨h3, h4⟩ := He.ba h
  exact ⟨h1, h2, of_decide_eq_true h3, of_decide_eq_true h4⟩
/-- one with an own __init__ and the field f -/
structure ErI (K : PySem.W.Frag) (C fI : Addr) (f : Str) : Prop where
  t : OexC K C
  ini : PySem.W.findIn K (.ref C) "__init__" = some (some (.ref fI))
  fn : PySem.W.typeIn K (.ref fI) = some (.type "function")
  nof : PySem.W.findIn K (.ref C) f = some none
def oexB (K : PySem.W.Frag) (C : Addr) : Bool := match K.lookup C with
  | some ⟨.type "type", _, .cls cd, sl⟩ => (match cd.mro, sl.toList with
    | .ref C' :: bm, [_, _, _, _, some (.builtin n), _] => C' == C && (n == "ValueError.__new__" && (!cd.hasDel && (cd.hasDict && PySem.HandSPX.refsVE bm)))
    | _, _ => false)
  | _ => false
theorem oexB_ok {K : PySem.W.Frag} {C : Addr} (h : oexB K C = true) : ∃ nm q N bs bm sn sub ab col dd k0 k1 k2 k3 k5, K.lookup C = some (excClassObj nm q C N bs bm true sn sub ab col dd k0 k1 k2 k3 k5 "ValueError.__new__") ∧ PySem.HandSPX.refsVE bm = true := by
  unfold oexB at h
  split at h
  · rename_i dd cd sl ho
    split at h
    · rename_i C' bm k0 k1 k2 k3 n k5 hm hs
      simp only [Bool.and_eq_true, beq_iff_eq, Bool.not_eq_true'] at h
      obtain ⟨rfl, rfl, hdel, hdct, hr⟩ := h
      obtain ⟨nm, bs, mro, ns, qn, hd, sn, sub, ab, col, del⟩ := cd
      dsimp only at hm hdel hdct
      subst hm hdel hdct
      have hsl : sl = #[k0, k1, k2, k3, some (.builtin "ValueError.__new__"), k5] := by
        obtain ⟨l⟩ := sl
        simp only at hs
        rw [hs]
      subst hsl
      exact ⟨nm, qn, ns, bs, bm, sn, sub, ab, col, dd, k0, k1, k2, k3, k5, ho, hr⟩
    · cases h
  · cases h
def eriB (K : PySem.W.Frag) (C fI : Addr) (f : Str) : Bool := oexB K C && (He.eqO (PySem.W.findIn K (.ref C) "__setattr__") (some (some (.builtin "object.__setattr__"))) && (decide (PySem.W.subIn K (.ref C) (.type "BaseException") = some true) && (decide (PySem.W.typeIn K (.ref C) = some (.type "type")) && (PySem.W.keepIn K (.ref C) &&
  (He.eqO (PySem.W.findIn K (.ref C) "__init__") (some (some (.ref fI))) && (decide (PySem.W.typeIn K (.ref fI) = some (.type "function")) && noneB (PySem.W.findIn K (.ref C) f)))))))
theorem eriB_ok {K : PySem.W.Frag} {C fI : Addr} {f : Str} (h : eriB K C fI f = true) : ErI K C fI f := by
  obtain ⟨h1, h⟩ := He.ba h
  obtain ⟨h2, h⟩ := He.ba h
  obtain ⟨h3, h⟩ := He.ba h
  obtain ⟨h4, h⟩ := He.ba h
  obtain ⟨h5, h⟩ := He.ba h
  obtain ⟨h6, h⟩ := He.ba h
  obtain ⟨h7, h8⟩ := He.ba h
  exact ⟨⟨oexB_ok h1, He.eqO_ok h2, of_decide_eq_true h3, of_decide_eq_true h4, h5⟩, He.eqO_ok h6, of_decide_eq_true h7, noneB_ok h8⟩
/-- what of a class is read: the base's __init__, a static method -/
def vInit (K : PySem.W.Frag) (C : Addr) : Bool := match PySem.W.findCls K (.ref C) (.type "type") "__init__" with
  | some (.val (.builtin n)) => n == "ValueError.__init__"
  | _ => false
theorem vInit_ok {K : PySem.W.Frag} {C : Addr} (h : vInit K C = true) : PySem.W.findCls K (.ref C) (.type "type") "__init__" = some (.val (.builtin "ValueError.__init__")) := by
  unfold vInit at h
  split at h
  · rename_i n e
    rw [e, beq_iff_eq.mp h]
  · cases h
def creadB (K : PySem.W.Frag) (C : Addr) : Bool := PySem.W.readsIn K C (.type "type") && He.eqO (PySem.W.specialIn K (.ref C) "__getattribute__") (some (some (.builtin "type.__getattribute__")))
theorem creadB_ok {K : PySem.W.Frag} {C : Addr} (h : creadB K C = true) : ClX.CRead K C (.type "type") := by
  obtain ⟨h1, h2⟩ := He.ba h
  exact ⟨h1, He.eqO_ok h2⟩
structure SMet (K : PySem.W.Frag) (C : Addr) (m : Str) (p g : Addr) : Prop where
  at_ : PySem.W.findCls K (.ref C) (.type "type") m = some (.get (.builtin "staticmethod.__get__") (.ref p) .none (.ref C))
  rc : ∃ rest, PySem.W.recIn K p "staticmethod" = some (.ref g :: rest)
  kp : PySem.W.keepIn K (.ref g) = true
def smetB (K : PySem.W.Frag) (C : Addr) (m : Str) (p g : Addr) : Bool := (match PySem.W.findCls K (.ref C) (.type "type") m with
  | some (.get (.builtin n) (.ref a) .none (.ref b)) => n == "staticmethod.__get__" && (decide (a = p) && decide (b = C))
  | _ => false) && (isSomeRef (PySem.W.recIn K p "staticmethod") g && PySem.W.keepIn K (.ref g))
theorem smetB_ok {K : PySem.W.Frag} {C : Addr} {m : Str} {p g : Addr} (h : smetB K C m p g = true) : SMet K C m p g := by
  obtain ⟨h1, h⟩ := He.ba h
  obtain ⟨h2, h3⟩ := He.ba h
  refine ⟨?_, ?_, h3⟩
  · split at h1
    · rename_i n a b e
      obtain ⟨z1, z⟩ := He.ba h1
      obtain ⟨z2, z3⟩ := He.ba z
      rw [e, beq_iff_eq.mp z1, of_decide_eq_true z2, of_decide_eq_true z3]
    · cases h1
  · unfold isSomeRef at h2
    split at h2
    · rename_i a rest e
      rw [of_decide_eq_true h2] at e
      exact ⟨rest, e⟩
    · cases h2
section
variable {X : Cx} {c : Ctx} {W : WX} {k kf ka : Nat} {n m x : Str} {a : Expr} {es : List Expr} {wr : WA} {s : WP} {f pp : Addr} {fd : FuncData} {ps : List Str} {p pos apos : Pos}
theorem g_cls {ex : Expr} (h : PE X ex (tC (.ref (c.cl n)))) (hn : n ∈ c.ns ++ c.es) : GE X c W 0 ex (wK (.cls n)) := g_con h fun _ _ => .cls hn
theorem g_ty {ex : Expr} {t : String} (h : PE X ex (tC (.ty t))) (hn : t ∈ tyNames := by decide) : GE X c W 0 ex (wK (.ty t)) := g_con h fun _ _ => .ty hn
/-- C.m(a, ..), m a static method -/
theorem g_static {pl : Sem Bool} (F : FnW X.prog X.w X.K X.mg X.base k f fd ps (SpW c s kf)) (gd : X.A.guards = some []) (hr : Room k X.A) (hg : Gl X x) (hm : X.mg x = some (.ref (c.cl n))) (rd : ClX.CRead X.K (c.cl n) (.type "type")) (sm : SMet X.K (c.cl n) m pp f) (hb : Binds X.K fd ps []) (tk : Takes X W)
    (ha : GA X c W ka (a :: es) wr) (hdb : (x == ("__debug__" : Str)) = false := by decide)
    (hc : eval (.Call (.Attribute (.Name x p) m apos) (a :: es) [] pos) X.env = (do
      let ov ← eval (.Name x p) X.env
      standAt apos.atName
      let (f, first) ← holding [ov] (getMethod ov m pl)
      callWith pos f first (backTo pos (starEach (a :: es) X.env)) (backToKw pos (keywordEach [] X.env))) := by rfl)
    (he : starEach (a :: es) X.env = (false, eval a X.env) :: starEach es X.env := by rfl) (hpl : (backTo pos (starEach es X.env)).any (·.1) = false := by rfl) :
    GE X c W (ka + kf) (.Call (.Attribute (.Name x p) m apos) (a :: es) [] pos) (wCall s [] wr) := by
  refine ⟨fun pins s σ H Q J h => ?_⟩
  obtain ⟨rest, hp⟩ := sm.rc
  refine PySem.W.methodCall_KW (pl := pl) (ld_glob J hg hm ?_ hdb) hc
  refine PySem.W.method_cls J.kIn rd.ga (PySem.W.cls_bind J.kIn rd.rd sm.at_ (wpAny_call (PySem.W.sm_get (s := { s with toks := s.toks + 1 }) J.kIn hp (PySem.W.handed_on rfl ?_))))
  have J1 := J.tok (s.toks + 1)
  refine PySem.W.callWith_K (h₀ := X.base) (first := []) J.ok.mod.kin sm.kp (thn (ha.run pos pins _ σ H _ J1 (ld_call (dvs := []) (dd := []) (fun _ _ => .nil) h)) fun us s1 ⟨vs, H1, J2, r, q⟩ => ⟨J2.kIn, ?_⟩) he hpl
  exact run_fnW (dvs := []) (dv := []) F gd hr hb .nil tk J2 r q
end
end DL

set_option Elab.async false
set_option linter.all false
set_option maxRecDepth 100000
set_option maxHeartbeats 4000000
/-! A12: defaults, costs, {}, list(range(..)). -/
namespace DL
open PySem PySem.Spec PyProof.Rows L2
def nilTB (K : PySem.W.Frag) (a : Addr) : Bool := match K.lookup a with
  | some ⟨.type c, _, .seq its _, _⟩ => decide (c = "tuple") && decide (its.toList = [])
  | _ => false
theorem nilTB_ok {K : PySem.W.Frag} {a : Addr} (h : nilTB K a = true) (H : Hp) : SqT K H a [] := by
  unfold nilTB at h
  split at h
  · rename_i c od its n osl q
    obtain ⟨h1, h2⟩ := He.ba h
    have e2 : its.toList = [] := of_decide_eq_true h2
    have e3 : its.size = 0 := by rw [← Array.length_toList, e2]; rfl
    exact .inr ⟨_, its, n, q, congrArg Value.type (of_decide_eq_true h1), rfl, by rw [e3]; exact Nat.zero_le _, by rw [e2]; exact .nil⟩
  · cases h
theorem dd_nil {c : Ctx} {a : Addr} (h : nilTB c.K a = true) (S : Option SA) (I : Hp) : Reps c S I [.tup []] [.ref a] := .cons (.tup (.inr ⟨rfl, nilTB_ok h I⟩) .nil) .nil
section
variable {X : Cx} {c : Ctx} {W : WX} {k ka kb : Nat} {m : Bool} {a : Expr} {wr : WA} {pos : Pos}
theorem gs_le {ss : List Stmt} {w : WS} (h : GSs X c W ka ss w) (hk : ka ≤ kb) : GSs X c W kb ss w := L2.PSs.imp h fun K σ H h => by
  obtain ⟨S, F, n, I, μ, e, E, hl, he, hw, h, q⟩ := h
  exact ⟨S, F, n, I, μ, e, E, by omega, he, hw, h, q.mono (by omega) (Same.refl I)⟩
/-- {} -/
def wDict0 (m : Bool) : WE := fun _ μ Q _ => sett m Q (.n (.dk [] [])) μ
theorem g_dict0 : GE X c W 0 (.Dict [] [] pos) (wDict0 m) := L2.PE.imp pe_dnewK fun σ H Q h => by
  obtain ⟨S, F, n, I, μ, e, Qd, Xd, hl, he, hw, h, q, x⟩ := h
  intro p hp
  obtain ⟨w2, r2⟩ := RsR.new hw hp (NdR.dk (ks := []) (xs := []) .nil rfl)
  exact (q.sett (m := m)) _ μ _ I _ h (Same.refl I) w2 r2
/-! list(range(n)) -/
def rngVs (n : Nat) : List V := (List.range n).map fun (i : Nat) => V.int (i : Int)
theorem rngVs_reps {S : Option SA} {I : Hp} (n : Nat) : Reps c S I (rangeD 0 n) (rngVs n) := by
  unfold rangeD rngVs
  generalize List.range n = l
  induction l with
  | nil => exact .nil
  | cons i l ih =>
    refine .cons ?_ ih
    show Rep c S I (.int (0 + (i : Int))) (.int (i : Int))
    rw [Int.zero_add]
    exact .int
theorem rngVs_vals {acc : Array Value} {n : Nat} (h : ItemsOf (fun i v => ∃ t, v = Value.int (0 + (i : Int) * 1) t) acc n) : Vals (rngVs n) acc.toList := by
  obtain ⟨h1, h2⟩ := h
  have key : ∀ (l : List Value) (j : Nat), (∀ i v, l[i]? = some v → ∃ t, v = Value.int ((j + i : Nat) : Int) t) → Vals ((List.range' j l.length).map fun (i : Nat) => V.int (i : Int)) l := by
    intro l
    induction l with
    | nil => intro j _; exact .nil
    | cons v l ih =>
      intro j hj
      refine .cons ?_ (ih (j + 1) fun i v hv => ?_)
      · obtain ⟨t, rfl⟩ := hj 0 v rfl
        exact ⟨t, by simp⟩
      · obtain ⟨t, rfl⟩ := hj (i + 1) v hv
        exact ⟨t, by congr 2; omega⟩
  have e := key acc.toList 0 fun i v hv => by
    rw [Array.getElem?_toList] at hv
    obtain ⟨t, rfl⟩ := h2 i v hv
    exact ⟨t, by congr 1; omega⟩
  rw [Array.length_toList, h1] at e
  unfold rngVs
  rw [List.range_eq_range']
  exact e
def wLrng (m : Bool) (a : WA) : WE := fun e μ Q X => a e μ (fun ds μ1 => one ds fun d => int1 d fun j => (0 ≤ j ∧ j ≤ 2 ^ 20) ∧ sett m Q (.n (.list (rangeD 0 j.toNat))) μ1) X
theorem g_lrng {p1 p2 pos2 : Pos} (hg : Gl X "list") (hm : X.mg "list" = none) (hg2 : Gl X "range") (hm2 : X.mg "range" = none) (ha : GA X c W k [a] wr) (hs : starEach [a] X.env = [(false, eval a X.env)] := by rfl) (hc : X.calm = true := by rfl) :
    GE X c W k (.Call (.Name "list" p1) [.Call (.Name "range" p2) [a] [] pos2] [] pos) (wLrng m wr) := by
  have h1 : CallR X (.type "range") (fun vs H Q => ∃ j, vs = [V.int j] ∧ ∀ p, H p = none → Q (.ref p) (upd H p (.rng 0 j))) := by
    intro pins s σ H vs us Q J r ⟨j, e, q⟩
    subst e
    obtain ⟨u, rfl, ru⟩ := vals1 r
    obtain ⟨t, rfl⟩ := ru
    refine call_range_1 ⟨.ref s.heap.objs.size, upd H s.heap.objs.size (.rng 0 j), J.laid (t' := s.toks + 1 + 1) (fun b o e => Heap.get?_push_of_some _ e) (Nat.le_refl _) ?_, rfl, q _ (J.hok.fresh (Nat.le_refl _))⟩
    exact ⟨s.toks, t, s.toks + 1, Heap.get?_push_size _ rfl⟩
  have h2 : CallR X (.type "list") (fun vs H Q => ∃ r j, vs = [V.ref r] ∧ H r = some (.rng 0 j) ∧ (0 ≤ j ∧ j ≤ 2 ^ 20) ∧ ∀ p, H p = none → Q (.ref p) (upd H p (.lst (rngVs j.toNat)))) := by
    intro pins s σ H vs us Q J r ⟨a, j, e, ha, hj, q⟩
    subst e
    obtain ⟨u, rfl, ru⟩ := vals1 r
    cases ru
    obtain ⟨t, u, v, hr⟩ := J.hok a _ ha
    refine call_list_range (n := j.toNat) (J.ok.hd hc) hr (small_one (by decide) (by decide) (by omega) (by omega)) (by rw [rangeSize_one]; split <;> omega) (by omega) fun h' tk acc c' k hl hi => ?_
    refine ⟨.ref s.heap.objs.size, _, J.laid (t' := tk) (o := .lst (rngVs j.toNat)) k (Nat.le_refl _) ?_, rfl, q _ (J.hok.fresh (Nat.le_refl _))⟩
    refine ⟨by unfold rngVs; rw [List.length_map, List.length_range, sizeLine_eq]; omega, acc.toList, c', rngVs_vals hi, hl⟩
  have h3 := pe_callTy (pos := pos) (p := p1) h2 hg hm (by decide +kernel) (pa_cons (pe_callTy (pos := pos2) (p := p2) h1 hg2 hm2 (by decide +kernel) ha (by decide) (by decide) hs rfl) pa_nil)
  refine L2.PE.imp h3 fun σ H Q h => ?_
  obtain ⟨S, F, n, I, μ, e, Qd, Xd, hl, he, hw, h, q, x⟩ := h
  refine ⟨S, F, n, I, μ, e, _, Xd, hl, he, hw, h, fun ds μ1 vs I1 H1 pa s1 w1 ra => ?_, x⟩
  cases ra with
  | nil => exact pa.elim
  | cons r1 r2 =>
    cases r2 with
    | cons _ _ => exact pa.elim
    | nil =>
      rename_i d v
      have pa2 : int1 d fun j => (0 ≤ j ∧ j ≤ 2 ^ 20) ∧ sett m Qd (.n (.list (rangeD 0 j.toNat))) μ1 := pa
      cases r1 <;> first | exact False.elim pa2 | skip
      rename_i j
      obtain ⟨hj, pa3⟩ : (0 ≤ j ∧ j ≤ 2 ^ 20) ∧ sett m Qd (.n (.list (rangeD 0 j.toNat))) μ1 := pa2
      refine ⟨j, rfl, fun p hp => ⟨p, j, rfl, upd_same, hj, fun p2 hp2 => ?_⟩⟩
      have w2 := w1.frame (u := .rng 0 j) hp
      obtain ⟨w3, r3⟩ := RsR.new w2 hp2 (NdR.list (rngVs_reps j.toNat))
      exact (q.sett (m := m)) _ μ1 _ I1 _ pa3 s1 w3 r3
end
theorem len_mixed {c : Ctx} {vs : List V} {H : Hp} {Q : VK} {Ex : XK} {k : Nat} {x : Str} (h : SpW c wp_law_mixed k vs H Q Ex) : vs.length = [x].length := by
  obtain ⟨S, F, m, I, μ, ds, Qd, Xd, hl, w, r, h, _⟩ := h
  rw [← r.length]
  unfold wp_law_mixed at h
  split at h
  · rfl
  · exact h.elim
theorem len_take {c : Ctx} {vs : List V} {H : Hp} {Q : VK} {Ex : XK} {k : Nat} {x y : Str} (h : SpW c wp_law_take k vs H Q Ex) : vs.length = [x, y].length := by
  obtain ⟨S, F, m, I, μ, ds, Qd, Xd, hl, w, r, h, _⟩ := h
  rw [← r.length]
  unfold wp_law_take at h
  split at h
  · rfl
  · exact h.elim
theorem tabs_all {K : PySem.W.Frag} {tf : List (PySem.W.Frag → Addr)} {P : Addr × Addr → Prop} (h : ∀ f ∈ tf, P (codeAt K (f K), tabAt K (f K))) : ∀ p ∈ tabsOf K tf, P p := fun p hp => by
  obtain ⟨f, hf, rfl⟩ := List.mem_map.mp hp
  exact h f hf
theorem tabs_mem {K : PySem.W.Frag} {tf : List (PySem.W.Frag → Addr)} {f : PySem.W.Frag → Addr} (h : f ∈ tf) : (codeAt K (f K), tabAt K (f K)) ∈ tabsOf K tf := List.mem_map.mpr ⟨f, h, rfl⟩
theorem tb_uniq {a : Addr} {q : Str} : ∀ {l : List (Addr × Str)}, (l.map (·.1)).Nodup → (a, q) ∈ l → ∀ p ∈ l, p.1 = a → p.2 = q
  | [], _, h, _, _, _ => by cases h
  | r :: l, nd, h, p, hp, e => by
    rw [List.map_cons, List.nodup_cons] at nd
    rcases List.mem_cons.mp h with h | h <;> rcases List.mem_cons.mp hp with hp | hp
    · rw [hp, ← h]
    · exact (nd.1 (List.mem_map.mpr ⟨p, hp, by rw [e, ← h]⟩)).elim
    · exact (nd.1 (List.mem_map.mpr ⟨(a, q), h, by rw [← hp, e]⟩)).elim
    · exact tb_uniq nd.2 h p hp e
end DL

set_option Elab.async false
set_option linter.all false
set_option maxRecDepth 100000
set_option maxHeartbeats 4000000
/-! A13: == of an own object and any thing of a known kind. -/
namespace DL
open PySem PySem.Spec PyProof.Rows L2
def notErr : D → Prop
  | .err _ _ _ => False
  | _ => True
theorem notErr_ne {d : D} (h : notErr d) : ∀ n fs ds, d ≠ .err n fs ds := fun n fs ds z => by
  rw [z] at h
  exact h
def oOwnA (n : Str) (s : WP) : WOp := fun x y μ Q X => clsOf μ x = some n ∧ (∃ t, tyD μ y = some t) ∧ notErr y ∧ s [x, y] μ (vR Q) X
/-- no kind of thing comes ahead of the class -/
structure NotF (c : Ctx) (C : Addr) : Prop where
  ty : ∀ t ∈ tyNames, PySem.W.notFirst c.K C (.type t) = true
  cl : ∀ n ∈ c.ns ++ c.es, PySem.W.notFirst c.K C (.ref (c.cl n)) = true
theorem NotF.of {c : Ctx} {C : Addr} (h : NotF c C) {t : TyD} {u : Value} (q : TyV c t u) : PySem.W.notFirst c.K C u = true := by
  cases t with
  | b n =>
    obtain ⟨rfl, q⟩ := q
    exact h.ty _ q
  | o n =>
    obtain ⟨rfl, q⟩ := q
    exact h.cl _ q
def notFB (ns es : List Str) (n : Str) (K : PySem.W.Frag) : Bool := (tyNames.all fun t => PySem.W.notFirst K (He.ga K n) (.type t)) && (ns ++ es).all fun m => PySem.W.notFirst K (He.ga K n) (.ref (He.ga K m))
theorem notFB_ok {ns es : List Str} {n : Str} {K : PySem.W.Frag} {tb : List (Addr × Str)} (h : notFB ns es n K = true) : NotF { K := K, cl := He.ga K, tb := tb, ns := ns, es := es } (He.ga K n) := by
  obtain ⟨h1, h2⟩ := He.ba h
  exact ⟨fun t ht => List.all_eq_true.mp h1 t ht, fun m hm => List.all_eq_true.mp h2 m hm⟩
section
variable {X : Cx} {c : Ctx} {W : WX} {k kf : Nat} {n : Str} {s : WP} {f : Addr} {fd : FuncData} {ps : List Str}
theorem w_ownEqA (T : CtxOk c) (N : NotF c (c.cl n)) (G : FnW X.prog X.w X.K X.mg X.base k f fd ps (SpW c s kf)) (gd : X.A.guards = some []) (hr : Room k X.A) (hb : Binds X.K fd ps []) (tk : Takes X W) (hs : Spl X.K (c.cl n) "__eq__" f) (hK : X.K = c.K := by rfl) : Op2 X c W kf (compareOp .Eq) (oOwnA n s) := by
  intro pins sh σ H x y v u Q J rx ry h
  obtain ⟨S, F, m, I, μ, dx, dy, Qd, Xd, hl, w, ra, rb, ⟨h1, ⟨t, h2⟩, h3, h⟩, q, x⟩ := h
  obtain ⟨fs, ds, e1⟩ := clsOf_some h1
  obtain ⟨a, _, _, rfl, ha, _⟩ := asObj_rep w ra e1
  cases rx
  obtain ⟨mA, Oa, _⟩ := ins_get J.hok ha
  obtain ⟨od, Ja, _⟩ := Oa.look
  obtain ⟨tv, q1, q2⟩ := ty_rep T w rb h2 (notErr_ne h3)
  rw [← hK] at q2
  obtain ⟨P, kx, hp, _⟩ := kit_of J ry q2
  have hn := N.of q1
  rw [← hK] at hn
  refine cmp_own (op := .Eq) hr.units0 J.kIn Ja (kx.ty _ _ J.kIn hp) hn hs.at_ hs.fn ?_
  exact thn (run_fnW (us := [.ref a, u]) (vs := [.ref a, _]) (dvs := []) G gd hr hb .nil tk J (.cons rfl (.cons ry .nil)) (sp_of hl w (.cons ra (.cons rb .nil)) h q.vR x)) fun r s' z => cmpBack_of' z
end
end DL

set_option Elab.async false
set_option linter.all false
set_option maxRecDepth 100000
set_option maxHeartbeats 4000000
/-! M0: the mathematics of rows of numbers. -/
namespace M
/-- the value at x, the power 0 first -/
def ev : List Int → Int → Int
  | [], _ => 0
  | n :: ns, x => n + x * ev ns x
theorem ev_append (x : Int) : ∀ ns ms : List Int, ev (ns ++ ms) x = ev ns x + x ^ ns.length * ev ms x
  | [], ms => by simp [ev]
  | n :: ns, ms => by
    rw [List.cons_append, ev, ev, ev_append x ns ms, List.length_cons, Int.pow_succ, Int.mul_add, Int.add_assoc, ← Int.mul_assoc, Int.mul_comm x (x ^ ns.length)]
theorem horner (x : Int) (ns : List Int) : ns.reverse.foldl (fun a n => a * x + n) 0 = ev ns x := by
  induction ns with
  | nil => rfl
  | cons n ns ih =>
    rw [List.reverse_cons, List.foldl_append, ih, List.foldl_cons, List.foldl_nil, ev, Int.mul_comm, Int.add_comm]
/-- without the zeros at the end -/
def trim : List Int → List Int
  | [] => []
  | n :: ns => if trim ns = [] ∧ n = 0 then [] else n :: trim ns
theorem trim_append_zero : ∀ ns : List Int, trim (ns ++ [0]) = trim ns
  | [] => by simp [trim]
  | n :: ns => by rw [List.cons_append, trim, trim, trim_append_zero ns]
theorem trim_len : ∀ ns : List Int, (trim ns).length ≤ ns.length
  | [] => Nat.le_refl _
  | n :: ns => by
    rw [trim]
    have := trim_len ns
    by_cases h : trim ns = [] ∧ n = 0
    · rw [if_pos h]; simp
    · rw [if_neg h, List.length_cons, List.length_cons]; omega
theorem trim_self : ∀ ns : List Int, (∀ h : ns ≠ [], ns.getLast h ≠ 0) → trim ns = ns
  | [], _ => rfl
  | [n], h => by
    have := h (by simp)
    rw [trim, trim]
    simp at this
    simp [this]
  | n :: m :: ns, h => by
    have ih := trim_self (m :: ns) fun h2 => by simpa using h (by simp)
    rw [trim, ih]
    simp
theorem trim_last : ∀ (ns : List Int) (h : trim ns ≠ []), (trim ns).getLast h ≠ 0
  | [], h => absurd rfl h
  | n :: ns, h => by
    have e : trim (n :: ns) = if trim ns = [] ∧ n = 0 then [] else n :: trim ns := rfl
    by_cases hc : trim ns = [] ∧ n = 0
    · rw [if_pos hc] at e
      exact absurd e h
    · rw [if_neg hc] at e
      by_cases h2 : trim ns = []
      · have hn : n ≠ 0 := fun z => hc ⟨h2, z⟩
        simp only [e, h2, List.getLast_singleton]
        exact hn
      · have ih := trim_last ns h2
        simp only [e]
        rw [List.getLast_cons h2]
        exact ih
theorem trim_trim (ns : List Int) : trim (trim ns) = trim ns := trim_self _ (trim_last ns)
theorem ev_trim (x : Int) : ∀ ns : List Int, ev (trim ns) x = ev ns x
  | [] => rfl
  | n :: ns => by
    rw [trim, ev, ← ev_trim x ns]
    by_cases h : trim ns = [] ∧ n = 0
    · rw [if_pos h, h.1, h.2]
      simp [ev]
    · rw [if_neg h, ev]
theorem trim_mem {x : Int} : ∀ {ns : List Int}, x ∈ trim ns → x ∈ ns
  | [], h => h
  | n :: ns, h => by
    rw [trim] at h
    by_cases hc : trim ns = [] ∧ n = 0
    · rw [if_pos hc] at h
      cases h
    · rw [if_neg hc] at h
      rcases List.mem_cons.mp h with e | e
      · rw [e]; exact List.mem_cons_self
      · exact List.mem_cons_of_mem _ (trim_mem e)
/-- a row is trimmed if its last number is not 0 -/
def Trd (ns : List Int) : Prop := trim ns = ns
/-- ns and t times ms -/
def addS (t : Int) : List Int → List Int → List Int
  | ns, [] => ns
  | [], m :: ms => t * m :: addS t [] ms
  | n :: ns, m :: ms => (n + t * m) :: addS t ns ms
theorem ev_addS (t x : Int) : ∀ ns ms : List Int, ev (addS t ns ms) x = ev ns x + t * ev ms x
  | ns, [] => by
    cases ns <;> simp [addS, ev]
  | [], m :: ms => by
    have ih := ev_addS t x [] ms
    show t * m + x * ev (addS t [] ms) x = 0 + t * (m + x * ev ms x)
    rw [ih, show ev [] x = 0 from rfl, Int.zero_add, Int.zero_add, Int.mul_add, ← Int.mul_assoc, ← Int.mul_assoc, Int.mul_comm x t]
  | n :: ns, m :: ms => by
    rw [addS, ev, ev_addS t x ns ms, ev, ev, Int.mul_add, Int.mul_add, ← Int.mul_assoc, ← Int.mul_assoc, Int.mul_comm x t]
    omega
theorem addS_len (t : Int) : ∀ ns ms : List Int, (addS t ns ms).length = max ns.length ms.length
  | ns, [] => by cases ns <;> simp [addS]
  | [], m :: ms => by
    rw [addS, List.length_cons, addS_len t [] ms, List.length_cons, List.length_nil]
    omega
  | n :: ns, m :: ms => by
    rw [addS, List.length_cons, addS_len t ns ms, List.length_cons, List.length_cons]
    omega
theorem addS_pad (t : Int) : ∀ (ns ms : List Int) (k : Nat), ns.length + k ≤ ms.length → addS t (ns ++ List.replicate k 0) ms = addS t ns ms
  | ns, ms, 0, _ => by simp
  | [], [], k + 1, h => by simp at h
  | n :: ns, [], k + 1, h => by simp at h
  | [], m :: ms, k + 1, h => by
    have ih := addS_pad t [] ms k (by simp at h ⊢; omega)
    rw [List.nil_append] at ih
    rw [List.nil_append, List.replicate_succ, addS, addS, ih, Int.zero_add]
  | n :: ns, m :: ms, k + 1, h => by
    have ih := addS_pad t ns ms (k + 1) (by simp at h ⊢; omega)
    rw [List.cons_append, addS, addS, ih]
/-- one more of ms is added -/
theorem addS_step (t : Int) : ∀ (ns ms : List Int) (i : Nat) (m : Int), ms[i]? = some m → i < ns.length → ∃ n, (addS t ns (ms.take i))[i]? = some n ∧ addS t ns (ms.take (i + 1)) = (addS t ns (ms.take i)).set i (n + t * m)
  | ns, [], i, m, h, _ => by simp at h
  | [], m' :: ms, i, m, _, h => by simp at h
  | n :: ns, m' :: ms, 0, m, h, _ => by
    simp at h
    subst h
    refine ⟨n, ?_, ?_⟩
    · simp [addS]
    · cases ns <;> simp [addS]
  | n :: ns, m' :: ms, i + 1, m, h, hl => by
    obtain ⟨k, h1, h2⟩ := addS_step t ns ms i m (by simpa using h) (by simpa using hl)
    refine ⟨k, ?_, ?_⟩
    · rw [List.take_succ_cons, addS, List.getElem?_cons_succ]
      exact h1
    · rw [List.take_succ_cons, List.take_succ_cons, addS, addS, h2, List.set_cons_succ]
end M

set_option Elab.async false
set_option linter.all false
set_option maxRecDepth 100000
set_option maxHeartbeats 4000000
/-! M1: products and compositions of rows. -/
namespace M
def addAt (off : Nat) (k : Int) (F ms : List Int) : List Int := F.take off ++ addS k (F.drop off) ms
theorem addAt_len {off : Nat} {k : Int} {F ms : List Int} (h : off + ms.length ≤ F.length ∨ ms = []) (ho : off ≤ F.length) : (addAt off k F ms).length = F.length := by
  unfold addAt
  rw [List.length_append, List.length_take, addS_len, List.length_drop]
  rcases h with h | h
  · omega
  · rw [h, List.length_nil]
    omega
theorem ev_addAt (x : Int) {off : Nat} {k : Int} {F ms : List Int} (h : off ≤ F.length) : ev (addAt off k F ms) x = ev F x + x ^ off * (k * ev ms x) := by
  unfold addAt
  have e : ev F x = ev (F.take off) x + x ^ off * ev (F.drop off) x := by
    have := ev_append x (F.take off) (F.drop off)
    rw [List.take_append_drop, List.length_take, Nat.min_eq_left h] at this
    exact this
  rw [ev_append, ev_addS, List.length_take, Nat.min_eq_left h, e, Int.mul_add]
  omega
theorem addAt_zero (off : Nat) (k : Int) (F : List Int) : addAt off k F [] = F := by
  unfold addAt
  cases h : F.drop off <;> simp [addS, ← h]
theorem addAt_step {off : Nat} {k m : Int} {F ms : List Int} {j : Nat} (hm : ms[j]? = some m) (hl : off + j < F.length) :
    ∃ v, (addAt off k F (ms.take j))[off + j]? = some v ∧ addAt off k F (ms.take (j + 1)) = (addAt off k F (ms.take j)).set (off + j) (v + k * m) := by
  obtain ⟨v, h1, h2⟩ := addS_step k (F.drop off) ms j m hm (by rw [List.length_drop]; omega)
  have ht : (F.take off).length = off := by rw [List.length_take]; omega
  refine ⟨v, ?_, ?_⟩
  · unfold addAt
    rw [List.getElem?_append_right (by omega), ht, Nat.add_sub_cancel_left]
    exact h1
  · unfold addAt
    rw [h2, List.set_append, if_neg (by omega), ht, Nat.add_sub_cancel_left]
def prodFrom (F : List Int) (off : Nat) : List Int → List Int → List Int
  | [], _ => F
  | n :: ns, ms => prodFrom (addAt off n F ms) (off + 1) ns ms
theorem prodFrom_snoc (ms : List Int) : ∀ (ns : List Int) (F : List Int) (off : Nat) (n : Int), prodFrom F off (ns ++ [n]) ms = addAt (off + ns.length) n (prodFrom F off ns ms) ms
  | [], F, off, n => rfl
  | a :: ns, F, off, n => by
    rw [List.cons_append, prodFrom, prodFrom_snoc ms ns, prodFrom, List.length_cons, show off + 1 + ns.length = off + (ns.length + 1) by omega]
theorem prodFrom_len (ms : List Int) : ∀ (ns : List Int) (F : List Int) (off : Nat), off + ns.length + ms.length ≤ F.length + 1 → (prodFrom F off ns ms).length = F.length
  | [], F, off, _ => rfl
  | n :: ns, F, off, h => by
    rw [List.length_cons] at h
    have hl : (addAt off n F ms).length = F.length := addAt_len (by
      by_cases hm : ms = []
      · exact .inr hm
      · exact .inl (by omega)) (by omega)
    rw [prodFrom, prodFrom_len ms ns _ _ (by rw [hl]; omega), hl]
theorem ev_prodFrom (x : Int) (ms : List Int) : ∀ (ns : List Int) (F : List Int) (off : Nat), off + ns.length + ms.length ≤ F.length + 1 → ev (prodFrom F off ns ms) x = ev F x + x ^ off * (ev ns x * ev ms x)
  | [], F, off, _ => by simp [prodFrom, ev]
  | n :: ns, F, off, h => by
    rw [List.length_cons] at h
    have hl : (addAt off n F ms).length = F.length := addAt_len (by
      by_cases hm : ms = []
      · exact .inr hm
      · exact .inl (by omega)) (by omega)
    rw [prodFrom, ev_prodFrom x ms ns _ _ (by rw [hl]; omega), ev_addAt x (by omega), ev, Int.pow_succ, Int.add_mul, Int.mul_add, Int.add_assoc, Int.mul_assoc, ← Int.mul_assoc x]
/-- the product of two rows as the program makes it -/
def prod (ns ms : List Int) : List Int := prodFrom (List.replicate (ns.length + ms.length - 1) 0) 0 ns ms
theorem ev_zeros (x : Int) : ∀ k : Nat, ev (List.replicate k 0) x = 0
  | 0 => rfl
  | k + 1 => by rw [List.replicate_succ, ev, ev_zeros x k]; simp
theorem ev_prod (x : Int) (ns ms : List Int) : ev (prod ns ms) x = ev ns x * ev ms x := by
  unfold prod
  rw [ev_prodFrom x ms ns _ _ (by rw [List.length_replicate]; omega), ev_zeros]
  simp
theorem prod_len (ns ms : List Int) : (prod ns ms).length = ns.length + ms.length - 1 := by
  unfold prod
  rw [prodFrom_len ms ns _ _ (by rw [List.length_replicate]; omega), List.length_replicate]
/-- one rule behind another -/
def comp (ns ms : List Int) : List Int := ns.reverse.foldl (fun F n => addS 1 (prod F ms) [n]) []
theorem ev_comp (x : Int) (ns ms : List Int) : ev (comp ns ms) x = ev ns (ev ms x) := by
  unfold comp
  rw [← horner (ev ms x) ns]
  have key : ∀ (l : List Int) (F : List Int) (a : Int), ev F x = a → ev (l.foldl (fun F n => addS 1 (prod F ms) [n]) F) x = l.foldl (fun a n => a * ev ms x + n) a := by
    intro l
    induction l with
    | nil => intro F a h; exact h
    | cons n l ih =>
      intro F a h
      rw [List.foldl_cons, List.foldl_cons]
      refine ih _ _ ?_
      rw [ev_addS, ev_prod, h]
      simp [ev]
  exact key _ _ _ rfl
end M

set_option Elab.async false
set_option linter.all false
set_option maxRecDepth 100000
set_option maxHeartbeats 4000000
/-! M2: rows by their values. -/
namespace M
/-- the step of f from x to x + 1 -/
def dlt (f : Int → Int) : Int → Int := fun x => f (x + 1) - f x
/-- f has degree at most d, and l stands ahead of its power d -/
def Pl : Nat → Int → (Int → Int) → Prop
  | 0, l, f => ∀ x, f x = l
  | d + 1, l, f => Pl d (((d + 1 : Nat) : Int) * l) (dlt f)
theorem pl_congr : ∀ {d : Nat} {l l' : Int} {f g : Int → Int}, Pl d l f → l = l' → (∀ x, f x = g x) → Pl d l' g
  | d, l, _, f, g, h, rfl, hf => by
    have e : f = g := funext hf
    rw [← e]
    exact h
theorem pl_add : ∀ {d : Nat} {l l' : Int} {f g : Int → Int}, Pl d l f → Pl d l' g → Pl d (l + l') fun x => f x + g x
  | 0, l, l', f, g, h, h' => fun x => by
    show f x + g x = l + l'
    rw [h x, h' x]
  | d + 1, l, l', f, g, h, h' => pl_congr (d := d) (pl_add (d := d) h h') (Int.mul_add _ _ _).symm fun x => by
    show (f (x + 1) - f x) + (g (x + 1) - g x) = (f (x + 1) + g (x + 1)) - (f x + g x)
    omega
theorem pl_shift : ∀ {d : Nat} {l : Int} {f : Int → Int}, Pl d l f → Pl d l fun x => f (x + 1)
  | 0, l, f, h => fun x => h (x + 1)
  | d + 1, l, f, h => pl_congr (d := d) (pl_shift (d := d) h) rfl fun x => rfl
theorem pl_const (n : Int) : ∀ d : Nat, Pl (d + 1) 0 fun _ => n
  | 0 => fun x => by show n - n = _; omega
  | d + 1 => pl_congr (d := d + 1) (pl_const 0 d) (by simp) fun x => by show (0 : Int) = n - n; omega
theorem pl_mulX : ∀ {d : Nat} {l : Int} {f : Int → Int}, Pl d l f → Pl (d + 1) l fun x => x * f x
  | 0, l, f, h => fun x => by
    show (x + 1) * f (x + 1) - x * f x = ((0 + 1 : Nat) : Int) * l
    rw [h (x + 1), h x, Int.add_mul]
    simp
    omega
  | d + 1, l, f, h => by
    have h1 := pl_add (d := d + 1) (pl_mulX (d := d) (l := ((d + 1 : Nat) : Int) * l) h) (pl_shift (d := d + 1) h)
    refine pl_congr (d := d + 1) h1 ?_ fun x => ?_
    · rw [show ((d + 1 + 1 : Nat) : Int) = ((d + 1 : Nat) : Int) + 1 by omega, Int.add_mul, Int.one_mul]
    · show x * (f (x + 1) - f x) + f (x + 1) = (x + 1) * f (x + 1) - x * f x
      rw [Int.mul_sub, Int.add_mul, Int.one_mul]
      omega
theorem pl_ev : ∀ (ns : List Int) (l : Int), Pl ns.length l (ev (ns ++ [l]))
  | [], l => fun x => by simp [ev]
  | n :: ns, l => by
    have h := pl_add (d := ns.length + 1) (pl_const n ns.length) (pl_mulX (pl_ev ns l))
    exact pl_congr (d := ns.length + 1) h (by omega) fun x => rfl
def itD : Nat → (Int → Int) → (Int → Int)
  | 0, f => f
  | d + 1, f => itD d (dlt f)
theorem itD_succ : ∀ (d : Nat) (f : Int → Int), itD (d + 1) f = dlt (itD d f)
  | 0, f => rfl
  | d + 1, f => itD_succ d (dlt f)
def fact : Nat → Nat
  | 0 => 1
  | d + 1 => (d + 1) * fact d
theorem fact_pos : ∀ d, 0 < fact d
  | 0 => by decide
  | d + 1 => Nat.mul_pos (Nat.succ_pos _) (fact_pos d)
theorem pl_it : ∀ {d : Nat} {l : Int} {f : Int → Int}, Pl d l f → ∀ x, itD d f x = (fact d : Int) * l
  | 0, l, f, h, x => by rw [show ((fact 0 : Nat) : Int) = 1 from rfl, Int.one_mul]; exact h x
  | d + 1, l, f, h, x => by
    show itD d (dlt f) x = _
    rw [pl_it (d := d) h x, fact, Int.natCast_mul, ← Int.mul_assoc, Int.mul_comm (fact d : Int)]
theorem it_zero : ∀ (d : Nat) (f : Int → Int) (s : Int), (∀ i : Nat, i ≤ d → f (s + i) = 0) → itD d f s = 0
  | 0, f, s, h => by
    have := h 0 (Nat.le_refl _)
    rw [show s + ((0 : Nat) : Int) = s by omega] at this
    exact this
  | d + 1, f, s, h => it_zero d (dlt f) s fun i hi => by
    show f (s + i + 1) - f (s + i) = 0
    have h1 := h i (by omega)
    have h2 := h (i + 1) (by omega)
    rw [show s + ((i + 1 : Nat) : Int) = s + i + 1 by omega] at h2
    rw [h1, h2]
    rfl
/-- a row with value 0 at so many numbers one after the other is all 0 -/
theorem ev_zero_all : ∀ (k : Nat) (ns : List Int) (s : Int), ns.length = k → (∀ i : Nat, i < ns.length → ev ns (s + i) = 0) → ∀ n ∈ ns, n = 0
  | 0, ns, s, hk, h, n, hn => by
    rw [List.length_eq_zero_iff.mp hk] at hn
    cases hn
  | k + 1, ns, s, hk, h, n, hn => by
    have hne : ns ≠ [] := fun z => by rw [z] at hk; cases hk
    have e : ns.dropLast ++ [ns.getLast hne] = ns := List.dropLast_concat_getLast hne
    generalize ns.dropLast = ms at e
    generalize ns.getLast hne = l at e
    subst e
    rw [List.length_append, List.length_singleton] at hk h
    have h1 := pl_it (pl_ev ms l) s
    rw [it_zero ms.length _ s fun i hi => h i (by omega)] at h1
    have hl : l = 0 := by
      rcases Int.mul_eq_zero.mp h1.symm with z | z
      · have := fact_pos ms.length
        omega
      · exact z
    subst hl
    have ih := ev_zero_all k ms s (by omega) fun i hi => by
      have := h i (by omega)
      rw [ev_append] at this
      simpa [ev] using this
    rcases List.mem_append.mp hn with z | z
    · exact ih n z
    · simpa using z
theorem trim_zero : ∀ {ns : List Int}, (∀ n ∈ ns, n = 0) → trim ns = []
  | [], _ => rfl
  | n :: ns, h => by
    rw [trim, if_pos ⟨trim_zero fun m hm => h m (List.mem_cons_of_mem _ hm), h n List.mem_cons_self⟩]
theorem trim_sub : ∀ (ns ms : List Int), (∀ n ∈ addS (-1) ns ms, n = 0) → trim ns = trim ms
  | ns, [], h => by
    have e : addS (-1) ns [] = ns := by cases ns <;> rfl
    rw [e] at h
    exact trim_zero h
  | [], m :: ms, h => by
    have h1 : (-1) * m = 0 := h _ List.mem_cons_self
    have h2 := trim_sub [] ms fun n hn => h n (List.mem_cons_of_mem _ hn)
    show [] = ite (trim ms = [] ∧ m = 0) _ _
    rw [if_pos ⟨h2.symm, by omega⟩]
  | n :: ns, m :: ms, h => by
    have h1 : n + (-1) * m = 0 := h _ List.mem_cons_self
    have h2 := trim_sub ns ms fun n hn => h n (List.mem_cons_of_mem _ hn)
    rw [trim, trim, h2, show n = m by omega]
/-- two rows with the same values at so many numbers one after the other -/
theorem rows_eq {ns ms : List Int} {s : Int} {k : Nat} (hn : ns.length ≤ k) (hm : ms.length ≤ k) (tn : trim ns = ns) (tm : trim ms = ms) (h : ∀ i : Nat, i < k → ev ns (s + i) = ev ms (s + i)) : ns = ms := by
  rw [← tn, ← tm]
  refine trim_sub ns ms (ev_zero_all _ _ s rfl fun i hi => ?_)
  rw [addS_len] at hi
  rw [ev_addS, h i (by omega)]
  omega
/-- the values at s, s + 1, .. -/
def vals (f : Int → Int) (s : Int) (k : Nat) : List Int := (List.range k).map fun (i : Nat) => f (s + (i : Int))
theorem vals_len (f : Int → Int) (s : Int) (k : Nat) : (vals f s k).length = k := by
  unfold vals
  rw [List.length_map, List.length_range]
theorem vals_get (f : Int → Int) (s : Int) (k i : Nat) (h : i < k) : (vals f s k)[i]? = some (f (s + (i : Int))) := by
  unfold vals
  rw [List.getElem?_map, List.getElem?_range h]
  rfl
theorem vals_eq {f g : Int → Int} {s : Int} {k : Nat} (h : vals f s k = vals g s k) (i : Nat) (hi : i < k) : f (s + (i : Int)) = g (s + (i : Int)) := by
  have h1 := vals_get f s k i hi
  rw [h, vals_get g s k i hi] at h1
  exact (Option.some.inj h1).symm
theorem rows_iff {ns ms : List Int} {s : Int} {k : Nat} (hn : ns.length ≤ k) (hm : ms.length ≤ k) (tn : trim ns = ns) (tm : trim ms = ms) : decide (vals (ev ns) s k = vals (ev ms) s k) = decide (ns = ms) := by
  by_cases h : ns = ms
  · rw [decide_eq_true h, h]
    exact decide_eq_true rfl
  · rw [decide_eq_false h]
    exact decide_eq_false fun z => h (rows_eq hn hm tn tm fun i hi => vals_eq z i hi)
/-- the bound of a value -/
def bd (g b : Nat) : Nat → Nat
  | 0 => 0
  | k + 1 => g + b * bd g b k
theorem ev_bd {g b : Nat} {x : Int} (hx : x.natAbs ≤ b) : ∀ {ns : List Int}, (∀ n ∈ ns, n.natAbs ≤ g) → (ev ns x).natAbs ≤ bd g b ns.length
  | [], _ => Nat.le_refl _
  | n :: ns, h => by
    have ih := ev_bd hx (ns := ns) fun m hm => h m (List.mem_cons_of_mem _ hm)
    rw [ev, List.length_cons, bd]
    refine Nat.le_trans (Int.natAbs_add_le _ _) (Nat.add_le_add (h n List.mem_cons_self) ?_)
    rw [Int.natAbs_mul]
    exact Nat.mul_le_mul hx ih
theorem bd_mono {g b : Nat} : ∀ {k : Nat}, bd g b k ≤ bd g b (k + 1)
  | 0 => Nat.zero_le _
  | k + 1 => Nat.add_le_add_left (Nat.mul_le_mul_left _ bd_mono) _
theorem bd_le {g b : Nat} {k l : Nat} (h : k ≤ l) : bd g b k ≤ bd g b l := by
  induction h with
  | refl => exact Nat.le_refl _
  | step _ ih => exact Nat.le_trans ih bd_mono
end M

set_option Elab.async false
set_option linter.all false
set_option maxRecDepth 100000
set_option maxHeartbeats 4000000
/-! M3: rows are what their values are; bounds of their numbers. -/
namespace M
theorem trim_ext {ns ms : List Int} (h : ∀ x, ev ns x = ev ms x) : trim ns = trim ms := by
  refine rows_eq (k := max (trim ns).length (trim ms).length) (s := 0) (Nat.le_max_left _ _) (Nat.le_max_right _ _) (trim_trim _) (trim_trim _) fun i _ => ?_
  rw [ev_trim, ev_trim, h]
theorem ev_scale (t x : Int) : ∀ ns : List Int, ev (ns.map fun n => t * n) x = t * ev ns x
  | [] => by simp [ev]
  | n :: ns => by
    rw [List.map_cons, ev, ev, ev_scale t x ns, Int.mul_add, ← Int.mul_assoc, ← Int.mul_assoc, Int.mul_comm x t]
theorem ev_neg (x : Int) : ∀ ns : List Int, ev (ns.map fun n => 0 - n) x = - ev ns x
  | [] => by simp [ev]
  | n :: ns => by
    rw [List.map_cons, ev, ev, ev_neg x ns, Int.mul_neg]
    omega
theorem ev_zero_end (ns : List Int) (x : Int) : ev (ns ++ [0]) x = ev ns x := by
  rw [ev_append]
  simp [ev]
/-! ### bounds -/
theorem mem_addS {A B : Nat} (t : Int) : ∀ {ns ms : List Int}, (∀ n ∈ ns, n.natAbs ≤ A) → (∀ m ∈ ms, (t * m).natAbs ≤ B) → ∀ x ∈ addS t ns ms, x.natAbs ≤ A + B
  | ns, [], h1, _, x, hx => by
    have e : addS t ns [] = ns := by cases ns <;> rfl
    rw [e] at hx
    have := h1 x hx
    omega
  | [], m :: ms, h1, h2, x, hx => by
    rcases List.mem_cons.mp hx with rfl | hx
    · have := h2 m List.mem_cons_self
      omega
    · exact mem_addS t (ns := []) (ms := ms) (fun _ z => nomatch z) (fun y hy => h2 y (List.mem_cons_of_mem _ hy)) x hx
  | n :: ns, m :: ms, h1, h2, x, hx => by
    rcases List.mem_cons.mp hx with rfl | hx
    · have a := h1 n List.mem_cons_self
      have b := h2 m List.mem_cons_self
      have := Int.natAbs_add_le n (t * m)
      omega
    · exact mem_addS t (fun y hy => h1 y (List.mem_cons_of_mem _ hy)) (fun y hy => h2 y (List.mem_cons_of_mem _ hy)) x hx
theorem mem_addAt {A B : Nat} {off : Nat} {k : Int} {F ms : List Int} (h1 : ∀ n ∈ F, n.natAbs ≤ A) (h2 : ∀ m ∈ ms, (k * m).natAbs ≤ B) : ∀ x ∈ addAt off k F ms, x.natAbs ≤ A + B := fun x hx => by
  rcases List.mem_append.mp hx with z | z
  · have := h1 x (List.mem_of_mem_take z)
    omega
  · exact mem_addS k (fun n hn => h1 n (List.mem_of_mem_drop hn)) h2 x z
theorem mem_prodFrom {B : Nat} {ms : List Int} : ∀ (ns F : List Int) (off A : Nat), (∀ n ∈ F, n.natAbs ≤ A) → (∀ n ∈ ns, ∀ m ∈ ms, (n * m).natAbs ≤ B) → ∀ x ∈ prodFrom F off ns ms, x.natAbs ≤ A + ns.length * B
  | [], F, off, A, h1, _, x, hx => by
    have := h1 x hx
    omega
  | n :: ns, F, off, A, h1, h2, x, hx => by
    have := mem_prodFrom ns (addAt off n F ms) (off + 1) (A + B) (mem_addAt h1 (h2 n List.mem_cons_self)) (fun y hy => h2 y (List.mem_cons_of_mem _ hy)) x hx
    rw [List.length_cons, Nat.add_mul, Nat.one_mul]
    omega
theorem mem_prod {A B : Nat} {ns ms : List Int} (h1 : ∀ n ∈ ns, n.natAbs ≤ A) (h2 : ∀ m ∈ ms, m.natAbs ≤ B) : ∀ x ∈ prod ns ms, x.natAbs ≤ ns.length * (A * B) := fun x hx => by
  have := mem_prodFrom (B := A * B) ns _ 0 0 (fun n hn => by rw [List.eq_of_mem_replicate hn]; exact Nat.le_refl _) (fun n hn m hm => by rw [Int.natAbs_mul]; exact Nat.mul_le_mul (h1 n hn) (h2 m hm)) x hx
  omega
/-- numbers of so many bits -/
def Bt (b : Nat) (ns : List Int) : Prop := ∀ n ∈ ns, n.natAbs < 2 ^ b
theorem Bt.up {a b : Nat} {ns : List Int} (h : Bt a ns) (hb : a ≤ b) : Bt b ns := fun n hn => Nat.lt_of_lt_of_le (h n hn) (Nat.pow_le_pow_right (by decide) hb)
theorem Bt.trim {b : Nat} {ns : List Int} (h : Bt b ns) : Bt b (trim ns) := fun n hn => h n (trim_mem hn)
theorem bt_add {a b : Nat} {ns ms : List Int} (h1 : Bt a ns) (h2 : Bt a ms) : Bt (a + 1) (addS 1 ns ms) := fun x hx => by
  have := mem_addS (A := 2 ^ a - 1) (B := 2 ^ a - 1) 1 (fun n hn => by have := h1 n hn; omega) (fun m hm => by have := h2 m hm; rw [Int.one_mul]; omega) x hx
  rw [Nat.pow_succ]
  have hp : 0 < 2 ^ a := Nat.pow_pos (by decide)
  omega
theorem bt_sub {a b : Nat} {ns ms : List Int} (h1 : Bt a ns) (h2 : Bt a ms) : Bt (a + 1) (addS (-1) ns ms) := fun x hx => by
  have := mem_addS (A := 2 ^ a - 1) (B := 2 ^ a - 1) (-1) (fun n hn => by have := h1 n hn; omega) (fun m hm => by have := h2 m hm; omega) x hx
  rw [Nat.pow_succ]
  have hp : 0 < 2 ^ a := Nat.pow_pos (by decide)
  omega
theorem bt_prod {a b l : Nat} {ns ms : List Int} (h1 : Bt a ns) (h2 : Bt b ms) (hl : ns.length ≤ 2 ^ l) : Bt (a + b + l) (prod ns ms) := fun x hx => by
  have hx2 := mem_prod (A := 2 ^ a - 1) (B := 2 ^ b - 1) (fun n hn => by have := h1 n hn; omega) (fun m hm => by have := h2 m hm; omega) x hx
  have pa : 0 < 2 ^ a := Nat.pow_pos (by decide)
  have pb : 0 < 2 ^ b := Nat.pow_pos (by decide)
  have pl : 0 < 2 ^ l := Nat.pow_pos (by decide)
  have h3 : (2 ^ a - 1) * (2 ^ b - 1) < 2 ^ a * 2 ^ b := Nat.lt_of_le_of_lt (Nat.mul_le_mul_left _ (Nat.sub_le _ _)) (Nat.mul_lt_mul_of_pos_right (by omega) pb)
  rw [Nat.pow_add, Nat.pow_add]
  rw [Nat.mul_comm (2 ^ a * 2 ^ b)]
  refine Nat.lt_of_le_of_lt hx2 (Nat.lt_of_le_of_lt (Nat.mul_le_mul_right _ hl) ?_)
  exact Nat.mul_lt_mul_of_pos_left h3 pl
/-- one rule behind another: the rows between -/
def compF (ms : List Int) (l : List Int) : List Int := l.foldl (fun F n => addS 1 (prod F ms) [n]) []
theorem comp_lenF (ms : List Int) {q : Nat} (hq : ms.length ≤ q + 1) (hq1 : 1 ≤ q) : ∀ (l F : List Int), (l.foldl (fun F n => addS 1 (prod F ms) [n]) F).length ≤ F.length + q * l.length
  | [], F => by simp
  | n :: l, F => by
    rw [List.foldl_cons]
    have := comp_lenF ms hq hq1 l (addS 1 (prod F ms) [n])
    rw [addS_len, prod_len] at this
    rw [List.length_cons, Nat.mul_succ]
    simp only [List.length_cons, List.length_nil] at this
    omega
theorem comp_bits {ms : List Int} {q b : Nat} (hq : ms.length ≤ q + 1) (hq1 : 1 ≤ q) (hm : Bt b ms) : ∀ (l F : List Int) (a : Nat), Bt a F → Bt b l → F.length + q * l.length ≤ 1024 → Bt (a + l.length * (b + 12)) (l.foldl (fun F n => addS 1 (prod F ms) [n]) F)
  | [], F, a, h1, _, _ => h1.up (by simp)
  | n :: l, F, a, h1, h2, hl => by
    rw [List.foldl_cons]
    rw [List.length_cons, Nat.mul_succ] at hl
    have hp : Bt (a + b + 10) (prod F ms) := bt_prod h1 hm (Nat.le_trans (show F.length ≤ 1024 by omega) (by decide))
    have hn : Bt (a + b + 10) [n] := fun x hx => by
      rw [List.mem_singleton.mp hx]
      exact Nat.lt_of_lt_of_le (h2 n List.mem_cons_self) (Nat.pow_le_pow_right (by decide) (by omega))
    have h3 := bt_add (b := 0) hp hn
    have h4 := comp_bits hq hq1 hm l (addS 1 (prod F ms) [n]) (a + b + 10 + 1) h3 (fun x hx => h2 x (List.mem_cons_of_mem _ hx)) (by
      rw [addS_len, prod_len]
      simp only [List.length_cons, List.length_nil]
      omega)
    refine h4.up ?_
    rw [List.length_cons, Nat.add_mul, Nat.one_mul]
    omega
theorem comp_len {ns ms : List Int} {q : Nat} (hq : ms.length ≤ q + 1) (hq1 : 1 ≤ q) : (comp ns ms).length ≤ q * ns.length := by
  have := comp_lenF ms hq hq1 ns.reverse []
  rw [List.length_reverse, List.length_nil] at this
  unfold comp
  omega
theorem bt_comp {ns ms : List Int} {q b : Nat} (hq : ms.length ≤ q + 1) (hq1 : 1 ≤ q) (hm : Bt b ms) (hn : Bt b ns) (hl : q * ns.length ≤ 1024) : Bt (ns.length * (b + 12)) (comp ns ms) := by
  have := comp_bits hq hq1 hm ns.reverse [] 0 (fun _ z => nomatch z) (fun x hx => hn x (List.mem_reverse.mp hx)) (by rw [List.length_reverse, List.length_nil]; omega)
  rw [List.length_reverse, Nat.zero_add] at this
  exact this
theorem Bt.nil {b : Nat} : Bt b [] := fun _ z => nomatch z
end M

set_option Elab.async false
set_option linter.all false
set_option maxRecDepth 100000
set_option maxHeartbeats 4000000
/-! P0: loops, by what stays. -/
namespace DL
open PySem L2
theorem for_inv {ok : Mu → Prop} {g : WG} {b : WS} {xs : List D} {e : EnvD} {μ : Mu} {E : WEnds} (P : Nat → EnvD → Mu → Prop) (h0 : P 0 e μ)
    (hs : ∀ i x e μ (N : EnvD → Mu → Prop), xs[i]? = some x → P i e μ → (∀ e' μ', P (i + 1) e' μ' → N e' μ') → ok μ ∧ g x e fun e1 => b e1 μ { nx := N, rt := E.rt, bk := E.nx, ct := N, xp := E.xp })
    (hd : ∀ e μ, P xs.length e μ → ok μ ∧ E.nx e μ) : goFor ok g b xs e μ E := by
  have key : ∀ (ys : List D) (i : Nat) (e : EnvD) (μ : Mu), xs.drop i = ys → i ≤ xs.length → P i e μ → goFor ok g b ys e μ E := by
    intro ys
    induction ys with
    | nil =>
      intro i e μ hy hi p
      have hl : xs.length ≤ i := List.drop_eq_nil_iff.mp hy
      have ei : i = xs.length := by omega
      subst ei
      exact hd e μ p
    | cons y ys ih =>
      intro i e μ hy hi p
      have hx : xs[i]? = some y := by
        have := List.getElem?_drop (xs := xs) (i := i) (j := 0)
        rw [hy] at this
        simpa using this.symm
      have hlt : i < xs.length := (List.getElem?_eq_some_iff.mp hx).1
      have hy2 : xs.drop (i + 1) = ys := by
        rw [← List.drop_drop, hy]
        rfl
      exact hs i y e μ (fun e2 μ2 => goFor ok g b ys e2 μ2 E) hx p fun e' μ' p' => ih (i + 1) e' μ' hy2 hlt p'
  exact key xs 0 e μ rfl (Nat.zero_le _) h0
theorem while_inv {t : WT} {b : WS} {E : WEnds} (P : Nat → EnvD → Mu → Prop)
    (hs : ∀ k e μ (N : EnvD → Mu → Prop), P k e μ → (∀ j e' μ', j < k → P j e' μ' → N e' μ') →
      t e μ (fun c μ1 => if c = true then b e μ1 { nx := N, rt := E.rt, bk := E.nx, ct := N, xp := E.xp } else E.nx e μ1) fun d μ1 => E.xp d e μ1) :
    ∀ (n k : Nat) (e : EnvD) (μ : Mu), k < n → P k e μ → goWhile t b n e μ E
  | 0, k, _, _, h, _ => absurd h (Nat.not_lt_zero k)
  | n + 1, k, e, μ, h, p => hs k e μ (fun e2 μ2 => goWhile t b n e2 μ2 E) p fun j e' μ' hj p' => while_inv P hs n j e' μ' (by omega) p'
theorem lc_inv {ok : Mu → Prop} {g : WG} {t : WT} {a : WE} {e : EnvD} {X : QD} {xs : List D} {μ : Mu} {Q : List D → Mu → Prop} (P : Nat → List D → Mu → Prop) (h0 : P 0 [] μ)
    (hs : ∀ i x acc μ (N : List D → Mu → Prop), xs[i]? = some x → P i acc μ → (∀ acc' μ', P (i + 1) acc' μ' → N acc' μ') → ok μ ∧ g x e fun e1 => t e1 μ (fun c μ1 => if c = true then a e1 μ1 (fun d μ2 => N (acc ++ [d]) μ2) X else N acc μ1) X)
    (hd : ∀ acc μ, P xs.length acc μ → ok μ ∧ Q acc μ) : goLc ok g t a e X xs [] μ Q := by
  have key : ∀ (ys : List D) (i : Nat) (acc : List D) (μ : Mu), xs.drop i = ys → i ≤ xs.length → P i acc μ → goLc ok g t a e X ys acc μ Q := by
    intro ys
    induction ys with
    | nil =>
      intro i acc μ hy hi p
      have hl : xs.length ≤ i := List.drop_eq_nil_iff.mp hy
      have ei : i = xs.length := by omega
      subst ei
      exact hd acc μ p
    | cons y ys ih =>
      intro i acc μ hy hi p
      have hx : xs[i]? = some y := by
        have := List.getElem?_drop (xs := xs) (i := i) (j := 0)
        rw [hy] at this
        simpa using this.symm
      have hlt : i < xs.length := (List.getElem?_eq_some_iff.mp hx).1
      have hy2 : xs.drop (i + 1) = ys := by
        rw [← List.drop_drop, hy]
        rfl
      exact hs i y acc μ (fun acc' μ2 => goLc ok g t a e X ys acc' μ2 Q) hx p fun acc' μ' p' => ih (i + 1) acc' μ' hy2 hlt p'
  exact key xs 0 [] μ rfl (Nat.zero_le _) h0
theorem atI0 {α : Type} (a : α) (l : List α) : atI (a :: l) 0 = some a := by
  unfold atI ixN
  rw [if_pos (by decide), if_pos (by show (0 : Int) < ((l.length + 1 : Nat) : Int); omega)]
  rfl
theorem atI1 {α : Type} (a b : α) (l : List α) : atI (a :: b :: l) 1 = some b := by
  unfold atI ixN
  rw [if_pos (by decide), if_pos (by show (1 : Int) < ((l.length + 1 + 1 : Nat) : Int); omega)]
  rfl
theorem atI2 {α : Type} (a b c : α) (l : List α) : atI (a :: b :: c :: l) 2 = some c := by
  unfold atI ixN
  rw [if_pos (by decide), if_pos (by show (2 : Int) < ((l.length + 1 + 1 + 1 : Nat) : Int); omega)]
  rfl
theorem atI3 {α : Type} (a b c d : α) (l : List α) : atI (a :: b :: c :: d :: l) 3 = some d := by
  unfold atI ixN
  rw [if_pos (by decide), if_pos (by show (3 : Int) < ((l.length + 1 + 1 + 1 + 1 : Nat) : Int); omega)]
  rfl
theorem atI4 {α : Type} (a b c d e : α) (l : List α) : atI (a :: b :: c :: d :: e :: l) 4 = some e := by
  unfold atI ixN
  rw [if_pos (by decide), if_pos (by show (4 : Int) < ((l.length + 1 + 1 + 1 + 1 + 1 : Nat) : Int); omega)]
  rfl
theorem ixN20 : ixN (0 + 1 + 1) 0 = some 0 := rfl
theorem ixN21 : ixN (0 + 1 + 1) 1 = some 1 := rfl
end DL

set_option Elab.async false
set_option linter.all false
set_option maxRecDepth 100000
set_option maxHeartbeats 4000000
/-! P1: what the defs of rules come to, plainly. -/
namespace DL
open PySem L2
def wp_is_list : WP := (wDef 1 1 (wRet (wCb false cbIsi (waCons (wV 0) (waCons (wTup (waCons (wK (.ty "list")) (waCons (wK (.ty "tuple")) waNil))) waNil)))))
def wp_is_number : WP := (wDef 1 1 (wRet (wAnd (wCb false cbIsi (waCons (wV 0) (waCons (wK (.ty "int")) waNil))) (wNot (wCb false cbIsi (waCons (wV 0) (waCons (wK (.ty "bool")) waNil)))))))
def wp_is_from : WP := (wDef 2 2 (wRet (wAnd (wCall wp_is_number [] (waCons (wV 0) waNil)) (wOp false oGe (wV 0) (wV 1)))))
def numD : D → Bool
  | .int _ => true
  | _ => false
def listD (μ : Mu) (d : D) : Bool := (match tyD μ d with
  | some (.b "list") => true
  | some (.b "tuple") => true
  | _ => false)
section
variable {μ : Mu} {Q X : QD} {d : D}
theorem ty_num {t : TyD} (h : tyD μ d = some t) : isi1 t (.ty "int") = some (numD d || (match d with | .bool _ => true | _ => false)) ∧ isi1 t (.ty "bool") = some (match d with | .bool _ => true | _ => false) := by
  cases d with
  | cell p =>
    simp only [tyD] at h
    cases e : μ p with
    | none => rw [e] at h; cases h
    | some nd =>
      rw [e] at h
      cases nd <;> (cases h; constructor <;> rfl)
  | obj n fs ds => cases h; exact ⟨rfl, rfl⟩
  | err n fs ds => cases h; exact ⟨rfl, rfl⟩
  | _ => first | (cases h; exact ⟨rfl, rfl⟩) | cases h
theorem ok_is_number {t : TyD} (h : tyD μ d = some t) (q : Q (.bool (numD d)) μ) : wp_is_number [d] μ Q X := by
  obtain ⟨h1, h2⟩ := ty_num h
  unfold wp_is_number
  simp only [wDef, initE, wSeq, wNext, wAsg, wAsgG, wDrop, wRet, wRetN, wIfS, wPar, wAug, wSetL, wBreak, wCont, wgN, wgNil, wgCons, wgTup, wiSeq, wiRng1, wiRng2, wiEnum, wFor, wLc, wYes, wV, wK, wOp, wUn, wTup, wLst, wCb, wTst, wNotT, wAndT, wOrT, wIf, wAnd, wOr, wNot, waNil, waCons, waStar, wCall, wMeth, wProp, wFld, wSetF, wMake, wCallI, wRev, wSl, woNone, woSome, wLm, wRz, wRzA, wFz, wCaught, wErrF, wDict0, wLrng, gt, st, sett, one, two, int1, atI0, atI1, atI2, atI3, atI4, ixN20, ixN21, List.map_cons, List.map_nil, List.cons_append, List.nil_append, List.append_nil, List.length_cons, List.length_nil, List.replicate_succ, List.replicate_zero, Nat.add_one_sub_one]
  refine ⟨trivial, ?_⟩
  simp only [cbIsi, two, h, isiD, h1, h2, sett]
  cases d <;> simp_all [numD]
theorem ok_is_list {t : TyD} (h : tyD μ d = some t) (q : Q (.bool (listD μ d)) μ) : wp_is_list [d] μ Q X := by
  unfold wp_is_list
  simp only [wDef, initE, wSeq, wNext, wAsg, wAsgG, wDrop, wRet, wRetN, wIfS, wPar, wAug, wSetL, wBreak, wCont, wgN, wgNil, wgCons, wgTup, wiSeq, wiRng1, wiRng2, wiEnum, wFor, wLc, wYes, wV, wK, wOp, wUn, wTup, wLst, wCb, wTst, wNotT, wAndT, wOrT, wIf, wAnd, wOr, wNot, waNil, waCons, waStar, wCall, wMeth, wProp, wFld, wSetF, wMake, wCallI, wRev, wSl, woNone, woSome, wLm, wRz, wRzA, wFz, wCaught, wErrF, wDict0, wLrng, gt, st, sett, one, two, int1, atI0, atI1, atI2, atI3, atI4, ixN20, ixN21, List.map_cons, List.map_nil, List.cons_append, List.nil_append, List.append_nil, List.length_cons, List.length_nil, List.replicate_succ, List.replicate_zero, Nat.add_one_sub_one]
  refine ⟨trivial, by decide, ?_⟩
  simp only [cbIsi, two, h, isiD, sett]
  have e : isiN t [.ty "list", .ty "tuple"] = some (listD μ d) := by
    unfold listD
    rw [h]
    cases d with
    | cell p =>
      simp only [tyD] at h
      cases e : μ p with
      | none => rw [e] at h; cases h
      | some nd =>
        rw [e] at h
        cases nd <;> (cases h; rfl)
    | obj n fs ds => cases h; rfl
    | err n fs ds => cases h; rfl
    | _ => first | (cases h; rfl) | cases h
  rw [e]
  exact q
def fromD (l : Int) : D → Bool
  | .int i => decide (l ≤ i)
  | _ => false
theorem ok_is_from {t : TyD} {l : Int} (h : tyD μ d = some t) (q : Q (.bool (fromD l d)) μ) : wp_is_from [d, .int l] μ Q X := by
  unfold wp_is_from
  simp only [wDef, initE, wSeq, wNext, wAsg, wAsgG, wDrop, wRet, wRetN, wIfS, wPar, wAug, wSetL, wBreak, wCont, wgN, wgNil, wgCons, wgTup, wiSeq, wiRng1, wiRng2, wiEnum, wFor, wLc, wYes, wV, wK, wOp, wUn, wTup, wLst, wCb, wTst, wNotT, wAndT, wOrT, wIf, wAnd, wOr, wNot, waNil, waCons, waStar, wCall, wMeth, wProp, wFld, wSetF, wMake, wCallI, wRev, wSl, woNone, woSome, wLm, wRz, wRzA, wFz, wCaught, wErrF, wDict0, wLrng, gt, st, sett, one, two, int1, atI0, atI1, atI2, atI3, atI4, ixN20, ixN21, List.map_cons, List.map_nil, List.cons_append, List.nil_append, List.append_nil, List.length_cons, List.length_nil, List.replicate_succ, List.replicate_zero, Nat.add_one_sub_one]
  refine ⟨trivial, ok_is_number h ?_⟩
  cases d <;> simp_all [numD, fromD, oGe, oInt2, sett]
/-! ### sequences, however they stand -/
section
variable {QQ : QR} {ds : List D}
theorem len_sq (h : sqD μ d = some ds) : cbLen [d] μ QQ X = QQ (.v (.int ds.length)) μ := by
  cases d <;> simp_all [cbLen, one, sqD]
theorem ix_sq {i : Int} {x : D} (h : sqD μ d = some ds) (hi : atI ds i = some x) : oIx d (.int i) μ QQ X = QQ (.v x) μ := by
  cases d <;> simp_all [oIx, sqD]
theorem list_sq (h : sqD μ d = some ds) : cbList [d] μ QQ X = QQ (.n (.list ds)) μ := by simp [cbList, one, h]
theorem tup_sq (h : sqD μ d = some ds) : cbTup [d] μ QQ X = QQ (.v (.tup ds)) μ := by simp [cbTup, one, h]
/-- a slice, made a tuple -/
theorem sl_tup {lo hi : Option Int} {Q : QD} (h : sqD μ d = some ds) (hs : ∀ ns, d ≠ .script ns) (q : Q (.tup (cutD ds lo hi)) μ) : oSl d lo hi μ (sett false fun x μ1 => cbTup [x] μ1 (sett false Q) X) X := by
  cases d <;> simp_all [oSl, sqD, seqL, sett, cbTup, one, Nd.frz]
theorem atI_nat {α : Type} (xs : List α) (i : Nat) (h : i < xs.length) : atI xs (i : Int) = some xs[i] := by
  have e : ixN xs.length (i : Int) = some i := by
    unfold ixN
    simp [h]
  unfold atI
  rw [e]
  simp [h]
end
/-! ### rows -/
def wp_without_end : WP := (wDef 1 2 (wSeq (wAsg 1 (wCb false cbLen (waCons (wV 0) waNil)))
    (wSeq (wWhile (wAndT (wTst (wOp false oGt (wV 1) (wK (.int 0)))) (wTst (wOp false oEq (wOp false oIx (wV 0) (wOp false oSub (wV 1) (wK (.int 1)))) (wK (.int 0))))) (wAug 1 (fun i j => i - j) (wK (.int 1))))
    (wRet (wCb false cbTup (waCons (wSl false oSl (wV 0) woNone (woSome (wV 1))) waNil))))))
theorem iL_get (ns : List Int) (i : Nat) : (iL ns)[i]? = (ns[i]?).map D.int := by
  unfold iL
  rw [List.getElem?_map]
theorem iL_len (ns : List Int) : (iL ns).length = ns.length := by
  unfold iL
  rw [List.length_map]
theorem trim_take {ns : List Int} {k : Nat} (hk : k < ns.length) (h : ns[k]? = some 0) : M.trim (ns.take (k + 1)) = M.trim (ns.take k) := by
  have e : ns.take (k + 1) = ns.take k ++ [0] := by
    rw [List.take_succ, h]
    rfl
  rw [e, M.trim_append_zero]
theorem ok_without_end {ns : List Int} (h : sqD μ d = some (iL ns)) (hs : ∀ ns, d ≠ .script ns) (hl : ns.length ≤ 2 ^ 20) (q : Q (.tup (iL (M.trim ns))) μ) : wp_without_end [d] μ Q X := by
  unfold wp_without_end
  simp only [wDef, initE, wSeq, wNext, wAsg, wAsgG, wDrop, wRet, wRetN, wIfS, wPar, wAug, wSetL, wBreak, wCont, wgN, wgNil, wgCons, wgTup, wiSeq, wiRng1, wiRng2, wiEnum, wFor, wLc, wYes, wV, wK, wOp, wUn, wTup, wLst, wCb, wTst, wNotT, wAndT, wOrT, wIf, wAnd, wOr, wNot, waNil, waCons, waStar, wCall, wMeth, wProp, wFld, wSetF, wMake, wCallI, wRev, wSl, woNone, woSome, wLm, wRz, wRzA, wFz, wCaught, wErrF, wDict0, wLrng, gt, st, sett, one, two, int1, atI0, atI1, atI2, atI3, atI4, ixN20, ixN21, List.map_cons, List.map_nil, List.cons_append, List.nil_append, List.append_nil, List.length_cons, List.length_nil, List.replicate_succ, List.replicate_zero, Nat.add_one_sub_one]
  refine ⟨trivial, ?_⟩
  simp only [len_sq h, sett, wWhile, iL_len]
  refine ⟨ns.length + 1, by omega, while_inv (fun k e μ' => e = [some d, some (.int (k : Int))] ∧ μ' = μ ∧ k ≤ ns.length ∧ M.trim (ns.take k) = M.trim ns) ?_ _ _ _ _ (Nat.lt_succ_self _) ⟨rfl, rfl, Nat.le_refl _, by rw [List.take_length]⟩⟩
  rintro k e μ' N ⟨rfl, rfl, hk, ht⟩ hN
  simp only [wDef, initE, wSeq, wNext, wAsg, wAsgG, wDrop, wRet, wRetN, wIfS, wPar, wAug, wSetL, wBreak, wCont, wgN, wgNil, wgCons, wgTup, wiSeq, wiRng1, wiRng2, wiEnum, wFor, wLc, wYes, wV, wK, wOp, wUn, wTup, wLst, wCb, wTst, wNotT, wAndT, wOrT, wIf, wAnd, wOr, wNot, waNil, waCons, waStar, wCall, wMeth, wProp, wFld, wSetF, wMake, wCallI, wRev, wSl, woNone, woSome, wLm, wRz, wRzA, wFz, wCaught, wErrF, wDict0, wLrng, gt, st, sett, one, two, int1, atI0, atI1, atI2, atI3, atI4, ixN20, ixN21, List.map_cons, List.map_nil, List.cons_append, List.nil_append, List.append_nil, List.length_cons, List.length_nil, List.replicate_succ, List.replicate_zero, Nat.add_one_sub_one, oGt, oInt2, true_and]
  by_cases h0 : k = 0
  · subst h0
    have e0 : M.trim ns = [] := by rw [← ht]; rfl
    rw [if_neg (by decide), if_neg (by decide)]
    refine sl_tup h hs ?_
    have e : cutD (iL ns) none (some ((0 : Nat) : Int)) = iL (M.trim ns) := by
      rw [e0]
      unfold cutD
      rw [HT.sIx_nat, HT.sIx_none]
      simp [iL]
    rw [e]
    exact q
  · have hk1 : (0 : Int) < (k : Int) := by omega
    rw [if_pos (decide_eq_true hk1)]
    simp only [oSub, oInt2, true_and, sett]
    have e1 : ((k : Int) - 1) = ((k - 1 : Nat) : Int) := by omega
    have hlt : k - 1 < (iL ns).length := by rw [iL_len]; omega
    have hlt2 : k - 1 < ns.length := by omega
    rw [e1, ix_sq h (atI_nat (iL ns) (k - 1) hlt)]
    have e2 : (iL ns)[k - 1] = D.int ns[k - 1] := by simp [iL]
    rw [e2]
    simp only [sett, oEq, eqU]
    by_cases hz : ns[k - 1] = 0
    · rw [if_pos (decide_eq_true hz)]
      refine hN (k - 1) _ _ (by omega) ⟨rfl, rfl, by omega, ?_⟩
      have h3 := trim_take hlt2 (by rw [List.getElem?_eq_getElem hlt2, hz])
      rw [show k - 1 + 1 = k by omega] at h3
      rw [← h3]
      exact ht
    · rw [if_neg (by simp [hz])]
      refine sl_tup h hs ?_
      have e : cutD (iL ns) none (some ((k : Nat) : Int)) = iL (M.trim ns) := by
        have et : M.trim (ns.take k) = ns.take k := M.trim_self _ fun hne => by
          rw [List.getLast_take]
          simp [hz, List.getElem?_eq_getElem hlt2]
        rw [← ht, et]
        unfold cutD
        rw [HT.sIx_nat, HT.sIx_none]
        simp [iL, List.map_take, Nat.min_eq_left hk]
      rw [e]
      exact q
/-! ### rules -/
def wp_Rule___init__ : WP := (wDef 2 4 (wSeq (wIfS (wNotT (wTst (wCall wp_is_list [] (waCons (wV 1) waNil)))) (wRzA "BadRule" "at" (wK .none)) wNext)
    (wSeq (wFor (wiEnum (waCons (wV 1) waNil)) (wgTup 2 (wgCons (wgN 2) (wgCons (wgN 3) wgNil))) (wIfS (wNotT (wTst (wCall wp_is_number [] (waCons (wV 3) waNil)))) (wRzA "BadRule" "at" (wV 2)) wNext))
    (wSetF "Rule" "own_numbers" (wV 0) (wCall wp_without_end [] (waCons (wV 1) waNil))))))
def wp_Rule___getitem__ : WP := (wDef 2 2 (wSeq (wIfS (wNotT (wTst (wCall wp_is_from [] (waCons (wV 1) (waCons (wK (.int 0)) waNil))))) (wRz "BadPower") wNext)
    (wRet (wIf (wTst (wOp false oLt (wV 1) (wCb false cbLen (waCons (wFld "Rule" "own_numbers" (wV 0)) waNil)))) (wOp false oIx (wFld "Rule" "own_numbers" (wV 0)) (wV 1)) (wK (.int 0))))))
def wp_row_value : WP := (wDef 2 4 (wSeq (wAsg 2 (wK (.int 0)))
    (wSeq (wFor (wiSeq (wRev false (wV 0))) (wgN 3) (wAsg 2 (wOp false oAdd (wOp false oMul (wV 2) (wV 1)) (wV 3))))
    (wRet (wV 2)))))
def wp_Rule___call__ : WP := (wDef 2 2 (wRet (wCall wp_row_value [] (waCons (wFld "Rule" "own_numbers" (wV 0)) (waCons (wV 1) waNil)))))
def wp_Rule_term : WP := (wDef 2 2 (wSeq (wIfS (wNotT (wTst (wCall wp_is_from [] (waCons (wV 1) (waCons (wK (.int 0)) waNil))))) (wRz "BadPower") wNext)
    (wRet (wMake false "Rule" wp_Rule___init__ [] (waCons (wLst false (waStar (wOp false oMul (wLst false (waCons (wK (.int 0)) waNil)) (wV 1)) (waCons (wV 0) waNil))) waNil)))))
def wp_Rule___eq__ : WP := (wDef 2 2 (wRet (wAnd (wCb false cbIsi (waCons (wV 1) (waCons (wK (.cls "Rule")) waNil))) (wOp false oEq (wFld "Rule" "own_numbers" (wV 0)) (wFld "Rule" "own_numbers" (wV 1))))))
def wp_Rule_coefficients : WP := (wDef 1 1 (wRet (wFld "Rule" "own_numbers" (wV 0))))
def wp_Rule_degree : WP := (wDef 1 1 (wRet (wOp false oSub (wCb false cbLen (waCons (wFld "Rule" "own_numbers" (wV 0)) waNil)) (wK (.int 1)))))
def ruleD (ns : List Int) : D := .obj "Rule" ["own_numbers"] [.tup (iL ns)]
theorem sq_up {p : Addr} {nd : Nd} {ds : List D} (h : sqD μ d = some ds) (hp : μ p = Option.none) : sqD (up μ p nd) d = some ds := by
  cases d with
  | cell a =>
    have ne : a ≠ p := fun z => by
      subst z
      simp [sqD, hp, ndL] at h
    simp only [sqD] at h ⊢
    rw [up_ne ne]
    exact h
  | _ => exact h
theorem ty_sq {ds : List D} (h : sqD μ d = some ds) (hs : ∀ ns, d ≠ .script ns) : ∃ t, tyD μ d = some t ∧ listD μ d = true := by
  cases d with
  | cell a =>
    simp only [sqD] at h
    have e := ndL_some h
    refine ⟨.b "list", ?_, ?_⟩ <;> simp [listD, tyD, ndTy, e]
  | tup ds => exact ⟨_, rfl, rfl⟩
  | list ds => exact ⟨_, rfl, rfl⟩
  | script ns => exact absurd rfl (hs ns)
  | _ => simp [sqD] at h
theorem okS_sq {ds : List D} (h : sqD μ d = some ds) : okS d ds μ := by
  cases d <;> first | trivial | exact h
theorem enum_iL {ns : List Int} {i : Nat} {x : D} (h : (enumD 0 (iL ns))[i]? = some x) : ∃ n, ns[i]? = some n ∧ x = .tup [.int (i : Int), .int n] := by
  rw [enumD_get, iL_get] at h
  cases e : ns[i]? with
  | none => rw [e] at h; cases h
  | some n =>
    rw [e] at h
    cases h
    exact ⟨n, rfl, by simp⟩
theorem ok_Rule_init {p : Addr} {ns : List Int} (h : sqD μ d = some (iL ns)) (hs : ∀ ns, d ≠ .script ns) (hp : μ p = Option.none) (hl : ns.length ≤ 2 ^ 20)
    (q : Q .none (up μ p (.obj "Rule" ["own_numbers"] [.tup (iL (M.trim ns))]))) : wp_Rule___init__ [.cell p, d] (up μ p (.obj "Rule" [] [])) Q X := by
  have h1 := sq_up (nd := .obj "Rule" [] []) h hp
  obtain ⟨t, h2, h3⟩ := ty_sq h1 hs
  unfold wp_Rule___init__
  simp only [wDef, initE, wSeq, wNext, wAsg, wAsgG, wDrop, wRet, wRetN, wIfS, wPar, wAug, wSetL, wBreak, wCont, wgN, wgNil, wgCons, wgTup, wiSeq, wiRng1, wiRng2, wiEnum, wFor, wLc, wYes, wV, wK, wOp, wUn, wTup, wLst, wCb, wTst, wNotT, wAndT, wOrT, wIf, wAnd, wOr, wNot, waNil, waCons, waStar, wCall, wMeth, wProp, wFld, wSetF, wMake, wCallI, wRev, wSl, woNone, woSome, wLm, wRz, wRzA, wFz, wCaught, wErrF, wDict0, wLrng, gt, st, sett, one, two, int1, atI0, atI1, atI2, atI3, atI4, ixN20, ixN21, List.map_cons, List.map_nil, List.cons_append, List.nil_append, List.append_nil, List.length_cons, List.length_nil, List.replicate_succ, List.replicate_zero, Nat.add_one_sub_one]
  refine ⟨trivial, ok_is_list h2 ?_⟩
  rw [h3]
  simp only [Bool.not_true, if_neg Bool.false_ne_true, h1]
  refine ⟨by rw [enumD_len, iL_len]; omega, for_inv (fun i e μ' => μ' = up μ p (.obj "Rule" [] []) ∧ ∃ a b, e = [some (.cell p), some d, a, b]) ⟨rfl, _, _, rfl⟩ ?_ ?_⟩
  · rintro i x e μ' N hx ⟨rfl, a, b, rfl⟩ hN
    obtain ⟨n, hn, rfl⟩ := enum_iL hx
    refine ⟨okS_sq h1, ?_⟩
    simp only [wDef, initE, wSeq, wNext, wAsg, wAsgG, wDrop, wRet, wRetN, wIfS, wPar, wAug, wSetL, wBreak, wCont, wgN, wgNil, wgCons, wgTup, wiSeq, wiRng1, wiRng2, wiEnum, wFor, wLc, wYes, wV, wK, wOp, wUn, wTup, wLst, wCb, wTst, wNotT, wAndT, wOrT, wIf, wAnd, wOr, wNot, waNil, waCons, waStar, wCall, wMeth, wProp, wFld, wSetF, wMake, wCallI, wRev, wSl, woNone, woSome, wLm, wRz, wRzA, wFz, wCaught, wErrF, wDict0, wLrng, gt, st, sett, one, two, int1, atI0, atI1, atI2, atI3, atI4, ixN20, ixN21, List.map_cons, List.map_nil, List.cons_append, List.nil_append, List.append_nil, List.length_cons, List.length_nil, List.replicate_succ, List.replicate_zero, Nat.add_one_sub_one]
    refine ⟨trivial, ok_is_number (t := .b "int") rfl ?_⟩
    exact hN _ _ ⟨rfl, _, _, rfl⟩
  · rintro e μ' ⟨rfl, a, b, rfl⟩
    refine ⟨okS_sq h1, ?_⟩
    simp only [wDef, initE, wSeq, wNext, wAsg, wAsgG, wDrop, wRet, wRetN, wIfS, wPar, wAug, wSetL, wBreak, wCont, wgN, wgNil, wgCons, wgTup, wiSeq, wiRng1, wiRng2, wiEnum, wFor, wLc, wYes, wV, wK, wOp, wUn, wTup, wLst, wCb, wTst, wNotT, wAndT, wOrT, wIf, wAnd, wOr, wNot, waNil, waCons, waStar, wCall, wMeth, wProp, wFld, wSetF, wMake, wCallI, wRev, wSl, woNone, woSome, wLm, wRz, wRzA, wFz, wCaught, wErrF, wDict0, wLrng, gt, st, sett, one, two, int1, atI0, atI1, atI2, atI3, atI4, ixN20, ixN21, List.map_cons, List.map_nil, List.cons_append, List.nil_append, List.append_nil, List.length_cons, List.length_nil, List.replicate_succ, List.replicate_zero, Nat.add_one_sub_one]
    refine ok_without_end h1 hs hl ?_
    simp only [up_same, ndO, putN, up_up]
    exact ⟨trivial, by decide, q⟩
/-- Rule(..) -/
theorem mk_Rule {Q X : QD} {ns : List Int} (h : sqD μ d = some (iL ns)) (hs : ∀ ns, d ≠ .script ns) (hl : ns.length ≤ 2 ^ 20) (q : Q (ruleD (M.trim ns)) μ) (p : Addr) (hp : μ p = Option.none) :
    wp_Rule___init__ [.cell p, d] (up μ p (.obj "Rule" [] [])) (fun r μ2 => r = .none ∧ (match μ2 p with
      | some nd => Q nd.frz (del μ2 p)
      | Option.none => False)) X := by
  refine ok_Rule_init h hs hp hl ⟨rfl, ?_⟩
  rw [up_same]
  show Q _ (del (up μ p _) p)
  rw [del_up hp]
  exact q
theorem ok_Rule_getitem {ns : List Int} {t : TyD} (h : tyD μ d = some t) (q : ∀ i : Nat, d = .int (i : Int) → Q (.int (ns.getD i 0)) μ) (x : fromD 0 d = false → X (.err "BadPower" [] []) μ) : wp_Rule___getitem__ [ruleD ns, d] μ Q X := by
  unfold wp_Rule___getitem__
  simp only [wDef, initE, wSeq, wNext, wAsg, wAsgG, wDrop, wRet, wRetN, wIfS, wPar, wAug, wSetL, wBreak, wCont, wgN, wgNil, wgCons, wgTup, wiSeq, wiRng1, wiRng2, wiEnum, wFor, wLc, wYes, wV, wK, wOp, wUn, wTup, wLst, wCb, wTst, wNotT, wAndT, wOrT, wIf, wAnd, wOr, wNot, waNil, waCons, waStar, wCall, wMeth, wProp, wFld, wSetF, wMake, wCallI, wRev, wSl, woNone, woSome, wLm, wRz, wRzA, wFz, wCaught, wErrF, wDict0, wLrng, gt, st, sett, one, two, int1, atI0, atI1, atI2, atI3, atI4, ixN20, ixN21, List.map_cons, List.map_nil, List.cons_append, List.nil_append, List.append_nil, List.length_cons, List.length_nil, List.replicate_succ, List.replicate_zero, Nat.add_one_sub_one]
  refine ⟨trivial, ok_is_from h ?_⟩
  cases hf : fromD 0 d with
  | false => exact x hf
  | true =>
    cases d <;> try (cases hf; done)
    rename_i i
    have hi : 0 ≤ i := of_decide_eq_true hf
    obtain ⟨j, rfl⟩ := Int.eq_ofNat_of_zero_le hi
    have q1 := q j rfl
    simp only [Bool.not_true, if_neg Bool.false_ne_true, ruleD, asObj, fldD, if_true, true_and, cbLen, one, sqD, sett, iL_len, oLt, oInt2]
    by_cases hj : (j : Int) < (ns.length : Int)
    · have hj2 : j < (iL ns).length := by rw [iL_len]; omega
      rw [if_pos (decide_eq_true hj), ix_sq (ds := iL ns) rfl (atI_nat _ j hj2)]
      have e : (iL ns)[j] = D.int (ns.getD j 0) := by
        have : j < ns.length := by omega
        simp [iL, List.getD, this]
      rw [e]
      exact q1
    · rw [if_neg (by simp; omega)]
      have e : ns.getD j 0 = 0 := by
        simp [List.getD]
        rw [List.getElem?_eq_none (by omega)]
        rfl
      rw [e] at q1
      exact q1
end
end DL

set_option Elab.async false
set_option linter.all false
set_option maxRecDepth 100000
set_option maxHeartbeats 4000000
/-! P2: rules at numbers, terms, equality. -/
namespace DL
open PySem L2
theorem ev_bits {b : Nat} {t : Int} (ht : t.natAbs < 2 ^ b) : ∀ {ns : List Int}, (∀ n ∈ ns, n.natAbs < 2 ^ b) → (M.ev ns t).natAbs < 2 ^ ((b + 1) * ns.length)
  | [], _ => by simp [M.ev]
  | n :: ns, h => by
    have ih := ev_bits ht (ns := ns) fun m hm => h m (List.mem_cons_of_mem _ hm)
    have hn := h n List.mem_cons_self
    have e : M.ev (n :: ns) t = n + t * M.ev ns t := rfl
    rw [e, List.length_cons, Nat.mul_add, Nat.mul_one, Nat.pow_add, Nat.pow_succ]
    have h1 := Int.natAbs_add_le n (t * M.ev ns t)
    rw [Int.natAbs_mul] at h1
    have h2 : t.natAbs * (M.ev ns t).natAbs ≤ 2 ^ b * 2 ^ ((b + 1) * ns.length) := Nat.mul_le_mul (Nat.le_of_lt ht) (Nat.le_of_lt ih)
    have h3 : 2 ^ b ≤ 2 ^ b * 2 ^ ((b + 1) * ns.length) := Nat.le_mul_of_pos_right _ (Nat.pow_pos (by decide))
    have h4 : 2 ^ ((b + 1) * ns.length) * (2 ^ b * 2) = 2 ^ b * 2 ^ ((b + 1) * ns.length) + 2 ^ b * 2 ^ ((b + 1) * ns.length) := by
      rw [Nat.mul_comm (2 ^ b) (2 ^ ((b + 1) * ns.length)), ← Nat.mul_assoc]
      omega
    omega
theorem mulU_of {i j : Int} {a b : Nat} (ha : i.natAbs < 2 ^ a) (hb : j.natAbs < 2 ^ b) (h : a + b ≤ 900000) : CMulU i j :=
  .inl (wide_mul (a := a + 1) (b := b + 1) (Nat.lt_of_lt_of_le ha (Nat.pow_le_pow_right (by decide) (Nat.le_succ _))) (Nat.lt_of_lt_of_le hb (Nat.pow_le_pow_right (by decide) (Nat.le_succ _))) (Nat.succ_pos _) (Nat.succ_pos _) (by omega))
section
variable {μ : Mu} {Q X : QD} {d : D}
theorem rev_get {ns : List Int} {i : Nat} {x : D} (h : (iL ns).reverse[i]? = some x) : ∃ n, ns.reverse[i]? = some n ∧ x = .int n := by
  unfold iL at h
  rw [← List.map_reverse, List.getElem?_map] at h
  cases e : ns.reverse[i]? with
  | none => rw [e] at h; cases h
  | some n => rw [e] at h; cases h; exact ⟨n, rfl, rfl⟩
theorem zeros_iL (j : Nat) : (List.replicate (j : Int).toNat [D.int 0]).flatten = iL (List.replicate j 0) := by
  rw [Int.toNat_natCast]
  unfold iL
  rw [List.map_replicate, List.flatten_replicate_singleton]
theorem iL_snoc (ns : List Int) (n : Int) : iL ns ++ [D.int n] = iL (ns ++ [n]) := by
  unfold iL
  rw [List.map_append]
  rfl
/-- the value of the last i numbers -/
def evR (ns : List Int) (t : Int) (i : Nat) : Int := M.ev ((ns.reverse.take i).reverse) t
theorem evR_succ {ns : List Int} {t n : Int} {i : Nat} (h : ns.reverse[i]? = some n) : evR ns t (i + 1) = evR ns t i * t + n := by
  unfold evR
  rw [List.take_succ, h]
  show M.ev ((ns.reverse.take i ++ [n]).reverse) t = _
  rw [List.reverse_append]
  show n + t * M.ev (ns.reverse.take i).reverse t = _
  rw [Int.mul_comm t, Int.add_comm]
theorem evR_all (ns : List Int) (t : Int) : evR ns t ns.length = M.ev ns t := by
  unfold evR
  rw [show ns.length = ns.reverse.length from (List.length_reverse).symm, List.take_length, List.reverse_reverse]
theorem evR_bits {ns : List Int} {t : Int} {b : Nat} (hn : ∀ n ∈ ns, n.natAbs < 2 ^ b) (ht : t.natAbs < 2 ^ b) (i : Nat) : (evR ns t i).natAbs < 2 ^ ((b + 1) * ns.length) := by
  have h := ev_bits ht (ns := (ns.reverse.take i).reverse) fun n h => hn n (by simpa using List.mem_of_mem_take (List.mem_reverse.mp h))
  refine Nat.lt_of_lt_of_le h (Nat.pow_le_pow_right (by decide) (Nat.mul_le_mul_left _ ?_))
  rw [List.length_reverse, List.length_take, List.length_reverse]
  exact Nat.min_le_right _ _
/-- the loop of both defs that tell a value -/
theorem horner_loop {ns : List Int} {t : Int} {b : Nat} {ok : Mu → Prop} {E : WEnds} {d0 : D} {a : Option D} (hn : ∀ n ∈ ns, n.natAbs < 2 ^ b) (ht : t.natAbs < 2 ^ b) (hb : (b + 1) * ns.length + b ≤ 900000) (hok : ok μ)
    (q : ∀ x, E.nx [some d0, some (.int t), some (.int (M.ev ns t)), x] μ) : goFor ok (wgN 3) (wAsg 2 (wOp false oAdd (wOp false oMul (wV 2) (wV 1)) (wV 3))) (iL ns).reverse [some d0, some (.int t), some (.int 0), a] μ E := by
  refine for_inv (fun i e μ' => μ' = μ ∧ ∃ x, e = [some d0, some (.int t), some (.int (evR ns t i)), x]) ⟨rfl, _, rfl⟩ ?_ ?_
  · rintro i x e μ' N hx ⟨rfl, y, rfl⟩ hN
    obtain ⟨n, hn1, rfl⟩ := rev_get hx
    refine ⟨hok, ?_⟩
    simp only [wDef, initE, wSeq, wNext, wAsg, wAsgG, wDrop, wRet, wRetN, wIfS, wPar, wAug, wSetL, wBreak, wCont, wgN, wgNil, wgCons, wgTup, wiSeq, wiRng1, wiRng2, wiEnum, wFor, wLc, wYes, wV, wK, wOp, wUn, wTup, wLst, wCb, wTst, wNotT, wAndT, wOrT, wIf, wAnd, wOr, wNot, waNil, waCons, waStar, wCall, wMeth, wProp, wFld, wSetF, wMake, wCallI, wRev, wSl, woNone, woSome, wLm, wRz, wRzA, wFz, wCaught, wErrF, wDict0, wLrng, gt, st, sett, one, two, int1, atI0, atI1, atI2, atI3, atI4, ixN20, ixN21, List.map_cons, List.map_nil, List.cons_append, List.nil_append, List.append_nil, List.length_cons, List.length_nil, List.replicate_succ, List.replicate_zero, Nat.add_one_sub_one, oMul, oAdd]
    refine ⟨mulU_of (evR_bits hn ht i) ht hb, ?_⟩
    rw [← evR_succ hn1]
    exact hN _ _ ⟨rfl, _, rfl⟩
  · rintro e μ' ⟨rfl, y, rfl⟩
    refine ⟨hok, ?_⟩
    rw [List.length_reverse, iL_len, evR_all]
    exact q y
theorem ok_row_value {ns : List Int} {t : Int} {b : Nat} (hn : ∀ n ∈ ns, n.natAbs < 2 ^ b) (ht : t.natAbs < 2 ^ b) (hl : ns.length ≤ 2 ^ 20) (hb : (b + 1) * ns.length + b ≤ 900000) (q : Q (.int (M.ev ns t)) μ) : wp_row_value [.tup (iL ns), .int t] μ Q X := by
  unfold wp_row_value
  simp only [wDef, initE, wSeq, wAsg, wK, wFor, wiSeq, wRev, wV, gt, st, sqD, List.map_cons, List.map_nil, List.cons_append, List.nil_append, List.length_cons, List.length_nil, List.replicate_succ, List.replicate_zero, Nat.add_one_sub_one]
  refine ⟨trivial, by rw [List.length_reverse, iL_len]; omega, horner_loop hn ht hb trivial fun x => ?_⟩
  simp only [wDef, initE, wSeq, wNext, wAsg, wAsgG, wDrop, wRet, wRetN, wIfS, wPar, wAug, wSetL, wBreak, wCont, wgN, wgNil, wgCons, wgTup, wiSeq, wiRng1, wiRng2, wiEnum, wFor, wLc, wYes, wV, wK, wOp, wUn, wTup, wLst, wCb, wTst, wNotT, wAndT, wOrT, wIf, wAnd, wOr, wNot, waNil, waCons, waStar, wCall, wMeth, wProp, wFld, wSetF, wMake, wCallI, wRev, wSl, woNone, woSome, wLm, wRz, wRzA, wFz, wCaught, wErrF, wDict0, wLrng, gt, st, sett, one, two, int1, atI0, atI1, atI2, atI3, atI4, ixN20, ixN21, List.map_cons, List.map_nil, List.cons_append, List.nil_append, List.append_nil, List.length_cons, List.length_nil, List.replicate_succ, List.replicate_zero, Nat.add_one_sub_one]
  exact q
theorem ok_Rule_call {ns : List Int} {t : Int} {b : Nat} (hn : ∀ n ∈ ns, n.natAbs < 2 ^ b) (ht : t.natAbs < 2 ^ b) (hl : ns.length ≤ 2 ^ 20) (hb : (b + 1) * ns.length + b ≤ 900000) (q : Q (.int (M.ev ns t)) μ) : wp_Rule___call__ [ruleD ns, .int t] μ Q X := by
  unfold wp_Rule___call__
  simp only [wDef, initE, wSeq, wNext, wAsg, wAsgG, wDrop, wRet, wRetN, wIfS, wPar, wAug, wSetL, wBreak, wCont, wgN, wgNil, wgCons, wgTup, wiSeq, wiRng1, wiRng2, wiEnum, wFor, wLc, wYes, wV, wK, wOp, wUn, wTup, wLst, wCb, wTst, wNotT, wAndT, wOrT, wIf, wAnd, wOr, wNot, waNil, waCons, waStar, wCall, wMeth, wProp, wFld, wSetF, wMake, wCallI, wRev, wSl, woNone, woSome, wLm, wRz, wRzA, wFz, wCaught, wErrF, wDict0, wLrng, gt, st, sett, one, two, int1, atI0, atI1, atI2, atI3, atI4, ixN20, ixN21, List.map_cons, List.map_nil, List.cons_append, List.nil_append, List.append_nil, List.length_cons, List.length_nil, List.replicate_succ, List.replicate_zero, Nat.add_one_sub_one, ruleD, asObj, fldD, if_true, true_and]
  exact ok_row_value hn ht hl hb q
theorem ok_Rule_coefficients {ns : List Int} (q : Q (.tup (iL ns)) μ) : wp_Rule_coefficients [ruleD ns] μ Q X := by
  unfold wp_Rule_coefficients
  simp only [wDef, initE, wSeq, wNext, wAsg, wAsgG, wDrop, wRet, wRetN, wIfS, wPar, wAug, wSetL, wBreak, wCont, wgN, wgNil, wgCons, wgTup, wiSeq, wiRng1, wiRng2, wiEnum, wFor, wLc, wYes, wV, wK, wOp, wUn, wTup, wLst, wCb, wTst, wNotT, wAndT, wOrT, wIf, wAnd, wOr, wNot, waNil, waCons, waStar, wCall, wMeth, wProp, wFld, wSetF, wMake, wCallI, wRev, wSl, woNone, woSome, wLm, wRz, wRzA, wFz, wCaught, wErrF, wDict0, wLrng, gt, st, sett, one, two, int1, atI0, atI1, atI2, atI3, atI4, ixN20, ixN21, List.map_cons, List.map_nil, List.cons_append, List.nil_append, List.append_nil, List.length_cons, List.length_nil, List.replicate_succ, List.replicate_zero, Nat.add_one_sub_one, ruleD, asObj, fldD, if_true, true_and]
  exact q
theorem ok_Rule_degree {ns : List Int} (q : Q (.int ((ns.length : Int) - 1)) μ) : wp_Rule_degree [ruleD ns] μ Q X := by
  unfold wp_Rule_degree
  simp only [wDef, initE, wSeq, wNext, wAsg, wAsgG, wDrop, wRet, wRetN, wIfS, wPar, wAug, wSetL, wBreak, wCont, wgN, wgNil, wgCons, wgTup, wiSeq, wiRng1, wiRng2, wiEnum, wFor, wLc, wYes, wV, wK, wOp, wUn, wTup, wLst, wCb, wTst, wNotT, wAndT, wOrT, wIf, wAnd, wOr, wNot, waNil, waCons, waStar, wCall, wMeth, wProp, wFld, wSetF, wMake, wCallI, wRev, wSl, woNone, woSome, wLm, wRz, wRzA, wFz, wCaught, wErrF, wDict0, wLrng, gt, st, sett, one, two, int1, atI0, atI1, atI2, atI3, atI4, ixN20, ixN21, List.map_cons, List.map_nil, List.cons_append, List.nil_append, List.append_nil, List.length_cons, List.length_nil, List.replicate_succ, List.replicate_zero, Nat.add_one_sub_one, ruleD, asObj, fldD, if_true, true_and, cbLen, sqD, oSub, oInt2, iL_len]
  exact q
theorem ok_Rule_term {n : Int} {t : TyD} (h : tyD μ d = some t) (q : ∀ i : Nat, d = .int (i : Int) → i ≤ 2 ^ 19 ∧ Q (ruleD (M.trim (List.replicate i 0 ++ [n]))) μ) (x : fromD 0 d = false → X (.err "BadPower" [] []) μ) : wp_Rule_term [.int n, d] μ Q X := by
  unfold wp_Rule_term
  simp only [wDef, initE, wSeq, wNext, wAsg, wAsgG, wDrop, wRet, wRetN, wIfS, wPar, wAug, wSetL, wBreak, wCont, wgN, wgNil, wgCons, wgTup, wiSeq, wiRng1, wiRng2, wiEnum, wFor, wLc, wYes, wV, wK, wOp, wUn, wTup, wLst, wCb, wTst, wNotT, wAndT, wOrT, wIf, wAnd, wOr, wNot, waNil, waCons, waStar, wCall, wMeth, wProp, wFld, wSetF, wMake, wCallI, wRev, wSl, woNone, woSome, wLm, wRz, wRzA, wFz, wCaught, wErrF, wDict0, wLrng, gt, st, sett, one, two, int1, atI0, atI1, atI2, atI3, atI4, ixN20, ixN21, List.map_cons, List.map_nil, List.cons_append, List.nil_append, List.append_nil, List.length_cons, List.length_nil, List.replicate_succ, List.replicate_zero, Nat.add_one_sub_one]
  refine ⟨trivial, ok_is_from h ?_⟩
  cases hf : fromD 0 d with
  | false => exact x hf
  | true =>
    cases d <;> try (cases hf; done)
    rename_i i
    have hi : 0 ≤ i := of_decide_eq_true hf
    obtain ⟨j, rfl⟩ := Int.eq_ofNat_of_zero_le hi
    obtain ⟨hj, q1⟩ := q j rfl
    simp only [Bool.not_true, if_neg Bool.false_ne_true, oMul, seqL, Nd.frz, sett, sqD, zeros_iL, iL_snoc, iL_len, List.length_append, List.length_replicate, List.length_cons, List.length_nil]
    refine ⟨by decide, by omega, by omega, by rw [sizeLine_eq]; omega, by rw [sizeLine_eq]; omega, fun p hp => ?_⟩
    exact mk_Rule (Q := Q) rfl (fun _ z => by cases z) (by rw [List.length_append, List.length_replicate]; show j + 1 ≤ 2 ^ 20; omega) q1 p hp
theorem eq_tups (ns ms : List Int) (Q : Bool → Prop) (q : Q (decide (ns = ms))) : eqG (.tup (iL ns)) (.tup (iL ms)) Q := by
  have e1 : ∀ l : List Int, plainD (.tup (iL l)) = true := fun l => plains_ints l
  refine ⟨⟨e1 ns, e1 ms, shaped_intsT ns, shaped_intsT ms⟩, ?_⟩
  have e : PyData.eqv (pd (.tup (iL ns))) (pd (.tup (iL ms))) = decide (ns = ms) := by
    show PyData.eqv (.tuple (pds (iL ns))) (.tuple (pds (iL ms))) = _
    unfold iL
    rw [pds_ints, pds_ints, PyData.eqv, eqvAll_ints]
  rw [e]
  exact q
/-- a thing that is no rule, of a known kind -/
def noRule (μ : Mu) (d : D) : Prop := ∃ t, tyD μ d = some t ∧ isi1 t (.cls "Rule") = some false
theorem ok_Rule_eq {ns ms : List Int} (q : Q (.bool (decide (ns = ms))) μ) : wp_Rule___eq__ [ruleD ns, ruleD ms] μ Q X := by
  unfold wp_Rule___eq__
  simp only [wDef, initE, wSeq, wNext, wAsg, wAsgG, wDrop, wRet, wRetN, wIfS, wPar, wAug, wSetL, wBreak, wCont, wgN, wgNil, wgCons, wgTup, wiSeq, wiRng1, wiRng2, wiEnum, wFor, wLc, wYes, wV, wK, wOp, wUn, wTup, wLst, wCb, wTst, wNotT, wAndT, wOrT, wIf, wAnd, wOr, wNot, waNil, waCons, waStar, wCall, wMeth, wProp, wFld, wSetF, wMake, wCallI, wRev, wSl, woNone, woSome, wLm, wRz, wRzA, wFz, wCaught, wErrF, wDict0, wLrng, gt, st, sett, one, two, int1, atI0, atI1, atI2, atI3, atI4, ixN20, ixN21, List.map_cons, List.map_nil, List.cons_append, List.nil_append, List.append_nil, List.length_cons, List.length_nil, List.replicate_succ, List.replicate_zero, Nat.add_one_sub_one, ruleD, asObj, fldD, if_true, true_and, cbIsi, tyD, isiD]
  have e : isi1 (.o "Rule") (.cls "Rule") = some true := by decide
  rw [e]
  show oEq (.tup (iL ns)) (.tup (iL ms)) μ (sett false Q) X
  unfold oEq eqU
  exact eq_tups ns ms _ q
theorem ok_Rule_eq_no {ns : List Int} (h : noRule μ d) (q : Q (.bool false) μ) : wp_Rule___eq__ [ruleD ns, d] μ Q X := by
  obtain ⟨t, h1, h2⟩ := h
  have h3 : isiD t (.cls "Rule") = some false := h2
  unfold wp_Rule___eq__
  simp only [wDef, initE, wSeq, wNext, wAsg, wAsgG, wDrop, wRet, wRetN, wIfS, wPar, wAug, wSetL, wBreak, wCont, wgN, wgNil, wgCons, wgTup, wiSeq, wiRng1, wiRng2, wiEnum, wFor, wLc, wYes, wV, wK, wOp, wUn, wTup, wLst, wCb, wTst, wNotT, wAndT, wOrT, wIf, wAnd, wOr, wNot, waNil, waCons, waStar, wCall, wMeth, wProp, wFld, wSetF, wMake, wCallI, wRev, wSl, woNone, woSome, wLm, wRz, wRzA, wFz, wCaught, wErrF, wDict0, wLrng, gt, st, sett, one, two, int1, atI0, atI1, atI2, atI3, atI4, ixN20, ixN21, List.map_cons, List.map_nil, List.cons_append, List.nil_append, List.append_nil, List.length_cons, List.length_nil, List.replicate_succ, List.replicate_zero, Nat.add_one_sub_one, cbIsi, h1, h3, true_and]
  exact q
end
end DL

set_option Elab.async false
set_option linter.all false
set_option maxRecDepth 100000
set_option maxHeartbeats 4000000
/-! P3: the laws' own helpers: draws, rows. -/
namespace DL
open PySem L2
def wp_law_pick : WP := (wDef 2 2 (wRet (wOp false oIx (wV 1) (wCall wp_law_take [] (waCons (wV 0) (waCons (wCb false cbLen (waCons (wV 1) waNil)) waNil))))))
def wp_law_number : WP := (wDef 2 3 (wSeq (wAsg 2 (wCall wp_law_pick [] (waCons (wV 0) (waCons (wLst false (waCons (wK (.int 0)) (waCons (wK (.int 1)) (waCons (wK (.int 1)) (waCons (wK (.int 2)) (waCons (wK (.int 3)) (waCons (wCall wp_law_take [] (waCons (wV 0) (waCons (wOp false oAdd (wV 1) (wK (.int 1))) waNil))) waNil))))))) waNil))))
    (wRet (wCall wp_law_pick [] (waCons (wV 0) (waCons (wLst false (waCons (wCb false cbMin2 (waCons (wV 2) (waCons (wV 1) waNil))) (waCons (wOp false oSub (wK (.int 0)) (wCb false cbMin2 (waCons (wV 2) (waCons (wV 1) waNil)))) waNil))) waNil))))))
def wp_law_trimmed : WP := (wDef 1 2 (wSeq (wAsg 1 (wCb true cbList (waCons (wV 0) waNil)))
    (wSeq (wWhile (wAndT (wTst (wOp false oNe (wV 1) (wLst false waNil))) (wTst (wOp false oEq (wOp false oIx (wV 1) (wUn false oNeg (wK (.int 1)))) (wK (.int 0))))) (wDrop (wLm false mPop (wV 1) waNil)))
    (wFz 1 (wRet (wV 1))))))
def wp_law_rule : WP := (wDef 3 4 (wRet (wCall wp_law_trimmed [] (waCons (wLc false (wiRng1 (waCons (wCall wp_law_take [] (waCons (wV 0) (waCons (wOp false oAdd (wV 1) (wK (.int 2))) waNil))) waNil)) (wgN 3) wYes (wCall wp_law_number [] (waCons (wV 0) (waCons (wV 2) waNil))) [3]) waNil))))
def wp_law_rule_at : WP := (wDef 2 4 (wSeq (wAsg 2 (wK (.int 0)))
    (wSeq (wFor (wiSeq (wRev false (wV 0))) (wgN 3) (wAsg 2 (wOp false oAdd (wOp false oMul (wV 2) (wV 1)) (wV 3))))
    (wRet (wV 2)))))
section
variable {μ : Mu} {Q X : QD} {d : D}
theorem log_le {m : Int} (h : m.natAbs < 2 ^ 9000) : m.natAbs.log2 < 9000 := by
  by_cases h0 : m.natAbs = 0
  · rw [h0]
    decide
  · exact (Nat.log2_lt h0).mpr h
theorem ok_take {m : Int} (h0 : 0 < m) (h1 : m.natAbs < 2 ^ 9000) (q : ∀ i : Int, 0 ≤ i → i < m → Q (.int i) μ) : wp_law_take [.state, .int m] μ Q X := ⟨⟨h0, log_le h1⟩, q⟩
theorem ok_pick {ds : List D} (h : sqD μ d = some ds) (h0 : ds ≠ []) (h1 : ds.length ≤ 2 ^ 60) (q : ∀ x ∈ ds, Q x μ) : wp_law_pick [.state, d] μ Q X := by
  unfold wp_law_pick
  simp only [wDef, initE, wSeq, wNext, wAsg, wAsgG, wDrop, wRet, wRetN, wIfS, wPar, wAug, wSetL, wBreak, wCont, wgN, wgNil, wgCons, wgTup, wiSeq, wiRng1, wiRng2, wiEnum, wFor, wLc, wYes, wV, wK, wOp, wUn, wTup, wLst, wCb, wTst, wNotT, wAndT, wOrT, wIf, wAnd, wOr, wNot, waNil, waCons, waStar, wCall, wMeth, wProp, wFld, wSetF, wMake, wCallI, wRev, wSl, woNone, woSome, wLm, wRz, wRzA, wFz, wCaught, wErrF, wDict0, wLrng, gt, st, sett, one, two, int1, atI0, atI1, atI2, atI3, atI4, ixN20, ixN21, List.map_cons, List.map_nil, List.cons_append, List.nil_append, List.append_nil, List.length_cons, List.length_nil, List.replicate_succ, List.replicate_zero, Nat.add_one_sub_one, true_and, len_sq h]
  have hp : 0 < ds.length := List.length_pos_iff.mpr h0
  refine ok_take (by omega) ?_ fun i h2 h3 => ?_
  · rw [Int.natAbs_natCast]
    exact Nat.lt_of_le_of_lt h1 (Nat.pow_lt_pow_right (by decide) (by decide))
  · obtain ⟨j, rfl⟩ := Int.eq_ofNat_of_zero_le h2
    have hj : j < ds.length := by omega
    rw [ix_sq h (atI_nat ds j hj)]
    exact q _ (List.getElem_mem hj)
theorem ok_number {g : Int} (h0 : 0 ≤ g) (h1 : g < 2 ^ 62) (q : ∀ i : Int, i.natAbs ≤ g.natAbs → Q (.int i) μ) : wp_law_number [.state, .int g] μ Q X := by
  unfold wp_law_number
  simp only [wDef, initE, wSeq, wNext, wAsg, wAsgG, wDrop, wRet, wRetN, wIfS, wPar, wAug, wSetL, wBreak, wCont, wgN, wgNil, wgCons, wgTup, wiSeq, wiRng1, wiRng2, wiEnum, wFor, wLc, wYes, wV, wK, wOp, wUn, wTup, wLst, wCb, wTst, wNotT, wAndT, wOrT, wIf, wAnd, wOr, wNot, waNil, waCons, waStar, wCall, wMeth, wProp, wFld, wSetF, wMake, wCallI, wRev, wSl, woNone, woSome, wLm, wRz, wRzA, wFz, wCaught, wErrF, wDict0, wLrng, gt, st, sett, one, two, int1, atI0, atI1, atI2, atI3, atI4, ixN20, ixN21, List.map_cons, List.map_nil, List.cons_append, List.nil_append, List.append_nil, List.length_cons, List.length_nil, List.replicate_succ, List.replicate_zero, Nat.add_one_sub_one, true_and, oAdd]
  refine ok_take (by omega) (Nat.lt_of_lt_of_le (by omega : (g + 1).natAbs < 2 ^ 63) (Nat.pow_le_pow_right (by decide) (by decide))) fun i h2 h3 => ?_
  refine ⟨by decide, ok_pick rfl (fun z => by cases z) (by simp) fun x hx => ?_⟩
  have hx2 : ∃ s : Int, x = .int s ∧ 0 ≤ s := by
    simp only [Nd.frz, List.mem_cons, List.not_mem_nil, or_false] at hx
    rcases hx with rfl | rfl | rfl | rfl | rfl | rfl
    · exact ⟨0, rfl, by decide⟩
    · exact ⟨1, rfl, by decide⟩
    · exact ⟨1, rfl, by decide⟩
    · exact ⟨2, rfl, by decide⟩
    · exact ⟨3, rfl, by decide⟩
    · exact ⟨i, rfl, h2⟩
  obtain ⟨s, rfl, hs⟩ := hx2
  simp only [cbMin2, wDef, initE, wSeq, wNext, wAsg, wAsgG, wDrop, wRet, wRetN, wIfS, wPar, wAug, wSetL, wBreak, wCont, wgN, wgNil, wgCons, wgTup, wiSeq, wiRng1, wiRng2, wiEnum, wFor, wLc, wYes, wV, wK, wOp, wUn, wTup, wLst, wCb, wTst, wNotT, wAndT, wOrT, wIf, wAnd, wOr, wNot, waNil, waCons, waStar, wCall, wMeth, wProp, wFld, wSetF, wMake, wCallI, wRev, wSl, woNone, woSome, wLm, wRz, wRzA, wFz, wCaught, wErrF, wDict0, wLrng, gt, st, sett, one, two, int1, atI0, atI1, atI2, atI3, atI4, ixN20, ixN21, List.map_cons, List.map_nil, List.cons_append, List.nil_append, List.append_nil, List.length_cons, List.length_nil, List.replicate_succ, List.replicate_zero, Nat.add_one_sub_one, oSub, oInt2, true_and]
  refine ⟨by decide, ok_pick rfl (fun z => by cases z) (by simp) fun x hx => ?_⟩
  simp only [Nd.frz, List.mem_cons, List.not_mem_nil, or_false] at hx
  rcases hx with rfl | rfl
  · refine q _ ?_
    split <;> omega
  · refine q _ ?_
    split <;> omega
theorem eq_lists (ns ms : List Int) (Q : Bool → Prop) (q : Q (decide (ns = ms))) : eqG (.list (iL ns)) (.list (iL ms)) Q := by
  have e1 : ∀ l : List Int, plainD (.list (iL l)) = true := fun l => plains_ints l
  refine ⟨⟨e1 ns, e1 ms, shaped_ints ns, shaped_ints ms⟩, ?_⟩
  have e : PyData.eqv (pd (.list (iL ns))) (pd (.list (iL ms))) = decide (ns = ms) := by
    show PyData.eqv (.list (pds (iL ns))) (.list (pds (iL ms))) = _
    unfold iL
    rw [pds_ints, pds_ints, PyData.eqv, eqvAll_ints]
  rw [e]
  exact q
theorem ok_trimmed {ns : List Int} (h : sqD μ d = some (iL ns)) (hl : ns.length ≤ 2 ^ 20) (q : Q (.list (iL (M.trim ns))) μ) : wp_law_trimmed [d] μ Q X := by
  unfold wp_law_trimmed
  simp only [wDef, initE, wSeq, wNext, wAsg, wAsgG, wDrop, wRet, wRetN, wIfS, wPar, wAug, wSetL, wBreak, wCont, wgN, wgNil, wgCons, wgTup, wiSeq, wiRng1, wiRng2, wiEnum, wFor, wLc, wYes, wV, wK, wOp, wUn, wTup, wLst, wCb, wTst, wNotT, wAndT, wOrT, wIf, wAnd, wOr, wNot, waNil, waCons, waStar, wCall, wMeth, wProp, wFld, wSetF, wMake, wCallI, wRev, wSl, woNone, woSome, wLm, wRz, wRzA, wFz, wCaught, wErrF, wDict0, wLrng, gt, st, sett, one, two, int1, atI0, atI1, atI2, atI3, atI4, ixN20, ixN21, List.map_cons, List.map_nil, List.cons_append, List.nil_append, List.append_nil, List.length_cons, List.length_nil, List.replicate_succ, List.replicate_zero, Nat.add_one_sub_one, true_and, list_sq h]
  intro p hp
  simp only [wWhile]
  refine ⟨ns.length + 1, by omega, while_inv (fun k e μ' => e = [some d, some (.cell p)] ∧ μ' = up μ p (.list (iL (ns.take k))) ∧ k ≤ ns.length ∧ M.trim (ns.take k) = M.trim ns) ?_ _ _ _ _ (Nat.lt_succ_self _) ⟨rfl, by rw [List.take_length], Nat.le_refl _, by rw [List.take_length]⟩⟩
  rintro k e μ' N ⟨rfl, rfl, hk, ht⟩ hN
  have eq1 : drf (up μ p (.list (iL (ns.take k)))) (.cell p) = .list (iL (ns.take k)) := by simp [drf, up_same, ndL]
  have sq1 : sqD (up μ p (.list (iL (ns.take k)))) (.cell p) = some (iL (ns.take k)) := by simp [sqD, up_same, ndL]
  have fin : M.trim (ns.take k) = ns.take k → Q (Nd.frz (.list (iL (ns.take k)))) (del (up μ p (.list (iL (ns.take k)))) p) := fun e => by
    rw [del_up hp, ← e, ht]
    exact q
  simp only [wDef, initE, wSeq, wNext, wAsg, wAsgG, wDrop, wRet, wRetN, wIfS, wPar, wAug, wSetL, wBreak, wCont, wgN, wgNil, wgCons, wgTup, wiSeq, wiRng1, wiRng2, wiEnum, wFor, wLc, wYes, wV, wK, wOp, wUn, wTup, wLst, wCb, wTst, wNotT, wAndT, wOrT, wIf, wAnd, wOr, wNot, waNil, waCons, waStar, wCall, wMeth, wProp, wFld, wSetF, wMake, wCallI, wRev, wSl, woNone, woSome, wLm, wRz, wRzA, wFz, wCaught, wErrF, wDict0, wLrng, gt, st, sett, one, two, int1, atI0, atI1, atI2, atI3, atI4, ixN20, ixN21, List.map_cons, List.map_nil, List.cons_append, List.nil_append, List.append_nil, List.length_cons, List.length_nil, List.replicate_succ, List.replicate_zero, Nat.add_one_sub_one, true_and, oNe, eqU, eq1]
  refine ⟨Nat.zero_le _, eq_lists (ns.take k) [] _ ?_⟩
  by_cases h0 : k = 0
  · subst h0
    simp only [List.take_zero, decide_true, Bool.not_true, if_neg Bool.false_ne_true, up_same]
    exact fin rfl
  · have hlt : k - 1 < ns.length := by omega
    have ne : ns.take k ≠ [] := fun z => by
      have := congrArg List.length z
      rw [List.length_take, List.length_nil] at this
      omega
    have hlen : (iL (ns.take k)).length = k := by rw [iL_len, List.length_take]; omega
    rw [if_pos (by simp [ne])]
    have e1 : atI (iL (ns.take k)) (-1) = some (.int ns[k - 1]) := by
      have e2 : ixN (iL (ns.take k)).length (-1) = some (k - 1) := by
        rw [hlen]
        unfold ixN
        rw [if_neg (by decide), if_pos (by omega)]
        congr 1
        omega
      unfold atI
      rw [e2]
      show (iL (ns.take k))[k - 1]? = _
      rw [iL_get, List.getElem?_take, if_pos (by omega), List.getElem?_eq_getElem hlt]
      rfl
    simp only [oNeg, wDef, initE, wSeq, wNext, wAsg, wAsgG, wDrop, wRet, wRetN, wIfS, wPar, wAug, wSetL, wBreak, wCont, wgN, wgNil, wgCons, wgTup, wiSeq, wiRng1, wiRng2, wiEnum, wFor, wLc, wYes, wV, wK, wOp, wUn, wTup, wLst, wCb, wTst, wNotT, wAndT, wOrT, wIf, wAnd, wOr, wNot, waNil, waCons, waStar, wCall, wMeth, wProp, wFld, wSetF, wMake, wCallI, wRev, wSl, woNone, woSome, wLm, wRz, wRzA, wFz, wCaught, wErrF, wDict0, wLrng, gt, st, sett, one, two, int1, atI0, atI1, atI2, atI3, atI4, ixN20, ixN21, List.map_cons, List.map_nil, List.cons_append, List.nil_append, List.append_nil, List.length_cons, List.length_nil, List.replicate_succ, List.replicate_zero, Nat.add_one_sub_one, oEq, eqU]
    rw [show (-1 : Int) = -1 from rfl, ix_sq sq1 e1]
    simp only [sett, eqU]
    by_cases hz : ns[k - 1] = 0
    · rw [if_pos (decide_eq_true hz)]
      have el : (iL (ns.take k))[(iL (ns.take k)).length - 1]? = some (.int ns[k - 1]) := by
        rw [hlen, iL_get, List.getElem?_take, if_pos (by omega), List.getElem?_eq_getElem hlt]
        rfl
      have ed : (iL (ns.take k)).dropLast = iL (ns.take (k - 1)) := by
        rw [List.dropLast_eq_take, hlen]
        unfold iL
        rw [List.map_take, List.map_take, List.take_take]
        congr 1
        omega
      refine ⟨by simp [isL, seqL, up_same, ndL], rfl, ?_⟩
      simp only [lstC, up_same, ndL, el, ed, sett, up_up]
      refine hN (k - 1) _ _ (by omega) ⟨rfl, rfl, by omega, ?_⟩
      have h3 := trim_take hlt (by rw [List.getElem?_eq_getElem hlt, hz])
      rw [show k - 1 + 1 = k by omega] at h3
      rw [← h3]
      exact ht
    · rw [if_neg (by simp [hz])]
      simp only [up_same]
      refine fin (M.trim_self _ fun hne => ?_)
      rw [List.getLast_take]
      simp [hz, List.getElem?_eq_getElem hlt]
theorem ok_law_rule {m g : Int} (hm : 0 ≤ m) (hm2 : m ≤ 1000) (h0 : 0 ≤ g) (h1 : g < 2 ^ 62) (q : ∀ ns : List Int, M.trim ns = ns → (ns.length : Int) ≤ m + 1 → (∀ n ∈ ns, n.natAbs ≤ g.natAbs) → Q (.list (iL ns)) μ) : wp_law_rule [.state, .int m, .int g] μ Q X := by
  unfold wp_law_rule
  simp only [wDef, initE, wSeq, wNext, wAsg, wAsgG, wDrop, wRet, wRetN, wIfS, wPar, wAug, wSetL, wBreak, wCont, wgN, wgNil, wgCons, wgTup, wiSeq, wiRng1, wiRng2, wiEnum, wFor, wLc, wYes, wV, wK, wOp, wUn, wTup, wLst, wCb, wTst, wNotT, wAndT, wOrT, wIf, wAnd, wOr, wNot, waNil, waCons, waStar, wCall, wMeth, wProp, wFld, wSetF, wMake, wCallI, wRev, wSl, woNone, woSome, wLm, wRz, wRzA, wFz, wCaught, wErrF, wDict0, wLrng, gt, st, sett, one, two, int1, atI0, atI1, atI2, atI3, atI4, ixN20, ixN21, List.map_cons, List.map_nil, List.cons_append, List.nil_append, List.append_nil, List.length_cons, List.length_nil, List.replicate_succ, List.replicate_zero, Nat.add_one_sub_one, true_and, oAdd]
  refine ok_take (by omega) (Nat.lt_of_lt_of_le (by omega : (m + 2).natAbs < 2 ^ 63) (Nat.pow_le_pow_right (by decide) (by decide))) fun i h2 h3 => ?_
  refine ⟨⟨by omega, by omega⟩, ?_⟩
  have hl : (rangeD 0 i.toNat).length = i.toNat := rangeD_len _ _
  refine ⟨by rw [hl, sizeLine_eq]; omega, lc_inv (fun k acc μ' => μ' = μ ∧ ∃ ns : List Int, acc = iL ns ∧ ns.length = k ∧ ∀ n ∈ ns, n.natAbs ≤ g.natAbs) ⟨rfl, [], rfl, rfl, fun _ z => nomatch z⟩ ?_ ?_⟩
  · rintro k x acc μ' N hx ⟨rfl, ns, rfl, hk, hn⟩ hN
    refine ⟨trivial, ?_⟩
    show wp_law_number [.state, .int g] μ' (fun d μ2 => N (iL ns ++ [d]) μ2) (fun _ _ => False)
    refine ok_number h0 h1 fun j hj => ?_
    refine hN _ _ ⟨rfl, ns ++ [j], iL_snoc ns j, by rw [List.length_append, hk]; rfl, fun n hm => ?_⟩
    rcases List.mem_append.mp hm with z | z
    · exact hn n z
    · rw [List.mem_singleton.mp z]
      exact hj
  · rintro acc μ' ⟨rfl, ns, rfl, hk, hn⟩
    rw [hl] at hk
    refine ⟨trivial, ok_trimmed (ns := ns) rfl (by omega) (q _ (M.trim_trim ns) ?_ fun n hm => hn n (M.trim_mem hm))⟩
    have := M.trim_len ns
    omega
theorem ok_rule_at {ns : List Int} {t : Int} {b : Nat} (hn : ∀ n ∈ ns, n.natAbs < 2 ^ b) (ht : t.natAbs < 2 ^ b) (hl : ns.length ≤ 2 ^ 20) (hb : (b + 1) * ns.length + b ≤ 900000) (q : Q (.int (M.ev ns t)) μ) : wp_law_rule_at [.list (iL ns), .int t] μ Q X := by
  unfold wp_law_rule_at
  simp only [wDef, initE, wSeq, wAsg, wK, wFor, wiSeq, wRev, wV, gt, st, sqD, seqL, sett, Nd.frz, List.map_cons, List.map_nil, List.cons_append, List.nil_append, List.length_cons, List.length_nil, List.replicate_succ, List.replicate_zero, Nat.add_one_sub_one]
  refine ⟨trivial, by rw [List.length_reverse, iL_len]; omega, horner_loop hn ht hb trivial fun x => ?_⟩
  simp only [wDef, initE, wSeq, wNext, wAsg, wAsgG, wDrop, wRet, wRetN, wIfS, wPar, wAug, wSetL, wBreak, wCont, wgN, wgNil, wgCons, wgTup, wiSeq, wiRng1, wiRng2, wiEnum, wFor, wLc, wYes, wV, wK, wOp, wUn, wTup, wLst, wCb, wTst, wNotT, wAndT, wOrT, wIf, wAnd, wOr, wNot, waNil, waCons, waStar, wCall, wMeth, wProp, wFld, wSetF, wMake, wCallI, wRev, wSl, woNone, woSome, wLm, wRz, wRzA, wFz, wCaught, wErrF, wDict0, wLrng, gt, st, sett, one, two, int1, atI0, atI1, atI2, atI3, atI4, ixN20, ixN21, List.map_cons, List.map_nil, List.cons_append, List.nil_append, List.append_nil, List.length_cons, List.length_nil, List.replicate_succ, List.replicate_zero, Nat.add_one_sub_one]
  exact q
end
end DL

set_option Elab.async false
set_option linter.all false
set_option maxRecDepth 100000
set_option maxHeartbeats 4000000
/-! P4: what repr shows. -/
namespace DL
open PySem L2
theorem sh_none {L k : Nat} (h : 4 ≤ L) : Sh L k .none := ⟨by rw [PyData.shown_none]; exact Nat.le_trans (show (Str.ofString "None").length ≤ 4 by decide +kernel) h, Nat.zero_le _, rfl, rfl⟩
theorem sh_bool {L k : Nat} {b : Bool} (h : 5 ≤ L) : Sh L k (.bool b) := ⟨by
  rw [PyData.shown_bool]
  refine Nat.le_trans (show _ ≤ 5 from ?_) h
  cases b <;> decide +kernel, Nat.zero_le _, rfl, rfl⟩
theorem sh_int {L k : Nat} {i : Int} (hi : i.natAbs < 10 ^ 500) (h : 501 ≤ L) : Sh L k (.int i) := by
  have e := int_text_length_le10 (k := 500) (by decide) hi
  refine ⟨?_, Nat.zero_le _, ?_, rfl⟩
  · rw [PyData.shown_int, PySem.ofString_length]
    exact Nat.le_trans e h
  · rw [PyData.showable]
    refine decide_eq_true ?_
    by_cases h0 : i.natAbs = 0
    · rw [h0]; decide
    · exact (Nat.log2_lt h0).mpr (Nat.lt_trans hi (by decide +kernel))
theorem shownAll_sum {L k : Nat} : ∀ {ps : List PyData}, (∀ p ∈ ps, Sh L k p) → ((PyData.shownAll ps).map (·.length)).sum ≤ L * ps.length ∧ PyData.depthAll ps ≤ k ∧ PyData.showableAll ps = true ∧ PyData.hasDictAll ps = false
  | [], _ => ⟨Nat.zero_le _, Nat.zero_le _, rfl, rfl⟩
  | p :: ps, h => by
    obtain ⟨h1, h2, h3, h4⟩ := shownAll_sum (ps := ps) fun q hq => h q (List.mem_cons_of_mem _ hq)
    have hp := h p List.mem_cons_self
    refine ⟨?_, ?_, ?_, ?_⟩
    · rw [PyData.shownAll_cons, List.map_cons, List.sum_cons, List.length_cons, Nat.mul_succ]
      have := hp.len
      omega
    · rw [PyData.depthAll]
      exact Nat.max_le.mpr ⟨hp.dep, h2⟩
    · rw [PyData.showableAll, hp.can, h3]
      rfl
    · rw [PyData.hasDictAll, hp.nod, h4]
      rfl
theorem sh_list {L k m : Nat} {ps : List PyData} (h : ∀ p ∈ ps, Sh L k p) (hm : ps.length ≤ m) : Sh ((L + 2) * m + 3) (k + 1) (.list ps) := by
  obtain ⟨h1, h2, h3, h4⟩ := shownAll_sum h
  refine ⟨?_, ?_, ?_, ?_⟩
  · have e := listText_len_le (PyData.shownAll ps)
    rw [PyData.shownAll_length] at e
    rw [PyData.shown]
    have : (L + 2) * ps.length ≤ (L + 2) * m := Nat.mul_le_mul_left _ hm
    rw [Nat.add_mul] at this
    omega
  · rw [PyData.depth]; omega
  · rw [PyData.showable]; exact h3
  · rw [PyData.hasDict]; exact h4
theorem sh_tup {L k m : Nat} {ps : List PyData} (h : ∀ p ∈ ps, Sh L k p) (hm : ps.length ≤ m) : Sh ((L + 2) * m + 3) (k + 1) (.tuple ps) := by
  obtain ⟨h1, h2, h3, h4⟩ := shownAll_sum h
  refine ⟨?_, ?_, ?_, ?_⟩
  · have e := tupleText_len_le (PyData.shownAll ps)
    rw [PyData.shownAll_length] at e
    rw [PyData.shown]
    have : (L + 2) * ps.length ≤ (L + 2) * m := Nat.mul_le_mul_left _ hm
    rw [Nat.add_mul] at this
    omega
  · rw [PyData.depth]; omega
  · rw [PyData.showable]; exact h3
  · rw [PyData.hasDict]; exact h4
theorem Sh.up {L k L' k' : Nat} {p : PyData} (h : Sh L k p) (h1 : L ≤ L') (h2 : k ≤ k') : Sh L' k' p := ⟨Nat.le_trans h.len h1, Nat.le_trans h.dep h2, h.can, h.nod⟩
theorem sh_all2 {L k : Nat} {a b : PyData} (h1 : Sh L k a) (h2 : Sh L k b) : ∀ p ∈ [a, b], Sh L k p := fun p hp => by
  rcases List.mem_cons.mp hp with rfl | hp
  · exact h1
  · rcases List.mem_cons.mp hp with rfl | hp
    · exact h2
    · cases hp
theorem sh_ints {L k : Nat} {ns : List Int} (h : ∀ n ∈ ns, n.natAbs < 10 ^ 500) (hL : 501 ≤ L) : ∀ p ∈ pds (ns.map D.int), Sh L k p := fun p hp => by
  rw [pds_ints] at hp
  obtain ⟨n, hn, rfl⟩ := List.mem_map.mp hp
  exact sh_int (h n hn) hL
def Shw (ns : List Int) : Prop := ns.length ≤ 200 ∧ ∀ n ∈ ns, n.natAbs < 10 ^ 500
theorem sh_row {ns : List Int} (h : Shw ns) : Sh 101000 2 (pd (.tup (iL ns))) := by
  rw [pd]
  exact (sh_tup (m := 200) (sh_ints (L := 501) (k := 0) h.2 (Nat.le_refl _)) (by rw [pds_ints, List.length_map]; exact h.1)).up (by decide) (by decide)
theorem sh_rowL {ns : List Int} (h : Shw ns) : Sh 101000 2 (pd (.list (iL ns))) := by
  rw [pd]
  exact (sh_list (m := 200) (sh_ints (L := 501) (k := 0) h.2 (Nat.le_refl _)) (by rw [pds_ints, List.length_map]; exact h.1)).up (by decide) (by decide)
section
variable {μ : Mu} {Q X : QD} {QQ : QR} {d : D}
/-- repr of data that stays -/
theorem ok_repr {L k : Nat} (hd : drf μ d = d) (hp : plainD d = true) (sh : Sh L k (pd d)) (hL : L ≤ 16000000) (hk : k ≤ 60) (q : QQ (.v (.str (pd d).shown)) μ) : cbRepr [d] μ QQ X := by
  show plainD (drf μ d) = true ∧ Sh sizeLine 60 (pd (drf μ d)) ∧ QQ (.v (.str (pd (drf μ d)).shown)) μ
  rw [hd]
  exact ⟨hp, sh.up (Nat.le_trans hL (by rw [sizeLine_eq]; decide)) hk, q⟩
def wp_law_shows_rule : WP := (wDef 2 2 (wRet (wOp false oEq (wCb false cbRepr (waCons (wLst false (waCons (wProp "Rule" "coefficients" wp_Rule_coefficients (wV 0)) (waCons (wProp "Rule" "degree" wp_Rule_degree (wV 0)) waNil))) waNil)) (wCb false cbRepr (waCons (wLst false (waCons (wCb false cbTup (waCons (wV 1) waNil)) (waCons (wOp false oSub (wCb false cbLen (waCons (wV 1) waNil)) (wK (.int 1))) waNil))) waNil)))))
theorem ok_shows {ns : List Int} (h : Shw ns) (q : Q (.bool true) μ) : wp_law_shows_rule [ruleD ns, .list (iL ns)] μ Q X := by
  have hsh : Sh 300000 3 (pd (.list [.tup (iL ns), .int ((ns.length : Int) - 1)])) := by
    rw [pd, pds, pds, pds]
    refine (sh_list (m := 2) (sh_all2 (sh_row h) ?_) (Nat.le_refl _)).up (by decide) (by decide)
    rw [pd]
    refine sh_int ?_ (by decide)
    have := h.1
    exact Nat.lt_of_le_of_lt (show _ ≤ 1000 by omega) (by decide +kernel)
  have hpl : plainD (.list [.tup (iL ns), .int ((ns.length : Int) - 1)]) = true := by
    have e : plainsD (iL ns) = true := plains_ints ns
    simp only [plainD, plainsD, e]
    rfl
  unfold wp_law_shows_rule
  simp only [wDef, initE, wSeq, wNext, wAsg, wAsgG, wDrop, wRet, wRetN, wIfS, wPar, wAug, wSetL, wBreak, wCont, wgN, wgNil, wgCons, wgTup, wiSeq, wiRng1, wiRng2, wiEnum, wFor, wLc, wYes, wV, wK, wOp, wUn, wTup, wLst, wCb, wTst, wNotT, wAndT, wOrT, wIf, wAnd, wOr, wNot, waNil, waCons, waStar, wCall, wMeth, wProp, wFld, wSetF, wMake, wCallI, wRev, wSl, woNone, woSome, wLm, wRz, wRzA, wFz, wCaught, wErrF, wDict0, wLrng, gt, st, sett, one, two, int1, atI0, atI1, atI2, atI3, atI4, ixN20, ixN21, List.map_cons, List.map_nil, List.cons_append, List.nil_append, List.append_nil, List.length_cons, List.length_nil, List.replicate_succ, List.replicate_zero, Nat.add_one_sub_one, true_and]
  have e1 : asObj μ (ruleD ns) = some (("Rule" : Str), ([("own_numbers" : Str)] : List Str), [D.tup (iL ns)]) := rfl
  simp only [isOf, e1]
  refine ⟨by first | trivial | rfl, by decide, ok_Rule_coefficients ⟨by first | trivial | rfl, by decide, ok_Rule_degree ⟨by simp [sizeLine_eq], ?_⟩⟩⟩
  refine ok_repr (d := .list [.tup (iL ns), .int ((ns.length : Int) - 1)]) rfl hpl hsh (by decide) (by decide) ?_
  simp only [cbTup, cbLen, wDef, initE, wSeq, wNext, wAsg, wAsgG, wDrop, wRet, wRetN, wIfS, wPar, wAug, wSetL, wBreak, wCont, wgN, wgNil, wgCons, wgTup, wiSeq, wiRng1, wiRng2, wiEnum, wFor, wLc, wYes, wV, wK, wOp, wUn, wTup, wLst, wCb, wTst, wNotT, wAndT, wOrT, wIf, wAnd, wOr, wNot, waNil, waCons, waStar, wCall, wMeth, wProp, wFld, wSetF, wMake, wCallI, wRev, wSl, woNone, woSome, wLm, wRz, wRzA, wFz, wCaught, wErrF, wDict0, wLrng, gt, st, sett, one, two, int1, atI0, atI1, atI2, atI3, atI4, ixN20, ixN21, List.map_cons, List.map_nil, List.cons_append, List.nil_append, List.append_nil, List.length_cons, List.length_nil, List.replicate_succ, List.replicate_zero, Nat.add_one_sub_one, sqD, oSub, oInt2, iL_len, true_and]
  refine ⟨by simp [sizeLine_eq], ok_repr (d := .list [.tup (iL ns), .int ((ns.length : Int) - 1)]) rfl hpl hsh (by decide) (by decide) ?_⟩
  show Q (.bool (decide (_ = _))) μ
  rw [decide_eq_true rfl]
  exact q
end
end DL

set_option Elab.async false
set_option linter.all false
set_option maxRecDepth 100000
set_option maxHeartbeats 4000000
/-! A14: keywords; all, any, insert, str of an int, is of bools, chains. -/
namespace DL
open PySem PyProof.Rows L2
/-! ### keywords: the values in the parameters' order -/
def permD {α : Type} (z : α) (js : List Nat) (xs : List α) : List α := js.map fun j => xs.getD j z
def waPerm (js : List Nat) (a : WA) : WA := fun e μ Q X => a e μ (fun ds μ1 => ds.length = js.length ∧ Q (permD D.none js ds) μ1) X
theorem getD_none {α : Type} {z : α} {xs : List α} {j : Nat} (h : xs[j]? = Option.none) : xs.getD j z = z := by rw [List.getD, h]; rfl
theorem getD_some {α : Type} {z x : α} {xs : List α} {j : Nat} (h : xs[j]? = some x) : xs.getD j z = x := by rw [List.getD, h]; rfl
theorem perm_reps {c : Ctx} {S : Option SA} {I : Hp} {ds : List D} {vs : List V} (r : Reps c S I ds vs) : ∀ js : List Nat, Reps c S I (permD D.none js ds) (permD V.non js vs)
  | [] => .nil
  | j :: js => by
    refine .cons ?_ (perm_reps r js)
    show Rep c S I (ds.getD j D.none) (vs.getD j V.non)
    cases e : ds[j]? with
    | none =>
      have e2 : vs[j]? = Option.none := by
        rw [List.getElem?_eq_none_iff] at e ⊢
        rw [← r.length]
        exact e
      rw [getD_none e, getD_none e2]
      exact .none
    | some d =>
      obtain ⟨x, h1, h2⟩ := r.get e
      rw [getD_some e, getD_some h1]
      exact h2
theorem perm_vals {vs : List V} {us : List Value} (r : Vals vs us) : ∀ js : List Nat, Vals (permD V.non js vs) (permD Value.none js us)
  | [] => .nil
  | j :: js => by
    refine .cons ?_ (perm_vals r js)
    show RelV (vs.getD j V.non) (us.getD j Value.none)
    cases e : vs[j]? with
    | none =>
      have e2 : us[j]? = Option.none := by
        rw [List.getElem?_eq_none_iff] at e ⊢
        rw [← r.length]
        exact e
      rw [getD_none e, getD_none e2]
      exact rfl
    | some d =>
      obtain ⟨x, h1, h2⟩ := r.get e
      rw [getD_some e, getD_some h1]
      exact h2
abbrev KB (K : PySem.W.Frag) (fd : FuncData) (ps : List Str) (n : Nat) (ks : List Str) (js : List Nat) : Prop := KBn K fd ps n ks (fun us ws => us ++ permD Value.none js ws) (fun vs zs => vs ++ permD V.non js zs)
section
variable {K : PySem.W.Frag} {x qual : Str} {params : Arguments} {body : List Stmt} {scope : Scope} {dvs : List V} {kws : List (Str × V)} {f : Addr} {fd : FuncData} {ps : List Str}
theorem kbn0 (F : FunD K x qual params body scope [] kws f fd) (n : Nat) (ks : List Str) (js : List Nat)
    (h : ∀ (kV doc pm : Value) (an : Option Addr) (cdv ct : Value) (us ws : List Value), us.length = n → ws.length = ks.length → bindArgs (PySem.W.fnOf x qual params body scope .none kV doc pm an cdv ct) ⟨us, ks.zip ws⟩ = pure (ps.zip (us ++ permD Value.none js ws))) : KB K fd ps n ks js := by
  obtain ⟨oc, od, dV, kV, doc, pm, an, cdv, ct, osl, rfl, lk, hcd, hD, hK⟩ := F.ex
  rcases hD with ⟨_, rfl⟩ | ⟨e, _⟩
  · exact ⟨fun s us ws X l1 l2 => .of_eq (h kV doc pm an cdv ct us ws l1 l2), fun r1 r2 => r1.append (perm_vals r2 js)⟩
  · exact absurd rfl e
theorem kbn1 (F : FunD K x qual params body scope dvs kws f fd) (n : Nat) (ks : List Str) (js : List Nat) (hd : dvs ≠ [])
    (h : ∀ (T : Addr) (kV doc pm : Value) (an : Option Addr) (cdv ct : Value) (us its ws : List Value), us.length = n → its.length = dvs.length → ws.length = ks.length →
      ∃ k, bindArgs (PySem.W.fnOf x qual params body scope (.ref T) kV doc pm an cdv ct) ⟨us, ks.zip ws⟩ = seqItems? (.ref T) >>= k ∧ k (some its.toArray) = pure (ps.zip (us ++ permD Value.none js ws))) : KB K fd ps n ks js := by
  obtain ⟨oc, od, dV, kV, doc, pm, an, cdv, ct, osl, rfl, lk, hcd, hD, hK⟩ := F.ex
  rcases hD with ⟨e, _⟩ | ⟨_, T, o, its, m, rfl, lT, oT, rT⟩
  · exact absurd e hd
  · refine ⟨fun s us ws X l1 l2 => ?_, fun r1 r2 => r1.append (perm_vals r2 js)⟩
    obtain ⟨k, e1, e2⟩ := h T kV doc pm an cdv ct us its ws l1 rT.length.symm l2
    refine BindsTo.of_looks fun M => ?_
    rw [e1]
    exact looks_items X lT oT (.of_pure e2)
end
theorem _root_.L2.PK.imp {X : Cx} {kws : List Keyword} {t t' : TA} (h : PK X kws t) (i : ∀ σ H Q, t' σ H Q → t σ H Q) : PK X kws t' := ⟨fun pos pins s σ H Q J z => h.run pos pins s σ H Q J (i σ H Q z)⟩
section
variable {X : Cx} {c : Ctx} {W : WX} {k kf ka kb : Nat} {f C : Addr} {fd : FuncData} {ps ks : List Str} {sp : Sp} {s : WP} {js : List Nat} {x : Str} {p pos kpos : Pos} {e : Expr} {kws : List Keyword} {wr : WA} {wa : WE} {nm : Option Str}
abbrev GK (X : Cx) (c : Ctx) (W : WX) (k : Nat) (kws : List Keyword) (w : WA) : Prop := PK X kws (ldA c W k w)
theorem gk_nil : GK X c W 0 [] waNil := L2.PK.imp pk_nil fun σ H Q h => by
  obtain ⟨S, F, n, I, μ, e, Qd, Xd, hl, he, hw, h, q, x⟩ := h
  exact q [] μ [] I H h (Same.refl I) hw .nil
theorem gk_cons (ha : GE X c W ka e wa) (hr : GK X c W kb kws wr) : GK X c W (ka + kb) (⟨nm, e, kpos⟩ :: kws) (waCons wa wr) := L2.PK.imp (pk_cons ha hr) fun σ H Q h => ld_cons h
theorem ld_perm {σ : L2.St} {H : Hp} {R : List V → Hp → Prop} (h : ldA c W ka (waPerm js wr) σ H R) : ldA c W ka wr σ H fun zs H1 => zs.length = js.length ∧ R (permD V.non js zs) H1 := by
  obtain ⟨S, F, n, I, μ, e, Qd, Xd, hl, he, hw, h, q, x⟩ := h
  refine ⟨S, F, n, I, μ, e, _, Xd, hl, he, hw, h, fun ds μ1 vs I1 H1 pa s1 w1 ra => ?_, x⟩
  exact ⟨by rw [← ra.length]; exact pa.1, q _ μ1 _ I1 H1 pa.2 s1 w1 (perm_reps ra js)⟩
theorem run_fnWK {pins : List (Addr × Obj)} {σ : L2.St} {H : Hp} {s : Shared} {Q : VK} {us ws : List Value} {vs zs : List V} {n : Nat} (F : FnW X.prog X.w X.K X.mg X.base k f fd ps sp) (gd : X.A.guards = some []) (hr : Room k X.A) (hb : KB X.K fd ps n ks js) (tk : Takes X W)
    (J : Inv X pins σ H s) (r : Vals vs us) (rz : Vals zs ws) (l1 : vs.length = n) (l2 : zs.length = ks.length) (h : sp (vs ++ permD V.non js zs) H Q fun cls d H' => W cls d σ H') : wpAny (model X.prog X.w) X.A (call (.ref f) us (ks.zip ws)) (EP X pins σ Q) X.xe s := by
  have r2 := hb.rel r rz
  refine wpAny_call (codeAny_mono (F.run X.A X.stack s H ⟨us, ks.zip ws⟩ _ _ Q _ gd hr J.env0 (hb.to s us ws J.kIn (r.length.symm.trans l1) (rz.length.symm.trans l2)) r2 h) fun r s' hq => ?_)
  cases r with
  | error e => exact tk e s' (XE.of_call J (fun _ _ _ h => h) hq)
  | ok fl =>
    cases fl with
    | ret u => exact J.after hq
    | next => exact False.elim hq
    | brk => exact False.elim hq
    | cont => exact False.elim hq
theorem run_makeWK {pins : List (Addr × Obj)} {σ : L2.St} {H : Hp} {s : Shared} {Q : VK} {us ws : List Value} {vs zs : List V} {n : Nat} (M : Mk X.K C f) (F : FnW X.prog X.w X.K X.mg X.base k f fd ps sp) (gd : X.A.guards = some []) (hr : Room (k + 1) X.A) (hb : KB X.K fd ps (n + 1) ks js)
    (tk : Takes X W) (J : Inv X pins σ H s) (r : Vals vs us) (rz : Vals zs ws) (l1 : vs.length = n) (l2 : zs.length = ks.length)
    (h : ∀ x dx, H x = none → H dx = none → dx ≠ x → sp (.ref x :: (vs ++ permD V.non js zs)) (upd (upd H dx (.own x)) x (.ins C dx [])) (fun v H2 => v = .non ∧ Q (.ref x) H2) fun cls d H' => W cls d σ H') :
    wpAny (model X.prog X.w) X.A (call (.ref C) us (ks.zip ws)) (EP X pins σ Q) X.xe s := by
  have hq := h (s.heap.objs.size + 1) s.heap.objs.size (J.hok.fresh (Nat.le_succ _)) (J.hok.fresh (Nat.le_refl _)) (Nat.ne_of_lt (Nat.lt_succ_self _))
  have I2 := Inv.made (C := C) J
  have r1 : Vals (V.ref (s.heap.objs.size + 1) :: vs) (Value.ref (s.heap.objs.size + 1) :: us) := .cons rfl r
  have r2 := hb.rel r1 rz
  have n1 : (Value.ref (s.heap.objs.size + 1) :: us).length = n + 1 := by
    rw [List.length_cons, ← r.length, l1]
  have gd2 : (X.A.under (.builtin "type.__call__" ⟨.ref C :: us, ks.zip ws⟩)).guards = some [] := by
    first | exact gd | (simpa [Around.under, Code.isGuard, guardIds] using gd)
  refine wpAny_call (make_map (f := f) J.kIn M.makes M.init (beq_iff_eq.mp M.fn) (codeAny_mono (F.run _ X.stack _ _ ⟨Value.ref (s.heap.objs.size + 1) :: us, ks.zip ws⟩ (Value.ref (s.heap.objs.size + 1) :: us ++ permD Value.none js ws) _ _ _ gd2 (hr.make C us (ks.zip ws))
    (I2.env0.make C us (ks.zip ws)) (hb.to _ (Value.ref (s.heap.objs.size + 1) :: us) ws I2.kIn n1 (rz.length.symm.trans l2)) r2 hq) fun r s' hq' => ?_))
  cases r with
  | error e => exact tk e s' (XE.of_call I2 (fun _ _ _ h => h) hq')
  | ok fl =>
    cases fl with
    | ret u =>
      obtain ⟨v, H', I3, rv, ev, q3⟩ := I2.after hq'
      subst ev
      exact ⟨rv, ⟨V.ref (s.heap.objs.size + 1), H', I3, rfl, q3⟩⟩
    | next => exact False.elim hq'
    | brk => exact False.elim hq'
    | cont => exact False.elim hq'
/-- f(k = v, ..) -/
theorem g_callK (F : FnW X.prog X.w X.K X.mg X.base k f fd ps (SpW c s kf)) (gd : X.A.guards = some []) (hr : Room k X.A) (hg : Gl X x) (hm : X.mg x = some (.ref f)) (hk : PySem.W.keepIn X.K (.ref f) = true) (hb : KB X.K fd ps 0 ks js) (tk : Takes X W) (hkw : GK X c W ka kws wr)
    (hl : js.length = ks.length := by rfl) (hall : (backToKw pos (keywordEach kws X.env)).all (·.1.isSome) = true := by rfl) (hks : (backToKw pos (keywordEach kws X.env)).filterMap (·.1) = ks := by rfl) (hdb : (x == ("__debug__" : Str)) = false := by decide)
    (hpl : ((backTo pos (starEach [] X.env)).any (·.1) || (backToKw pos (keywordEach kws X.env)).any (·.1.isNone)) = false := by rfl) :
    GE X c W (ka + kf) (.Call (.Name x p) [] kws pos) (wCall s [] (waPerm js wr)) := by
  refine ⟨fun pins s σ H Q J h => ?_⟩
  refine wpAny_Call_Name_kw (ld_glob J hg hm ?_ hdb)
  refine PySem.W.callWith_KW0 (h₀ := X.base) J.ok.mod.kin hk hall ?_ hpl
  refine thn (hkw.run pos pins s σ H _ J (ld_perm (ld_call (dd := []) (dvs := []) (fun _ _ => .nil) h))) fun ws s2 ⟨zs, H2, I2, rz, l2, q2⟩ => ⟨I2.kIn, ?_⟩
  rw [hks]
  rw [List.append_nil] at q2
  exact run_fnWK (us := []) (vs := []) F gd hr hb tk I2 .nil rz rfl (l2.trans hl) q2
/-- C(k = v, ..) -/
theorem g_makeK {n : Str} {mm : Bool} (M : Mk X.K (c.cl n) f) (F : FnW X.prog X.w X.K X.mg X.base k f fd ps (SpW c s kf)) (gd : X.A.guards = some []) (hr : Room (k + 1) X.A) (hg : Gl X x) (hm : X.mg x = some (.ref (c.cl n))) (hb : KB X.K fd ps 1 ks js) (tk : Takes X W) (hkw : GK X c W ka kws wr)
    (hns : n ∈ c.ns := by decide) (hl : js.length = ks.length := by rfl) (hall : (backToKw pos (keywordEach kws X.env)).all (·.1.isSome) = true := by rfl) (hks : (backToKw pos (keywordEach kws X.env)).filterMap (·.1) = ks := by rfl) (hdb : (x == ("__debug__" : Str)) = false := by decide)
    (hpl : ((backTo pos (starEach [] X.env)).any (·.1) || (backToKw pos (keywordEach kws X.env)).any (·.1.isNone)) = false := by rfl) :
    GE X c W (ka + kf) (.Call (.Name x p) [] kws pos) (wMake mm n s [] (waPerm js wr)) := by
  refine ⟨fun pins s σ H Q J h => ?_⟩
  refine wpAny_Call_Name_kw (ld_glob J hg hm ?_ hdb)
  refine PySem.W.callWith_KW0 (h₀ := X.base) J.ok.mod.kin M.kp hall ?_ hpl
  refine thn (hkw.run pos pins s σ H _ J (ld_perm (ld_make (dd := []) (dvs := []) hns (fun _ _ => .nil) h))) fun ws s2 ⟨zs, H2, I2, rz, l2, q2⟩ => ⟨I2.kIn, ?_⟩
  rw [hks]
  rw [List.append_nil] at q2
  exact run_makeWK (us := []) (vs := []) M F gd hr hb tk I2 .nil rz rfl (l2.trans hl) q2
end
/-! ### all, any of a list of bools -/
def boolsD : List D → Option (List Bool)
  | [] => some []
  | .bool b :: ds => (boolsD ds).map (b :: ·)
  | _ => Option.none
theorem bools_rep {c : Ctx} {S : Option SA} {I : Hp} : ∀ {ds : List D} {xs : List V} {bs : List Bool}, Reps c S I ds xs → boolsD ds = some bs → xs = bs.map V.bl
  | _, _, _, .nil, h => by cases h; rfl
  | _, _, bs, .cons r rs, h => by
    cases r with
    | bool =>
      simp only [boolsD, Option.map_eq_some_iff] at h
      obtain ⟨l, h1, rfl⟩ := h
      rw [bools_rep rs h1]
      rfl
    | _ => cases h
theorem boolsD_map (bs : List Bool) : boolsD (bs.map D.bool) = some bs := by
  induction bs with
  | nil => rfl
  | cons b bs ih => simp [boolsD, ih]
def cbBs (f : List Bool → Bool) : WC := fun xs μ Q _ => one xs fun x => match seqL μ x with
  | some ds => (match boolsD ds with
    | some bs => Q (.v (.bool (f bs))) μ
    | Option.none => False)
  | Option.none => False
abbrev cbAll : WC := cbBs fun bs => bs.all id
def cbStr : WC := fun xs μ Q _ => one xs fun x => int1 x fun i => i.natAbs.log2 < 1920 ∧ Q (.v (.str (toString i))) μ
section
variable {X : Cx} {c : Ctx} {W : WX}
theorem w_all (hc : X.calm = true := by rfl) (hK : X.K = c.K := by rfl) : CbW X c (.builtin "all") cbAll := cbw_of (cr_all hc) fun S F n I μ ds vs H Qd Xd Q w rs h q => by
  obtain ⟨x, rfl, h2⟩ := one_cases h
  obtain ⟨v, rfl, rv⟩ := reps1 rs
  split at h2
  · rename_i ds e
    split at h2
    · rename_i bs e2
      obtain ⟨l, xs, rfl, h1, r1⟩ := seqL_rep w rv e
      rw [bools_rep r1 e2] at h1
      exact ⟨l, bs, rfl, SqL.of h1, q _ μ _ I H h2 (Same.refl I) w .bool⟩
    · exact h2.elim
  · exact h2.elim
theorem w_str : CbW X c (.type "str") cbStr := cbw_of call_str_int fun S F n I μ ds vs H Qd Xd Q w rs h q => by
  obtain ⟨x, rfl, h⟩ := one_cases h
  obtain ⟨i, rfl, h⟩ := int1_cases h
  obtain ⟨v, rfl, rv⟩ := reps1 rs
  cases rv
  exact ⟨i, rfl, h.1, q _ μ _ I H h.2 (Same.refl I) w .str⟩
/-! ### list.insert -/
def mIns : WM := fun x xs μ Q _ => lstC x μ fun p ds => two xs fun i y => int1 i fun i => ds.length < sizeLine ∧ 0 ≤ i ∧ i < 2 ^ 63 ∧ Q (.v .none) (up μ p (.list (ds.take i.toNat ++ [y] ++ ds.drop i.toNat)))
theorem mw_ins : MtW X c "list.insert" mIns := ⟨_, mt_insert, fun S F n I μ d ds v vs H Qd Xd Q w rv rs h q => by
  obtain ⟨p, xs, rfl, e, h⟩ := lstC_cases h
  obtain ⟨i, y, rfl, h⟩ := two_cases h
  obtain ⟨i, rfl, h0, h1, h2, h⟩ := int1_cases h
  obtain ⟨u, u2, rfl, ru, ru2⟩ := reps2 rs
  cases ru
  cases rv
  obtain ⟨zs, h3, h4⟩ := w.cellL e
  refine ⟨p, zs, i, u2, rfl, rfl, h3, by rw [← h4.length]; exact h0, h1, h2, ?_⟩
  exact q _ _ _ I _ h (Same.refl I) (w.put (ndL_some e) (NdR.list (((h4.take _).append (.cons ru2 .nil)).append (h4.drop _)))) .none⟩
/-! ### is, is not of bools -/
def oBB (f : Bool → Bool → Bool) : WOp := fun x y μ Q _ => match x with
  | .bool a => (match y with
    | .bool b => Q (.v (.bool (f a b))) μ
    | _ => False)
  | _ => False
abbrev oIsB : WOp := oBB fun a b => decide (a = b)
abbrev oNotB : WOp := oBB fun a b => !decide (a = b)
theorem ld_bb {f : Bool → Bool → Bool} {σ : L2.St} {x y : V} {H : Hp} {Q : VK} (h : ld2 c W 0 (oBB f) σ x y H Q) : ∃ a b : Bool, x = .bl a ∧ y = .bl b ∧ Q (.bl (f a b)) H := by
  obtain ⟨S, F, n, I, μ, dx, dy, Qd, Xd, hl, w, ra, rb, h, q, x⟩ := h
  cases ra <;> first | exact False.elim h | skip
  cases rb <;> first | exact False.elim h | exact ⟨_, _, rfl, rfl, q _ μ _ I H h (Same.refl I) w .bool⟩
theorem w_isB : Op2 X c W 0 (compareOp .Is) oIsB := op2_of op_isBl fun σ x y H Q h => ld_bb h
theorem w_notB : Op2 X c W 0 (compareOp .IsNot) oNotB := op2_of op_notBl fun σ x y H Q h => ld_bb h
/-! ### a < b < c of ints -/
def wChain (p q : Int → Int → Bool) (a b d : WE) : WE := fun e μ Q X => a e μ (fun x μ1 => b e μ1 (fun y μ2 => int1 x fun i => int1 y fun j => if p i j = true then d e μ2 (fun z μ3 => int1 z fun k => Q (.bool (q j k)) μ3) X else Q (.bool false) μ2) X) X
variable {a b d : Expr} {wa wb wd : WE} {ka kb kc : Nat} {pos : Pos} {op op' : CmpOp} {p q : Int → Int → Bool}
theorem ld_chain {σ : L2.St} {H : Hp} {Q : VK} (h : ldE c W (ka + (kb + kc)) (wChain p q wa wb wd) σ H Q) : tChain (rI0 fun i j => .bl (p i j)) (rI0 fun i j => .bl (q i j)) (ldE c W ka wa) (ldE c W kb wb) (ldE c W kc wd) σ H Q := by
  obtain ⟨S, F, n, I, μ, e, Qd, Xd, hl, he, hw, h, qq, x⟩ := h
  refine ⟨S, F, n, I, μ, e, _, Xd, by omega, he, hw, h, fun da μ1 va I1 H1 pa s1 w1 ra => ?_, x.mono (by omega) (Same.refl I)⟩
  refine ⟨S, F, n + ka, I1, μ1, e, _, Xd, by omega, he.mono s1, w1, pa, fun db μ2 vb I2 H2 pb s2 w2 rb => ?_, x.mono (by omega) s1⟩
  obtain ⟨i, e1, pb1⟩ := int1_cases pb
  obtain ⟨j, e2, pb2⟩ := int1_cases pb1
  subst e1
  subst e2
  cases ra
  cases rb
  refine ⟨i, j, rfl, rfl, _, rfl, ite_b pb2 (fun _ h => ?_) fun _ h => qq _ μ2 _ I2 H2 h (s1.trans s2) (w2.up (by omega)) .bool⟩
  refine ⟨S, F, n + ka + kb, I2, μ2, e, _, Xd, by omega, he.mono (s1.trans s2), w2, h, fun dc μ3 vc I3 H3 pc s3 w3 rc => ?_, x.mono (by omega) (s1.trans s2)⟩
  obtain ⟨z, e3, pc1⟩ := int1_cases pc
  subst e3
  cases rc
  exact ⟨j, z, rfl, rfl, qq _ μ3 _ I3 H3 pc1 ((s1.trans s2).trans s3) (w3.up (by omega)) .bool⟩
theorem g_chain (ho : OpR X (compareOp op) (rI0 fun i j => .bl (p i j))) (ho' : OpR X (compareOp op') (rI0 fun i j => .bl (q i j))) (ha : GE X c W ka a wa) (hb : GE X c W kb b wb) (hc : GE X c W kc d wd) (hm : lastMarks [op, op'] [b, d] = false := by with_unfolding_all rfl) :
    GE X c W (ka + (kb + kc)) (.Compare a [op, op'] [b, d] pos) (wChain p q wa wb wd) := L2.PE.imp (pe_chain ho ho' ha hb hc hm) fun σ H Q h => ld_chain h
theorem g_tchain (ho : OpR X (compareOp op) (rI0 fun i j => .bl (p i j))) (ho' : OpR X (compareOp op') (rI0 fun i j => .bl (q i j))) (ha : GE X c W ka a wa) (hb : GE X c W kb b wb) (hc : GE X c W kc d wd) (hm : lastMarks [op, op'] [b, d] = false := by with_unfolding_all rfl) :
    GT X c W (ka + (kb + kc)) (.Compare a [op, op'] [b, d] pos) (wTst (wChain p q wa wb wd)) := L2.PT.imp (pt_chain ho ho' ha hb hc hm) fun σ H Q h => ld_chain (ld_tst h)
end
end DL

set_option Elab.async false
set_option linter.all false
set_option maxRecDepth 100000
set_option maxHeartbeats 4000000
/-! A15: == of tuples and lists that hold instances with an own ==. -/
namespace GQ2
open PySem PySem.SeqAt
open AutoSeq1 (wpAny_loadPart')
open MeetsSeq MeetsSeq2 MeetsSeq3 SeqRoads2
section
variable {prog : Program} {w : World} {A : Around} {R : Result → Shared → Prop}
/-- how a turn ends: equal and on, or not -/
abbrev Turn (I : Shared → Prop) (Fl : Shared → Prop) : Bool → Shared → Prop := fun r s' => (r = true ∧ I s') ∨ (r = false ∧ Fl s')
theorem tuple_eqB (l b : Addr) (items items2 : Array Value) (n n2 : Nat) (dd dd2 : Option Addr) (sl sl2 : Array (Option Value)) (I : Nat → Shared → Prop) (Fl : Shared → Prop)
    (turn : ∀ i (h1 : i < items.size) (h2 : i < items2.size) s, I i s → wpAny (model prog w) A.in1 (eqBool items[i] items2[i]) (Turn (I (i + 1)) Fl) (fun e s' => R (.error e) s') s)
    (fin : ∀ s, I (min items.size items2.size) s → R (.ok (.ret (.bool (items.size == items2.size)))) s) (no : ∀ s, Fl s → R (.ok (.ret (.bool false))) s)
    {s : Shared} (hl1 : s.heap.get? l = some { cls := .type "tuple", dict := dd, data := .seq items n, slots := sl }) (hb1 : s.heap.get? b = some { cls := .type "tuple", dict := dd2, data := .seq items2 n2, slots := sl2 }) (h : I 0 s) :
    wpAny (model prog w) A.in1 (Builtin.«tuple.__eq__» ⟨[.ref l, .ref b], []⟩) (GQ.FinOf prog w A R) (fun e s' => R (.error e) s') s := by
  have f2 := AutoSeq1.sub_tuple_tuple
  have hZ : (items.toList.zip items2.toList).length = min items.size items2.size := by simp
  have h0 := h
  obtain ⟨hp, g, d, tk, os⟩ := s
  wp_walk using wpAny_loadPart' hl1, wpAny_loadPart' hb1, wpAny_forIn_list _ (fun rest b s' => b.1 = none ∧ ∃ i, rest = (items.toList.zip items2.toList).drop i ∧ i ≤ min items.size items2.size ∧ I i s') _
  case turn =>
    rintro ⟨y, x⟩ rest b s' ⟨hb', i, hz, hi, hI⟩
    have hlt : i < (items.toList.zip items2.toList).length := by
      rcases Nat.lt_or_ge i (items.toList.zip items2.toList).length with h' | h'
      · exact h'
      · rw [List.drop_of_length_le h'] at hz; cases hz
    have hm : i < min items.size items2.size := hZ ▸ hlt
    have h1 : i < items.size := Nat.lt_of_lt_of_le hm (Nat.min_le_left _ _)
    have h2 : i < items2.size := Nat.lt_of_lt_of_le hm (Nat.min_le_right _ _)
    rw [List.drop_eq_getElem_cons hlt] at hz
    injection hz with hyx hrest
    have hy : y = items[i] := by have := congrArg Prod.fst hyx; simpa using this
    have hx : x = items2[i] := by have := congrArg Prod.snd hyx; simpa using this
    subst hy hx
    refine wpAny_bind (wpAny_mono (turn i h1 h2 s' hI) (fun r s2 q2 => ?_) fun _ _ x => x)
    rcases q2 with ⟨rfl, q2⟩ | ⟨rfl, q2⟩
    · wp_walk
      exact ⟨rfl, i + 1, hrest, hm, q2⟩
    · wp_walk
      exact no _ q2
  case fin =>
    rintro ⟨b1, b2⟩ s' ⟨hb', i, hz, hi, hI⟩
    simp only at hb'
    subst hb'
    have hge : min items.size items2.size ≤ i := by
      rcases Nat.lt_or_ge i (items.toList.zip items2.toList).length with h' | h'
      · rw [List.drop_eq_getElem_cons h'] at hz; cases hz
      · exact hZ ▸ h'
    have hi' : i = min items.size items2.size := by omega
    have hR := fin s' (hi' ▸ hI)
    wp_walk
    simpa [Builtin.Tuple.tupleCompareSizes] using hR
  case h =>
    exact ⟨rfl, 0, rfl, Nat.zero_le _, h0⟩
/-- at each turn the two lists are read anew -/
def ListB (prog : Program) (w : World) (A : Around) (E : Value → Shared → Prop) (l b : Addr) (N : Nat) (I : Nat → Shared → Prop) (Fl : Shared → Prop) : Prop :=
  ∀ i s, I i s → ∃ (items items2 : Array Value) (n n2 : Nat), s.heap.get? l = some { cls := .type "list", data := .seq items n } ∧ s.heap.get? b = some { cls := .type "list", data := .seq items2 n2 } ∧ items.size = N ∧ items2.size = N ∧
    ∀ (h1 : i < items.size) (h2 : i < items2.size), wpAny (model prog w) A.in1 (eqBool items[i] items2[i]) (Turn (I (i + 1)) Fl) E s
def ListF (l b : Addr) (Fl : Shared → Prop) (N : Nat) : Prop := ∀ s, Fl s → ∃ (items items2 : Array Value) (n n2 : Nat), s.heap.get? l = some { cls := .type "list", data := .seq items n } ∧ s.heap.get? b = some { cls := .type "list", data := .seq items2 n2 } ∧ items.size = N ∧ items2.size = N
theorem eq_loopB (l b : Addr) (N : Nat) (I : Nat → Shared → Prop) (Fl : Shared → Prop) (hl : ListB prog w A (fun e s' => R (.error e) s') l b N I Fl) (hf : ListF l b Fl N)
    (fin : ∀ s, I N s → R (.ok (.ret (.bool true))) s) (no : ∀ s, Fl s → R (.ok (.ret (.bool false))) s) (k : Nat) :
    ∀ i : Nat, N - i = k → i ≤ N → ∀ s, I i s →
      wpAny (model prog w) A.in1 (Builtin.«list.__eq__.loop» ⟨[.ref l, .ref b, rawInt i, rawInt 2], []⟩) (GQ.FinOf prog w A R) (fun e s' => R (.error e) s') s := by
  induction k with
  | zero =>
    intro i hk hi s h
    obtain ⟨items, items2, n, n2, hl1, hb1, hs1, hs2, _⟩ := hl _ _ h
    have hi' : i = N := by omega
    have hR : R (.ok (.ret (.bool true))) s := fin s (hi' ▸ h)
    obtain ⟨hp, g, d, tk, os⟩ := s
    wp_walk using wpAny_loadPart' hl1, wpAny_loadPart' hb1
    have hi1 : items[((i : Nat) : Int).toNat]? = none := by simp; omega
    have hi2 : items2[((i : Nat) : Int).toNat]? = none := by simp; omega
    rw [hi1, hi2]
    wp_walk using wpAny_loadPart' hl1, wpAny_loadPart' hb1
    show R (.ok (.ret (.bool (items.size == items2.size)))) _
    rw [hs1, hs2]
    simpa using hR
  | succ k ih =>
    intro i hk hi s h
    obtain ⟨items, items2, n, n2, hl1, hb1, hs1, hs2, turn⟩ := hl _ _ h
    have hlt : i < items.size := by omega
    have hlt2 : i < items2.size := by omega
    have ht := turn hlt hlt2
    obtain ⟨hp, g, d, tk, os⟩ := s
    wp_walk using wpAny_loadPart' hl1, wpAny_loadPart' hb1
    have hi1 : items[((i : Nat) : Int).toNat]? = some items[i] := by simp [hlt]
    have hi2 : items2[((i : Nat) : Int).toNat]? = some items2[i] := by simp [hlt2]
    have hc : ((i : Int) + 1) = ((i + 1 : Nat) : Int) := by omega
    rw [hi1, hi2]
    refine wpAny_bind (wpAny_mono ht (fun r s2 h2 => ?_) fun _ _ x => x)
    rcases h2 with ⟨rfl, h2⟩ | ⟨rfl, h2⟩
    · have hrec := ih (i + 1) (by omega) (by omega) s2 h2
      obtain ⟨hp2, g2, d2, tk2, os2⟩ := s2
      wp_walk
      rw [hc]
      exact ⟨plainId_quiet plain_eq_loop _, codeAny_builtin entry_eq_loop (by
        rw [Around.under_plainId plain_eq_loop _]
        exact hrec)⟩
    · obtain ⟨its3, its4, n3, n4, hl3, hb3, hs3, hs4⟩ := hf _ h2
      have hR := no _ h2
      obtain ⟨hp2, g2, d2, tk2, os2⟩ := s2
      wp_walk using wpAny_loadPart' hl3, wpAny_loadPart' hb3
      have hi3 : its3[((i : Nat) : Int).toNat]? = some (its3[i]'(by omega)) := by simp
      have hi4 : its4[((i : Nat) : Int).toNat]? = some (its4[i]'(by omega)) := by simp
      rw [hi3, hi4]
      wp_walk
      exact hR
theorem list_eqB (l b : Addr) (N : Nat) (I : Nat → Shared → Prop) (Fl : Shared → Prop) (hl : ListB prog w A (fun e s' => R (.error e) s') l b N I Fl) (hf : ListF l b Fl N)
    (fin : ∀ s, I N s → R (.ok (.ret (.bool true))) s) (no : ∀ s, Fl s → R (.ok (.ret (.bool false))) s) {s : Shared} (h : I 0 s) :
    wpAny (model prog w) A.in1 (Builtin.«list.__eq__» ⟨[.ref l, .ref b], []⟩) (GQ.FinOf prog w A R) (fun e s' => R (.error e) s') s := by
  obtain ⟨items, items2, n, n2, hl1, hb1, hs1, hs2, _⟩ := hl _ _ h
  have hrec := eq_loopB (A := A) (R := R) l b N I Fl hl hf fin no _ 0 rfl (Nat.zero_le _) s h
  obtain ⟨hp, g, d, tk, os⟩ := s
  have f3 := AutoSeq1.sub_list_list
  have hne : ¬ (items.size != items2.size) = true := by simp [hs1, hs2]
  wp_walk using wpAny_loadPart' hl1, wpAny_loadPart' hb1
  exact ⟨plainId_quiet plain_eq_loop _, codeAny_builtin entry_eq_loop (by
    rw [Around.under_plainId plain_eq_loop _]
    exact hrec)⟩
theorem list_neB (l b : Addr) {items items2 : Array Value} {n n2 : Nat} {s : Shared} (hl1 : s.heap.get? l = some { cls := .type "list", data := .seq items n }) (hb1 : s.heap.get? b = some { cls := .type "list", data := .seq items2 n2 })
    (hne : items.size ≠ items2.size) (no : R (.ok (.ret (.bool false))) s) :
    wpAny (model prog w) A.in1 (Builtin.«list.__eq__» ⟨[.ref l, .ref b], []⟩) (GQ.FinOf prog w A R) (fun e s' => R (.error e) s') s := by
  obtain ⟨hp, g, d, tk, os⟩ := s
  have f3 := AutoSeq1.sub_list_list
  have hc0 : (items.size != items2.size) = true := by simp [hne]
  wp_walk using wpAny_loadPart' hl1, wpAny_loadPart' hb1
  exact no
end
section
variable {prog : Program} {w : World} {A : Around} {E : Value → Shared → Prop} {s : Shared}
theorem rc_tupB {l b : Addr} {items items2 : Array Value} {Q : Value → Shared → Prop} (hu : A.units < cLine) (I : Nat → Shared → Prop) (Fl : Shared → Prop) (hl : s.heap.IsTuple l items) (hb : s.heap.IsTuple b items2)
    (turn : ∀ i (h1 : i < items.size) (h2 : i < items2.size) s, I i s → wpAny (model prog w) A.in1 (eqBool items[i] items2[i]) (Turn (I (i + 1)) Fl) E s)
    (fin : ∀ s, I (min items.size items2.size) s → Q (.bool (items.size == items2.size)) s) (no : ∀ s, Fl s → Q (.bool false) s) (h : I 0 s) : wpAny (model prog w) A (richCompare .Eq (.ref l) (.ref b)) Q E s := by
  obtain ⟨⟨cls, dd, data, sl⟩, ho, hc, n, hd⟩ := id hl
  obtain ⟨⟨cls2, dd2, data2, sl2⟩, ho2, hc2, n2, hd2⟩ := id hb
  simp only at hc hd hc2 hd2
  subst hc hd hc2 hd2
  refine wpAny_richCompare_same_room (op := .Eq) ⟨_, ho, rfl⟩ ⟨_, ho2, rfl⟩ F.slot_tuple_eq (GQ.call_here F.slot_tuple_eq ⟨_, ho, rfl⟩ F.entry_tuple_eq (F.args_tuple_eq_2 _ _) ?_) hu
  exact tuple_eqB (R := wants (fun v s' => v ≠ .notImplemented ∧ Q v s') E) l b items items2 n n2 dd dd2 sl sl2 I Fl turn (fun s' q => ⟨(fun x => nomatch x), fin s' q⟩) (fun s' q => ⟨(fun x => nomatch x), no s' q⟩) ho ho2 h
theorem rc_listB {l b : Addr} {N : Nat} {Q : Value → Shared → Prop} (hu : A.units < cLine) (I : Nat → Shared → Prop) (Fl : Shared → Prop) (hl : ListB prog w A E l b N I Fl) (hf : ListF l b Fl N)
    (fin : ∀ s, I N s → Q (.bool true) s) (no : ∀ s, Fl s → Q (.bool false) s) (h : I 0 s) : wpAny (model prog w) A (richCompare .Eq (.ref l) (.ref b)) Q E s := by
  obtain ⟨items, items2, n, n2, hl1, hb1, _, _, _⟩ := hl _ _ h
  refine wpAny_richCompare_same_room (op := .Eq) ⟨_, hl1, rfl⟩ ⟨_, hb1, rfl⟩ F.slot_list_eq (GQ.call_here F.slot_list_eq ⟨_, hl1, rfl⟩ F.entry_list_eq (F.args_list_eq_2 _ _) ?_) hu
  exact list_eqB (R := wants (fun v s' => v ≠ .notImplemented ∧ Q v s') E) l b N I Fl hl hf (fun s' q => ⟨(fun x => nomatch x), fin s' q⟩) (fun s' q => ⟨(fun x => nomatch x), no s' q⟩) h
theorem rc_listN {l b : Addr} {items items2 : Array Value} {n n2 : Nat} {Q : Value → Shared → Prop} (hu : A.units < cLine) (hl1 : s.heap.get? l = some { cls := .type "list", data := .seq items n }) (hb1 : s.heap.get? b = some { cls := .type "list", data := .seq items2 n2 })
    (hne : items.size ≠ items2.size) (no : Q (.bool false) s) : wpAny (model prog w) A (richCompare .Eq (.ref l) (.ref b)) Q E s := by
  refine wpAny_richCompare_same_room (op := .Eq) ⟨_, hl1, rfl⟩ ⟨_, hb1, rfl⟩ F.slot_list_eq (GQ.call_here F.slot_list_eq ⟨_, hl1, rfl⟩ F.entry_list_eq (F.args_list_eq_2 _ _) ?_) hu
  exact list_neB (R := wants (fun v s' => v ≠ .notImplemented ∧ Q v s') E) l b hl1 hb1 hne ⟨(fun x => nomatch x), no⟩
end
end GQ2
namespace DL
open PySem PyProof.Rows L2
/-! ### equality of data with instances of one class -/
mutual
def eqO : D → D → Bool
  | .tup xs, .tup ys => eqOs xs ys
  | .list xs, .list ys => eqOs xs ys
  | .obj _ _ xs, .obj _ _ ys => eqOs xs ys
  | x, y => eqF x y
def eqOs : List D → List D → Bool
  | [], [] => true
  | x :: xs, y :: ys => eqO x y && eqOs xs ys
  | _, _ => false
end
mutual
/-- they can be compared; n, fs, P: of the instances -/
def cmpO (n : Str) (fs : List Str) (P : List D → Bool) : D → D → Bool
  | .tup xs, .tup ys => cmpOs n fs P xs ys
  | .list xs, .list ys => cmpOs n fs P xs ys
  | .obj n1 f1 xs, .obj n2 f2 ys => decide (n1 = n) && (decide (f1 = fs) && (P xs && (decide (n2 = n) && (decide (f2 = fs) && P ys))))
  | x, y => flatD x && flatD y
def cmpOs (n : Str) (fs : List Str) (P : List D → Bool) : List D → List D → Bool
  | x :: xs, y :: ys => cmpO n fs P x y && (!eqO x y || cmpOs n fs P xs ys)
  | _, _ => true
end
mutual
def dpO : D → Nat
  | .tup xs => dpOs xs + 1
  | .list xs => dpOs xs + 1
  | .obj _ _ xs => dpOs xs + 1
  | _ => 0
def dpOs : List D → Nat
  | [] => 0
  | x :: xs => max (dpO x) (dpOs xs)
end
theorem eqF_refl : ∀ {d : D}, flatD d = true → eqF d d = true := fun {d} h => by cases d <;> simp_all [flatD, eqF]
theorem dpOs_get : ∀ {xs : List D} {i : Nat} {x : D}, xs[i]? = some x → dpO x ≤ dpOs xs
  | [], _, _, h => by simp at h
  | y :: ys, 0, x, h => by
    simp at h
    subst h
    exact Nat.le_max_left _ _
  | y :: ys, i + 1, x, h => Nat.le_trans (dpOs_get (xs := ys) (by simpa using h)) (Nat.le_max_right _ _)
/-- equal ahead of i -/
def preO : Nat → List D → List D → Bool
  | 0, _, _ => true
  | i + 1, x :: xs, y :: ys => eqO x y && preO i xs ys
  | _ + 1, _, _ => true
theorem cmpOs_get {n : Str} {fs : List Str} {P : List D → Bool} : ∀ {i : Nat} {xs ys : List D} {x y : D}, cmpOs n fs P xs ys = true → preO i xs ys = true → xs[i]? = some x → ys[i]? = some y → cmpO n fs P x y = true
  | _, [], _, _, _, _, _, h, _ => by simp at h
  | _, _ :: _, [], _, _, _, _, _, h => by simp at h
  | 0, a :: xs, b :: ys, x, y, h, _, h1, h2 => by
    simp at h1 h2
    subst h1; subst h2
    simp only [cmpOs, Bool.and_eq_true] at h
    exact h.1
  | i + 1, a :: xs, b :: ys, x, y, h, hp, h1, h2 => by
    simp only [cmpOs, Bool.and_eq_true, Bool.or_eq_true] at h
    simp only [preO, Bool.and_eq_true] at hp
    refine cmpOs_get (i := i) (xs := xs) (ys := ys) ?_ hp.2 (by simpa using h1) (by simpa using h2)
    rcases h.2 with z | z
    · rw [hp.1] at z
      cases z
    · exact z
theorem preO_step : ∀ {i : Nat} {xs ys : List D} {x y : D}, preO i xs ys = true → xs[i]? = some x → ys[i]? = some y → preO (i + 1) xs ys = eqO x y
  | _, [], _, _, _, _, h, _ => by simp at h
  | _, _ :: _, [], _, _, _, _, h => by simp at h
  | 0, a :: xs, b :: ys, x, y, _, h1, h2 => by
    simp at h1 h2
    subst h1; subst h2
    simp [preO]
  | i + 1, a :: xs, b :: ys, x, y, hp, h1, h2 => by
    simp only [preO, Bool.and_eq_true] at hp
    have ih := preO_step (i := i) (xs := xs) (ys := ys) hp.2 (by simpa using h1) (by simpa using h2)
    show (eqO a b && preO (i + 1) xs ys) = _
    rw [hp.1, ih]
    rfl
theorem preO_all : ∀ {xs ys : List D}, preO (min xs.length ys.length) xs ys = true → eqOs xs ys = (xs.length == ys.length)
  | [], [], _ => rfl
  | [], _ :: _, _ => rfl
  | _ :: _, [], _ => rfl
  | x :: xs, y :: ys, h => by
    rw [List.length_cons, List.length_cons, Nat.succ_min_succ] at h
    simp only [preO, Bool.and_eq_true] at h
    rw [eqOs, h.1, preO_all h.2]
    simp
theorem preO_no : ∀ {i : Nat} {xs ys : List D}, preO i xs ys = false → eqOs xs ys = false
  | 0, _, _, h => by cases h
  | i + 1, [], _, h => by cases h
  | i + 1, _ :: _, [], h => by cases h
  | i + 1, x :: xs, y :: ys, h => by
    rw [preO] at h
    rw [eqOs]
    cases e : eqO x y with
    | false => rfl
    | true =>
      rw [e] at h
      rw [preO_no (i := i) h]
      rfl
theorem eqOs_len : ∀ {xs ys : List D}, xs.length ≠ ys.length → eqOs xs ys = false
  | [], [], h => absurd rfl h
  | [], _ :: _, _ => rfl
  | _ :: _, [], _ => rfl
  | x :: xs, y :: ys, h => by
    rw [eqOs, eqOs_len (xs := xs) (ys := ys) (by simpa using h)]
    simp
/-- what is known of the instances' own == -/
structure OwnE (X : Cx) (c : Ctx) (k : Nat) (n : Str) (fs : List Str) (P : List D → Bool) : Prop where
  ex : ∃ (f : Addr) (fd : FuncData) (ps : List Str) (s : WP), FnW X.prog X.w X.K X.mg X.base k f fd ps (SpW c s 0) ∧ Binds X.K fd ps [] ∧ PySem.W.notFirst X.K (c.cl n) (.ref (c.cl n)) = true ∧ Spl X.K (c.cl n) "__eq__" f ∧
    ∀ μ xs ys (Q : QD) (E : QD), P xs = true → P ys = true → Q (.bool (eqOs xs ys)) μ → s [.obj n fs xs, .obj n fs ys] μ Q E
  cm : ∀ xs ys, P xs = true → P ys = true → cmpOs n fs P xs ys = true
section
variable {X : Cx} {c : Ctx} {W : WX} {k m : Nat} {n : Str} {fs : List Str} {P : List D → Bool} {S : Option SA} {F : Hp} {μ : Mu}
theorem run_fnWA {kk : Nat} {A : Around} {f : Addr} {fd : FuncData} {ps : List Str} {sp : Sp} {pins : List (Addr × Obj)} {σ : L2.St} {H : Hp} {s : Shared} {Q : VK} {us : List Value} {vs : List V} (sb : Sub X kk A) (gd : A.guards = some []) (F : FnW X.prog X.w X.K X.mg X.base kk f fd ps sp) (hb : Binds X.K fd ps [])
    (J : Inv X pins σ H s) (r : Vals vs us) (h : sp vs H Q fun _ _ _ => False) : wpAny (model X.prog X.w) A (call (.ref f) us) (EP X pins σ Q) X.xe s := by
  have hl : (us ++ ([] : List Value)).length = ps.length := by rw [List.append_nil, ← r.length]; exact F.len _ _ _ _ h
  have hbs := hb s us J.kIn hl
  rw [List.append_nil] at hbs
  have e0 : Env0 X.prog X.w X.K X.mg X.base A X.stack s H := by
    have e := J.env0
    exact ⟨by rw [sb.fr]; exact e.frames, e.mod, e.bs, e.bsz, e.funs, e.frf, e.hok, e.bare⟩
  refine wpAny_call (codeAny_mono (F.run A X.stack s H ⟨us, []⟩ us vs Q _ gd sb.room e0 hbs r h) fun r s' hq => ?_)
  cases r with
  | error e => exact LamX.takes0 e s' (XE.of_call J (fun _ _ _ h => h) hq)
  | ok fl =>
    cases fl with
    | ret u => exact J.after hq
    | next => exact False.elim hq
    | brk => exact False.elim hq
    | cont => exact False.elim hq
/-- what stands behind a comparison -/
def EqEnd (X : Cx) (c : Ctx) (S : Option SA) (F : Hp) (m : Nat) (μ : Mu) (I : Hp) (pins : List (Addr × Obj)) (σ : L2.St) (s' : Shared) : Prop := ∃ I' H', Inv X pins σ H' s' ∧ Same I I' ∧ Wd c S F m I' μ H'
def EqB (X : Cx) (c : Ctx) (S : Option SA) (F : Hp) (m : Nat) (μ : Mu) (kk : Nat) (x y : D) : Prop := ∀ (A : Around) (pins : List (Addr × Obj)) (s : Shared) (σ : L2.St) (I H : Hp) (v u : V) (v' u' : Value), Sub X kk A → A.guards = some [] → Inv X pins σ H s → Wd c S F m I μ H →
  Rep c S I x v → Rep c S I y u → RelV v v' → RelV u u' → wpAny (model X.prog X.w) A (eqBool v' u') (fun r s' => r = eqO x y ∧ EqEnd X c S F m μ I pins σ s') X.xe s
/-- the same, by the rich comparison of two things -/
def RcB (X : Cx) (c : Ctx) (S : Option SA) (F : Hp) (m : Nat) (μ : Mu) (kk : Nat) (x y : D) : Prop := ∀ (A : Around) (pins : List (Addr × Obj)) (s : Shared) (σ : L2.St) (I H : Hp) (a b : Addr), Sub X kk A → A.guards = some [] → Inv X pins σ H s → Wd c S F m I μ H →
  Rep c S I x (.ref a) → Rep c S I y (.ref b) → wpAny (model X.prog X.w) A (richCompare .Eq (.ref a) (.ref b)) (fun v s' => v = .bool (eqO x y) ∧ EqEnd X c S F m μ I pins σ s') X.xe s
theorem reps_inj {I : Hp} : ∀ {xs ys : List D} {vs : List V}, Reps c S I xs vs → Reps c S I ys vs → (∀ (i : Nat) x y v, xs[i]? = some x → ys[i]? = some y → Rep c S I x v → Rep c S I y v → preO i xs ys = true → eqO x y = true) → eqOs xs ys = true
  | _, _, _, .nil, .nil, _ => rfl
  | x :: xs, y :: ys, _, .cons r rs, .cons q qs, h => by
    have e := h 0 x y _ rfl rfl r q rfl
    rw [eqOs, e, reps_inj rs qs fun i x' y' v h1 h2 h3 h4 h5 => h (i + 1) x' y' v (by simpa using h1) (by simpa using h2) h3 h4 (by rw [preO, e, h5]; rfl)]
    rfl
theorem cmpO_cases {x y : D} (h : cmpO n fs P x y = true) : (∃ xs ys, x = .tup xs ∧ y = .tup ys ∧ cmpOs n fs P xs ys = true) ∨ (∃ xs ys, x = .list xs ∧ y = .list ys ∧ cmpOs n fs P xs ys = true) ∨
    (∃ xs ys, x = .obj n fs xs ∧ y = .obj n fs ys ∧ P xs = true ∧ P ys = true) ∨ (flatD x = true ∧ flatD y = true) := by
  cases x with
  | tup xs =>
    cases y with
    | tup ys => exact .inl ⟨xs, ys, rfl, rfl, by rw [cmpO] at h; exact h⟩
    | _ => simp [cmpO, flatD] at h
  | list xs =>
    cases y with
    | list ys => exact .inr (.inl ⟨xs, ys, rfl, rfl, by rw [cmpO] at h; exact h⟩)
    | _ => simp [cmpO, flatD] at h
  | obj n1 f1 xs =>
    cases y with
    | obj n2 f2 ys =>
      simp only [cmpO, Bool.and_eq_true, decide_eq_true_eq] at h
      obtain ⟨rfl, rfl, p1, rfl, rfl, p2⟩ := h
      exact .inr (.inr (.inl ⟨xs, ys, rfl, rfl, p1, p2⟩))
    | _ => simp [cmpO, flatD] at h
  | _ => exact .inr (.inr (.inr (by cases y <;> simp_all [cmpO, flatD])))
theorem eqO_flat {x y : D} (h : flatD x = true) : eqO x y = eqF x y := by
  cases x <;> first | (cases y <;> rw [eqO] <;> (intros; contradiction)) | (simp [flatD] at h; done)
/-- one thing is equal to itself -/
theorem same_eq (O : OwnE X c k n fs P) (hK : X.K = c.K) {I H : Hp} {pins : List (Addr × Obj)} {σ : L2.St} {s : Shared} (J : Inv X pins σ H s) (w : Wd c S F m I μ H) : ∀ (dep : Nat) {x y : D} {v : V}, dpO x ≤ dep → Rep c S I x v → Rep c S I y v → cmpO n fs P x y = true → eqO x y = true := by
  intro dep
  induction dep with
  | zero =>
    intro x y v hd rx ry hc
    rcases cmpO_cases hc with ⟨xs, ys, rfl, rfl, h⟩ | ⟨xs, ys, rfl, rfl, h⟩ | ⟨xs, ys, rfl, rfl, h⟩ | ⟨h1, h2⟩
    · simp [dpO] at hd
    · simp [dpO] at hd
    · simp [dpO] at hd
    · rw [eqO_flat h1, ← eqF_eqV h1 h2, ← (rep_flat rx h1).1, ← (rep_flat ry h2).1, (rep_flat rx h1).1, eqF_eqV h1 h1]
      exact eqF_refl h1
  | succ dep ih =>
    intro x y v hd rx ry hc
    rcases cmpO_cases hc with ⟨xs, ys, rfl, rfl, h⟩ | ⟨xs, ys, rfl, rfl, h⟩ | ⟨xs, ys, rfl, rfl, p1, p2⟩ | ⟨h1, h2⟩
    · have hd2 : dpOs xs ≤ dep := by rw [dpO] at hd; omega
      cases rx with
      | tup g r =>
        cases ry with
        | tup g2 r2 =>
          have e := J.tuple_inj (hK ▸ w.tupH g) (hK ▸ w.tupH g2)
          subst e
          rw [eqO]
          exact reps_inj r r2 fun i x y v h1 h2 h3 h4 h5 => ih (Nat.le_trans (dpOs_get h1) hd2) h3 h4 (cmpOs_get h h5 h1 h2)
    · have hd2 : dpOs xs ≤ dep := by rw [dpO] at hd; omega
      cases rx with
      | list g r =>
        cases ry with
        | list g2 r2 =>
          rw [g] at g2
          injection g2 with g2
          injection g2 with g2
          subst g2
          rw [eqO]
          exact reps_inj r r2 fun i x y v h1 h2 h3 h4 h5 => ih (Nat.le_trans (dpOs_get h1) hd2) h3 h4 (cmpOs_get h h5 h1 h2)
    · have hd2 : dpOs xs ≤ dep := by rw [dpO] at hd; omega
      have h := O.cm xs ys p1 p2
      cases rx with
      | obj g r l hn =>
        cases ry with
        | obj g2 r2 l2 hn2 =>
          rw [g] at g2
          injection g2 with g2
          injection g2 with _ _ g2
          have g3 := congrArg (List.map Prod.snd) g2
          rw [List.map_snd_zip (by omega), List.map_snd_zip (by omega)] at g3
          subst g3
          rw [eqO]
          exact reps_inj r r2 fun i x y v h1 h2 h3 h4 h5 => ih (Nat.le_trans (dpOs_get h1) hd2) h3 h4 (cmpOs_get h h5 h1 h2)
    · rw [eqO_flat h1, ← eqF_eqV h1 h2, ← (rep_flat rx h1).1, ← (rep_flat ry h2).1, (rep_flat rx h1).1, eqF_eqV h1 h1]
      exact eqF_refl h1
theorem gd_in1 {A : Around} (h : A.guards = some []) : A.in1.guards = some [] := h
/-- a turn of the loop over the items -/
theorem turnB {kk : Nat} {A : Around} (sb : Sub X (kk + 1) A) (gd : A.guards = some []) {xs ys : List D} (ih : ∀ (i : Nat) x y, xs[i]? = some x → ys[i]? = some y → preO i xs ys = true → EqB X c S F m μ kk x y) {I : Hp} {vs us : List V} {its its2 : List Value} (rx : Reps c S I xs vs) (ry : Reps c S I ys us) (r : Vals vs its) (r2 : Vals us its2)
    {pins : List (Addr × Obj)} {σ : L2.St} (i : Nat) (h1 : i < its.toArray.size) (h2 : i < its2.toArray.size) (s' : Shared) (l : preO i xs ys = true ∧ EqEnd X c S F m μ I pins σ s') :
    wpAny (model X.prog X.w) A.in1 (eqBool its.toArray[i] its2.toArray[i]) (GQ2.Turn (fun s' => preO (i + 1) xs ys = true ∧ EqEnd X c S F m μ I pins σ s') fun s' => eqOs xs ys = false ∧ EqEnd X c S F m μ I pins σ s') X.xe s' := by
  obtain ⟨hp, I1, H1, J1, s1, w1⟩ := l
  have g1 : its[i]? = some its.toArray[i] := by
    have h1' : i < its.length := by simpa using h1
    rw [List.getElem?_eq_getElem h1'] <;> simp
  have g2 : its2[i]? = some its2.toArray[i] := by
    have h2' : i < its2.length := by simpa using h2
    rw [List.getElem?_eq_getElem h2'] <;> simp
  have k1 : i < xs.length := by rw [rx.length, r.length]; simpa using h1
  have k2 : i < ys.length := by rw [ry.length, r2.length]; simpa using h2
  obtain ⟨v, hv, rv⟩ := rx.get (List.getElem?_eq_getElem k1)
  obtain ⟨u, hu, ru⟩ := ry.get (List.getElem?_eq_getElem k2)
  obtain ⟨v', hv', rv'⟩ := r.get hv
  obtain ⟨u', hu', ru'⟩ := r2.get hu
  rw [g1] at hv'
  rw [g2] at hu'
  rw [Option.some.inj hv', Option.some.inj hu']
  have hx := List.getElem?_eq_getElem k1
  have hy := List.getElem?_eq_getElem k2
  refine wpAny_mono (ih i _ _ hx hy hp A.in1 pins s' σ I1 H1 v u v' u' sb.in1 (gd_in1 gd) J1 w1 (rv.mono s1) (ru.mono s1) rv' ru') (fun q s2 hq => ?_) fun _ _ x => x
  obtain ⟨hq, I2, H2, J2, s2', w2⟩ := hq
  have e := preO_step hp hx hy
  cases q with
  | true => exact .inl ⟨rfl, e.trans hq.symm, I2, H2, J2, s1.trans s2', w2⟩
  | false => exact .inr ⟨rfl, preO_no (i := i + 1) (e.trans hq.symm), I2, H2, J2, s1.trans s2', w2⟩
theorem rcb_tup {kk : Nat} (hK : X.K = c.K) {xs ys : List D} (ih : ∀ (i : Nat) x y, xs[i]? = some x → ys[i]? = some y → preO i xs ys = true → EqB X c S F m μ kk x y) : RcB X c S F m μ (kk + 1) (.tup xs) (.tup ys) := by
  intro A pins s σ I H a b sb gd J w rx ry
  cases rx with
  | tup g r =>
    cases ry with
    | tup g2 r2 =>
      obtain ⟨its, q, e, z⟩ := J.tuple (hK ▸ w.tupH g)
      obtain ⟨its2, q2, e2, z2⟩ := J.tuple (hK ▸ w.tupH g2)
      have l1 : its.toArray.size = xs.length := by rw [List.size_toArray, ← q.length, ← r.length]
      have l2 : its2.toArray.size = ys.length := by rw [List.size_toArray, ← q2.length, ← r2.length]
      refine GQ2.rc_tupB sb.room.units0 (fun i s' => preO i xs ys = true ∧ EqEnd X c S F m μ I pins σ s') (fun s' => eqOs xs ys = false ∧ EqEnd X c S F m μ I pins σ s') e e2 (fun i h1 h2 s' l => turnB sb gd ih r r2 q q2 i h1 h2 s' l) (fun s' l => ?_) (fun s' l => ⟨by rw [eqO, l.1], l.2⟩) ⟨rfl, I, H, J, Same.refl I, w⟩
      refine ⟨?_, l.2⟩
      have l3 := l.1
      rw [l1, l2] at l3 ⊢
      rw [eqO, preO_all l3]
theorem rcb_list {kk : Nat} (hK : X.K = c.K) {xs ys : List D} (ih : ∀ (i : Nat) x y, xs[i]? = some x → ys[i]? = some y → preO i xs ys = true → EqB X c S F m μ kk x y) : RcB X c S F m μ (kk + 1) (.list xs) (.list ys) := by
  intro A pins s σ I H a b sb gd J w rx ry
  cases rx with
  | @list _ _ vs g r =>
    cases ry with
    | @list _ _ us g2 r2 =>
      by_cases hl : xs.length = ys.length
      · have look : ∀ s', EqEnd X c S F m μ I pins σ s' → ∃ (its its2 : List Value) (n n2 : Nat), Vals vs its ∧ Vals us its2 ∧ s'.heap.get? a = some { cls := .type "list", data := .seq its.toArray n } ∧ s'.heap.get? b = some { cls := .type "list", data := .seq its2.toArray n2 } ∧ its.toArray.size = xs.length ∧ its2.toArray.size = xs.length := by
          rintro s' ⟨I1, H1, J1, s1, w1⟩
          obtain ⟨its, n, q, e, _⟩ := J1.lst (w1.lst (s1 _ _ g))
          obtain ⟨its2, n2, q2, e2, _⟩ := J1.lst (w1.lst (s1 _ _ g2))
          exact ⟨its, its2, n, n2, q, q2, e, e2, by rw [List.size_toArray, ← q.length, ← r.length], by rw [List.size_toArray, ← q2.length, ← r2.length, hl]⟩
        refine GQ2.rc_listB (N := xs.length) sb.room.units0 (fun i s' => preO i xs ys = true ∧ EqEnd X c S F m μ I pins σ s') (fun s' => eqOs xs ys = false ∧ EqEnd X c S F m μ I pins σ s') (fun i s' l => ?_) (fun s' l => ?_) (fun s' l => ⟨?_, l.2⟩) (fun s' l => ⟨by rw [eqO, l.1], l.2⟩) ⟨rfl, I, H, J, Same.refl I, w⟩
        · obtain ⟨its, its2, n, n2, q, q2, e, e2, z, z2⟩ := look s' l.2
          exact ⟨its.toArray, its2.toArray, n, n2, e, e2, z, z2, fun h1 h2 => turnB sb gd ih r r2 q q2 i h1 h2 s' l⟩
        · obtain ⟨its, its2, n, n2, q, q2, e, e2, z, z2⟩ := look s' l.2
          exact ⟨its.toArray, its2.toArray, n, n2, e, e2, z, z2⟩
        · have l3 := l.1
          rw [eqO, preO_all (by rw [← hl, Nat.min_self]; exact l3), hl]
          simp
      · obtain ⟨its, n, q, e, _⟩ := J.lst (w.lst g)
        obtain ⟨its2, n2, q2, e2, _⟩ := J.lst (w.lst g2)
        refine GQ2.rc_listN sb.room.units0 e e2 ?_ ⟨by rw [eqO, eqOs_len hl], I, H, J, Same.refl I, w⟩
        rw [List.size_toArray, List.size_toArray, ← q.length, ← q2.length, ← r.length, ← r2.length]
        exact hl
theorem rcb_obj (O : OwnE X c k n fs P) (hm : m ≤ LIM) {xs ys : List D} (p1 : P xs = true) (p2 : P ys = true) : RcB X c S F m μ k (.obj n fs xs) (.obj n fs ys) := by
  intro A pins s σ I H a b sb gd J w rx ry
  obtain ⟨f, fd, ps, sw, G, hb, hn, hs, ho⟩ := O.ex
  obtain ⟨a', _, _, ea, ha, _⟩ := asObj_rep w rx rfl
  obtain ⟨b', _, _, eb, hb', _⟩ := asObj_rep w ry rfl
  cases ea
  cases eb
  obtain ⟨mA, Oa, _⟩ := ins_get J.hok ha
  obtain ⟨od, Ja, _⟩ := Oa.look
  obtain ⟨mB, Ob, _⟩ := ins_get J.hok hb'
  obtain ⟨od', Jb, _⟩ := Ob.look
  have sp : SpW c sw 0 [.ref a, .ref b] H (fun v H' => v = .bl (eqOs xs ys) ∧ ∃ I', Same I I' ∧ Wd c S F m I' μ H') fun _ _ _ => False := by
    refine ⟨S, F, m, I, μ, _, fun d μ' => d = .bool (eqOs xs ys) ∧ μ' = μ, fun _ _ => False, hm, w, .cons rx (.cons ry .nil), ho μ xs ys _ _ p1 p2 ⟨rfl, rfl⟩, fun d μ' v I' H' p s w' r => ?_, fun _ _ _ _ _ _ p => p.elim⟩
    obtain ⟨rfl, rfl⟩ := p
    cases r
    exact ⟨rfl, I', s, w'⟩
  refine wpAny_mono (cmp_own (op := .Eq) (Q := EP X pins σ (fun v H' => v = .bl (eqOs xs ys) ∧ ∃ I', Same I I' ∧ Wd c S F m I' μ H')) sb.room.units0 J.kIn Ja Jb.type hn hs.at_ hs.fn (thn (run_fnWA (us := [.ref a, .ref b]) (vs := [.ref a, .ref b]) sb gd G hb J (.cons rfl (.cons rfl .nil)) sp) fun r s' z => cmpBack_of' z)) (fun v s' z => ?_) fun _ _ x => x
  obtain ⟨v', H', J', r', rfl, I', s1, w1⟩ := z
  cases r'
  exact ⟨by rw [eqO], I', H', J', s1, w1⟩
theorem eqb_of (O : OwnE X c k n fs P) (hK : X.K = c.K) {x y : D} {kk dep : Nat} (hd : dpO x ≤ dep) (hc : cmpO n fs P x y = true) (hx : ∀ I v, Rep c S I x v → ∃ a, v = .ref a) (hy : ∀ I v, Rep c S I y v → ∃ a, v = .ref a) (h : RcB X c S F m μ kk x y) : EqB X c S F m μ kk x y := by
  intro A pins s σ I H v u v' u' sb gd J w rx ry rv ru
  obtain ⟨a, rfl⟩ := hx I v rx
  obtain ⟨b, rfl⟩ := hy I u ry
  cases rv
  cases ru
  by_cases e : a = b
  · subst e
    have eo := same_eq O hK J w dep hd rx ry hc
    rw [eo]
    exact SeqAt.EqAt.same (A := A) (s := s) (.ref a) X.prog X.w X.xe _ ⟨rfl, I, H, J, Same.refl I, w⟩
  · refine GQ.eqBool_refG e (wpAny_mono (h A pins s σ I H a b sb gd J w rx ry) (fun r s' q => ?_) fun _ _ x => x)
    exact ⟨_, q.1, rfl, q.2⟩
theorem RcB.mono {x y : D} {kk kk' : Nat} (h : RcB X c S F m μ kk x y) (hk : kk ≤ kk') : RcB X c S F m μ kk' x y := fun A pins s σ I H a b sb => h A pins s σ I H a b (sb.mono hk)
theorem eqb (O : OwnE X c k n fs P) (hK : X.K = c.K) (hm : m ≤ LIM) : ∀ (dep : Nat) {x y : D}, dpO x ≤ dep → cmpO n fs P x y = true → EqB X c S F m μ (k + dep) x y := by
  intro dep
  induction dep with
  | zero =>
    intro x y hd hc
    rcases cmpO_cases hc with ⟨xs, ys, rfl, rfl, h⟩ | ⟨xs, ys, rfl, rfl, h⟩ | ⟨xs, ys, rfl, rfl, h⟩ | ⟨h1, h2⟩
    · simp [dpO] at hd
    · simp [dpO] at hd
    · simp [dpO] at hd
    · intro A pins s σ I H v u v' u' sb gd J w rx ry rv ru
      have q := eqAt_V (A := A) (s := s) rv ru (rep_flat rx h1).2 (rep_flat ry h2).2
      rw [(rep_flat rx h1).1, (rep_flat ry h2).1, eqF_eqV h1 h2, ← eqO_flat h1] at q
      exact q X.prog X.w X.xe _ ⟨rfl, I, H, J, Same.refl I, w⟩
  | succ dep ih =>
    intro x y hd hc
    rcases cmpO_cases hc with ⟨xs, ys, rfl, rfl, h⟩ | ⟨xs, ys, rfl, rfl, h⟩ | ⟨xs, ys, rfl, rfl, p1, p2⟩ | ⟨h1, h2⟩
    · have hd2 : dpOs xs ≤ dep := by rw [dpO] at hd; omega
      refine eqb_of O hK hd hc (fun I v r => ?_) (fun I v r => ?_) (rcb_tup hK fun i x y g1 g2 g3 => ih (Nat.le_trans (dpOs_get g1) hd2) (cmpOs_get h g3 g1 g2))
      · cases r; exact ⟨_, rfl⟩
      · cases r; exact ⟨_, rfl⟩
    · have hd2 : dpOs xs ≤ dep := by rw [dpO] at hd; omega
      refine eqb_of O hK hd hc (fun I v r => ?_) (fun I v r => ?_) (rcb_list hK fun i x y g1 g2 g3 => ih (Nat.le_trans (dpOs_get g1) hd2) (cmpOs_get h g3 g1 g2))
      · cases r; exact ⟨_, rfl⟩
      · cases r; exact ⟨_, rfl⟩
    · refine eqb_of O hK hd hc (fun I v r => ?_) (fun I v r => ?_) ((rcb_obj O hm p1 p2).mono (Nat.le_add_right _ _))
      · cases r; exact ⟨_, rfl⟩
      · cases r; exact ⟨_, rfl⟩
    · intro A pins s σ I H v u v' u' sb gd J w rx ry rv ru
      have q := eqAt_V (A := A) (s := s) rv ru (rep_flat rx h1).2 (rep_flat ry h2).2
      rw [(rep_flat rx h1).1, (rep_flat ry h2).1, eqF_eqV h1 h2, ← eqO_flat h1] at q
      exact q X.prog X.w X.xe _ ⟨rfl, I, H, J, Same.refl I, w⟩
/-- two sequences of one kind -/
def twoSq : D → D → Bool
  | .tup _, .tup _ => true
  | .list _, .list _ => true
  | _, _ => false
def oEqR (n : Str) (fs : List Str) (P : List D → Bool) : WOp := fun x y μ Q _ => twoSq x y = true ∧ cmpO n fs P x y = true ∧ dpO x ≤ 8 ∧ Q (.v (.bool (eqO x y))) μ
theorem w_eqR (O : OwnE X c k n fs P) (gd : X.A.guards = some []) (hr : Room (k + 8) X.A) (hK : X.K = c.K := by rfl) : Op2 X c W 0 (compareOp .Eq) (oEqR n fs P) := by
  intro pins sh σ H x y v u Q J rx ry h
  obtain ⟨S, F, m, I, μ, dx, dy, Qd, Xd, hl, w, ra, rb, ⟨h1, h2, h3, h⟩, q, x⟩ := h
  have hm : m ≤ LIM := by omega
  have sb : Sub X (k + 8) X.A := ⟨hr, rfl⟩
  show wpAny (model X.prog X.w) X.A (richCompare .Eq v u) (EP X pins σ Q) X.xe sh
  have fin : ∀ {a b : Addr}, Rep c S I dx (.ref a) → Rep c S I dy (.ref b) → RcB X c S F m μ (k + 8) dx dy → wpAny (model X.prog X.w) X.A (richCompare .Eq (.ref a) (.ref b)) (EP X pins σ Q) X.xe sh := fun ra rb hh => by
    refine wpAny_mono (hh X.A pins sh σ I H _ _ sb gd J w ra rb) (fun v s' z => ?_) fun _ _ x => x
    obtain ⟨rfl, I', H', J', s1, w1⟩ := z
    exact ⟨.bl _, H', J', rfl, q _ μ _ I' H' h s1 w1 .bool⟩
  cases dx with
  | tup xs =>
    cases dy with
    | tup ys =>
      have hd2 : dpOs xs ≤ 7 := by rw [dpO] at h3; omega
      have hc : cmpOs n fs P xs ys = true := by rw [cmpO] at h2; exact h2
      have hh : RcB X c S F m μ (k + 7 + 1) (.tup xs) (.tup ys) := rcb_tup hK fun i x y g1 g2 g3 => eqb O hK hm 7 (Nat.le_trans (dpOs_get g1) hd2) (cmpOs_get hc g3 g1 g2)
      cases ra with
      | tup g r =>
        cases rb with
        | tup g2 r2 =>
          cases rx
          cases ry
          exact fin (.tup g r) (.tup g2 r2) hh
    | _ => cases h1
  | list xs =>
    cases dy with
    | list ys =>
      have hd2 : dpOs xs ≤ 7 := by rw [dpO] at h3; omega
      have hc : cmpOs n fs P xs ys = true := by rw [cmpO] at h2; exact h2
      have hh : RcB X c S F m μ (k + 7 + 1) (.list xs) (.list ys) := rcb_list hK fun i x y g1 g2 g3 => eqb O hK hm 7 (Nat.le_trans (dpOs_get g1) hd2) (cmpOs_get hc g3 g1 g2)
      cases ra with
      | list g r =>
        cases rb with
        | list g2 r2 =>
          cases rx
          cases ry
          exact fin (.list g r) (.list g2 r2) hh
    | _ => cases h1
  | _ => cases h1
end
end DL

set_option Elab.async false
set_option linter.all false
set_option maxRecDepth 100000
set_option maxHeartbeats 4000000
/-! A16: what a def owns is let go at its end; displays of dicts with one pair. -/
namespace DL
open PySem PyProof.Rows L2
def subMu (μ2 μ1 : Mu) : Prop := ∀ b nd, μ2 b = some nd → μ1 b = some nd
/-- a def at whose end cells may be let go -/
def wDefD (n N : Nat) (b : WS) : WP := fun ds μ Q X => wDef n N b ds μ (fun d μ1 => ∃ μ2, subMu μ2 μ1 ∧ Q d μ2) X
theorem SpW.drop {c : Ctx} {n N : Nat} {b : WS} {k : Nat} {vs : List V} {H : Hp} {Q : VK} {Ex : XK} (h : SpW c (wDefD n N b) k vs H Q Ex) : SpW c (wDef n N b) k vs H Q Ex := by
  obtain ⟨S, F, m, I, μ, ds, Qd, Xd, hl, w, r, h, q, x⟩ := h
  refine ⟨S, F, m, I, μ, ds, _, Xd, hl, w, r, h, fun d μ' v I' H' p s w' r' => ?_, x⟩
  obtain ⟨μ2, e, p⟩ := p
  exact q d μ2 v I' H' p s (w'.drop e) r'
theorem subMu.refl (μ : Mu) : subMu μ μ := fun _ _ h => h
theorem subMu.trans {μ1 μ2 μ3 : Mu} (a : subMu μ1 μ2) (b : subMu μ2 μ3) : subMu μ1 μ3 := fun p nd h => b p nd (a p nd h)
theorem subMu.up {μ1 μ2 : Mu} {p : Addr} {nd : Nd} (a : subMu μ1 μ2) (h : μ2 p = Option.none) : subMu μ1 (up μ2 p nd) := fun b x e => by
  have q := a b x e
  rw [up_ne fun z => by rw [z, h] at q; cases q]
  exact q
/-- a cell that was not owned at first changes -/
theorem subMu.put {μ1 μ2 : Mu} {p : Addr} {nd : Nd} (a : subMu μ1 μ2) (h : μ1 p = Option.none) : subMu μ1 (DL.up μ2 p nd) := fun b x e => by
  rw [up_ne fun z => by rw [z, h] at e; cases e]
  exact a b x e
def keyD : D → Option Key
  | .int i => some (Sum.inl i)
  | .str s => some (Sum.inr s)
  | _ => Option.none
theorem keyD_rep {c : Ctx} {S : Option SA} {I : Hp} {d : D} {v : V} {k : Key} (r : Rep c S I d v) (h : keyD d = some k) : v = kV k := by
  cases r <;> first | (cases h; rfl) | cases h
/-- {k: v} -/
def wDisp1 (m : Bool) (a b : WE) : WE := fun e μ Q X => a e μ (fun x μ1 => b e μ1 (fun y μ2 => match keyD x with
  | some k => sett m Q (.n (.dk [k] [y])) μ2
  | Option.none => False) X) X
/-- {(i, ..): v}, the key of ints as written -/
def wDispT (m : Bool) (ks : List Key) (b : WE) : WE := fun e μ Q X => b e μ (fun y μ2 => sett m Q (.n (.dt [ks] [y])) μ2) X
section
variable {X : Cx} {c : Ctx} {W : WX} {ka kb : Nat} {m : Bool} {a b : Expr} {wa wb : WE} {pos : Pos}
theorem leave_x {S : Option SA} {F : Hp} {n : Nat} {I : Hp} {σ : L2.St} {Xd : QD} {p : Addr} {o : HO} (nF : F p = none) (x : XV c W S F n I σ Xd) : XV c W S (upd F p o) n I σ Xd := fun d μ' cls dx I' H' z s w er => x d μ' cls dx I' H' z s (w.less fun b o e => by rw [upd_ne (ne_of_none e nF)]; exact e) er
theorem g_disp1 (ha : GE X c W ka a wa) (hb : GE X c W kb b wb) : GE X c W (ka + kb) (.Dict [some a] [b] pos) (wDisp1 m wa wb) :=
  L2.PE.imp (pe_disp (pps_cons ha hb pps_nil) rfl rfl (fun z => nomatch z) (show 1 ≤ 15 by decide)) fun σ H Q h => by
    obtain ⟨S, F, n, I, μ, e, Qd, Xd, hl, he, hw, h, q, x⟩ := h
    intro p hp
    have fD := hw.fresh hp
    have nD := hw.no_cell hp
    have nF := hw.nf hp
    show ldE c W ka wa σ (upd H p (.dK [])) fun x H1 => ldE c W kb wb σ H1 fun y H2 => H2 p = some (.dK []) ∧ ∃ kvs : List (Key × V), [(x, y)] = kvs.map (fun kv => (kV kv.1, kv.2)) ∧ kvs.length ≤ 15 ∧ Q (.ref p) (upd H2 p (.dK (mergeK [] kvs)))
    refine ⟨S, upd F p (.dK []), n, I, μ, e, _, Xd, by omega, he, (hw.frame hp).leave upd_same fD.1 fD.2 trivial nD, h, fun da μ1 va I1 H1 pa s1 w1 ra => ?_, leave_x nF (x.mono (by omega) (Same.refl I))⟩
    refine ⟨S, upd F p (.dK []), n + ka, I1, μ1, e, _, Xd, by omega, he.mono s1, w1, pa, fun db μ2 vb I2 H2 pb s2 w2 rb => ?_, leave_x nF (x.mono (by omega) s1)⟩
    split at pb
    · rename_i k ek
      obtain ⟨h1, h2, h3, h4, h5⟩ := w2.f p _ upd_same
      have ev := keyD_rep ra ek
      subst ev
      refine ⟨h1, [(k, vb)], rfl, (show 1 ≤ 15 by decide), ?_⟩
      show Q (.ref p) (upd H2 p (.dK [(k, vb)]))
      have w3 := w2.turn (u := .dK [(k, vb)]) trivial
      refine (q.sett (m := m)) _ μ2 _ I2 _ pb (s1.trans s2) ((w3.less fun b o e => ?_).up (by omega)) ⟨p, _, rfl, upd_same, NdR.dk (ks := [k]) (xs := [vb]) (.cons rb .nil) rfl, h2, h3, h5, nF⟩
      rw [upd_ne (ne_of_none e nF)]
      exact e
    · exact pb.elim
def tDispT (tk tv : TE) : TE := fun σ H Q => ∀ p, H p = none → tk σ (upd H p (.dT [])) fun x H1 => tv σ H1 fun y H2 => H2 p = some (.dT []) ∧ ∃ b ks, x = .ref b ∧ H2 b = some (.tup (ks.map kV)) ∧ Q (.ref p) (upd H2 p (.dT [(ks, y)]))
theorem pe_dispT {tk tv : TE} (hu : X.A.units < cLine) (ha : PE X a tk) (hb : PE X b tv) : PE X (.Dict [some a] [b] pos) (tDispT tk tv) := by
  refine ⟨fun pins s σ H Q J q => ?_⟩
  have hn := J.hok.fresh (Nat.le_refl s.heap.objs.size)
  have I1 := J.laid (a := s.heap.objs.size) (o := .dT []) (h' := s.heap.push { cls := .type "dict", data := .dict #[] }) (t' := s.toks) (fun _ _ q => Heap.get?_push_of_some _ q) (Nat.le_refl _) (dt_empty s.heap J.big)
  rw [arm_eval_Dict, zip_pairTrees [some a] [b] X.env pos rfl rfl, dictDisplay_pairs _ (by intro z; cases z) (by show 1 < 17; decide)]
  refine wpAny_bind (wpAny_standAt (wpAny_bind ?_))
  unfold subDict
  refine wpAny_bind (wpAny_alloc ?_)
  refine wpAny_bind (wpAny_holding ?_)
  rw [if_pos (by show 1 ≤ 15; decide)]
  refine wpAny_bind (pairTrees_cons_walk (thn (ha.run pins _ σ _ _ I1 (q _ hn)) fun u s1 ⟨x, H1, I1, rx, q1⟩ => thn (hb.run pins s1 σ H1 _ I1 q1) fun w2 s2 ⟨y, H2, I2, ry, e, bb, ks, ex, eb, q2⟩ => pairTrees_nil_walk ?_))
  subst ex
  obtain rfl : u = Value.ref bb := rx
  refine wpAny_holding ?_
  rw [List.forIn_cons]
  obtain ⟨z, hd, xs, rel, dd⟩ := dt_of I2.hok e
  cases rel
  refine wpAny_bind ?_
  dsimp only
  refine wpAny_bind (wpAny_bind (wpAny_dictSet_heap (hsz := Nat.zero_le _) hu (key_of I2.hok eb) dd fun h' dd' hs => wpAny_pure ?_))
  dsimp only
  rw [List.forIn_nil]
  refine wpAny_pure (wpAny_pure (wpAny_pure (wpAny_pure ?_)))
  obtain ⟨q', es, ep, hq, g2, g3, g4, _, g5⟩ := dd'
  refine ⟨.ref s.heap.objs.size, _, d_write (ob := .dT [(ks, y)]) I2 (by rw [e]; exact True.intro) hs ⟨q', hq⟩ ⟨by rw [sizeLine_eq]; exact (show 1 ≤ _ by decide), hd, _, (KT.put (H := H2) (kvs := []) (xs := []) .nil ks eb ry).keeps fun cc ys ec => ?_, q', es, ep, hq, g2, g3, g4, g5⟩, rfl, q2⟩
  rw [upd_ne (ne_of ec e (fun z => nomatch z))]
  exact ec
theorem g_dispT {es : List Expr} {x1 : Nat} {is_ : List Int} (hu : X.A.units < cLine) (hk : PE X (.Tuple es x1 pos) (tTup fun _ H Q => Q (is_.map V.int) H)) (hz : is_.length ≤ sizeLine) (hb : GE X c W kb b wb) {p2 : Pos} : GE X c W kb (.Dict [some (.Tuple es x1 pos)] [b] p2) (wDispT m (is_.map Sum.inl) wb) :=
  L2.PE.imp (pe_dispT hu hk hb) fun σ H Q h => by
    obtain ⟨S, F, n, I, μ, e, Qd, Xd, hl, he, hw, h, q, x⟩ := h
    intro p hp
    have fD := hw.fresh hp
    have nD := hw.no_cell hp
    have nF := hw.nf hp
    refine ⟨by rw [List.length_map]; exact hz, fun b hbn => ?_⟩
    have hbp : b ≠ p := fun z => by rw [z, upd_same] at hbn; cases hbn
    have w0 := (hw.frame (u := .dT []) hp).leave upd_same fD.1 fD.2 trivial nD
    have fB := w0.fresh hbn
    have nB := w0.no_cell hbn
    have nFB := w0.nf hbn
    have w1 := w0.new (u := .tup (is_.map V.int)) hbn
    have s1 : Same I (upd I b (.tup (is_.map V.int))) := same_new fB.1
    refine ⟨S, _, n, _, μ, e, _, Xd, by omega, he.mono s1, w1, h, fun db μ2 vb I2 H2 pb s2 w2 rb => ?_, leave_x nF (x.mono (by omega) s1)⟩
    obtain ⟨h1, h2, h3, h4, h5⟩ := w2.f p _ upd_same
    have g1 : H2 b = some (.tup (is_.map V.int)) := by
      rcases w2.i b _ (s2 _ _ upd_same) with z | ⟨z, _⟩
      · exact z
      · cases z
    refine ⟨h1, b, is_.map Sum.inl, rfl, by rw [g1, List.map_map]; rfl, ?_⟩
    have w4 := w2.turn (u := .dT [(is_.map Sum.inl, vb)]) trivial
    refine (q.sett (m := m)) _ μ2 _ I2 _ pb (s1.trans s2) (w4.less fun bb o ee => ?_) ⟨p, _, rfl, upd_same, NdR.dt (ks := [is_.map Sum.inl]) (xs := [vb]) (.cons rb .nil) rfl, h2, h3, h5, nF⟩
    rw [upd_ne (ne_of_none ee nF)]
    exact ee
end
end DL

set_option Elab.async false
set_option linter.all false
set_option maxRecDepth 100000
set_option maxHeartbeats 4000000
/-! A17: len by an own __len__, a tuple times a number, != of a tuple and (). -/
namespace DL
open PySem PyProof.Rows L2
open PySem.W in
theorem len_own {prog : Program} {w : World} {A : Around} {E : Value → Shared → Prop} {s : Shared} {K : PySem.W.Frag} {x C f : Addr} {ox : Obj} {od : Option Obj} {Q : Value → Shared → Prop} (X : K.In s.heap) (I : PySem.W.InstAt s.heap x ox C od) (hs : findIn K (.ref C) "__len__" = some (some (.ref f))) (hf : isFn K (.ref f) = true)
    (h : wpAny (model prog w) A.in1 (call (.ref f) [.ref x]) (fun r s' => ∃ i t, r = .int i t ∧ 0 ≤ i ∧ i < 2 ^ 63 ∧ ∀ t tk, Q (.int i t) { s' with toks := tk }) E s) : wpAny (model prog w) A (call (.builtin "len") [.ref x]) Q E s := by
  refine Calls.call_function_entry kind_len plain_len entry_len (args_len1 _) ?_
  unfold Builtin.«len»
  refine wpAny_bind (m := oneArg "len" _) (wpAny_pure ?_)
  refine wpAny_bind (m := callSpecial? (.ref x) (Str.ofString "__len__")) (special_fn X I hs (beq_iff_eq.mp hf) (wpAny_mono h (fun r s' z => ?_) fun _ _ z => z))
  obtain ⟨i, t, rfl, h0, h1, q⟩ := z
  refine wpAny_bind (wpAny_holding (wpAny_pure ?_))
  refine wpAny_bind (wpAny_letGo ?_)
  show wpAny _ _ (if i < 0 then _ else _) _ _ _
  rw [if_neg (by omega)]
  show wpAny _ _ (if i ≥ 2 ^ 63 then _ else _) _ _ _
  rw [if_neg (by omega)]
  exact wpAny_bind (wpAny_mkInt (wpAny_pure ⟨_, rfl, q _ _⟩))
def cbLenO (n : Str) (s : WP) : WC := fun xs μ Q _ => one xs fun x => clsOf μ x = some n ∧ s [x] μ (fun d μ1 => int1 d fun i => 0 ≤ i ∧ i < 2 ^ 63 ∧ Q (.v (.int i)) μ1) fun _ _ => False
section
variable {X : Cx} {c : Ctx} {W : WX} {k : Nat} {n : Str} {s : WP} {f : Addr} {fd : FuncData} {ps : List Str}
theorem w_lenO (G : FnW X.prog X.w X.K X.mg X.base k f fd ps (SpW c s 0)) (gd : X.A.guards = some []) (hr : Room (k + 1) X.A) (hb : Binds X.K fd ps []) (hs : Spl X.K (c.cl n) "__len__" f) : CbW X c (.builtin "len") (cbLenO n s) :=
  ⟨fun xs H Q => ∃ W σ, ldC c W 0 (cbLenO n s) σ xs H Q, fun pins sh σ H xs us Q J rv ⟨W, σ', h⟩ => by
    obtain ⟨S, F, m, I, μ, ds, Qd, Xd, hl, w, ra, h, q, x⟩ := h
    obtain ⟨d, rfl, h1, h2⟩ := one_cases h
    obtain ⟨v, rfl, rx⟩ := reps1 ra
    obtain ⟨u, rfl, ru⟩ := vals1 rv
    obtain ⟨fs, ds, e1⟩ := clsOf_some h1
    obtain ⟨a, _, _, rfl, ha, _⟩ := asObj_rep w rx e1
    cases ru
    obtain ⟨mA, Oa, _⟩ := ins_get J.hok ha
    obtain ⟨od, Ja, _⟩ := Oa.look
    refine len_own J.kIn Ja hs.at_ hs.fn ?_
    have sp : SpW c s 0 [.ref a] H (fun v H' => ∃ i : Int, v = .int i ∧ 0 ≤ i ∧ i < 2 ^ 63 ∧ Q (.int i) H') fun _ _ _ => False := by
      refine ⟨S, F, m, I, μ, _, _, fun _ _ => False, hl, w, .cons rx .nil, h2, fun d μ' v I' H' p s w' r => ?_, fun _ _ _ _ _ _ p => p.elim⟩
      obtain ⟨i, rfl, g0, g1, p⟩ := int1_cases p
      cases r
      exact ⟨i, rfl, g0, g1, q _ μ' _ I' H' p s w' .int⟩
    refine wpAny_mono (run_fnWA (us := [.ref a]) (vs := [.ref a]) (Sub.in1 (X := X) ⟨hr, rfl⟩) gd G hb J (.cons rfl .nil) sp) (fun r s' z => ?_) fun _ _ z => z
    obtain ⟨v', H', J', r', i, rfl, g0, g1, q'⟩ := z
    obtain ⟨t, rfl⟩ := r'
    exact ⟨i, t, rfl, g0, g1, fun t' tk => ⟨.int i, H', J'.tok _, ⟨t', rfl⟩, q'⟩⟩,
  fun W σ xs H Q h => ⟨W, σ, h⟩⟩
end
end DL

set_option Elab.async false
set_option linter.all false
set_option maxRecDepth 100000
set_option maxHeartbeats 4000000
/-! P5: the laws' own steps. -/
namespace DL
open PySem L2
def wp_law_is_low : WP := (wDef 1 1 (wRet (wOp false (oIn false) (wOp false oIx (wV 0) (wK (.int 0))) (wTup (waCons (wK (.str "x")) (waCons (wK (.str "y")) waNil))))))
def wp_law_turn : WP := (wDefD 2 7 (wSeq (wAsg 2 (wCall wp_law_pick [] (waCons (wV 0) (waCons (wLst false (waCons (wLst true (waCons (wLst false (waCons (wK (.int 1)) (waCons (wK (.int 0)) waNil))) (waCons (wLst false (waCons (wK (.int 0)) (waCons (wK (.int 1)) waNil))) waNil))) (waCons (wLst true (waCons (wLst false (waCons (wK (.int 0)) (waCons (wUn false oNeg (wK (.int 1))) waNil))) (waCons (wLst false (waCons (wK (.int 1)) (waCons (wK (.int 0)) waNil))) waNil))) (waCons (wLst true (waCons (wLst false (waCons (wK (.int 0)) (waCons (wK (.int 1)) waNil))) (waCons (wLst false (waCons (wK (.int 1)) (waCons (wK (.int 0)) waNil))) waNil))) (waCons (wLst true (waCons (wLst false (waCons (wUn false oNeg (wK (.int 1))) (waCons (wK (.int 0)) waNil))) (waCons (wLst false (waCons (wK (.int 0)) (waCons (wK (.int 1)) waNil))) waNil))) waNil))))) waNil))))
    (wSeq (wFor (wiRng1 (waCons (wCall wp_law_take [] (waCons (wV 0) (waCons (wK (.int 3)) waNil))) waNil)) (wgN 3) (wSeq (wPar 4 5 (waCons (wCall wp_law_number [] (waCons (wV 0) (waCons (wV 1) waNil))) (waCons (wCall wp_law_take [] (waCons (wV 0) (waCons (wK (.int 2)) waNil))) waNil)))
    (wSeq (wAsg 6 (wOp false oIx (wV 2) (wOp false oSub (wK (.int 1)) (wV 5))))
    (wSetL (wLst false (waCons (wOp false oAdd (wOp false oIx (wOp false oIx (wV 2) (wV 5)) (wK (.int 0))) (wOp false oMul (wV 4) (wOp false oIx (wV 6) (wK (.int 0))))) (waCons (wOp false oAdd (wOp false oIx (wOp false oIx (wV 2) (wV 5)) (wK (.int 1))) (wOp false oMul (wV 4) (wOp false oIx (wV 6) (wK (.int 1))))) waNil))) (wV 2) (wV 5)))))
    (wFz 2 (wRet (wTup (waCons (wK (.str "turn")) (waCons (wOp false oIx (wOp false oIx (wV 2) (wK (.int 0))) (wK (.int 0))) (waCons (wOp false oIx (wOp false oIx (wV 2) (wK (.int 0))) (wK (.int 1))) (waCons (wOp false oIx (wOp false oIx (wV 2) (wK (.int 1))) (wK (.int 0))) (waCons (wOp false oIx (wOp false oIx (wV 2) (wK (.int 1))) (wK (.int 1))) waNil)))))))))))
inductive Stp where
  | x (ns : List Int) | y (ns : List Int) | move (s t : Int) | turn (a b c d : Int)
deriving DecidableEq
/-- as the laws write it -/
def Stp.b : Stp → D
  | .x ns => .tup [.str "x", .list (iL ns)]
  | .y ns => .tup [.str "y", .list (iL ns)]
  | .move s t => .tup [.str "move", .int s, .int t]
  | .turn a b c d => .tup [.str "turn", .int a, .int b, .int c, .int d]
/-- as the package has it -/
def Stp.p : Stp → D
  | .x ns => .tup [.str "x", ruleD ns]
  | .y ns => .tup [.str "y", ruleD ns]
  | .move s t => .tup [.str "move", .int s, .int t]
  | .turn a b c d => .tup [.str "turn", .int a, .int b, .int c, .int d]
def Stp.low : Stp → Bool
  | .x _ => true
  | .y _ => true
  | _ => false
def det1 (a b c d : Int) : Prop := a * d - b * c = 1 ∨ a * d - b * c = -1
def Stp.Ok (B : Nat) : Stp → Prop
  | .x ns => M.trim ns = ns ∧ ns.length ≤ 7 ∧ ∀ n ∈ ns, n.natAbs ≤ B
  | .y ns => M.trim ns = ns ∧ ns.length ≤ 7 ∧ ∀ n ∈ ns, n.natAbs ≤ B
  | .move s t => s.natAbs ≤ B ∧ t.natAbs ≤ B
  | .turn a b c d => det1 a b c d ∧ a.natAbs ≤ B ∧ b.natAbs ≤ B ∧ c.natAbs ≤ B ∧ d.natAbs ≤ B
theorem Stp.Ok.up {B B' : Nat} (h : B ≤ B') : ∀ {s : Stp}, s.Ok B → s.Ok B'
  | .x _, ⟨h1, h2, h3⟩ => ⟨h1, h2, fun n hn => Nat.le_trans (h3 n hn) h⟩
  | .y _, ⟨h1, h2, h3⟩ => ⟨h1, h2, fun n hn => Nat.le_trans (h3 n hn) h⟩
  | .move _ _, ⟨h1, h2⟩ => ⟨Nat.le_trans h1 h, Nat.le_trans h2 h⟩
  | .turn _ _ _ _, ⟨h0, h1, h2, h3, h4⟩ => ⟨h0, Nat.le_trans h1 h, Nat.le_trans h2 h, Nat.le_trans h3 h, Nat.le_trans h4 h⟩
section
variable {μ : Mu} {Q X : QD} {d : D} {B : Nat}
theorem ok_is_low {s : Stp} (q : Q (.bool s.low) μ) : wp_law_is_low [s.b] μ Q X := by
  unfold wp_law_is_low
  cases s <;> (simp only [wDef, initE, wSeq, wNext, wAsg, wAsgG, wDrop, wRet, wRetN, wIfS, wPar, wAug, wSetL, wBreak, wCont, wgN, wgNil, wgCons, wgTup, wiSeq, wiRng1, wiRng2, wiEnum, wFor, wLc, wYes, wV, wK, wOp, wUn, wTup, wLst, wCb, wTst, wNotT, wAndT, wOrT, wIf, wAnd, wOr, wNot, waNil, waCons, waStar, wCall, wMeth, wProp, wFld, wSetF, wMake, wCallI, wRev, wSl, woNone, woSome, wLm, wRz, wRzA, wFz, wCaught, wErrF, wDict0, wLrng, gt, st, sett, one, two, int1, atI0, atI1, atI2, atI3, atI4, ixN20, ixN21, List.map_cons, List.map_nil, List.cons_append, List.nil_append, List.append_nil, List.length_cons, List.length_nil, List.replicate_succ, List.replicate_zero, Nat.add_one_sub_one, Stp.b, oIx, sqD, oIn]; exact ⟨trivial, by decide, rfl, rfl, q⟩)
theorem ok_is_lowP {s : Stp} (q : Q (.bool s.low) μ) : wp_law_is_low [s.p] μ Q X := by
  unfold wp_law_is_low
  cases s <;> (simp only [wDef, initE, wSeq, wNext, wAsg, wAsgG, wDrop, wRet, wRetN, wIfS, wPar, wAug, wSetL, wBreak, wCont, wgN, wgNil, wgCons, wgTup, wiSeq, wiRng1, wiRng2, wiEnum, wFor, wLc, wYes, wV, wK, wOp, wUn, wTup, wLst, wCb, wTst, wNotT, wAndT, wOrT, wIf, wAnd, wOr, wNot, waNil, waCons, waStar, wCall, wMeth, wProp, wFld, wSetF, wMake, wCallI, wRev, wSl, woNone, woSome, wLm, wRz, wRzA, wFz, wCaught, wErrF, wDict0, wLrng, gt, st, sett, one, two, int1, atI0, atI1, atI2, atI3, atI4, ixN20, ixN21, List.map_cons, List.map_nil, List.cons_append, List.nil_append, List.append_nil, List.length_cons, List.length_nil, List.replicate_succ, List.replicate_zero, Nat.add_one_sub_one, Stp.p, oIx, sqD, oIn]; exact ⟨trivial, by decide, rfl, rfl, q⟩)
/-- two rows -/
abbrev rows2 (a b c d : Int) : Nd := .list [.list [.int a, .int b], .list [.int c, .int d]]
theorem mulU_small {i j : Int} (hi : i.natAbs ≤ 10 ^ 30) (hj : j.natAbs ≤ 10 ^ 30) : CMulU i j := mulU_of (a := 100) (b := 100) (Nat.lt_of_le_of_lt hi (by decide)) (Nat.lt_of_le_of_lt hj (by decide)) (by decide)
theorem mul_le {i j : Int} {a b : Nat} (hi : i.natAbs ≤ a) (hj : j.natAbs ≤ b) : (i * j).natAbs ≤ a * b := by
  rw [Int.natAbs_mul]
  exact Nat.mul_le_mul hi hj
def capB : Nat → Nat
  | 0 => 1
  | i + 1 => capB i + 300 * capB i
theorem ok_law_turn {g : Int} (h0 : 0 ≤ g) (h1 : g ≤ 300) (q : ∀ a b c d, (Stp.turn a b c d).Ok 100000 → Q (Stp.turn a b c d).b μ) : wp_law_turn [.state, .int g] μ Q X := by
  unfold wp_law_turn wDefD
  simp only [wDef, initE, wSeq, wNext, wAsg, wAsgG, wDrop, wRet, wRetN, wIfS, wPar, wAug, wSetL, wBreak, wCont, wgN, wgNil, wgCons, wgTup, wiSeq, wiRng1, wiRng2, wiEnum, wFor, wLc, wYes, wV, wK, wOp, wUn, wTup, wLst, wCb, wTst, wNotT, wAndT, wOrT, wIf, wAnd, wOr, wNot, waNil, waCons, waStar, wCall, wMeth, wProp, wFld, wSetF, wMake, wCallI, wRev, wSl, woNone, woSome, wLm, wRz, wRzA, wFz, wCaught, wErrF, wDict0, wLrng, gt, st, sett, one, two, int1, atI0, atI1, atI2, atI3, atI4, ixN20, ixN21, List.map_cons, List.map_nil, List.cons_append, List.nil_append, List.append_nil, List.length_cons, List.length_nil, List.replicate_succ, List.replicate_zero, Nat.add_one_sub_one, oNeg]
  refine ⟨trivial, by decide, by decide, by decide, fun p1 n1 => ⟨by decide, by decide, by decide, fun p2 n2 => ⟨by decide, by decide, by decide, fun p3 n3 => ⟨by decide, by decide, by decide, fun p4 n4 => ⟨by decide, ?_⟩⟩⟩⟩⟩
  have e12 : p1 ≠ p2 := fun z => by rw [← z, up_same] at n2; cases n2
  have e13 : p1 ≠ p3 := fun z => by rw [← z, up_ne e12, up_same] at n3; cases n3
  have e23 : p2 ≠ p3 := fun z => by rw [← z, up_same] at n3; cases n3
  have e14 : p1 ≠ p4 := fun z => by rw [← z, up_ne e13, up_ne e12, up_same] at n4; cases n4
  have e24 : p2 ≠ p4 := fun z => by rw [← z, up_ne e23, up_same] at n4; cases n4
  have e34 : p3 ≠ p4 := fun z => by rw [← z, up_same] at n4; cases n4
  have m2 : μ p2 = Option.none := by rw [up_ne (Ne.symm e12)] at n2; exact n2
  have m3 : μ p3 = Option.none := by rw [up_ne (Ne.symm e23), up_ne (Ne.symm e13)] at n3; exact n3
  have m4 : μ p4 = Option.none := by rw [up_ne (Ne.symm e34), up_ne (Ne.symm e24), up_ne (Ne.symm e14)] at n4; exact n4
  simp only [Nd.frz] at n2 n3 n4 ⊢
  generalize hμ : up (up (up (up μ p1 (.list [.list [.int 1, .int 0], .list [.int 0, .int 1]])) p2 (.list [.list [.int 0, .int (-1)], .list [.int 1, .int 0]])) p3 (.list [.list [.int 0, .int 1], .list [.int 1, .int 0]])) p4 (.list [.list [.int (-1), .int 0], .list [.int 0, .int 1]]) = μ4
  have hsub : subMu μ μ4 := by rw [← hμ]; exact ((((subMu.refl μ).put n1).put m2).put m3).put m4
  refine ok_pick rfl (fun z => by cases z) (by simp) fun x hx => ?_
  have hx2 : ∃ p a b c d, x = .cell p ∧ μ4 p = some (rows2 a b c d) ∧ μ p = Option.none ∧ det1 a b c d ∧ a.natAbs ≤ 1 ∧ b.natAbs ≤ 1 ∧ c.natAbs ≤ 1 ∧ d.natAbs ≤ 1 := by
    simp only [List.mem_cons, List.not_mem_nil, or_false] at hx
    rcases hx with rfl | rfl | rfl | rfl
    · exact ⟨p1, 1, 0, 0, 1, rfl, by rw [← hμ, up_ne e14, up_ne e13, up_ne e12, up_same], n1, .inl rfl, by decide, by decide, by decide, by decide⟩
    · exact ⟨p2, 0, -1, 1, 0, rfl, by rw [← hμ, up_ne e24, up_ne e23, up_same], m2, .inl rfl, by decide, by decide, by decide, by decide⟩
    · exact ⟨p3, 0, 1, 1, 0, rfl, by rw [← hμ, up_ne e34, up_same], m3, .inr rfl, by decide, by decide, by decide, by decide⟩
    · exact ⟨p4, -1, 0, 0, 1, rfl, by rw [← hμ, up_same], m4, .inr rfl, by decide, by decide, by decide, by decide⟩
  obtain ⟨p, a, b, c, d, rfl, hp, mp, hd, ha, hb, hc, hdd⟩ := hx2
  refine ok_take (by decide) (by decide) fun i h2 h3 => ⟨⟨by omega, by omega⟩, ?_⟩
  obtain ⟨j, rfl⟩ := Int.eq_ofNat_of_zero_le h2
  refine ⟨by rw [rangeD_len, Int.toNat_natCast]; omega, for_inv (fun i e μ' => (∃ e3 e4 e5 e6, e = [some .state, some (.int g), some (.cell p), e3, e4, e5, e6]) ∧ subMu μ μ' ∧ ∃ a b c d, μ' p = some (rows2 a b c d) ∧ det1 a b c d ∧ a.natAbs ≤ capB i ∧ b.natAbs ≤ capB i ∧ c.natAbs ≤ capB i ∧ d.natAbs ≤ capB i) ⟨⟨_, _, _, _, rfl⟩, hsub, a, b, c, d, hp, hd, ha, hb, hc, hdd⟩ ?_ ?_⟩
  · rintro i x e μ' N hx ⟨⟨e3, e4, e5, e6, rfl⟩, hs, a, b, c, d, hp, hd, ha, hb, hc, hdd⟩ hN
    have hi2 : i < 2 := by
      have := (List.getElem?_eq_some_iff.mp hx).1
      rw [rangeD_len, Int.toNat_natCast] at this
      omega
    have hcap : capB i ≤ 301 := by
      rcases (by omega : i = 0 ∨ i = 1) with rfl | rfl <;> decide
    refine ⟨trivial, ?_⟩
    simp only [wDef, initE, wSeq, wNext, wAsg, wAsgG, wDrop, wRet, wRetN, wIfS, wPar, wAug, wSetL, wBreak, wCont, wgN, wgNil, wgCons, wgTup, wiSeq, wiRng1, wiRng2, wiEnum, wFor, wLc, wYes, wV, wK, wOp, wUn, wTup, wLst, wCb, wTst, wNotT, wAndT, wOrT, wIf, wAnd, wOr, wNot, waNil, waCons, waStar, wCall, wMeth, wProp, wFld, wSetF, wMake, wCallI, wRev, wSl, woNone, woSome, wLm, wRz, wRzA, wFz, wCaught, wErrF, wDict0, wLrng, gt, st, sett, one, two, int1, atI0, atI1, atI2, atI3, atI4, ixN20, ixN21, List.map_cons, List.map_nil, List.cons_append, List.nil_append, List.append_nil, List.length_cons, List.length_nil, List.replicate_succ, List.replicate_zero, Nat.add_one_sub_one]
    refine ok_number h0 (by omega) fun k hk => ok_take (by decide) (by decide) fun sd hs0 hs1 => ?_
    have hk2 : k.natAbs ≤ 300 := by omega
    have sq : sqD μ' (.cell p) = some [.list [.int a, .int b], .list [.int c, .int d]] := by simp [sqD, hp, ndL]
    have mu : ∀ z : Int, z.natAbs ≤ capB i → CMulU k z := fun z hz => mulU_small (Nat.le_trans hk2 (by decide)) (Nat.le_trans hz (Nat.le_trans hcap (by decide)))
    have bd : ∀ u z : Int, u.natAbs ≤ capB i → z.natAbs ≤ capB i → (u + k * z).natAbs ≤ capB (i + 1) := fun u z hu hz => by
      have := mul_le hk2 hz
      have h9 := Int.natAbs_add_le u (k * z)
      rw [capB]
      omega
    have up1 : ∀ u : Int, u.natAbs ≤ capB i → u.natAbs ≤ capB (i + 1) := fun u hu => by rw [capB]; omega
    rcases (by omega : sd = 0 ∨ sd = 1) with rfl | rfl
    · simp only [oSub, oInt2, true_and, wDef, initE, wSeq, wNext, wAsg, wAsgG, wDrop, wRet, wRetN, wIfS, wPar, wAug, wSetL, wBreak, wCont, wgN, wgNil, wgCons, wgTup, wiSeq, wiRng1, wiRng2, wiEnum, wFor, wLc, wYes, wV, wK, wOp, wUn, wTup, wLst, wCb, wTst, wNotT, wAndT, wOrT, wIf, wAnd, wOr, wNot, waNil, waCons, waStar, wCall, wMeth, wProp, wFld, wSetF, wMake, wCallI, wRev, wSl, woNone, woSome, wLm, wRz, wRzA, wFz, wCaught, wErrF, wDict0, wLrng, gt, st, sett, one, two, int1, atI0, atI1, atI2, atI3, atI4, ixN20, ixN21, List.map_cons, List.map_nil, List.cons_append, List.nil_append, List.append_nil, List.length_cons, List.length_nil, List.replicate_succ, List.replicate_zero, Nat.add_one_sub_one, oIx, sqD, hp, ndL, oMul, oAdd, Int.sub_zero, Nd.frz]
      refine ⟨mu c hc, mu d hdd, by decide, ?_⟩
      refine hN _ _ ⟨⟨_, _, _, _, rfl⟩, hs.put mp, a + k * c, b + k * d, c, d, up_same, ?_, bd a c ha hc, bd b d hb hdd, up1 c hc, up1 d hdd⟩
      unfold det1 at hd ⊢
      rw [show (a + k * c) * d - (b + k * d) * c = a * d - b * c by rw [Int.add_mul, Int.add_mul, Int.mul_assoc, Int.mul_assoc, Int.mul_comm d c]; omega]
      exact hd
    · simp only [oSub, oInt2, true_and, wDef, initE, wSeq, wNext, wAsg, wAsgG, wDrop, wRet, wRetN, wIfS, wPar, wAug, wSetL, wBreak, wCont, wgN, wgNil, wgCons, wgTup, wiSeq, wiRng1, wiRng2, wiEnum, wFor, wLc, wYes, wV, wK, wOp, wUn, wTup, wLst, wCb, wTst, wNotT, wAndT, wOrT, wIf, wAnd, wOr, wNot, waNil, waCons, waStar, wCall, wMeth, wProp, wFld, wSetF, wMake, wCallI, wRev, wSl, woNone, woSome, wLm, wRz, wRzA, wFz, wCaught, wErrF, wDict0, wLrng, gt, st, sett, one, two, int1, atI0, atI1, atI2, atI3, atI4, ixN20, ixN21, List.map_cons, List.map_nil, List.cons_append, List.nil_append, List.append_nil, List.length_cons, List.length_nil, List.replicate_succ, List.replicate_zero, Nat.add_one_sub_one, oIx, sqD, hp, ndL, oMul, oAdd, Int.sub_self, Nd.frz]
      refine ⟨mu a ha, mu b hb, by decide, ?_⟩
      refine hN _ _ ⟨⟨_, _, _, _, rfl⟩, hs.put mp, a, b, c + k * a, d + k * b, up_same, ?_, up1 a ha, up1 b hb, bd c a hc ha, bd d b hdd hb⟩
      unfold det1 at hd ⊢
      rw [show a * (d + k * b) - b * (c + k * a) = a * d - b * c by rw [Int.mul_add, Int.mul_add, Int.mul_left_comm a k b, Int.mul_left_comm b k a, Int.mul_comm b a]; omega]
      exact hd
  · rintro e μ' ⟨⟨e3, e4, e5, e6, rfl⟩, hs, a, b, c, d, hp, hd, ha, hb, hc, hdd⟩
    refine ⟨trivial, ?_⟩
    have hcap : capB (rangeD 0 (Int.ofNat j).toNat).length ≤ 100000 := by
      rw [rangeD_len]
      show capB j ≤ 100000
      rcases (by omega : j = 0 ∨ j = 1 ∨ j = 2) with rfl | rfl | rfl <;> decide
    simp only [wDef, initE, wSeq, wNext, wAsg, wAsgG, wDrop, wRet, wRetN, wIfS, wPar, wAug, wSetL, wBreak, wCont, wgN, wgNil, wgCons, wgTup, wiSeq, wiRng1, wiRng2, wiEnum, wFor, wLc, wYes, wV, wK, wOp, wUn, wTup, wLst, wCb, wTst, wNotT, wAndT, wOrT, wIf, wAnd, wOr, wNot, waNil, waCons, waStar, wCall, wMeth, wProp, wFld, wSetF, wMake, wCallI, wRev, wSl, woNone, woSome, wLm, wRz, wRzA, wFz, wCaught, wErrF, wDict0, wLrng, gt, st, sett, one, two, int1, atI0, atI1, atI2, atI3, atI4, ixN20, ixN21, List.map_cons, List.map_nil, List.cons_append, List.nil_append, List.append_nil, List.length_cons, List.length_nil, List.replicate_succ, List.replicate_zero, Nat.add_one_sub_one, hp, oIx, sqD, Nd.frz]
    refine ⟨by decide, μ, fun b nd hb => ?_, q a b c d ⟨hd, Nat.le_trans ha hcap, Nat.le_trans hb hcap, Nat.le_trans hc hcap, Nat.le_trans hdd hcap⟩⟩
    rw [del_ne fun z => by rw [z, mp] at hb; cases hb]
    exact hs b nd hb
end
end DL

set_option Elab.async false
set_option linter.all false
set_option maxRecDepth 100000
set_option maxHeartbeats 4000000
/-! A18: what each wish says, as equations (printed by tools/mku.py). -/
namespace DL
open PySem PyProof.Rows L2
theorem u_wDef (n N : Nat) (b : WS) (ds : List D) (μ : Mu) (Q : QD) (X : QD) : wDef n N b ds μ Q X = (ds.length = n ∧ b (initE N ds) μ ⟨fun _ μ1 => Q .none μ1, Q, fun _ _ => False, fun _ _ => False, fun d _ μ1 => X d μ1⟩) := propext Iff.rfl
theorem u_wSeq (a b : WS) (e : EnvD) (μ : Mu) (E : WEnds) : wSeq a b e μ E = (a e μ { E with nx := fun e1 μ1 => b e1 μ1 E }) := propext Iff.rfl
theorem u_wNext (e : EnvD) (μ : Mu) (E : WEnds) : wNext e μ E = (E.nx e μ) := propext Iff.rfl
theorem u_wAsg (i : Nat) (a : WE) (e : EnvD) (μ : Mu) (E : WEnds) : wAsg i a e μ E = (a e μ (fun d μ1 => E.nx (st e i (some d)) μ1) fun d μ1 => E.xp d e μ1) := propext Iff.rfl
theorem u_wAsgG (g : WG) (a : WE) (e : EnvD) (μ : Mu) (E : WEnds) : wAsgG g a e μ E = (a e μ (fun d μ1 => g d e fun e1 => E.nx e1 μ1) fun d μ1 => E.xp d e μ1) := propext Iff.rfl
theorem u_wDrop (a : WE) (e : EnvD) (μ : Mu) (E : WEnds) : wDrop a e μ E = (a e μ (fun _ μ1 => E.nx e μ1) fun d μ1 => E.xp d e μ1) := propext Iff.rfl
theorem u_wRet (a : WE) (e : EnvD) (μ : Mu) (E : WEnds) : wRet a e μ E = (a e μ E.rt fun d μ1 => E.xp d e μ1) := propext Iff.rfl
theorem u_wRetN (u0' : EnvD) (μ : Mu) (E : WEnds) : wRetN u0' μ E = (E.rt .none μ) := propext Iff.rfl
theorem u_wIfS (t : WT) (a b : WS) (e : EnvD) (μ : Mu) (E : WEnds) : wIfS t a b e μ E = (t e μ (fun k μ1 => if k = true then a e μ1 E else b e μ1 E) fun d μ1 => E.xp d e μ1) := propext Iff.rfl
theorem u_wPar (i j : Nat) (a : WA) (e : EnvD) (μ : Mu) (E : WEnds) : wPar i j a e μ E = (a e μ (fun ds μ1 => match ds with
  | [x, y] => E.nx (st (st e i (some x)) j (some y)) μ1
  | _ => False) fun d μ1 => E.xp d e μ1) := propext Iff.rfl
theorem u_wAug (i : Nat) (f : Int → Int → Int) (a : WE) (e : EnvD) (μ : Mu) (E : WEnds) : wAug i f a e μ E = (match gt e i with
  | some (.int x) => a e μ (fun d μ1 => match d with
    | .int y => E.nx (st e i (some (.int (f x y)))) μ1
    | _ => False) fun d μ1 => E.xp d e μ1
  | _ => False) := propext Iff.rfl
theorem u_wSetL (v o i : WE) (e : EnvD) (μ : Mu) (E : WEnds) : wSetL v o i e μ E = (v e μ (fun d μ1 => o e μ1 (fun x μ2 => i e μ2 (fun y μ3 => match x, y with
  | .cell p, .int k => (match ndL (μ3 p) with
    | some ds => (match ixN ds.length k with
      | some j => E.nx e (up μ3 p (.list (ds.set j d)))
      | Option.none => False)
    | Option.none => False)
  | _, _ => False) fun d μ1 => E.xp d e μ1) fun d μ1 => E.xp d e μ1) fun d μ1 => E.xp d e μ1) := propext Iff.rfl
theorem u_wBreak (e : EnvD) (μ : Mu) (E : WEnds) : wBreak e μ E = (E.bk e μ) := propext Iff.rfl
theorem u_wCont (e : EnvD) (μ : Mu) (E : WEnds) : wCont e μ E = (E.ct e μ) := propext Iff.rfl
theorem u_wgN (i : Nat) (d : D) (e : EnvD) (Q : EnvD → Prop) : wgN i d e Q = (Q (st e i (some d))) := propext Iff.rfl
theorem u_wgNil (ds : List D) (e : EnvD) (Q : EnvD → Prop) : wgNil ds e Q = (match ds with
  | [] => Q e
  | _ => False) := propext Iff.rfl
theorem u_wgCons (g : WG) (gs : WGs) (ds : List D) (e : EnvD) (Q : EnvD → Prop) : wgCons g gs ds e Q = (match ds with
  | d :: ds => g d e fun e1 => gs ds e1 Q
  | _ => False) := propext Iff.rfl
theorem u_wgTup (n : Nat) (gs : WGs) (d : D) (e : EnvD) (Q : EnvD → Prop) : wgTup n gs d e Q = (match d with
  | .tup ds => ds.length = n ∧ gs ds e Q
  | _ => False) := propext Iff.rfl
theorem u_wiSeq (a : WE) (e : EnvD) (μ : Mu) (Q : Src → Mu → Prop) (X : QD) : wiSeq a e μ Q X = (a e μ (fun d μ1 => match sqD μ1 d with
  | some ds => Q ⟨ds, okS d ds⟩ μ1
  | Option.none => False) X) := propext Iff.rfl
theorem u_wiRng1 (a : WA) (e : EnvD) (μ : Mu) (Q : Src → Mu → Prop) (X : QD) : wiRng1 a e μ Q X = (a e μ (fun ds μ1 => one ds fun x => int1 x fun j => inR j ∧ Q ⟨rangeD 0 j.toNat, fun _ => True⟩ μ1) X) := propext Iff.rfl
theorem u_wiRng2 (a : WA) (e : EnvD) (μ : Mu) (Q : Src → Mu → Prop) (X : QD) : wiRng2 a e μ Q X = (a e μ (fun ds μ1 => two ds fun x y => int1 x fun lo => int1 y fun hi => inR lo ∧ inR hi ∧ Q ⟨rangeD lo (hi - lo).toNat, fun _ => True⟩ μ1) X) := propext Iff.rfl
theorem u_wiEnum (a : WA) (e : EnvD) (μ : Mu) (Q : Src → Mu → Prop) (X : QD) : wiEnum a e μ Q X = (a e μ (fun ds μ1 => one ds fun d => match sqD μ1 d with
  | some xs => Q ⟨enumD 0 xs, okS d xs⟩ μ1
  | Option.none => False) X) := propext Iff.rfl
theorem u_wFor (s : WI) (g : WG) (b : WS) (e : EnvD) (μ : Mu) (E : WEnds) : wFor s g b e μ E = (s e μ (fun s μ1 => s.xs.length ≤ 2 ^ 63 ∧ goFor s.ok g b s.xs e μ1 E) fun d μ1 => E.xp d e μ1) := propext Iff.rfl
theorem u_wLc (m : Bool) (s : WI) (g : WG) (t : WT) (a : WE) (vs : List Nat) (e : EnvD) (μ : Mu) (Q : QD) (X : QD) : wLc m s g t a vs e μ Q X = (s e μ (fun s μ1 => s.xs.length ≤ sizeLine ∧ goLc s.ok g t a (wipeE e vs) (fun _ _ => False) s.xs [] μ1 fun ds μ2 => sett m Q (.n (.list ds)) μ2) X) := propext Iff.rfl
theorem u_wYes (u0' : EnvD) (μ : Mu) (Q : Bool → Mu → Prop) (u1' : QD) : wYes u0' μ Q u1' = (Q true μ) := propext Iff.rfl
theorem u_wV (i : Nat) (e : EnvD) (μ : Mu) (Q : QD) (u0' : QD) : wV i e μ Q u0' = (match gt e i with
  | some d => Q d μ
  | Option.none => False) := propext Iff.rfl
theorem u_wK (d : D) (u0' : EnvD) (μ : Mu) (Q : QD) (u1' : QD) : wK d u0' μ Q u1' = (Q d μ) := propext Iff.rfl
theorem u_wOp (m : Bool) (o : WOp) (a b : WE) (e : EnvD) (μ : Mu) (Q : QD) (X : QD) : wOp m o a b e μ Q X = (a e μ (fun x μ1 => b e μ1 (fun y μ2 => o x y μ2 (sett m Q) X) X) X) := propext Iff.rfl
theorem u_wUn (m : Bool) (o : WU) (a : WE) (e : EnvD) (μ : Mu) (Q : QD) (X : QD) : wUn m o a e μ Q X = (a e μ (fun x μ1 => o x μ1 (sett m Q) X) X) := propext Iff.rfl
theorem u_wTup (a : WA) (e : EnvD) (μ : Mu) (Q : QD) (X : QD) : wTup a e μ Q X = (a e μ (fun xs μ1 => xs.length ≤ sizeLine ∧ Q (.tup xs) μ1) X) := propext Iff.rfl
theorem u_wLst (m : Bool) (a : WA) (e : EnvD) (μ : Mu) (Q : QD) (X : QD) : wLst m a e μ Q X = (a e μ (fun xs μ1 => xs.length ≤ sizeLine ∧ sett m Q (.n (.list xs)) μ1) X) := propext Iff.rfl
theorem u_wCb (m : Bool) (o : WC) (a : WA) (e : EnvD) (μ : Mu) (Q : QD) (X : QD) : wCb m o a e μ Q X = (a e μ (fun xs μ1 => o xs μ1 (sett m Q) X) X) := propext Iff.rfl
theorem u_wTst (a : WE) (e : EnvD) (μ : Mu) (Q : Bool → Mu → Prop) (X : QD) : wTst a e μ Q X = (a e μ (fun x μ1 => match x with
  | .bool b => Q b μ1
  | _ => False) X) := propext Iff.rfl
theorem u_wNotT (t : WT) (e : EnvD) (μ : Mu) (Q : Bool → Mu → Prop) (X : QD) : wNotT t e μ Q X = (t e μ (fun b μ1 => Q (!b) μ1) X) := propext Iff.rfl
theorem u_wAndT (t u : WT) (e : EnvD) (μ : Mu) (Q : Bool → Mu → Prop) (X : QD) : wAndT t u e μ Q X = (t e μ (fun b μ1 => if b = true then u e μ1 Q X else Q false μ1) X) := propext Iff.rfl
theorem u_wOrT (t u : WT) (e : EnvD) (μ : Mu) (Q : Bool → Mu → Prop) (X : QD) : wOrT t u e μ Q X = (t e μ (fun b μ1 => if b = true then Q true μ1 else u e μ1 Q X) X) := propext Iff.rfl
theorem u_wIf (t : WT) (a b : WE) (e : EnvD) (μ : Mu) (Q : QD) (X : QD) : wIf t a b e μ Q X = (t e μ (fun k μ1 => if k = true then a e μ1 Q X else b e μ1 Q X) X) := propext Iff.rfl
theorem u_wAnd (a b : WE) (e : EnvD) (μ : Mu) (Q : QD) (X : QD) : wAnd a b e μ Q X = (a e μ (fun x μ1 => match x with
  | .bool k => if k = true then b e μ1 Q X else Q (.bool false) μ1
  | _ => False) X) := propext Iff.rfl
theorem u_wOr (a b : WE) (e : EnvD) (μ : Mu) (Q : QD) (X : QD) : wOr a b e μ Q X = (a e μ (fun x μ1 => match x with
  | .bool k => if k = true then Q (.bool true) μ1 else b e μ1 Q X
  | _ => False) X) := propext Iff.rfl
theorem u_wNot (a : WE) (e : EnvD) (μ : Mu) (Q : QD) (X : QD) : wNot a e μ Q X = (a e μ (fun x μ1 => match x with
  | .bool k => Q (.bool (!k)) μ1
  | _ => False) X) := propext Iff.rfl
theorem u_waNil (u0' : EnvD) (μ : Mu) (Q : List D → Mu → Prop) (u1' : QD) : waNil u0' μ Q u1' = (Q [] μ) := propext Iff.rfl
theorem u_waCons (a : WE) (r : WA) (e : EnvD) (μ : Mu) (Q : List D → Mu → Prop) (X : QD) : waCons a r e μ Q X = (a e μ (fun x μ1 => r e μ1 (fun xs μ2 => Q (x :: xs) μ2) X) X) := propext Iff.rfl
theorem u_waStar (a : WE) (r : WA) (e : EnvD) (μ : Mu) (Q : List D → Mu → Prop) (X : QD) : waStar a r e μ Q X = (a e μ (fun x μ1 => match sqD μ1 x with
  | some ds => r e μ1 (fun es μ2 => Q (ds ++ es) μ2) X
  | Option.none => False) X) := propext Iff.rfl
theorem u_wCall (s : WP) (dd : List D) (a : WA) (e : EnvD) (μ : Mu) (Q : QD) (X : QD) : wCall s dd a e μ Q X = (a e μ (fun ds μ1 => s (ds ++ dd) μ1 Q X) X) := propext Iff.rfl
theorem u_wMeth (n m : Str) (s : WP) (dd : List D) (r : WE) (a : WA) (e : EnvD) (μ : Mu) (Q : QD) (X : QD) : wMeth n m s dd r a e μ Q X = (r e μ (fun x μ1 => isOf n m μ1 x (a e μ1 (fun ds μ2 => s (x :: (ds ++ dd)) μ2 Q X) X)) X) := propext Iff.rfl
theorem u_wProp (n f : Str) (s : WP) (r : WE) (e : EnvD) (μ : Mu) (Q : QD) (X : QD) : wProp n f s r e μ Q X = (r e μ (fun x μ1 => isOf n f μ1 x (s [x] μ1 Q fun _ _ => False)) X) := propext Iff.rfl
theorem u_wFld (n f : Str) (r : WE) (e : EnvD) (μ : Mu) (Q : QD) (X : QD) : wFld n f r e μ Q X = (r e μ (fun x μ1 => match asObj μ1 x with
  | some (k, fs, ds) => k = n ∧ (match fldD f fs ds with
    | some d => Q d μ1
    | Option.none => False)
  | Option.none => False) X) := propext Iff.rfl
theorem u_wSetF (n f : Str) (o v : WE) (e : EnvD) (μ : Mu) (E : WEnds) : wSetF n f o v e μ E = (v e μ (fun d μ1 => o e μ1 (fun x μ2 => match x with
  | .cell p => (match ndO (μ2 p) with
    | some (k, fs, ds) => k = n ∧ fs.length < 1000 ∧ E.nx e (up μ2 p (.obj k (putN f d fs ds).1 (putN f d fs ds).2))
    | Option.none => False)
  | _ => False) fun d μ1 => E.xp d e μ1) fun d μ1 => E.xp d e μ1) := propext Iff.rfl
theorem u_wCallI (n : Str) (s : WP) (r : WE) (a : WA) (e : EnvD) (μ : Mu) (Q : QD) (X : QD) : wCallI n s r a e μ Q X = (r e μ (fun x μ1 => clsOf μ1 x = some n ∧ a e μ1 (fun ds μ2 => clsOf μ2 x = some n ∧ s (x :: ds) μ2 Q X) X) X) := propext Iff.rfl
theorem u_wRev (m : Bool) (a : WE) (e : EnvD) (μ : Mu) (Q : QD) (X : QD) : wRev m a e μ Q X = (a e μ (fun x μ1 => match x with
  | .tup ds => Q (.tup ds.reverse) μ1
  | x => (match seqL μ1 x with
    | some ds => sett m Q (.n (.list ds.reverse)) μ1
    | Option.none => False)) X) := propext Iff.rfl
theorem u_wSl (m : Bool) (o : D → Option Int → Option Int → Mu → QR → QD → Prop) (a : WE) (l h : WO) (e : EnvD) (μ : Mu) (Q : QD) (X : QD) : wSl m o a l h e μ Q X = (a e μ (fun x μ1 => l e μ1 (fun lo μ2 => h e μ2 (fun hi μ3 => o x lo hi μ3 (sett m Q) X) X) X) X) := propext Iff.rfl
theorem u_woNone (u0' : EnvD) (μ : Mu) (Q : Option Int → Mu → Prop) (u1' : QD) : woNone u0' μ Q u1' = (Q Option.none μ) := propext Iff.rfl
theorem u_woSome (a : WE) (e : EnvD) (μ : Mu) (Q : Option Int → Mu → Prop) (X : QD) : woSome a e μ Q X = (a e μ (fun x μ1 => match x with
  | .int i => Q (some i) μ1
  | _ => False) X) := propext Iff.rfl
theorem u_wLm (m : Bool) (o : WM) (r : WE) (a : WA) (e : EnvD) (μ : Mu) (Q : QD) (X : QD) : wLm m o r a e μ Q X = (r e μ (fun x μ1 => isL μ1 x ∧ a e μ1 (fun xs μ2 => o x xs μ2 (sett m Q) X) X) X) := propext Iff.rfl
theorem u_wRz (n : Str) (e : EnvD) (μ : Mu) (E : WEnds) : wRz n e μ E = (E.xp (.err n [] []) e μ) := propext Iff.rfl
theorem u_wRzA (n f : Str) (a : WE) (e : EnvD) (μ : Mu) (E : WEnds) : wRzA n f a e μ E = (a e μ (fun d μ1 => E.xp (.err n [f] [d]) e μ1) fun d μ1 => E.xp d e μ1) := propext Iff.rfl
theorem u_wFz (i : Nat) (w : WS) (e : EnvD) (μ : Mu) (E : WEnds) : wFz i w e μ E = (match gt e i with
  | some (.cell b) => (match μ b with
    | some nd => w (st e i (some nd.frz)) (del μ b) E
    | Option.none => False)
  | some _ => w e μ E
  | Option.none => False) := propext Iff.rfl
theorem u_wCaught (es : List Str) (w : WE) (e : EnvD) (μ : Mu) (Q : QD) (u0' : QD) : wCaught es w e μ Q u0' = (w e μ (fun _ μ1 => Q .none μ1) fun d μ1 => match d with
  | .err n _ _ => n ∈ es ∧ Q d μ1
  | _ => False) := propext Iff.rfl
theorem u_wErrF (f : Str) (r : WE) (e : EnvD) (μ : Mu) (Q : QD) (X : QD) : wErrF f r e μ Q X = (r e μ (fun x μ1 => match x with
  | .err _ fs ds => (match fldD f fs ds with
    | some d => Q d μ1
    | Option.none => False)
  | _ => False) X) := propext Iff.rfl
theorem u_wDict0 (m : Bool) (u0' : EnvD) (μ : Mu) (Q : QD) (u1' : QD) : wDict0 m u0' μ Q u1' = (sett m Q (.n (.dk [] [])) μ) := propext Iff.rfl
theorem u_wLrng (m : Bool) (a : WA) (e : EnvD) (μ : Mu) (Q : QD) (X : QD) : wLrng m a e μ Q X = (a e μ (fun ds μ1 => one ds fun d => int1 d fun j => (0 ≤ j ∧ j ≤ 2 ^ 20) ∧ sett m Q (.n (.list (rangeD 0 j.toNat))) μ1) X) := propext Iff.rfl
theorem u_waPerm (js : List Nat) (a : WA) (e : EnvD) (μ : Mu) (Q : List D → Mu → Prop) (X : QD) : waPerm js a e μ Q X = (a e μ (fun ds μ1 => ds.length = js.length ∧ Q (permD D.none js ds) μ1) X) := propext Iff.rfl
theorem u_wChain (p q : Int → Int → Bool) (a b d : WE) (e : EnvD) (μ : Mu) (Q : QD) (X : QD) : wChain p q a b d e μ Q X = (a e μ (fun x μ1 => b e μ1 (fun y μ2 => int1 x fun i => int1 y fun j => if p i j = true then d e μ2 (fun z μ3 => int1 z fun k => Q (.bool (q j k)) μ3) X else Q (.bool false) μ2) X) X) := propext Iff.rfl
theorem u_wDisp1 (m : Bool) (a b : WE) (e : EnvD) (μ : Mu) (Q : QD) (X : QD) : wDisp1 m a b e μ Q X = (a e μ (fun x μ1 => b e μ1 (fun y μ2 => match keyD x with
  | some k => sett m Q (.n (.dk [k] [y])) μ2
  | Option.none => False) X) X) := propext Iff.rfl
theorem u_wDispT (m : Bool) (ks : List Key) (b : WE) (e : EnvD) (μ : Mu) (Q : QD) (X : QD) : wDispT m ks b e μ Q X = (b e μ (fun y μ2 => sett m Q (.n (.dt [ks] [y])) μ2) X) := propext Iff.rfl
theorem u_wDefD (n N : Nat) (b : WS) (ds : List D) (μ : Mu) (Q : QD) (X : QD) : wDefD n N b ds μ Q X = (wDef n N b ds μ (fun d μ1 => ∃ μ2, subMu μ2 μ1 ∧ Q d μ2) X) := propext Iff.rfl
/-- what is wished behind an __init__ -/
def mkQ (m : Bool) (Q : QD) (p : Addr) : QD := fun r μ2 => r = .none ∧ (match μ2 p with
  | some nd => sett m Q (.n nd) (del μ2 p)
  | Option.none => False)
theorem u_wMake (m : Bool) (n : Str) (s : WP) (dd : List D) (a : WA) (e : EnvD) (μ : Mu) (Q X : QD) : wMake m n s dd a e μ Q X = a e μ (fun ds μ1 => ∀ p, μ1 p = Option.none → s (.cell p :: (ds ++ dd)) (up μ1 p (.obj n [] [])) (mkQ m Q p) X) X := propext Iff.rfl
theorem mkQ_f {Q : QD} {p : Addr} {μ : Mu} {nd : Nd} (hp : μ p = Option.none) (q : Q nd.frz μ) : mkQ false Q p .none (up μ p nd) := by
  refine ⟨rfl, ?_⟩
  rw [up_same, del_up hp]
  exact q
theorem u_sett_v (m : Bool) (Q : QD) (d : D) (μ : Mu) : sett m Q (.v d) μ = Q d μ := by cases m <;> exact propext Iff.rfl
theorem u_sett_f (Q : QD) (nd : Nd) (μ : Mu) : sett false Q (.n nd) μ = Q nd.frz μ := propext Iff.rfl
theorem u_sett_t (Q : QD) (nd : Nd) (μ : Mu) : sett true Q (.n nd) μ = (∀ p, μ p = Option.none → Q (.cell p) (up μ p nd)) := propext Iff.rfl
theorem u_sqD_l (μ : Mu) (ds : List D) : sqD μ (.list ds) = some ds := rfl
theorem u_sqD_t (μ : Mu) (ds : List D) : sqD μ (.tup ds) = some ds := rfl
theorem u_sqD_s (μ : Mu) (ns : List Int) : sqD μ (.script ns) = some (iL ns) := rfl
theorem u_seqL_l (μ : Mu) (ds : List D) : seqL μ (.list ds) = some ds := rfl
theorem u_frz_l (ds : List D) : (Nd.list ds).frz = .list ds := rfl
theorem u_frz_k (ks : List Key) (ds : List D) : (Nd.dk ks ds).frz = .dk ks ds := rfl
theorem u_frz_t (ks : List (List Key)) (ds : List D) : (Nd.dt ks ds).frz = .dt ks ds := rfl
theorem u_frz_o (c : Str) (fs : List Str) (ds : List D) : (Nd.obj c fs ds).frz = .obj c fs ds := rfl
theorem u_one (x : D) (f : D → Prop) : one [x] f = f x := propext Iff.rfl
theorem u_two (x y : D) (f : D → D → Prop) : two [x, y] f = f x y := propext Iff.rfl
theorem u_int1 (i : Int) (f : Int → Prop) : int1 (.int i) f = f i := propext Iff.rfl
section
variable (μ : Mu) (Q : QR) (X : QD)
theorem u_oAdd_i (i j : Int) : oAdd (.int i) (.int j) μ Q X = Q (.v (.int (i + j))) μ := propext Iff.rfl
theorem u_oAdd_s (a b : Str) : oAdd (.str a) (.str b) μ Q X = (a.length + b.length ≤ sizeLine ∧ Q (.v (.str (a ++ b))) μ) := propext Iff.rfl
theorem u_oAdd_t (a b : List D) : oAdd (.tup a) (.tup b) μ Q X = (a.length + b.length ≤ sizeLine ∧ Q (.v (.tup (a ++ b))) μ) := propext Iff.rfl
theorem u_oAdd_l (a b : List D) : oAdd (.list a) (.list b) μ Q X = (a.length + b.length ≤ sizeLine ∧ Q (.n (.list (a ++ b))) μ) := propext Iff.rfl
theorem u_oSub (i j : Int) : oSub (.int i) (.int j) μ Q X = Q (.v (.int (i - j))) μ := propext ⟨fun h => h.2, fun h => ⟨trivial, h⟩⟩
theorem u_oMul_i (i j : Int) : oMul (.int i) (.int j) μ Q X = (CMulU i j ∧ Q (.v (.int (i * j))) μ) := propext Iff.rfl
theorem u_oMul_l (a : List D) (k : Int) : oMul (.list a) (.int k) μ Q X = (-(2 ^ 63) ≤ k ∧ k < 2 ^ 63 ∧ a.length * k.toNat ≤ sizeLine ∧ Q (.n (.list (List.replicate k.toNat a).flatten)) μ) := propext Iff.rfl
theorem u_oFdiv (i j : Int) : oFdiv (.int i) (.int j) μ Q X = (CDivW i j ∧ Q (.v (.int (i / j))) μ) := propext Iff.rfl
theorem u_oMod (i j : Int) : oMod (.int i) (.int j) μ Q X = (0 < j ∧ Q (.v (.int (i % j))) μ) := propext Iff.rfl
theorem u_oPow (i j : Int) : oPow (.int i) (.int j) μ Q X = (CPowW i j ∧ Q (.v (.int (i ^ j.toNat))) μ) := propext Iff.rfl
theorem u_oLt (i j : Int) : oLt (.int i) (.int j) μ Q X = Q (.v (.bool (decide (i < j)))) μ := propext ⟨fun h => h.2, fun h => ⟨trivial, h⟩⟩
theorem u_oLe (i j : Int) : oLe (.int i) (.int j) μ Q X = Q (.v (.bool (decide (i ≤ j)))) μ := propext ⟨fun h => h.2, fun h => ⟨trivial, h⟩⟩
theorem u_oGt (i j : Int) : oGt (.int i) (.int j) μ Q X = Q (.v (.bool (decide (j < i)))) μ := propext ⟨fun h => h.2, fun h => ⟨trivial, h⟩⟩
theorem u_oGe (i j : Int) : oGe (.int i) (.int j) μ Q X = Q (.v (.bool (decide (j ≤ i)))) μ := propext ⟨fun h => h.2, fun h => ⟨trivial, h⟩⟩
theorem u_oNeg (i : Int) : oNeg (.int i) μ Q X = Q (.v (.int (-i))) μ := propext Iff.rfl
theorem u_oEq_i (i j : Int) : oEq (.int i) (.int j) μ Q X = Q (.v (.bool (decide (i = j)))) μ := propext Iff.rfl
theorem u_oEq_s (i j : Str) : oEq (.str i) (.str j) μ Q X = Q (.v (.bool (decide (i = j)))) μ := propext Iff.rfl
theorem u_oNe_i (i j : Int) : oNe (.int i) (.int j) μ Q X = Q (.v (.bool (!decide (i = j)))) μ := propext Iff.rfl
theorem u_oNe_s (i j : Str) : oNe (.str i) (.str j) μ Q X = Q (.v (.bool (!decide (i = j)))) μ := propext Iff.rfl
theorem u_oIsN (x : D) : oIsN x .none μ Q X = Q (.v (.bool (isNone x))) μ := propext Iff.rfl
theorem u_oNotN (x : D) : oNotN x .none μ Q X = Q (.v (.bool (!isNone x))) μ := propext Iff.rfl
theorem u_oIx_l (ds : List D) (i : Int) : oIx (.list ds) (.int i) μ Q X = (match atI ds i with
  | some d => Q (.v d) μ
  | Option.none => False) := propext Iff.rfl
theorem u_oIx_t (ds : List D) (i : Int) : oIx (.tup ds) (.int i) μ Q X = (match atI ds i with
  | some d => Q (.v d) μ
  | Option.none => False) := propext Iff.rfl
theorem u_oIn (neg : Bool) (x : D) (ds : List D) : oIn neg x (.tup ds) μ Q X = (flatD x = true ∧ ds.all flatD = true ∧ Q (.v (.bool (if neg then !inF x ds else inF x ds))) μ) := propext Iff.rfl
theorem u_oInL (neg : Bool) (x : D) (ds : List D) : oIn neg x (.list ds) μ Q X = (flatD x = true ∧ ds.all flatD = true ∧ Q (.v (.bool (if neg then !inF x ds else inF x ds))) μ) := propext Iff.rfl
theorem u_oSl_t (ds : List D) (lo hi : Option Int) : oSl (.tup ds) lo hi μ Q X = Q (.v (.tup (cutD ds lo hi))) μ := propext Iff.rfl
theorem u_oSl_l (ds : List D) (lo hi : Option Int) : oSl (.list ds) lo hi μ Q X = Q (.n (.list (cutD ds lo hi))) μ := propext Iff.rfl
theorem u_len_l (ds : List D) : cbLen [.list ds] μ Q X = Q (.v (.int ds.length)) μ := propext Iff.rfl
theorem u_len_t (ds : List D) : cbLen [.tup ds] μ Q X = Q (.v (.int ds.length)) μ := propext Iff.rfl
theorem u_min2 (i j : Int) : cbMin2 [.int i, .int j] μ Q X = Q (.v (.int (if j < i then j else i))) μ := propext Iff.rfl
theorem u_max2 (i j : Int) : cbMax2 [.int i, .int j] μ Q X = Q (.v (.int (if j > i then j else i))) μ := propext Iff.rfl
theorem u_abs (i : Int) : cbAbs [.int i] μ Q X = Q (.v (.int (if i < 0 then -i else i))) μ := propext Iff.rfl
theorem u_list_l (ds : List D) : cbList [.list ds] μ Q X = Q (.n (.list ds)) μ := propext Iff.rfl
theorem u_list_t (ds : List D) : cbList [.tup ds] μ Q X = Q (.n (.list ds)) μ := propext Iff.rfl
theorem u_tup_l (ds : List D) : cbTup [.list ds] μ Q X = Q (.v (.tup ds)) μ := propext Iff.rfl
theorem u_tup_t (ds : List D) : cbTup [.tup ds] μ Q X = Q (.v (.tup ds)) μ := propext Iff.rfl
theorem u_isB (a b : Bool) : oIsB (.bool a) (.bool b) μ Q X = Q (.v (.bool (decide (a = b)))) μ := propext Iff.rfl
theorem u_notB (a b : Bool) : oNotB (.bool a) (.bool b) μ Q X = Q (.v (.bool (!decide (a = b)))) μ := propext Iff.rfl
end
end DL

set_option Elab.async false
set_option linter.all false
set_option maxRecDepth 100000
set_option maxHeartbeats 4000000
/-! P6: steps drawn by the laws. -/
namespace DL
open PySem L2
def wp_law_step : WP := (wDef 3 4 (wSeq (wAsg 3 (wCall wp_law_pick [] (waCons (wV 0) (waCons (wLst false (waCons (wK (.str "x")) (waCons (wK (.str "x")) (waCons (wK (.str "y")) (waCons (wK (.str "y")) (waCons (wK (.str "turn")) (waCons (wK (.str "move")) waNil))))))) waNil))))
    (wSeq (wIfS (wTst (wOp false oEq (wV 3) (wK (.str "turn")))) (wRet (wCall wp_law_turn [] (waCons (wV 0) (waCons (wCb false cbMin2 (waCons (wV 2) (waCons (wK (.int 300)) waNil))) waNil)))) wNext)
    (wSeq (wIfS (wTst (wOp false oEq (wV 3) (wK (.str "move")))) (wRet (wTup (waCons (wV 3) (waCons (wCall wp_law_number [] (waCons (wV 0) (waCons (wV 2) waNil))) (waCons (wCall wp_law_number [] (waCons (wV 0) (waCons (wV 2) waNil))) waNil))))) wNext)
    (wRet (wTup (waCons (wV 3) (waCons (wCall wp_law_rule [] (waCons (wV 0) (waCons (wCb false cbMin2 (waCons (wK (.int 3)) (waCons (wV 1) waNil))) (waCons (wV 2) waNil)))) waNil))))))))
def wp_law_steps : WP := (wDef 4 7 (wSeq (wAsg 4 (wLst true waNil))
    (wSeq (wFor (wiRng1 (waCons (wCall wp_law_take [] (waCons (wV 0) (waCons (wOp false oAdd (wV 1) (wK (.int 1))) waNil))) waNil)) (wgN 5) (wSeq (wAsg 6 (wCall wp_law_step [] (waCons (wV 0) (waCons (wV 2) (waCons (wV 3) waNil)))))
    (wSeq (wIfS (wTst (wCall wp_law_is_low [] (waCons (wV 6) waNil))) (wAsg 2 (wOp false oFdiv (wV 2) (wCb false cbMax2 (waCons (wK (.int 1)) (waCons (wOp false oSub (wCb false cbLen (waCons (wOp false oIx (wV 6) (wK (.int 1))) waNil)) (wK (.int 1))) waNil))))) wNext)
    (wDrop (wLm false mApp (wV 4) (waCons (wV 6) waNil))))))
    (wFz 4 (wRet (wV 4))))))
section
variable {μ : Mu} {Q X : QD} {d : D} {B : Nat}
def Stp.len : Stp → Nat
  | .x ns => ns.length
  | .y ns => ns.length
  | _ => 0
def Stp.deg (s : Stp) : Nat := max 1 (s.len - 1)
def degs : List Stp → Nat
  | [] => 1
  | s :: ss => s.deg * degs ss
theorem degs_snoc (ss : List Stp) (s : Stp) : degs (ss ++ [s]) = degs ss * s.deg := by
  induction ss with
  | nil => simp [degs]
  | cons a ss ih => rw [List.cons_append, degs, ih, degs, Nat.mul_assoc]
theorem ok_law_step {room g : Int} (hr : 0 ≤ room) (h0 : 0 ≤ g) (h1 : g ≤ 1000000) (q : ∀ s : Stp, s.Ok 1000000 → (s.len : Int) ≤ (if room < 3 then room else 3) + 1 → Q s.b μ) : wp_law_step [.state, .int room, .int g] μ Q X := by
  unfold wp_law_step
  simp only [u_wDef, initE, u_wSeq, u_wNext, u_wAsg, u_wAsgG, u_wDrop, u_wRet, u_wRetN, u_wIfS, u_wPar, u_wAug, u_wSetL, u_wBreak, u_wCont, u_wgN, u_wgNil, u_wgCons, u_wgTup, u_wiSeq, u_wiRng1, u_wiRng2, u_wiEnum, u_wFor, u_wLc, u_wYes, u_wV, u_wK, u_wOp, u_wUn, u_wTup, u_wLst, u_wCb, u_wTst, u_wNotT, u_wAndT, u_wOrT, u_wIf, u_wAnd, u_wOr, u_wNot, u_waNil, u_waCons, u_waStar, u_wCall, u_wMeth, u_wProp, u_wFld, u_wSetF, u_wMake, u_wCallI, u_wRev, u_wSl, u_woNone, u_woSome, u_wLm, u_wRz, u_wRzA, u_wFz, u_wCaught, u_wErrF, u_wDict0, u_wLrng, gt, st, u_sett_v, u_sett_f, u_sett_t, u_one, u_two, u_int1, atI0, atI1, atI2, atI3, atI4, ixN20, ixN21, List.map_cons, List.map_nil, List.cons_append, List.nil_append, List.append_nil, List.length_cons, List.length_nil, List.replicate_succ, List.replicate_zero, Nat.add_one_sub_one, u_waPerm, u_wChain, u_wDisp1, u_wDispT, u_wDefD, u_oAdd_i, u_oAdd_s, u_oAdd_t, u_oAdd_l, u_oSub, u_oMul_i, u_oMul_l, u_oFdiv, u_oMod, u_oPow, u_oLt, u_oLe, u_oGt, u_oGe, u_oNeg, u_oEq_i, u_oEq_s, u_oNe_i, u_oNe_s, u_oIsN, u_oNotN, u_oIx_l, u_oIx_t, u_oIn, u_oInL, u_oSl_t, u_oSl_l, u_len_l, u_len_t, u_min2, u_max2, u_abs, u_list_l, u_list_t, u_tup_l, u_tup_t, u_isB, u_notB, u_sqD_l, u_sqD_t, u_sqD_s, u_seqL_l, u_frz_l, u_frz_k, u_frz_t, u_frz_o]
  refine ⟨trivial, by decide, ok_pick rfl (fun z => by cases z) (by simp) fun w hw => ?_⟩
  have rule : ∀ t : Str, (∀ ns : List Int, M.trim ns = ns → (ns.length : Int) ≤ (if room < 3 then room else 3) + 1 → (∀ n ∈ ns, n.natAbs ≤ g.natAbs) → Q (.tup [.str t, .list (iL ns)]) μ) →
      cbMin2 [.int 3, .int room] μ (sett false fun x μ1 => wp_law_rule [.state, x, .int g] μ1 (fun x μ1 => [D.str t, x].length ≤ sizeLine ∧ Q (.tup [.str t, x]) μ1) X) X := fun t ht => by
    simp only [cbMin2, two, int1, sett]
    refine ok_law_rule (by split <;> omega) (by split <;> omega) h0 (by omega) fun ns g1 g2 g3 => ⟨by simp [sizeLine_eq], ht ns g1 g2 g3⟩
  simp only [Nd.frz, List.mem_cons, List.not_mem_nil, or_false] at hw
  rcases hw with rfl | rfl | rfl | rfl | rfl | rfl
  all_goals simp only [oEq, eqU, sett]
  · rw [if_neg (by decide), if_neg (by decide)]
    exact rule "x" fun ns g1 g2 g3 => q (.x ns) ⟨g1, by split at g2 <;> omega, fun n hn => by have := g3 n hn; omega⟩ g2
  · rw [if_neg (by decide), if_neg (by decide)]
    exact rule "x" fun ns g1 g2 g3 => q (.x ns) ⟨g1, by split at g2 <;> omega, fun n hn => by have := g3 n hn; omega⟩ g2
  · rw [if_neg (by decide), if_neg (by decide)]
    exact rule "y" fun ns g1 g2 g3 => q (.y ns) ⟨g1, by split at g2 <;> omega, fun n hn => by have := g3 n hn; omega⟩ g2
  · rw [if_neg (by decide), if_neg (by decide)]
    exact rule "y" fun ns g1 g2 g3 => q (.y ns) ⟨g1, by split at g2 <;> omega, fun n hn => by have := g3 n hn; omega⟩ g2
  · rw [if_pos (by decide)]
    refine ok_law_turn (by split <;> omega) (by split <;> omega) fun a b c d h => q _ (h.up (by decide)) ?_
    show ((0 : Nat) : Int) ≤ _
    split <;> omega
  · rw [if_neg (by decide), if_pos (by decide)]
    refine ok_number h0 (by omega) fun i hi => ok_number h0 (by omega) fun j hj => ⟨by simp [sizeLine_eq], q (.move i j) ⟨by omega, by omega⟩ ?_⟩
    show ((0 : Nat) : Int) ≤ _
    split <;> omega
theorem ok_law_steps {count room g : Int} (hc : 0 ≤ count) (hc2 : count ≤ 1000) (hr : 1 ≤ room) (hr2 : room ≤ 1000000) (h0 : 0 ≤ g) (h1 : g ≤ 1000000)
    (q : ∀ ss : List Stp, (ss.length : Int) ≤ count → (∀ s ∈ ss, s.Ok 1000000) → (degs ss : Int) ≤ room → Q (.list (ss.map Stp.b)) μ) : wp_law_steps [.state, .int count, .int room, .int g] μ Q X := by
  unfold wp_law_steps
  simp only [u_wDef, initE, u_wSeq, u_wNext, u_wAsg, u_wAsgG, u_wDrop, u_wRet, u_wRetN, u_wIfS, u_wPar, u_wAug, u_wSetL, u_wBreak, u_wCont, u_wgN, u_wgNil, u_wgCons, u_wgTup, u_wiSeq, u_wiRng1, u_wiRng2, u_wiEnum, u_wFor, u_wLc, u_wYes, u_wV, u_wK, u_wOp, u_wUn, u_wTup, u_wLst, u_wCb, u_wTst, u_wNotT, u_wAndT, u_wOrT, u_wIf, u_wAnd, u_wOr, u_wNot, u_waNil, u_waCons, u_waStar, u_wCall, u_wMeth, u_wProp, u_wFld, u_wSetF, u_wMake, u_wCallI, u_wRev, u_wSl, u_woNone, u_woSome, u_wLm, u_wRz, u_wRzA, u_wFz, u_wCaught, u_wErrF, u_wDict0, u_wLrng, gt, st, u_sett_v, u_sett_f, u_sett_t, u_one, u_two, u_int1, atI0, atI1, atI2, atI3, atI4, ixN20, ixN21, List.map_cons, List.map_nil, List.cons_append, List.nil_append, List.append_nil, List.length_cons, List.length_nil, List.replicate_succ, List.replicate_zero, Nat.add_one_sub_one, u_waPerm, u_wChain, u_wDisp1, u_wDispT, u_wDefD, u_oAdd_i, u_oAdd_s, u_oAdd_t, u_oAdd_l, u_oSub, u_oMul_i, u_oMul_l, u_oFdiv, u_oMod, u_oPow, u_oLt, u_oLe, u_oGt, u_oGe, u_oNeg, u_oEq_i, u_oEq_s, u_oNe_i, u_oNe_s, u_oIsN, u_oNotN, u_oIx_l, u_oIx_t, u_oIn, u_oInL, u_oSl_t, u_oSl_l, u_len_l, u_len_t, u_min2, u_max2, u_abs, u_list_l, u_list_t, u_tup_l, u_tup_t, u_isB, u_notB, u_sqD_l, u_sqD_t, u_sqD_s, u_seqL_l, u_frz_l, u_frz_k, u_frz_t, u_frz_o]
  refine ⟨trivial, by decide, fun p hp => ?_⟩
  refine ok_take (by omega) (Nat.lt_of_lt_of_le (by omega : (count + 1).natAbs < 2 ^ 63) (Nat.pow_le_pow_right (by decide) (by decide))) fun i h2 h3 => ⟨⟨by omega, by omega⟩, ?_⟩
  obtain ⟨j, rfl⟩ := Int.eq_ofNat_of_zero_le h2
  refine ⟨by rw [rangeD_len, Int.toNat_natCast]; omega, for_inv (fun i e μ' => ∃ (rm : Int) (ss : List Stp), (∃ e5 e6, e = [some .state, some (.int count), some (.int rm), some (.int g), some (.cell p), e5, e6]) ∧ μ' = up μ p (.list (ss.map Stp.b)) ∧ ss.length = i ∧ (∀ s ∈ ss, s.Ok 1000000) ∧ 1 ≤ rm ∧ (degs ss : Int) * rm ≤ room) ⟨room, [], ⟨_, _, rfl⟩, rfl, rfl, (fun _ z => by cases z), hr, (by rw [degs]; omega)⟩ ?_ ?_⟩
  · rintro i x e μ' N hx ⟨rm, ss, ⟨e5, e6, rfl⟩, rfl, hl, hs, hrm, hd⟩ hN
    have hij : i < j := by
      have := (List.getElem?_eq_some_iff.mp hx).1
      rw [rangeD_len] at this
      exact this
    refine ⟨trivial, ?_⟩
    simp only [u_wDef, initE, u_wSeq, u_wNext, u_wAsg, u_wAsgG, u_wDrop, u_wRet, u_wRetN, u_wIfS, u_wPar, u_wAug, u_wSetL, u_wBreak, u_wCont, u_wgN, u_wgNil, u_wgCons, u_wgTup, u_wiSeq, u_wiRng1, u_wiRng2, u_wiEnum, u_wFor, u_wLc, u_wYes, u_wV, u_wK, u_wOp, u_wUn, u_wTup, u_wLst, u_wCb, u_wTst, u_wNotT, u_wAndT, u_wOrT, u_wIf, u_wAnd, u_wOr, u_wNot, u_waNil, u_waCons, u_waStar, u_wCall, u_wMeth, u_wProp, u_wFld, u_wSetF, u_wMake, u_wCallI, u_wRev, u_wSl, u_woNone, u_woSome, u_wLm, u_wRz, u_wRzA, u_wFz, u_wCaught, u_wErrF, u_wDict0, u_wLrng, gt, st, u_sett_v, u_sett_f, u_sett_t, u_one, u_two, u_int1, atI0, atI1, atI2, atI3, atI4, ixN20, ixN21, List.map_cons, List.map_nil, List.cons_append, List.nil_append, List.append_nil, List.length_cons, List.length_nil, List.replicate_succ, List.replicate_zero, Nat.add_one_sub_one, u_waPerm, u_wChain, u_wDisp1, u_wDispT, u_wDefD, u_oAdd_i, u_oAdd_s, u_oAdd_t, u_oAdd_l, u_oSub, u_oMul_i, u_oMul_l, u_oFdiv, u_oMod, u_oPow, u_oLt, u_oLe, u_oGt, u_oGe, u_oNeg, u_oEq_i, u_oEq_s, u_oNe_i, u_oNe_s, u_oIsN, u_oNotN, u_oIx_l, u_oIx_t, u_oIn, u_oInL, u_oSl_t, u_oSl_l, u_len_l, u_len_t, u_min2, u_max2, u_abs, u_list_l, u_list_t, u_tup_l, u_tup_t, u_isB, u_notB, u_sqD_l, u_sqD_t, u_sqD_s, u_seqL_l, u_frz_l, u_frz_k, u_frz_t, u_frz_o]
    refine ok_law_step (by omega) h0 h1 fun s hs1 hs2 => ?_
    have dp : 1 ≤ (degs ss : Int) := by
      have : 0 < degs ss := by
        clear hd hN hs hl
        induction ss with
        | nil => decide
        | cons a ss ih => exact Nat.mul_pos (Nat.lt_of_lt_of_le Nat.zero_lt_one (Nat.le_max_left _ _)) ih
      omega
    have fin : ∀ (rm' : Int), 1 ≤ rm' → (s.deg : Int) * rm' ≤ rm → N [some .state, some (.int count), some (.int rm'), some (.int g), some (.cell p), some x, some s.b] (up μ p (.list (ss.map Stp.b ++ [s.b]))) := fun rm' h5 h6 => by
      refine hN _ _ ⟨rm', ss ++ [s], ⟨_, _, rfl⟩, by rw [List.map_append]; rfl, by rw [List.length_append, hl]; rfl, fun t ht => ?_, h5, ?_⟩
      · rcases List.mem_append.mp ht with z | z
        · exact hs t z
        · rw [List.mem_singleton.mp z]
          exact hs1
      · rw [degs_snoc, Int.natCast_mul, Int.mul_assoc]
        exact Int.le_trans (Int.mul_le_mul_of_nonneg_left h6 (by omega)) hd
    have app : ∀ e : EnvD, (∀ μ1, μ1 = up μ p (.list (ss.map Stp.b ++ [s.b])) → N e μ1) → isL (up μ p (.list (ss.map Stp.b))) (.cell p) ∧ mApp (.cell p) [s.b] (up μ p (.list (ss.map Stp.b))) (sett false fun _ μ1 => N e μ1) fun d μ1 => X d μ1 := fun e he => by
      refine ⟨by simp [isL, seqL, up_same, ndL], ?_⟩
      simp only [mApp, lstC, up_same, ndL, one, up_up]
      exact ⟨by rw [List.length_map, hl, sizeLine_eq]; omega, he _ rfl⟩
    have low : ∀ ns : List Int, s.len = ns.length → N [some .state, some (.int count), some (.int (rm / (if ((ns.length : Int) - 1) > 1 then ((ns.length : Int) - 1) else 1))), some (.int g), some (.cell p), some x, some s.b] (up μ p (.list (ss.map Stp.b ++ [s.b]))) := fun ns hn => by
      have hdg : (if ((ns.length : Int) - 1) > 1 then ((ns.length : Int) - 1) else 1) = (s.deg : Int) := by
        unfold Stp.deg
        rw [hn]
        split <;> omega
      have hpos : (1 : Int) ≤ (s.deg : Int) := by unfold Stp.deg; omega
      have hle : (s.deg : Int) ≤ rm := by
        unfold Stp.deg
        split at hs2 <;> omega
      rw [hdg]
      refine fin _ ?_ ?_
      · exact (Int.le_ediv_iff_mul_le (by omega)).mpr (by omega)
      · exact Int.mul_ediv_self_le (by omega)
    refine ok_is_low ?_
    cases s with
    | x ns =>
      simp only [u_wDef, initE, u_wSeq, u_wNext, u_wAsg, u_wAsgG, u_wDrop, u_wRet, u_wRetN, u_wIfS, u_wPar, u_wAug, u_wSetL, u_wBreak, u_wCont, u_wgN, u_wgNil, u_wgCons, u_wgTup, u_wiSeq, u_wiRng1, u_wiRng2, u_wiEnum, u_wFor, u_wLc, u_wYes, u_wV, u_wK, u_wOp, u_wUn, u_wTup, u_wLst, u_wCb, u_wTst, u_wNotT, u_wAndT, u_wOrT, u_wIf, u_wAnd, u_wOr, u_wNot, u_waNil, u_waCons, u_waStar, u_wCall, u_wMeth, u_wProp, u_wFld, u_wSetF, u_wMake, u_wCallI, u_wRev, u_wSl, u_woNone, u_woSome, u_wLm, u_wRz, u_wRzA, u_wFz, u_wCaught, u_wErrF, u_wDict0, u_wLrng, gt, st, u_sett_v, u_sett_f, u_sett_t, u_one, u_two, u_int1, atI0, atI1, atI2, atI3, atI4, ixN20, ixN21, List.map_cons, List.map_nil, List.cons_append, List.nil_append, List.append_nil, List.length_cons, List.length_nil, List.replicate_succ, List.replicate_zero, Nat.add_one_sub_one, u_waPerm, u_wChain, u_wDisp1, u_wDispT, u_wDefD, u_oAdd_i, u_oAdd_s, u_oAdd_t, u_oAdd_l, u_oSub, u_oMul_i, u_oMul_l, u_oFdiv, u_oMod, u_oPow, u_oLt, u_oLe, u_oGt, u_oGe, u_oNeg, u_oEq_i, u_oEq_s, u_oNe_i, u_oNe_s, u_oIsN, u_oNotN, u_oIx_l, u_oIx_t, u_oIn, u_oInL, u_oSl_t, u_oSl_l, u_len_l, u_len_t, u_min2, u_max2, u_abs, u_list_l, u_list_t, u_tup_l, u_tup_t, u_isB, u_notB, u_sqD_l, u_sqD_t, u_sqD_s, u_seqL_l, u_frz_l, u_frz_k, u_frz_t, u_frz_o, Stp.low, if_true, Stp.b, iL_len]
      refine ⟨wide_div (b := 10) (by split <;> omega) (by have := hs1.2.1; split <;> omega) (by decide) (by decide), app _ fun μ1 hμ => ?_⟩
      rw [hμ]
      exact low ns rfl
    | y ns =>
      simp only [u_wDef, initE, u_wSeq, u_wNext, u_wAsg, u_wAsgG, u_wDrop, u_wRet, u_wRetN, u_wIfS, u_wPar, u_wAug, u_wSetL, u_wBreak, u_wCont, u_wgN, u_wgNil, u_wgCons, u_wgTup, u_wiSeq, u_wiRng1, u_wiRng2, u_wiEnum, u_wFor, u_wLc, u_wYes, u_wV, u_wK, u_wOp, u_wUn, u_wTup, u_wLst, u_wCb, u_wTst, u_wNotT, u_wAndT, u_wOrT, u_wIf, u_wAnd, u_wOr, u_wNot, u_waNil, u_waCons, u_waStar, u_wCall, u_wMeth, u_wProp, u_wFld, u_wSetF, u_wMake, u_wCallI, u_wRev, u_wSl, u_woNone, u_woSome, u_wLm, u_wRz, u_wRzA, u_wFz, u_wCaught, u_wErrF, u_wDict0, u_wLrng, gt, st, u_sett_v, u_sett_f, u_sett_t, u_one, u_two, u_int1, atI0, atI1, atI2, atI3, atI4, ixN20, ixN21, List.map_cons, List.map_nil, List.cons_append, List.nil_append, List.append_nil, List.length_cons, List.length_nil, List.replicate_succ, List.replicate_zero, Nat.add_one_sub_one, u_waPerm, u_wChain, u_wDisp1, u_wDispT, u_wDefD, u_oAdd_i, u_oAdd_s, u_oAdd_t, u_oAdd_l, u_oSub, u_oMul_i, u_oMul_l, u_oFdiv, u_oMod, u_oPow, u_oLt, u_oLe, u_oGt, u_oGe, u_oNeg, u_oEq_i, u_oEq_s, u_oNe_i, u_oNe_s, u_oIsN, u_oNotN, u_oIx_l, u_oIx_t, u_oIn, u_oInL, u_oSl_t, u_oSl_l, u_len_l, u_len_t, u_min2, u_max2, u_abs, u_list_l, u_list_t, u_tup_l, u_tup_t, u_isB, u_notB, u_sqD_l, u_sqD_t, u_sqD_s, u_seqL_l, u_frz_l, u_frz_k, u_frz_t, u_frz_o, Stp.low, if_true, Stp.b, iL_len]
      refine ⟨wide_div (b := 10) (by split <;> omega) (by have := hs1.2.1; split <;> omega) (by decide) (by decide), app _ fun μ1 hμ => ?_⟩
      rw [hμ]
      exact low ns rfl
    | move a b =>
      simp only [u_wDef, initE, u_wSeq, u_wNext, u_wAsg, u_wAsgG, u_wDrop, u_wRet, u_wRetN, u_wIfS, u_wPar, u_wAug, u_wSetL, u_wBreak, u_wCont, u_wgN, u_wgNil, u_wgCons, u_wgTup, u_wiSeq, u_wiRng1, u_wiRng2, u_wiEnum, u_wFor, u_wLc, u_wYes, u_wV, u_wK, u_wOp, u_wUn, u_wTup, u_wLst, u_wCb, u_wTst, u_wNotT, u_wAndT, u_wOrT, u_wIf, u_wAnd, u_wOr, u_wNot, u_waNil, u_waCons, u_waStar, u_wCall, u_wMeth, u_wProp, u_wFld, u_wSetF, u_wMake, u_wCallI, u_wRev, u_wSl, u_woNone, u_woSome, u_wLm, u_wRz, u_wRzA, u_wFz, u_wCaught, u_wErrF, u_wDict0, u_wLrng, gt, st, u_sett_v, u_sett_f, u_sett_t, u_one, u_two, u_int1, atI0, atI1, atI2, atI3, atI4, ixN20, ixN21, List.map_cons, List.map_nil, List.cons_append, List.nil_append, List.append_nil, List.length_cons, List.length_nil, List.replicate_succ, List.replicate_zero, Nat.add_one_sub_one, u_waPerm, u_wChain, u_wDisp1, u_wDispT, u_wDefD, u_oAdd_i, u_oAdd_s, u_oAdd_t, u_oAdd_l, u_oSub, u_oMul_i, u_oMul_l, u_oFdiv, u_oMod, u_oPow, u_oLt, u_oLe, u_oGt, u_oGe, u_oNeg, u_oEq_i, u_oEq_s, u_oNe_i, u_oNe_s, u_oIsN, u_oNotN, u_oIx_l, u_oIx_t, u_oIn, u_oInL, u_oSl_t, u_oSl_l, u_len_l, u_len_t, u_min2, u_max2, u_abs, u_list_l, u_list_t, u_tup_l, u_tup_t, u_isB, u_notB, u_sqD_l, u_sqD_t, u_sqD_s, u_seqL_l, u_frz_l, u_frz_k, u_frz_t, u_frz_o, Stp.low, if_neg Bool.false_ne_true]
      refine app _ fun μ1 hμ => ?_
      rw [hμ]
      exact fin rm hrm (by show ((1 : Nat) : Int) * rm ≤ rm; omega)
    | turn a b c d =>
      simp only [u_wDef, initE, u_wSeq, u_wNext, u_wAsg, u_wAsgG, u_wDrop, u_wRet, u_wRetN, u_wIfS, u_wPar, u_wAug, u_wSetL, u_wBreak, u_wCont, u_wgN, u_wgNil, u_wgCons, u_wgTup, u_wiSeq, u_wiRng1, u_wiRng2, u_wiEnum, u_wFor, u_wLc, u_wYes, u_wV, u_wK, u_wOp, u_wUn, u_wTup, u_wLst, u_wCb, u_wTst, u_wNotT, u_wAndT, u_wOrT, u_wIf, u_wAnd, u_wOr, u_wNot, u_waNil, u_waCons, u_waStar, u_wCall, u_wMeth, u_wProp, u_wFld, u_wSetF, u_wMake, u_wCallI, u_wRev, u_wSl, u_woNone, u_woSome, u_wLm, u_wRz, u_wRzA, u_wFz, u_wCaught, u_wErrF, u_wDict0, u_wLrng, gt, st, u_sett_v, u_sett_f, u_sett_t, u_one, u_two, u_int1, atI0, atI1, atI2, atI3, atI4, ixN20, ixN21, List.map_cons, List.map_nil, List.cons_append, List.nil_append, List.append_nil, List.length_cons, List.length_nil, List.replicate_succ, List.replicate_zero, Nat.add_one_sub_one, u_waPerm, u_wChain, u_wDisp1, u_wDispT, u_wDefD, u_oAdd_i, u_oAdd_s, u_oAdd_t, u_oAdd_l, u_oSub, u_oMul_i, u_oMul_l, u_oFdiv, u_oMod, u_oPow, u_oLt, u_oLe, u_oGt, u_oGe, u_oNeg, u_oEq_i, u_oEq_s, u_oNe_i, u_oNe_s, u_oIsN, u_oNotN, u_oIx_l, u_oIx_t, u_oIn, u_oInL, u_oSl_t, u_oSl_l, u_len_l, u_len_t, u_min2, u_max2, u_abs, u_list_l, u_list_t, u_tup_l, u_tup_t, u_isB, u_notB, u_sqD_l, u_sqD_t, u_sqD_s, u_seqL_l, u_frz_l, u_frz_k, u_frz_t, u_frz_o, Stp.low, if_neg Bool.false_ne_true]
      refine app _ fun μ1 hμ => ?_
      rw [hμ]
      exact fin rm hrm (by show ((1 : Nat) : Int) * rm ≤ rm; omega)
  · rintro e μ' ⟨rm, ss, ⟨e5, e6, rfl⟩, rfl, hl, hs, hrm, hd⟩
    refine ⟨trivial, ?_⟩
    simp only [u_wDef, initE, u_wSeq, u_wNext, u_wAsg, u_wAsgG, u_wDrop, u_wRet, u_wRetN, u_wIfS, u_wPar, u_wAug, u_wSetL, u_wBreak, u_wCont, u_wgN, u_wgNil, u_wgCons, u_wgTup, u_wiSeq, u_wiRng1, u_wiRng2, u_wiEnum, u_wFor, u_wLc, u_wYes, u_wV, u_wK, u_wOp, u_wUn, u_wTup, u_wLst, u_wCb, u_wTst, u_wNotT, u_wAndT, u_wOrT, u_wIf, u_wAnd, u_wOr, u_wNot, u_waNil, u_waCons, u_waStar, u_wCall, u_wMeth, u_wProp, u_wFld, u_wSetF, u_wMake, u_wCallI, u_wRev, u_wSl, u_woNone, u_woSome, u_wLm, u_wRz, u_wRzA, u_wFz, u_wCaught, u_wErrF, u_wDict0, u_wLrng, gt, st, u_sett_v, u_sett_f, u_sett_t, u_one, u_two, u_int1, atI0, atI1, atI2, atI3, atI4, ixN20, ixN21, List.map_cons, List.map_nil, List.cons_append, List.nil_append, List.append_nil, List.length_cons, List.length_nil, List.replicate_succ, List.replicate_zero, Nat.add_one_sub_one, u_waPerm, u_wChain, u_wDisp1, u_wDispT, u_wDefD, u_oAdd_i, u_oAdd_s, u_oAdd_t, u_oAdd_l, u_oSub, u_oMul_i, u_oMul_l, u_oFdiv, u_oMod, u_oPow, u_oLt, u_oLe, u_oGt, u_oGe, u_oNeg, u_oEq_i, u_oEq_s, u_oNe_i, u_oNe_s, u_oIsN, u_oNotN, u_oIx_l, u_oIx_t, u_oIn, u_oInL, u_oSl_t, u_oSl_l, u_len_l, u_len_t, u_min2, u_max2, u_abs, u_list_l, u_list_t, u_tup_l, u_tup_t, u_isB, u_notB, u_sqD_l, u_sqD_t, u_sqD_s, u_seqL_l, u_frz_l, u_frz_k, u_frz_t, u_frz_o, up_same, del_up hp]
    rw [rangeD_len] at hl
    refine q ss ?_ hs ?_
    · rw [hl, Int.toNat_natCast]; omega
    · have : (degs ss : Int) * 1 ≤ (degs ss : Int) * rm := Int.mul_le_mul_of_nonneg_left hrm (by omega)
      omega
end
end DL

set_option Elab.async false
set_option linter.all false
set_option maxRecDepth 100000
set_option maxHeartbeats 4000000
/-! P7: is_step, of any value. -/
namespace DL
open PySem L2
def wp_is_step : WP := (wDef 1 2 (wSeq (wIfS (wOrT (wNotT (wTst (wCb false cbIsi (waCons (wV 0) (waCons (wK (.ty "tuple")) waNil))))) (wOrT (wTst (wOp false oEq (wCb false cbLen (waCons (wV 0) waNil)) (wK (.int 0)))) (wNotT (wTst (wCb false cbIsi (waCons (wOp false oIx (wV 0) (wK (.int 0))) (waCons (wK (.ty "str")) waNil))))))) (wRet (wK (.bool false))) wNext)
    (wSeq (wIfS (wTst (wOp false (oIn false) (wOp false oIx (wV 0) (wK (.int 0))) (wTup (waCons (wK (.str "x")) (waCons (wK (.str "y")) waNil))))) (wRet (wAnd (wOp false oEq (wCb false cbLen (waCons (wV 0) waNil)) (wK (.int 2))) (wCb false cbIsi (waCons (wOp false oIx (wV 0) (wK (.int 1))) (waCons (wK (.cls "Rule")) waNil))))) wNext)
    (wSeq (wIfS (wNotT (wTst (wCb false cbAll (waCons (wLc false (wiSeq (wSl false oSl (wV 0) (woSome (wK (.int 1))) woNone)) (wgN 1) wYes (wCall wp_is_number [] (waCons (wV 1) waNil)) [1]) waNil)))) (wRet (wK (.bool false))) wNext)
    (wSeq (wIfS (wTst (wOp false oEq (wOp false oIx (wV 0) (wK (.int 0))) (wK (.str "move")))) (wRet (wOp false oEq (wCb false cbLen (waCons (wV 0) waNil)) (wK (.int 3)))) wNext)
    (wSeq (wIfS (wOrT (wTst (wOp false oNe (wOp false oIx (wV 0) (wK (.int 0))) (wK (.str "turn")))) (wTst (wOp false oNe (wCb false cbLen (waCons (wV 0) waNil)) (wK (.int 5))))) (wRet (wK (.bool false))) wNext)
    (wRet (wOp false (oIn false) (wOp false oSub (wOp false oMul (wOp false oIx (wV 0) (wK (.int 1))) (wOp false oIx (wV 0) (wK (.int 4)))) (wOp false oMul (wOp false oIx (wV 0) (wK (.int 2))) (wOp false oIx (wV 0) (wK (.int 3))))) (wTup (waCons (wK (.int 1)) (waCons (wUn false oNeg (wK (.int 1))) waNil)))))))))))
/-- the kind of a thing that is no cell -/
def tyF (d : D) : Option TyD := tyD (fun _ => Option.none) d
theorem tyF_tyD {d : D} {t : TyD} (h : tyF d = some t) (μ : Mu) : tyD μ d = some t := by
  cases d <;> first | exact h | (simp [tyF, tyD, ndTy] at h; done)
def isRuleB (d : D) : Bool := match tyF d with
  | some (.o n) => decide (n = "Rule")
  | _ => false
def detB : List D → Bool
  | [.int a, .int b, .int c, .int d] => decide (a * d - b * c = 1) || decide (a * d - b * c = -1)
  | _ => false
def oneRule : List D → Bool
  | [r] => isRuleB r
  | _ => false
/-- whether a value is a step -/
def stepB : D → Bool
  | .tup (.str w :: rest) => if w = "x" ∨ w = "y" then oneRule rest
    else rest.all numD && (if w = "move" then decide (rest.length = 2) else decide (w = "turn") && detB rest)
  | _ => false
/-- a value of a known kind, its numbers not too great -/
structure Good (d : D) : Prop where
  ty : ∃ t, tyF d = some t
  len : ∀ ds, d = .tup ds → ds.length ≤ 1000
  items : ∀ ds, d = .tup ds → ∀ x ∈ ds, (∃ t, tyF x = some t) ∧ ∀ i, x = .int i → i.natAbs ≤ 10 ^ 70
section
variable {μ : Mu} {Q X : QD} {d : D} {B : Nat}
theorem cut_tail (x : D) (rest : List D) : cutD (x :: rest) (some 1) none = rest := by
  unfold cutD
  rw [show (some (1 : Int)) = some ((1 : Nat) : Int) from rfl, HT.sIx_nat, HT.sIx_none, List.length_cons, Nat.min_eq_left (by omega), List.drop_succ_cons, List.drop_zero]
  exact List.take_of_length_le (by omega)
theorem mulU_mid {i j : Int} (hi : i.natAbs ≤ 10 ^ 70) (hj : j.natAbs ≤ 10 ^ 70) : CMulU i j := mulU_of (a := 240) (b := 240) (Nat.lt_of_le_of_lt hi (by decide +kernel)) (Nat.lt_of_le_of_lt hj (by decide +kernel)) (by decide)
theorem in_xy (w : Str) : inF (.str w) [.str "x", .str "y"] = decide (w = "x" ∨ w = "y") := by
  have e : ∀ a : Str, eqF (.str a) (.str w) = decide (w = a) := fun a => by
    show (a == w) = _
    rw [Bool.eq_iff_iff, beq_iff_eq, decide_eq_true_iff]
    exact eq_comm
  simp only [inF, List.any_cons, List.any_nil, e, Bool.or_false]
  rw [Bool.eq_iff_iff]
  simp
theorem num_int {x : D} (h : numD x = true) : ∃ i, x = .int i := by
  cases x <;> first | exact ⟨_, rfl⟩ | cases h
theorem isi_tuple {t : TyD} (h : tyF d = some t) : isiD t (.ty "tuple") = some (match d with | .tup _ => true | _ => false) := by
  cases d <;> first | (cases h; rfl) | (simp [tyF, tyD, ndTy] at h; done)
theorem isi_str {t : TyD} (h : tyF d = some t) : isiD t (.ty "str") = some (match d with | .str _ => true | _ => false) := by
  cases d <;> first | (cases h; rfl) | (simp [tyF, tyD, ndTy] at h; done)
theorem isi_rule {t : TyD} (h : tyF d = some t) : isiD t (.cls "Rule") = some (isRuleB d) := by
  unfold isRuleB
  rw [h]
  cases t with
  | b n => rfl
  | o n =>
    show some (subCC n "Rule") = some (decide (n = "Rule"))
    unfold subCC
    rw [show decide (("Rule" : Str) = "CrossError") = false by decide]
    simp
theorem ok_is_step (h : Good d) (q : Q (.bool (stepB d)) μ) : wp_is_step [d] μ Q X := by
  obtain ⟨t, ht⟩ := h.ty
  unfold wp_is_step
  simp only [u_wDef, initE, u_wSeq, u_wNext, u_wAsg, u_wAsgG, u_wDrop, u_wRet, u_wRetN, u_wIfS, u_wPar, u_wAug, u_wSetL, u_wBreak, u_wCont, u_wgN, u_wgNil, u_wgCons, u_wgTup, u_wiSeq, u_wiRng1, u_wiRng2, u_wiEnum, u_wFor, u_wLc, u_wYes, u_wV, u_wK, u_wOp, u_wUn, u_wTup, u_wLst, u_wCb, u_wTst, u_wNotT, u_wAndT, u_wOrT, u_wIf, u_wAnd, u_wOr, u_wNot, u_waNil, u_waCons, u_waStar, u_wCall, u_wMeth, u_wProp, u_wFld, u_wSetF, u_wMake, u_wCallI, u_wRev, u_wSl, u_woNone, u_woSome, u_wLm, u_wRz, u_wRzA, u_wFz, u_wCaught, u_wErrF, u_wDict0, u_wLrng, gt, st, u_sett_v, u_sett_f, u_sett_t, u_one, u_two, u_int1, atI0, atI1, atI2, atI3, atI4, ixN20, ixN21, List.map_cons, List.map_nil, List.cons_append, List.nil_append, List.append_nil, List.length_cons, List.length_nil, List.replicate_succ, List.replicate_zero, Nat.add_one_sub_one, u_waPerm, u_wChain, u_wDisp1, u_wDispT, u_wDefD, u_oAdd_i, u_oAdd_s, u_oAdd_t, u_oAdd_l, u_oSub, u_oMul_i, u_oMul_l, u_oFdiv, u_oMod, u_oPow, u_oLt, u_oLe, u_oGt, u_oGe, u_oNeg, u_oEq_i, u_oEq_s, u_oNe_i, u_oNe_s, u_oIsN, u_oNotN, u_oIx_l, u_oIx_t, u_oIn, u_oInL, u_oSl_t, u_oSl_l, u_len_l, u_len_t, u_min2, u_max2, u_abs, u_list_l, u_list_t, u_tup_l, u_tup_t, u_isB, u_notB, u_sqD_l, u_sqD_t, u_sqD_s, u_seqL_l, u_frz_l, u_frz_k, u_frz_t, u_frz_o, cbIsi, two, tyF_tyD ht μ, isi_tuple ht, true_and]
  cases d with
  | tup ds =>
    simp only [Bool.not_true, if_neg Bool.false_ne_true, u_wDef, initE, u_wSeq, u_wNext, u_wAsg, u_wAsgG, u_wDrop, u_wRet, u_wRetN, u_wIfS, u_wPar, u_wAug, u_wSetL, u_wBreak, u_wCont, u_wgN, u_wgNil, u_wgCons, u_wgTup, u_wiSeq, u_wiRng1, u_wiRng2, u_wiEnum, u_wFor, u_wLc, u_wYes, u_wV, u_wK, u_wOp, u_wUn, u_wTup, u_wLst, u_wCb, u_wTst, u_wNotT, u_wAndT, u_wOrT, u_wIf, u_wAnd, u_wOr, u_wNot, u_waNil, u_waCons, u_waStar, u_wCall, u_wMeth, u_wProp, u_wFld, u_wSetF, u_wMake, u_wCallI, u_wRev, u_wSl, u_woNone, u_woSome, u_wLm, u_wRz, u_wRzA, u_wFz, u_wCaught, u_wErrF, u_wDict0, u_wLrng, gt, st, u_sett_v, u_sett_f, u_sett_t, u_one, u_two, u_int1, atI0, atI1, atI2, atI3, atI4, ixN20, ixN21, List.map_cons, List.map_nil, List.cons_append, List.nil_append, List.append_nil, List.length_cons, List.length_nil, List.replicate_succ, List.replicate_zero, Nat.add_one_sub_one, u_waPerm, u_wChain, u_wDisp1, u_wDispT, u_wDefD, u_oAdd_i, u_oAdd_s, u_oAdd_t, u_oAdd_l, u_oSub, u_oMul_i, u_oMul_l, u_oFdiv, u_oMod, u_oPow, u_oLt, u_oLe, u_oGt, u_oGe, u_oNeg, u_oEq_i, u_oEq_s, u_oNe_i, u_oNe_s, u_oIsN, u_oNotN, u_oIx_l, u_oIx_t, u_oIn, u_oInL, u_oSl_t, u_oSl_l, u_len_l, u_len_t, u_min2, u_max2, u_abs, u_list_l, u_list_t, u_tup_l, u_tup_t, u_isB, u_notB, u_sqD_l, u_sqD_t, u_sqD_s, u_seqL_l, u_frz_l, u_frz_k, u_frz_t, u_frz_o]
    cases ds with
    | nil =>
      simp only [u_wDef, initE, u_wSeq, u_wNext, u_wAsg, u_wAsgG, u_wDrop, u_wRet, u_wRetN, u_wIfS, u_wPar, u_wAug, u_wSetL, u_wBreak, u_wCont, u_wgN, u_wgNil, u_wgCons, u_wgTup, u_wiSeq, u_wiRng1, u_wiRng2, u_wiEnum, u_wFor, u_wLc, u_wYes, u_wV, u_wK, u_wOp, u_wUn, u_wTup, u_wLst, u_wCb, u_wTst, u_wNotT, u_wAndT, u_wOrT, u_wIf, u_wAnd, u_wOr, u_wNot, u_waNil, u_waCons, u_waStar, u_wCall, u_wMeth, u_wProp, u_wFld, u_wSetF, u_wMake, u_wCallI, u_wRev, u_wSl, u_woNone, u_woSome, u_wLm, u_wRz, u_wRzA, u_wFz, u_wCaught, u_wErrF, u_wDict0, u_wLrng, gt, st, u_sett_v, u_sett_f, u_sett_t, u_one, u_two, u_int1, atI0, atI1, atI2, atI3, atI4, ixN20, ixN21, List.map_cons, List.map_nil, List.cons_append, List.nil_append, List.append_nil, List.length_cons, List.length_nil, List.replicate_succ, List.replicate_zero, Nat.add_one_sub_one, u_waPerm, u_wChain, u_wDisp1, u_wDispT, u_wDefD, u_oAdd_i, u_oAdd_s, u_oAdd_t, u_oAdd_l, u_oSub, u_oMul_i, u_oMul_l, u_oFdiv, u_oMod, u_oPow, u_oLt, u_oLe, u_oGt, u_oGe, u_oNeg, u_oEq_i, u_oEq_s, u_oNe_i, u_oNe_s, u_oIsN, u_oNotN, u_oIx_l, u_oIx_t, u_oIn, u_oInL, u_oSl_t, u_oSl_l, u_len_l, u_len_t, u_min2, u_max2, u_abs, u_list_l, u_list_t, u_tup_l, u_tup_t, u_isB, u_notB, u_sqD_l, u_sqD_t, u_sqD_s, u_seqL_l, u_frz_l, u_frz_k, u_frz_t, u_frz_o, List.length_nil]
      rw [if_pos (by decide)]
      exact q
    | cons x rest =>
      obtain ⟨⟨tx, hx⟩, _⟩ := h.items _ rfl x List.mem_cons_self
      simp only [u_wDef, initE, u_wSeq, u_wNext, u_wAsg, u_wAsgG, u_wDrop, u_wRet, u_wRetN, u_wIfS, u_wPar, u_wAug, u_wSetL, u_wBreak, u_wCont, u_wgN, u_wgNil, u_wgCons, u_wgTup, u_wiSeq, u_wiRng1, u_wiRng2, u_wiEnum, u_wFor, u_wLc, u_wYes, u_wV, u_wK, u_wOp, u_wUn, u_wTup, u_wLst, u_wCb, u_wTst, u_wNotT, u_wAndT, u_wOrT, u_wIf, u_wAnd, u_wOr, u_wNot, u_waNil, u_waCons, u_waStar, u_wCall, u_wMeth, u_wProp, u_wFld, u_wSetF, u_wMake, u_wCallI, u_wRev, u_wSl, u_woNone, u_woSome, u_wLm, u_wRz, u_wRzA, u_wFz, u_wCaught, u_wErrF, u_wDict0, u_wLrng, gt, st, u_sett_v, u_sett_f, u_sett_t, u_one, u_two, u_int1, atI0, atI1, atI2, atI3, atI4, ixN20, ixN21, List.map_cons, List.map_nil, List.cons_append, List.nil_append, List.append_nil, List.length_cons, List.length_nil, List.replicate_succ, List.replicate_zero, Nat.add_one_sub_one, u_waPerm, u_wChain, u_wDisp1, u_wDispT, u_wDefD, u_oAdd_i, u_oAdd_s, u_oAdd_t, u_oAdd_l, u_oSub, u_oMul_i, u_oMul_l, u_oFdiv, u_oMod, u_oPow, u_oLt, u_oLe, u_oGt, u_oGe, u_oNeg, u_oEq_i, u_oEq_s, u_oNe_i, u_oNe_s, u_oIsN, u_oNotN, u_oIx_l, u_oIx_t, u_oIn, u_oInL, u_oSl_t, u_oSl_l, u_len_l, u_len_t, u_min2, u_max2, u_abs, u_list_l, u_list_t, u_tup_l, u_tup_t, u_isB, u_notB, u_sqD_l, u_sqD_t, u_sqD_s, u_seqL_l, u_frz_l, u_frz_k, u_frz_t, u_frz_o, tyF_tyD hx μ, isi_str hx]
      rw [if_neg (by simp; omega)]
      cases x with
      | str w =>
        simp only [Bool.not_true, if_neg Bool.false_ne_true, u_wDef, initE, u_wSeq, u_wNext, u_wAsg, u_wAsgG, u_wDrop, u_wRet, u_wRetN, u_wIfS, u_wPar, u_wAug, u_wSetL, u_wBreak, u_wCont, u_wgN, u_wgNil, u_wgCons, u_wgTup, u_wiSeq, u_wiRng1, u_wiRng2, u_wiEnum, u_wFor, u_wLc, u_wYes, u_wV, u_wK, u_wOp, u_wUn, u_wTup, u_wLst, u_wCb, u_wTst, u_wNotT, u_wAndT, u_wOrT, u_wIf, u_wAnd, u_wOr, u_wNot, u_waNil, u_waCons, u_waStar, u_wCall, u_wMeth, u_wProp, u_wFld, u_wSetF, u_wMake, u_wCallI, u_wRev, u_wSl, u_woNone, u_woSome, u_wLm, u_wRz, u_wRzA, u_wFz, u_wCaught, u_wErrF, u_wDict0, u_wLrng, gt, st, u_sett_v, u_sett_f, u_sett_t, u_one, u_two, u_int1, atI0, atI1, atI2, atI3, atI4, ixN20, ixN21, List.map_cons, List.map_nil, List.cons_append, List.nil_append, List.append_nil, List.length_cons, List.length_nil, List.replicate_succ, List.replicate_zero, Nat.add_one_sub_one, u_waPerm, u_wChain, u_wDisp1, u_wDispT, u_wDefD, u_oAdd_i, u_oAdd_s, u_oAdd_t, u_oAdd_l, u_oSub, u_oMul_i, u_oMul_l, u_oFdiv, u_oMod, u_oPow, u_oLt, u_oLe, u_oGt, u_oGe, u_oNeg, u_oEq_i, u_oEq_s, u_oNe_i, u_oNe_s, u_oIsN, u_oNotN, u_oIx_l, u_oIx_t, u_oIn, u_oInL, u_oSl_t, u_oSl_l, u_len_l, u_len_t, u_min2, u_max2, u_abs, u_list_l, u_list_t, u_tup_l, u_tup_t, u_isB, u_notB, u_sqD_l, u_sqD_t, u_sqD_s, u_seqL_l, u_frz_l, u_frz_k, u_frz_t, u_frz_o]
        have hit : ∀ x ∈ rest, (∃ t, tyF x = some t) ∧ ∀ i, x = .int i → i.natAbs ≤ 10 ^ 70 := fun x hx => h.items _ rfl x (List.mem_cons_of_mem _ hx)
        have hlen : rest.length + 1 ≤ 1000 := h.len _ rfl
        refine ⟨by decide, rfl, rfl, ?_⟩
        rw [in_xy]
        by_cases hw : w = "x" ∨ w = "y"
        · rw [if_pos (decide_eq_true hw)]
          have hb : stepB (.tup (.str w :: rest)) = oneRule rest := by rw [stepB, if_pos hw]
          rw [hb] at q
          cases rest with
          | nil =>
            rw [if_neg (by simp)]
            exact q
          | cons r rest2 =>
            cases rest2 with
            | nil =>
              obtain ⟨⟨tr, hr⟩, _⟩ := hit r List.mem_cons_self
              rw [if_pos (by simp)]
              simp only [atI1, tyF_tyD hr μ, isi_rule hr]
              exact q
            | cons r2 rest3 =>
              rw [if_neg (by simp; omega)]
              exact q
        · rw [if_neg (by simpa using hw), cut_tail]
          have hb : stepB (.tup (.str w :: rest)) = (rest.all numD && (if w = "move" then decide (rest.length = 2) else decide (w = "turn") && detB rest)) := by rw [stepB, if_neg hw]
          rw [hb] at q
          refine ⟨by rw [sizeLine_eq]; omega, lc_inv (fun i acc μ' => μ' = μ ∧ acc = (rest.take i).map (fun d => D.bool (numD d))) ⟨rfl, rfl⟩ ?_ ?_⟩
          · rintro i x acc μ' N hx ⟨rfl, rfl⟩ hN
            obtain ⟨⟨tx, hx2⟩, _⟩ := hit x (List.mem_of_getElem? hx)
            refine ⟨trivial, ?_⟩
            simp only [u_wDef, initE, u_wSeq, u_wNext, u_wAsg, u_wAsgG, u_wDrop, u_wRet, u_wRetN, u_wIfS, u_wPar, u_wAug, u_wSetL, u_wBreak, u_wCont, u_wgN, u_wgNil, u_wgCons, u_wgTup, u_wiSeq, u_wiRng1, u_wiRng2, u_wiEnum, u_wFor, u_wLc, u_wYes, u_wV, u_wK, u_wOp, u_wUn, u_wTup, u_wLst, u_wCb, u_wTst, u_wNotT, u_wAndT, u_wOrT, u_wIf, u_wAnd, u_wOr, u_wNot, u_waNil, u_waCons, u_waStar, u_wCall, u_wMeth, u_wProp, u_wFld, u_wSetF, u_wMake, u_wCallI, u_wRev, u_wSl, u_woNone, u_woSome, u_wLm, u_wRz, u_wRzA, u_wFz, u_wCaught, u_wErrF, u_wDict0, u_wLrng, gt, st, u_sett_v, u_sett_f, u_sett_t, u_one, u_two, u_int1, atI0, atI1, atI2, atI3, atI4, ixN20, ixN21, List.map_cons, List.map_nil, List.cons_append, List.nil_append, List.append_nil, List.length_cons, List.length_nil, List.replicate_succ, List.replicate_zero, Nat.add_one_sub_one, u_waPerm, u_wChain, u_wDisp1, u_wDispT, u_wDefD, u_oAdd_i, u_oAdd_s, u_oAdd_t, u_oAdd_l, u_oSub, u_oMul_i, u_oMul_l, u_oFdiv, u_oMod, u_oPow, u_oLt, u_oLe, u_oGt, u_oGe, u_oNeg, u_oEq_i, u_oEq_s, u_oNe_i, u_oNe_s, u_oIsN, u_oNotN, u_oIx_l, u_oIx_t, u_oIn, u_oInL, u_oSl_t, u_oSl_l, u_len_l, u_len_t, u_min2, u_max2, u_abs, u_list_l, u_list_t, u_tup_l, u_tup_t, u_isB, u_notB, u_sqD_l, u_sqD_t, u_sqD_s, u_seqL_l, u_frz_l, u_frz_k, u_frz_t, u_frz_o, wipeE, if_true]
            refine ok_is_number (tyF_tyD hx2 _) (hN _ _ ⟨rfl, ?_⟩)
            rw [List.take_succ, hx, List.map_append]
            rfl
          · rintro acc μ' ⟨rfl, rfl⟩
            refine ⟨trivial, ?_⟩
            rw [List.take_length]
            have eb : boolsD (rest.map fun d => D.bool (numD d)) = some (rest.map numD) := by
              rw [show (rest.map fun d => D.bool (numD d)) = (rest.map numD).map D.bool by rw [List.map_map]; rfl]
              exact boolsD_map _
            simp only [cbBs, u_one, seqL, eb, u_sett_v]
            rw [List.all_map]
            show if (!(rest.all (id ∘ numD))) = true then _ else _
            rw [show (id ∘ numD) = numD from rfl]
            cases ha : rest.all numD with
            | false =>
              rw [ha] at q
              exact q
            | true =>
              rw [ha] at q
              simp only [Bool.not_true, if_neg Bool.false_ne_true, Bool.true_and] at q ⊢
              by_cases hm : w = "move"
              · rw [if_pos (decide_eq_true hm)]
                rw [if_pos hm] at q
                rw [show decide (((rest.length + 1 : Nat) : Int) = 3) = decide (rest.length = 2) by rw [decide_eq_decide]; omega]
                exact q
              · rw [if_neg (by simpa using hm)]
                rw [if_neg hm] at q
                by_cases htn : w = "turn"
                · rw [if_neg (by simp [htn])]
                  rw [decide_eq_true htn, Bool.true_and] at q
                  have hint : ∀ x ∈ rest, ∃ i : Int, x = .int i ∧ i.natAbs ≤ 10 ^ 70 := fun x hx => by
                    obtain ⟨i, rfl⟩ := num_int (List.all_eq_true.mp ha x hx)
                    exact ⟨i, rfl, (hit _ hx).2 i rfl⟩
                  by_cases hl4 : rest.length = 4
                  · rw [if_neg (by simp; omega)]
                    match rest, hl4, hint, q with
                    | [x1, x2, x3, x4], _, hint, q =>
                      obtain ⟨a, rfl, ha'⟩ := hint x1 (by simp)
                      obtain ⟨b, rfl, hb'⟩ := hint x2 (by simp)
                      obtain ⟨c, rfl, hc'⟩ := hint x3 (by simp)
                      obtain ⟨e, rfl, he'⟩ := hint x4 (by simp)
                      simp only [u_wDef, initE, u_wSeq, u_wNext, u_wAsg, u_wAsgG, u_wDrop, u_wRet, u_wRetN, u_wIfS, u_wPar, u_wAug, u_wSetL, u_wBreak, u_wCont, u_wgN, u_wgNil, u_wgCons, u_wgTup, u_wiSeq, u_wiRng1, u_wiRng2, u_wiEnum, u_wFor, u_wLc, u_wYes, u_wV, u_wK, u_wOp, u_wUn, u_wTup, u_wLst, u_wCb, u_wTst, u_wNotT, u_wAndT, u_wOrT, u_wIf, u_wAnd, u_wOr, u_wNot, u_waNil, u_waCons, u_waStar, u_wCall, u_wMeth, u_wProp, u_wFld, u_wSetF, u_wMake, u_wCallI, u_wRev, u_wSl, u_woNone, u_woSome, u_wLm, u_wRz, u_wRzA, u_wFz, u_wCaught, u_wErrF, u_wDict0, u_wLrng, gt, st, u_sett_v, u_sett_f, u_sett_t, u_one, u_two, u_int1, atI0, atI1, atI2, atI3, atI4, ixN20, ixN21, List.map_cons, List.map_nil, List.cons_append, List.nil_append, List.append_nil, List.length_cons, List.length_nil, List.replicate_succ, List.replicate_zero, Nat.add_one_sub_one, u_waPerm, u_wChain, u_wDisp1, u_wDispT, u_wDefD, u_oAdd_i, u_oAdd_s, u_oAdd_t, u_oAdd_l, u_oSub, u_oMul_i, u_oMul_l, u_oFdiv, u_oMod, u_oPow, u_oLt, u_oLe, u_oGt, u_oGe, u_oNeg, u_oEq_i, u_oEq_s, u_oNe_i, u_oNe_s, u_oIsN, u_oNotN, u_oIx_l, u_oIx_t, u_oIn, u_oInL, u_oSl_t, u_oSl_l, u_len_l, u_len_t, u_min2, u_max2, u_abs, u_list_l, u_list_t, u_tup_l, u_tup_t, u_isB, u_notB, u_sqD_l, u_sqD_t, u_sqD_s, u_seqL_l, u_frz_l, u_frz_k, u_frz_t, u_frz_o]
                      refine ⟨mulU_mid ha' he', mulU_mid hb' hc', by decide, rfl, rfl, ?_⟩
                      have ee : inF (.int (a * e - b * c)) [.int 1, .int (-1)] = detB [.int a, .int b, .int c, .int e] := by
                        show ((1 : Int) == a * e - b * c || ((-1 : Int) == a * e - b * c || false)) = (decide (a * e - b * c = 1) || decide (a * e - b * c = -1))
                        rw [Bool.or_false, Bool.eq_iff_iff, Bool.or_eq_true, Bool.or_eq_true, beq_iff_eq, beq_iff_eq, decide_eq_true_iff, decide_eq_true_iff]
                        exact or_congr eq_comm eq_comm
                      rw [ee]
                      exact q
                  · rw [if_pos (by simp; omega)]
                    have e0 : detB rest = false := by
                      unfold detB
                      split
                      · exact absurd rfl hl4
                      · rfl
                    rw [e0] at q
                    exact q
                · rw [if_pos (by simp [htn])]
                  rw [decide_eq_false htn, Bool.false_and] at q
                  rw [if_pos trivial]
                  exact q
      | _ =>
        simp only [Bool.not_false, if_true]
        exact q
  | _ =>
    simp only [Bool.not_false, if_true]
    exact q
end
end DL

set_option Elab.async false
set_option linter.all false
set_option maxRecDepth 100000
set_option maxHeartbeats 4000000
/-! P8: programs made, told, compared. -/
namespace DL
open PySem L2
def wp_Program___init__ : WP := (wDef 2 4 (wSeq (wIfS (wNotT (wTst (wCall wp_is_list [] (waCons (wV 1) waNil)))) (wRzA "BadProgram" "at" (wK .none)) wNext)
    (wSeq (wFor (wiEnum (waCons (wV 1) waNil)) (wgTup 2 (wgCons (wgN 2) (wgCons (wgN 3) wgNil))) (wIfS (wNotT (wTst (wCall wp_is_step [] (waCons (wV 3) waNil)))) (wRzA "BadProgram" "at" (wV 2)) wNext))
    (wSetF "Program" "own_steps" (wV 0) (wCb false cbTup (waCons (wV 1) waNil))))))
def wp_Program_steps : WP := (wDef 1 1 (wRet (wFld "Program" "own_steps" (wV 0))))
def wp_Program___len__ : WP := (wDef 1 1 (wRet (wCb false cbLen (waCons (wFld "Program" "own_steps" (wV 0)) waNil))))
/-- a program of any steps -/
def progE (ds : List D) : D := .obj "Program" ["own_steps"] [.tup ds]
def progD (ss : List Stp) : D := progE (ss.map Stp.p)
theorem step_good {s : Stp} {B : Nat} (h : s.Ok B) (hB : B ≤ 10 ^ 70) : Good s.p ∧ stepB s.p = true := by
  have hx : ∀ i : Int, i.natAbs ≤ B → i.natAbs ≤ 10 ^ 70 := fun i hi => Nat.le_trans hi hB
  cases s with
  | x ns =>
    refine ⟨⟨⟨_, rfl⟩, fun ds e => by cases e; simp, fun ds e x hm => ?_⟩, rfl⟩
    cases e
    simp only [List.mem_cons, List.not_mem_nil, or_false] at hm
    rcases hm with rfl | rfl <;> exact ⟨⟨_, rfl⟩, fun i z => by cases z⟩
  | y ns =>
    refine ⟨⟨⟨_, rfl⟩, fun ds e => by cases e; simp, fun ds e x hm => ?_⟩, rfl⟩
    cases e
    simp only [List.mem_cons, List.not_mem_nil, or_false] at hm
    rcases hm with rfl | rfl <;> exact ⟨⟨_, rfl⟩, fun i z => by cases z⟩
  | move a b =>
    refine ⟨⟨⟨_, rfl⟩, fun ds e => by cases e; simp, fun ds e x hm => ?_⟩, rfl⟩
    cases e
    simp only [List.mem_cons, List.not_mem_nil, or_false] at hm
    rcases hm with rfl | rfl | rfl
    · exact ⟨⟨_, rfl⟩, fun i z => by cases z⟩
    · exact ⟨⟨_, rfl⟩, fun i z => by cases z; exact hx _ h.1⟩
    · exact ⟨⟨_, rfl⟩, fun i z => by cases z; exact hx _ h.2⟩
  | turn a b c d =>
    obtain ⟨hd, h1, h2, h3, h4⟩ := h
    refine ⟨⟨⟨_, rfl⟩, fun ds e => by cases e; simp, fun ds e x hm => ?_⟩, ?_⟩
    · cases e
      simp only [List.mem_cons, List.not_mem_nil, or_false] at hm
      rcases hm with rfl | rfl | rfl | rfl | rfl
      · exact ⟨⟨_, rfl⟩, fun i z => by cases z⟩
      · exact ⟨⟨_, rfl⟩, fun i z => by cases z; exact hx _ h1⟩
      · exact ⟨⟨_, rfl⟩, fun i z => by cases z; exact hx _ h2⟩
      · exact ⟨⟨_, rfl⟩, fun i z => by cases z; exact hx _ h3⟩
      · exact ⟨⟨_, rfl⟩, fun i z => by cases z; exact hx _ h4⟩
    · show (true && (decide (a * d - b * c = 1) || decide (a * d - b * c = -1))) = true
      rw [Bool.true_and, Bool.or_eq_true, decide_eq_true_iff, decide_eq_true_iff]
      exact hd
section
variable {μ : Mu} {Q X : QD} {d : D} {B : Nat}
theorem enum_get {ds : List D} {i : Nat} {x : D} (h : (enumD 0 ds)[i]? = some x) : ∃ y, ds[i]? = some y ∧ x = .tup [.int (i : Int), y] := by
  rw [enumD_get] at h
  cases e : ds[i]? with
  | none => rw [e] at h; cases h
  | some n =>
    rw [e] at h
    cases h
    exact ⟨n, rfl, by simp⟩
theorem ok_Program_init {p : Addr} {ds : List D} (h : sqD μ d = some ds) (hs : ∀ ns, d ≠ .script ns) (hp : μ p = Option.none) (hl : ds.length ≤ 2 ^ 20) (hg : ∀ x ∈ ds, Good x)
    (q : (∀ x ∈ ds, stepB x = true) → Q .none (up μ p (.obj "Program" ["own_steps"] [.tup ds])))
    (x : ∀ (i : Nat) y, ds[i]? = some y → stepB y = false → (∀ j z, j < i → ds[j]? = some z → stepB z = true) → X (.err "BadProgram" ["at"] [.int (i : Int)]) (up μ p (.obj "Program" [] []))) : wp_Program___init__ [.cell p, d] (up μ p (.obj "Program" [] [])) Q X := by
  have h1 := sq_up (nd := .obj "Program" [] []) h hp
  obtain ⟨t, h2, h3⟩ := ty_sq h1 hs
  unfold wp_Program___init__
  simp only [u_wDef, initE, u_wSeq, u_wNext, u_wAsg, u_wAsgG, u_wDrop, u_wRet, u_wRetN, u_wIfS, u_wPar, u_wAug, u_wSetL, u_wBreak, u_wCont, u_wgN, u_wgNil, u_wgCons, u_wgTup, u_wiSeq, u_wiRng1, u_wiRng2, u_wiEnum, u_wFor, u_wLc, u_wYes, u_wV, u_wK, u_wOp, u_wUn, u_wTup, u_wLst, u_wCb, u_wTst, u_wNotT, u_wAndT, u_wOrT, u_wIf, u_wAnd, u_wOr, u_wNot, u_waNil, u_waCons, u_waStar, u_wCall, u_wMeth, u_wProp, u_wFld, u_wSetF, u_wMake, u_wCallI, u_wRev, u_wSl, u_woNone, u_woSome, u_wLm, u_wRz, u_wRzA, u_wFz, u_wCaught, u_wErrF, u_wDict0, u_wLrng, gt, st, u_sett_v, u_sett_f, u_sett_t, u_one, u_two, u_int1, atI0, atI1, atI2, atI3, atI4, ixN20, ixN21, List.map_cons, List.map_nil, List.cons_append, List.nil_append, List.append_nil, List.length_cons, List.length_nil, List.replicate_succ, List.replicate_zero, Nat.add_one_sub_one, u_waPerm, u_wChain, u_wDisp1, u_wDispT, u_wDefD, u_oAdd_i, u_oAdd_s, u_oAdd_t, u_oAdd_l, u_oSub, u_oMul_i, u_oMul_l, u_oFdiv, u_oMod, u_oPow, u_oLt, u_oLe, u_oGt, u_oGe, u_oNeg, u_oEq_i, u_oEq_s, u_oNe_i, u_oNe_s, u_oIsN, u_oNotN, u_oIx_l, u_oIx_t, u_oIn, u_oInL, u_oSl_t, u_oSl_l, u_len_l, u_len_t, u_min2, u_max2, u_abs, u_list_l, u_list_t, u_tup_l, u_tup_t, u_isB, u_notB, u_sqD_l, u_sqD_t, u_sqD_s, u_seqL_l, u_frz_l, u_frz_k, u_frz_t, u_frz_o]
  refine ⟨trivial, ok_is_list h2 ?_⟩
  rw [h3]
  simp only [Bool.not_true, if_neg Bool.false_ne_true, h1]
  refine ⟨by rw [enumD_len]; omega, for_inv (fun i e μ' => μ' = up μ p (.obj "Program" [] []) ∧ (∃ a b, e = [some (.cell p), some d, a, b]) ∧ ∀ j z, j < i → ds[j]? = some z → stepB z = true) ⟨rfl, ⟨_, _, rfl⟩, fun j z hj => absurd hj (Nat.not_lt_zero j)⟩ ?_ ?_⟩
  · rintro i y e μ' N hx ⟨rfl, ⟨a, b, rfl⟩, hj⟩ hN
    obtain ⟨n, hn, rfl⟩ := enum_get hx
    refine ⟨okS_sq h1, ?_⟩
    simp only [u_wDef, initE, u_wSeq, u_wNext, u_wAsg, u_wAsgG, u_wDrop, u_wRet, u_wRetN, u_wIfS, u_wPar, u_wAug, u_wSetL, u_wBreak, u_wCont, u_wgN, u_wgNil, u_wgCons, u_wgTup, u_wiSeq, u_wiRng1, u_wiRng2, u_wiEnum, u_wFor, u_wLc, u_wYes, u_wV, u_wK, u_wOp, u_wUn, u_wTup, u_wLst, u_wCb, u_wTst, u_wNotT, u_wAndT, u_wOrT, u_wIf, u_wAnd, u_wOr, u_wNot, u_waNil, u_waCons, u_waStar, u_wCall, u_wMeth, u_wProp, u_wFld, u_wSetF, u_wMake, u_wCallI, u_wRev, u_wSl, u_woNone, u_woSome, u_wLm, u_wRz, u_wRzA, u_wFz, u_wCaught, u_wErrF, u_wDict0, u_wLrng, gt, st, u_sett_v, u_sett_f, u_sett_t, u_one, u_two, u_int1, atI0, atI1, atI2, atI3, atI4, ixN20, ixN21, List.map_cons, List.map_nil, List.cons_append, List.nil_append, List.append_nil, List.length_cons, List.length_nil, List.replicate_succ, List.replicate_zero, Nat.add_one_sub_one, u_waPerm, u_wChain, u_wDisp1, u_wDispT, u_wDefD, u_oAdd_i, u_oAdd_s, u_oAdd_t, u_oAdd_l, u_oSub, u_oMul_i, u_oMul_l, u_oFdiv, u_oMod, u_oPow, u_oLt, u_oLe, u_oGt, u_oGe, u_oNeg, u_oEq_i, u_oEq_s, u_oNe_i, u_oNe_s, u_oIsN, u_oNotN, u_oIx_l, u_oIx_t, u_oIn, u_oInL, u_oSl_t, u_oSl_l, u_len_l, u_len_t, u_min2, u_max2, u_abs, u_list_l, u_list_t, u_tup_l, u_tup_t, u_isB, u_notB, u_sqD_l, u_sqD_t, u_sqD_s, u_seqL_l, u_frz_l, u_frz_k, u_frz_t, u_frz_o]
    refine ⟨trivial, ok_is_step (hg n (List.mem_of_getElem? hn)) ?_⟩
    cases hb : stepB n with
    | false => exact x i n hn hb hj
    | true =>
      refine hN _ _ ⟨rfl, ⟨_, _, rfl⟩, fun j z hj2 hz => ?_⟩
      by_cases e : j < i
      · exact hj j z e hz
      · have : j = i := by omega
        subst this
        rw [hn] at hz
        cases hz
        exact hb
  · rintro e μ' ⟨rfl, ⟨a, b, rfl⟩, hj⟩
    refine ⟨okS_sq h1, ?_⟩
    rw [enumD_len] at hj
    simp only [u_wDef, initE, u_wSeq, u_wNext, u_wAsg, u_wAsgG, u_wDrop, u_wRet, u_wRetN, u_wIfS, u_wPar, u_wAug, u_wSetL, u_wBreak, u_wCont, u_wgN, u_wgNil, u_wgCons, u_wgTup, u_wiSeq, u_wiRng1, u_wiRng2, u_wiEnum, u_wFor, u_wLc, u_wYes, u_wV, u_wK, u_wOp, u_wUn, u_wTup, u_wLst, u_wCb, u_wTst, u_wNotT, u_wAndT, u_wOrT, u_wIf, u_wAnd, u_wOr, u_wNot, u_waNil, u_waCons, u_waStar, u_wCall, u_wMeth, u_wProp, u_wFld, u_wSetF, u_wMake, u_wCallI, u_wRev, u_wSl, u_woNone, u_woSome, u_wLm, u_wRz, u_wRzA, u_wFz, u_wCaught, u_wErrF, u_wDict0, u_wLrng, gt, st, u_sett_v, u_sett_f, u_sett_t, u_one, u_two, u_int1, atI0, atI1, atI2, atI3, atI4, ixN20, ixN21, List.map_cons, List.map_nil, List.cons_append, List.nil_append, List.append_nil, List.length_cons, List.length_nil, List.replicate_succ, List.replicate_zero, Nat.add_one_sub_one, u_waPerm, u_wChain, u_wDisp1, u_wDispT, u_wDefD, u_oAdd_i, u_oAdd_s, u_oAdd_t, u_oAdd_l, u_oSub, u_oMul_i, u_oMul_l, u_oFdiv, u_oMod, u_oPow, u_oLt, u_oLe, u_oGt, u_oGe, u_oNeg, u_oEq_i, u_oEq_s, u_oNe_i, u_oNe_s, u_oIsN, u_oNotN, u_oIx_l, u_oIx_t, u_oIn, u_oInL, u_oSl_t, u_oSl_l, u_len_l, u_len_t, u_min2, u_max2, u_abs, u_list_l, u_list_t, u_tup_l, u_tup_t, u_isB, u_notB, u_sqD_l, u_sqD_t, u_sqD_s, u_seqL_l, u_frz_l, u_frz_k, u_frz_t, u_frz_o, tup_sq h1, up_same, ndO, putN, up_up]
    refine ⟨trivial, by decide, q fun y hy => ?_⟩
    obtain ⟨i, hi⟩ := List.getElem?_of_mem hy
    exact hj i y (List.getElem?_eq_some_iff.mp hi).1 hi
/-- Program(..) of steps -/
theorem mk_Program {Q X : QD} {ds : List D} (h : sqD μ d = some ds) (hs : ∀ ns, d ≠ .script ns) (hl : ds.length ≤ 2 ^ 20) (hg : ∀ x ∈ ds, Good x ∧ stepB x = true) (q : Q (progE ds) μ) (p : Addr) (hp : μ p = Option.none) :
    wp_Program___init__ [.cell p, d] (up μ p (.obj "Program" [] [])) (mkQ false Q p) X := by
  refine ok_Program_init h hs hp hl (fun x hx => (hg x hx).1) (fun _ => mkQ_f hp q) fun i y hy hb => ?_
  have := (hg y (List.mem_of_getElem? hy)).2
  rw [hb] at this
  cases this
theorem mkRule {Q X : QD} {ns : List Int} (h : sqD μ d = some (iL ns)) (hs : ∀ ns, d ≠ .script ns) (hl : ns.length ≤ 2 ^ 20) (q : Q (ruleD (M.trim ns)) μ) (p : Addr) (hp : μ p = Option.none) :
    wp_Rule___init__ [.cell p, d] (up μ p (.obj "Rule" [] [])) (mkQ false Q p) X := ok_Rule_init h hs hp hl (mkQ_f hp q)
/-- Program(..) of a value that is no list -/
theorem no_Program {Q X : QD} {t : TyD} (h : tyF d = some t) (hb : listD (fun _ => Option.none) d = false) (x : ∀ p, μ p = Option.none → X (.err "BadProgram" ["at"] [.none]) (up μ p (.obj "Program" [] []))) (p : Addr) (hp : μ p = Option.none) : wp_Program___init__ [.cell p, d] (up μ p (.obj "Program" [] [])) Q X := by
  unfold wp_Program___init__
  simp only [u_wDef, initE, u_wSeq, u_wNext, u_wAsg, u_wAsgG, u_wDrop, u_wRet, u_wRetN, u_wIfS, u_wPar, u_wAug, u_wSetL, u_wBreak, u_wCont, u_wgN, u_wgNil, u_wgCons, u_wgTup, u_wiSeq, u_wiRng1, u_wiRng2, u_wiEnum, u_wFor, u_wLc, u_wYes, u_wV, u_wK, u_wOp, u_wUn, u_wTup, u_wLst, u_wCb, u_wTst, u_wNotT, u_wAndT, u_wOrT, u_wIf, u_wAnd, u_wOr, u_wNot, u_waNil, u_waCons, u_waStar, u_wCall, u_wMeth, u_wProp, u_wFld, u_wSetF, u_wMake, u_wCallI, u_wRev, u_wSl, u_woNone, u_woSome, u_wLm, u_wRz, u_wRzA, u_wFz, u_wCaught, u_wErrF, u_wDict0, u_wLrng, gt, st, u_sett_v, u_sett_f, u_sett_t, u_one, u_two, u_int1, atI0, atI1, atI2, atI3, atI4, ixN20, ixN21, List.map_cons, List.map_nil, List.cons_append, List.nil_append, List.append_nil, List.length_cons, List.length_nil, List.replicate_succ, List.replicate_zero, Nat.add_one_sub_one, u_waPerm, u_wChain, u_wDisp1, u_wDispT, u_wDefD, u_oAdd_i, u_oAdd_s, u_oAdd_t, u_oAdd_l, u_oSub, u_oMul_i, u_oMul_l, u_oFdiv, u_oMod, u_oPow, u_oLt, u_oLe, u_oGt, u_oGe, u_oNeg, u_oEq_i, u_oEq_s, u_oNe_i, u_oNe_s, u_oIsN, u_oNotN, u_oIx_l, u_oIx_t, u_oIn, u_oInL, u_oSl_t, u_oSl_l, u_len_l, u_len_t, u_min2, u_max2, u_abs, u_list_l, u_list_t, u_tup_l, u_tup_t, u_isB, u_notB, u_sqD_l, u_sqD_t, u_sqD_s, u_seqL_l, u_frz_l, u_frz_k, u_frz_t, u_frz_o]
  refine ⟨trivial, ok_is_list (tyF_tyD h _) ?_⟩
  have e : listD (up μ p (.obj "Program" [] [])) d = false := by
    unfold listD at hb ⊢
    rw [tyF_tyD h]
    have h' : tyD (fun _ => Option.none) d = some t := h
    rw [h'] at hb
    exact hb
  rw [e]
  exact x p hp
theorem ok_Program_steps {ds : List D} (q : Q (.tup ds) μ) : wp_Program_steps [progE ds] μ Q X := by
  unfold wp_Program_steps
  simp only [u_wDef, initE, u_wSeq, u_wNext, u_wAsg, u_wAsgG, u_wDrop, u_wRet, u_wRetN, u_wIfS, u_wPar, u_wAug, u_wSetL, u_wBreak, u_wCont, u_wgN, u_wgNil, u_wgCons, u_wgTup, u_wiSeq, u_wiRng1, u_wiRng2, u_wiEnum, u_wFor, u_wLc, u_wYes, u_wV, u_wK, u_wOp, u_wUn, u_wTup, u_wLst, u_wCb, u_wTst, u_wNotT, u_wAndT, u_wOrT, u_wIf, u_wAnd, u_wOr, u_wNot, u_waNil, u_waCons, u_waStar, u_wCall, u_wMeth, u_wProp, u_wFld, u_wSetF, u_wMake, u_wCallI, u_wRev, u_wSl, u_woNone, u_woSome, u_wLm, u_wRz, u_wRzA, u_wFz, u_wCaught, u_wErrF, u_wDict0, u_wLrng, gt, st, u_sett_v, u_sett_f, u_sett_t, u_one, u_two, u_int1, atI0, atI1, atI2, atI3, atI4, ixN20, ixN21, List.map_cons, List.map_nil, List.cons_append, List.nil_append, List.append_nil, List.length_cons, List.length_nil, List.replicate_succ, List.replicate_zero, Nat.add_one_sub_one, u_waPerm, u_wChain, u_wDisp1, u_wDispT, u_wDefD, u_oAdd_i, u_oAdd_s, u_oAdd_t, u_oAdd_l, u_oSub, u_oMul_i, u_oMul_l, u_oFdiv, u_oMod, u_oPow, u_oLt, u_oLe, u_oGt, u_oGe, u_oNeg, u_oEq_i, u_oEq_s, u_oNe_i, u_oNe_s, u_oIsN, u_oNotN, u_oIx_l, u_oIx_t, u_oIn, u_oInL, u_oSl_t, u_oSl_l, u_len_l, u_len_t, u_min2, u_max2, u_abs, u_list_l, u_list_t, u_tup_l, u_tup_t, u_isB, u_notB, u_sqD_l, u_sqD_t, u_sqD_s, u_seqL_l, u_frz_l, u_frz_k, u_frz_t, u_frz_o, progE, asObj, fldD, if_true, true_and]
  exact q
theorem ok_Program_len {ds : List D} (q : Q (.int ds.length) μ) : wp_Program___len__ [progE ds] μ Q X := by
  unfold wp_Program___len__
  simp only [u_wDef, initE, u_wSeq, u_wNext, u_wAsg, u_wAsgG, u_wDrop, u_wRet, u_wRetN, u_wIfS, u_wPar, u_wAug, u_wSetL, u_wBreak, u_wCont, u_wgN, u_wgNil, u_wgCons, u_wgTup, u_wiSeq, u_wiRng1, u_wiRng2, u_wiEnum, u_wFor, u_wLc, u_wYes, u_wV, u_wK, u_wOp, u_wUn, u_wTup, u_wLst, u_wCb, u_wTst, u_wNotT, u_wAndT, u_wOrT, u_wIf, u_wAnd, u_wOr, u_wNot, u_waNil, u_waCons, u_waStar, u_wCall, u_wMeth, u_wProp, u_wFld, u_wSetF, u_wMake, u_wCallI, u_wRev, u_wSl, u_woNone, u_woSome, u_wLm, u_wRz, u_wRzA, u_wFz, u_wCaught, u_wErrF, u_wDict0, u_wLrng, gt, st, u_sett_v, u_sett_f, u_sett_t, u_one, u_two, u_int1, atI0, atI1, atI2, atI3, atI4, ixN20, ixN21, List.map_cons, List.map_nil, List.cons_append, List.nil_append, List.append_nil, List.length_cons, List.length_nil, List.replicate_succ, List.replicate_zero, Nat.add_one_sub_one, u_waPerm, u_wChain, u_wDisp1, u_wDispT, u_wDefD, u_oAdd_i, u_oAdd_s, u_oAdd_t, u_oAdd_l, u_oSub, u_oMul_i, u_oMul_l, u_oFdiv, u_oMod, u_oPow, u_oLt, u_oLe, u_oGt, u_oGe, u_oNeg, u_oEq_i, u_oEq_s, u_oNe_i, u_oNe_s, u_oIsN, u_oNotN, u_oIx_l, u_oIx_t, u_oIn, u_oInL, u_oSl_t, u_oSl_l, u_len_l, u_len_t, u_min2, u_max2, u_abs, u_list_l, u_list_t, u_tup_l, u_tup_t, u_isB, u_notB, u_sqD_l, u_sqD_t, u_sqD_s, u_seqL_l, u_frz_l, u_frz_k, u_frz_t, u_frz_o, progE, asObj, fldD, if_true, true_and]
  exact q
end
end DL

set_option Elab.async false
set_option linter.all false
set_option maxRecDepth 100000
set_option maxHeartbeats 4000000
/-! P9: the laws' own ways there and back. -/
namespace DL
open PySem L2
section
variable {μ : Mu} {Q X : QD} {d : D} {B : Nat}
/-! ### the laws' own ways there and back -/
def wp_law_step_of : WP := (wDef 1 1 (wRet (wIf (wTst (wCall wp_law_is_low [] (waCons (wV 0) waNil))) (wTup (waCons (wOp false oIx (wV 0) (wK (.int 0))) (waCons (wMake false "Rule" wp_Rule___init__ [] (waCons (wCb false cbList (waCons (wOp false oIx (wV 0) (wK (.int 1))) waNil)) waNil)) waNil))) (wV 0))))
def wp_law_bare_step : WP := (wDef 1 1 (wRet (wIf (wTst (wCall wp_law_is_low [] (waCons (wV 0) waNil))) (wTup (waCons (wOp false oIx (wV 0) (wK (.int 0))) (waCons (wCb false cbList (waCons (wProp "Rule" "coefficients" wp_Rule_coefficients (wOp false oIx (wV 0) (wK (.int 1)))) waNil)) waNil))) (wV 0))))
def wp_law_bare_steps : WP := (wDef 1 2 (wRet (wLc false (wiSeq (wProp "Program" "steps" wp_Program_steps (wV 0))) (wgN 1) wYes (wCall wp_law_bare_step [] (waCons (wV 1) waNil)) [1])))
def wp_law_program_of : WP := (wDef 1 2 (wRet (wMake false "Program" wp_Program___init__ [] (waCons (wLc false (wiSeq (wV 0)) (wgN 1) wYes (wCall wp_law_step_of [] (waCons (wV 1) waNil)) [1]) waNil))))
theorem ok_step_of {s : Stp} (h : s.Ok B) (q : Q s.p μ) : wp_law_step_of [s.b] μ Q X := by
  unfold wp_law_step_of
  simp only [u_wDef, initE, u_wSeq, u_wNext, u_wAsg, u_wAsgG, u_wDrop, u_wRet, u_wRetN, u_wIfS, u_wPar, u_wAug, u_wSetL, u_wBreak, u_wCont, u_wgN, u_wgNil, u_wgCons, u_wgTup, u_wiSeq, u_wiRng1, u_wiRng2, u_wiEnum, u_wFor, u_wLc, u_wYes, u_wV, u_wK, u_wOp, u_wUn, u_wTup, u_wLst, u_wCb, u_wTst, u_wNotT, u_wAndT, u_wOrT, u_wIf, u_wAnd, u_wOr, u_wNot, u_waNil, u_waCons, u_waStar, u_wCall, u_wMeth, u_wProp, u_wFld, u_wSetF, u_wMake, u_wCallI, u_wRev, u_wSl, u_woNone, u_woSome, u_wLm, u_wRz, u_wRzA, u_wFz, u_wCaught, u_wErrF, u_wDict0, u_wLrng, gt, st, u_sett_v, u_sett_f, u_sett_t, u_one, u_two, u_int1, atI0, atI1, atI2, atI3, atI4, ixN20, ixN21, List.map_cons, List.map_nil, List.cons_append, List.nil_append, List.append_nil, List.length_cons, List.length_nil, List.replicate_succ, List.replicate_zero, Nat.add_one_sub_one, u_waPerm, u_wChain, u_wDisp1, u_wDispT, u_wDefD, u_oAdd_i, u_oAdd_s, u_oAdd_t, u_oAdd_l, u_oSub, u_oMul_i, u_oMul_l, u_oFdiv, u_oMod, u_oPow, u_oLt, u_oLe, u_oGt, u_oGe, u_oNeg, u_oEq_i, u_oEq_s, u_oNe_i, u_oNe_s, u_oIsN, u_oNotN, u_oIx_l, u_oIx_t, u_oIn, u_oInL, u_oSl_t, u_oSl_l, u_len_l, u_len_t, u_min2, u_max2, u_abs, u_list_l, u_list_t, u_tup_l, u_tup_t, u_isB, u_notB, u_sqD_l, u_sqD_t, u_sqD_s, u_seqL_l, u_frz_l, u_frz_k, u_frz_t, u_frz_o]
  refine ⟨trivial, ok_is_low ?_⟩
  cases s with
  | x ns =>
    simp only [Stp.low, if_true, Stp.b, u_wDef, initE, u_wSeq, u_wNext, u_wAsg, u_wAsgG, u_wDrop, u_wRet, u_wRetN, u_wIfS, u_wPar, u_wAug, u_wSetL, u_wBreak, u_wCont, u_wgN, u_wgNil, u_wgCons, u_wgTup, u_wiSeq, u_wiRng1, u_wiRng2, u_wiEnum, u_wFor, u_wLc, u_wYes, u_wV, u_wK, u_wOp, u_wUn, u_wTup, u_wLst, u_wCb, u_wTst, u_wNotT, u_wAndT, u_wOrT, u_wIf, u_wAnd, u_wOr, u_wNot, u_waNil, u_waCons, u_waStar, u_wCall, u_wMeth, u_wProp, u_wFld, u_wSetF, u_wMake, u_wCallI, u_wRev, u_wSl, u_woNone, u_woSome, u_wLm, u_wRz, u_wRzA, u_wFz, u_wCaught, u_wErrF, u_wDict0, u_wLrng, gt, st, u_sett_v, u_sett_f, u_sett_t, u_one, u_two, u_int1, atI0, atI1, atI2, atI3, atI4, ixN20, ixN21, List.map_cons, List.map_nil, List.cons_append, List.nil_append, List.append_nil, List.length_cons, List.length_nil, List.replicate_succ, List.replicate_zero, Nat.add_one_sub_one, u_waPerm, u_wChain, u_wDisp1, u_wDispT, u_wDefD, u_oAdd_i, u_oAdd_s, u_oAdd_t, u_oAdd_l, u_oSub, u_oMul_i, u_oMul_l, u_oFdiv, u_oMod, u_oPow, u_oLt, u_oLe, u_oGt, u_oGe, u_oNeg, u_oEq_i, u_oEq_s, u_oNe_i, u_oNe_s, u_oIsN, u_oNotN, u_oIx_l, u_oIx_t, u_oIn, u_oInL, u_oSl_t, u_oSl_l, u_len_l, u_len_t, u_min2, u_max2, u_abs, u_list_l, u_list_t, u_tup_l, u_tup_t, u_isB, u_notB, u_sqD_l, u_sqD_t, u_sqD_s, u_seqL_l, u_frz_l, u_frz_k, u_frz_t, u_frz_o]
    intro p hp
    refine mkRule (ns := ns) rfl (fun _ z => by cases z) (by have := h.2.1; omega) ?_ p hp
    rw [h.1]
    exact ⟨by simp [sizeLine_eq], q⟩
  | y ns =>
    simp only [Stp.low, if_true, Stp.b, u_wDef, initE, u_wSeq, u_wNext, u_wAsg, u_wAsgG, u_wDrop, u_wRet, u_wRetN, u_wIfS, u_wPar, u_wAug, u_wSetL, u_wBreak, u_wCont, u_wgN, u_wgNil, u_wgCons, u_wgTup, u_wiSeq, u_wiRng1, u_wiRng2, u_wiEnum, u_wFor, u_wLc, u_wYes, u_wV, u_wK, u_wOp, u_wUn, u_wTup, u_wLst, u_wCb, u_wTst, u_wNotT, u_wAndT, u_wOrT, u_wIf, u_wAnd, u_wOr, u_wNot, u_waNil, u_waCons, u_waStar, u_wCall, u_wMeth, u_wProp, u_wFld, u_wSetF, u_wMake, u_wCallI, u_wRev, u_wSl, u_woNone, u_woSome, u_wLm, u_wRz, u_wRzA, u_wFz, u_wCaught, u_wErrF, u_wDict0, u_wLrng, gt, st, u_sett_v, u_sett_f, u_sett_t, u_one, u_two, u_int1, atI0, atI1, atI2, atI3, atI4, ixN20, ixN21, List.map_cons, List.map_nil, List.cons_append, List.nil_append, List.append_nil, List.length_cons, List.length_nil, List.replicate_succ, List.replicate_zero, Nat.add_one_sub_one, u_waPerm, u_wChain, u_wDisp1, u_wDispT, u_wDefD, u_oAdd_i, u_oAdd_s, u_oAdd_t, u_oAdd_l, u_oSub, u_oMul_i, u_oMul_l, u_oFdiv, u_oMod, u_oPow, u_oLt, u_oLe, u_oGt, u_oGe, u_oNeg, u_oEq_i, u_oEq_s, u_oNe_i, u_oNe_s, u_oIsN, u_oNotN, u_oIx_l, u_oIx_t, u_oIn, u_oInL, u_oSl_t, u_oSl_l, u_len_l, u_len_t, u_min2, u_max2, u_abs, u_list_l, u_list_t, u_tup_l, u_tup_t, u_isB, u_notB, u_sqD_l, u_sqD_t, u_sqD_s, u_seqL_l, u_frz_l, u_frz_k, u_frz_t, u_frz_o]
    intro p hp
    refine mkRule (ns := ns) rfl (fun _ z => by cases z) (by have := h.2.1; omega) ?_ p hp
    rw [h.1]
    exact ⟨by simp [sizeLine_eq], q⟩
  | move a b => exact q
  | turn a b c d => exact q
theorem ok_bare_step {s : Stp} (q : Q s.b μ) : wp_law_bare_step [s.p] μ Q X := by
  unfold wp_law_bare_step
  simp only [u_wDef, initE, u_wSeq, u_wNext, u_wAsg, u_wAsgG, u_wDrop, u_wRet, u_wRetN, u_wIfS, u_wPar, u_wAug, u_wSetL, u_wBreak, u_wCont, u_wgN, u_wgNil, u_wgCons, u_wgTup, u_wiSeq, u_wiRng1, u_wiRng2, u_wiEnum, u_wFor, u_wLc, u_wYes, u_wV, u_wK, u_wOp, u_wUn, u_wTup, u_wLst, u_wCb, u_wTst, u_wNotT, u_wAndT, u_wOrT, u_wIf, u_wAnd, u_wOr, u_wNot, u_waNil, u_waCons, u_waStar, u_wCall, u_wMeth, u_wProp, u_wFld, u_wSetF, u_wMake, u_wCallI, u_wRev, u_wSl, u_woNone, u_woSome, u_wLm, u_wRz, u_wRzA, u_wFz, u_wCaught, u_wErrF, u_wDict0, u_wLrng, gt, st, u_sett_v, u_sett_f, u_sett_t, u_one, u_two, u_int1, atI0, atI1, atI2, atI3, atI4, ixN20, ixN21, List.map_cons, List.map_nil, List.cons_append, List.nil_append, List.append_nil, List.length_cons, List.length_nil, List.replicate_succ, List.replicate_zero, Nat.add_one_sub_one, u_waPerm, u_wChain, u_wDisp1, u_wDispT, u_wDefD, u_oAdd_i, u_oAdd_s, u_oAdd_t, u_oAdd_l, u_oSub, u_oMul_i, u_oMul_l, u_oFdiv, u_oMod, u_oPow, u_oLt, u_oLe, u_oGt, u_oGe, u_oNeg, u_oEq_i, u_oEq_s, u_oNe_i, u_oNe_s, u_oIsN, u_oNotN, u_oIx_l, u_oIx_t, u_oIn, u_oInL, u_oSl_t, u_oSl_l, u_len_l, u_len_t, u_min2, u_max2, u_abs, u_list_l, u_list_t, u_tup_l, u_tup_t, u_isB, u_notB, u_sqD_l, u_sqD_t, u_sqD_s, u_seqL_l, u_frz_l, u_frz_k, u_frz_t, u_frz_o]
  refine ⟨trivial, ok_is_lowP ?_⟩
  cases s with
  | x ns =>
    simp only [Stp.low, if_true, Stp.p, u_wDef, initE, u_wSeq, u_wNext, u_wAsg, u_wAsgG, u_wDrop, u_wRet, u_wRetN, u_wIfS, u_wPar, u_wAug, u_wSetL, u_wBreak, u_wCont, u_wgN, u_wgNil, u_wgCons, u_wgTup, u_wiSeq, u_wiRng1, u_wiRng2, u_wiEnum, u_wFor, u_wLc, u_wYes, u_wV, u_wK, u_wOp, u_wUn, u_wTup, u_wLst, u_wCb, u_wTst, u_wNotT, u_wAndT, u_wOrT, u_wIf, u_wAnd, u_wOr, u_wNot, u_waNil, u_waCons, u_waStar, u_wCall, u_wMeth, u_wProp, u_wFld, u_wSetF, u_wMake, u_wCallI, u_wRev, u_wSl, u_woNone, u_woSome, u_wLm, u_wRz, u_wRzA, u_wFz, u_wCaught, u_wErrF, u_wDict0, u_wLrng, gt, st, u_sett_v, u_sett_f, u_sett_t, u_one, u_two, u_int1, atI0, atI1, atI2, atI3, atI4, ixN20, ixN21, List.map_cons, List.map_nil, List.cons_append, List.nil_append, List.append_nil, List.length_cons, List.length_nil, List.replicate_succ, List.replicate_zero, Nat.add_one_sub_one, u_waPerm, u_wChain, u_wDisp1, u_wDispT, u_wDefD, u_oAdd_i, u_oAdd_s, u_oAdd_t, u_oAdd_l, u_oSub, u_oMul_i, u_oMul_l, u_oFdiv, u_oMod, u_oPow, u_oLt, u_oLe, u_oGt, u_oGe, u_oNeg, u_oEq_i, u_oEq_s, u_oNe_i, u_oNe_s, u_oIsN, u_oNotN, u_oIx_l, u_oIx_t, u_oIn, u_oInL, u_oSl_t, u_oSl_l, u_len_l, u_len_t, u_min2, u_max2, u_abs, u_list_l, u_list_t, u_tup_l, u_tup_t, u_isB, u_notB, u_sqD_l, u_sqD_t, u_sqD_s, u_seqL_l, u_frz_l, u_frz_k, u_frz_t, u_frz_o, isOf, asObj, ruleD]
    exact ⟨trivial, by decide, ok_Rule_coefficients ⟨by simp [sizeLine_eq], q⟩⟩
  | y ns =>
    simp only [Stp.low, if_true, Stp.p, u_wDef, initE, u_wSeq, u_wNext, u_wAsg, u_wAsgG, u_wDrop, u_wRet, u_wRetN, u_wIfS, u_wPar, u_wAug, u_wSetL, u_wBreak, u_wCont, u_wgN, u_wgNil, u_wgCons, u_wgTup, u_wiSeq, u_wiRng1, u_wiRng2, u_wiEnum, u_wFor, u_wLc, u_wYes, u_wV, u_wK, u_wOp, u_wUn, u_wTup, u_wLst, u_wCb, u_wTst, u_wNotT, u_wAndT, u_wOrT, u_wIf, u_wAnd, u_wOr, u_wNot, u_waNil, u_waCons, u_waStar, u_wCall, u_wMeth, u_wProp, u_wFld, u_wSetF, u_wMake, u_wCallI, u_wRev, u_wSl, u_woNone, u_woSome, u_wLm, u_wRz, u_wRzA, u_wFz, u_wCaught, u_wErrF, u_wDict0, u_wLrng, gt, st, u_sett_v, u_sett_f, u_sett_t, u_one, u_two, u_int1, atI0, atI1, atI2, atI3, atI4, ixN20, ixN21, List.map_cons, List.map_nil, List.cons_append, List.nil_append, List.append_nil, List.length_cons, List.length_nil, List.replicate_succ, List.replicate_zero, Nat.add_one_sub_one, u_waPerm, u_wChain, u_wDisp1, u_wDispT, u_wDefD, u_oAdd_i, u_oAdd_s, u_oAdd_t, u_oAdd_l, u_oSub, u_oMul_i, u_oMul_l, u_oFdiv, u_oMod, u_oPow, u_oLt, u_oLe, u_oGt, u_oGe, u_oNeg, u_oEq_i, u_oEq_s, u_oNe_i, u_oNe_s, u_oIsN, u_oNotN, u_oIx_l, u_oIx_t, u_oIn, u_oInL, u_oSl_t, u_oSl_l, u_len_l, u_len_t, u_min2, u_max2, u_abs, u_list_l, u_list_t, u_tup_l, u_tup_t, u_isB, u_notB, u_sqD_l, u_sqD_t, u_sqD_s, u_seqL_l, u_frz_l, u_frz_k, u_frz_t, u_frz_o, isOf, asObj, ruleD]
    exact ⟨trivial, by decide, ok_Rule_coefficients ⟨by simp [sizeLine_eq], q⟩⟩
  | move a b => exact q
  | turn a b c d => exact q
theorem map_get {α : Type} {f : α → D} {ss : List α} {i : Nat} {x : D} (h : (ss.map f)[i]? = some x) : ∃ s, ss[i]? = some s ∧ x = f s := by
  rw [List.getElem?_map] at h
  cases e : ss[i]? with
  | none => rw [e] at h; cases h
  | some s => rw [e] at h; cases h; exact ⟨s, rfl, rfl⟩
theorem ok_bare_steps {ss : List Stp} (hl : ss.length ≤ 1000) (q : Q (.list (ss.map Stp.b)) μ) : wp_law_bare_steps [progD ss] μ Q X := by
  unfold wp_law_bare_steps
  simp only [u_wDef, initE, u_wSeq, u_wNext, u_wAsg, u_wAsgG, u_wDrop, u_wRet, u_wRetN, u_wIfS, u_wPar, u_wAug, u_wSetL, u_wBreak, u_wCont, u_wgN, u_wgNil, u_wgCons, u_wgTup, u_wiSeq, u_wiRng1, u_wiRng2, u_wiEnum, u_wFor, u_wLc, u_wYes, u_wV, u_wK, u_wOp, u_wUn, u_wTup, u_wLst, u_wCb, u_wTst, u_wNotT, u_wAndT, u_wOrT, u_wIf, u_wAnd, u_wOr, u_wNot, u_waNil, u_waCons, u_waStar, u_wCall, u_wMeth, u_wProp, u_wFld, u_wSetF, u_wMake, u_wCallI, u_wRev, u_wSl, u_woNone, u_woSome, u_wLm, u_wRz, u_wRzA, u_wFz, u_wCaught, u_wErrF, u_wDict0, u_wLrng, gt, st, u_sett_v, u_sett_f, u_sett_t, u_one, u_two, u_int1, atI0, atI1, atI2, atI3, atI4, ixN20, ixN21, List.map_cons, List.map_nil, List.cons_append, List.nil_append, List.append_nil, List.length_cons, List.length_nil, List.replicate_succ, List.replicate_zero, Nat.add_one_sub_one, u_waPerm, u_wChain, u_wDisp1, u_wDispT, u_wDefD, u_oAdd_i, u_oAdd_s, u_oAdd_t, u_oAdd_l, u_oSub, u_oMul_i, u_oMul_l, u_oFdiv, u_oMod, u_oPow, u_oLt, u_oLe, u_oGt, u_oGe, u_oNeg, u_oEq_i, u_oEq_s, u_oNe_i, u_oNe_s, u_oIsN, u_oNotN, u_oIx_l, u_oIx_t, u_oIn, u_oInL, u_oSl_t, u_oSl_l, u_len_l, u_len_t, u_min2, u_max2, u_abs, u_list_l, u_list_t, u_tup_l, u_tup_t, u_isB, u_notB, u_sqD_l, u_sqD_t, u_sqD_s, u_seqL_l, u_frz_l, u_frz_k, u_frz_t, u_frz_o, progD, isOf, progE, asObj]
  refine ⟨trivial, trivial, by decide, ok_Program_steps ?_⟩
  simp only [u_sqD_t]
  refine ⟨by rw [List.length_map, sizeLine_eq]; omega, lc_inv (fun i acc μ' => μ' = μ ∧ acc = (ss.take i).map Stp.b) ⟨rfl, rfl⟩ ?_ ?_⟩
  · rintro i x acc μ' N hx ⟨rfl, rfl⟩ hN
    obtain ⟨s, hs, rfl⟩ := map_get hx
    refine ⟨trivial, ?_⟩
    simp only [u_wDef, initE, u_wSeq, u_wNext, u_wAsg, u_wAsgG, u_wDrop, u_wRet, u_wRetN, u_wIfS, u_wPar, u_wAug, u_wSetL, u_wBreak, u_wCont, u_wgN, u_wgNil, u_wgCons, u_wgTup, u_wiSeq, u_wiRng1, u_wiRng2, u_wiEnum, u_wFor, u_wLc, u_wYes, u_wV, u_wK, u_wOp, u_wUn, u_wTup, u_wLst, u_wCb, u_wTst, u_wNotT, u_wAndT, u_wOrT, u_wIf, u_wAnd, u_wOr, u_wNot, u_waNil, u_waCons, u_waStar, u_wCall, u_wMeth, u_wProp, u_wFld, u_wSetF, u_wMake, u_wCallI, u_wRev, u_wSl, u_woNone, u_woSome, u_wLm, u_wRz, u_wRzA, u_wFz, u_wCaught, u_wErrF, u_wDict0, u_wLrng, gt, st, u_sett_v, u_sett_f, u_sett_t, u_one, u_two, u_int1, atI0, atI1, atI2, atI3, atI4, ixN20, ixN21, List.map_cons, List.map_nil, List.cons_append, List.nil_append, List.append_nil, List.length_cons, List.length_nil, List.replicate_succ, List.replicate_zero, Nat.add_one_sub_one, u_waPerm, u_wChain, u_wDisp1, u_wDispT, u_wDefD, u_oAdd_i, u_oAdd_s, u_oAdd_t, u_oAdd_l, u_oSub, u_oMul_i, u_oMul_l, u_oFdiv, u_oMod, u_oPow, u_oLt, u_oLe, u_oGt, u_oGe, u_oNeg, u_oEq_i, u_oEq_s, u_oNe_i, u_oNe_s, u_oIsN, u_oNotN, u_oIx_l, u_oIx_t, u_oIn, u_oInL, u_oSl_t, u_oSl_l, u_len_l, u_len_t, u_min2, u_max2, u_abs, u_list_l, u_list_t, u_tup_l, u_tup_t, u_isB, u_notB, u_sqD_l, u_sqD_t, u_sqD_s, u_seqL_l, u_frz_l, u_frz_k, u_frz_t, u_frz_o, wipeE, if_true]
    refine ok_bare_step (hN _ _ ⟨rfl, ?_⟩)
    rw [List.take_succ, hs, List.map_append]
    rfl
  · rintro acc μ' ⟨rfl, rfl⟩
    refine ⟨trivial, ?_⟩
    rw [List.length_map, List.take_length]
    exact q
theorem all_good {ss : List Stp} (h : ∀ s ∈ ss, s.Ok B) (hB : B ≤ 10 ^ 70) : ∀ x ∈ ss.map Stp.p, Good x ∧ stepB x = true := fun x hx => by
  obtain ⟨s, hs, rfl⟩ := List.mem_map.mp hx
  exact step_good (h s hs) hB
theorem ok_program_of {ss : List Stp} (hl : ss.length ≤ 1000) (h : ∀ s ∈ ss, s.Ok B) (hB : B ≤ 10 ^ 70) (q : Q (progD ss) μ) : wp_law_program_of [.list (ss.map Stp.b)] μ Q X := by
  unfold wp_law_program_of
  simp only [u_wDef, initE, u_wSeq, u_wNext, u_wAsg, u_wAsgG, u_wDrop, u_wRet, u_wRetN, u_wIfS, u_wPar, u_wAug, u_wSetL, u_wBreak, u_wCont, u_wgN, u_wgNil, u_wgCons, u_wgTup, u_wiSeq, u_wiRng1, u_wiRng2, u_wiEnum, u_wFor, u_wLc, u_wYes, u_wV, u_wK, u_wOp, u_wUn, u_wTup, u_wLst, u_wCb, u_wTst, u_wNotT, u_wAndT, u_wOrT, u_wIf, u_wAnd, u_wOr, u_wNot, u_waNil, u_waCons, u_waStar, u_wCall, u_wMeth, u_wProp, u_wFld, u_wSetF, u_wMake, u_wCallI, u_wRev, u_wSl, u_woNone, u_woSome, u_wLm, u_wRz, u_wRzA, u_wFz, u_wCaught, u_wErrF, u_wDict0, u_wLrng, gt, st, u_sett_v, u_sett_f, u_sett_t, u_one, u_two, u_int1, atI0, atI1, atI2, atI3, atI4, ixN20, ixN21, List.map_cons, List.map_nil, List.cons_append, List.nil_append, List.append_nil, List.length_cons, List.length_nil, List.replicate_succ, List.replicate_zero, Nat.add_one_sub_one, u_waPerm, u_wChain, u_wDisp1, u_wDispT, u_wDefD, u_oAdd_i, u_oAdd_s, u_oAdd_t, u_oAdd_l, u_oSub, u_oMul_i, u_oMul_l, u_oFdiv, u_oMod, u_oPow, u_oLt, u_oLe, u_oGt, u_oGe, u_oNeg, u_oEq_i, u_oEq_s, u_oNe_i, u_oNe_s, u_oIsN, u_oNotN, u_oIx_l, u_oIx_t, u_oIn, u_oInL, u_oSl_t, u_oSl_l, u_len_l, u_len_t, u_min2, u_max2, u_abs, u_list_l, u_list_t, u_tup_l, u_tup_t, u_isB, u_notB, u_sqD_l, u_sqD_t, u_sqD_s, u_seqL_l, u_frz_l, u_frz_k, u_frz_t, u_frz_o]
  refine ⟨trivial, by rw [List.length_map, sizeLine_eq]; omega, lc_inv (fun i acc μ' => μ' = μ ∧ acc = (ss.take i).map Stp.p) ⟨rfl, rfl⟩ ?_ ?_⟩
  · rintro i x acc μ' N hx ⟨rfl, rfl⟩ hN
    obtain ⟨s, hs, rfl⟩ := map_get hx
    refine ⟨trivial, ?_⟩
    simp only [u_wDef, initE, u_wSeq, u_wNext, u_wAsg, u_wAsgG, u_wDrop, u_wRet, u_wRetN, u_wIfS, u_wPar, u_wAug, u_wSetL, u_wBreak, u_wCont, u_wgN, u_wgNil, u_wgCons, u_wgTup, u_wiSeq, u_wiRng1, u_wiRng2, u_wiEnum, u_wFor, u_wLc, u_wYes, u_wV, u_wK, u_wOp, u_wUn, u_wTup, u_wLst, u_wCb, u_wTst, u_wNotT, u_wAndT, u_wOrT, u_wIf, u_wAnd, u_wOr, u_wNot, u_waNil, u_waCons, u_waStar, u_wCall, u_wMeth, u_wProp, u_wFld, u_wSetF, u_wMake, u_wCallI, u_wRev, u_wSl, u_woNone, u_woSome, u_wLm, u_wRz, u_wRzA, u_wFz, u_wCaught, u_wErrF, u_wDict0, u_wLrng, gt, st, u_sett_v, u_sett_f, u_sett_t, u_one, u_two, u_int1, atI0, atI1, atI2, atI3, atI4, ixN20, ixN21, List.map_cons, List.map_nil, List.cons_append, List.nil_append, List.append_nil, List.length_cons, List.length_nil, List.replicate_succ, List.replicate_zero, Nat.add_one_sub_one, u_waPerm, u_wChain, u_wDisp1, u_wDispT, u_wDefD, u_oAdd_i, u_oAdd_s, u_oAdd_t, u_oAdd_l, u_oSub, u_oMul_i, u_oMul_l, u_oFdiv, u_oMod, u_oPow, u_oLt, u_oLe, u_oGt, u_oGe, u_oNeg, u_oEq_i, u_oEq_s, u_oNe_i, u_oNe_s, u_oIsN, u_oNotN, u_oIx_l, u_oIx_t, u_oIn, u_oInL, u_oSl_t, u_oSl_l, u_len_l, u_len_t, u_min2, u_max2, u_abs, u_list_l, u_list_t, u_tup_l, u_tup_t, u_isB, u_notB, u_sqD_l, u_sqD_t, u_sqD_s, u_seqL_l, u_frz_l, u_frz_k, u_frz_t, u_frz_o, wipeE, if_true]
    refine ok_step_of (h s (List.mem_of_getElem? hs)) (hN _ _ ⟨rfl, ?_⟩)
    rw [List.take_succ, hs, List.map_append]
    rfl
  · rintro acc μ' ⟨rfl, rfl⟩
    refine ⟨trivial, ?_⟩
    rw [List.length_map, List.take_length]
    intro p hp
    exact mk_Program (ds := ss.map Stp.p) rfl (fun _ z => by cases z) (by rw [List.length_map]; omega) (all_good h hB) q p hp
end
end DL

set_option Elab.async false
set_option linter.all false
set_option maxRecDepth 100000
set_option maxHeartbeats 4000000
/-! P10: == of programs and of steps. -/
namespace DL
open PySem L2
/-- what a Rule holds -/
def ruleP : List D → Bool
  | [.tup ds] => ds.all numD
  | _ => false
theorem ruleP_cases {xs : List D} (h : ruleP xs = true) : ∃ ns, xs = [.tup (iL ns)] := by
  unfold ruleP at h
  split at h
  · rename_i ds
    refine ⟨ds.map fun d => match d with | .int i => i | _ => 0, ?_⟩
    congr 2
    unfold iL
    rw [List.map_map]
    conv => lhs; rw [← List.map_id ds]
    refine List.map_congr_left fun x hx => ?_
    obtain ⟨i, rfl⟩ := num_int (List.all_eq_true.mp h x hx)
    rfl
  · cases h
theorem ruleP_iL (ns : List Int) : ruleP [.tup (iL ns)] = true := by
  show (iL ns).all numD = true
  unfold iL
  rw [List.all_map]
  exact List.all_eq_true.mpr fun _ _ => rfl
theorem eqOs_iL : ∀ ns ms : List Int, eqOs (iL ns) (iL ms) = decide (ns = ms)
  | [], [] => rfl
  | [], _ :: _ => rfl
  | _ :: _, [] => rfl
  | n :: ns, m :: ms => by
    show (eqO (.int n) (.int m) && eqOs (iL ns) (iL ms)) = _
    rw [eqOs_iL ns ms, eqO_flat rfl]
    show ((n == m) && decide (ns = ms)) = _
    rw [Bool.eq_iff_iff, Bool.and_eq_true, beq_iff_eq, decide_eq_true_iff, decide_eq_true_iff, List.cons.injEq]
theorem eqOs_rule (ns ms : List Int) : eqOs [.tup (iL ns)] [.tup (iL ms)] = decide (ns = ms) := by
  rw [eqOs, eqO, eqOs_iL, eqOs, Bool.and_true]
theorem ownE_Rule : ∀ μ xs ys (Q : QD) (E : QD), ruleP xs = true → ruleP ys = true → Q (.bool (eqOs xs ys)) μ → wp_Rule___eq__ [.obj "Rule" ["own_numbers"] xs, .obj "Rule" ["own_numbers"] ys] μ Q E := fun μ xs ys Q E h1 h2 q => by
  obtain ⟨ns, rfl⟩ := ruleP_cases h1
  obtain ⟨ms, rfl⟩ := ruleP_cases h2
  rw [eqOs_rule] at q
  exact ok_Rule_eq q
theorem cmp_ints (n : Str) (fs : List Str) (P : List D → Bool) : ∀ ns ms : List Int, cmpOs n fs P (iL ns) (iL ms) = true
  | [], [] => rfl
  | [], _ :: _ => rfl
  | _ :: _, [] => rfl
  | a :: ns, b :: ms => by
    show (cmpO n fs P (.int a) (.int b) && (!eqO (.int a) (.int b) || cmpOs n fs P (iL ns) (iL ms))) = true
    rw [cmp_ints n fs P ns ms, Bool.or_true, Bool.and_true]
    rfl
theorem ownC_Rule : ∀ xs ys, ruleP xs = true → ruleP ys = true → cmpOs "Rule" ["own_numbers"] ruleP xs ys = true := fun xs ys h1 h2 => by
  obtain ⟨ns, rfl⟩ := ruleP_cases h1
  obtain ⟨ms, rfl⟩ := ruleP_cases h2
  have e : cmpOs "Rule" ["own_numbers"] ruleP [] [] = true := rfl
  rw [cmpOs, cmpO, cmp_ints, e, Bool.or_true]
  rfl
def wp_Program___eq__ : WP := (wDef 2 2 (wRet (wAnd (wCb false cbIsi (waCons (wV 1) (waCons (wK (.cls "Program")) waNil))) (wOp false (oEqR "Rule" ["own_numbers"] ruleP) (wFld "Program" "own_steps" (wV 0)) (wFld "Program" "own_steps" (wV 1))))))
theorem str_ne_eqO {a b : Str} (h : a ≠ b) : eqO (.str a) (.str b) = false := by
  rw [eqO_flat rfl]
  exact beq_eq_false_iff_ne.mpr h
theorem str_eqO (a : Str) : eqO (.str a) (.str a) = true := by
  rw [eqO_flat rfl]
  exact beq_self_eq_true a
theorem int_eqO (i j : Int) : eqO (.int i) (.int j) = decide (i = j) := by
  rw [eqO_flat rfl]
  show (i == j) = _
  rw [Bool.eq_iff_iff, beq_iff_eq, decide_eq_true_iff]
theorem eqO_word (a b : Str) (xs ys : List D) : eqO (.tup (.str a :: xs)) (.tup (.str b :: ys)) = (decide (a = b) && eqOs xs ys) := by
  rw [eqO, eqOs, eqO_flat rfl]
  congr 1
theorem cmpO_word (n : Str) (fs : List Str) (P : List D → Bool) (a b : Str) (xs ys : List D) : cmpO n fs P (.tup (.str a :: xs)) (.tup (.str b :: ys)) = (!decide (a = b) || cmpOs n fs P xs ys) := by
  have e : eqO (.str a) (.str b) = decide (a = b) := by
    rw [eqO_flat rfl]
    show (a == b) = _
    rw [Bool.eq_iff_iff, beq_iff_eq, decide_eq_true_iff]
  rw [cmpO, cmpOs, e]
  rfl
theorem rule_eqO (ns ms : List Int) : eqO (ruleD ns) (ruleD ms) = decide (ns = ms) := by
  show eqO (.obj _ _ _) (.obj _ _ _) = _
  rw [eqO, eqOs_rule]
theorem one_eqOs (x y : D) : eqOs [x] [y] = eqO x y := by rw [eqOs, eqOs, Bool.and_true]
theorem cons_eqOs (x y : D) (xs ys : List D) : eqOs (x :: xs) (y :: ys) = (eqO x y && eqOs xs ys) := by rw [eqOs]
theorem eqO_step (s t : Stp) : eqO s.p t.p = decide (s = t) := by
  cases s <;> cases t <;> (show eqO (.tup (.str _ :: _)) (.tup (.str _ :: _)) = _; rw [eqO_word])
  case x.x => rw [decide_eq_true rfl, Bool.true_and, one_eqOs, rule_eqO, decide_eq_decide, Stp.x.injEq]
  case y.y => rw [decide_eq_true rfl, Bool.true_and, one_eqOs, rule_eqO, decide_eq_decide, Stp.y.injEq]
  case move.move => rw [decide_eq_true rfl, Bool.true_and, cons_eqOs, one_eqOs, int_eqO, int_eqO, Bool.eq_iff_iff, Bool.and_eq_true, decide_eq_true_iff, decide_eq_true_iff, decide_eq_true_iff, Stp.move.injEq]
  case turn.turn => rw [decide_eq_true rfl, Bool.true_and, cons_eqOs, cons_eqOs, cons_eqOs, one_eqOs, int_eqO, int_eqO, int_eqO, int_eqO, Bool.eq_iff_iff, Bool.and_eq_true, Bool.and_eq_true, Bool.and_eq_true, decide_eq_true_iff, decide_eq_true_iff, decide_eq_true_iff, decide_eq_true_iff, decide_eq_true_iff, Stp.turn.injEq]
  all_goals (rw [decide_eq_false (by decide)]; rfl)
theorem cmpO_step (s t : Stp) : cmpO "Rule" ["own_numbers"] ruleP s.p t.p = true := by
  have rl : ∀ ns ms : List Int, cmpO "Rule" ["own_numbers"] ruleP (ruleD ns) (ruleD ms) = true := fun ns ms => by
    show cmpO _ _ _ (.obj _ _ _) (.obj _ _ _) = _
    rw [cmpO, ruleP_iL, ruleP_iL]
    rfl
  have rl1 : ∀ ns ms : List Int, cmpOs "Rule" ["own_numbers"] ruleP [ruleD ns] [ruleD ms] = true := fun ns ms => by
    have e : cmpOs "Rule" ["own_numbers"] ruleP [] [] = true := rfl
    rw [cmpOs, rl, e, Bool.or_true]
    rfl
  cases s <;> cases t <;> (show cmpO _ _ _ (.tup (.str _ :: _)) (.tup (.str _ :: _)) = _; rw [cmpO_word])
  case x.x => rw [rl1, Bool.or_true]
  case y.y => rw [rl1, Bool.or_true]
  case move.move a b c d => rw [show cmpOs "Rule" ["own_numbers"] ruleP [.int a, .int b] [.int c, .int d] = true from cmp_ints _ _ _ [a, b] [c, d], Bool.or_true]
  case turn.turn a b c d a' b' c' d' => rw [show cmpOs "Rule" ["own_numbers"] ruleP [.int a, .int b, .int c, .int d] [.int a', .int b', .int c', .int d'] = true from cmp_ints _ _ _ [a, b, c, d] [a', b', c', d'], Bool.or_true]
  all_goals (rw [decide_eq_false (by decide)]; rfl)
theorem eqOs_steps : ∀ ss tt : List Stp, eqOs (ss.map Stp.p) (tt.map Stp.p) = decide (ss = tt)
  | [], [] => rfl
  | [], _ :: _ => rfl
  | _ :: _, [] => rfl
  | s :: ss, t :: tt => by
    rw [List.map_cons, List.map_cons, eqOs, eqO_step, eqOs_steps ss tt, Bool.eq_iff_iff, Bool.and_eq_true, decide_eq_true_iff, decide_eq_true_iff, decide_eq_true_iff, List.cons.injEq]
theorem cmpOs_steps : ∀ ss tt : List Stp, cmpOs "Rule" ["own_numbers"] ruleP (ss.map Stp.p) (tt.map Stp.p) = true
  | [], [] => rfl
  | [], _ :: _ => rfl
  | _ :: _, [] => rfl
  | s :: ss, t :: tt => by
    rw [List.map_cons, List.map_cons, cmpOs, cmpO_step, cmpOs_steps ss tt, Bool.or_true]
    rfl
theorem dpOs_ints : ∀ ns : List Int, dpOs (iL ns) = 0
  | [] => rfl
  | n :: ns => by
    show max (dpO (.int n)) (dpOs (iL ns)) = 0
    rw [dpOs_ints ns]
    rfl
theorem dpO_step (s : Stp) : dpO s.p ≤ 3 := by
  have rl : ∀ ns : List Int, dpO (ruleD ns) = 2 := fun ns => by
    show dpO (.obj _ _ _) = _
    rw [dpO, dpOs, dpO, dpOs_ints, dpOs]
    rfl
  cases s <;> simp [Stp.p, dpO, dpOs, rl]
theorem dpOs_steps : ∀ ss : List Stp, dpOs (ss.map Stp.p) ≤ 3
  | [] => Nat.zero_le _
  | s :: ss => Nat.max_le.mpr ⟨dpO_step s, dpOs_steps ss⟩
section
variable {μ : Mu} {Q X : QD} {d : D} {B : Nat}
theorem ok_Program_eq {ss tt : List Stp} (q : Q (.bool (decide (ss = tt))) μ) : wp_Program___eq__ [progD ss, progD tt] μ Q X := by
  unfold wp_Program___eq__
  have e : isiD (.o "Program") (.cls "Program") = some true := by decide
  simp only [u_wDef, initE, u_wSeq, u_wNext, u_wAsg, u_wAsgG, u_wDrop, u_wRet, u_wRetN, u_wIfS, u_wPar, u_wAug, u_wSetL, u_wBreak, u_wCont, u_wgN, u_wgNil, u_wgCons, u_wgTup, u_wiSeq, u_wiRng1, u_wiRng2, u_wiEnum, u_wFor, u_wLc, u_wYes, u_wV, u_wK, u_wOp, u_wUn, u_wTup, u_wLst, u_wCb, u_wTst, u_wNotT, u_wAndT, u_wOrT, u_wIf, u_wAnd, u_wOr, u_wNot, u_waNil, u_waCons, u_waStar, u_wCall, u_wMeth, u_wProp, u_wFld, u_wSetF, u_wMake, u_wCallI, u_wRev, u_wSl, u_woNone, u_woSome, u_wLm, u_wRz, u_wRzA, u_wFz, u_wCaught, u_wErrF, u_wDict0, u_wLrng, gt, st, u_sett_v, u_sett_f, u_sett_t, u_one, u_two, u_int1, atI0, atI1, atI2, atI3, atI4, ixN20, ixN21, List.map_cons, List.map_nil, List.cons_append, List.nil_append, List.append_nil, List.length_cons, List.length_nil, List.replicate_succ, List.replicate_zero, Nat.add_one_sub_one, u_waPerm, u_wChain, u_wDisp1, u_wDispT, u_wDefD, u_oAdd_i, u_oAdd_s, u_oAdd_t, u_oAdd_l, u_oSub, u_oMul_i, u_oMul_l, u_oFdiv, u_oMod, u_oPow, u_oLt, u_oLe, u_oGt, u_oGe, u_oNeg, u_oEq_i, u_oEq_s, u_oNe_i, u_oNe_s, u_oIsN, u_oNotN, u_oIx_l, u_oIx_t, u_oIn, u_oInL, u_oSl_t, u_oSl_l, u_len_l, u_len_t, u_min2, u_max2, u_abs, u_list_l, u_list_t, u_tup_l, u_tup_t, u_isB, u_notB, u_sqD_l, u_sqD_t, u_sqD_s, u_seqL_l, u_frz_l, u_frz_k, u_frz_t, u_frz_o, cbIsi, progD, progE, tyD, e, asObj, fldD, if_true, true_and]
  refine ⟨rfl, ?_, ?_, ?_⟩
  · rw [cmpO]; exact cmpOs_steps ss tt
  · rw [dpO]; have := dpOs_steps ss; omega
  · rw [eqO, eqOs_steps]
    exact q
/-- a thing that is no program -/
theorem ok_Program_eq_no {ds : List D} {t : TyD} (h : tyD μ d = some t) (h2 : isi1 t (.cls "Program") = some false) (q : Q (.bool false) μ) : wp_Program___eq__ [progE ds, d] μ Q X := by
  have h3 : isiD t (.cls "Program") = some false := h2
  unfold wp_Program___eq__
  simp only [u_wDef, initE, u_wSeq, u_wNext, u_wAsg, u_wAsgG, u_wDrop, u_wRet, u_wRetN, u_wIfS, u_wPar, u_wAug, u_wSetL, u_wBreak, u_wCont, u_wgN, u_wgNil, u_wgCons, u_wgTup, u_wiSeq, u_wiRng1, u_wiRng2, u_wiEnum, u_wFor, u_wLc, u_wYes, u_wV, u_wK, u_wOp, u_wUn, u_wTup, u_wLst, u_wCb, u_wTst, u_wNotT, u_wAndT, u_wOrT, u_wIf, u_wAnd, u_wOr, u_wNot, u_waNil, u_waCons, u_waStar, u_wCall, u_wMeth, u_wProp, u_wFld, u_wSetF, u_wMake, u_wCallI, u_wRev, u_wSl, u_woNone, u_woSome, u_wLm, u_wRz, u_wRzA, u_wFz, u_wCaught, u_wErrF, u_wDict0, u_wLrng, gt, st, u_sett_v, u_sett_f, u_sett_t, u_one, u_two, u_int1, atI0, atI1, atI2, atI3, atI4, ixN20, ixN21, List.map_cons, List.map_nil, List.cons_append, List.nil_append, List.append_nil, List.length_cons, List.length_nil, List.replicate_succ, List.replicate_zero, Nat.add_one_sub_one, u_waPerm, u_wChain, u_wDisp1, u_wDispT, u_wDefD, u_oAdd_i, u_oAdd_s, u_oAdd_t, u_oAdd_l, u_oSub, u_oMul_i, u_oMul_l, u_oFdiv, u_oMod, u_oPow, u_oLt, u_oLe, u_oGt, u_oGe, u_oNeg, u_oEq_i, u_oEq_s, u_oNe_i, u_oNe_s, u_oIsN, u_oNotN, u_oIx_l, u_oIx_t, u_oIn, u_oInL, u_oSl_t, u_oSl_l, u_len_l, u_len_t, u_min2, u_max2, u_abs, u_list_l, u_list_t, u_tup_l, u_tup_t, u_isB, u_notB, u_sqD_l, u_sqD_t, u_sqD_s, u_seqL_l, u_frz_l, u_frz_k, u_frz_t, u_frz_o, cbIsi, h, h3, true_and]
  exact q
end
/-! ### == of the laws' own steps -/
theorem pds_map {α : Type} (f : α → D) : ∀ l : List α, pds (l.map f) = l.map fun a => pd (f a)
  | [] => rfl
  | a :: l => by rw [List.map_cons, pds, pds_map f l]; rfl
theorem plains_map {α : Type} (f : α → D) (h : ∀ a, plainD (f a) = true) : ∀ l : List α, plainsD (l.map f) = true
  | [] => rfl
  | a :: l => by rw [List.map_cons, plainsD, h, plains_map f h l]; rfl
theorem eqvAll_map {α : Type} [DecidableEq α] (f : α → PyData) (h : ∀ a b, PyData.eqv (f a) (f b) = decide (a = b)) : ∀ l m : List α, PyData.eqvAll (l.map f) (m.map f) = decide (l = m)
  | [], [] => rfl
  | [], _ :: _ => rfl
  | _ :: _, [] => rfl
  | a :: l, b :: m => by
    rw [List.map_cons, List.map_cons, PyData.eqvAll, h, eqvAll_map f h l m, Bool.eq_iff_iff, Bool.and_eq_true, decide_eq_true_iff, decide_eq_true_iff, decide_eq_true_iff, List.cons.injEq]
theorem canLay_map {α : Type} (f : α → PyData) (h : ∀ a, (f a).canLay0 = true) : ∀ l : List α, PyData.canLayAll0 (l.map f) = true
  | [] => rfl
  | a :: l => by rw [List.map_cons, PyData.canLayAll0, h, canLay_map f h l]; rfl
theorem depth_map {α : Type} (f : α → PyData) {k : Nat} (h : ∀ a, (f a).depth ≤ k) : ∀ l : List α, PyData.depthAll (l.map f) ≤ k
  | [] => Nat.zero_le _
  | a :: l => by
    rw [List.map_cons, PyData.depthAll]
    exact Nat.max_le.mpr ⟨h a, depth_map f h l⟩
theorem eqv_ints (ns ms : List Int) : PyData.eqv (pd (.list (iL ns))) (pd (.list (iL ms))) = decide (ns = ms) := by
  show PyData.eqv (.list (pds (iL ns))) (.list (pds (iL ms))) = _
  unfold iL
  rw [pds_ints, pds_ints, PyData.eqv, eqvAll_ints]
theorem step_plain (s : Stp) : plainD s.b = true := by
  have e : ∀ ns : List Int, plainsD (iL ns) = true := fun ns => plains_ints ns
  cases s <;> first | rfl | (show (true && (plainsD (iL _) && true)) = true; rw [e]; rfl)
theorem eqv_word (a b : Str) (xs ys : List PyData) : PyData.eqv (.tuple (.str a :: xs)) (.tuple (.str b :: ys)) = (decide (a = b) && PyData.eqvAll xs ys) := by
  rw [PyData.eqv, PyData.eqvAll, PyData.eqv]
  congr 1
theorem int_eqv (i j : Int) : PyData.eqv (.int i) (.int j) = decide (i = j) := by
  rw [PyData.eqv, Bool.eq_iff_iff, beq_iff_eq, decide_eq_true_iff]
theorem one_eqv (x y : PyData) : PyData.eqvAll [x] [y] = PyData.eqv x y := by rw [PyData.eqvAll, PyData.eqvAll, Bool.and_true]
theorem cons_eqv (x y : PyData) (xs ys : List PyData) : PyData.eqvAll (x :: xs) (y :: ys) = (PyData.eqv x y && PyData.eqvAll xs ys) := by rw [PyData.eqvAll]
theorem step_eqv (s t : Stp) : PyData.eqv (pd s.b) (pd t.b) = decide (s = t) := by
  cases s <;> cases t <;> (show PyData.eqv (.tuple (.str _ :: _)) (.tuple (.str _ :: _)) = _; rw [eqv_word])
  case x.x ns ms => rw [decide_eq_true rfl, Bool.true_and, show ∀ l : List Int, pds [D.list (iL l)] = [pd (.list (iL l))] from fun l => rfl, show ∀ l : List Int, pds [D.list (iL l)] = [pd (.list (iL l))] from fun l => rfl, one_eqv, eqv_ints, decide_eq_decide, Stp.x.injEq]
  case y.y ns ms => rw [decide_eq_true rfl, Bool.true_and, show ∀ l : List Int, pds [D.list (iL l)] = [pd (.list (iL l))] from fun l => rfl, show ∀ l : List Int, pds [D.list (iL l)] = [pd (.list (iL l))] from fun l => rfl, one_eqv, eqv_ints, decide_eq_decide, Stp.y.injEq]
  case move.move =>
    rw [decide_eq_true rfl, Bool.true_and]
    show PyData.eqvAll [.int _, .int _] [.int _, .int _] = _
    rw [cons_eqv, one_eqv, int_eqv, int_eqv, Bool.eq_iff_iff, Bool.and_eq_true, decide_eq_true_iff, decide_eq_true_iff, decide_eq_true_iff, Stp.move.injEq]
  case turn.turn =>
    rw [decide_eq_true rfl, Bool.true_and]
    show PyData.eqvAll [.int _, .int _, .int _, .int _] [.int _, .int _, .int _, .int _] = _
    rw [cons_eqv, cons_eqv, cons_eqv, one_eqv, int_eqv, int_eqv, int_eqv, int_eqv, Bool.eq_iff_iff, Bool.and_eq_true, Bool.and_eq_true, Bool.and_eq_true, decide_eq_true_iff, decide_eq_true_iff, decide_eq_true_iff, decide_eq_true_iff, decide_eq_true_iff, Stp.turn.injEq]
  all_goals (rw [decide_eq_false (by decide)]; rfl)
theorem step_lay (s : Stp) : (pd s.b).canLay0 = true ∧ (pd s.b).depth ≤ 3 := by
  have e1 : ∀ ns : List Int, (pd (.list (iL ns))).canLay0 = true := fun ns => SeqAt.canLay_of_shaped (shaped_ints ns)
  have e2 : ∀ ns : List Int, (pd (.list (iL ns))).depth = 1 := fun ns => by
    show PyData.depth (.list (pds (iL ns))) = 1
    unfold iL
    rw [pds_ints, PyData.depth, depth_ints]
  have sx : PyData.canLay0 (.str "x") = true := by decide +kernel
  have sy : PyData.canLay0 (.str "y") = true := by decide +kernel
  cases s with
  | x ns =>
    refine ⟨?_, ?_⟩
    · show (PyData.canLay0 (.str "x") && (PyData.canLay0 (pd (.list (iL ns))) && true)) = true
      rw [sx, e1]
      rfl
    · show PyData.depth (.tuple [.str "x", pd (.list (iL ns))]) ≤ 3
      rw [PyData.depth, PyData.depthAll, PyData.depthAll, PyData.depthAll, e2]
      decide
  | y ns =>
    refine ⟨?_, ?_⟩
    · show (PyData.canLay0 (.str "y") && (PyData.canLay0 (pd (.list (iL ns))) && true)) = true
      rw [sy, e1]
      rfl
    · show PyData.depth (.tuple [.str "y", pd (.list (iL ns))]) ≤ 3
      rw [PyData.depth, PyData.depthAll, PyData.depthAll, PyData.depthAll, e2]
      decide
  | move a b => exact ⟨by show (PyData.canLay0 (.str "move") && _) = true; rw [show PyData.canLay0 (.str "move") = true by decide +kernel]; rfl, (show PyData.depth (.tuple [.str "move", .int a, .int b]) ≤ 3 by rw [PyData.depth, PyData.depthAll, PyData.depthAll, PyData.depthAll, PyData.depthAll]; exact (show max 0 (max 0 (max 0 0)) + 1 ≤ 3 by decide))⟩
  | turn a b c d => exact ⟨by show (PyData.canLay0 (.str "turn") && _) = true; rw [show PyData.canLay0 (.str "turn") = true by decide +kernel]; rfl, (show PyData.depth (.tuple [.str "turn", .int a, .int b, .int c, .int d]) ≤ 3 by rw [PyData.depth, PyData.depthAll, PyData.depthAll, PyData.depthAll, PyData.depthAll, PyData.depthAll, PyData.depthAll]; exact (show max 0 (max 0 (max 0 (max 0 (max 0 0)))) + 1 ≤ 3 by decide))⟩
/-- == of two lists of such things -/
theorem eq_map {α : Type} [DecidableEq α] (f : α → D) (h1 : ∀ a, plainD (f a) = true) (h2 : ∀ a b, PyData.eqv (pd (f a)) (pd (f b)) = decide (a = b)) {k : Nat} (hk : k ≤ 60) (h3 : ∀ a, (pd (f a)).canLay0 = true ∧ (pd (f a)).depth ≤ k) (l m : List α) (Q : Bool → Prop) (q : Q (decide (l = m))) : eqG (.list (l.map f)) (.list (m.map f)) Q := by
  have sh : ∀ l : List α, SeqAt.shaped (pd (.list (l.map f))) = true := fun l => by
    show SeqAt.shaped (.list (pds (l.map f))) = true
    unfold SeqAt.shaped
    rw [pds_map, PyData.canLay0, canLay_map _ (fun a => (h3 a).1), PyData.depth]
    have := depth_map (fun a => pd (f a)) (fun a => (h3 a).2) l
    rw [decide_eq_true (by omega)]
    rfl
  refine ⟨⟨plains_map f h1 l, plains_map f h1 m, sh l, sh m⟩, ?_⟩
  have e : PyData.eqv (pd (.list (l.map f))) (pd (.list (m.map f))) = decide (l = m) := by
    show PyData.eqv (.list (pds (l.map f))) (.list (pds (m.map f))) = _
    rw [pds_map, pds_map, PyData.eqv, eqvAll_map _ h2]
  rw [e]
  exact q
theorem eq_steps (ss tt : List Stp) (Q : Bool → Prop) (q : Q (decide (ss = tt))) : eqG (.list (ss.map Stp.b)) (.list (tt.map Stp.b)) Q := eq_map Stp.b step_plain step_eqv (by decide : 3 ≤ 60) step_lay ss tt Q q
end DL

set_option Elab.async false
set_option linter.all false
set_option maxRecDepth 100000
set_option maxHeartbeats 4000000
/-! P11: odd values, slices, padded steps. -/
namespace DL
open PySem L2
theorem cut_take (ds : List D) (n : Nat) : cutD ds none (some (n : Int)) = ds.take n := by
  unfold cutD
  rw [HT.sIx_nat, HT.sIx_none]
  simp [List.take_eq_take_iff]
theorem cut_drop (ds : List D) (n : Nat) : cutD ds (some (n : Int)) none = ds.drop n := by
  unfold cutD
  rw [HT.sIx_nat, HT.sIx_none]
  by_cases h : n ≤ ds.length
  · rw [Nat.min_eq_left h]
    exact List.take_of_length_le (by rw [List.length_drop]; omega)
  · rw [Nat.min_eq_right (by omega), List.drop_length, List.drop_of_length_le (by omega)]
    simp
theorem trim_zeros : ∀ (k : Nat) (row : List Int), M.trim (row ++ List.replicate k 0) = M.trim row
  | 0, row => by simp
  | k + 1, row => by
    rw [List.replicate_succ', ← List.append_assoc, M.trim_append_zero, trim_zeros k row]
theorem iL_app (a b : List Int) : iL a ++ iL b = iL (a ++ b) := by
  unfold iL
  rw [List.map_append]
def wp_law_odd : WP := (wDef 1 2 (wSeq (wAsg 1 (wLst false (waCons (wK .none) (waCons (wK (.bool true)) (waCons (wK (.bool false)) (waCons (wK (.int 0)) (waCons (wK (.int 1)) (waCons (wUn false oNeg (wK (.int 1))) (waCons (wK (.int 5)) (waCons (wOp false oPow (wK (.int 10)) (wK (.int 60))) (waCons (wK (.str "")) (waCons (wK (.str "x")) (waCons (wK (.str "turn")) (waCons (wTup waNil) (waCons (wLst false waNil) (waCons (wDict0 false) (waCons (wTup (waCons (wK (.str "x")) waNil)) (waCons (wTup (waCons (wK (.str "x")) (waCons (wK (.int 1)) waNil))) (waCons (wTup (waCons (wK (.str "move")) (waCons (wK (.int 1)) waNil))) waNil)))))))))))))))))))
    (wSeq (wAsg 1 (wOp false oAdd (wV 1) (wLst false (waCons (wTup (waCons (wK (.str "turn")) (waCons (wK (.int 2)) (waCons (wK (.int 0)) (waCons (wK (.int 0)) (waCons (wK (.int 1)) waNil)))))) (waCons (wTup (waCons (wK (.str "undo")) waNil)) (waCons (wLst false (waCons (wTup (waCons (wK (.str "x")) (waCons (wK (.int 0)) waNil))) waNil)) (waCons (wDisp1 false (wK (.str "a")) (wK (.int 1))) (waCons (wDispT false [Sum.inl 0, Sum.inl 0] (wK (.int 1))) (waCons (wTup (waCons (wK (.int 0)) (waCons (wK (.int 1)) waNil))) (waCons (wTup (waCons (wK (.int 1)) (waCons (wK (.bool true)) waNil))) (waCons (wMake false "Rule" wp_Rule___init__ [] (waCons (wLst false (waCons (wK (.int 1)) waNil)) waNil)) waNil)))))))))))
    (wRet (wCall wp_law_pick [] (waCons (wV 0) (waCons (wV 1) waNil)))))))
def oddL : List D := [.none, .bool true, .bool false, .int 0, .int 1, .int (-1), .int 5, .int (10 ^ (60 : Int).toNat), .str "", .str "x", .str "turn", .tup [], .list [], .dk [] [], .tup [.str "x"], .tup [.str "x", .int 1], .tup [.str "move", .int 1],
  .tup [.str "turn", .int 2, .int 0, .int 0, .int 1], .tup [.str "undo"], .list [.tup [.str "x", .int 0]], .dk [Sum.inr "a"] [.int 1], .dt [[Sum.inl 0, Sum.inl 0]] [.int 1], .tup [.int 0, .int 1], .tup [.int 1, .bool true], ruleD [1]]
section
variable {μ : Mu} {Q X : QD} {d : D} {B : Nat}
theorem pow1060 : CPowW 10 60 := ⟨by decide, by decide +kernel⟩
theorem ok_law_odd (q : ∀ x ∈ oddL, Q x μ) : wp_law_odd [.state] μ Q X := by
  unfold wp_law_odd
  simp only [u_wDef, initE, u_wSeq, u_wNext, u_wAsg, u_wAsgG, u_wDrop, u_wRet, u_wRetN, u_wIfS, u_wPar, u_wAug, u_wSetL, u_wBreak, u_wCont, u_wgN, u_wgNil, u_wgCons, u_wgTup, u_wiSeq, u_wiRng1, u_wiRng2, u_wiEnum, u_wFor, u_wLc, u_wYes, u_wV, u_wK, u_wOp, u_wUn, u_wTup, u_wLst, u_wCb, u_wTst, u_wNotT, u_wAndT, u_wOrT, u_wIf, u_wAnd, u_wOr, u_wNot, u_waNil, u_waCons, u_waStar, u_wCall, u_wMeth, u_wProp, u_wFld, u_wSetF, u_wMake, u_wCallI, u_wRev, u_wSl, u_woNone, u_woSome, u_wLm, u_wRz, u_wRzA, u_wFz, u_wCaught, u_wErrF, u_wDict0, u_wLrng, gt, st, u_sett_v, u_sett_f, u_sett_t, u_one, u_two, u_int1, atI0, atI1, atI2, atI3, atI4, ixN20, ixN21, List.map_cons, List.map_nil, List.cons_append, List.nil_append, List.append_nil, List.length_cons, List.length_nil, List.replicate_succ, List.replicate_zero, Nat.add_one_sub_one, u_waPerm, u_wChain, u_wDisp1, u_wDispT, u_wDefD, u_oAdd_i, u_oAdd_s, u_oAdd_t, u_oAdd_l, u_oSub, u_oMul_i, u_oMul_l, u_oFdiv, u_oMod, u_oPow, u_oLt, u_oLe, u_oGt, u_oGe, u_oNeg, u_oEq_i, u_oEq_s, u_oNe_i, u_oNe_s, u_oIsN, u_oNotN, u_oIx_l, u_oIx_t, u_oIn, u_oInL, u_oSl_t, u_oSl_l, u_len_l, u_len_t, u_min2, u_max2, u_abs, u_list_l, u_list_t, u_tup_l, u_tup_t, u_isB, u_notB, u_sqD_l, u_sqD_t, u_sqD_s, u_seqL_l, u_frz_l, u_frz_k, u_frz_t, u_frz_o]
  refine ⟨trivial, pow1060, by decide, by decide, by decide, by decide, by decide, by decide, by decide, by decide, by decide, by decide, by decide, by decide, by decide, ?_⟩
  intro p hp
  refine mkRule (ns := [1]) rfl (fun _ z => by cases z) (by decide) ⟨by decide, by decide, ?_⟩ p hp
  exact ok_pick rfl (fun z => by cases z) (by simp) fun x hx => q x hx
/-- a value that is no step, of a known kind -/
structure NoStep (d : D) : Prop where
  good : Good d
  no : stepB d = false
theorem good_flat {d : D} {t : TyD} (h : tyF d = some t) (hn : ∀ ds, d ≠ .tup ds) : Good d := ⟨⟨t, h⟩, fun ds e => absurd e (hn ds), fun ds e => absurd e (hn ds)⟩
def goodI (d : D) : Bool := (tyF d).isSome && (match d with
  | .int i => decide (i.natAbs ≤ 10 ^ 70)
  | _ => true)
def goodB (d : D) : Bool := (tyF d).isSome && (match d with
  | .tup ds => decide (ds.length ≤ 1000) && ds.all goodI
  | _ => true)
theorem good_of {d : D} (h : goodB d = true) : Good d := by
  unfold goodB at h
  rw [Bool.and_eq_true] at h
  refine ⟨Option.isSome_iff_exists.mp h.1, fun ds e => ?_, fun ds e x hx => ?_⟩
  · subst e
    have h2 := h.2
    simp only [Bool.and_eq_true, decide_eq_true_eq] at h2
    exact h2.1
  · subst e
    have h2 := h.2
    simp only [Bool.and_eq_true, decide_eq_true_eq] at h2
    have h3 := List.all_eq_true.mp h2.2 x hx
    unfold goodI at h3
    rw [Bool.and_eq_true] at h3
    refine ⟨Option.isSome_iff_exists.mp h3.1, fun i z => ?_⟩
    subst z
    exact of_decide_eq_true h3.2
theorem odd_no : ∀ x ∈ oddL, NoStep x := by
  intro x hx
  simp only [oddL, List.mem_cons, List.not_mem_nil, or_false] at hx
  rcases hx with rfl | rfl | rfl | rfl | rfl | rfl | rfl | rfl | rfl | rfl | rfl | rfl | rfl | rfl | rfl | rfl | rfl | rfl | rfl | rfl | rfl | rfl | rfl | rfl | rfl
  all_goals exact ⟨good_of (by decide +kernel), by decide +kernel⟩
def wp_law_padded : WP := (wDef 2 2 (wRet (wIf (wTst (wCall wp_law_is_low [] (waCons (wV 1) waNil))) (wTup (waCons (wOp false oIx (wV 1) (wK (.int 0))) (waCons (wMake false "Rule" wp_Rule___init__ [] (waCons (wOp false oAdd (wCb false cbList (waCons (wOp false oIx (wV 1) (wK (.int 1))) waNil)) (wOp false oMul (wLst false (waCons (wK (.int 0)) waNil)) (wCall wp_law_take [] (waCons (wV 0) (waCons (wK (.int 3)) waNil))))) waNil)) waNil))) (wV 1))))
theorem ok_padded {s : Stp} (h : s.Ok B) (q : Q s.p μ) : wp_law_padded [.state, s.b] μ Q X := by
  unfold wp_law_padded
  simp only [u_wDef, initE, u_wSeq, u_wNext, u_wAsg, u_wAsgG, u_wDrop, u_wRet, u_wRetN, u_wIfS, u_wPar, u_wAug, u_wSetL, u_wBreak, u_wCont, u_wgN, u_wgNil, u_wgCons, u_wgTup, u_wiSeq, u_wiRng1, u_wiRng2, u_wiEnum, u_wFor, u_wLc, u_wYes, u_wV, u_wK, u_wOp, u_wUn, u_wTup, u_wLst, u_wCb, u_wTst, u_wNotT, u_wAndT, u_wOrT, u_wIf, u_wAnd, u_wOr, u_wNot, u_waNil, u_waCons, u_waStar, u_wCall, u_wMeth, u_wProp, u_wFld, u_wSetF, u_wMake, u_wCallI, u_wRev, u_wSl, u_woNone, u_woSome, u_wLm, u_wRz, u_wRzA, u_wFz, u_wCaught, u_wErrF, u_wDict0, u_wLrng, gt, st, u_sett_v, u_sett_f, u_sett_t, u_one, u_two, u_int1, atI0, atI1, atI2, atI3, atI4, ixN20, ixN21, List.map_cons, List.map_nil, List.cons_append, List.nil_append, List.append_nil, List.length_cons, List.length_nil, List.replicate_succ, List.replicate_zero, Nat.add_one_sub_one, u_waPerm, u_wChain, u_wDisp1, u_wDispT, u_wDefD, u_oAdd_i, u_oAdd_s, u_oAdd_t, u_oAdd_l, u_oSub, u_oMul_i, u_oMul_l, u_oFdiv, u_oMod, u_oPow, u_oLt, u_oLe, u_oGt, u_oGe, u_oNeg, u_oEq_i, u_oEq_s, u_oNe_i, u_oNe_s, u_oIsN, u_oNotN, u_oIx_l, u_oIx_t, u_oIn, u_oInL, u_oSl_t, u_oSl_l, u_len_l, u_len_t, u_min2, u_max2, u_abs, u_list_l, u_list_t, u_tup_l, u_tup_t, u_isB, u_notB, u_sqD_l, u_sqD_t, u_sqD_s, u_seqL_l, u_frz_l, u_frz_k, u_frz_t, u_frz_o]
  refine ⟨trivial, ok_is_low ?_⟩
  have low : ∀ ns : List Int, M.trim ns = ns → ns.length ≤ 7 → ∀ R : QD, R (ruleD ns) μ → 0 + 1 ≤ sizeLine ∧ wp_law_take [.state, .int 3] μ (fun y μ2 => oMul (.list [.int 0]) y μ2 (sett false fun y μ2 => oAdd (.list (iL ns)) y μ2 (sett false fun x μ1 => ∀ p, μ1 p = Option.none → wp_Rule___init__ [.cell p, x] (up μ1 p (.obj "Rule" [] [])) (mkQ false R p) X) X) X) X := fun ns h1 h2 R r => by
    refine ⟨by decide, ok_take (by decide) (by decide) fun i g1 g2 => ?_⟩
    obtain ⟨j, rfl⟩ := Int.eq_ofNat_of_zero_le g1
    simp only [u_wDef, initE, u_wSeq, u_wNext, u_wAsg, u_wAsgG, u_wDrop, u_wRet, u_wRetN, u_wIfS, u_wPar, u_wAug, u_wSetL, u_wBreak, u_wCont, u_wgN, u_wgNil, u_wgCons, u_wgTup, u_wiSeq, u_wiRng1, u_wiRng2, u_wiEnum, u_wFor, u_wLc, u_wYes, u_wV, u_wK, u_wOp, u_wUn, u_wTup, u_wLst, u_wCb, u_wTst, u_wNotT, u_wAndT, u_wOrT, u_wIf, u_wAnd, u_wOr, u_wNot, u_waNil, u_waCons, u_waStar, u_wCall, u_wMeth, u_wProp, u_wFld, u_wSetF, u_wMake, u_wCallI, u_wRev, u_wSl, u_woNone, u_woSome, u_wLm, u_wRz, u_wRzA, u_wFz, u_wCaught, u_wErrF, u_wDict0, u_wLrng, gt, st, u_sett_v, u_sett_f, u_sett_t, u_one, u_two, u_int1, atI0, atI1, atI2, atI3, atI4, ixN20, ixN21, List.map_cons, List.map_nil, List.cons_append, List.nil_append, List.append_nil, List.length_cons, List.length_nil, List.replicate_succ, List.replicate_zero, Nat.add_one_sub_one, u_waPerm, u_wChain, u_wDisp1, u_wDispT, u_wDefD, u_oAdd_i, u_oAdd_s, u_oAdd_t, u_oAdd_l, u_oSub, u_oMul_i, u_oMul_l, u_oFdiv, u_oMod, u_oPow, u_oLt, u_oLe, u_oGt, u_oGe, u_oNeg, u_oEq_i, u_oEq_s, u_oNe_i, u_oNe_s, u_oIsN, u_oNotN, u_oIx_l, u_oIx_t, u_oIn, u_oInL, u_oSl_t, u_oSl_l, u_len_l, u_len_t, u_min2, u_max2, u_abs, u_list_l, u_list_t, u_tup_l, u_tup_t, u_isB, u_notB, u_sqD_l, u_sqD_t, u_sqD_s, u_seqL_l, u_frz_l, u_frz_k, u_frz_t, u_frz_o, zeros_iL, iL_app, iL_len, List.length_replicate]
    refine ⟨by omega, by omega, by rw [sizeLine_eq]; omega, by rw [sizeLine_eq]; omega, fun p hp => ?_⟩
    refine mkRule (ns := ns ++ List.replicate j 0) rfl (fun _ z => by cases z) (by rw [List.length_append, List.length_replicate]; omega) ?_ p hp
    rw [trim_zeros, h1]
    exact r
  cases s with
  | x ns =>
    simp only [Stp.low, if_true, Stp.b, u_wDef, initE, u_wSeq, u_wNext, u_wAsg, u_wAsgG, u_wDrop, u_wRet, u_wRetN, u_wIfS, u_wPar, u_wAug, u_wSetL, u_wBreak, u_wCont, u_wgN, u_wgNil, u_wgCons, u_wgTup, u_wiSeq, u_wiRng1, u_wiRng2, u_wiEnum, u_wFor, u_wLc, u_wYes, u_wV, u_wK, u_wOp, u_wUn, u_wTup, u_wLst, u_wCb, u_wTst, u_wNotT, u_wAndT, u_wOrT, u_wIf, u_wAnd, u_wOr, u_wNot, u_waNil, u_waCons, u_waStar, u_wCall, u_wMeth, u_wProp, u_wFld, u_wSetF, u_wMake, u_wCallI, u_wRev, u_wSl, u_woNone, u_woSome, u_wLm, u_wRz, u_wRzA, u_wFz, u_wCaught, u_wErrF, u_wDict0, u_wLrng, gt, st, u_sett_v, u_sett_f, u_sett_t, u_one, u_two, u_int1, atI0, atI1, atI2, atI3, atI4, ixN20, ixN21, List.map_cons, List.map_nil, List.cons_append, List.nil_append, List.append_nil, List.length_cons, List.length_nil, List.replicate_succ, List.replicate_zero, Nat.add_one_sub_one, u_waPerm, u_wChain, u_wDisp1, u_wDispT, u_wDefD, u_oAdd_i, u_oAdd_s, u_oAdd_t, u_oAdd_l, u_oSub, u_oMul_i, u_oMul_l, u_oFdiv, u_oMod, u_oPow, u_oLt, u_oLe, u_oGt, u_oGe, u_oNeg, u_oEq_i, u_oEq_s, u_oNe_i, u_oNe_s, u_oIsN, u_oNotN, u_oIx_l, u_oIx_t, u_oIn, u_oInL, u_oSl_t, u_oSl_l, u_len_l, u_len_t, u_min2, u_max2, u_abs, u_list_l, u_list_t, u_tup_l, u_tup_t, u_isB, u_notB, u_sqD_l, u_sqD_t, u_sqD_s, u_seqL_l, u_frz_l, u_frz_k, u_frz_t, u_frz_o]
    exact low ns h.1 h.2.1 _ ⟨by simp [sizeLine_eq], q⟩
  | y ns =>
    simp only [Stp.low, if_true, Stp.b, u_wDef, initE, u_wSeq, u_wNext, u_wAsg, u_wAsgG, u_wDrop, u_wRet, u_wRetN, u_wIfS, u_wPar, u_wAug, u_wSetL, u_wBreak, u_wCont, u_wgN, u_wgNil, u_wgCons, u_wgTup, u_wiSeq, u_wiRng1, u_wiRng2, u_wiEnum, u_wFor, u_wLc, u_wYes, u_wV, u_wK, u_wOp, u_wUn, u_wTup, u_wLst, u_wCb, u_wTst, u_wNotT, u_wAndT, u_wOrT, u_wIf, u_wAnd, u_wOr, u_wNot, u_waNil, u_waCons, u_waStar, u_wCall, u_wMeth, u_wProp, u_wFld, u_wSetF, u_wMake, u_wCallI, u_wRev, u_wSl, u_woNone, u_woSome, u_wLm, u_wRz, u_wRzA, u_wFz, u_wCaught, u_wErrF, u_wDict0, u_wLrng, gt, st, u_sett_v, u_sett_f, u_sett_t, u_one, u_two, u_int1, atI0, atI1, atI2, atI3, atI4, ixN20, ixN21, List.map_cons, List.map_nil, List.cons_append, List.nil_append, List.append_nil, List.length_cons, List.length_nil, List.replicate_succ, List.replicate_zero, Nat.add_one_sub_one, u_waPerm, u_wChain, u_wDisp1, u_wDispT, u_wDefD, u_oAdd_i, u_oAdd_s, u_oAdd_t, u_oAdd_l, u_oSub, u_oMul_i, u_oMul_l, u_oFdiv, u_oMod, u_oPow, u_oLt, u_oLe, u_oGt, u_oGe, u_oNeg, u_oEq_i, u_oEq_s, u_oNe_i, u_oNe_s, u_oIsN, u_oNotN, u_oIx_l, u_oIx_t, u_oIn, u_oInL, u_oSl_t, u_oSl_l, u_len_l, u_len_t, u_min2, u_max2, u_abs, u_list_l, u_list_t, u_tup_l, u_tup_t, u_isB, u_notB, u_sqD_l, u_sqD_t, u_sqD_s, u_seqL_l, u_frz_l, u_frz_k, u_frz_t, u_frz_o]
    exact low ns h.1 h.2.1 _ ⟨by simp [sizeLine_eq], q⟩
  | move a b => exact q
  | turn a b c d => exact q
end
end DL

set_option Elab.async false
set_option linter.all false
set_option maxRecDepth 100000
set_option maxHeartbeats 4000000
/-! A19: != of a list and [], of a tuple and (). -/
namespace GQ2
open PySem PySem.SeqAt
open AutoSeq1 (wpAny_loadPart')
open MeetsSeq MeetsSeq2 MeetsSeq3 SeqRoads2
section
variable {prog : Program} {w : World} {A : Around} {R : Result → Shared → Prop}
theorem list_ne0 (l b : Addr) {items items2 : Array Value} {n n2 : Nat} {s : Shared} (hl1 : s.heap.get? l = some { cls := .type "list", data := .seq items n }) (hb1 : s.heap.get? b = some { cls := .type "list", data := .seq items2 n2 })
    (h0 : items2.size = 0) (no : R (.ok (.ret (.bool (items.size != 0)))) s) :
    wpAny (model prog w) A.in1 (Builtin.«list.__ne__» ⟨[.ref l, .ref b], []⟩) (GQ.FinOf prog w A R) (fun e s' => R (.error e) s') s := by
  obtain ⟨hp, g, d, tk, os⟩ := s
  have f3 := AutoSeq1.sub_list_list
  by_cases e : items.size = 0
  · have e1 : items = #[] := Array.eq_empty_of_size_eq_zero e
    have e2 : items2 = #[] := Array.eq_empty_of_size_eq_zero h0
    subst e1 e2
    have hc0 : ¬ ((#[] : Array Value).size != (#[] : Array Value).size) = true := by simp
    wp_walk using wpAny_loadPart' hl1, wpAny_loadPart' hb1
    refine ⟨plainId_quiet plain_eq_loop _, codeAny_builtin entry_eq_loop ?_⟩
    rw [Around.under_plainId plain_eq_loop _]
    wp_walk using wpAny_loadPart' hl1, wpAny_loadPart' hb1
    exact no
  · have hc0 : (items.size != items2.size) = true := by simp [e, h0]
    wp_walk using wpAny_loadPart' hl1, wpAny_loadPart' hb1
    have e2 : (items.size != 0) = true := by simp [e]
    rw [e2] at no
    exact no
theorem tuple_ne0 (l b : Addr) (items items2 : Array Value) (n n2 : Nat) (dd dd2 : Option Addr) (sl sl2 : Array (Option Value)) (h0 : items2.size = 0)
    {s : Shared} (hl1 : s.heap.get? l = some { cls := .type "tuple", dict := dd, data := .seq items n, slots := sl }) (hb1 : s.heap.get? b = some { cls := .type "tuple", dict := dd2, data := .seq items2 n2, slots := sl2 }) (no : R (.ok (.ret (.bool (items.size != 0)))) s) :
    wpAny (model prog w) A.in1 (Builtin.«tuple.__ne__» ⟨[.ref l, .ref b], []⟩) (GQ.FinOf prog w A R) (fun e s' => R (.error e) s') s := by
  have f2 := AutoSeq1.sub_tuple_tuple
  have e2 : items2 = #[] := Array.eq_empty_of_size_eq_zero h0
  subst e2
  obtain ⟨hp, g, d, tk, os⟩ := s
  have hz : items.toList.zip (#[] : Array Value).toList = [] := by simp
  wp_walk using wpAny_loadPart' hl1, wpAny_loadPart' hb1, wpAny_forIn_list _ (fun rest b s' => b.1 = none ∧ rest = [] ∧ s' = ⟨hp, g, d, tk, os⟩) _
  case turn =>
    rintro x rest b s' ⟨_, z, _⟩
    cases z
  case fin =>
    rintro ⟨b1, b2⟩ s' ⟨hb', _, rfl⟩
    simp only at hb'
    subst hb'
    wp_walk
    simpa [Builtin.Tuple.tupleCompareSizes] using no
  case h => exact ⟨rfl, hz, rfl⟩
end
section
variable {prog : Program} {w : World} {A : Around} {E : Value → Shared → Prop} {s : Shared}
theorem rc_list0 {l b : Addr} {items items2 : Array Value} {n n2 : Nat} {Q : Value → Shared → Prop} (hu : A.units < cLine) (hl1 : s.heap.get? l = some { cls := .type "list", data := .seq items n }) (hb1 : s.heap.get? b = some { cls := .type "list", data := .seq items2 n2 })
    (h0 : items2.size = 0) (q : Q (.bool (items.size != 0)) s) : wpAny (model prog w) A (richCompare .NotEq (.ref l) (.ref b)) Q E s := by
  refine wpAny_richCompare_same_room (op := .NotEq) ⟨_, hl1, rfl⟩ ⟨_, hb1, rfl⟩ F.slot_list_ne (GQ.call_here F.slot_list_ne ⟨_, hl1, rfl⟩ F.entry_list_ne (F.args_list_ne_2 _ _) ?_) hu
  exact list_ne0 (R := wants (fun v s' => v ≠ .notImplemented ∧ Q v s') E) l b hl1 hb1 h0 ⟨(fun x => nomatch x), q⟩
theorem rc_tup0 {l b : Addr} {items items2 : Array Value} {Q : Value → Shared → Prop} (hu : A.units < cLine) (hl : s.heap.IsTuple l items) (hb : s.heap.IsTuple b items2)
    (h0 : items2.size = 0) (q : Q (.bool (items.size != 0)) s) : wpAny (model prog w) A (richCompare .NotEq (.ref l) (.ref b)) Q E s := by
  obtain ⟨⟨cls, dd, data, sl⟩, ho, hc, n, hd⟩ := id hl
  obtain ⟨⟨cls2, dd2, data2, sl2⟩, ho2, hc2, n2, hd2⟩ := id hb
  simp only at hc hd hc2 hd2
  subst hc hd hc2 hd2
  refine wpAny_richCompare_same_room (op := .NotEq) ⟨_, ho, rfl⟩ ⟨_, ho2, rfl⟩ F.slot_tuple_ne (GQ.call_here F.slot_tuple_ne ⟨_, ho, rfl⟩ F.entry_tuple_ne (F.args_tuple_ne_2 _ _) ?_) hu
  exact tuple_ne0 (R := wants (fun v s' => v ≠ .notImplemented ∧ Q v s') E) l b items items2 n n2 dd dd2 sl sl2 h0 ho ho2 ⟨(fun x => nomatch x), q⟩
end
end GQ2
namespace DL
open PySem PyProof.Rows L2
/-- x != [], x != () -/
def oNe0 : WOp := fun x y μ Q _ => match x with
  | .tup ds => (match y with
    | .tup [] => Q (.v (.bool (!ds.isEmpty))) μ
    | _ => False)
  | x => (match seqL μ x, y with
    | some ds, .list [] => Q (.v (.bool (!ds.isEmpty))) μ
    | _, _ => False)
theorem u_oNe0_l (ds : List D) (μ : Mu) (Q : QR) (X : QD) : oNe0 (.list ds) (.list []) μ Q X = Q (.v (.bool (!ds.isEmpty))) μ := propext Iff.rfl
theorem u_oNe0_t (ds : List D) (μ : Mu) (Q : QR) (X : QD) : oNe0 (.tup ds) (.tup []) μ Q X = Q (.v (.bool (!ds.isEmpty))) μ := propext Iff.rfl
theorem ne0_len {α β : Type} {ds : List α} {its : List β} (h : ds.length = its.length) : (its.toArray.size != 0) = !ds.isEmpty := by
  rw [List.size_toArray, ← h]
  cases ds <;> simp
section
variable {X : Cx} {c : Ctx} {W : WX}
theorem w_ne0 (hu : X.A.units < cLine) (hK : X.K = c.K := by rfl) : Op2 X c W 0 (compareOp .NotEq) oNe0 := by
  intro pins sh σ H x y v u Q J rx ry h
  obtain ⟨S, F, m, I, μ, dx, dy, Qd, Xd, hl, w, ra, rb, h, q, x⟩ := h
  show wpAny (model X.prog X.w) X.A (richCompare .NotEq v u) (EP X pins σ Q) X.xe sh
  have lst : ∀ ds, seqL μ dx = some ds → dy = .list [] → Qd (.v (.bool (!ds.isEmpty))) μ → wpAny (model X.prog X.w) X.A (richCompare .NotEq v u) (EP X pins σ Q) X.xe sh := fun ds e1 e2 hq => by
    subst e2
    obtain ⟨l, xs, rfl, h1, r1⟩ := seqL_rep w ra e1
    cases rb with
    | list g2 r2 =>
      cases rx
      cases ry
      obtain ⟨its, n, r3, e3, _⟩ := J.lst h1
      obtain ⟨its2, n2, r4, e4, _⟩ := J.lst (w.lst g2)
      cases r2
      cases r4
      refine GQ2.rc_list0 hu e3 e4 rfl ?_
      rw [ne0_len (r1.length.trans r3.length)]
      exact ⟨.bl _, H, J, rfl, q _ μ _ I H hq (Same.refl I) w .bool⟩
  cases dx with
  | tup ds =>
    cases dy with
    | tup es =>
      cases es with
      | nil =>
        cases ra with
        | tup g1 r1 =>
          cases rb with
          | tup g2 r2 =>
            cases rx
            cases ry
            obtain ⟨its, r3, e3, _⟩ := J.tuple (hK ▸ w.tupH g1)
            obtain ⟨its2, r4, e4, _⟩ := J.tuple (hK ▸ w.tupH g2)
            cases r2
            cases r4
            refine GQ2.rc_tup0 hu e3 e4 rfl ?_
            rw [ne0_len (r1.length.trans r3.length)]
            exact ⟨.bl _, H, J, rfl, q _ μ _ I H h (Same.refl I) w .bool⟩
      | cons _ _ => exact h.elim
    | _ => exact h.elim
  | list ds =>
    cases dy with
    | list es =>
      cases es with
      | nil => exact lst ds rfl rfl h
      | cons _ _ => exact h.elim
    | _ => exact h.elim
  | cell p =>
    cases e : seqL μ (.cell p) with
    | none =>
      simp only [oNe0, e] at h
    | some ds =>
      simp only [oNe0, e] at h
      cases dy with
      | list es =>
        cases es with
        | nil => exact lst ds e rfl h
        | cons _ _ => exact h.elim
      | _ => exact h.elim
  | _ => exact h.elim
end
end DL

set_option Elab.async false
set_option linter.all false
set_option maxRecDepth 100000
set_option maxHeartbeats 4000000
/-! K19: the law k19, plainly. -/
namespace DL
open PySem L2
def wp_law_is_number : WP := (wDef 1 1 (wRet (wAnd (wCb false cbIsi (waCons (wV 0) (waCons (wK (.ty "int")) waNil))) (wNot (wCb false cbIsi (waCons (wV 0) (waCons (wK (.ty "bool")) waNil)))))))
def wp_law_is_step : WP := (wDef 1 4 (wSeq (wIfS (wOrT (wNotT (wTst (wCb false cbIsi (waCons (wV 0) (waCons (wK (.ty "tuple")) waNil))))) (wOrT (wTst (wOp false (oEqR "Rule" ["own_numbers"] ruleP) (wV 0) (wTup waNil))) (wNotT (wTst (wCb false cbIsi (waCons (wOp false oIx (wV 0) (wK (.int 0))) (waCons (wK (.ty "str")) waNil))))))) (wRet (wK (.bool false))) wNext)
    (wSeq (wPar 1 2 (waCons (wOp false oIx (wV 0) (wK (.int 0))) (waCons (wCb false cbList (waCons (wSl false oSl (wV 0) (woSome (wK (.int 1))) woNone) waNil)) waNil)))
    (wSeq (wIfS (wTst (wOp false (oIn false) (wV 1) (wTup (waCons (wK (.str "x")) (waCons (wK (.str "y")) waNil))))) (wRet (wAnd (wOp false oEq (wCb false cbLen (waCons (wV 2) waNil)) (wK (.int 1))) (wCb false cbIsi (waCons (wOp false oIx (wV 2) (wK (.int 0))) (waCons (wK (.cls "Rule")) waNil))))) wNext)
    (wSeq (wIfS (wTst (wOp false oNe0 (wLc false (wiSeq (wV 2)) (wgN 3) (wNotT (wTst (wCall wp_law_is_number [] (waCons (wV 3) waNil)))) (wV 3) [3]) (wLst false waNil))) (wRet (wK (.bool false))) wNext)
    (wSeq (wIfS (wTst (wOp false oEq (wV 1) (wK (.str "move")))) (wRet (wOp false oEq (wCb false cbLen (waCons (wV 2) waNil)) (wK (.int 2)))) wNext)
    (wSeq (wIfS (wOrT (wTst (wOp false oNe (wV 1) (wK (.str "turn")))) (wTst (wOp false oNe (wCb false cbLen (waCons (wV 2) waNil)) (wK (.int 4))))) (wRet (wK (.bool false))) wNext)
    (wRet (wOp false (oIn false) (wOp false oSub (wOp false oMul (wOp false oIx (wV 2) (wK (.int 0))) (wOp false oIx (wV 2) (wK (.int 3)))) (wOp false oMul (wOp false oIx (wV 2) (wK (.int 1))) (wOp false oIx (wV 2) (wK (.int 2))))) (wTup (waCons (wK (.int 1)) (waCons (wUn false oNeg (wK (.int 1))) waNil))))))))))))
def wp_law_bent : WP := (wDef 2 6 (wSeq (wIfS (wOrT (wNotT (wTst (wCb false cbIsi (waCons (wV 1) (waCons (wK (.ty "tuple")) waNil))))) (wOrT (wTst (wOp false (oEqR "Rule" ["own_numbers"] ruleP) (wV 1) (wTup waNil))) (wTst (wOp false oEq (wCall wp_law_take [] (waCons (wV 0) (waCons (wK (.int 9)) waNil))) (wK (.int 0)))))) (wRet (wCall wp_law_odd [] (waCons (wV 0) waNil))) wNext)
    (wSeq (wPar 2 3 (waCons (wCb true cbList (waCons (wV 1) waNil)) (waCons (wCall wp_law_take [] (waCons (wV 0) (waCons (wK (.int 9)) waNil))) waNil)))
    (wSeq (wAsg 4 (wCall wp_law_take [] (waCons (wV 0) (waCons (wCb false cbLen (waCons (wV 2) waNil)) waNil))))
    (wSeq (wIfS (wTst (wOp false oEq (wV 3) (wK (.int 0)))) (wDrop (wLm false mPopAt (wV 2) (waCons (wV 4) waNil))) (wIfS (wTst (wOp false oEq (wV 3) (wK (.int 1)))) (wDrop (wLm false mIns (wV 2) (waCons (wV 4) (waCons (wCall wp_law_pick [] (waCons (wV 0) (waCons (wLst false (waCons (wK (.int 0)) (waCons (wK (.int 1)) (waCons (wMake false "Rule" wp_Rule___init__ [] (waCons (wLst false (waCons (wK (.int 0)) (waCons (wK (.int 1)) waNil))) waNil)) (waCons (wK .none) waNil))))) waNil))) waNil)))) (wIfS (wTst (wOp false oEq (wV 3) (wK (.int 2)))) (wFz 2 (wRet (wV 2))) (wIfS (wTst (wOp false oEq (wV 3) (wK (.int 3)))) (wSetL (wCall wp_law_pick [] (waCons (wV 0) (waCons (wLst false (waCons (wK (.str "x")) (waCons (wK (.str "y")) (waCons (wK (.str "turn")) (waCons (wK (.str "move")) (waCons (wK (.str "X")) (waCons (wK (.str "")) (waCons (wK (.str "z")) (waCons (wK .none) (waCons (wK (.int 5)) (waCons (wTup (waCons (wK (.str "x")) waNil)) waNil))))))))))) waNil))) (wV 2) (wK (.int 0))) (wIfS (wAndT (wTst (wCall wp_law_is_number [] (waCons (wOp false oIx (wV 2) (wV 4)) waNil))) (wTst (wOp false oLt (wV 3) (wK (.int 8))))) (wSeq (wAsg 5 (wOp false oIx (wV 2) (wV 4)))
    (wSetL (wCall wp_law_pick [] (waCons (wV 0) (waCons (wLst false (waCons (wOp false oAdd (wV 5) (wK (.int 1))) (waCons (wOp false oSub (wV 5) (wK (.int 1))) (waCons (wOp false oSub (wK (.int 0)) (wV 5)) (waCons (wOp false oMul (wK (.int 2)) (wV 5)) (waCons (wK (.bool true)) (waCons (wK .none) (waCons (wCb false cbStr (waCons (wV 5) waNil)) waNil)))))))) waNil))) (wV 2) (wV 4))) (wSetL (wCall wp_law_odd [] (waCons (wV 0) waNil)) (wV 2) (wV 4)))))))
    (wFz 2 (wRet (wCb false cbTup (waCons (wV 2) waNil)))))))))
section
variable {μ : Mu} {Q X : QD} {d : D} {B : Nat}
theorem ok_law_is_number {t : TyD} (h : tyD μ d = some t) (q : Q (.bool (numD d)) μ) : wp_law_is_number [d] μ Q X := ok_is_number h q
theorem tup0 {ds : List D} : twoSq (.tup ds) (.tup []) = true ∧ cmpO "Rule" ["own_numbers"] ruleP (.tup ds) (.tup []) = true ∧ eqO (.tup ds) (.tup []) = ds.isEmpty := by
  refine ⟨rfl, ?_, ?_⟩
  · rw [cmpO]
    cases ds <;> rfl
  · rw [eqO]
    cases ds <;> rfl
theorem ok_law_is_step (h : Good d) (hd : dpO d ≤ 8) (q : Q (.bool (stepB d)) μ) : wp_law_is_step [d] μ Q X := by
  obtain ⟨t, ht⟩ := h.ty
  unfold wp_law_is_step
  simp only [u_wDef, initE, u_wSeq, u_wNext, u_wAsg, u_wAsgG, u_wDrop, u_wRet, u_wRetN, u_wIfS, u_wPar, u_wAug, u_wSetL, u_wBreak, u_wCont, u_wgN, u_wgNil, u_wgCons, u_wgTup, u_wiSeq, u_wiRng1, u_wiRng2, u_wiEnum, u_wFor, u_wLc, u_wYes, u_wV, u_wK, u_wOp, u_wUn, u_wTup, u_wLst, u_wCb, u_wTst, u_wNotT, u_wAndT, u_wOrT, u_wIf, u_wAnd, u_wOr, u_wNot, u_waNil, u_waCons, u_waStar, u_wCall, u_wMeth, u_wProp, u_wFld, u_wSetF, u_wMake, u_wCallI, u_wRev, u_wSl, u_woNone, u_woSome, u_wLm, u_wRz, u_wRzA, u_wFz, u_wCaught, u_wErrF, u_wDict0, u_wLrng, gt, st, u_sett_v, u_sett_f, u_sett_t, u_one, u_two, u_int1, atI0, atI1, atI2, atI3, atI4, ixN20, ixN21, List.map_cons, List.map_nil, List.cons_append, List.nil_append, List.append_nil, List.length_cons, List.length_nil, List.replicate_succ, List.replicate_zero, Nat.add_one_sub_one, u_waPerm, u_wChain, u_wDisp1, u_wDispT, u_wDefD, u_oAdd_i, u_oAdd_s, u_oAdd_t, u_oAdd_l, u_oSub, u_oMul_i, u_oMul_l, u_oFdiv, u_oMod, u_oPow, u_oLt, u_oLe, u_oGt, u_oGe, u_oNeg, u_oEq_i, u_oEq_s, u_oNe_i, u_oNe_s, u_oIsN, u_oNotN, u_oIx_l, u_oIx_t, u_oIn, u_oInL, u_oSl_t, u_oSl_l, u_len_l, u_len_t, u_min2, u_max2, u_abs, u_list_l, u_list_t, u_tup_l, u_tup_t, u_isB, u_notB, u_sqD_l, u_sqD_t, u_sqD_s, u_seqL_l, u_frz_l, u_frz_k, u_frz_t, u_frz_o, u_oNe0_l, u_oNe0_t, decide_true, decide_false, Bool.not_true, Bool.not_false, Bool.false_eq_true, if_true, if_false, true_and, cbIsi, two, tyF_tyD ht μ, isi_tuple ht]
  cases d with
  | tup ds =>
    simp only [u_wDef, initE, u_wSeq, u_wNext, u_wAsg, u_wAsgG, u_wDrop, u_wRet, u_wRetN, u_wIfS, u_wPar, u_wAug, u_wSetL, u_wBreak, u_wCont, u_wgN, u_wgNil, u_wgCons, u_wgTup, u_wiSeq, u_wiRng1, u_wiRng2, u_wiEnum, u_wFor, u_wLc, u_wYes, u_wV, u_wK, u_wOp, u_wUn, u_wTup, u_wLst, u_wCb, u_wTst, u_wNotT, u_wAndT, u_wOrT, u_wIf, u_wAnd, u_wOr, u_wNot, u_waNil, u_waCons, u_waStar, u_wCall, u_wMeth, u_wProp, u_wFld, u_wSetF, u_wMake, u_wCallI, u_wRev, u_wSl, u_woNone, u_woSome, u_wLm, u_wRz, u_wRzA, u_wFz, u_wCaught, u_wErrF, u_wDict0, u_wLrng, gt, st, u_sett_v, u_sett_f, u_sett_t, u_one, u_two, u_int1, atI0, atI1, atI2, atI3, atI4, ixN20, ixN21, List.map_cons, List.map_nil, List.cons_append, List.nil_append, List.append_nil, List.length_cons, List.length_nil, List.replicate_succ, List.replicate_zero, Nat.add_one_sub_one, u_waPerm, u_wChain, u_wDisp1, u_wDispT, u_wDefD, u_oAdd_i, u_oAdd_s, u_oAdd_t, u_oAdd_l, u_oSub, u_oMul_i, u_oMul_l, u_oFdiv, u_oMod, u_oPow, u_oLt, u_oLe, u_oGt, u_oGe, u_oNeg, u_oEq_i, u_oEq_s, u_oNe_i, u_oNe_s, u_oIsN, u_oNotN, u_oIx_l, u_oIx_t, u_oIn, u_oInL, u_oSl_t, u_oSl_l, u_len_l, u_len_t, u_min2, u_max2, u_abs, u_list_l, u_list_t, u_tup_l, u_tup_t, u_isB, u_notB, u_sqD_l, u_sqD_t, u_sqD_s, u_seqL_l, u_frz_l, u_frz_k, u_frz_t, u_frz_o, u_oNe0_l, u_oNe0_t, decide_true, decide_false, Bool.not_true, Bool.not_false, Bool.false_eq_true, if_true, if_false, true_and, oEqR, tup0, hd]
    refine ⟨Nat.zero_le _, ?_⟩
    cases ds with
    | nil => exact q
    | cons x rest =>
      obtain ⟨⟨tx, hx⟩, _⟩ := h.items _ rfl x List.mem_cons_self
      simp only [u_wDef, initE, u_wSeq, u_wNext, u_wAsg, u_wAsgG, u_wDrop, u_wRet, u_wRetN, u_wIfS, u_wPar, u_wAug, u_wSetL, u_wBreak, u_wCont, u_wgN, u_wgNil, u_wgCons, u_wgTup, u_wiSeq, u_wiRng1, u_wiRng2, u_wiEnum, u_wFor, u_wLc, u_wYes, u_wV, u_wK, u_wOp, u_wUn, u_wTup, u_wLst, u_wCb, u_wTst, u_wNotT, u_wAndT, u_wOrT, u_wIf, u_wAnd, u_wOr, u_wNot, u_waNil, u_waCons, u_waStar, u_wCall, u_wMeth, u_wProp, u_wFld, u_wSetF, u_wMake, u_wCallI, u_wRev, u_wSl, u_woNone, u_woSome, u_wLm, u_wRz, u_wRzA, u_wFz, u_wCaught, u_wErrF, u_wDict0, u_wLrng, gt, st, u_sett_v, u_sett_f, u_sett_t, u_one, u_two, u_int1, atI0, atI1, atI2, atI3, atI4, ixN20, ixN21, List.map_cons, List.map_nil, List.cons_append, List.nil_append, List.append_nil, List.length_cons, List.length_nil, List.replicate_succ, List.replicate_zero, Nat.add_one_sub_one, u_waPerm, u_wChain, u_wDisp1, u_wDispT, u_wDefD, u_oAdd_i, u_oAdd_s, u_oAdd_t, u_oAdd_l, u_oSub, u_oMul_i, u_oMul_l, u_oFdiv, u_oMod, u_oPow, u_oLt, u_oLe, u_oGt, u_oGe, u_oNeg, u_oEq_i, u_oEq_s, u_oNe_i, u_oNe_s, u_oIsN, u_oNotN, u_oIx_l, u_oIx_t, u_oIn, u_oInL, u_oSl_t, u_oSl_l, u_len_l, u_len_t, u_min2, u_max2, u_abs, u_list_l, u_list_t, u_tup_l, u_tup_t, u_isB, u_notB, u_sqD_l, u_sqD_t, u_sqD_s, u_seqL_l, u_frz_l, u_frz_k, u_frz_t, u_frz_o, u_oNe0_l, u_oNe0_t, decide_true, decide_false, Bool.not_true, Bool.not_false, Bool.false_eq_true, if_true, if_false, true_and, tyF_tyD hx μ, isi_str hx, List.isEmpty_cons, cut_tail]
      cases x with
      | str w =>
        have hit : ∀ x ∈ rest, (∃ t, tyF x = some t) ∧ ∀ i, x = .int i → i.natAbs ≤ 10 ^ 70 := fun x hx => h.items _ rfl x (List.mem_cons_of_mem _ hx)
        have hlen : rest.length + 1 ≤ 1000 := h.len _ rfl
        simp only [u_wDef, initE, u_wSeq, u_wNext, u_wAsg, u_wAsgG, u_wDrop, u_wRet, u_wRetN, u_wIfS, u_wPar, u_wAug, u_wSetL, u_wBreak, u_wCont, u_wgN, u_wgNil, u_wgCons, u_wgTup, u_wiSeq, u_wiRng1, u_wiRng2, u_wiEnum, u_wFor, u_wLc, u_wYes, u_wV, u_wK, u_wOp, u_wUn, u_wTup, u_wLst, u_wCb, u_wTst, u_wNotT, u_wAndT, u_wOrT, u_wIf, u_wAnd, u_wOr, u_wNot, u_waNil, u_waCons, u_waStar, u_wCall, u_wMeth, u_wProp, u_wFld, u_wSetF, u_wMake, u_wCallI, u_wRev, u_wSl, u_woNone, u_woSome, u_wLm, u_wRz, u_wRzA, u_wFz, u_wCaught, u_wErrF, u_wDict0, u_wLrng, gt, st, u_sett_v, u_sett_f, u_sett_t, u_one, u_two, u_int1, atI0, atI1, atI2, atI3, atI4, ixN20, ixN21, List.map_cons, List.map_nil, List.cons_append, List.nil_append, List.append_nil, List.length_cons, List.length_nil, List.replicate_succ, List.replicate_zero, Nat.add_one_sub_one, u_waPerm, u_wChain, u_wDisp1, u_wDispT, u_wDefD, u_oAdd_i, u_oAdd_s, u_oAdd_t, u_oAdd_l, u_oSub, u_oMul_i, u_oMul_l, u_oFdiv, u_oMod, u_oPow, u_oLt, u_oLe, u_oGt, u_oGe, u_oNeg, u_oEq_i, u_oEq_s, u_oNe_i, u_oNe_s, u_oIsN, u_oNotN, u_oIx_l, u_oIx_t, u_oIn, u_oInL, u_oSl_t, u_oSl_l, u_len_l, u_len_t, u_min2, u_max2, u_abs, u_list_l, u_list_t, u_tup_l, u_tup_t, u_isB, u_notB, u_sqD_l, u_sqD_t, u_sqD_s, u_seqL_l, u_frz_l, u_frz_k, u_frz_t, u_frz_o, u_oNe0_l, u_oNe0_t, decide_true, decide_false, Bool.not_true, Bool.not_false, Bool.false_eq_true, if_true, if_false, true_and]
        refine ⟨by decide, rfl, rfl, ?_⟩
        rw [in_xy]
        by_cases hw : w = "x" ∨ w = "y"
        · rw [if_pos (decide_eq_true hw)]
          have hb : stepB (.tup (.str w :: rest)) = oneRule rest := by rw [stepB, if_pos hw]
          rw [hb] at q
          cases rest with
          | nil =>
            rw [if_neg (by simp)]
            exact q
          | cons r rest2 =>
            cases rest2 with
            | nil =>
              obtain ⟨⟨tr, hr⟩, _⟩ := hit r List.mem_cons_self
              rw [if_pos (by simp)]
              simp only [atI0, tyF_tyD hr μ, isi_rule hr]
              exact q
            | cons r2 rest3 =>
              rw [if_neg (by simp; omega)]
              exact q
        · rw [if_neg (by simpa using hw)]
          have hb : stepB (.tup (.str w :: rest)) = (rest.all numD && (if w = "move" then decide (rest.length = 2) else decide (w = "turn") && detB rest)) := by rw [stepB, if_neg hw]
          rw [hb] at q
          refine ⟨by rw [sizeLine_eq]; omega, lc_inv (fun i acc μ' => μ' = μ ∧ acc.isEmpty = (rest.take i).all numD) ⟨rfl, rfl⟩ ?_ ?_⟩
          · rintro i x acc μ' N hx ⟨rfl, hacc⟩ hN
            obtain ⟨⟨tx, hx2⟩, _⟩ := hit x (List.mem_of_getElem? hx)
            refine ⟨trivial, ?_⟩
            simp only [u_wDef, initE, u_wSeq, u_wNext, u_wAsg, u_wAsgG, u_wDrop, u_wRet, u_wRetN, u_wIfS, u_wPar, u_wAug, u_wSetL, u_wBreak, u_wCont, u_wgN, u_wgNil, u_wgCons, u_wgTup, u_wiSeq, u_wiRng1, u_wiRng2, u_wiEnum, u_wFor, u_wLc, u_wYes, u_wV, u_wK, u_wOp, u_wUn, u_wTup, u_wLst, u_wCb, u_wTst, u_wNotT, u_wAndT, u_wOrT, u_wIf, u_wAnd, u_wOr, u_wNot, u_waNil, u_waCons, u_waStar, u_wCall, u_wMeth, u_wProp, u_wFld, u_wSetF, u_wMake, u_wCallI, u_wRev, u_wSl, u_woNone, u_woSome, u_wLm, u_wRz, u_wRzA, u_wFz, u_wCaught, u_wErrF, u_wDict0, u_wLrng, gt, st, u_sett_v, u_sett_f, u_sett_t, u_one, u_two, u_int1, atI0, atI1, atI2, atI3, atI4, ixN20, ixN21, List.map_cons, List.map_nil, List.cons_append, List.nil_append, List.append_nil, List.length_cons, List.length_nil, List.replicate_succ, List.replicate_zero, Nat.add_one_sub_one, u_waPerm, u_wChain, u_wDisp1, u_wDispT, u_wDefD, u_oAdd_i, u_oAdd_s, u_oAdd_t, u_oAdd_l, u_oSub, u_oMul_i, u_oMul_l, u_oFdiv, u_oMod, u_oPow, u_oLt, u_oLe, u_oGt, u_oGe, u_oNeg, u_oEq_i, u_oEq_s, u_oNe_i, u_oNe_s, u_oIsN, u_oNotN, u_oIx_l, u_oIx_t, u_oIn, u_oInL, u_oSl_t, u_oSl_l, u_len_l, u_len_t, u_min2, u_max2, u_abs, u_list_l, u_list_t, u_tup_l, u_tup_t, u_isB, u_notB, u_sqD_l, u_sqD_t, u_sqD_s, u_seqL_l, u_frz_l, u_frz_k, u_frz_t, u_frz_o, u_oNe0_l, u_oNe0_t, decide_true, decide_false, Bool.not_true, Bool.not_false, Bool.false_eq_true, if_true, if_false, true_and, wipeE]
            refine ok_law_is_number (tyF_tyD hx2 _) ?_
            have e : (rest.take (i + 1)).all numD = ((rest.take i).all numD && numD x) := by
              rw [List.take_succ, hx, List.all_append]
              simp
            cases hn : numD x with
            | true =>
              refine hN _ _ ⟨rfl, ?_⟩
              rw [e, hn, hacc, Bool.and_true]
            | false =>
              refine hN _ _ ⟨rfl, ?_⟩
              rw [e, hn, Bool.and_false]
              cases acc <;> rfl
          · rintro acc μ' ⟨rfl, hacc⟩
            rw [List.take_length] at hacc
            refine ⟨trivial, Nat.zero_le _, ?_⟩
            rw [hacc]
            cases ha : rest.all numD with
            | false =>
              rw [ha] at q
              exact q
            | true =>
              rw [ha] at q
              simp only [Bool.not_true, if_neg Bool.false_ne_true, Bool.true_and] at q ⊢
              by_cases hm : w = "move"
              · rw [if_pos (decide_eq_true hm)]
                rw [if_pos hm] at q
                rw [show decide (((rest.length : Nat) : Int) = 2) = decide (rest.length = 2) by rw [decide_eq_decide]; omega]
                exact q
              · rw [if_neg (by simpa using hm)]
                rw [if_neg hm] at q
                by_cases htn : w = "turn"
                · rw [if_neg (by simp [htn])]
                  rw [decide_eq_true htn, Bool.true_and] at q
                  have hint : ∀ x ∈ rest, ∃ i : Int, x = .int i ∧ i.natAbs ≤ 10 ^ 70 := fun x hx => by
                    obtain ⟨i, rfl⟩ := num_int (List.all_eq_true.mp ha x hx)
                    exact ⟨i, rfl, (hit _ hx).2 i rfl⟩
                  by_cases hl4 : rest.length = 4
                  · rw [if_neg (by simp; omega)]
                    match rest, hl4, hint, q with
                    | [x1, x2, x3, x4], _, hint, q =>
                      obtain ⟨a, rfl, ha'⟩ := hint x1 (by simp)
                      obtain ⟨b, rfl, hb'⟩ := hint x2 (by simp)
                      obtain ⟨c, rfl, hc'⟩ := hint x3 (by simp)
                      obtain ⟨e, rfl, he'⟩ := hint x4 (by simp)
                      simp only [u_wDef, initE, u_wSeq, u_wNext, u_wAsg, u_wAsgG, u_wDrop, u_wRet, u_wRetN, u_wIfS, u_wPar, u_wAug, u_wSetL, u_wBreak, u_wCont, u_wgN, u_wgNil, u_wgCons, u_wgTup, u_wiSeq, u_wiRng1, u_wiRng2, u_wiEnum, u_wFor, u_wLc, u_wYes, u_wV, u_wK, u_wOp, u_wUn, u_wTup, u_wLst, u_wCb, u_wTst, u_wNotT, u_wAndT, u_wOrT, u_wIf, u_wAnd, u_wOr, u_wNot, u_waNil, u_waCons, u_waStar, u_wCall, u_wMeth, u_wProp, u_wFld, u_wSetF, u_wMake, u_wCallI, u_wRev, u_wSl, u_woNone, u_woSome, u_wLm, u_wRz, u_wRzA, u_wFz, u_wCaught, u_wErrF, u_wDict0, u_wLrng, gt, st, u_sett_v, u_sett_f, u_sett_t, u_one, u_two, u_int1, atI0, atI1, atI2, atI3, atI4, ixN20, ixN21, List.map_cons, List.map_nil, List.cons_append, List.nil_append, List.append_nil, List.length_cons, List.length_nil, List.replicate_succ, List.replicate_zero, Nat.add_one_sub_one, u_waPerm, u_wChain, u_wDisp1, u_wDispT, u_wDefD, u_oAdd_i, u_oAdd_s, u_oAdd_t, u_oAdd_l, u_oSub, u_oMul_i, u_oMul_l, u_oFdiv, u_oMod, u_oPow, u_oLt, u_oLe, u_oGt, u_oGe, u_oNeg, u_oEq_i, u_oEq_s, u_oNe_i, u_oNe_s, u_oIsN, u_oNotN, u_oIx_l, u_oIx_t, u_oIn, u_oInL, u_oSl_t, u_oSl_l, u_len_l, u_len_t, u_min2, u_max2, u_abs, u_list_l, u_list_t, u_tup_l, u_tup_t, u_isB, u_notB, u_sqD_l, u_sqD_t, u_sqD_s, u_seqL_l, u_frz_l, u_frz_k, u_frz_t, u_frz_o]
                      refine ⟨mulU_mid ha' he', mulU_mid hb' hc', by decide, rfl, rfl, ?_⟩
                      have ee : inF (.int (a * e - b * c)) [.int 1, .int (-1)] = detB [.int a, .int b, .int c, .int e] := by
                        show ((1 : Int) == a * e - b * c || ((-1 : Int) == a * e - b * c || false)) = (decide (a * e - b * c = 1) || decide (a * e - b * c = -1))
                        rw [Bool.or_false, Bool.eq_iff_iff, Bool.or_eq_true, Bool.or_eq_true, beq_iff_eq, beq_iff_eq, decide_eq_true_iff, decide_eq_true_iff]
                        exact or_congr eq_comm eq_comm
                      rw [ee]
                      exact q
                  · rw [if_pos (by simp; omega)]
                    have e0 : detB rest = false := by
                      unfold detB
                      split
                      · exact absurd rfl hl4
                      · rfl
                    rw [e0] at q
                    exact q
                · rw [if_pos (by simp [htn])]
                  rw [decide_eq_false htn, Bool.false_and] at q
                  exact q
      | _ => exact q
  | _ => exact q
/-- an item of a value -/
structure It (B : Nat) (x : D) : Prop where
  ty : ∃ t, tyF x = some t
  big : ∀ i, x = .int i → i.natAbs ≤ B
  dp : dpO x ≤ 2
structure Gk (B L : Nat) (d : D) : Prop where
  ty : ∃ t, tyF d = some t
  len : ∀ ds, d = .tup ds → ds.length ≤ L
  items : ∀ ds, d = .tup ds → ∀ x ∈ ds, It B x
  dp : dpO d ≤ 3
theorem It.up {B C : Nat} {x : D} (h : It B x) (e : B ≤ C) : It C x := ⟨h.ty, fun i z => Nat.le_trans (h.big i z) e, h.dp⟩
theorem Gk.good {B L : Nat} (h : Gk B L d) (hB : B ≤ 10 ^ 70) (hL : L ≤ 1000) : Good d := ⟨h.ty, fun ds e => Nat.le_trans (h.len ds e) hL, fun ds e x hx => ⟨(h.items ds e x hx).ty, fun i z => Nat.le_trans ((h.items ds e x hx).big i z) hB⟩⟩
theorem dpOs_le {k : Nat} : ∀ {ds : List D}, (∀ x ∈ ds, dpO x ≤ k) → dpOs ds ≤ k
  | [], _ => Nat.zero_le _
  | d :: ds, h => Nat.max_le.mpr ⟨h d List.mem_cons_self, dpOs_le fun x hx => h x (List.mem_cons_of_mem _ hx)⟩
theorem gk_tup {C L : Nat} {ds : List D} (hl : ds.length ≤ L) (h : ∀ x ∈ ds, It C x) : Gk C L (.tup ds) := ⟨⟨_, rfl⟩, fun es e => by cases e; exact hl, fun es e => by cases e; exact h, by
  rw [dpO]
  have := dpOs_le fun x hx => (h x hx).dp
  omega⟩
theorem gk_list {C L : Nat} {ds : List D} (h : ∀ x ∈ ds, It C x) : Gk C L (.list ds) := by
  refine ⟨⟨_, rfl⟩, fun es e => (by cases e), fun es e => (by cases e), ?_⟩
  rw [dpO]
  have := dpOs_le fun x hx => (h x hx).dp
  omega
def itB (B : Nat) (x : D) : Bool := (tyF x).isSome && ((match x with
  | .int i => decide (i.natAbs ≤ B)
  | _ => true) && decide (dpO x ≤ 2))
theorem it_of {C : Nat} {x : D} (h : itB C x = true) : It C x := by
  unfold itB at h
  rw [Bool.and_eq_true, Bool.and_eq_true] at h
  refine ⟨Option.isSome_iff_exists.mp h.1, fun i z => ?_, of_decide_eq_true h.2.2⟩
  subst z
  exact of_decide_eq_true h.2.1
def gkB (B : Nat) (d : D) : Bool := (tyF d).isSome && (decide (dpO d ≤ 3) && (match d with
  | .tup ds => decide (ds.length ≤ 6) && ds.all (itB B)
  | _ => true))
theorem gk_of {C : Nat} {d : D} (h : gkB C d = true) {L : Nat} (hL : 6 ≤ L) : Gk C L d := by
  unfold gkB at h
  rw [Bool.and_eq_true, Bool.and_eq_true] at h
  refine ⟨Option.isSome_iff_exists.mp h.1, fun ds e => ?_, fun ds e x hx => ?_, of_decide_eq_true h.2.1⟩
  · subst e
    have h2 := h.2.2
    simp only [Bool.and_eq_true, decide_eq_true_eq] at h2
    exact Nat.le_trans h2.1 hL
  · subst e
    have h2 := h.2.2
    simp only [Bool.and_eq_true, decide_eq_true_eq] at h2
    exact it_of (List.all_eq_true.mp h2.2 x hx)
theorem Gk.up {B C L : Nat} (h : Gk B L d) (e : B ≤ C) : Gk C L d := ⟨h.ty, h.len, fun ds z x hx => (h.items ds z x hx).up e, h.dp⟩
theorem odd_gk {L : Nat} (hL : 6 ≤ L) : ∀ x ∈ oddL, Gk (10 ^ 60) L x ∧ It (10 ^ 60) x := by
  intro x hx
  simp only [oddL, List.mem_cons, List.not_mem_nil, or_false] at hx
  rcases hx with rfl | rfl | rfl | rfl | rfl | rfl | rfl | rfl | rfl | rfl | rfl | rfl | rfl | rfl | rfl | rfl | rfl | rfl | rfl | rfl | rfl | rfl | rfl | rfl | rfl
  all_goals exact ⟨gk_of (by decide +kernel) hL, it_of (by decide +kernel)⟩
theorem seqIx_nat {n j : Nat} (h : j < n) : seqIndex? (j : Int) n = some j := by
  unfold seqIndex?
  simp
  omega
theorem ixN_nat {n j : Nat} (h : j < n) : ixN n (j : Int) = some j := by
  unfold ixN
  rw [if_pos (by omega), if_pos (by omega), Int.toNat_natCast]
theorem cell_sq' {p : Addr} {ds : List D} (h : μ p = some (.list ds)) : sqD μ (.cell p) = some ds := by simp [sqD, h, ndL]
theorem ok_bent {L : Nat} (hB : 10 ^ 60 ≤ B) (hB2 : B ≤ 10 ^ 65) (hL : 6 ≤ L) (hL2 : L ≤ 500) (h : Gk B L d) (q : ∀ d', Gk (2 * B + 1) (L + 1) d' → Q d' μ) : wp_law_bent [.state, d] μ Q X := by
  obtain ⟨t, ht⟩ := h.ty
  have odd : wp_law_odd [.state] μ Q X := ok_law_odd fun x hx => q x (((odd_gk (by omega) x hx).1).up (by omega))
  unfold wp_law_bent
  simp only [u_wDef, initE, u_wSeq, u_wNext, u_wAsg, u_wAsgG, u_wDrop, u_wRet, u_wRetN, u_wIfS, u_wPar, u_wAug, u_wSetL, u_wBreak, u_wCont, u_wgN, u_wgNil, u_wgCons, u_wgTup, u_wiSeq, u_wiRng1, u_wiRng2, u_wiEnum, u_wFor, u_wLc, u_wYes, u_wV, u_wK, u_wOp, u_wUn, u_wTup, u_wLst, u_wCb, u_wTst, u_wNotT, u_wAndT, u_wOrT, u_wIf, u_wAnd, u_wOr, u_wNot, u_waNil, u_waCons, u_waStar, u_wCall, u_wMeth, u_wProp, u_wFld, u_wSetF, u_wMake, u_wCallI, u_wRev, u_wSl, u_woNone, u_woSome, u_wLm, u_wRz, u_wRzA, u_wFz, u_wCaught, u_wErrF, u_wDict0, u_wLrng, gt, st, u_sett_v, u_sett_f, u_sett_t, u_one, u_two, u_int1, atI0, atI1, atI2, atI3, atI4, ixN20, ixN21, List.map_cons, List.map_nil, List.cons_append, List.nil_append, List.append_nil, List.length_cons, List.length_nil, List.replicate_succ, List.replicate_zero, Nat.add_one_sub_one, u_waPerm, u_wChain, u_wDisp1, u_wDispT, u_wDefD, u_oAdd_i, u_oAdd_s, u_oAdd_t, u_oAdd_l, u_oSub, u_oMul_i, u_oMul_l, u_oFdiv, u_oMod, u_oPow, u_oLt, u_oLe, u_oGt, u_oGe, u_oNeg, u_oEq_i, u_oEq_s, u_oNe_i, u_oNe_s, u_oIsN, u_oNotN, u_oIx_l, u_oIx_t, u_oIn, u_oInL, u_oSl_t, u_oSl_l, u_len_l, u_len_t, u_min2, u_max2, u_abs, u_list_l, u_list_t, u_tup_l, u_tup_t, u_isB, u_notB, u_sqD_l, u_sqD_t, u_sqD_s, u_seqL_l, u_frz_l, u_frz_k, u_frz_t, u_frz_o, u_oNe0_l, u_oNe0_t, decide_true, decide_false, Bool.not_true, Bool.not_false, Bool.false_eq_true, if_true, if_false, true_and, cbIsi, two, tyF_tyD ht μ, isi_tuple ht]
  cases d with
  | tup ds =>
    simp only [u_wDef, initE, u_wSeq, u_wNext, u_wAsg, u_wAsgG, u_wDrop, u_wRet, u_wRetN, u_wIfS, u_wPar, u_wAug, u_wSetL, u_wBreak, u_wCont, u_wgN, u_wgNil, u_wgCons, u_wgTup, u_wiSeq, u_wiRng1, u_wiRng2, u_wiEnum, u_wFor, u_wLc, u_wYes, u_wV, u_wK, u_wOp, u_wUn, u_wTup, u_wLst, u_wCb, u_wTst, u_wNotT, u_wAndT, u_wOrT, u_wIf, u_wAnd, u_wOr, u_wNot, u_waNil, u_waCons, u_waStar, u_wCall, u_wMeth, u_wProp, u_wFld, u_wSetF, u_wMake, u_wCallI, u_wRev, u_wSl, u_woNone, u_woSome, u_wLm, u_wRz, u_wRzA, u_wFz, u_wCaught, u_wErrF, u_wDict0, u_wLrng, gt, st, u_sett_v, u_sett_f, u_sett_t, u_one, u_two, u_int1, atI0, atI1, atI2, atI3, atI4, ixN20, ixN21, List.map_cons, List.map_nil, List.cons_append, List.nil_append, List.append_nil, List.length_cons, List.length_nil, List.replicate_succ, List.replicate_zero, Nat.add_one_sub_one, u_waPerm, u_wChain, u_wDisp1, u_wDispT, u_wDefD, u_oAdd_i, u_oAdd_s, u_oAdd_t, u_oAdd_l, u_oSub, u_oMul_i, u_oMul_l, u_oFdiv, u_oMod, u_oPow, u_oLt, u_oLe, u_oGt, u_oGe, u_oNeg, u_oEq_i, u_oEq_s, u_oNe_i, u_oNe_s, u_oIsN, u_oNotN, u_oIx_l, u_oIx_t, u_oIn, u_oInL, u_oSl_t, u_oSl_l, u_len_l, u_len_t, u_min2, u_max2, u_abs, u_list_l, u_list_t, u_tup_l, u_tup_t, u_isB, u_notB, u_sqD_l, u_sqD_t, u_sqD_s, u_seqL_l, u_frz_l, u_frz_k, u_frz_t, u_frz_o, u_oNe0_l, u_oNe0_t, decide_true, decide_false, Bool.not_true, Bool.not_false, Bool.false_eq_true, if_true, if_false, true_and, oEqR, tup0]
    refine ⟨Nat.zero_le _, by have := h.dp; omega, ?_⟩
    cases ds with
    | nil => exact odd
    | cons x0 rest =>
      have hit := h.items _ rfl
      have hln := h.len _ rfl
      simp only [u_wDef, initE, u_wSeq, u_wNext, u_wAsg, u_wAsgG, u_wDrop, u_wRet, u_wRetN, u_wIfS, u_wPar, u_wAug, u_wSetL, u_wBreak, u_wCont, u_wgN, u_wgNil, u_wgCons, u_wgTup, u_wiSeq, u_wiRng1, u_wiRng2, u_wiEnum, u_wFor, u_wLc, u_wYes, u_wV, u_wK, u_wOp, u_wUn, u_wTup, u_wLst, u_wCb, u_wTst, u_wNotT, u_wAndT, u_wOrT, u_wIf, u_wAnd, u_wOr, u_wNot, u_waNil, u_waCons, u_waStar, u_wCall, u_wMeth, u_wProp, u_wFld, u_wSetF, u_wMake, u_wCallI, u_wRev, u_wSl, u_woNone, u_woSome, u_wLm, u_wRz, u_wRzA, u_wFz, u_wCaught, u_wErrF, u_wDict0, u_wLrng, gt, st, u_sett_v, u_sett_f, u_sett_t, u_one, u_two, u_int1, atI0, atI1, atI2, atI3, atI4, ixN20, ixN21, List.map_cons, List.map_nil, List.cons_append, List.nil_append, List.append_nil, List.length_cons, List.length_nil, List.replicate_succ, List.replicate_zero, Nat.add_one_sub_one, u_waPerm, u_wChain, u_wDisp1, u_wDispT, u_wDefD, u_oAdd_i, u_oAdd_s, u_oAdd_t, u_oAdd_l, u_oSub, u_oMul_i, u_oMul_l, u_oFdiv, u_oMod, u_oPow, u_oLt, u_oLe, u_oGt, u_oGe, u_oNeg, u_oEq_i, u_oEq_s, u_oNe_i, u_oNe_s, u_oIsN, u_oNotN, u_oIx_l, u_oIx_t, u_oIn, u_oInL, u_oSl_t, u_oSl_l, u_len_l, u_len_t, u_min2, u_max2, u_abs, u_list_l, u_list_t, u_tup_l, u_tup_t, u_isB, u_notB, u_sqD_l, u_sqD_t, u_sqD_s, u_seqL_l, u_frz_l, u_frz_k, u_frz_t, u_frz_o, u_oNe0_l, u_oNe0_t, decide_true, decide_false, Bool.not_true, Bool.not_false, Bool.false_eq_true, if_true, if_false, true_and, List.isEmpty_cons]
      refine ok_take (by decide) (by decide) fun c c1 c2 => ?_
      by_cases hc : c = 0
      · simp only [u_wDef, initE, u_wSeq, u_wNext, u_wAsg, u_wAsgG, u_wDrop, u_wRet, u_wRetN, u_wIfS, u_wPar, u_wAug, u_wSetL, u_wBreak, u_wCont, u_wgN, u_wgNil, u_wgCons, u_wgTup, u_wiSeq, u_wiRng1, u_wiRng2, u_wiEnum, u_wFor, u_wLc, u_wYes, u_wV, u_wK, u_wOp, u_wUn, u_wTup, u_wLst, u_wCb, u_wTst, u_wNotT, u_wAndT, u_wOrT, u_wIf, u_wAnd, u_wOr, u_wNot, u_waNil, u_waCons, u_waStar, u_wCall, u_wMeth, u_wProp, u_wFld, u_wSetF, u_wMake, u_wCallI, u_wRev, u_wSl, u_woNone, u_woSome, u_wLm, u_wRz, u_wRzA, u_wFz, u_wCaught, u_wErrF, u_wDict0, u_wLrng, gt, st, u_sett_v, u_sett_f, u_sett_t, u_one, u_two, u_int1, atI0, atI1, atI2, atI3, atI4, ixN20, ixN21, List.map_cons, List.map_nil, List.cons_append, List.nil_append, List.append_nil, List.length_cons, List.length_nil, List.replicate_succ, List.replicate_zero, Nat.add_one_sub_one, u_waPerm, u_wChain, u_wDisp1, u_wDispT, u_wDefD, u_oAdd_i, u_oAdd_s, u_oAdd_t, u_oAdd_l, u_oSub, u_oMul_i, u_oMul_l, u_oFdiv, u_oMod, u_oPow, u_oLt, u_oLe, u_oGt, u_oGe, u_oNeg, u_oEq_i, u_oEq_s, u_oNe_i, u_oNe_s, u_oIsN, u_oNotN, u_oIx_l, u_oIx_t, u_oIn, u_oInL, u_oSl_t, u_oSl_l, u_len_l, u_len_t, u_min2, u_max2, u_abs, u_list_l, u_list_t, u_tup_l, u_tup_t, u_isB, u_notB, u_sqD_l, u_sqD_t, u_sqD_s, u_seqL_l, u_frz_l, u_frz_k, u_frz_t, u_frz_o, u_oNe0_l, u_oNe0_t, decide_true, decide_false, Bool.not_true, Bool.not_false, Bool.false_eq_true, if_true, if_false, true_and, hc]
        exact odd
      simp only [u_wDef, initE, u_wSeq, u_wNext, u_wAsg, u_wAsgG, u_wDrop, u_wRet, u_wRetN, u_wIfS, u_wPar, u_wAug, u_wSetL, u_wBreak, u_wCont, u_wgN, u_wgNil, u_wgCons, u_wgTup, u_wiSeq, u_wiRng1, u_wiRng2, u_wiEnum, u_wFor, u_wLc, u_wYes, u_wV, u_wK, u_wOp, u_wUn, u_wTup, u_wLst, u_wCb, u_wTst, u_wNotT, u_wAndT, u_wOrT, u_wIf, u_wAnd, u_wOr, u_wNot, u_waNil, u_waCons, u_waStar, u_wCall, u_wMeth, u_wProp, u_wFld, u_wSetF, u_wMake, u_wCallI, u_wRev, u_wSl, u_woNone, u_woSome, u_wLm, u_wRz, u_wRzA, u_wFz, u_wCaught, u_wErrF, u_wDict0, u_wLrng, gt, st, u_sett_v, u_sett_f, u_sett_t, u_one, u_two, u_int1, atI0, atI1, atI2, atI3, atI4, ixN20, ixN21, List.map_cons, List.map_nil, List.cons_append, List.nil_append, List.append_nil, List.length_cons, List.length_nil, List.replicate_succ, List.replicate_zero, Nat.add_one_sub_one, u_waPerm, u_wChain, u_wDisp1, u_wDispT, u_wDefD, u_oAdd_i, u_oAdd_s, u_oAdd_t, u_oAdd_l, u_oSub, u_oMul_i, u_oMul_l, u_oFdiv, u_oMod, u_oPow, u_oLt, u_oLe, u_oGt, u_oGe, u_oNeg, u_oEq_i, u_oEq_s, u_oNe_i, u_oNe_s, u_oIsN, u_oNotN, u_oIx_l, u_oIx_t, u_oIn, u_oInL, u_oSl_t, u_oSl_l, u_len_l, u_len_t, u_min2, u_max2, u_abs, u_list_l, u_list_t, u_tup_l, u_tup_t, u_isB, u_notB, u_sqD_l, u_sqD_t, u_sqD_s, u_seqL_l, u_frz_l, u_frz_k, u_frz_t, u_frz_o, u_oNe0_l, u_oNe0_t, decide_true, decide_false, Bool.not_true, Bool.not_false, Bool.false_eq_true, if_true, if_false, true_and, decide_eq_false hc]
      intro p hp
      generalize hds : x0 :: rest = ds at *
      have sq : sqD (up μ p (.list ds)) (.cell p) = some ds := cell_sq' up_same
      have hpos : 0 < ds.length := by rw [← hds]; exact Nat.succ_pos _
      refine ok_take (by decide) (by decide) fun w w1 w2 => ?_
      rw [len_sq sq]
      simp only [u_wDef, initE, u_wSeq, u_wNext, u_wAsg, u_wAsgG, u_wDrop, u_wRet, u_wRetN, u_wIfS, u_wPar, u_wAug, u_wSetL, u_wBreak, u_wCont, u_wgN, u_wgNil, u_wgCons, u_wgTup, u_wiSeq, u_wiRng1, u_wiRng2, u_wiEnum, u_wFor, u_wLc, u_wYes, u_wV, u_wK, u_wOp, u_wUn, u_wTup, u_wLst, u_wCb, u_wTst, u_wNotT, u_wAndT, u_wOrT, u_wIf, u_wAnd, u_wOr, u_wNot, u_waNil, u_waCons, u_waStar, u_wCall, u_wMeth, u_wProp, u_wFld, u_wSetF, u_wMake, u_wCallI, u_wRev, u_wSl, u_woNone, u_woSome, u_wLm, u_wRz, u_wRzA, u_wFz, u_wCaught, u_wErrF, u_wDict0, u_wLrng, gt, st, u_sett_v, u_sett_f, u_sett_t, u_one, u_two, u_int1, atI0, atI1, atI2, atI3, atI4, ixN20, ixN21, List.map_cons, List.map_nil, List.cons_append, List.nil_append, List.append_nil, List.length_cons, List.length_nil, List.replicate_succ, List.replicate_zero, Nat.add_one_sub_one, u_waPerm, u_wChain, u_wDisp1, u_wDispT, u_wDefD, u_oAdd_i, u_oAdd_s, u_oAdd_t, u_oAdd_l, u_oSub, u_oMul_i, u_oMul_l, u_oFdiv, u_oMod, u_oPow, u_oLt, u_oLe, u_oGt, u_oGe, u_oNeg, u_oEq_i, u_oEq_s, u_oNe_i, u_oNe_s, u_oIsN, u_oNotN, u_oIx_l, u_oIx_t, u_oIn, u_oInL, u_oSl_t, u_oSl_l, u_len_l, u_len_t, u_min2, u_max2, u_abs, u_list_l, u_list_t, u_tup_l, u_tup_t, u_isB, u_notB, u_sqD_l, u_sqD_t, u_sqD_s, u_seqL_l, u_frz_l, u_frz_k, u_frz_t, u_frz_o, u_oNe0_l, u_oNe0_t, decide_true, decide_false, Bool.not_true, Bool.not_false, Bool.false_eq_true, if_true, if_false, true_and]
      refine ok_take (by omega) (Nat.lt_of_lt_of_le (by omega : ((ds.length : Nat) : Int).natAbs < 2 ^ 63) (Nat.pow_le_pow_right (by decide) (by decide))) fun k k1 k2 => ?_
      obtain ⟨j, rfl⟩ := Int.eq_ofNat_of_zero_le k1
      have hj : j < ds.length := by omega
      have hitU : ∀ x ∈ ds, It (2 * B + 1) x := fun x hx => (hit x hx).up (by omega)
      have hisl : isL (up μ p (.list ds)) (.cell p) := by simp [isL, seqL, up_same, ndL]
      have setI : ∀ (i : Nat) (y : D), It (2 * B + 1) y → Gk (2 * B + 1) (L + 1) (.tup (ds.set i y)) := fun i y hy => gk_tup (by rw [List.length_set]; omega) fun x hx => by
        rcases List.mem_or_eq_of_mem_set hx with z | z
        · exact hitU x z
        · rw [z]; exact hy
      by_cases h0 : w = 0
      · simp only [u_wDef, initE, u_wSeq, u_wNext, u_wAsg, u_wAsgG, u_wDrop, u_wRet, u_wRetN, u_wIfS, u_wPar, u_wAug, u_wSetL, u_wBreak, u_wCont, u_wgN, u_wgNil, u_wgCons, u_wgTup, u_wiSeq, u_wiRng1, u_wiRng2, u_wiEnum, u_wFor, u_wLc, u_wYes, u_wV, u_wK, u_wOp, u_wUn, u_wTup, u_wLst, u_wCb, u_wTst, u_wNotT, u_wAndT, u_wOrT, u_wIf, u_wAnd, u_wOr, u_wNot, u_waNil, u_waCons, u_waStar, u_wCall, u_wMeth, u_wProp, u_wFld, u_wSetF, u_wMake, u_wCallI, u_wRev, u_wSl, u_woNone, u_woSome, u_wLm, u_wRz, u_wRzA, u_wFz, u_wCaught, u_wErrF, u_wDict0, u_wLrng, gt, st, u_sett_v, u_sett_f, u_sett_t, u_one, u_two, u_int1, atI0, atI1, atI2, atI3, atI4, ixN20, ixN21, List.map_cons, List.map_nil, List.cons_append, List.nil_append, List.append_nil, List.length_cons, List.length_nil, List.replicate_succ, List.replicate_zero, Nat.add_one_sub_one, u_waPerm, u_wChain, u_wDisp1, u_wDispT, u_wDefD, u_oAdd_i, u_oAdd_s, u_oAdd_t, u_oAdd_l, u_oSub, u_oMul_i, u_oMul_l, u_oFdiv, u_oMod, u_oPow, u_oLt, u_oLe, u_oGt, u_oGe, u_oNeg, u_oEq_i, u_oEq_s, u_oNe_i, u_oNe_s, u_oIsN, u_oNotN, u_oIx_l, u_oIx_t, u_oIn, u_oInL, u_oSl_t, u_oSl_l, u_len_l, u_len_t, u_min2, u_max2, u_abs, u_list_l, u_list_t, u_tup_l, u_tup_t, u_isB, u_notB, u_sqD_l, u_sqD_t, u_sqD_s, u_seqL_l, u_frz_l, u_frz_k, u_frz_t, u_frz_o, u_oNe0_l, u_oNe0_t, decide_true, decide_false, Bool.not_true, Bool.not_false, Bool.false_eq_true, if_true, if_false, true_and, h0]
        refine ⟨hisl, ?_⟩
        simp only [mPopAt, lstC, up_same, ndL, u_wDef, initE, u_wSeq, u_wNext, u_wAsg, u_wAsgG, u_wDrop, u_wRet, u_wRetN, u_wIfS, u_wPar, u_wAug, u_wSetL, u_wBreak, u_wCont, u_wgN, u_wgNil, u_wgCons, u_wgTup, u_wiSeq, u_wiRng1, u_wiRng2, u_wiEnum, u_wFor, u_wLc, u_wYes, u_wV, u_wK, u_wOp, u_wUn, u_wTup, u_wLst, u_wCb, u_wTst, u_wNotT, u_wAndT, u_wOrT, u_wIf, u_wAnd, u_wOr, u_wNot, u_waNil, u_waCons, u_waStar, u_wCall, u_wMeth, u_wProp, u_wFld, u_wSetF, u_wMake, u_wCallI, u_wRev, u_wSl, u_woNone, u_woSome, u_wLm, u_wRz, u_wRzA, u_wFz, u_wCaught, u_wErrF, u_wDict0, u_wLrng, gt, st, u_sett_v, u_sett_f, u_sett_t, u_one, u_two, u_int1, atI0, atI1, atI2, atI3, atI4, ixN20, ixN21, List.map_cons, List.map_nil, List.cons_append, List.nil_append, List.append_nil, List.length_cons, List.length_nil, List.replicate_succ, List.replicate_zero, Nat.add_one_sub_one, u_waPerm, u_wChain, u_wDisp1, u_wDispT, u_wDefD, u_oAdd_i, u_oAdd_s, u_oAdd_t, u_oAdd_l, u_oSub, u_oMul_i, u_oMul_l, u_oFdiv, u_oMod, u_oPow, u_oLt, u_oLe, u_oGt, u_oGe, u_oNeg, u_oEq_i, u_oEq_s, u_oNe_i, u_oNe_s, u_oIsN, u_oNotN, u_oIx_l, u_oIx_t, u_oIn, u_oInL, u_oSl_t, u_oSl_l, u_len_l, u_len_t, u_min2, u_max2, u_abs, u_list_l, u_list_t, u_tup_l, u_tup_t, u_isB, u_notB, u_sqD_l, u_sqD_t, u_sqD_s, u_seqL_l, u_frz_l, u_frz_k, u_frz_t, u_frz_o, u_oNe0_l, u_oNe0_t, decide_true, decide_false, Bool.not_true, Bool.not_false, Bool.false_eq_true, if_true, if_false, true_and, seqIx_nat hj, List.getElem?_eq_getElem hj, up_up, del_up hp]
        refine ⟨by omega, by omega, q _ (gk_tup ?_ fun x hx => hitU x (List.mem_of_mem_eraseIdx hx))⟩
        have := List.length_eraseIdx_le ds j
        omega
      simp only [u_wDef, initE, u_wSeq, u_wNext, u_wAsg, u_wAsgG, u_wDrop, u_wRet, u_wRetN, u_wIfS, u_wPar, u_wAug, u_wSetL, u_wBreak, u_wCont, u_wgN, u_wgNil, u_wgCons, u_wgTup, u_wiSeq, u_wiRng1, u_wiRng2, u_wiEnum, u_wFor, u_wLc, u_wYes, u_wV, u_wK, u_wOp, u_wUn, u_wTup, u_wLst, u_wCb, u_wTst, u_wNotT, u_wAndT, u_wOrT, u_wIf, u_wAnd, u_wOr, u_wNot, u_waNil, u_waCons, u_waStar, u_wCall, u_wMeth, u_wProp, u_wFld, u_wSetF, u_wMake, u_wCallI, u_wRev, u_wSl, u_woNone, u_woSome, u_wLm, u_wRz, u_wRzA, u_wFz, u_wCaught, u_wErrF, u_wDict0, u_wLrng, gt, st, u_sett_v, u_sett_f, u_sett_t, u_one, u_two, u_int1, atI0, atI1, atI2, atI3, atI4, ixN20, ixN21, List.map_cons, List.map_nil, List.cons_append, List.nil_append, List.append_nil, List.length_cons, List.length_nil, List.replicate_succ, List.replicate_zero, Nat.add_one_sub_one, u_waPerm, u_wChain, u_wDisp1, u_wDispT, u_wDefD, u_oAdd_i, u_oAdd_s, u_oAdd_t, u_oAdd_l, u_oSub, u_oMul_i, u_oMul_l, u_oFdiv, u_oMod, u_oPow, u_oLt, u_oLe, u_oGt, u_oGe, u_oNeg, u_oEq_i, u_oEq_s, u_oNe_i, u_oNe_s, u_oIsN, u_oNotN, u_oIx_l, u_oIx_t, u_oIn, u_oInL, u_oSl_t, u_oSl_l, u_len_l, u_len_t, u_min2, u_max2, u_abs, u_list_l, u_list_t, u_tup_l, u_tup_t, u_isB, u_notB, u_sqD_l, u_sqD_t, u_sqD_s, u_seqL_l, u_frz_l, u_frz_k, u_frz_t, u_frz_o, u_oNe0_l, u_oNe0_t, decide_true, decide_false, Bool.not_true, Bool.not_false, Bool.false_eq_true, if_true, if_false, true_and, decide_eq_false h0]
      by_cases h1 : w = 1
      · simp only [u_wDef, initE, u_wSeq, u_wNext, u_wAsg, u_wAsgG, u_wDrop, u_wRet, u_wRetN, u_wIfS, u_wPar, u_wAug, u_wSetL, u_wBreak, u_wCont, u_wgN, u_wgNil, u_wgCons, u_wgTup, u_wiSeq, u_wiRng1, u_wiRng2, u_wiEnum, u_wFor, u_wLc, u_wYes, u_wV, u_wK, u_wOp, u_wUn, u_wTup, u_wLst, u_wCb, u_wTst, u_wNotT, u_wAndT, u_wOrT, u_wIf, u_wAnd, u_wOr, u_wNot, u_waNil, u_waCons, u_waStar, u_wCall, u_wMeth, u_wProp, u_wFld, u_wSetF, u_wMake, u_wCallI, u_wRev, u_wSl, u_woNone, u_woSome, u_wLm, u_wRz, u_wRzA, u_wFz, u_wCaught, u_wErrF, u_wDict0, u_wLrng, gt, st, u_sett_v, u_sett_f, u_sett_t, u_one, u_two, u_int1, atI0, atI1, atI2, atI3, atI4, ixN20, ixN21, List.map_cons, List.map_nil, List.cons_append, List.nil_append, List.append_nil, List.length_cons, List.length_nil, List.replicate_succ, List.replicate_zero, Nat.add_one_sub_one, u_waPerm, u_wChain, u_wDisp1, u_wDispT, u_wDefD, u_oAdd_i, u_oAdd_s, u_oAdd_t, u_oAdd_l, u_oSub, u_oMul_i, u_oMul_l, u_oFdiv, u_oMod, u_oPow, u_oLt, u_oLe, u_oGt, u_oGe, u_oNeg, u_oEq_i, u_oEq_s, u_oNe_i, u_oNe_s, u_oIsN, u_oNotN, u_oIx_l, u_oIx_t, u_oIn, u_oInL, u_oSl_t, u_oSl_l, u_len_l, u_len_t, u_min2, u_max2, u_abs, u_list_l, u_list_t, u_tup_l, u_tup_t, u_isB, u_notB, u_sqD_l, u_sqD_t, u_sqD_s, u_seqL_l, u_frz_l, u_frz_k, u_frz_t, u_frz_o, u_oNe0_l, u_oNe0_t, decide_true, decide_false, Bool.not_true, Bool.not_false, Bool.false_eq_true, if_true, if_false, true_and, h1]
        refine ⟨hisl, by decide, fun p2 hp2 => ?_⟩
        refine mkRule (ns := [0, 1]) rfl (fun _ z => by cases z) (by decide) ⟨by simp [sizeLine_eq], ?_⟩ p2 hp2
        refine ok_pick rfl (fun z => by cases z) (by simp) fun y hy => ?_
        have hy2 : It (2 * B + 1) y := by
          have : It (10 ^ 60) y := by
            simp only [List.mem_cons, List.not_mem_nil, or_false] at hy
            rcases hy with rfl | rfl | rfl | rfl
            all_goals exact it_of (by decide +kernel)
          exact this.up (by omega)
        simp only [mIns, lstC, up_same, ndL, u_wDef, initE, u_wSeq, u_wNext, u_wAsg, u_wAsgG, u_wDrop, u_wRet, u_wRetN, u_wIfS, u_wPar, u_wAug, u_wSetL, u_wBreak, u_wCont, u_wgN, u_wgNil, u_wgCons, u_wgTup, u_wiSeq, u_wiRng1, u_wiRng2, u_wiEnum, u_wFor, u_wLc, u_wYes, u_wV, u_wK, u_wOp, u_wUn, u_wTup, u_wLst, u_wCb, u_wTst, u_wNotT, u_wAndT, u_wOrT, u_wIf, u_wAnd, u_wOr, u_wNot, u_waNil, u_waCons, u_waStar, u_wCall, u_wMeth, u_wProp, u_wFld, u_wSetF, u_wMake, u_wCallI, u_wRev, u_wSl, u_woNone, u_woSome, u_wLm, u_wRz, u_wRzA, u_wFz, u_wCaught, u_wErrF, u_wDict0, u_wLrng, gt, st, u_sett_v, u_sett_f, u_sett_t, u_one, u_two, u_int1, atI0, atI1, atI2, atI3, atI4, ixN20, ixN21, List.map_cons, List.map_nil, List.cons_append, List.nil_append, List.append_nil, List.length_cons, List.length_nil, List.replicate_succ, List.replicate_zero, Nat.add_one_sub_one, u_waPerm, u_wChain, u_wDisp1, u_wDispT, u_wDefD, u_oAdd_i, u_oAdd_s, u_oAdd_t, u_oAdd_l, u_oSub, u_oMul_i, u_oMul_l, u_oFdiv, u_oMod, u_oPow, u_oLt, u_oLe, u_oGt, u_oGe, u_oNeg, u_oEq_i, u_oEq_s, u_oNe_i, u_oNe_s, u_oIsN, u_oNotN, u_oIx_l, u_oIx_t, u_oIn, u_oInL, u_oSl_t, u_oSl_l, u_len_l, u_len_t, u_min2, u_max2, u_abs, u_list_l, u_list_t, u_tup_l, u_tup_t, u_isB, u_notB, u_sqD_l, u_sqD_t, u_sqD_s, u_seqL_l, u_frz_l, u_frz_k, u_frz_t, u_frz_o, u_oNe0_l, u_oNe0_t, decide_true, decide_false, Bool.not_true, Bool.not_false, Bool.false_eq_true, if_true, if_false, true_and, up_up, del_up hp]
        refine ⟨by rw [sizeLine_eq]; omega, by omega, by omega, q _ (gk_tup ?_ fun x hx => ?_)⟩
        · rw [List.length_append, List.length_append, List.length_take, List.length_drop]
          show _ + 1 + _ ≤ _
          omega
        · rcases List.mem_append.mp hx with z | z
          · rcases List.mem_append.mp z with z | z
            · exact hitU x (List.mem_of_mem_take z)
            · rw [List.mem_singleton.mp z]; exact hy2
          · exact hitU x (List.mem_of_mem_drop z)
      simp only [u_wDef, initE, u_wSeq, u_wNext, u_wAsg, u_wAsgG, u_wDrop, u_wRet, u_wRetN, u_wIfS, u_wPar, u_wAug, u_wSetL, u_wBreak, u_wCont, u_wgN, u_wgNil, u_wgCons, u_wgTup, u_wiSeq, u_wiRng1, u_wiRng2, u_wiEnum, u_wFor, u_wLc, u_wYes, u_wV, u_wK, u_wOp, u_wUn, u_wTup, u_wLst, u_wCb, u_wTst, u_wNotT, u_wAndT, u_wOrT, u_wIf, u_wAnd, u_wOr, u_wNot, u_waNil, u_waCons, u_waStar, u_wCall, u_wMeth, u_wProp, u_wFld, u_wSetF, u_wMake, u_wCallI, u_wRev, u_wSl, u_woNone, u_woSome, u_wLm, u_wRz, u_wRzA, u_wFz, u_wCaught, u_wErrF, u_wDict0, u_wLrng, gt, st, u_sett_v, u_sett_f, u_sett_t, u_one, u_two, u_int1, atI0, atI1, atI2, atI3, atI4, ixN20, ixN21, List.map_cons, List.map_nil, List.cons_append, List.nil_append, List.append_nil, List.length_cons, List.length_nil, List.replicate_succ, List.replicate_zero, Nat.add_one_sub_one, u_waPerm, u_wChain, u_wDisp1, u_wDispT, u_wDefD, u_oAdd_i, u_oAdd_s, u_oAdd_t, u_oAdd_l, u_oSub, u_oMul_i, u_oMul_l, u_oFdiv, u_oMod, u_oPow, u_oLt, u_oLe, u_oGt, u_oGe, u_oNeg, u_oEq_i, u_oEq_s, u_oNe_i, u_oNe_s, u_oIsN, u_oNotN, u_oIx_l, u_oIx_t, u_oIn, u_oInL, u_oSl_t, u_oSl_l, u_len_l, u_len_t, u_min2, u_max2, u_abs, u_list_l, u_list_t, u_tup_l, u_tup_t, u_isB, u_notB, u_sqD_l, u_sqD_t, u_sqD_s, u_seqL_l, u_frz_l, u_frz_k, u_frz_t, u_frz_o, u_oNe0_l, u_oNe0_t, decide_true, decide_false, Bool.not_true, Bool.not_false, Bool.false_eq_true, if_true, if_false, true_and, decide_eq_false h1]
      by_cases h2 : w = 2
      · simp only [u_wDef, initE, u_wSeq, u_wNext, u_wAsg, u_wAsgG, u_wDrop, u_wRet, u_wRetN, u_wIfS, u_wPar, u_wAug, u_wSetL, u_wBreak, u_wCont, u_wgN, u_wgNil, u_wgCons, u_wgTup, u_wiSeq, u_wiRng1, u_wiRng2, u_wiEnum, u_wFor, u_wLc, u_wYes, u_wV, u_wK, u_wOp, u_wUn, u_wTup, u_wLst, u_wCb, u_wTst, u_wNotT, u_wAndT, u_wOrT, u_wIf, u_wAnd, u_wOr, u_wNot, u_waNil, u_waCons, u_waStar, u_wCall, u_wMeth, u_wProp, u_wFld, u_wSetF, u_wMake, u_wCallI, u_wRev, u_wSl, u_woNone, u_woSome, u_wLm, u_wRz, u_wRzA, u_wFz, u_wCaught, u_wErrF, u_wDict0, u_wLrng, gt, st, u_sett_v, u_sett_f, u_sett_t, u_one, u_two, u_int1, atI0, atI1, atI2, atI3, atI4, ixN20, ixN21, List.map_cons, List.map_nil, List.cons_append, List.nil_append, List.append_nil, List.length_cons, List.length_nil, List.replicate_succ, List.replicate_zero, Nat.add_one_sub_one, u_waPerm, u_wChain, u_wDisp1, u_wDispT, u_wDefD, u_oAdd_i, u_oAdd_s, u_oAdd_t, u_oAdd_l, u_oSub, u_oMul_i, u_oMul_l, u_oFdiv, u_oMod, u_oPow, u_oLt, u_oLe, u_oGt, u_oGe, u_oNeg, u_oEq_i, u_oEq_s, u_oNe_i, u_oNe_s, u_oIsN, u_oNotN, u_oIx_l, u_oIx_t, u_oIn, u_oInL, u_oSl_t, u_oSl_l, u_len_l, u_len_t, u_min2, u_max2, u_abs, u_list_l, u_list_t, u_tup_l, u_tup_t, u_isB, u_notB, u_sqD_l, u_sqD_t, u_sqD_s, u_seqL_l, u_frz_l, u_frz_k, u_frz_t, u_frz_o, u_oNe0_l, u_oNe0_t, decide_true, decide_false, Bool.not_true, Bool.not_false, Bool.false_eq_true, if_true, if_false, true_and, h2, up_same, del_up hp]
        exact q _ (gk_list hitU)
      simp only [u_wDef, initE, u_wSeq, u_wNext, u_wAsg, u_wAsgG, u_wDrop, u_wRet, u_wRetN, u_wIfS, u_wPar, u_wAug, u_wSetL, u_wBreak, u_wCont, u_wgN, u_wgNil, u_wgCons, u_wgTup, u_wiSeq, u_wiRng1, u_wiRng2, u_wiEnum, u_wFor, u_wLc, u_wYes, u_wV, u_wK, u_wOp, u_wUn, u_wTup, u_wLst, u_wCb, u_wTst, u_wNotT, u_wAndT, u_wOrT, u_wIf, u_wAnd, u_wOr, u_wNot, u_waNil, u_waCons, u_waStar, u_wCall, u_wMeth, u_wProp, u_wFld, u_wSetF, u_wMake, u_wCallI, u_wRev, u_wSl, u_woNone, u_woSome, u_wLm, u_wRz, u_wRzA, u_wFz, u_wCaught, u_wErrF, u_wDict0, u_wLrng, gt, st, u_sett_v, u_sett_f, u_sett_t, u_one, u_two, u_int1, atI0, atI1, atI2, atI3, atI4, ixN20, ixN21, List.map_cons, List.map_nil, List.cons_append, List.nil_append, List.append_nil, List.length_cons, List.length_nil, List.replicate_succ, List.replicate_zero, Nat.add_one_sub_one, u_waPerm, u_wChain, u_wDisp1, u_wDispT, u_wDefD, u_oAdd_i, u_oAdd_s, u_oAdd_t, u_oAdd_l, u_oSub, u_oMul_i, u_oMul_l, u_oFdiv, u_oMod, u_oPow, u_oLt, u_oLe, u_oGt, u_oGe, u_oNeg, u_oEq_i, u_oEq_s, u_oNe_i, u_oNe_s, u_oIsN, u_oNotN, u_oIx_l, u_oIx_t, u_oIn, u_oInL, u_oSl_t, u_oSl_l, u_len_l, u_len_t, u_min2, u_max2, u_abs, u_list_l, u_list_t, u_tup_l, u_tup_t, u_isB, u_notB, u_sqD_l, u_sqD_t, u_sqD_s, u_seqL_l, u_frz_l, u_frz_k, u_frz_t, u_frz_o, u_oNe0_l, u_oNe0_t, decide_true, decide_false, Bool.not_true, Bool.not_false, Bool.false_eq_true, if_true, if_false, true_and, decide_eq_false h2]
      by_cases h3 : w = 3
      · simp only [u_wDef, initE, u_wSeq, u_wNext, u_wAsg, u_wAsgG, u_wDrop, u_wRet, u_wRetN, u_wIfS, u_wPar, u_wAug, u_wSetL, u_wBreak, u_wCont, u_wgN, u_wgNil, u_wgCons, u_wgTup, u_wiSeq, u_wiRng1, u_wiRng2, u_wiEnum, u_wFor, u_wLc, u_wYes, u_wV, u_wK, u_wOp, u_wUn, u_wTup, u_wLst, u_wCb, u_wTst, u_wNotT, u_wAndT, u_wOrT, u_wIf, u_wAnd, u_wOr, u_wNot, u_waNil, u_waCons, u_waStar, u_wCall, u_wMeth, u_wProp, u_wFld, u_wSetF, u_wMake, u_wCallI, u_wRev, u_wSl, u_woNone, u_woSome, u_wLm, u_wRz, u_wRzA, u_wFz, u_wCaught, u_wErrF, u_wDict0, u_wLrng, gt, st, u_sett_v, u_sett_f, u_sett_t, u_one, u_two, u_int1, atI0, atI1, atI2, atI3, atI4, ixN20, ixN21, List.map_cons, List.map_nil, List.cons_append, List.nil_append, List.append_nil, List.length_cons, List.length_nil, List.replicate_succ, List.replicate_zero, Nat.add_one_sub_one, u_waPerm, u_wChain, u_wDisp1, u_wDispT, u_wDefD, u_oAdd_i, u_oAdd_s, u_oAdd_t, u_oAdd_l, u_oSub, u_oMul_i, u_oMul_l, u_oFdiv, u_oMod, u_oPow, u_oLt, u_oLe, u_oGt, u_oGe, u_oNeg, u_oEq_i, u_oEq_s, u_oNe_i, u_oNe_s, u_oIsN, u_oNotN, u_oIx_l, u_oIx_t, u_oIn, u_oInL, u_oSl_t, u_oSl_l, u_len_l, u_len_t, u_min2, u_max2, u_abs, u_list_l, u_list_t, u_tup_l, u_tup_t, u_isB, u_notB, u_sqD_l, u_sqD_t, u_sqD_s, u_seqL_l, u_frz_l, u_frz_k, u_frz_t, u_frz_o, u_oNe0_l, u_oNe0_t, decide_true, decide_false, Bool.not_true, Bool.not_false, Bool.false_eq_true, if_true, if_false, true_and, h3]
        refine ⟨by decide, by decide, ok_pick rfl (fun z => by cases z) (by simp) fun y hy => ?_⟩
        have hy2 : It (2 * B + 1) y := by
          have : It (10 ^ 60) y := by
            simp only [List.mem_cons, List.not_mem_nil, or_false] at hy
            rcases hy with rfl | rfl | rfl | rfl | rfl | rfl | rfl | rfl | rfl | rfl
            all_goals exact it_of (by decide +kernel)
          exact this.up (by omega)
        have e0 : ixN ds.length 0 = some 0 := ixN_nat (j := 0) hpos
        simp only [up_same, ndL, e0, up_up, del_up hp, u_wDef, initE, u_wSeq, u_wNext, u_wAsg, u_wAsgG, u_wDrop, u_wRet, u_wRetN, u_wIfS, u_wPar, u_wAug, u_wSetL, u_wBreak, u_wCont, u_wgN, u_wgNil, u_wgCons, u_wgTup, u_wiSeq, u_wiRng1, u_wiRng2, u_wiEnum, u_wFor, u_wLc, u_wYes, u_wV, u_wK, u_wOp, u_wUn, u_wTup, u_wLst, u_wCb, u_wTst, u_wNotT, u_wAndT, u_wOrT, u_wIf, u_wAnd, u_wOr, u_wNot, u_waNil, u_waCons, u_waStar, u_wCall, u_wMeth, u_wProp, u_wFld, u_wSetF, u_wMake, u_wCallI, u_wRev, u_wSl, u_woNone, u_woSome, u_wLm, u_wRz, u_wRzA, u_wFz, u_wCaught, u_wErrF, u_wDict0, u_wLrng, gt, st, u_sett_v, u_sett_f, u_sett_t, u_one, u_two, u_int1, atI0, atI1, atI2, atI3, atI4, ixN20, ixN21, List.map_cons, List.map_nil, List.cons_append, List.nil_append, List.append_nil, List.length_cons, List.length_nil, List.replicate_succ, List.replicate_zero, Nat.add_one_sub_one, u_waPerm, u_wChain, u_wDisp1, u_wDispT, u_wDefD, u_oAdd_i, u_oAdd_s, u_oAdd_t, u_oAdd_l, u_oSub, u_oMul_i, u_oMul_l, u_oFdiv, u_oMod, u_oPow, u_oLt, u_oLe, u_oGt, u_oGe, u_oNeg, u_oEq_i, u_oEq_s, u_oNe_i, u_oNe_s, u_oIsN, u_oNotN, u_oIx_l, u_oIx_t, u_oIn, u_oInL, u_oSl_t, u_oSl_l, u_len_l, u_len_t, u_min2, u_max2, u_abs, u_list_l, u_list_t, u_tup_l, u_tup_t, u_isB, u_notB, u_sqD_l, u_sqD_t, u_sqD_s, u_seqL_l, u_frz_l, u_frz_k, u_frz_t, u_frz_o, u_oNe0_l, u_oNe0_t, decide_true, decide_false, Bool.not_true, Bool.not_false, Bool.false_eq_true, if_true, if_false, true_and]
        exact q _ (setI 0 y hy2)
      simp only [u_wDef, initE, u_wSeq, u_wNext, u_wAsg, u_wAsgG, u_wDrop, u_wRet, u_wRetN, u_wIfS, u_wPar, u_wAug, u_wSetL, u_wBreak, u_wCont, u_wgN, u_wgNil, u_wgCons, u_wgTup, u_wiSeq, u_wiRng1, u_wiRng2, u_wiEnum, u_wFor, u_wLc, u_wYes, u_wV, u_wK, u_wOp, u_wUn, u_wTup, u_wLst, u_wCb, u_wTst, u_wNotT, u_wAndT, u_wOrT, u_wIf, u_wAnd, u_wOr, u_wNot, u_waNil, u_waCons, u_waStar, u_wCall, u_wMeth, u_wProp, u_wFld, u_wSetF, u_wMake, u_wCallI, u_wRev, u_wSl, u_woNone, u_woSome, u_wLm, u_wRz, u_wRzA, u_wFz, u_wCaught, u_wErrF, u_wDict0, u_wLrng, gt, st, u_sett_v, u_sett_f, u_sett_t, u_one, u_two, u_int1, atI0, atI1, atI2, atI3, atI4, ixN20, ixN21, List.map_cons, List.map_nil, List.cons_append, List.nil_append, List.append_nil, List.length_cons, List.length_nil, List.replicate_succ, List.replicate_zero, Nat.add_one_sub_one, u_waPerm, u_wChain, u_wDisp1, u_wDispT, u_wDefD, u_oAdd_i, u_oAdd_s, u_oAdd_t, u_oAdd_l, u_oSub, u_oMul_i, u_oMul_l, u_oFdiv, u_oMod, u_oPow, u_oLt, u_oLe, u_oGt, u_oGe, u_oNeg, u_oEq_i, u_oEq_s, u_oNe_i, u_oNe_s, u_oIsN, u_oNotN, u_oIx_l, u_oIx_t, u_oIn, u_oInL, u_oSl_t, u_oSl_l, u_len_l, u_len_t, u_min2, u_max2, u_abs, u_list_l, u_list_t, u_tup_l, u_tup_t, u_isB, u_notB, u_sqD_l, u_sqD_t, u_sqD_s, u_seqL_l, u_frz_l, u_frz_k, u_frz_t, u_frz_o, u_oNe0_l, u_oNe0_t, decide_true, decide_false, Bool.not_true, Bool.not_false, Bool.false_eq_true, if_true, if_false, true_and, decide_eq_false h3]
      have hx := hit _ (List.getElem_mem hj)
      obtain ⟨tx, htx⟩ := hx.ty
      rw [ix_sq sq (atI_nat ds j hj)]
      simp only [u_wDef, initE, u_wSeq, u_wNext, u_wAsg, u_wAsgG, u_wDrop, u_wRet, u_wRetN, u_wIfS, u_wPar, u_wAug, u_wSetL, u_wBreak, u_wCont, u_wgN, u_wgNil, u_wgCons, u_wgTup, u_wiSeq, u_wiRng1, u_wiRng2, u_wiEnum, u_wFor, u_wLc, u_wYes, u_wV, u_wK, u_wOp, u_wUn, u_wTup, u_wLst, u_wCb, u_wTst, u_wNotT, u_wAndT, u_wOrT, u_wIf, u_wAnd, u_wOr, u_wNot, u_waNil, u_waCons, u_waStar, u_wCall, u_wMeth, u_wProp, u_wFld, u_wSetF, u_wMake, u_wCallI, u_wRev, u_wSl, u_woNone, u_woSome, u_wLm, u_wRz, u_wRzA, u_wFz, u_wCaught, u_wErrF, u_wDict0, u_wLrng, gt, st, u_sett_v, u_sett_f, u_sett_t, u_one, u_two, u_int1, atI0, atI1, atI2, atI3, atI4, ixN20, ixN21, List.map_cons, List.map_nil, List.cons_append, List.nil_append, List.append_nil, List.length_cons, List.length_nil, List.replicate_succ, List.replicate_zero, Nat.add_one_sub_one, u_waPerm, u_wChain, u_wDisp1, u_wDispT, u_wDefD, u_oAdd_i, u_oAdd_s, u_oAdd_t, u_oAdd_l, u_oSub, u_oMul_i, u_oMul_l, u_oFdiv, u_oMod, u_oPow, u_oLt, u_oLe, u_oGt, u_oGe, u_oNeg, u_oEq_i, u_oEq_s, u_oNe_i, u_oNe_s, u_oIsN, u_oNotN, u_oIx_l, u_oIx_t, u_oIn, u_oInL, u_oSl_t, u_oSl_l, u_len_l, u_len_t, u_min2, u_max2, u_abs, u_list_l, u_list_t, u_tup_l, u_tup_t, u_isB, u_notB, u_sqD_l, u_sqD_t, u_sqD_s, u_seqL_l, u_frz_l, u_frz_k, u_frz_t, u_frz_o, u_oNe0_l, u_oNe0_t, decide_true, decide_false, Bool.not_true, Bool.not_false, Bool.false_eq_true, if_true, if_false, true_and]
      refine ok_law_is_number (tyF_tyD htx _) ?_
      have oddSet : wp_law_odd [.state] (up μ p (.list ds)) (fun d μ1 => match ndL (μ1 p) with
          | some ds => (match ixN ds.length (j : Int) with
            | some j => (match up μ1 p (.list (ds.set j d)) p with
              | some nd => cbTup [nd.frz] (del (up μ1 p (.list (ds.set j d))) p) (sett false Q) fun d μ1 => X d μ1
              | Option.none => False)
            | Option.none => False)
          | Option.none => False) fun d μ1 => X d μ1 := by
        refine ok_law_odd fun y hy => ?_
        simp only [up_same, ndL, ixN_nat hj, up_up, del_up hp, u_wDef, initE, u_wSeq, u_wNext, u_wAsg, u_wAsgG, u_wDrop, u_wRet, u_wRetN, u_wIfS, u_wPar, u_wAug, u_wSetL, u_wBreak, u_wCont, u_wgN, u_wgNil, u_wgCons, u_wgTup, u_wiSeq, u_wiRng1, u_wiRng2, u_wiEnum, u_wFor, u_wLc, u_wYes, u_wV, u_wK, u_wOp, u_wUn, u_wTup, u_wLst, u_wCb, u_wTst, u_wNotT, u_wAndT, u_wOrT, u_wIf, u_wAnd, u_wOr, u_wNot, u_waNil, u_waCons, u_waStar, u_wCall, u_wMeth, u_wProp, u_wFld, u_wSetF, u_wMake, u_wCallI, u_wRev, u_wSl, u_woNone, u_woSome, u_wLm, u_wRz, u_wRzA, u_wFz, u_wCaught, u_wErrF, u_wDict0, u_wLrng, gt, st, u_sett_v, u_sett_f, u_sett_t, u_one, u_two, u_int1, atI0, atI1, atI2, atI3, atI4, ixN20, ixN21, List.map_cons, List.map_nil, List.cons_append, List.nil_append, List.append_nil, List.length_cons, List.length_nil, List.replicate_succ, List.replicate_zero, Nat.add_one_sub_one, u_waPerm, u_wChain, u_wDisp1, u_wDispT, u_wDefD, u_oAdd_i, u_oAdd_s, u_oAdd_t, u_oAdd_l, u_oSub, u_oMul_i, u_oMul_l, u_oFdiv, u_oMod, u_oPow, u_oLt, u_oLe, u_oGt, u_oGe, u_oNeg, u_oEq_i, u_oEq_s, u_oNe_i, u_oNe_s, u_oIsN, u_oNotN, u_oIx_l, u_oIx_t, u_oIn, u_oInL, u_oSl_t, u_oSl_l, u_len_l, u_len_t, u_min2, u_max2, u_abs, u_list_l, u_list_t, u_tup_l, u_tup_t, u_isB, u_notB, u_sqD_l, u_sqD_t, u_sqD_s, u_seqL_l, u_frz_l, u_frz_k, u_frz_t, u_frz_o, u_oNe0_l, u_oNe0_t, decide_true, decide_false, Bool.not_true, Bool.not_false, Bool.false_eq_true, if_true, if_false, true_and]
        exact q _ (setI j y ((odd_gk hL y hy).2.up (by omega)))
      cases hn : numD ds[j] with
      | false =>
        simp only [u_wDef, initE, u_wSeq, u_wNext, u_wAsg, u_wAsgG, u_wDrop, u_wRet, u_wRetN, u_wIfS, u_wPar, u_wAug, u_wSetL, u_wBreak, u_wCont, u_wgN, u_wgNil, u_wgCons, u_wgTup, u_wiSeq, u_wiRng1, u_wiRng2, u_wiEnum, u_wFor, u_wLc, u_wYes, u_wV, u_wK, u_wOp, u_wUn, u_wTup, u_wLst, u_wCb, u_wTst, u_wNotT, u_wAndT, u_wOrT, u_wIf, u_wAnd, u_wOr, u_wNot, u_waNil, u_waCons, u_waStar, u_wCall, u_wMeth, u_wProp, u_wFld, u_wSetF, u_wMake, u_wCallI, u_wRev, u_wSl, u_woNone, u_woSome, u_wLm, u_wRz, u_wRzA, u_wFz, u_wCaught, u_wErrF, u_wDict0, u_wLrng, gt, st, u_sett_v, u_sett_f, u_sett_t, u_one, u_two, u_int1, atI0, atI1, atI2, atI3, atI4, ixN20, ixN21, List.map_cons, List.map_nil, List.cons_append, List.nil_append, List.append_nil, List.length_cons, List.length_nil, List.replicate_succ, List.replicate_zero, Nat.add_one_sub_one, u_waPerm, u_wChain, u_wDisp1, u_wDispT, u_wDefD, u_oAdd_i, u_oAdd_s, u_oAdd_t, u_oAdd_l, u_oSub, u_oMul_i, u_oMul_l, u_oFdiv, u_oMod, u_oPow, u_oLt, u_oLe, u_oGt, u_oGe, u_oNeg, u_oEq_i, u_oEq_s, u_oNe_i, u_oNe_s, u_oIsN, u_oNotN, u_oIx_l, u_oIx_t, u_oIn, u_oInL, u_oSl_t, u_oSl_l, u_len_l, u_len_t, u_min2, u_max2, u_abs, u_list_l, u_list_t, u_tup_l, u_tup_t, u_isB, u_notB, u_sqD_l, u_sqD_t, u_sqD_s, u_seqL_l, u_frz_l, u_frz_k, u_frz_t, u_frz_o, u_oNe0_l, u_oNe0_t, decide_true, decide_false, Bool.not_true, Bool.not_false, Bool.false_eq_true, if_true, if_false, true_and]
        exact oddSet
      | true =>
        simp only [u_wDef, initE, u_wSeq, u_wNext, u_wAsg, u_wAsgG, u_wDrop, u_wRet, u_wRetN, u_wIfS, u_wPar, u_wAug, u_wSetL, u_wBreak, u_wCont, u_wgN, u_wgNil, u_wgCons, u_wgTup, u_wiSeq, u_wiRng1, u_wiRng2, u_wiEnum, u_wFor, u_wLc, u_wYes, u_wV, u_wK, u_wOp, u_wUn, u_wTup, u_wLst, u_wCb, u_wTst, u_wNotT, u_wAndT, u_wOrT, u_wIf, u_wAnd, u_wOr, u_wNot, u_waNil, u_waCons, u_waStar, u_wCall, u_wMeth, u_wProp, u_wFld, u_wSetF, u_wMake, u_wCallI, u_wRev, u_wSl, u_woNone, u_woSome, u_wLm, u_wRz, u_wRzA, u_wFz, u_wCaught, u_wErrF, u_wDict0, u_wLrng, gt, st, u_sett_v, u_sett_f, u_sett_t, u_one, u_two, u_int1, atI0, atI1, atI2, atI3, atI4, ixN20, ixN21, List.map_cons, List.map_nil, List.cons_append, List.nil_append, List.append_nil, List.length_cons, List.length_nil, List.replicate_succ, List.replicate_zero, Nat.add_one_sub_one, u_waPerm, u_wChain, u_wDisp1, u_wDispT, u_wDefD, u_oAdd_i, u_oAdd_s, u_oAdd_t, u_oAdd_l, u_oSub, u_oMul_i, u_oMul_l, u_oFdiv, u_oMod, u_oPow, u_oLt, u_oLe, u_oGt, u_oGe, u_oNeg, u_oEq_i, u_oEq_s, u_oNe_i, u_oNe_s, u_oIsN, u_oNotN, u_oIx_l, u_oIx_t, u_oIn, u_oInL, u_oSl_t, u_oSl_l, u_len_l, u_len_t, u_min2, u_max2, u_abs, u_list_l, u_list_t, u_tup_l, u_tup_t, u_isB, u_notB, u_sqD_l, u_sqD_t, u_sqD_s, u_seqL_l, u_frz_l, u_frz_k, u_frz_t, u_frz_o, u_oNe0_l, u_oNe0_t, decide_true, decide_false, Bool.not_true, Bool.not_false, Bool.false_eq_true, if_true, if_false, true_and]
        by_cases h8 : w < 8
        · simp only [u_wDef, initE, u_wSeq, u_wNext, u_wAsg, u_wAsgG, u_wDrop, u_wRet, u_wRetN, u_wIfS, u_wPar, u_wAug, u_wSetL, u_wBreak, u_wCont, u_wgN, u_wgNil, u_wgCons, u_wgTup, u_wiSeq, u_wiRng1, u_wiRng2, u_wiEnum, u_wFor, u_wLc, u_wYes, u_wV, u_wK, u_wOp, u_wUn, u_wTup, u_wLst, u_wCb, u_wTst, u_wNotT, u_wAndT, u_wOrT, u_wIf, u_wAnd, u_wOr, u_wNot, u_waNil, u_waCons, u_waStar, u_wCall, u_wMeth, u_wProp, u_wFld, u_wSetF, u_wMake, u_wCallI, u_wRev, u_wSl, u_woNone, u_woSome, u_wLm, u_wRz, u_wRzA, u_wFz, u_wCaught, u_wErrF, u_wDict0, u_wLrng, gt, st, u_sett_v, u_sett_f, u_sett_t, u_one, u_two, u_int1, atI0, atI1, atI2, atI3, atI4, ixN20, ixN21, List.map_cons, List.map_nil, List.cons_append, List.nil_append, List.append_nil, List.length_cons, List.length_nil, List.replicate_succ, List.replicate_zero, Nat.add_one_sub_one, u_waPerm, u_wChain, u_wDisp1, u_wDispT, u_wDefD, u_oAdd_i, u_oAdd_s, u_oAdd_t, u_oAdd_l, u_oSub, u_oMul_i, u_oMul_l, u_oFdiv, u_oMod, u_oPow, u_oLt, u_oLe, u_oGt, u_oGe, u_oNeg, u_oEq_i, u_oEq_s, u_oNe_i, u_oNe_s, u_oIsN, u_oNotN, u_oIx_l, u_oIx_t, u_oIn, u_oInL, u_oSl_t, u_oSl_l, u_len_l, u_len_t, u_min2, u_max2, u_abs, u_list_l, u_list_t, u_tup_l, u_tup_t, u_isB, u_notB, u_sqD_l, u_sqD_t, u_sqD_s, u_seqL_l, u_frz_l, u_frz_k, u_frz_t, u_frz_o, u_oNe0_l, u_oNe0_t, decide_true, decide_false, Bool.not_true, Bool.not_false, Bool.false_eq_true, if_true, if_false, true_and, decide_eq_true h8]
          obtain ⟨n, hn2⟩ := num_int hn
          rw [ix_sq sq (atI_nat ds j hj), hn2]
          have hnb := hx.big n hn2
          simp only [u_wDef, initE, u_wSeq, u_wNext, u_wAsg, u_wAsgG, u_wDrop, u_wRet, u_wRetN, u_wIfS, u_wPar, u_wAug, u_wSetL, u_wBreak, u_wCont, u_wgN, u_wgNil, u_wgCons, u_wgTup, u_wiSeq, u_wiRng1, u_wiRng2, u_wiEnum, u_wFor, u_wLc, u_wYes, u_wV, u_wK, u_wOp, u_wUn, u_wTup, u_wLst, u_wCb, u_wTst, u_wNotT, u_wAndT, u_wOrT, u_wIf, u_wAnd, u_wOr, u_wNot, u_waNil, u_waCons, u_waStar, u_wCall, u_wMeth, u_wProp, u_wFld, u_wSetF, u_wMake, u_wCallI, u_wRev, u_wSl, u_woNone, u_woSome, u_wLm, u_wRz, u_wRzA, u_wFz, u_wCaught, u_wErrF, u_wDict0, u_wLrng, gt, st, u_sett_v, u_sett_f, u_sett_t, u_one, u_two, u_int1, atI0, atI1, atI2, atI3, atI4, ixN20, ixN21, List.map_cons, List.map_nil, List.cons_append, List.nil_append, List.append_nil, List.length_cons, List.length_nil, List.replicate_succ, List.replicate_zero, Nat.add_one_sub_one, u_waPerm, u_wChain, u_wDisp1, u_wDispT, u_wDefD, u_oAdd_i, u_oAdd_s, u_oAdd_t, u_oAdd_l, u_oSub, u_oMul_i, u_oMul_l, u_oFdiv, u_oMod, u_oPow, u_oLt, u_oLe, u_oGt, u_oGe, u_oNeg, u_oEq_i, u_oEq_s, u_oNe_i, u_oNe_s, u_oIsN, u_oNotN, u_oIx_l, u_oIx_t, u_oIn, u_oInL, u_oSl_t, u_oSl_l, u_len_l, u_len_t, u_min2, u_max2, u_abs, u_list_l, u_list_t, u_tup_l, u_tup_t, u_isB, u_notB, u_sqD_l, u_sqD_t, u_sqD_s, u_seqL_l, u_frz_l, u_frz_k, u_frz_t, u_frz_o, u_oNe0_l, u_oNe0_t, decide_true, decide_false, Bool.not_true, Bool.not_false, Bool.false_eq_true, if_true, if_false, true_and]
          refine ⟨.inr (.inl ⟨by decide, by decide⟩), ?_⟩
          have hlog : n.natAbs.log2 < 1920 := by
            by_cases z : n.natAbs = 0
            · rw [z]; decide
            · exact (Nat.log2_lt z).mpr (Nat.lt_of_le_of_lt hnb (Nat.lt_of_le_of_lt hB2 (by decide +kernel)))
          simp only [cbStr, u_wDef, initE, u_wSeq, u_wNext, u_wAsg, u_wAsgG, u_wDrop, u_wRet, u_wRetN, u_wIfS, u_wPar, u_wAug, u_wSetL, u_wBreak, u_wCont, u_wgN, u_wgNil, u_wgCons, u_wgTup, u_wiSeq, u_wiRng1, u_wiRng2, u_wiEnum, u_wFor, u_wLc, u_wYes, u_wV, u_wK, u_wOp, u_wUn, u_wTup, u_wLst, u_wCb, u_wTst, u_wNotT, u_wAndT, u_wOrT, u_wIf, u_wAnd, u_wOr, u_wNot, u_waNil, u_waCons, u_waStar, u_wCall, u_wMeth, u_wProp, u_wFld, u_wSetF, u_wMake, u_wCallI, u_wRev, u_wSl, u_woNone, u_woSome, u_wLm, u_wRz, u_wRzA, u_wFz, u_wCaught, u_wErrF, u_wDict0, u_wLrng, gt, st, u_sett_v, u_sett_f, u_sett_t, u_one, u_two, u_int1, atI0, atI1, atI2, atI3, atI4, ixN20, ixN21, List.map_cons, List.map_nil, List.cons_append, List.nil_append, List.append_nil, List.length_cons, List.length_nil, List.replicate_succ, List.replicate_zero, Nat.add_one_sub_one, u_waPerm, u_wChain, u_wDisp1, u_wDispT, u_wDefD, u_oAdd_i, u_oAdd_s, u_oAdd_t, u_oAdd_l, u_oSub, u_oMul_i, u_oMul_l, u_oFdiv, u_oMod, u_oPow, u_oLt, u_oLe, u_oGt, u_oGe, u_oNeg, u_oEq_i, u_oEq_s, u_oNe_i, u_oNe_s, u_oIsN, u_oNotN, u_oIx_l, u_oIx_t, u_oIn, u_oInL, u_oSl_t, u_oSl_l, u_len_l, u_len_t, u_min2, u_max2, u_abs, u_list_l, u_list_t, u_tup_l, u_tup_t, u_isB, u_notB, u_sqD_l, u_sqD_t, u_sqD_s, u_seqL_l, u_frz_l, u_frz_k, u_frz_t, u_frz_o, u_oNe0_l, u_oNe0_t, decide_true, decide_false, Bool.not_true, Bool.not_false, Bool.false_eq_true, if_true, if_false, true_and]
          refine ⟨hlog, by simp [sizeLine_eq], ok_pick rfl (fun z => by cases z) (by simp) fun y hy => ?_⟩
          have hy2 : It (2 * B + 1) y := by
            simp only [List.mem_cons, List.not_mem_nil, or_false] at hy
            rcases hy with rfl | rfl | rfl | rfl | rfl | rfl | rfl
            · exact ⟨⟨_, rfl⟩, fun i z => (by cases z; omega), Nat.zero_le _⟩
            · exact ⟨⟨_, rfl⟩, fun i z => (by cases z; omega), Nat.zero_le _⟩
            · exact ⟨⟨_, rfl⟩, fun i z => (by cases z; omega), Nat.zero_le _⟩
            · exact ⟨⟨_, rfl⟩, fun i z => (by cases z; omega), Nat.zero_le _⟩
            · exact ⟨⟨_, rfl⟩, fun i z => (by cases z), Nat.zero_le _⟩
            · exact ⟨⟨_, rfl⟩, fun i z => (by cases z), Nat.zero_le _⟩
            · exact ⟨⟨_, rfl⟩, fun i z => (by cases z), Nat.zero_le _⟩
          simp only [up_same, ndL, ixN_nat hj, up_up, del_up hp, u_wDef, initE, u_wSeq, u_wNext, u_wAsg, u_wAsgG, u_wDrop, u_wRet, u_wRetN, u_wIfS, u_wPar, u_wAug, u_wSetL, u_wBreak, u_wCont, u_wgN, u_wgNil, u_wgCons, u_wgTup, u_wiSeq, u_wiRng1, u_wiRng2, u_wiEnum, u_wFor, u_wLc, u_wYes, u_wV, u_wK, u_wOp, u_wUn, u_wTup, u_wLst, u_wCb, u_wTst, u_wNotT, u_wAndT, u_wOrT, u_wIf, u_wAnd, u_wOr, u_wNot, u_waNil, u_waCons, u_waStar, u_wCall, u_wMeth, u_wProp, u_wFld, u_wSetF, u_wMake, u_wCallI, u_wRev, u_wSl, u_woNone, u_woSome, u_wLm, u_wRz, u_wRzA, u_wFz, u_wCaught, u_wErrF, u_wDict0, u_wLrng, gt, st, u_sett_v, u_sett_f, u_sett_t, u_one, u_two, u_int1, atI0, atI1, atI2, atI3, atI4, ixN20, ixN21, List.map_cons, List.map_nil, List.cons_append, List.nil_append, List.append_nil, List.length_cons, List.length_nil, List.replicate_succ, List.replicate_zero, Nat.add_one_sub_one, u_waPerm, u_wChain, u_wDisp1, u_wDispT, u_wDefD, u_oAdd_i, u_oAdd_s, u_oAdd_t, u_oAdd_l, u_oSub, u_oMul_i, u_oMul_l, u_oFdiv, u_oMod, u_oPow, u_oLt, u_oLe, u_oGt, u_oGe, u_oNeg, u_oEq_i, u_oEq_s, u_oNe_i, u_oNe_s, u_oIsN, u_oNotN, u_oIx_l, u_oIx_t, u_oIn, u_oInL, u_oSl_t, u_oSl_l, u_len_l, u_len_t, u_min2, u_max2, u_abs, u_list_l, u_list_t, u_tup_l, u_tup_t, u_isB, u_notB, u_sqD_l, u_sqD_t, u_sqD_s, u_seqL_l, u_frz_l, u_frz_k, u_frz_t, u_frz_o, u_oNe0_l, u_oNe0_t, decide_true, decide_false, Bool.not_true, Bool.not_false, Bool.false_eq_true, if_true, if_false, true_and]
          exact q _ (setI j y hy2)
        · simp only [u_wDef, initE, u_wSeq, u_wNext, u_wAsg, u_wAsgG, u_wDrop, u_wRet, u_wRetN, u_wIfS, u_wPar, u_wAug, u_wSetL, u_wBreak, u_wCont, u_wgN, u_wgNil, u_wgCons, u_wgTup, u_wiSeq, u_wiRng1, u_wiRng2, u_wiEnum, u_wFor, u_wLc, u_wYes, u_wV, u_wK, u_wOp, u_wUn, u_wTup, u_wLst, u_wCb, u_wTst, u_wNotT, u_wAndT, u_wOrT, u_wIf, u_wAnd, u_wOr, u_wNot, u_waNil, u_waCons, u_waStar, u_wCall, u_wMeth, u_wProp, u_wFld, u_wSetF, u_wMake, u_wCallI, u_wRev, u_wSl, u_woNone, u_woSome, u_wLm, u_wRz, u_wRzA, u_wFz, u_wCaught, u_wErrF, u_wDict0, u_wLrng, gt, st, u_sett_v, u_sett_f, u_sett_t, u_one, u_two, u_int1, atI0, atI1, atI2, atI3, atI4, ixN20, ixN21, List.map_cons, List.map_nil, List.cons_append, List.nil_append, List.append_nil, List.length_cons, List.length_nil, List.replicate_succ, List.replicate_zero, Nat.add_one_sub_one, u_waPerm, u_wChain, u_wDisp1, u_wDispT, u_wDefD, u_oAdd_i, u_oAdd_s, u_oAdd_t, u_oAdd_l, u_oSub, u_oMul_i, u_oMul_l, u_oFdiv, u_oMod, u_oPow, u_oLt, u_oLe, u_oGt, u_oGe, u_oNeg, u_oEq_i, u_oEq_s, u_oNe_i, u_oNe_s, u_oIsN, u_oNotN, u_oIx_l, u_oIx_t, u_oIn, u_oInL, u_oSl_t, u_oSl_l, u_len_l, u_len_t, u_min2, u_max2, u_abs, u_list_l, u_list_t, u_tup_l, u_tup_t, u_isB, u_notB, u_sqD_l, u_sqD_t, u_sqD_s, u_seqL_l, u_frz_l, u_frz_k, u_frz_t, u_frz_o, u_oNe0_l, u_oNe0_t, decide_true, decide_false, Bool.not_true, Bool.not_false, Bool.false_eq_true, if_true, if_false, true_and, decide_eq_false h8]
          exact oddSet
  | _ => exact odd
end
def ws_0_0 : WS := (wAsg 3 (wCall wp_law_step [] (waCons (wV 1) (waCons (wK (.int 6)) (waCons (wCall wp_law_pick [] (waCons (wV 1) (waCons (wLst false (waCons (wK (.int 3)) (waCons (wK (.int 900)) (waCons (wOp false oPow (wK (.int 10)) (wK (.int 6))) waNil)))) waNil))) waNil)))))
def ws_0_1 : WS := (wIfS (wTst (wOp false oEq (wCall wp_law_take [] (waCons (wV 1) (waCons (wK (.int 4)) waNil))) (wK (.int 0)))) (wAsg 3 (wTup (waCons (wK (.str "x")) (waCons (wLc false (wiRng1 (waCons (wK (.int 7)) waNil)) (wgN 7) wYes (wCall wp_law_number [] (waCons (wV 1) (waCons (wOp false oPow (wK (.int 10)) (wK (.int 6))) waNil))) [7]) waNil)))) wNext)
def ws_0_2 : WS := (wAsg 4 (wCall wp_law_step_of [] (waCons (wV 3) waNil)))
def ws_0_3 : WS := (wIfS (wTst (wOp false oNotB (wCall wp_is_step [] (waCons (wV 4) waNil)) (wK (.bool true)))) (wRet (wK (.bool false))) wNext)
def ws_0_4 : WS := (wFor (wiRng1 (waCons (wCall wp_law_pick [] (waCons (wV 1) (waCons (wLst false (waCons (wK (.int 0)) (waCons (wK (.int 1)) (waCons (wK (.int 1)) (waCons (wK (.int 2)) waNil))))) waNil))) waNil)) (wgN 5) (wAsg 4 (wCall wp_law_bent [] (waCons (wV 1) (waCons (wV 4) waNil)))))
def ws_0_5 : WS := (wAsg 6 (wCall wp_law_is_step [] (waCons (wV 4) waNil)))
def ws_0_6 : WS := (wIfS (wTst (wOp false oNe (wCb false cbRepr (waCons (wLst false (waCons (wCall wp_is_step [] (waCons (wV 4) waNil)) (waCons (wCall wp_is_step [] (waPerm [0] (waCons (wV 4) waNil))) waNil))) waNil)) (wCb false cbRepr (waCons (wLst false (waCons (wV 6) (waCons (wV 6) waNil))) waNil)))) (wRet (wK (.bool false))) wNext)
def wb_0 : WS := (wSeq ws_0_0 (wSeq ws_0_1 (wSeq ws_0_2 (wSeq ws_0_3 (wSeq ws_0_4 (wSeq ws_0_5 ws_0_6))))))
def ws_0 : WS := wFor (wiRng1 (waCons (wOp false oAdd (wK (.int 8)) (wCb false cbMin2 (waCons (wCb false cbLen (waCons (wV 0) waNil)) (waCons (wK (.int 24)) waNil)))) waNil)) (wgN 2) wb_0
def ws_1 : WS := (wRet (wK (.bool true)))
def wr_law : WS := (wSeq ws_0 ws_1)
section
variable {μ : Mu} {E : WEnds} {sc : List Int} {a2 a3 a4 a5 a6 a7 : Option D}
theorem pow106' : CPowW 10 6 := ⟨by decide, by decide +kernel⟩
/-- a bare step, zeros at its end or not -/
structure Bare (d : D) (s : Stp) : Prop where
  ok : s.Ok 1000000
  made : ∀ (μ : Mu) (Q X : QD), Q s.p μ → wp_law_step_of [d] μ Q X
theorem s0_ok (q : ∀ d s, Bare d s → E.nx [some (.script sc), some .state, a2, some d, a4, a5, a6, a7] μ) : ws_0_0 [some (.script sc), some .state, a2, a3, a4, a5, a6, a7] μ E := by
  unfold ws_0_0
  simp only [u_wDef, initE, u_wSeq, u_wNext, u_wAsg, u_wAsgG, u_wDrop, u_wRet, u_wRetN, u_wIfS, u_wPar, u_wAug, u_wSetL, u_wBreak, u_wCont, u_wgN, u_wgNil, u_wgCons, u_wgTup, u_wiSeq, u_wiRng1, u_wiRng2, u_wiEnum, u_wFor, u_wLc, u_wYes, u_wV, u_wK, u_wOp, u_wUn, u_wTup, u_wLst, u_wCb, u_wTst, u_wNotT, u_wAndT, u_wOrT, u_wIf, u_wAnd, u_wOr, u_wNot, u_waNil, u_waCons, u_waStar, u_wCall, u_wMeth, u_wProp, u_wFld, u_wSetF, u_wMake, u_wCallI, u_wRev, u_wSl, u_woNone, u_woSome, u_wLm, u_wRz, u_wRzA, u_wFz, u_wCaught, u_wErrF, u_wDict0, u_wLrng, gt, st, u_sett_v, u_sett_f, u_sett_t, u_one, u_two, u_int1, atI0, atI1, atI2, atI3, atI4, ixN20, ixN21, List.map_cons, List.map_nil, List.cons_append, List.nil_append, List.append_nil, List.length_cons, List.length_nil, List.replicate_succ, List.replicate_zero, Nat.add_one_sub_one, u_waPerm, u_wChain, u_wDisp1, u_wDispT, u_wDefD, u_oAdd_i, u_oAdd_s, u_oAdd_t, u_oAdd_l, u_oSub, u_oMul_i, u_oMul_l, u_oFdiv, u_oMod, u_oPow, u_oLt, u_oLe, u_oGt, u_oGe, u_oNeg, u_oEq_i, u_oEq_s, u_oNe_i, u_oNe_s, u_oIsN, u_oNotN, u_oIx_l, u_oIx_t, u_oIn, u_oInL, u_oSl_t, u_oSl_l, u_len_l, u_len_t, u_min2, u_max2, u_abs, u_list_l, u_list_t, u_tup_l, u_tup_t, u_isB, u_notB, u_sqD_l, u_sqD_t, u_sqD_s, u_seqL_l, u_frz_l, u_frz_k, u_frz_t, u_frz_o]
  refine ⟨pow106', by decide, ok_pick rfl (fun z => by cases z) (by simp) fun g hg => ?_⟩
  have hg2 : ∃ i : Int, g = .int i ∧ 0 ≤ i ∧ i ≤ 1000000 := by
    simp only [List.mem_cons, List.not_mem_nil, or_false] at hg
    rcases hg with rfl | rfl | rfl
    · exact ⟨3, rfl, by decide, by decide⟩
    · exact ⟨900, rfl, by decide, by decide⟩
    · exact ⟨_, rfl, by decide +kernel, by decide +kernel⟩
  obtain ⟨i, rfl, h1, h2⟩ := hg2
  exact ok_law_step (by decide) h1 h2 fun s h3 h4 => q _ s ⟨h3, fun μ Q X hq => ok_step_of h3 hq⟩
theorem s1_ok {d : D} {s : Stp} (h : Bare d s) (q : ∀ d s, Bare d s → E.nx [some (.script sc), some .state, a2, some d, a4, a5, a6, a7] μ) : ws_0_1 [some (.script sc), some .state, a2, some d, a4, a5, a6, a7] μ E := by
  unfold ws_0_1
  simp only [u_wDef, initE, u_wSeq, u_wNext, u_wAsg, u_wAsgG, u_wDrop, u_wRet, u_wRetN, u_wIfS, u_wPar, u_wAug, u_wSetL, u_wBreak, u_wCont, u_wgN, u_wgNil, u_wgCons, u_wgTup, u_wiSeq, u_wiRng1, u_wiRng2, u_wiEnum, u_wFor, u_wLc, u_wYes, u_wV, u_wK, u_wOp, u_wUn, u_wTup, u_wLst, u_wCb, u_wTst, u_wNotT, u_wAndT, u_wOrT, u_wIf, u_wAnd, u_wOr, u_wNot, u_waNil, u_waCons, u_waStar, u_wCall, u_wMeth, u_wProp, u_wFld, u_wSetF, u_wMake, u_wCallI, u_wRev, u_wSl, u_woNone, u_woSome, u_wLm, u_wRz, u_wRzA, u_wFz, u_wCaught, u_wErrF, u_wDict0, u_wLrng, gt, st, u_sett_v, u_sett_f, u_sett_t, u_one, u_two, u_int1, atI0, atI1, atI2, atI3, atI4, ixN20, ixN21, List.map_cons, List.map_nil, List.cons_append, List.nil_append, List.append_nil, List.length_cons, List.length_nil, List.replicate_succ, List.replicate_zero, Nat.add_one_sub_one, u_waPerm, u_wChain, u_wDisp1, u_wDispT, u_wDefD, u_oAdd_i, u_oAdd_s, u_oAdd_t, u_oAdd_l, u_oSub, u_oMul_i, u_oMul_l, u_oFdiv, u_oMod, u_oPow, u_oLt, u_oLe, u_oGt, u_oGe, u_oNeg, u_oEq_i, u_oEq_s, u_oNe_i, u_oNe_s, u_oIsN, u_oNotN, u_oIx_l, u_oIx_t, u_oIn, u_oInL, u_oSl_t, u_oSl_l, u_len_l, u_len_t, u_min2, u_max2, u_abs, u_list_l, u_list_t, u_tup_l, u_tup_t, u_isB, u_notB, u_sqD_l, u_sqD_t, u_sqD_s, u_seqL_l, u_frz_l, u_frz_k, u_frz_t, u_frz_o]
  refine ok_take (by decide) (by decide) fun i h2 h3 => ?_
  simp only [u_wDef, initE, u_wSeq, u_wNext, u_wAsg, u_wAsgG, u_wDrop, u_wRet, u_wRetN, u_wIfS, u_wPar, u_wAug, u_wSetL, u_wBreak, u_wCont, u_wgN, u_wgNil, u_wgCons, u_wgTup, u_wiSeq, u_wiRng1, u_wiRng2, u_wiEnum, u_wFor, u_wLc, u_wYes, u_wV, u_wK, u_wOp, u_wUn, u_wTup, u_wLst, u_wCb, u_wTst, u_wNotT, u_wAndT, u_wOrT, u_wIf, u_wAnd, u_wOr, u_wNot, u_waNil, u_waCons, u_waStar, u_wCall, u_wMeth, u_wProp, u_wFld, u_wSetF, u_wMake, u_wCallI, u_wRev, u_wSl, u_woNone, u_woSome, u_wLm, u_wRz, u_wRzA, u_wFz, u_wCaught, u_wErrF, u_wDict0, u_wLrng, gt, st, u_sett_v, u_sett_f, u_sett_t, u_one, u_two, u_int1, atI0, atI1, atI2, atI3, atI4, ixN20, ixN21, List.map_cons, List.map_nil, List.cons_append, List.nil_append, List.append_nil, List.length_cons, List.length_nil, List.replicate_succ, List.replicate_zero, Nat.add_one_sub_one, u_waPerm, u_wChain, u_wDisp1, u_wDispT, u_wDefD, u_oAdd_i, u_oAdd_s, u_oAdd_t, u_oAdd_l, u_oSub, u_oMul_i, u_oMul_l, u_oFdiv, u_oMod, u_oPow, u_oLt, u_oLe, u_oGt, u_oGe, u_oNeg, u_oEq_i, u_oEq_s, u_oNe_i, u_oNe_s, u_oIsN, u_oNotN, u_oIx_l, u_oIx_t, u_oIn, u_oInL, u_oSl_t, u_oSl_l, u_len_l, u_len_t, u_min2, u_max2, u_abs, u_list_l, u_list_t, u_tup_l, u_tup_t, u_isB, u_notB, u_sqD_l, u_sqD_t, u_sqD_s, u_seqL_l, u_frz_l, u_frz_k, u_frz_t, u_frz_o]
  by_cases h0 : i = 0
  · rw [if_pos (decide_eq_true h0)]
    refine ⟨⟨by decide, by decide⟩, by rw [rangeD_len]; decide, lc_inv (fun i acc μ' => μ' = μ ∧ ∃ ns : List Int, acc = iL ns ∧ ns.length = i ∧ ∀ n ∈ ns, n.natAbs ≤ 1000000) ⟨rfl, [], rfl, rfl, fun _ z => nomatch z⟩ ?_ ?_⟩
    · rintro k x acc μ' N hx ⟨rfl, ns, rfl, hk, hn⟩ hN
      refine ⟨trivial, ?_⟩
      simp only [u_wDef, initE, u_wSeq, u_wNext, u_wAsg, u_wAsgG, u_wDrop, u_wRet, u_wRetN, u_wIfS, u_wPar, u_wAug, u_wSetL, u_wBreak, u_wCont, u_wgN, u_wgNil, u_wgCons, u_wgTup, u_wiSeq, u_wiRng1, u_wiRng2, u_wiEnum, u_wFor, u_wLc, u_wYes, u_wV, u_wK, u_wOp, u_wUn, u_wTup, u_wLst, u_wCb, u_wTst, u_wNotT, u_wAndT, u_wOrT, u_wIf, u_wAnd, u_wOr, u_wNot, u_waNil, u_waCons, u_waStar, u_wCall, u_wMeth, u_wProp, u_wFld, u_wSetF, u_wMake, u_wCallI, u_wRev, u_wSl, u_woNone, u_woSome, u_wLm, u_wRz, u_wRzA, u_wFz, u_wCaught, u_wErrF, u_wDict0, u_wLrng, gt, st, u_sett_v, u_sett_f, u_sett_t, u_one, u_two, u_int1, atI0, atI1, atI2, atI3, atI4, ixN20, ixN21, List.map_cons, List.map_nil, List.cons_append, List.nil_append, List.append_nil, List.length_cons, List.length_nil, List.replicate_succ, List.replicate_zero, Nat.add_one_sub_one, u_waPerm, u_wChain, u_wDisp1, u_wDispT, u_wDefD, u_oAdd_i, u_oAdd_s, u_oAdd_t, u_oAdd_l, u_oSub, u_oMul_i, u_oMul_l, u_oFdiv, u_oMod, u_oPow, u_oLt, u_oLe, u_oGt, u_oGe, u_oNeg, u_oEq_i, u_oEq_s, u_oNe_i, u_oNe_s, u_oIsN, u_oNotN, u_oIx_l, u_oIx_t, u_oIn, u_oInL, u_oSl_t, u_oSl_l, u_len_l, u_len_t, u_min2, u_max2, u_abs, u_list_l, u_list_t, u_tup_l, u_tup_t, u_isB, u_notB, u_sqD_l, u_sqD_t, u_sqD_s, u_seqL_l, u_frz_l, u_frz_k, u_frz_t, u_frz_o, u_oNe0_l, u_oNe0_t, decide_true, decide_false, Bool.not_true, Bool.not_false, Bool.false_eq_true, if_true, if_false, true_and, wipeE]
      refine ⟨pow106', ok_number (by decide) (by decide) fun j hj => hN _ _ ⟨rfl, ns ++ [j], iL_snoc ns j, by rw [List.length_append, hk]; rfl, fun n hm => ?_⟩⟩
      rcases List.mem_append.mp hm with z | z
      · exact hn n z
      · rw [List.mem_singleton.mp z]
        exact hj
    · rintro acc μ' ⟨rfl, ns, rfl, hk, hn⟩
      rw [rangeD_len] at hk
      have hk7 : ns.length = 7 := hk
      have hl := M.trim_len ns
      refine ⟨trivial, by simp [sizeLine_eq], q _ (.x (M.trim ns)) ⟨⟨M.trim_trim ns, by omega, fun n hm => hn n (M.trim_mem hm)⟩, fun μ Q X hq => ?_⟩⟩
      have e : wp_law_is_low [.tup [.str "x", .list (iL ns)]] = wp_law_is_low [(Stp.x ns).b] := rfl
      unfold wp_law_step_of
      simp only [u_wDef, initE, u_wSeq, u_wNext, u_wAsg, u_wAsgG, u_wDrop, u_wRet, u_wRetN, u_wIfS, u_wPar, u_wAug, u_wSetL, u_wBreak, u_wCont, u_wgN, u_wgNil, u_wgCons, u_wgTup, u_wiSeq, u_wiRng1, u_wiRng2, u_wiEnum, u_wFor, u_wLc, u_wYes, u_wV, u_wK, u_wOp, u_wUn, u_wTup, u_wLst, u_wCb, u_wTst, u_wNotT, u_wAndT, u_wOrT, u_wIf, u_wAnd, u_wOr, u_wNot, u_waNil, u_waCons, u_waStar, u_wCall, u_wMeth, u_wProp, u_wFld, u_wSetF, u_wMake, u_wCallI, u_wRev, u_wSl, u_woNone, u_woSome, u_wLm, u_wRz, u_wRzA, u_wFz, u_wCaught, u_wErrF, u_wDict0, u_wLrng, gt, st, u_sett_v, u_sett_f, u_sett_t, u_one, u_two, u_int1, atI0, atI1, atI2, atI3, atI4, ixN20, ixN21, List.map_cons, List.map_nil, List.cons_append, List.nil_append, List.append_nil, List.length_cons, List.length_nil, List.replicate_succ, List.replicate_zero, Nat.add_one_sub_one, u_waPerm, u_wChain, u_wDisp1, u_wDispT, u_wDefD, u_oAdd_i, u_oAdd_s, u_oAdd_t, u_oAdd_l, u_oSub, u_oMul_i, u_oMul_l, u_oFdiv, u_oMod, u_oPow, u_oLt, u_oLe, u_oGt, u_oGe, u_oNeg, u_oEq_i, u_oEq_s, u_oNe_i, u_oNe_s, u_oIsN, u_oNotN, u_oIx_l, u_oIx_t, u_oIn, u_oInL, u_oSl_t, u_oSl_l, u_len_l, u_len_t, u_min2, u_max2, u_abs, u_list_l, u_list_t, u_tup_l, u_tup_t, u_isB, u_notB, u_sqD_l, u_sqD_t, u_sqD_s, u_seqL_l, u_frz_l, u_frz_k, u_frz_t, u_frz_o, e]
      refine ⟨trivial, ok_is_low ?_⟩
      simp only [u_wDef, initE, u_wSeq, u_wNext, u_wAsg, u_wAsgG, u_wDrop, u_wRet, u_wRetN, u_wIfS, u_wPar, u_wAug, u_wSetL, u_wBreak, u_wCont, u_wgN, u_wgNil, u_wgCons, u_wgTup, u_wiSeq, u_wiRng1, u_wiRng2, u_wiEnum, u_wFor, u_wLc, u_wYes, u_wV, u_wK, u_wOp, u_wUn, u_wTup, u_wLst, u_wCb, u_wTst, u_wNotT, u_wAndT, u_wOrT, u_wIf, u_wAnd, u_wOr, u_wNot, u_waNil, u_waCons, u_waStar, u_wCall, u_wMeth, u_wProp, u_wFld, u_wSetF, u_wMake, u_wCallI, u_wRev, u_wSl, u_woNone, u_woSome, u_wLm, u_wRz, u_wRzA, u_wFz, u_wCaught, u_wErrF, u_wDict0, u_wLrng, gt, st, u_sett_v, u_sett_f, u_sett_t, u_one, u_two, u_int1, atI0, atI1, atI2, atI3, atI4, ixN20, ixN21, List.map_cons, List.map_nil, List.cons_append, List.nil_append, List.append_nil, List.length_cons, List.length_nil, List.replicate_succ, List.replicate_zero, Nat.add_one_sub_one, u_waPerm, u_wChain, u_wDisp1, u_wDispT, u_wDefD, u_oAdd_i, u_oAdd_s, u_oAdd_t, u_oAdd_l, u_oSub, u_oMul_i, u_oMul_l, u_oFdiv, u_oMod, u_oPow, u_oLt, u_oLe, u_oGt, u_oGe, u_oNeg, u_oEq_i, u_oEq_s, u_oNe_i, u_oNe_s, u_oIsN, u_oNotN, u_oIx_l, u_oIx_t, u_oIn, u_oInL, u_oSl_t, u_oSl_l, u_len_l, u_len_t, u_min2, u_max2, u_abs, u_list_l, u_list_t, u_tup_l, u_tup_t, u_isB, u_notB, u_sqD_l, u_sqD_t, u_sqD_s, u_seqL_l, u_frz_l, u_frz_k, u_frz_t, u_frz_o, u_oNe0_l, u_oNe0_t, decide_true, decide_false, Bool.not_true, Bool.not_false, Bool.false_eq_true, if_true, if_false, true_and, Stp.low]
      intro p hp
      exact mkRule (ns := ns) rfl (fun _ z => by cases z) (by omega) ⟨by simp [sizeLine_eq], hq⟩ p hp
  · rw [if_neg (by simpa using h0)]
    exact q d s h
theorem s2_ok {d : D} {s : Stp} (h : Bare d s) (q : E.nx [some (.script sc), some .state, a2, some d, some s.p, a5, a6, a7] μ) : ws_0_2 [some (.script sc), some .state, a2, some d, a4, a5, a6, a7] μ E := by
  unfold ws_0_2
  simp only [u_wDef, initE, u_wSeq, u_wNext, u_wAsg, u_wAsgG, u_wDrop, u_wRet, u_wRetN, u_wIfS, u_wPar, u_wAug, u_wSetL, u_wBreak, u_wCont, u_wgN, u_wgNil, u_wgCons, u_wgTup, u_wiSeq, u_wiRng1, u_wiRng2, u_wiEnum, u_wFor, u_wLc, u_wYes, u_wV, u_wK, u_wOp, u_wUn, u_wTup, u_wLst, u_wCb, u_wTst, u_wNotT, u_wAndT, u_wOrT, u_wIf, u_wAnd, u_wOr, u_wNot, u_waNil, u_waCons, u_waStar, u_wCall, u_wMeth, u_wProp, u_wFld, u_wSetF, u_wMake, u_wCallI, u_wRev, u_wSl, u_woNone, u_woSome, u_wLm, u_wRz, u_wRzA, u_wFz, u_wCaught, u_wErrF, u_wDict0, u_wLrng, gt, st, u_sett_v, u_sett_f, u_sett_t, u_one, u_two, u_int1, atI0, atI1, atI2, atI3, atI4, ixN20, ixN21, List.map_cons, List.map_nil, List.cons_append, List.nil_append, List.append_nil, List.length_cons, List.length_nil, List.replicate_succ, List.replicate_zero, Nat.add_one_sub_one, u_waPerm, u_wChain, u_wDisp1, u_wDispT, u_wDefD, u_oAdd_i, u_oAdd_s, u_oAdd_t, u_oAdd_l, u_oSub, u_oMul_i, u_oMul_l, u_oFdiv, u_oMod, u_oPow, u_oLt, u_oLe, u_oGt, u_oGe, u_oNeg, u_oEq_i, u_oEq_s, u_oNe_i, u_oNe_s, u_oIsN, u_oNotN, u_oIx_l, u_oIx_t, u_oIn, u_oInL, u_oSl_t, u_oSl_l, u_len_l, u_len_t, u_min2, u_max2, u_abs, u_list_l, u_list_t, u_tup_l, u_tup_t, u_isB, u_notB, u_sqD_l, u_sqD_t, u_sqD_s, u_seqL_l, u_frz_l, u_frz_k, u_frz_t, u_frz_o]
  exact h.made μ _ _ q
theorem step_gk {s : Stp} (h : s.Ok 1000000) : Gk (10 ^ 60) 6 s.p := by
  have hb : ∀ i : Int, i.natAbs ≤ 1000000 → It (10 ^ 60) (.int i) := fun i hi => ⟨⟨_, rfl⟩, fun k z => by cases z; exact Nat.le_trans hi (by decide +kernel), Nat.zero_le _⟩
  have hs : ∀ w : Str, It (10 ^ 60) (.str w) := fun w => ⟨⟨_, rfl⟩, fun k z => (by cases z), Nat.zero_le _⟩
  have hr : ∀ ns : List Int, It (10 ^ 60) (ruleD ns) := fun ns => ⟨⟨_, rfl⟩, fun k z => (by cases z), by
    show dpO (.obj _ _ _) ≤ 2
    rw [dpO, dpOs, dpO, dpOs_ints, dpOs]
    decide⟩
  cases s with
  | x ns =>
    refine gk_tup (by simp) fun y hy => ?_
    simp only [List.mem_cons, List.not_mem_nil, or_false] at hy
    rcases hy with rfl | rfl
    · exact hs _
    · exact hr _
  | y ns =>
    refine gk_tup (by simp) fun y hy => ?_
    simp only [List.mem_cons, List.not_mem_nil, or_false] at hy
    rcases hy with rfl | rfl
    · exact hs _
    · exact hr _
  | move a b =>
    refine gk_tup (by simp) fun y hy => ?_
    simp only [List.mem_cons, List.not_mem_nil, or_false] at hy
    rcases hy with rfl | rfl | rfl
    · exact hs _
    · exact hb _ h.1
    · exact hb _ h.2
  | turn a b c d =>
    refine gk_tup (by simp) fun y hy => ?_
    simp only [List.mem_cons, List.not_mem_nil, or_false] at hy
    rcases hy with rfl | rfl | rfl | rfl | rfl
    · exact hs _
    · exact hb _ h.2.1
    · exact hb _ h.2.2.1
    · exact hb _ h.2.2.2.1
    · exact hb _ h.2.2.2.2
theorem s3_ok {s : Stp} (h : s.Ok 1000000) (q : E.nx [some (.script sc), some .state, a2, a3, some s.p, a5, a6, a7] μ) : ws_0_3 [some (.script sc), some .state, a2, a3, some s.p, a5, a6, a7] μ E := by
  unfold ws_0_3
  simp only [u_wDef, initE, u_wSeq, u_wNext, u_wAsg, u_wAsgG, u_wDrop, u_wRet, u_wRetN, u_wIfS, u_wPar, u_wAug, u_wSetL, u_wBreak, u_wCont, u_wgN, u_wgNil, u_wgCons, u_wgTup, u_wiSeq, u_wiRng1, u_wiRng2, u_wiEnum, u_wFor, u_wLc, u_wYes, u_wV, u_wK, u_wOp, u_wUn, u_wTup, u_wLst, u_wCb, u_wTst, u_wNotT, u_wAndT, u_wOrT, u_wIf, u_wAnd, u_wOr, u_wNot, u_waNil, u_waCons, u_waStar, u_wCall, u_wMeth, u_wProp, u_wFld, u_wSetF, u_wMake, u_wCallI, u_wRev, u_wSl, u_woNone, u_woSome, u_wLm, u_wRz, u_wRzA, u_wFz, u_wCaught, u_wErrF, u_wDict0, u_wLrng, gt, st, u_sett_v, u_sett_f, u_sett_t, u_one, u_two, u_int1, atI0, atI1, atI2, atI3, atI4, ixN20, ixN21, List.map_cons, List.map_nil, List.cons_append, List.nil_append, List.append_nil, List.length_cons, List.length_nil, List.replicate_succ, List.replicate_zero, Nat.add_one_sub_one, u_waPerm, u_wChain, u_wDisp1, u_wDispT, u_wDefD, u_oAdd_i, u_oAdd_s, u_oAdd_t, u_oAdd_l, u_oSub, u_oMul_i, u_oMul_l, u_oFdiv, u_oMod, u_oPow, u_oLt, u_oLe, u_oGt, u_oGe, u_oNeg, u_oEq_i, u_oEq_s, u_oNe_i, u_oNe_s, u_oIsN, u_oNotN, u_oIx_l, u_oIx_t, u_oIn, u_oInL, u_oSl_t, u_oSl_l, u_len_l, u_len_t, u_min2, u_max2, u_abs, u_list_l, u_list_t, u_tup_l, u_tup_t, u_isB, u_notB, u_sqD_l, u_sqD_t, u_sqD_s, u_seqL_l, u_frz_l, u_frz_k, u_frz_t, u_frz_o]
  refine ok_is_step (step_good h (by decide)).1 ?_
  rw [(step_good h (by decide)).2]
  simp only [u_wDef, initE, u_wSeq, u_wNext, u_wAsg, u_wAsgG, u_wDrop, u_wRet, u_wRetN, u_wIfS, u_wPar, u_wAug, u_wSetL, u_wBreak, u_wCont, u_wgN, u_wgNil, u_wgCons, u_wgTup, u_wiSeq, u_wiRng1, u_wiRng2, u_wiEnum, u_wFor, u_wLc, u_wYes, u_wV, u_wK, u_wOp, u_wUn, u_wTup, u_wLst, u_wCb, u_wTst, u_wNotT, u_wAndT, u_wOrT, u_wIf, u_wAnd, u_wOr, u_wNot, u_waNil, u_waCons, u_waStar, u_wCall, u_wMeth, u_wProp, u_wFld, u_wSetF, u_wMake, u_wCallI, u_wRev, u_wSl, u_woNone, u_woSome, u_wLm, u_wRz, u_wRzA, u_wFz, u_wCaught, u_wErrF, u_wDict0, u_wLrng, gt, st, u_sett_v, u_sett_f, u_sett_t, u_one, u_two, u_int1, atI0, atI1, atI2, atI3, atI4, ixN20, ixN21, List.map_cons, List.map_nil, List.cons_append, List.nil_append, List.append_nil, List.length_cons, List.length_nil, List.replicate_succ, List.replicate_zero, Nat.add_one_sub_one, u_waPerm, u_wChain, u_wDisp1, u_wDispT, u_wDefD, u_oAdd_i, u_oAdd_s, u_oAdd_t, u_oAdd_l, u_oSub, u_oMul_i, u_oMul_l, u_oFdiv, u_oMod, u_oPow, u_oLt, u_oLe, u_oGt, u_oGe, u_oNeg, u_oEq_i, u_oEq_s, u_oNe_i, u_oNe_s, u_oIsN, u_oNotN, u_oIx_l, u_oIx_t, u_oIn, u_oInL, u_oSl_t, u_oSl_l, u_len_l, u_len_t, u_min2, u_max2, u_abs, u_list_l, u_list_t, u_tup_l, u_tup_t, u_isB, u_notB, u_sqD_l, u_sqD_t, u_sqD_s, u_seqL_l, u_frz_l, u_frz_k, u_frz_t, u_frz_o, u_oNe0_l, u_oNe0_t, decide_true, decide_false, Bool.not_true, Bool.not_false, Bool.false_eq_true, if_true, if_false, true_and]
  exact q
def capI : Nat → Nat
  | 0 => 10 ^ 60
  | i + 1 => 2 * capI i + 1
theorem s4_ok {s : Stp} (h : s.Ok 1000000) (q : ∀ b5 d, Gk (10 ^ 70) 8 d → E.nx [some (.script sc), some .state, a2, a3, some d, b5, a6, a7] μ) : ws_0_4 [some (.script sc), some .state, a2, a3, some s.p, a5, a6, a7] μ E := by
  unfold ws_0_4
  simp only [u_wDef, initE, u_wSeq, u_wNext, u_wAsg, u_wAsgG, u_wDrop, u_wRet, u_wRetN, u_wIfS, u_wPar, u_wAug, u_wSetL, u_wBreak, u_wCont, u_wgN, u_wgNil, u_wgCons, u_wgTup, u_wiSeq, u_wiRng1, u_wiRng2, u_wiEnum, u_wFor, u_wLc, u_wYes, u_wV, u_wK, u_wOp, u_wUn, u_wTup, u_wLst, u_wCb, u_wTst, u_wNotT, u_wAndT, u_wOrT, u_wIf, u_wAnd, u_wOr, u_wNot, u_waNil, u_waCons, u_waStar, u_wCall, u_wMeth, u_wProp, u_wFld, u_wSetF, u_wMake, u_wCallI, u_wRev, u_wSl, u_woNone, u_woSome, u_wLm, u_wRz, u_wRzA, u_wFz, u_wCaught, u_wErrF, u_wDict0, u_wLrng, gt, st, u_sett_v, u_sett_f, u_sett_t, u_one, u_two, u_int1, atI0, atI1, atI2, atI3, atI4, ixN20, ixN21, List.map_cons, List.map_nil, List.cons_append, List.nil_append, List.append_nil, List.length_cons, List.length_nil, List.replicate_succ, List.replicate_zero, Nat.add_one_sub_one, u_waPerm, u_wChain, u_wDisp1, u_wDispT, u_wDefD, u_oAdd_i, u_oAdd_s, u_oAdd_t, u_oAdd_l, u_oSub, u_oMul_i, u_oMul_l, u_oFdiv, u_oMod, u_oPow, u_oLt, u_oLe, u_oGt, u_oGe, u_oNeg, u_oEq_i, u_oEq_s, u_oNe_i, u_oNe_s, u_oIsN, u_oNotN, u_oIx_l, u_oIx_t, u_oIn, u_oInL, u_oSl_t, u_oSl_l, u_len_l, u_len_t, u_min2, u_max2, u_abs, u_list_l, u_list_t, u_tup_l, u_tup_t, u_isB, u_notB, u_sqD_l, u_sqD_t, u_sqD_s, u_seqL_l, u_frz_l, u_frz_k, u_frz_t, u_frz_o]
  refine ⟨by decide, ok_pick rfl (fun z => by cases z) (by simp) fun x hx => ?_⟩
  have hx2 : ∃ n : Nat, x = .int (n : Int) ∧ n ≤ 2 := by
    simp only [List.mem_cons, List.not_mem_nil, or_false] at hx
    rcases hx with rfl | rfl | rfl | rfl
    · exact ⟨0, rfl, by decide⟩
    · exact ⟨1, rfl, by decide⟩
    · exact ⟨1, rfl, by decide⟩
    · exact ⟨2, rfl, by decide⟩
  obtain ⟨n, rfl, hn⟩ := hx2
  simp only [u_wDef, initE, u_wSeq, u_wNext, u_wAsg, u_wAsgG, u_wDrop, u_wRet, u_wRetN, u_wIfS, u_wPar, u_wAug, u_wSetL, u_wBreak, u_wCont, u_wgN, u_wgNil, u_wgCons, u_wgTup, u_wiSeq, u_wiRng1, u_wiRng2, u_wiEnum, u_wFor, u_wLc, u_wYes, u_wV, u_wK, u_wOp, u_wUn, u_wTup, u_wLst, u_wCb, u_wTst, u_wNotT, u_wAndT, u_wOrT, u_wIf, u_wAnd, u_wOr, u_wNot, u_waNil, u_waCons, u_waStar, u_wCall, u_wMeth, u_wProp, u_wFld, u_wSetF, u_wMake, u_wCallI, u_wRev, u_wSl, u_woNone, u_woSome, u_wLm, u_wRz, u_wRzA, u_wFz, u_wCaught, u_wErrF, u_wDict0, u_wLrng, gt, st, u_sett_v, u_sett_f, u_sett_t, u_one, u_two, u_int1, atI0, atI1, atI2, atI3, atI4, ixN20, ixN21, List.map_cons, List.map_nil, List.cons_append, List.nil_append, List.append_nil, List.length_cons, List.length_nil, List.replicate_succ, List.replicate_zero, Nat.add_one_sub_one, u_waPerm, u_wChain, u_wDisp1, u_wDispT, u_wDefD, u_oAdd_i, u_oAdd_s, u_oAdd_t, u_oAdd_l, u_oSub, u_oMul_i, u_oMul_l, u_oFdiv, u_oMod, u_oPow, u_oLt, u_oLe, u_oGt, u_oGe, u_oNeg, u_oEq_i, u_oEq_s, u_oNe_i, u_oNe_s, u_oIsN, u_oNotN, u_oIx_l, u_oIx_t, u_oIn, u_oInL, u_oSl_t, u_oSl_l, u_len_l, u_len_t, u_min2, u_max2, u_abs, u_list_l, u_list_t, u_tup_l, u_tup_t, u_isB, u_notB, u_sqD_l, u_sqD_t, u_sqD_s, u_seqL_l, u_frz_l, u_frz_k, u_frz_t, u_frz_o]
  refine ⟨⟨by omega, by omega⟩, by rw [rangeD_len, Int.toNat_natCast]; omega, for_inv (fun i e μ' => μ' = μ ∧ ∃ b5 d, e = [some (.script sc), some .state, a2, a3, some d, b5, a6, a7] ∧ Gk (capI i) (6 + i) d) ⟨rfl, _, _, rfl, step_gk h⟩ ?_ ?_⟩
  · rintro i y e μ' N hy ⟨rfl, b5, d, rfl, hd⟩ hN
    have hi : i < 2 := by
      have := (List.getElem?_eq_some_iff.mp hy).1
      rw [rangeD_len, Int.toNat_natCast] at this
      omega
    have hc : 10 ^ 60 ≤ capI i ∧ capI i ≤ 10 ^ 65 := by
      rcases (by omega : i = 0 ∨ i = 1) with rfl | rfl <;> (constructor <;> decide +kernel)
    refine ⟨trivial, ?_⟩
    simp only [u_wDef, initE, u_wSeq, u_wNext, u_wAsg, u_wAsgG, u_wDrop, u_wRet, u_wRetN, u_wIfS, u_wPar, u_wAug, u_wSetL, u_wBreak, u_wCont, u_wgN, u_wgNil, u_wgCons, u_wgTup, u_wiSeq, u_wiRng1, u_wiRng2, u_wiEnum, u_wFor, u_wLc, u_wYes, u_wV, u_wK, u_wOp, u_wUn, u_wTup, u_wLst, u_wCb, u_wTst, u_wNotT, u_wAndT, u_wOrT, u_wIf, u_wAnd, u_wOr, u_wNot, u_waNil, u_waCons, u_waStar, u_wCall, u_wMeth, u_wProp, u_wFld, u_wSetF, u_wMake, u_wCallI, u_wRev, u_wSl, u_woNone, u_woSome, u_wLm, u_wRz, u_wRzA, u_wFz, u_wCaught, u_wErrF, u_wDict0, u_wLrng, gt, st, u_sett_v, u_sett_f, u_sett_t, u_one, u_two, u_int1, atI0, atI1, atI2, atI3, atI4, ixN20, ixN21, List.map_cons, List.map_nil, List.cons_append, List.nil_append, List.append_nil, List.length_cons, List.length_nil, List.replicate_succ, List.replicate_zero, Nat.add_one_sub_one, u_waPerm, u_wChain, u_wDisp1, u_wDispT, u_wDefD, u_oAdd_i, u_oAdd_s, u_oAdd_t, u_oAdd_l, u_oSub, u_oMul_i, u_oMul_l, u_oFdiv, u_oMod, u_oPow, u_oLt, u_oLe, u_oGt, u_oGe, u_oNeg, u_oEq_i, u_oEq_s, u_oNe_i, u_oNe_s, u_oIsN, u_oNotN, u_oIx_l, u_oIx_t, u_oIn, u_oInL, u_oSl_t, u_oSl_l, u_len_l, u_len_t, u_min2, u_max2, u_abs, u_list_l, u_list_t, u_tup_l, u_tup_t, u_isB, u_notB, u_sqD_l, u_sqD_t, u_sqD_s, u_seqL_l, u_frz_l, u_frz_k, u_frz_t, u_frz_o]
    exact ok_bent hc.1 hc.2 (by omega) (by omega) hd fun d' hd' => hN _ _ ⟨rfl, _, d', rfl, hd'⟩
  · rintro e μ' ⟨rfl, b5, d, rfl, hd⟩
    rw [rangeD_len, Int.toNat_natCast] at hd
    refine ⟨trivial, q _ d ⟨hd.ty, fun ds e => Nat.le_trans (hd.len ds e) (by omega), fun ds e x hx => (hd.items ds e x hx).up ?_, hd.dp⟩⟩
    rcases (by omega : n = 0 ∨ n = 1 ∨ n = 2) with rfl | rfl | rfl <;> decide +kernel
theorem s5_ok {d : D} (h : Gk (10 ^ 70) 8 d) (q : E.nx [some (.script sc), some .state, a2, a3, some d, a5, some (.bool (stepB d)), a7] μ) : ws_0_5 [some (.script sc), some .state, a2, a3, some d, a5, a6, a7] μ E := by
  unfold ws_0_5
  simp only [u_wDef, initE, u_wSeq, u_wNext, u_wAsg, u_wAsgG, u_wDrop, u_wRet, u_wRetN, u_wIfS, u_wPar, u_wAug, u_wSetL, u_wBreak, u_wCont, u_wgN, u_wgNil, u_wgCons, u_wgTup, u_wiSeq, u_wiRng1, u_wiRng2, u_wiEnum, u_wFor, u_wLc, u_wYes, u_wV, u_wK, u_wOp, u_wUn, u_wTup, u_wLst, u_wCb, u_wTst, u_wNotT, u_wAndT, u_wOrT, u_wIf, u_wAnd, u_wOr, u_wNot, u_waNil, u_waCons, u_waStar, u_wCall, u_wMeth, u_wProp, u_wFld, u_wSetF, u_wMake, u_wCallI, u_wRev, u_wSl, u_woNone, u_woSome, u_wLm, u_wRz, u_wRzA, u_wFz, u_wCaught, u_wErrF, u_wDict0, u_wLrng, gt, st, u_sett_v, u_sett_f, u_sett_t, u_one, u_two, u_int1, atI0, atI1, atI2, atI3, atI4, ixN20, ixN21, List.map_cons, List.map_nil, List.cons_append, List.nil_append, List.append_nil, List.length_cons, List.length_nil, List.replicate_succ, List.replicate_zero, Nat.add_one_sub_one, u_waPerm, u_wChain, u_wDisp1, u_wDispT, u_wDefD, u_oAdd_i, u_oAdd_s, u_oAdd_t, u_oAdd_l, u_oSub, u_oMul_i, u_oMul_l, u_oFdiv, u_oMod, u_oPow, u_oLt, u_oLe, u_oGt, u_oGe, u_oNeg, u_oEq_i, u_oEq_s, u_oNe_i, u_oNe_s, u_oIsN, u_oNotN, u_oIx_l, u_oIx_t, u_oIn, u_oInL, u_oSl_t, u_oSl_l, u_len_l, u_len_t, u_min2, u_max2, u_abs, u_list_l, u_list_t, u_tup_l, u_tup_t, u_isB, u_notB, u_sqD_l, u_sqD_t, u_sqD_s, u_seqL_l, u_frz_l, u_frz_k, u_frz_t, u_frz_o]
  exact ok_law_is_step (h.good (Nat.le_refl _) (by decide)) (by have := h.dp; omega) q
theorem sh_b2 (a b : Bool) : Sh 1000 1 (pd (.list [.bool a, .bool b])) := by
  rw [pd, pds, pds, pds]
  refine (sh_list (m := 2) (L := 5) (k := 0) (fun p hp => ?_) (Nat.le_refl _)).up (by decide) (by decide)
  simp only [List.mem_cons, List.not_mem_nil, or_false] at hp
  rcases hp with rfl | rfl <;> (rw [pd]; exact sh_bool (Nat.le_refl _))
theorem s6_ok {d : D} (h : Gk (10 ^ 70) 8 d) (q : E.nx [some (.script sc), some .state, a2, a3, some d, a5, some (.bool (stepB d)), a7] μ) : ws_0_6 [some (.script sc), some .state, a2, a3, some d, a5, some (.bool (stepB d)), a7] μ E := by
  have hg := h.good (Nat.le_refl _) (by decide)
  unfold ws_0_6
  simp only [u_wDef, initE, u_wSeq, u_wNext, u_wAsg, u_wAsgG, u_wDrop, u_wRet, u_wRetN, u_wIfS, u_wPar, u_wAug, u_wSetL, u_wBreak, u_wCont, u_wgN, u_wgNil, u_wgCons, u_wgTup, u_wiSeq, u_wiRng1, u_wiRng2, u_wiEnum, u_wFor, u_wLc, u_wYes, u_wV, u_wK, u_wOp, u_wUn, u_wTup, u_wLst, u_wCb, u_wTst, u_wNotT, u_wAndT, u_wOrT, u_wIf, u_wAnd, u_wOr, u_wNot, u_waNil, u_waCons, u_waStar, u_wCall, u_wMeth, u_wProp, u_wFld, u_wSetF, u_wMake, u_wCallI, u_wRev, u_wSl, u_woNone, u_woSome, u_wLm, u_wRz, u_wRzA, u_wFz, u_wCaught, u_wErrF, u_wDict0, u_wLrng, gt, st, u_sett_v, u_sett_f, u_sett_t, u_one, u_two, u_int1, atI0, atI1, atI2, atI3, atI4, ixN20, ixN21, List.map_cons, List.map_nil, List.cons_append, List.nil_append, List.append_nil, List.length_cons, List.length_nil, List.replicate_succ, List.replicate_zero, Nat.add_one_sub_one, u_waPerm, u_wChain, u_wDisp1, u_wDispT, u_wDefD, u_oAdd_i, u_oAdd_s, u_oAdd_t, u_oAdd_l, u_oSub, u_oMul_i, u_oMul_l, u_oFdiv, u_oMod, u_oPow, u_oLt, u_oLe, u_oGt, u_oGe, u_oNeg, u_oEq_i, u_oEq_s, u_oNe_i, u_oNe_s, u_oIsN, u_oNotN, u_oIx_l, u_oIx_t, u_oIn, u_oInL, u_oSl_t, u_oSl_l, u_len_l, u_len_t, u_min2, u_max2, u_abs, u_list_l, u_list_t, u_tup_l, u_tup_t, u_isB, u_notB, u_sqD_l, u_sqD_t, u_sqD_s, u_seqL_l, u_frz_l, u_frz_k, u_frz_t, u_frz_o, u_oNe0_l, u_oNe0_t, decide_true, decide_false, Bool.not_true, Bool.not_false, Bool.false_eq_true, if_true, if_false, true_and]
  refine ok_is_step hg ?_
  rw [show permD D.none [0] [d] = [d] from rfl]
  refine ok_is_step hg ⟨by simp [sizeLine_eq], ?_⟩
  refine ok_repr rfl rfl (sh_b2 _ _) (by decide) (by decide) ?_
  simp only [u_wDef, initE, u_wSeq, u_wNext, u_wAsg, u_wAsgG, u_wDrop, u_wRet, u_wRetN, u_wIfS, u_wPar, u_wAug, u_wSetL, u_wBreak, u_wCont, u_wgN, u_wgNil, u_wgCons, u_wgTup, u_wiSeq, u_wiRng1, u_wiRng2, u_wiEnum, u_wFor, u_wLc, u_wYes, u_wV, u_wK, u_wOp, u_wUn, u_wTup, u_wLst, u_wCb, u_wTst, u_wNotT, u_wAndT, u_wOrT, u_wIf, u_wAnd, u_wOr, u_wNot, u_waNil, u_waCons, u_waStar, u_wCall, u_wMeth, u_wProp, u_wFld, u_wSetF, u_wMake, u_wCallI, u_wRev, u_wSl, u_woNone, u_woSome, u_wLm, u_wRz, u_wRzA, u_wFz, u_wCaught, u_wErrF, u_wDict0, u_wLrng, gt, st, u_sett_v, u_sett_f, u_sett_t, u_one, u_two, u_int1, atI0, atI1, atI2, atI3, atI4, ixN20, ixN21, List.map_cons, List.map_nil, List.cons_append, List.nil_append, List.append_nil, List.length_cons, List.length_nil, List.replicate_succ, List.replicate_zero, Nat.add_one_sub_one, u_waPerm, u_wChain, u_wDisp1, u_wDispT, u_wDefD, u_oAdd_i, u_oAdd_s, u_oAdd_t, u_oAdd_l, u_oSub, u_oMul_i, u_oMul_l, u_oFdiv, u_oMod, u_oPow, u_oLt, u_oLe, u_oGt, u_oGe, u_oNeg, u_oEq_i, u_oEq_s, u_oNe_i, u_oNe_s, u_oIsN, u_oNotN, u_oIx_l, u_oIx_t, u_oIn, u_oInL, u_oSl_t, u_oSl_l, u_len_l, u_len_t, u_min2, u_max2, u_abs, u_list_l, u_list_t, u_tup_l, u_tup_t, u_isB, u_notB, u_sqD_l, u_sqD_t, u_sqD_s, u_seqL_l, u_frz_l, u_frz_k, u_frz_t, u_frz_o, u_oNe0_l, u_oNe0_t, decide_true, decide_false, Bool.not_true, Bool.not_false, Bool.false_eq_true, if_true, if_false, true_and]
  refine ⟨by simp [sizeLine_eq], ok_repr rfl rfl (sh_b2 _ _) (by decide) (by decide) ?_⟩
  simp only [u_wDef, initE, u_wSeq, u_wNext, u_wAsg, u_wAsgG, u_wDrop, u_wRet, u_wRetN, u_wIfS, u_wPar, u_wAug, u_wSetL, u_wBreak, u_wCont, u_wgN, u_wgNil, u_wgCons, u_wgTup, u_wiSeq, u_wiRng1, u_wiRng2, u_wiEnum, u_wFor, u_wLc, u_wYes, u_wV, u_wK, u_wOp, u_wUn, u_wTup, u_wLst, u_wCb, u_wTst, u_wNotT, u_wAndT, u_wOrT, u_wIf, u_wAnd, u_wOr, u_wNot, u_waNil, u_waCons, u_waStar, u_wCall, u_wMeth, u_wProp, u_wFld, u_wSetF, u_wMake, u_wCallI, u_wRev, u_wSl, u_woNone, u_woSome, u_wLm, u_wRz, u_wRzA, u_wFz, u_wCaught, u_wErrF, u_wDict0, u_wLrng, gt, st, u_sett_v, u_sett_f, u_sett_t, u_one, u_two, u_int1, atI0, atI1, atI2, atI3, atI4, ixN20, ixN21, List.map_cons, List.map_nil, List.cons_append, List.nil_append, List.append_nil, List.length_cons, List.length_nil, List.replicate_succ, List.replicate_zero, Nat.add_one_sub_one, u_waPerm, u_wChain, u_wDisp1, u_wDispT, u_wDefD, u_oAdd_i, u_oAdd_s, u_oAdd_t, u_oAdd_l, u_oSub, u_oMul_i, u_oMul_l, u_oFdiv, u_oMod, u_oPow, u_oLt, u_oLe, u_oGt, u_oGe, u_oNeg, u_oEq_i, u_oEq_s, u_oNe_i, u_oNe_s, u_oIsN, u_oNotN, u_oIx_l, u_oIx_t, u_oIn, u_oInL, u_oSl_t, u_oSl_l, u_len_l, u_len_t, u_min2, u_max2, u_abs, u_list_l, u_list_t, u_tup_l, u_tup_t, u_isB, u_notB, u_sqD_l, u_sqD_t, u_sqD_s, u_seqL_l, u_frz_l, u_frz_k, u_frz_t, u_frz_o, u_oNe0_l, u_oNe0_t, decide_true, decide_false, Bool.not_true, Bool.not_false, Bool.false_eq_true, if_true, if_false, true_and]
  exact q
end
theorem turn_ok {μ : Mu} {E : WEnds} {sc : List Int} {a2 a3 a4 a5 a6 a7 : Option D} (q : ∀ a2 a3 a4 a5 a6 a7 μ', E.nx [some (.script sc), some .state, a2, a3, a4, a5, a6, a7] μ') : wb_0 [some (.script sc), some .state, a2, a3, a4, a5, a6, a7] μ E := by
  unfold wb_0
  simp only [u_wSeq]
  exact s0_ok fun d s h => s1_ok h fun d s h => s2_ok h (s3_ok h.ok (s4_ok h.ok fun b5 d hd => s5_ok hd (s6_ok hd (q _ _ _ _ _ _ _))))
theorem law_ok : ∀ ns : List Int, ns.length ≤ 63 → wr_law (some (.script ns) :: some .state :: List.replicate (8 - 2) Option.none) (fun _ => Option.none) lawEnds := by
  intro sc hl
  unfold wr_law ws_0 ws_1
  have el : cbLen [.script sc] = fun μ Q _ => Q (.v (.int sc.length)) μ := by
    funext μ Q X
    simp [cbLen, one, sqD, iL_len]
  simp only [u_wDef, initE, u_wSeq, u_wNext, u_wAsg, u_wAsgG, u_wDrop, u_wRet, u_wRetN, u_wIfS, u_wPar, u_wAug, u_wSetL, u_wBreak, u_wCont, u_wgN, u_wgNil, u_wgCons, u_wgTup, u_wiSeq, u_wiRng1, u_wiRng2, u_wiEnum, u_wFor, u_wLc, u_wYes, u_wV, u_wK, u_wOp, u_wUn, u_wTup, u_wLst, u_wCb, u_wTst, u_wNotT, u_wAndT, u_wOrT, u_wIf, u_wAnd, u_wOr, u_wNot, u_waNil, u_waCons, u_waStar, u_wCall, u_wMeth, u_wProp, u_wFld, u_wSetF, u_wMake, u_wCallI, u_wRev, u_wSl, u_woNone, u_woSome, u_wLm, u_wRz, u_wRzA, u_wFz, u_wCaught, u_wErrF, u_wDict0, u_wLrng, gt, st, u_sett_v, u_sett_f, u_sett_t, u_one, u_two, u_int1, atI0, atI1, atI2, atI3, atI4, ixN20, ixN21, List.map_cons, List.map_nil, List.cons_append, List.nil_append, List.append_nil, List.length_cons, List.length_nil, List.replicate_succ, List.replicate_zero, Nat.add_one_sub_one, u_waPerm, u_wChain, u_wDisp1, u_wDispT, u_wDefD, u_oAdd_i, u_oAdd_s, u_oAdd_t, u_oAdd_l, u_oSub, u_oMul_i, u_oMul_l, u_oFdiv, u_oMod, u_oPow, u_oLt, u_oLe, u_oGt, u_oGe, u_oNeg, u_oEq_i, u_oEq_s, u_oNe_i, u_oNe_s, u_oIsN, u_oNotN, u_oIx_l, u_oIx_t, u_oIn, u_oInL, u_oSl_t, u_oSl_l, u_len_l, u_len_t, u_min2, u_max2, u_abs, u_list_l, u_list_t, u_tup_l, u_tup_t, u_isB, u_notB, u_sqD_l, u_sqD_t, u_sqD_s, u_seqL_l, u_frz_l, u_frz_k, u_frz_t, u_frz_o, el]
  refine ⟨⟨by split <;> omega, by split <;> omega⟩, by rw [rangeD_len]; split <;> omega, ?_⟩
  refine for_inv (fun i e μ' => ∃ a2 a3 a4 a5 a6 a7, e = [some (.script sc), some .state, a2, a3, a4, a5, a6, a7]) ⟨_, _, _, _, _, _, rfl⟩ ?_ ?_
  · rintro i x e μ' N hx ⟨a2, a3, a4, a5, a6, a7, rfl⟩ hN
    refine ⟨trivial, ?_⟩
    simp only [u_wgN]
    show wb_0 [some (.script sc), some .state, some x, a3, a4, a5, a6, a7] μ' _
    exact turn_ok fun a2 a3 a4 a5 a6 a7 μ2 => hN _ _ ⟨_, _, _, _, _, _, rfl⟩
  · rintro e μ' ⟨a2, a3, a4, a5, a6, a7, rfl⟩
    exact ⟨trivial, rfl⟩
end DL

set_option Elab.async false
set_option linter.all false
set_option maxRecDepth 100000
set_option maxHeartbeats 0
set_option exponentiation.threshold 100000
namespace KLaw
open PySem PySem.Spec PyProof.Rows L2 DL
def topS (i : Nat) : Stmt := PySem.Challenge.pw_crossadds_k19_steps_judged.main.body.getD i (.Pass ⟨0, 0, 0, 0⟩)
abbrev nsL : List Str := ["Rule"]
abbrev esL : List Str := ["CrossError", "BadRule", "BadPower"]
theorem n_Rule : ("Rule" : Str) ∈ nsL := by decide
theorem e_CrossError : ("CrossError" : Str) ∈ esL := by decide
theorem e_BadRule : ("BadRule" : Str) ∈ esL := by decide
theorem e_BadPower : ("BadPower" : Str) ∈ esL := by decide
theorem i_Rule : ("Rule" : Str) ∈ nsL ++ esL := by decide
theorem i_CrossError : ("CrossError" : Str) ∈ nsL ++ esL := by decide
theorem i_BadRule : ("BadRule" : Str) ∈ nsL ++ esL := by decide
theorem i_BadPower : ("BadPower" : Str) ∈ nsL ++ esL := by decide
abbrev tf : List (PySem.W.Frag → Addr) := []
abbrev cx (K : PySem.W.Frag) : DL.Ctx := { K := K, cl := He.ga K, tb := [], ns := nsL, es := esL }
abbrev N_law_mixed : List Str := ["_law_state", "_law_turn_here", "_law_found", "_law_prime", "_law_blend", "_law_cell"]
theorem sc_law_mixed : FnScope N_law_mixed ["_law_state"] (defScope (topS 18)) := ⟨rfl, rfl, rfl, by decide +kernel, rfl, by decide +kernel, by decide +kernel⟩
def d_law_mixed : DefX := ⟨fun K => (He.ga K "_law_mixed"), "_law_mixed", "_law_mixed", defArgs (topS 18), defBody (topS 18), defScope (topS 18), []⟩
abbrev N_law_take : List Str := ["_law_state", "_law_size", "_law_found"]
theorem sc_law_take : FnScope N_law_take ["_law_state", "_law_size"] (defScope (topS 19)) := ⟨rfl, rfl, rfl, by decide +kernel, rfl, by decide +kernel, by decide +kernel⟩
def d_law_take : DefX := ⟨fun K => (He.ga K "_law_take"), "_law_take", "_law_take", defArgs (topS 19), defBody (topS 19), defScope (topS 19), []⟩
abbrev N_law_pick : List Str := ["_law_state", "_law_some"]
theorem sc_law_pick : FnScope N_law_pick ["_law_state", "_law_some"] (defScope (topS 20)) := ⟨rfl, rfl, rfl, by decide +kernel, rfl, by decide +kernel, by decide +kernel⟩
def d_law_pick : DefX := ⟨fun K => (He.ga K "_law_pick"), "_law_pick", "_law_pick", defArgs (topS 20), defBody (topS 20), defScope (topS 20), []⟩
abbrev N_law_number : List Str := ["_law_state", "_law_great", "_law_size"]
theorem sc_law_number : FnScope N_law_number ["_law_state", "_law_great"] (defScope (topS 21)) := ⟨rfl, rfl, rfl, by decide +kernel, rfl, by decide +kernel, by decide +kernel⟩
def d_law_number : DefX := ⟨fun K => (He.ga K "_law_number"), "_law_number", "_law_number", defArgs (topS 21), defBody (topS 21), defScope (topS 21), []⟩
abbrev N_law_turn : List Str := ["_law_state", "_law_great", "_law_rows", "_law_lap", "_law_many", "_law_side", "_law_mate"]
theorem sc_law_turn : FnScope N_law_turn ["_law_state", "_law_great"] (defScope (topS 26)) := ⟨rfl, rfl, rfl, by decide +kernel, rfl, by decide +kernel, by decide +kernel⟩
def d_law_turn : DefX := ⟨fun K => (He.ga K "_law_turn"), "_law_turn", "_law_turn", defArgs (topS 26), defBody (topS 26), defScope (topS 26), []⟩
abbrev N_law_trimmed : List Str := ["_law_row", "_law_left"]
theorem sc_law_trimmed : FnScope N_law_trimmed ["_law_row"] (defScope (topS 23)) := ⟨rfl, rfl, rfl, by decide +kernel, rfl, by decide +kernel, by decide +kernel⟩
def d_law_trimmed : DefX := ⟨fun K => (He.ga K "_law_trimmed"), "_law_trimmed", "_law_trimmed", defArgs (topS 23), defBody (topS 23), defScope (topS 23), []⟩
abbrev N_law_rule : List Str := ["_law_state", "_law_most", "_law_great", "_law_place"]
theorem sc_law_rule : FnScope N_law_rule ["_law_state", "_law_most", "_law_great"] (defScope (topS 24)) := ⟨rfl, rfl, rfl, by decide +kernel, rfl, by decide +kernel, by decide +kernel⟩
def d_law_rule : DefX := ⟨fun K => (He.ga K "_law_rule"), "_law_rule", "_law_rule", defArgs (topS 24), defBody (topS 24), defScope (topS 24), []⟩
abbrev N_law_step : List Str := ["_law_state", "_law_room", "_law_great", "_law_word"]
theorem sc_law_step : FnScope N_law_step ["_law_state", "_law_room", "_law_great"] (defScope (topS 27)) := ⟨rfl, rfl, rfl, by decide +kernel, rfl, by decide +kernel, by decide +kernel⟩
def d_law_step : DefX := ⟨fun K => (He.ga K "_law_step"), "_law_step", "_law_step", defArgs (topS 27), defBody (topS 27), defScope (topS 27), []⟩
abbrev N_law_is_low : List Str := ["_law_step_here"]
theorem sc_law_is_low : FnScope N_law_is_low ["_law_step_here"] (defScope (topS 25)) := ⟨rfl, rfl, rfl, by decide +kernel, rfl, by decide +kernel, by decide +kernel⟩
def d_law_is_low : DefX := ⟨fun K => (He.ga K "_law_is_low"), "_law_is_low", "_law_is_low", defArgs (topS 25), defBody (topS 25), defScope (topS 25), []⟩
abbrev N_is_list : List Str := ["thing"]
theorem sc_is_list : FnScope N_is_list ["thing"] (defScope (topS 8)) := ⟨rfl, rfl, rfl, by decide +kernel, rfl, by decide +kernel, by decide +kernel⟩
def d_is_list : DefX := ⟨fun K => (He.ga K "is_list"), "is_list", "is_list", defArgs (topS 8), defBody (topS 8), defScope (topS 8), []⟩
abbrev N_is_number : List Str := ["thing"]
theorem sc_is_number : FnScope N_is_number ["thing"] (defScope (topS 6)) := ⟨rfl, rfl, rfl, by decide +kernel, rfl, by decide +kernel, by decide +kernel⟩
def d_is_number : DefX := ⟨fun K => (He.ga K "is_number"), "is_number", "is_number", defArgs (topS 6), defBody (topS 6), defScope (topS 6), []⟩
abbrev N_without_end : List Str := ["numbers", "many"]
theorem sc_without_end : FnScope N_without_end ["numbers"] (defScope (topS 9)) := ⟨rfl, rfl, rfl, by decide +kernel, rfl, by decide +kernel, by decide +kernel⟩
def d_without_end : DefX := ⟨fun K => (He.ga K "without_end"), "without_end", "without_end", defArgs (topS 9), defBody (topS 9), defScope (topS 9), []⟩
abbrev N_Rule___init__ : List Str := ["self", "coefficients", "at", "number"]
theorem sc_Rule___init__ : FnScope N_Rule___init__ ["self", "coefficients"] (defScope (inClass (topS 10) 0)) := ⟨rfl, rfl, rfl, by decide +kernel, rfl, by decide +kernel, by decide +kernel⟩
def d_Rule___init__ : DefX := ⟨fun K => (He.ma K (He.ga K "Rule") "__init__"), "__init__", "Rule.__init__", defArgs (inClass (topS 10) 0), defBody (inClass (topS 10) 0), defScope (inClass (topS 10) 0), [.adr (fun K => He.dflAt ("Rule", some "__init__") 0 K)]⟩
abbrev N_law_step_of : List Str := ["_law_step_here"]
theorem sc_law_step_of : FnScope N_law_step_of ["_law_step_here"] (defScope (topS 28)) := ⟨rfl, rfl, rfl, by decide +kernel, rfl, by decide +kernel, by decide +kernel⟩
def d_law_step_of : DefX := ⟨fun K => (He.ga K "_law_step_of"), "_law_step_of", "_law_step_of", defArgs (topS 28), defBody (topS 28), defScope (topS 28), []⟩
abbrev N_is_step : List Str := ["thing", "number"]
theorem sc_is_step : FnScope N_is_step ["thing"] (defScope (topS 15)) := ⟨rfl, rfl, rfl, by decide +kernel, rfl, by decide +kernel, by decide +kernel⟩
def d_is_step : DefX := ⟨fun K => (He.ga K "is_step"), "is_step", "is_step", defArgs (topS 15), defBody (topS 15), defScope (topS 15), []⟩
abbrev N_Rule___eq__ : List Str := ["self", "other"]
theorem sc_Rule___eq__ : FnScope N_Rule___eq__ ["self", "other"] (defScope (inClass (topS 10) 12)) := ⟨rfl, rfl, rfl, by decide +kernel, rfl, by decide +kernel, by decide +kernel⟩
def d_Rule___eq__ : DefX := ⟨fun K => (He.ma K (He.ga K "Rule") "__eq__"), "__eq__", "Rule.__eq__", defArgs (inClass (topS 10) 12), defBody (inClass (topS 10) 12), defScope (inClass (topS 10) 12), []⟩
abbrev N_law_odd : List Str := ["_law_state", "_law_some"]
theorem sc_law_odd : FnScope N_law_odd ["_law_state"] (defScope (topS 29)) := ⟨rfl, rfl, rfl, by decide +kernel, rfl, by decide +kernel, by decide +kernel⟩
def d_law_odd : DefX := ⟨fun K => (He.ga K "_law_odd"), "_law_odd", "_law_odd", defArgs (topS 29), defBody (topS 29), defScope (topS 29), []⟩
abbrev N_law_is_number : List Str := ["_law_thing_here"]
theorem sc_law_is_number : FnScope N_law_is_number ["_law_thing_here"] (defScope (topS 22)) := ⟨rfl, rfl, rfl, by decide +kernel, rfl, by decide +kernel, by decide +kernel⟩
def d_law_is_number : DefX := ⟨fun K => (He.ga K "_law_is_number"), "_law_is_number", "_law_is_number", defArgs (topS 22), defBody (topS 22), defScope (topS 22), []⟩
abbrev N_law_bent : List Str := ["_law_state", "_law_thing_here", "_law_line", "_law_way", "_law_spot", "_law_number_here"]
theorem sc_law_bent : FnScope N_law_bent ["_law_state", "_law_thing_here"] (defScope (topS 31)) := ⟨rfl, rfl, rfl, by decide +kernel, rfl, by decide +kernel, by decide +kernel⟩
def d_law_bent : DefX := ⟨fun K => (He.ga K "_law_bent"), "_law_bent", "_law_bent", defArgs (topS 31), defBody (topS 31), defScope (topS 31), []⟩
abbrev N_law_is_step : List Str := ["_law_thing_here", "_law_word", "_law_rest", "_law_piece"]
theorem sc_law_is_step : FnScope N_law_is_step ["_law_thing_here"] (defScope (topS 30)) := ⟨rfl, rfl, rfl, by decide +kernel, rfl, by decide +kernel, by decide +kernel⟩
def d_law_is_step : DefX := ⟨fun K => (He.ga K "_law_is_step"), "_law_is_step", "_law_is_step", defArgs (topS 30), defBody (topS 30), defScope (topS 30), []⟩
abbrev N_law_begun : List Str := ["_law_script", "_law_wide", "_law_cell"]
theorem sc_law_begun : FnScope N_law_begun ["_law_script"] (defScope (topS 17)) := ⟨rfl, rfl, rfl, by decide +kernel, rfl, by decide +kernel, by decide +kernel⟩
def d_law_begun : DefX := ⟨fun K => (He.ga K "_law_begun"), "_law_begun", "_law_begun", defArgs (topS 17), defBody (topS 17), defScope (topS 17), []⟩
abbrev N_law : List Str := ["_law_script", "_law_state", "_law_turn_here", "_law_step_here", "_law_thing_here", "_law_change", "_law_due", "_law_place"]
theorem sc_law : FnScope N_law ["_law_script"] (defScope (topS 32)) := ⟨rfl, rfl, rfl, by decide +kernel, rfl, by decide +kernel, by decide +kernel⟩
def d_law : DefX := ⟨fun K => (He.ga K "law"), "law", "law", defArgs (topS 32), defBody (topS 32), defScope (topS 32), []⟩
abbrev N_BadRule___init__ : List Str := ["self", "at"]
theorem sc_BadRule___init__ : FnScope N_BadRule___init__ ["self", "at"] (defScope (inClass (topS 3) 0)) := ⟨rfl, rfl, rfl, by decide +kernel, rfl, by decide +kernel, by decide +kernel⟩
def d_BadRule___init__ : DefX := ⟨fun K => (He.ma K (He.ga K "BadRule") "__init__"), "__init__", "BadRule.__init__", defArgs (inClass (topS 3) 0), defBody (inClass (topS 3) 0), defScope (inClass (topS 3) 0), []⟩
structure Tx (K : PySem.W.Frag) (mg : Str → Option Value) : Prop where
  g_BadRule : mg "BadRule" = some (.ref (He.ga K "BadRule"))
  g_CrossError : mg "CrossError" = some (.ref (He.ga K "CrossError"))
  g_Rule : mg "Rule" = some (.ref (He.ga K "Rule"))
  g__law_begun : mg "_law_begun" = some (.ref (He.ga K "_law_begun"))
  g__law_bent : mg "_law_bent" = some (.ref (He.ga K "_law_bent"))
  g__law_is_low : mg "_law_is_low" = some (.ref (He.ga K "_law_is_low"))
  g__law_is_number : mg "_law_is_number" = some (.ref (He.ga K "_law_is_number"))
  g__law_is_step : mg "_law_is_step" = some (.ref (He.ga K "_law_is_step"))
  g__law_mixed : mg "_law_mixed" = some (.ref (He.ga K "_law_mixed"))
  g__law_number : mg "_law_number" = some (.ref (He.ga K "_law_number"))
  g__law_odd : mg "_law_odd" = some (.ref (He.ga K "_law_odd"))
  g__law_pick : mg "_law_pick" = some (.ref (He.ga K "_law_pick"))
  g__law_rule : mg "_law_rule" = some (.ref (He.ga K "_law_rule"))
  g__law_step : mg "_law_step" = some (.ref (He.ga K "_law_step"))
  g__law_step_of : mg "_law_step_of" = some (.ref (He.ga K "_law_step_of"))
  g__law_take : mg "_law_take" = some (.ref (He.ga K "_law_take"))
  g__law_trimmed : mg "_law_trimmed" = some (.ref (He.ga K "_law_trimmed"))
  g__law_turn : mg "_law_turn" = some (.ref (He.ga K "_law_turn"))
  g_is_list : mg "is_list" = some (.ref (He.ga K "is_list"))
  g_is_number : mg "is_number" = some (.ref (He.ga K "is_number"))
  g_is_step : mg "is_step" = some (.ref (He.ga K "is_step"))
  g_without_end : mg "without_end" = some (.ref (He.ga K "without_end"))
  g_law : mg "law" = some (.ref (He.ga K "law"))
  n_abs : mg "abs" = none
  n_all : mg "all" = none
  n_bool : mg "bool" = none
  n_enumerate : mg "enumerate" = none
  n_int : mg "int" = none
  n_isinstance : mg "isinstance" = none
  n_len : mg "len" = none
  n_list : mg "list" = none
  n_min : mg "min" = none
  n_range : mg "range" = none
  n_repr : mg "repr" = none
  n_str : mg "str" = none
  n_tuple : mg "tuple" = none
  ctx : CtxOk (cx K)
  cl_Rule : Cls K (He.ga K "Rule")
  er_BadRule : ErI K (He.ga K "BadRule") (He.ma K (He.ga K "BadRule") "__init__") "at"
  mk_Rule : Mk K (He.ga K "Rule") (He.ma K (He.ga K "Rule") "__init__")
  na_Rule_own_numbers : NoAttr K (He.ga K "Rule") "own_numbers"
  nf_Rule : PySem.W.notFirst K (He.ga K "Rule") (.ref (He.ga K "Rule")) = true
  spl_Rule_eq : Spl K (He.ga K "Rule") "__eq__" (He.ma K (He.ga K "Rule") "__eq__")
  cr_CE : ClX.CRead K (He.ga K "CrossError") (.type "type")
  vi_CE : PySem.W.findCls K (.ref (He.ga K "CrossError")) (.type "type") "__init__" = some (.val (.builtin "ValueError.__init__"))
  f_law_mixed : ∃ fd, FunD K "_law_mixed" "_law_mixed" (defArgs (topS 18)) (defBody (topS 18)) (defScope (topS 18)) (d_law_mixed.dvs K) [] (He.ga K "_law_mixed") fd
  f_law_take : ∃ fd, FunD K "_law_take" "_law_take" (defArgs (topS 19)) (defBody (topS 19)) (defScope (topS 19)) (d_law_take.dvs K) [] (He.ga K "_law_take") fd
  f_law_pick : ∃ fd, FunD K "_law_pick" "_law_pick" (defArgs (topS 20)) (defBody (topS 20)) (defScope (topS 20)) (d_law_pick.dvs K) [] (He.ga K "_law_pick") fd
  f_law_number : ∃ fd, FunD K "_law_number" "_law_number" (defArgs (topS 21)) (defBody (topS 21)) (defScope (topS 21)) (d_law_number.dvs K) [] (He.ga K "_law_number") fd
  f_law_turn : ∃ fd, FunD K "_law_turn" "_law_turn" (defArgs (topS 26)) (defBody (topS 26)) (defScope (topS 26)) (d_law_turn.dvs K) [] (He.ga K "_law_turn") fd
  f_law_trimmed : ∃ fd, FunD K "_law_trimmed" "_law_trimmed" (defArgs (topS 23)) (defBody (topS 23)) (defScope (topS 23)) (d_law_trimmed.dvs K) [] (He.ga K "_law_trimmed") fd
  f_law_rule : ∃ fd, FunD K "_law_rule" "_law_rule" (defArgs (topS 24)) (defBody (topS 24)) (defScope (topS 24)) (d_law_rule.dvs K) [] (He.ga K "_law_rule") fd
  f_law_step : ∃ fd, FunD K "_law_step" "_law_step" (defArgs (topS 27)) (defBody (topS 27)) (defScope (topS 27)) (d_law_step.dvs K) [] (He.ga K "_law_step") fd
  f_law_is_low : ∃ fd, FunD K "_law_is_low" "_law_is_low" (defArgs (topS 25)) (defBody (topS 25)) (defScope (topS 25)) (d_law_is_low.dvs K) [] (He.ga K "_law_is_low") fd
  f_is_list : ∃ fd, FunD K "is_list" "is_list" (defArgs (topS 8)) (defBody (topS 8)) (defScope (topS 8)) (d_is_list.dvs K) [] (He.ga K "is_list") fd
  f_is_number : ∃ fd, FunD K "is_number" "is_number" (defArgs (topS 6)) (defBody (topS 6)) (defScope (topS 6)) (d_is_number.dvs K) [] (He.ga K "is_number") fd
  f_without_end : ∃ fd, FunD K "without_end" "without_end" (defArgs (topS 9)) (defBody (topS 9)) (defScope (topS 9)) (d_without_end.dvs K) [] (He.ga K "without_end") fd
  f_Rule___init__ : ∃ fd, FunD K "__init__" "Rule.__init__" (defArgs (inClass (topS 10) 0)) (defBody (inClass (topS 10) 0)) (defScope (inClass (topS 10) 0)) (d_Rule___init__.dvs K) [] (He.ma K (He.ga K "Rule") "__init__") fd
  f_law_step_of : ∃ fd, FunD K "_law_step_of" "_law_step_of" (defArgs (topS 28)) (defBody (topS 28)) (defScope (topS 28)) (d_law_step_of.dvs K) [] (He.ga K "_law_step_of") fd
  f_is_step : ∃ fd, FunD K "is_step" "is_step" (defArgs (topS 15)) (defBody (topS 15)) (defScope (topS 15)) (d_is_step.dvs K) [] (He.ga K "is_step") fd
  f_Rule___eq__ : ∃ fd, FunD K "__eq__" "Rule.__eq__" (defArgs (inClass (topS 10) 12)) (defBody (inClass (topS 10) 12)) (defScope (inClass (topS 10) 12)) (d_Rule___eq__.dvs K) [] (He.ma K (He.ga K "Rule") "__eq__") fd
  f_law_odd : ∃ fd, FunD K "_law_odd" "_law_odd" (defArgs (topS 29)) (defBody (topS 29)) (defScope (topS 29)) (d_law_odd.dvs K) [] (He.ga K "_law_odd") fd
  f_law_is_number : ∃ fd, FunD K "_law_is_number" "_law_is_number" (defArgs (topS 22)) (defBody (topS 22)) (defScope (topS 22)) (d_law_is_number.dvs K) [] (He.ga K "_law_is_number") fd
  f_law_bent : ∃ fd, FunD K "_law_bent" "_law_bent" (defArgs (topS 31)) (defBody (topS 31)) (defScope (topS 31)) (d_law_bent.dvs K) [] (He.ga K "_law_bent") fd
  f_law_is_step : ∃ fd, FunD K "_law_is_step" "_law_is_step" (defArgs (topS 30)) (defBody (topS 30)) (defScope (topS 30)) (d_law_is_step.dvs K) [] (He.ga K "_law_is_step") fd
  f_law_begun : ∃ fd, FunD K "_law_begun" "_law_begun" (defArgs (topS 17)) (defBody (topS 17)) (defScope (topS 17)) (d_law_begun.dvs K) [] (He.ga K "_law_begun") fd
  f_law : ∃ fd, FunD K "law" "law" (defArgs (topS 32)) (defBody (topS 32)) (defScope (topS 32)) (d_law.dvs K) [] (He.ga K "law") fd
  f_BadRule___init__ : ∃ fd, FunD K "__init__" "BadRule.__init__" (defArgs (inClass (topS 3) 0)) (defBody (inClass (topS 3) 0)) (defScope (inClass (topS 3) 0)) (d_BadRule___init__.dvs K) [] (He.ma K (He.ga K "BadRule") "__init__") fd
def bs : List (PySem.W.Frag → Bool) := [fun K => (He.Fa.glo "BadRule").ok K,
  fun K => (He.Fa.glo "CrossError").ok K,
  fun K => (He.Fa.glo "Rule").ok K,
  fun K => (He.Fa.glo "_law_begun").ok K,
  fun K => (He.Fa.glo "_law_bent").ok K,
  fun K => (He.Fa.glo "_law_is_low").ok K,
  fun K => (He.Fa.glo "_law_is_number").ok K,
  fun K => (He.Fa.glo "_law_is_step").ok K,
  fun K => (He.Fa.glo "_law_mixed").ok K,
  fun K => (He.Fa.glo "_law_number").ok K,
  fun K => (He.Fa.glo "_law_odd").ok K,
  fun K => (He.Fa.glo "_law_pick").ok K,
  fun K => (He.Fa.glo "_law_rule").ok K,
  fun K => (He.Fa.glo "_law_step").ok K,
  fun K => (He.Fa.glo "_law_step_of").ok K,
  fun K => (He.Fa.glo "_law_take").ok K,
  fun K => (He.Fa.glo "_law_trimmed").ok K,
  fun K => (He.Fa.glo "_law_turn").ok K,
  fun K => (He.Fa.glo "is_list").ok K,
  fun K => (He.Fa.glo "is_number").ok K,
  fun K => (He.Fa.glo "is_step").ok K,
  fun K => (He.Fa.glo "without_end").ok K,
  fun K => (He.Fa.glo "law").ok K,
  fun K => (He.Fa.free "abs").ok K,
  fun K => (He.Fa.free "all").ok K,
  fun K => (He.Fa.free "bool").ok K,
  fun K => (He.Fa.free "enumerate").ok K,
  fun K => (He.Fa.free "int").ok K,
  fun K => (He.Fa.free "isinstance").ok K,
  fun K => (He.Fa.free "len").ok K,
  fun K => (He.Fa.free "list").ok K,
  fun K => (He.Fa.free "min").ok K,
  fun K => (He.Fa.free "range").ok K,
  fun K => (He.Fa.free "repr").ok K,
  fun K => (He.Fa.free "str").ok K,
  fun K => (He.Fa.free "tuple").ok K,
  ctxB nsL esL,
  fun K => (He.Fa.cls "Rule").ok K,
  fun K => eriB K (He.ga K "BadRule") (He.ma K (He.ga K "BadRule") "__init__") "at",
  fun K => (He.Fa.mkr "Rule").ok K,
  fun K => (He.Fa.noat "Rule" "own_numbers").ok K,
  fun K => PySem.W.notFirst K (He.ga K "Rule") (.ref (He.ga K "Rule")),
  fun K => splB K (He.ga K "Rule") "__eq__",
  fun K => creadB K (He.ga K "CrossError"),
  fun K => vInit K (He.ga K "CrossError")]
def fn : List DefX := [d_law_mixed, d_law_take, d_law_pick, d_law_number, d_law_turn, d_law_trimmed, d_law_rule, d_law_step, d_law_is_low, d_is_list, d_is_number, d_without_end, d_Rule___init__, d_law_step_of, d_is_step, d_Rule___eq__, d_law_odd, d_law_is_number, d_law_bent, d_law_is_step, d_law_begun, d_law, d_BadRule___init__]
theorem tx {K : PySem.W.Frag} {h : Heap} {mg : Str → Option Value} (X : K.In h) (G : h.Ns mainGlobals mg) (c : SaysX bs fn K) : Tx K mg where
  g_BadRule := He.glo_ok X G (c.fact 0)
  g_CrossError := He.glo_ok X G (c.fact 1)
  g_Rule := He.glo_ok X G (c.fact 2)
  g__law_begun := He.glo_ok X G (c.fact 3)
  g__law_bent := He.glo_ok X G (c.fact 4)
  g__law_is_low := He.glo_ok X G (c.fact 5)
  g__law_is_number := He.glo_ok X G (c.fact 6)
  g__law_is_step := He.glo_ok X G (c.fact 7)
  g__law_mixed := He.glo_ok X G (c.fact 8)
  g__law_number := He.glo_ok X G (c.fact 9)
  g__law_odd := He.glo_ok X G (c.fact 10)
  g__law_pick := He.glo_ok X G (c.fact 11)
  g__law_rule := He.glo_ok X G (c.fact 12)
  g__law_step := He.glo_ok X G (c.fact 13)
  g__law_step_of := He.glo_ok X G (c.fact 14)
  g__law_take := He.glo_ok X G (c.fact 15)
  g__law_trimmed := He.glo_ok X G (c.fact 16)
  g__law_turn := He.glo_ok X G (c.fact 17)
  g_is_list := He.glo_ok X G (c.fact 18)
  g_is_number := He.glo_ok X G (c.fact 19)
  g_is_step := He.glo_ok X G (c.fact 20)
  g_without_end := He.glo_ok X G (c.fact 21)
  g_law := He.glo_ok X G (c.fact 22)
  n_abs := He.free_ok X G (c.fact 23)
  n_all := He.free_ok X G (c.fact 24)
  n_bool := He.free_ok X G (c.fact 25)
  n_enumerate := He.free_ok X G (c.fact 26)
  n_int := He.free_ok X G (c.fact 27)
  n_isinstance := He.free_ok X G (c.fact 28)
  n_len := He.free_ok X G (c.fact 29)
  n_list := He.free_ok X G (c.fact 30)
  n_min := He.free_ok X G (c.fact 31)
  n_range := He.free_ok X G (c.fact 32)
  n_repr := He.free_ok X G (c.fact 33)
  n_str := He.free_ok X G (c.fact 34)
  n_tuple := He.free_ok X G (c.fact 35)
  ctx := ctxB_ok (c.fact 36)
  cl_Rule := He.cls_ok (c.fact 37)
  er_BadRule := eriB_ok (c.fact 38)
  mk_Rule := He.mkr_ok (c.fact 39)
  na_Rule_own_numbers := He.noat_ok (c.fact 40)
  nf_Rule := c.fact 41
  spl_Rule_eq := splB_ok (c.fact 42)
  cr_CE := creadB_ok (c.fact 43)
  vi_CE := vInit_ok (c.fact 44)
  f_law_mixed := c.def_ 0 (d := d_law_mixed)
  f_law_take := c.def_ 1 (d := d_law_take)
  f_law_pick := c.def_ 2 (d := d_law_pick)
  f_law_number := c.def_ 3 (d := d_law_number)
  f_law_turn := c.def_ 4 (d := d_law_turn)
  f_law_trimmed := c.def_ 5 (d := d_law_trimmed)
  f_law_rule := c.def_ 6 (d := d_law_rule)
  f_law_step := c.def_ 7 (d := d_law_step)
  f_law_is_low := c.def_ 8 (d := d_law_is_low)
  f_is_list := c.def_ 9 (d := d_is_list)
  f_is_number := c.def_ 10 (d := d_is_number)
  f_without_end := c.def_ 11 (d := d_without_end)
  f_Rule___init__ := c.def_ 12 (d := d_Rule___init__)
  f_law_step_of := c.def_ 13 (d := d_law_step_of)
  f_is_step := c.def_ 14 (d := d_is_step)
  f_Rule___eq__ := c.def_ 15 (d := d_Rule___eq__)
  f_law_odd := c.def_ 16 (d := d_law_odd)
  f_law_is_number := c.def_ 17 (d := d_law_is_number)
  f_law_bent := c.def_ 18 (d := d_law_bent)
  f_law_is_step := c.def_ 19 (d := d_law_is_step)
  f_law_begun := c.def_ 20 (d := d_law_begun)
  f_law := c.def_ 21 (d := d_law)
  f_BadRule___init__ := c.def_ 22 (d := d_BadRule___init__)
abbrev TbB (K : PySem.W.Frag) (base : Heap) (mg : Str → Option Value) : Prop := ∀ f ∈ tf, LamX.TabB base mg (codeAt K (f K)) (tabAt K (f K))
section
variable {P : Program} {w : PySem.World} {K : PySem.W.Frag} {mg : Str → Option Value} {base : Heap}
theorem ok_BadRule___init__ (T : Tx K mg) : ∃ fd, FnOk P w K mg base C8.CX0 1 (He.ma K (He.ga K "BadRule") "__init__") fd ["self", "at"] (sp_ei K "at") ∧ Binds K fd ["self", "at"] [] := by
  obtain ⟨fd, F⟩ := T.f_BadRule___init__
  exact ⟨fd, einit_of F sc_BadRule___init__ T.g_CrossError rfl rfl rfl T.cr_CE T.vi_CE, F.bindsN fun _ _ _ _ _ _ us hl => match us, hl with | [_, _], _ => rfl⟩
theorem ok_law_mixed (T : Tx K mg) (TB : TbB K base mg) : OkW P w (cx K) mg base 1 (He.ga K "_law_mixed") ["_law_state"] wp_law_mixed (1) (d_law_mixed.dvs K) := by
  obtain ⟨fd, F⟩ := T.f_law_mixed
  have nd := sc_law_mixed.nd
  have hb : Binds K fd ["_law_state"] [] := F.bindsN fun _ _ _ _ _ _ us hl => match us, hl with | [_], _ => rfl
  refine ⟨fd, fnW_of F sc_law_mixed (fun vs H Q E h => len_mixed h) (fun A outer s H vs Q E gd hr h => ⟨rd_law_mixed (cx K), PSs.nox ?_, run_mixed rfl h⟩), hb, F.kp, ⟨[], .nil, hb⟩⟩
  exact (pss_cons (ps_par (i := 1) (j := 2) (by rfl) nd rfl rfl (by decide) rfl rfl (pa_cons (pe_op op_add (pe_dget (hu_of hr) (pv 0) pe_str (fun _ _ => rfl)) pe_int) (pa_cons pe_int pa_nil)) (by rfl))
      (pss_cons (ps_dput (hu_of hr) (pv 0) pe_str (pv 1) rfl)
      (pss_cons (ps_for PassesOwn.never rfl (pi_list (pe_lst (pa_cons pe_int (pa_cons pe_int (pa_cons pe_int (pa_cons pe_int pa_nil)))))) (pg_name (i := 3) nd rfl (Or.inl rfl)) (pss_cons (ps_set (i := 4) nd rfl (Or.inl rfl) (pe_op op_add (pe_op op_mul pe_int (pv 1)) (pe_op op_fdiv (pv 3) pe_int)))
      (pss_cons (ps_for PassesOwn.never rfl (pi_list (pe_dget (hu_of hr) (pv 0) pe_str (fun _ _ => rfl))) (pg_name (i := 5) nd rfl (Or.inl rfl)) (pss_one (ps_set (i := 4) nd rfl (Or.inl rfl) (pe_op op_mod (pe_callTy call_intG (by rfl) T.n_int (by decide +kernel) (pa_cons (pe_op op_add (pe_op op_add (pe_op op_mul (pv 4) pe_int) (pv 5)) (pv 1)) pa_nil)) (pv 3)))))
      (pss_one (ps_set (i := 2) nd rfl (Or.inl rfl) (pe_op op_add (pe_op op_mul (pv 2) pe_int) (pe_op op_mod (pe_callTy call_intG (by rfl) T.n_int (by decide +kernel) (pa_cons (pe_op op_pow27 (pv 4) pe_int) pa_nil)) (pv 3))))))))
      (pss_one (ps_ret (pv 2))))))
theorem ok_law_take (T : Tx K mg) (TB : TbB K base mg) : OkW P w (cx K) mg base 2 (He.ga K "_law_take") ["_law_state", "_law_size"] wp_law_take (1) (d_law_take.dvs K) := by
  obtain ⟨fd, F⟩ := T.f_law_take
  obtain ⟨_, G_law_mixed, b_law_mixed, k_law_mixed, _, v_law_mixed, c_law_mixed⟩ := ok_law_mixed (P := P) (w := w) (base := base) T TB
  have nd := sc_law_take.nd
  have hb : Binds K fd ["_law_state", "_law_size"] [] := F.bindsN fun _ _ _ _ _ _ us hl => match us, hl with | [_, _], _ => rfl
  refine ⟨fd, fnW_of F sc_law_take (fun vs H Q E h => len_take h) (fun A outer s H vs Q E gd hr h => ⟨rd_law_take (cx K), PSs.nox ?_, run_take rfl h⟩), hb, F.kp, ⟨[], .nil, hb⟩⟩
  exact (pss_cons (ps_if (pt_cmpR op_eq (pe_dget (hu_of hr) (pv 0) pe_str (fun _ _ => rfl)) pe_int (nomark _)) (pss_one (ps_dput (hu_of hr) (pv 0) pe_str (pe_ifExp (pt_cmpR (op_neD hr.units) (pe_dget (hu_of hr) (pv 0) pe_str (fun _ _ => rfl)) (pe_lst pa_nil) (nomark _)) (pe_bm PySem.F.plainAttrs_list PySem.F.slot_list_pop PySem.F.type_list_pop mt_popAt (pe_dget (hu_of hr) (pv 0) pe_str (fun _ _ => rfl)) (pa_cons pe_int pa_nil)) (pe_callW0 G_law_mixed gd (hr.mono (by decide)) rfl T.g__law_mixed k_law_mixed b_law_mixed (pa_cons (pv 0) pa_nil))) rfl)) pss_nil)
      (pss_cons (ps_set (i := 2) nd rfl (Or.inl rfl) (pe_op op_mod (pe_callTy call_intG (by rfl) T.n_int (by decide +kernel) (pa_cons (pe_dget (hu_of hr) (pv 0) pe_str (fun _ _ => rfl)) pa_nil)) (pv 1)))
      (pss_cons (ps_dput (hu_of hr) (pv 0) pe_str (pe_op op_fdivW (pe_dget (hu_of hr) (pv 0) pe_str (fun _ _ => rfl)) (pv 1)) rfl)
      (pss_one (ps_ret (pv 2))))))
theorem okF_law_pick (T : Tx K mg) (TB : TbB K base mg) {fd : FuncData} (F : FunD K "_law_pick" "_law_pick" (defArgs (topS 20)) (defBody (topS 20)) (defScope (topS 20)) (d_law_pick.dvs K) [] (He.ga K "_law_pick") fd) : FnW P w K mg base 3 (He.ga K "_law_pick") fd ["_law_state", "_law_some"] (SpW (cx K) wp_law_pick (1)) := by
  obtain ⟨_, G_law_take, b_law_take, k_law_take, _, v_law_take, c_law_take⟩ := ok_law_take (P := P) (w := w) (base := base) T TB
  have nd := sc_law_pick.nd
  refine fnW_of F sc_law_pick (fun vs H Q E h => SpW.len rfl h) (fun A outer s H vs Q E gd hr h => ?_)
  have tk : Takes (cxOf (L2.CX P w) P w K mg base N_law_pick "_law_pick" (defScope (topS 20)) (He.ga K "_law_pick") (.ref (codeAt K (He.ga K "_law_pick"))) A outer s H E) (fun cls d _ H => E cls d H) := takes_of rfl rfl rfl rfl
  exact ⟨_, gs_le (c := cx K) (W := fun cls d _ H => E cls d H) (kb := 1) (gs_one (g_ret (g_ix (g_var (pv 1)) (g_call G_law_take gd (hr.mono (by decide)) rfl T.g__law_take k_law_take b_law_take .nil (fun _ _ => .nil) tk (ga_cons (g_var (pv 0)) (ga_cons (g_cb w_len (by rfl) T.n_len PySem.boot_len (ga_cons (g_var (pv 1)) ga_nil)) ga_nil)))))) (by decide +kernel), run_wDef (N := N_law_pick) h (Nat.le_refl _)⟩
theorem ok_law_pick (T : Tx K mg) (TB : TbB K base mg) : OkW P w (cx K) mg base 3 (He.ga K "_law_pick") ["_law_state", "_law_some"] wp_law_pick (1) (d_law_pick.dvs K) := by
  obtain ⟨fd, F⟩ := T.f_law_pick
  have hb : Binds K fd ["_law_state", "_law_some"] [] := F.bindsN fun _ _ _ _ _ _ us hl => match us, hl with | [_, _], _ => rfl
  exact ⟨fd, okF_law_pick T TB F, hb, F.kp, ⟨[], .nil, hb⟩⟩
theorem okF_law_number (T : Tx K mg) (TB : TbB K base mg) {fd : FuncData} (F : FunD K "_law_number" "_law_number" (defArgs (topS 21)) (defBody (topS 21)) (defScope (topS 21)) (d_law_number.dvs K) [] (He.ga K "_law_number") fd) : FnW P w K mg base 4 (He.ga K "_law_number") fd ["_law_state", "_law_great"] (SpW (cx K) wp_law_number (2 ^ 2)) := by
  obtain ⟨_, G_law_pick, b_law_pick, k_law_pick, _, v_law_pick, c_law_pick⟩ := ok_law_pick (P := P) (w := w) (base := base) T TB
  obtain ⟨_, G_law_take, b_law_take, k_law_take, _, v_law_take, c_law_take⟩ := ok_law_take (P := P) (w := w) (base := base) T TB
  have nd := sc_law_number.nd
  refine fnW_of F sc_law_number (fun vs H Q E h => SpW.len rfl h) (fun A outer s H vs Q E gd hr h => ?_)
  have tk : Takes (cxOf (L2.CX P w) P w K mg base N_law_number "_law_number" (defScope (topS 21)) (He.ga K "_law_number") (.ref (codeAt K (He.ga K "_law_number"))) A outer s H E) (fun cls d _ H => E cls d H) := takes_of rfl rfl rfl rfl
  exact ⟨_, gs_le (c := cx K) (W := fun cls d _ H => E cls d H) (kb := 2 ^ 2) (gs_cons (g_set (i := 2) nd rfl (Or.inl rfl) (g_call G_law_pick gd (hr.mono (by decide)) rfl T.g__law_pick k_law_pick b_law_pick .nil (fun _ _ => .nil) tk (ga_cons (g_var (pv 0)) (ga_cons (g_lst (ga_cons g_int (ga_cons g_int (ga_cons g_int (ga_cons g_int (ga_cons g_int (ga_cons (g_call G_law_take gd (hr.mono (by decide)) rfl T.g__law_take k_law_take b_law_take .nil (fun _ _ => .nil) tk (ga_cons (g_var (pv 0)) (ga_cons (g_op w_add (g_var (pv 1)) g_int) ga_nil))) ga_nil))))))) ga_nil))))
      (gs_one (g_ret (g_call G_law_pick gd (hr.mono (by decide)) rfl T.g__law_pick k_law_pick b_law_pick .nil (fun _ _ => .nil) tk (ga_cons (g_var (pv 0)) (ga_cons (g_lst (ga_cons (g_cb w_min2 (by rfl) T.n_min (by decide +kernel) (ga_cons (g_var (pv 2)) (ga_cons (g_var (pv 1)) ga_nil))) (ga_cons (g_op w_sub g_int (g_cb w_min2 (by rfl) T.n_min (by decide +kernel) (ga_cons (g_var (pv 2)) (ga_cons (g_var (pv 1)) ga_nil)))) ga_nil))) ga_nil)))))) (by decide +kernel), run_wDef (N := N_law_number) h (Nat.le_refl _)⟩
theorem ok_law_number (T : Tx K mg) (TB : TbB K base mg) : OkW P w (cx K) mg base 4 (He.ga K "_law_number") ["_law_state", "_law_great"] wp_law_number (2 ^ 2) (d_law_number.dvs K) := by
  obtain ⟨fd, F⟩ := T.f_law_number
  have hb : Binds K fd ["_law_state", "_law_great"] [] := F.bindsN fun _ _ _ _ _ _ us hl => match us, hl with | [_, _], _ => rfl
  exact ⟨fd, okF_law_number T TB F, hb, F.kp, ⟨[], .nil, hb⟩⟩
theorem okF_law_turn (T : Tx K mg) (TB : TbB K base mg) {fd : FuncData} (F : FunD K "_law_turn" "_law_turn" (defArgs (topS 26)) (defBody (topS 26)) (defScope (topS 26)) (d_law_turn.dvs K) [] (He.ga K "_law_turn") fd) : FnW P w K mg base 5 (He.ga K "_law_turn") fd ["_law_state", "_law_great"] (SpW (cx K) wp_law_turn (2 ^ 66)) := by
  obtain ⟨_, G_law_number, b_law_number, k_law_number, _, v_law_number, c_law_number⟩ := ok_law_number (P := P) (w := w) (base := base) T TB
  obtain ⟨_, G_law_pick, b_law_pick, k_law_pick, _, v_law_pick, c_law_pick⟩ := ok_law_pick (P := P) (w := w) (base := base) T TB
  obtain ⟨_, G_law_take, b_law_take, k_law_take, _, v_law_take, c_law_take⟩ := ok_law_take (P := P) (w := w) (base := base) T TB
  have nd := sc_law_turn.nd
  refine fnW_of F sc_law_turn (fun vs H Q E h => SpW.len rfl (SpW.drop h)) (fun A outer s H vs Q E gd hr h => ?_)
  have tk : Takes (cxOf (L2.CX P w) P w K mg base N_law_turn "_law_turn" (defScope (topS 26)) (He.ga K "_law_turn") (.ref (codeAt K (He.ga K "_law_turn"))) A outer s H E) (fun cls d _ H => E cls d H) := takes_of rfl rfl rfl rfl
  exact ⟨_, gs_le (c := cx K) (W := fun cls d _ H => E cls d H) (kb := 2 ^ 66) (gs_cons (g_set (i := 2) nd rfl (Or.inl rfl) (g_call G_law_pick gd (hr.mono (by decide)) rfl T.g__law_pick k_law_pick b_law_pick .nil (fun _ _ => .nil) tk (ga_cons (g_var (pv 0)) (ga_cons (g_lst (ga_cons (g_lst (ga_cons (g_lst (ga_cons g_int (ga_cons g_int ga_nil))) (ga_cons (g_lst (ga_cons g_int (ga_cons g_int ga_nil))) ga_nil))) (ga_cons (g_lst (ga_cons (g_lst (ga_cons g_int (ga_cons (g_un w_neg g_int) ga_nil))) (ga_cons (g_lst (ga_cons g_int (ga_cons g_int ga_nil))) ga_nil))) (ga_cons (g_lst (ga_cons (g_lst (ga_cons g_int (ga_cons g_int ga_nil))) (ga_cons (g_lst (ga_cons g_int (ga_cons g_int ga_nil))) ga_nil))) (ga_cons (g_lst (ga_cons (g_lst (ga_cons (g_un w_neg g_int) (ga_cons g_int ga_nil))) (ga_cons (g_lst (ga_cons g_int (ga_cons g_int ga_nil))) ga_nil))) ga_nil))))) ga_nil))))
      (gs_cons (g_for (passes_of rfl) (gi_rng1 (by rfl) T.n_range (ga_cons (g_call G_law_take gd (hr.mono (by decide)) rfl T.g__law_take k_law_take b_law_take .nil (fun _ _ => .nil) tk (ga_cons (g_var (pv 0)) (ga_cons g_int ga_nil))) ga_nil)) (gg_name (i := 3) nd rfl (Or.inl rfl)) (gs_cons (g_parN (hp := ps_par (i := 4) (j := 5) rfl nd rfl rfl (by decide) rfl rfl (ga_cons (g_call G_law_number gd (hr.mono (by decide)) rfl T.g__law_number k_law_number b_law_number .nil (fun _ _ => .nil) tk (ga_cons (g_var (pv 0)) (ga_cons (g_var (pv 1)) ga_nil))) (ga_cons (g_call G_law_take gd (hr.mono (by decide)) rfl T.g__law_take k_law_take b_law_take .nil (fun _ _ => .nil) tk (ga_cons (g_var (pv 0)) (ga_cons g_int ga_nil))) ga_nil)) rfl))
      (gs_cons (g_set (i := 6) nd rfl (Or.inl rfl) (g_ix (g_var (pv 2)) (g_op w_sub g_int (g_var (pv 5)))))
      (gs_one (g_setL (g_lst (ga_cons (g_op w_add (g_ix (g_ix (g_var (pv 2)) (g_var (pv 5))) g_int) (g_op w_mul (g_var (pv 4)) (g_ix (g_var (pv 6)) g_int))) (ga_cons (g_op w_add (g_ix (g_ix (g_var (pv 2)) (g_var (pv 5))) g_int) (g_op w_mul (g_var (pv 4)) (g_ix (g_var (pv 6)) g_int))) ga_nil))) (g_var (pv 2)) (g_var (pv 5)))))))
      (gs_one (g_fz 2 (g_ret (g_tup (ga_cons g_str (ga_cons (g_ix (g_ix (g_var (pv 2)) g_int) g_int) (ga_cons (g_ix (g_ix (g_var (pv 2)) g_int) g_int) (ga_cons (g_ix (g_ix (g_var (pv 2)) g_int) g_int) (ga_cons (g_ix (g_ix (g_var (pv 2)) g_int) g_int) ga_nil))))))))))) (by decide +kernel), run_wDef (N := N_law_turn) (SpW.drop h) (Nat.le_refl _)⟩
theorem ok_law_turn (T : Tx K mg) (TB : TbB K base mg) : OkW P w (cx K) mg base 5 (He.ga K "_law_turn") ["_law_state", "_law_great"] wp_law_turn (2 ^ 66) (d_law_turn.dvs K) := by
  obtain ⟨fd, F⟩ := T.f_law_turn
  have hb : Binds K fd ["_law_state", "_law_great"] [] := F.bindsN fun _ _ _ _ _ _ us hl => match us, hl with | [_, _], _ => rfl
  exact ⟨fd, okF_law_turn T TB F, hb, F.kp, ⟨[], .nil, hb⟩⟩
theorem okF_law_trimmed (T : Tx K mg) (TB : TbB K base mg) {fd : FuncData} (F : FunD K "_law_trimmed" "_law_trimmed" (defArgs (topS 23)) (defBody (topS 23)) (defScope (topS 23)) (d_law_trimmed.dvs K) [] (He.ga K "_law_trimmed") fd) : FnW P w K mg base 1 (He.ga K "_law_trimmed") fd ["_law_row"] (SpW (cx K) wp_law_trimmed (0)) := by
  have nd := sc_law_trimmed.nd
  refine fnW_of F sc_law_trimmed (fun vs H Q E h => SpW.len rfl h) (fun A outer s H vs Q E gd hr h => ?_)
  have tk : Takes (cxOf (L2.CX P w) P w K mg base N_law_trimmed "_law_trimmed" (defScope (topS 23)) (He.ga K "_law_trimmed") (.ref (codeAt K (He.ga K "_law_trimmed"))) A outer s H E) (fun cls d _ H => E cls d H) := takes_of rfl rfl rfl rfl
  exact ⟨_, gs_le (c := cx K) (W := fun cls d _ H => E cls d H) (kb := 0) (gs_cons (g_set (i := 1) nd rfl (Or.inl rfl) (g_cty w_list (by rfl) T.n_list (by decide +kernel) (ga_cons (g_var (pv 0)) ga_nil)))
      (gs_cons (g_while (passes_of rfl) (g_pt (g_wand (g_tcmp (w_ne hr.units) (g_var (pv 1)) (g_lst ga_nil) (nomark _)) (g_wand1 (g_tcmp (w_eq hr.units) (g_ix (g_var (pv 1)) (g_un w_neg g_int)) g_int (nomark _))))) (gs_one (g_drop (g_lm0 mw_pop (fun r h => pe_bm0 PySem.F.plainAttrs_list PySem.F.slot_list_pop PySem.F.type_list_pop h (g_var (pv 1)))))))
      (gs_one (g_fz 1 (g_ret (g_var (pv 1))))))) (by decide +kernel), run_wDef (N := N_law_trimmed) h (Nat.le_refl _)⟩
theorem ok_law_trimmed (T : Tx K mg) (TB : TbB K base mg) : OkW P w (cx K) mg base 1 (He.ga K "_law_trimmed") ["_law_row"] wp_law_trimmed (0) (d_law_trimmed.dvs K) := by
  obtain ⟨fd, F⟩ := T.f_law_trimmed
  have hb : Binds K fd ["_law_row"] [] := F.bindsN fun _ _ _ _ _ _ us hl => match us, hl with | [_], _ => rfl
  exact ⟨fd, okF_law_trimmed T TB F, hb, F.kp, ⟨[], .nil, hb⟩⟩
theorem okF_law_rule (T : Tx K mg) (TB : TbB K base mg) {fd : FuncData} (F : FunD K "_law_rule" "_law_rule" (defArgs (topS 24)) (defBody (topS 24)) (defScope (topS 24)) (d_law_rule.dvs K) [] (He.ga K "_law_rule") fd) : FnW P w K mg base 5 (He.ga K "_law_rule") fd ["_law_state", "_law_most", "_law_great"] (SpW (cx K) wp_law_rule (2 ^ 27)) := by
  obtain ⟨_, G_law_number, b_law_number, k_law_number, _, v_law_number, c_law_number⟩ := ok_law_number (P := P) (w := w) (base := base) T TB
  obtain ⟨_, G_law_take, b_law_take, k_law_take, _, v_law_take, c_law_take⟩ := ok_law_take (P := P) (w := w) (base := base) T TB
  obtain ⟨_, G_law_trimmed, b_law_trimmed, k_law_trimmed, _, v_law_trimmed, c_law_trimmed⟩ := ok_law_trimmed (P := P) (w := w) (base := base) T TB
  have nd := sc_law_rule.nd
  refine fnW_of F sc_law_rule (fun vs H Q E h => SpW.len rfl h) (fun A outer s H vs Q E gd hr h => ?_)
  have tk : Takes (cxOf (L2.CX P w) P w K mg base N_law_rule "_law_rule" (defScope (topS 24)) (He.ga K "_law_rule") (.ref (codeAt K (He.ga K "_law_rule"))) A outer s H E) (fun cls d _ H => E cls d H) := takes_of rfl rfl rfl rfl
  exact ⟨_, gs_le (c := cx K) (W := fun cls d _ H => E cls d H) (kb := 2 ^ 27) (gs_one (g_ret (g_call G_law_trimmed gd (hr.mono (by decide)) rfl T.g__law_trimmed k_law_trimmed b_law_trimmed .nil (fun _ _ => .nil) tk (ga_cons (g_lc (own := [("_law_place", 3)]) nd (gi_rng1 (by rfl) T.n_range (ga_cons (g_call G_law_take gd (hr.mono (by decide)) rfl T.g__law_take k_law_take b_law_take .nil (fun _ _ => .nil) tk (ga_cons (g_var (pv 0)) (ga_cons (g_op w_add (g_var (pv 1)) g_int) ga_nil))) ga_nil)) (blkOk_by (own := [("_law_place", 3)]) (N := N_law_rule) (sc := defScope (topS 24)) (by decide +kernel)) (fun _ _ _ _ _ => (gg_name (i := 3) nd rfl (Or.inl rfl))) (fun _ _ _ _ _ => gt_yes) (fun _ _ _ _ _ => (g_call G_law_number gd (hr.mono (by decide)) rfl T.g__law_number k_law_number b_law_number .nil (fun _ _ => .nil) LamX.takes0 (ga_cons (g_var (pv 0)) (ga_cons (g_var (pv 2)) ga_nil))))) ga_nil)))) (by decide +kernel), run_wDef (N := N_law_rule) h (Nat.le_refl _)⟩
theorem ok_law_rule (T : Tx K mg) (TB : TbB K base mg) : OkW P w (cx K) mg base 5 (He.ga K "_law_rule") ["_law_state", "_law_most", "_law_great"] wp_law_rule (2 ^ 27) (d_law_rule.dvs K) := by
  obtain ⟨fd, F⟩ := T.f_law_rule
  have hb : Binds K fd ["_law_state", "_law_most", "_law_great"] [] := F.bindsN fun _ _ _ _ _ _ us hl => match us, hl with | [_, _, _], _ => rfl
  exact ⟨fd, okF_law_rule T TB F, hb, F.kp, ⟨[], .nil, hb⟩⟩
theorem okF_law_step (T : Tx K mg) (TB : TbB K base mg) {fd : FuncData} (F : FunD K "_law_step" "_law_step" (defArgs (topS 27)) (defBody (topS 27)) (defScope (topS 27)) (d_law_step.dvs K) [] (He.ga K "_law_step") fd) : FnW P w K mg base 6 (He.ga K "_law_step") fd ["_law_state", "_law_room", "_law_great"] (SpW (cx K) wp_law_step (2 ^ 67)) := by
  obtain ⟨_, G_law_number, b_law_number, k_law_number, _, v_law_number, c_law_number⟩ := ok_law_number (P := P) (w := w) (base := base) T TB
  obtain ⟨_, G_law_pick, b_law_pick, k_law_pick, _, v_law_pick, c_law_pick⟩ := ok_law_pick (P := P) (w := w) (base := base) T TB
  obtain ⟨_, G_law_rule, b_law_rule, k_law_rule, _, v_law_rule, c_law_rule⟩ := ok_law_rule (P := P) (w := w) (base := base) T TB
  obtain ⟨_, G_law_turn, b_law_turn, k_law_turn, _, v_law_turn, c_law_turn⟩ := ok_law_turn (P := P) (w := w) (base := base) T TB
  have nd := sc_law_step.nd
  refine fnW_of F sc_law_step (fun vs H Q E h => SpW.len rfl h) (fun A outer s H vs Q E gd hr h => ?_)
  have tk : Takes (cxOf (L2.CX P w) P w K mg base N_law_step "_law_step" (defScope (topS 27)) (He.ga K "_law_step") (.ref (codeAt K (He.ga K "_law_step"))) A outer s H E) (fun cls d _ H => E cls d H) := takes_of rfl rfl rfl rfl
  exact ⟨_, gs_le (c := cx K) (W := fun cls d _ H => E cls d H) (kb := 2 ^ 67) (gs_cons (g_set (i := 3) nd rfl (Or.inl rfl) (g_call G_law_pick gd (hr.mono (by decide)) rfl T.g__law_pick k_law_pick b_law_pick .nil (fun _ _ => .nil) tk (ga_cons (g_var (pv 0)) (ga_cons (g_lst (ga_cons g_str (ga_cons g_str (ga_cons g_str (ga_cons g_str (ga_cons g_str (ga_cons g_str ga_nil))))))) ga_nil))))
      (gs_cons (g_ifS (g_tcmp (w_eq hr.units) (g_var (pv 3)) g_str (nomark _)) (gs_one (g_ret (g_call G_law_turn gd (hr.mono (by decide)) rfl T.g__law_turn k_law_turn b_law_turn .nil (fun _ _ => .nil) tk (ga_cons (g_var (pv 0)) (ga_cons (g_cb w_min2 (by rfl) T.n_min (by decide +kernel) (ga_cons (g_var (pv 2)) (ga_cons g_int ga_nil))) ga_nil))))) gs_nil)
      (gs_cons (g_ifS (g_tcmp (w_eq hr.units) (g_var (pv 3)) g_str (nomark _)) (gs_one (g_ret (g_tup (ga_cons (g_var (pv 3)) (ga_cons (g_call G_law_number gd (hr.mono (by decide)) rfl T.g__law_number k_law_number b_law_number .nil (fun _ _ => .nil) tk (ga_cons (g_var (pv 0)) (ga_cons (g_var (pv 2)) ga_nil))) (ga_cons (g_call G_law_number gd (hr.mono (by decide)) rfl T.g__law_number k_law_number b_law_number .nil (fun _ _ => .nil) tk (ga_cons (g_var (pv 0)) (ga_cons (g_var (pv 2)) ga_nil))) ga_nil)))))) gs_nil)
      (gs_one (g_ret (g_tup (ga_cons (g_var (pv 3)) (ga_cons (g_call G_law_rule gd (hr.mono (by decide)) rfl T.g__law_rule k_law_rule b_law_rule .nil (fun _ _ => .nil) tk (ga_cons (g_var (pv 0)) (ga_cons (g_cb w_min2 (by rfl) T.n_min (by decide +kernel) (ga_cons g_int (ga_cons (g_var (pv 1)) ga_nil))) (ga_cons (g_var (pv 2)) ga_nil)))) ga_nil)))))))) (by decide +kernel), run_wDef (N := N_law_step) h (Nat.le_refl _)⟩
theorem ok_law_step (T : Tx K mg) (TB : TbB K base mg) : OkW P w (cx K) mg base 6 (He.ga K "_law_step") ["_law_state", "_law_room", "_law_great"] wp_law_step (2 ^ 67) (d_law_step.dvs K) := by
  obtain ⟨fd, F⟩ := T.f_law_step
  have hb : Binds K fd ["_law_state", "_law_room", "_law_great"] [] := F.bindsN fun _ _ _ _ _ _ us hl => match us, hl with | [_, _, _], _ => rfl
  exact ⟨fd, okF_law_step T TB F, hb, F.kp, ⟨[], .nil, hb⟩⟩
theorem okF_law_is_low (T : Tx K mg) (TB : TbB K base mg) {fd : FuncData} (F : FunD K "_law_is_low" "_law_is_low" (defArgs (topS 25)) (defBody (topS 25)) (defScope (topS 25)) (d_law_is_low.dvs K) [] (He.ga K "_law_is_low") fd) : FnW P w K mg base 1 (He.ga K "_law_is_low") fd ["_law_step_here"] (SpW (cx K) wp_law_is_low (0)) := by
  have nd := sc_law_is_low.nd
  refine fnW_of F sc_law_is_low (fun vs H Q E h => SpW.len rfl h) (fun A outer s H vs Q E gd hr h => ?_)
  have tk : Takes (cxOf (L2.CX P w) P w K mg base N_law_is_low "_law_is_low" (defScope (topS 25)) (He.ga K "_law_is_low") (.ref (codeAt K (He.ga K "_law_is_low"))) A outer s H E) (fun cls d _ H => E cls d H) := takes_of rfl rfl rfl rfl
  exact ⟨_, gs_le (c := cx K) (W := fun cls d _ H => E cls d H) (kb := 0) (gs_one (g_ret (g_cmp w_in (g_ix (g_var (pv 0)) g_int) (g_tup (ga_cons g_str (ga_cons g_str ga_nil))) (by rfl)))) (by decide +kernel), run_wDef (N := N_law_is_low) h (Nat.le_refl _)⟩
theorem ok_law_is_low (T : Tx K mg) (TB : TbB K base mg) : OkW P w (cx K) mg base 1 (He.ga K "_law_is_low") ["_law_step_here"] wp_law_is_low (0) (d_law_is_low.dvs K) := by
  obtain ⟨fd, F⟩ := T.f_law_is_low
  have hb : Binds K fd ["_law_step_here"] [] := F.bindsN fun _ _ _ _ _ _ us hl => match us, hl with | [_], _ => rfl
  exact ⟨fd, okF_law_is_low T TB F, hb, F.kp, ⟨[], .nil, hb⟩⟩
theorem okF_is_list (T : Tx K mg) (TB : TbB K base mg) {fd : FuncData} (F : FunD K "is_list" "is_list" (defArgs (topS 8)) (defBody (topS 8)) (defScope (topS 8)) (d_is_list.dvs K) [] (He.ga K "is_list") fd) : FnW P w K mg base 1 (He.ga K "is_list") fd ["thing"] (SpW (cx K) wp_is_list (0)) := by
  have nd := sc_is_list.nd
  refine fnW_of F sc_is_list (fun vs H Q E h => SpW.len rfl h) (fun A outer s H vs Q E gd hr h => ?_)
  have tk : Takes (cxOf (L2.CX P w) P w K mg base N_is_list "is_list" (defScope (topS 8)) (He.ga K "is_list") (.ref (codeAt K (He.ga K "is_list"))) A outer s H E) (fun cls d _ H => E cls d H) := takes_of rfl rfl rfl rfl
  exact ⟨_, gs_le (c := cx K) (W := fun cls d _ H => E cls d H) (kb := 0) (gs_one (g_ret (g_cb (w_isi T.ctx) (by rfl) T.n_isinstance (by decide +kernel) (ga_cons (g_var (pv 0)) (ga_cons (g_tup (ga_cons (g_ty (pe_bltn (by rfl) T.n_list (by decide +kernel) rfl)) (ga_cons (g_ty (pe_bltn (by rfl) T.n_tuple (by decide +kernel) rfl)) ga_nil))) ga_nil))))) (by decide +kernel), run_wDef (N := N_is_list) h (Nat.le_refl _)⟩
theorem ok_is_list (T : Tx K mg) (TB : TbB K base mg) : OkW P w (cx K) mg base 1 (He.ga K "is_list") ["thing"] wp_is_list (0) (d_is_list.dvs K) := by
  obtain ⟨fd, F⟩ := T.f_is_list
  have hb : Binds K fd ["thing"] [] := F.bindsN fun _ _ _ _ _ _ us hl => match us, hl with | [_], _ => rfl
  exact ⟨fd, okF_is_list T TB F, hb, F.kp, ⟨[], .nil, hb⟩⟩
theorem okF_is_number (T : Tx K mg) (TB : TbB K base mg) {fd : FuncData} (F : FunD K "is_number" "is_number" (defArgs (topS 6)) (defBody (topS 6)) (defScope (topS 6)) (d_is_number.dvs K) [] (He.ga K "is_number") fd) : FnW P w K mg base 1 (He.ga K "is_number") fd ["thing"] (SpW (cx K) wp_is_number (0)) := by
  have nd := sc_is_number.nd
  refine fnW_of F sc_is_number (fun vs H Q E h => SpW.len rfl h) (fun A outer s H vs Q E gd hr h => ?_)
  have tk : Takes (cxOf (L2.CX P w) P w K mg base N_is_number "is_number" (defScope (topS 6)) (He.ga K "is_number") (.ref (codeAt K (He.ga K "is_number"))) A outer s H E) (fun cls d _ H => E cls d H) := takes_of rfl rfl rfl rfl
  exact ⟨_, gs_le (c := cx K) (W := fun cls d _ H => E cls d H) (kb := 0) (gs_one (g_ret (g_and (g_cb (w_isi T.ctx) (by rfl) T.n_isinstance (by decide +kernel) (ga_cons (g_var (pv 0)) (ga_cons (g_ty (pe_bltn (by rfl) T.n_int (by decide +kernel) rfl)) ga_nil))) (g_one (g_not (g_cb (w_isi T.ctx) (by rfl) T.n_isinstance (by decide +kernel) (ga_cons (g_var (pv 0)) (ga_cons (g_ty (pe_bltn (by rfl) T.n_bool (by decide +kernel) rfl)) ga_nil)))))))) (by decide +kernel), run_wDef (N := N_is_number) h (Nat.le_refl _)⟩
theorem ok_is_number (T : Tx K mg) (TB : TbB K base mg) : OkW P w (cx K) mg base 1 (He.ga K "is_number") ["thing"] wp_is_number (0) (d_is_number.dvs K) := by
  obtain ⟨fd, F⟩ := T.f_is_number
  have hb : Binds K fd ["thing"] [] := F.bindsN fun _ _ _ _ _ _ us hl => match us, hl with | [_], _ => rfl
  exact ⟨fd, okF_is_number T TB F, hb, F.kp, ⟨[], .nil, hb⟩⟩
theorem okF_without_end (T : Tx K mg) (TB : TbB K base mg) {fd : FuncData} (F : FunD K "without_end" "without_end" (defArgs (topS 9)) (defBody (topS 9)) (defScope (topS 9)) (d_without_end.dvs K) [] (He.ga K "without_end") fd) : FnW P w K mg base 1 (He.ga K "without_end") fd ["numbers"] (SpW (cx K) wp_without_end (0)) := by
  have nd := sc_without_end.nd
  refine fnW_of F sc_without_end (fun vs H Q E h => SpW.len rfl h) (fun A outer s H vs Q E gd hr h => ?_)
  have tk : Takes (cxOf (L2.CX P w) P w K mg base N_without_end "without_end" (defScope (topS 9)) (He.ga K "without_end") (.ref (codeAt K (He.ga K "without_end"))) A outer s H E) (fun cls d _ H => E cls d H) := takes_of rfl rfl rfl rfl
  exact ⟨_, gs_le (c := cx K) (W := fun cls d _ H => E cls d H) (kb := 0) (gs_cons (g_set (i := 1) nd rfl (Or.inl rfl) (g_cb w_len (by rfl) T.n_len PySem.boot_len (ga_cons (g_var (pv 0)) ga_nil)))
      (gs_cons (g_while (passes_of rfl) (g_pt (g_wand (g_tcmp w_gt (g_var (pv 1)) g_int (nomark _)) (g_wand1 (g_tcmp (w_eq hr.units) (g_ix (g_var (pv 0)) (g_op w_sub (g_var (pv 1)) g_int)) g_int (nomark _))))) (gs_one (g_aug (i := 1) nd rfl (Or.inl rfl) g_int ip_sub)))
      (gs_one (g_ret (g_cty w_tuple (by rfl) T.n_tuple (by decide +kernel) (ga_cons (g_sl w_sl (g_var (pv 0)) go_none (go_some (g_var (pv 1)))) ga_nil)))))) (by decide +kernel), run_wDef (N := N_without_end) h (Nat.le_refl _)⟩
theorem ok_without_end (T : Tx K mg) (TB : TbB K base mg) : OkW P w (cx K) mg base 1 (He.ga K "without_end") ["numbers"] wp_without_end (0) (d_without_end.dvs K) := by
  obtain ⟨fd, F⟩ := T.f_without_end
  have hb : Binds K fd ["numbers"] [] := F.bindsN fun _ _ _ _ _ _ us hl => match us, hl with | [_], _ => rfl
  exact ⟨fd, okF_without_end T TB F, hb, F.kp, ⟨[], .nil, hb⟩⟩
theorem okF_Rule___init__ (T : Tx K mg) (TB : TbB K base mg) {fd : FuncData} (F : FunD K "__init__" "Rule.__init__" (defArgs (inClass (topS 10) 0)) (defBody (inClass (topS 10) 0)) (defScope (inClass (topS 10) 0)) (d_Rule___init__.dvs K) [] (He.ma K (He.ga K "Rule") "__init__") fd) : FnW P w K mg base 3 (He.ma K (He.ga K "Rule") "__init__") fd ["self", "coefficients"] (SpW (cx K) wp_Rule___init__ (0)) := by
  obtain ⟨_, G_is_list, b_is_list, k_is_list, _, v_is_list, c_is_list⟩ := ok_is_list (P := P) (w := w) (base := base) T TB
  obtain ⟨_, G_is_number, b_is_number, k_is_number, _, v_is_number, c_is_number⟩ := ok_is_number (P := P) (w := w) (base := base) T TB
  obtain ⟨_, G_without_end, b_without_end, k_without_end, _, v_without_end, c_without_end⟩ := ok_without_end (P := P) (w := w) (base := base) T TB
  obtain ⟨_, GE_BadRule, bE_BadRule⟩ := ok_BadRule___init__ (P := P) (w := w) (base := base) T
  have nd := sc_Rule___init__.nd
  refine fnW_of F sc_Rule___init__ (fun vs H Q E h => SpW.len rfl h) (fun A outer s H vs Q E gd hr h => ?_)
  have tk : Takes (cxOf (L2.CX P w) P w K mg base N_Rule___init__ "Rule.__init__" (defScope (inClass (topS 10) 0)) (He.ma K (He.ga K "Rule") "__init__") (.ref (codeAt K (He.ma K (He.ga K "Rule") "__init__"))) A outer s H E) (fun cls d _ H => E cls d H) := takes_of rfl rfl rfl rfl
  exact ⟨_, gs_le (c := cx K) (W := fun cls d _ H => E cls d H) (kb := 0) (gs_cons (g_ifS (g_tnot (g_tval (g_call G_is_list gd (hr.mono (by decide)) rfl T.g_is_list k_is_list b_is_list .nil (fun _ _ => .nil) tk (ga_cons (g_var (pv 1)) ga_nil)))) (gs_one (g_rzA (n := "BadRule") rfl tk T.er_BadRule.t T.er_BadRule.ini T.er_BadRule.fn T.er_BadRule.nof GE_BadRule (hr.mono (by decide)) bE_BadRule rfl T.g_BadRule g_non e_BadRule)) gs_nil)
      (gs_cons (g_for (passes_of rfl) (gi_enum (by rfl) T.n_enumerate (ga_cons (g_var (pv 1)) ga_nil)) (gg_tup (ggs_cons (gg_name (i := 2) nd rfl (Or.inl rfl)) (ggs_cons (gg_name (i := 3) nd rfl (Or.inl rfl)) ggs_nil))) (gs_one (g_ifS (g_tnot (g_tval (g_call G_is_number gd (hr.mono (by decide)) rfl T.g_is_number k_is_number b_is_number .nil (fun _ _ => .nil) tk (ga_cons (g_var (pv 3)) ga_nil)))) (gs_one (g_rzA (n := "BadRule") rfl tk T.er_BadRule.t T.er_BadRule.ini T.er_BadRule.fn T.er_BadRule.nof GE_BadRule (hr.mono (by decide)) bE_BadRule rfl T.g_BadRule (g_var (pv 2)) e_BadRule)) gs_nil)))
      (gs_one (g_setF (n := "Rule") (g_var (pv 0)) (g_call G_without_end gd (hr.mono (by decide)) rfl T.g_without_end k_without_end b_without_end .nil (fun _ _ => .nil) tk (ga_cons (g_var (pv 1)) ga_nil)) T.cl_Rule T.na_Rule_own_numbers)))) (by decide +kernel), run_wDef (N := N_Rule___init__) h (Nat.le_refl _)⟩
theorem ok_Rule___init__ (T : Tx K mg) (TB : TbB K base mg) : OkW P w (cx K) mg base 3 (He.ma K (He.ga K "Rule") "__init__") ["self", "coefficients"] wp_Rule___init__ (0) (d_Rule___init__.dvs K) := by
  obtain ⟨fd, F⟩ := T.f_Rule___init__
  have hb : Binds K fd ["self", "coefficients"] [] := by
    obtain ⟨ds, r, b⟩ := FunD.binds1 (ps := ["self", "coefficients"]) F 2 1 (by intro z; cases z) rfl fun _ _ _ _ _ _ _ us its hl hi => match us, its, hl, hi with | [_, _], [_], _, _ => ⟨_, rfl, rfl⟩
    cases r
    exact b
  have hc : ∃ ds, Vals (d_Rule___init__.dvs K) ds ∧ Binds K fd ["self", "coefficients"] ds := by
    obtain ⟨ds, r, b⟩ := FunD.binds1 (ps := ["self", "coefficients"]) F 1 0 (by intro z; cases z) rfl fun _ _ _ _ _ _ _ us its hl hi => match us, its, hl, hi with | [_], [_], _, _ => ⟨_, rfl, rfl⟩
    exact ⟨ds, r, b⟩
  exact ⟨fd, okF_Rule___init__ T TB F, hb, F.kp, hc⟩
theorem okF_law_step_of (T : Tx K mg) (TB : TbB K base mg) {fd : FuncData} (F : FunD K "_law_step_of" "_law_step_of" (defArgs (topS 28)) (defBody (topS 28)) (defScope (topS 28)) (d_law_step_of.dvs K) [] (He.ga K "_law_step_of") fd) : FnW P w K mg base 5 (He.ga K "_law_step_of") fd ["_law_step_here"] (SpW (cx K) wp_law_step_of (0)) := by
  obtain ⟨_, G_Rule___init__, b_Rule___init__, k_Rule___init__, _, v_Rule___init__, c_Rule___init__⟩ := ok_Rule___init__ (P := P) (w := w) (base := base) T TB
  obtain ⟨_, G_law_is_low, b_law_is_low, k_law_is_low, _, v_law_is_low, c_law_is_low⟩ := ok_law_is_low (P := P) (w := w) (base := base) T TB
  have nd := sc_law_step_of.nd
  refine fnW_of F sc_law_step_of (fun vs H Q E h => SpW.len rfl h) (fun A outer s H vs Q E gd hr h => ?_)
  have tk : Takes (cxOf (L2.CX P w) P w K mg base N_law_step_of "_law_step_of" (defScope (topS 28)) (He.ga K "_law_step_of") (.ref (codeAt K (He.ga K "_law_step_of"))) A outer s H E) (fun cls d _ H => E cls d H) := takes_of rfl rfl rfl rfl
  exact ⟨_, gs_le (c := cx K) (W := fun cls d _ H => E cls d H) (kb := 0) (gs_one (g_ret (g_if (g_tval (g_call G_law_is_low gd (hr.mono (by decide)) rfl T.g__law_is_low k_law_is_low b_law_is_low .nil (fun _ _ => .nil) tk (ga_cons (g_var (pv 0)) ga_nil))) (g_tup (ga_cons (g_ix (g_var (pv 0)) g_int) (ga_cons (g_make (n := "Rule") T.mk_Rule G_Rule___init__ gd (hr.mono (by decide)) rfl T.g_Rule b_Rule___init__ .nil (fun _ _ => .nil) tk (ga_cons (g_cty w_list (by rfl) T.n_list (by decide +kernel) (ga_cons (g_ix (g_var (pv 0)) g_int) ga_nil)) ga_nil) n_Rule) ga_nil))) (g_var (pv 0))))) (by decide +kernel), run_wDef (N := N_law_step_of) h (Nat.le_refl _)⟩
theorem ok_law_step_of (T : Tx K mg) (TB : TbB K base mg) : OkW P w (cx K) mg base 5 (He.ga K "_law_step_of") ["_law_step_here"] wp_law_step_of (0) (d_law_step_of.dvs K) := by
  obtain ⟨fd, F⟩ := T.f_law_step_of
  have hb : Binds K fd ["_law_step_here"] [] := F.bindsN fun _ _ _ _ _ _ us hl => match us, hl with | [_], _ => rfl
  exact ⟨fd, okF_law_step_of T TB F, hb, F.kp, ⟨[], .nil, hb⟩⟩
theorem okF_is_step (T : Tx K mg) (TB : TbB K base mg) {fd : FuncData} (F : FunD K "is_step" "is_step" (defArgs (topS 15)) (defBody (topS 15)) (defScope (topS 15)) (d_is_step.dvs K) [] (He.ga K "is_step") fd) : FnW P w K mg base 2 (He.ga K "is_step") fd ["thing"] (SpW (cx K) wp_is_step (0)) := by
  obtain ⟨_, G_is_number, b_is_number, k_is_number, _, v_is_number, c_is_number⟩ := ok_is_number (P := P) (w := w) (base := base) T TB
  have nd := sc_is_step.nd
  refine fnW_of F sc_is_step (fun vs H Q E h => SpW.len rfl h) (fun A outer s H vs Q E gd hr h => ?_)
  have tk : Takes (cxOf (L2.CX P w) P w K mg base N_is_step "is_step" (defScope (topS 15)) (He.ga K "is_step") (.ref (codeAt K (He.ga K "is_step"))) A outer s H E) (fun cls d _ H => E cls d H) := takes_of rfl rfl rfl rfl
  exact ⟨_, gs_le (c := cx K) (W := fun cls d _ H => E cls d H) (kb := 0) (gs_cons (g_ifS (g_pt (g_wor (g_tnot (g_tval (g_cb (w_isi T.ctx) (by rfl) T.n_isinstance (by decide +kernel) (ga_cons (g_var (pv 0)) (ga_cons (g_ty (pe_bltn (by rfl) T.n_tuple (by decide +kernel) rfl)) ga_nil))))) (g_wor (g_tcmp (w_eq hr.units) (g_cb w_len (by rfl) T.n_len PySem.boot_len (ga_cons (g_var (pv 0)) ga_nil)) g_int (nomark _)) (g_wor1 (g_tnot (g_tval (g_cb (w_isi T.ctx) (by rfl) T.n_isinstance (by decide +kernel) (ga_cons (g_ix (g_var (pv 0)) g_int) (ga_cons (g_ty (pe_bltn (by rfl) T.n_str (by decide +kernel) rfl)) ga_nil))))))))) (gs_one (g_ret g_bl)) gs_nil)
      (gs_cons (g_ifS (g_tcmp w_in (g_ix (g_var (pv 0)) g_int) (g_tup (ga_cons g_str (ga_cons g_str ga_nil))) (by rfl)) (gs_one (g_ret (g_and (g_cmp (w_eq hr.units) (g_cb w_len (by rfl) T.n_len PySem.boot_len (ga_cons (g_var (pv 0)) ga_nil)) g_int (nomark _)) (g_one (g_cb (w_isi T.ctx) (by rfl) T.n_isinstance (by decide +kernel) (ga_cons (g_ix (g_var (pv 0)) g_int) (ga_cons (g_cls (pe_glob rfl T.g_Rule rfl) i_Rule) ga_nil))))))) gs_nil)
      (gs_cons (g_ifS (g_tnot (g_tval (g_cb w_all (by rfl) T.n_all (by decide +kernel) (ga_cons (g_lc (own := [("number", 1)]) nd (gi_seq (g_sl w_sl (g_var (pv 0)) (go_some g_int) go_none)) (blkOk_by (own := [("number", 1)]) (N := N_is_step) (sc := defScope (topS 15)) (by decide +kernel)) (fun _ _ _ _ _ => (gg_name (i := 1) nd rfl (Or.inl rfl))) (fun _ _ _ _ _ => gt_yes) (fun _ _ _ _ _ => (g_call G_is_number gd (hr.mono (by decide)) rfl T.g_is_number k_is_number b_is_number .nil (fun _ _ => .nil) LamX.takes0 (ga_cons (g_var (pv 1)) ga_nil)))) ga_nil)))) (gs_one (g_ret g_bl)) gs_nil)
      (gs_cons (g_ifS (g_tcmp (w_eq hr.units) (g_ix (g_var (pv 0)) g_int) g_str (nomark _)) (gs_one (g_ret (g_cmp (w_eq hr.units) (g_cb w_len (by rfl) T.n_len PySem.boot_len (ga_cons (g_var (pv 0)) ga_nil)) g_int (nomark _)))) gs_nil)
      (gs_cons (g_ifS (g_pt (g_wor (g_tcmp (w_ne hr.units) (g_ix (g_var (pv 0)) g_int) g_str (nomark _)) (g_wor1 (g_tcmp (w_ne hr.units) (g_cb w_len (by rfl) T.n_len PySem.boot_len (ga_cons (g_var (pv 0)) ga_nil)) g_int (nomark _))))) (gs_one (g_ret g_bl)) gs_nil)
      (gs_one (g_ret (g_cmp w_in (g_op w_sub (g_op w_mul (g_ix (g_var (pv 0)) g_int) (g_ix (g_var (pv 0)) g_int)) (g_op w_mul (g_ix (g_var (pv 0)) g_int) (g_ix (g_var (pv 0)) g_int))) (g_tup (ga_cons g_int (ga_cons (g_un w_neg g_int) ga_nil))) (by rfl))))))))) (by decide +kernel), run_wDef (N := N_is_step) h (Nat.le_refl _)⟩
theorem ok_is_step (T : Tx K mg) (TB : TbB K base mg) : OkW P w (cx K) mg base 2 (He.ga K "is_step") ["thing"] wp_is_step (0) (d_is_step.dvs K) := by
  obtain ⟨fd, F⟩ := T.f_is_step
  have hb : Binds K fd ["thing"] [] := F.bindsN fun _ _ _ _ _ _ us hl => match us, hl with | [_], _ => rfl
  exact ⟨fd, okF_is_step T TB F, hb, F.kp, ⟨[], .nil, hb⟩⟩
theorem okF_Rule___eq__ (T : Tx K mg) (TB : TbB K base mg) {fd : FuncData} (F : FunD K "__eq__" "Rule.__eq__" (defArgs (inClass (topS 10) 12)) (defBody (inClass (topS 10) 12)) (defScope (inClass (topS 10) 12)) (d_Rule___eq__.dvs K) [] (He.ma K (He.ga K "Rule") "__eq__") fd) : FnW P w K mg base 1 (He.ma K (He.ga K "Rule") "__eq__") fd ["self", "other"] (SpW (cx K) wp_Rule___eq__ (0)) := by
  have nd := sc_Rule___eq__.nd
  refine fnW_of F sc_Rule___eq__ (fun vs H Q E h => SpW.len rfl h) (fun A outer s H vs Q E gd hr h => ?_)
  have tk : Takes (cxOf (L2.CX P w) P w K mg base N_Rule___eq__ "Rule.__eq__" (defScope (inClass (topS 10) 12)) (He.ma K (He.ga K "Rule") "__eq__") (.ref (codeAt K (He.ma K (He.ga K "Rule") "__eq__"))) A outer s H E) (fun cls d _ H => E cls d H) := takes_of rfl rfl rfl rfl
  exact ⟨_, gs_le (c := cx K) (W := fun cls d _ H => E cls d H) (kb := 0) (gs_one (g_ret (g_and (g_cb (w_isi T.ctx) (by rfl) T.n_isinstance (by decide +kernel) (ga_cons (g_var (pv 1)) (ga_cons (g_cls (pe_glob rfl T.g_Rule rfl) i_Rule) ga_nil))) (g_one (g_cmp (w_eq hr.units) (g_fld (n := "Rule") (g_var (pv 0)) T.cl_Rule T.na_Rule_own_numbers) (g_fld (n := "Rule") (g_var (pv 1)) T.cl_Rule T.na_Rule_own_numbers) (nomark _)))))) (by decide +kernel), run_wDef (N := N_Rule___eq__) h (Nat.le_refl _)⟩
theorem ok_Rule___eq__ (T : Tx K mg) (TB : TbB K base mg) : OkW P w (cx K) mg base 1 (He.ma K (He.ga K "Rule") "__eq__") ["self", "other"] wp_Rule___eq__ (0) (d_Rule___eq__.dvs K) := by
  obtain ⟨fd, F⟩ := T.f_Rule___eq__
  have hb : Binds K fd ["self", "other"] [] := F.bindsN fun _ _ _ _ _ _ us hl => match us, hl with | [_, _], _ => rfl
  exact ⟨fd, okF_Rule___eq__ T TB F, hb, F.kp, ⟨[], .nil, hb⟩⟩
theorem okF_law_odd (T : Tx K mg) (TB : TbB K base mg) {fd : FuncData} (F : FunD K "_law_odd" "_law_odd" (defArgs (topS 29)) (defBody (topS 29)) (defScope (topS 29)) (d_law_odd.dvs K) [] (He.ga K "_law_odd") fd) : FnW P w K mg base 5 (He.ga K "_law_odd") fd ["_law_state"] (SpW (cx K) wp_law_odd (1)) := by
  obtain ⟨_, G_Rule___init__, b_Rule___init__, k_Rule___init__, _, v_Rule___init__, c_Rule___init__⟩ := ok_Rule___init__ (P := P) (w := w) (base := base) T TB
  obtain ⟨_, G_law_pick, b_law_pick, k_law_pick, _, v_law_pick, c_law_pick⟩ := ok_law_pick (P := P) (w := w) (base := base) T TB
  have nd := sc_law_odd.nd
  refine fnW_of F sc_law_odd (fun vs H Q E h => SpW.len rfl h) (fun A outer s H vs Q E gd hr h => ?_)
  have tk : Takes (cxOf (L2.CX P w) P w K mg base N_law_odd "_law_odd" (defScope (topS 29)) (He.ga K "_law_odd") (.ref (codeAt K (He.ga K "_law_odd"))) A outer s H E) (fun cls d _ H => E cls d H) := takes_of rfl rfl rfl rfl
  exact ⟨_, gs_le (c := cx K) (W := fun cls d _ H => E cls d H) (kb := 1) (gs_cons (g_set (i := 1) nd rfl (Or.inl rfl) (g_lst (ga_cons g_non (ga_cons g_bl (ga_cons g_bl (ga_cons g_int (ga_cons g_int (ga_cons (g_un w_neg g_int) (ga_cons g_int (ga_cons (g_op w_pow g_int g_int) (ga_cons g_str (ga_cons g_str (ga_cons g_str (ga_cons (g_tup ga_nil) (ga_cons (g_lst ga_nil) (ga_cons g_dict0 (ga_cons (g_tup (ga_cons g_str ga_nil)) (ga_cons (g_tup (ga_cons g_str (ga_cons g_int ga_nil))) (ga_cons (g_tup (ga_cons g_str (ga_cons g_int ga_nil))) ga_nil)))))))))))))))))))
      (gs_cons (g_set (i := 1) nd rfl (Or.inl rfl) (g_op w_add (g_var (pv 1)) (g_lst (ga_cons (g_tup (ga_cons g_str (ga_cons g_int (ga_cons g_int (ga_cons g_int (ga_cons g_int ga_nil)))))) (ga_cons (g_tup (ga_cons g_str ga_nil)) (ga_cons (g_lst (ga_cons (g_tup (ga_cons g_str (ga_cons g_int ga_nil))) ga_nil)) (ga_cons (g_disp1 g_str g_int) (ga_cons (g_dispT (is_ := [0, 0]) hr.units0 (pe_tup (pa_cons pe_int (pa_cons pe_int pa_nil))) (by decide) g_int) (ga_cons (g_tup (ga_cons g_int (ga_cons g_int ga_nil))) (ga_cons (g_tup (ga_cons g_int (ga_cons g_bl ga_nil))) (ga_cons (g_make (n := "Rule") T.mk_Rule G_Rule___init__ gd (hr.mono (by decide)) rfl T.g_Rule b_Rule___init__ .nil (fun _ _ => .nil) tk (ga_cons (g_lst (ga_cons g_int ga_nil)) ga_nil) n_Rule) ga_nil)))))))))))
      (gs_one (g_ret (g_call G_law_pick gd (hr.mono (by decide)) rfl T.g__law_pick k_law_pick b_law_pick .nil (fun _ _ => .nil) tk (ga_cons (g_var (pv 0)) (ga_cons (g_var (pv 1)) ga_nil))))))) (by decide +kernel), run_wDef (N := N_law_odd) h (Nat.le_refl _)⟩
theorem ok_law_odd (T : Tx K mg) (TB : TbB K base mg) : OkW P w (cx K) mg base 5 (He.ga K "_law_odd") ["_law_state"] wp_law_odd (1) (d_law_odd.dvs K) := by
  obtain ⟨fd, F⟩ := T.f_law_odd
  have hb : Binds K fd ["_law_state"] [] := F.bindsN fun _ _ _ _ _ _ us hl => match us, hl with | [_], _ => rfl
  exact ⟨fd, okF_law_odd T TB F, hb, F.kp, ⟨[], .nil, hb⟩⟩
theorem okF_law_is_number (T : Tx K mg) (TB : TbB K base mg) {fd : FuncData} (F : FunD K "_law_is_number" "_law_is_number" (defArgs (topS 22)) (defBody (topS 22)) (defScope (topS 22)) (d_law_is_number.dvs K) [] (He.ga K "_law_is_number") fd) : FnW P w K mg base 1 (He.ga K "_law_is_number") fd ["_law_thing_here"] (SpW (cx K) wp_law_is_number (0)) := by
  have nd := sc_law_is_number.nd
  refine fnW_of F sc_law_is_number (fun vs H Q E h => SpW.len rfl h) (fun A outer s H vs Q E gd hr h => ?_)
  have tk : Takes (cxOf (L2.CX P w) P w K mg base N_law_is_number "_law_is_number" (defScope (topS 22)) (He.ga K "_law_is_number") (.ref (codeAt K (He.ga K "_law_is_number"))) A outer s H E) (fun cls d _ H => E cls d H) := takes_of rfl rfl rfl rfl
  exact ⟨_, gs_le (c := cx K) (W := fun cls d _ H => E cls d H) (kb := 0) (gs_one (g_ret (g_and (g_cb (w_isi T.ctx) (by rfl) T.n_isinstance (by decide +kernel) (ga_cons (g_var (pv 0)) (ga_cons (g_ty (pe_bltn (by rfl) T.n_int (by decide +kernel) rfl)) ga_nil))) (g_one (g_not (g_cb (w_isi T.ctx) (by rfl) T.n_isinstance (by decide +kernel) (ga_cons (g_var (pv 0)) (ga_cons (g_ty (pe_bltn (by rfl) T.n_bool (by decide +kernel) rfl)) ga_nil)))))))) (by decide +kernel), run_wDef (N := N_law_is_number) h (Nat.le_refl _)⟩
theorem ok_law_is_number (T : Tx K mg) (TB : TbB K base mg) : OkW P w (cx K) mg base 1 (He.ga K "_law_is_number") ["_law_thing_here"] wp_law_is_number (0) (d_law_is_number.dvs K) := by
  obtain ⟨fd, F⟩ := T.f_law_is_number
  have hb : Binds K fd ["_law_thing_here"] [] := F.bindsN fun _ _ _ _ _ _ us hl => match us, hl with | [_], _ => rfl
  exact ⟨fd, okF_law_is_number T TB F, hb, F.kp, ⟨[], .nil, hb⟩⟩
theorem okF_law_bent (T : Tx K mg) (TB : TbB K base mg) {fd : FuncData} (F : FunD K "_law_bent" "_law_bent" (defArgs (topS 31)) (defBody (topS 31)) (defScope (topS 31)) (d_law_bent.dvs K) [] (He.ga K "_law_bent") fd) : FnW P w K mg base 10 (He.ga K "_law_bent") fd ["_law_state", "_law_thing_here"] (SpW (cx K) wp_law_bent (2 ^ 3)) := by
  obtain ⟨_, G_Rule___eq__, b_Rule___eq__, k_Rule___eq__, _, v_Rule___eq__, c_Rule___eq__⟩ := ok_Rule___eq__ (P := P) (w := w) (base := base) T TB
  obtain ⟨_, G_Rule___init__, b_Rule___init__, k_Rule___init__, _, v_Rule___init__, c_Rule___init__⟩ := ok_Rule___init__ (P := P) (w := w) (base := base) T TB
  obtain ⟨_, G_law_is_number, b_law_is_number, k_law_is_number, _, v_law_is_number, c_law_is_number⟩ := ok_law_is_number (P := P) (w := w) (base := base) T TB
  obtain ⟨_, G_law_odd, b_law_odd, k_law_odd, _, v_law_odd, c_law_odd⟩ := ok_law_odd (P := P) (w := w) (base := base) T TB
  obtain ⟨_, G_law_pick, b_law_pick, k_law_pick, _, v_law_pick, c_law_pick⟩ := ok_law_pick (P := P) (w := w) (base := base) T TB
  obtain ⟨_, G_law_take, b_law_take, k_law_take, _, v_law_take, c_law_take⟩ := ok_law_take (P := P) (w := w) (base := base) T TB
  have nd := sc_law_bent.nd
  refine fnW_of F sc_law_bent (fun vs H Q E h => SpW.len rfl h) (fun A outer s H vs Q E gd hr h => ?_)
  have tk : Takes (cxOf (L2.CX P w) P w K mg base N_law_bent "_law_bent" (defScope (topS 31)) (He.ga K "_law_bent") (.ref (codeAt K (He.ga K "_law_bent"))) A outer s H E) (fun cls d _ H => E cls d H) := takes_of rfl rfl rfl rfl
  exact ⟨_, gs_le (c := cx K) (W := fun cls d _ H => E cls d H) (kb := 2 ^ 3) (gs_cons (g_ifS (g_pt (g_wor (g_tnot (g_tval (g_cb (w_isi T.ctx) (by rfl) T.n_isinstance (by decide +kernel) (ga_cons (g_var (pv 1)) (ga_cons (g_ty (pe_bltn (by rfl) T.n_tuple (by decide +kernel) rfl)) ga_nil))))) (g_wor (g_tcmp (w_eqR ⟨⟨_, _, _, _, G_Rule___eq__, b_Rule___eq__, T.nf_Rule, T.spl_Rule_eq, ownE_Rule⟩, ownC_Rule⟩ gd (hr.mono (by decide))) (g_var (pv 1)) (g_tup ga_nil) (nomark _)) (g_wor1 (g_tcmp (w_eq hr.units) (g_call G_law_take gd (hr.mono (by decide)) rfl T.g__law_take k_law_take b_law_take .nil (fun _ _ => .nil) tk (ga_cons (g_var (pv 0)) (ga_cons g_int ga_nil))) g_int (nomark _)))))) (gs_one (g_ret (g_call G_law_odd gd (hr.mono (by decide)) rfl T.g__law_odd k_law_odd b_law_odd .nil (fun _ _ => .nil) tk (ga_cons (g_var (pv 0)) ga_nil)))) gs_nil)
      (gs_cons (g_parN (hp := ps_par (i := 2) (j := 3) rfl nd rfl rfl (by decide) rfl rfl (ga_cons (g_cty w_list (by rfl) T.n_list (by decide +kernel) (ga_cons (g_var (pv 1)) ga_nil)) (ga_cons (g_call G_law_take gd (hr.mono (by decide)) rfl T.g__law_take k_law_take b_law_take .nil (fun _ _ => .nil) tk (ga_cons (g_var (pv 0)) (ga_cons g_int ga_nil))) ga_nil)) rfl))
      (gs_cons (g_set (i := 4) nd rfl (Or.inl rfl) (g_call G_law_take gd (hr.mono (by decide)) rfl T.g__law_take k_law_take b_law_take .nil (fun _ _ => .nil) tk (ga_cons (g_var (pv 0)) (ga_cons (g_cb w_len (by rfl) T.n_len PySem.boot_len (ga_cons (g_var (pv 2)) ga_nil)) ga_nil))))
      (gs_cons (g_ifS (g_tcmp (w_eq hr.units) (g_var (pv 3)) g_int (nomark _)) (gs_one (g_drop (g_lmN mw_popAt (fun r h => pe_bm PySem.F.plainAttrs_list PySem.F.slot_list_pop PySem.F.type_list_pop h (g_var (pv 2)) (ga_cons (g_var (pv 4)) ga_nil))))) (gs_one (g_ifS (g_tcmp (w_eq hr.units) (g_var (pv 3)) g_int (nomark _)) (gs_one (g_drop (g_lmN mw_ins (fun r h => pe_bm PySem.F.plainAttrs_list PySem.F.slot_list_insert PySem.F.type_list_insert h (g_var (pv 2)) (ga_cons (g_var (pv 4)) (ga_cons (g_call G_law_pick gd (hr.mono (by decide)) rfl T.g__law_pick k_law_pick b_law_pick .nil (fun _ _ => .nil) tk (ga_cons (g_var (pv 0)) (ga_cons (g_lst (ga_cons g_int (ga_cons g_int (ga_cons (g_make (n := "Rule") T.mk_Rule G_Rule___init__ gd (hr.mono (by decide)) rfl T.g_Rule b_Rule___init__ .nil (fun _ _ => .nil) tk (ga_cons (g_lst (ga_cons g_int (ga_cons g_int ga_nil))) ga_nil) n_Rule) (ga_cons g_non ga_nil))))) ga_nil))) ga_nil)))))) (gs_one (g_ifS (g_tcmp (w_eq hr.units) (g_var (pv 3)) g_int (nomark _)) (gs_one (g_fz 2 (g_ret (g_var (pv 2))))) (gs_one (g_ifS (g_tcmp (w_eq hr.units) (g_var (pv 3)) g_int (nomark _)) (gs_one (g_setL (g_call G_law_pick gd (hr.mono (by decide)) rfl T.g__law_pick k_law_pick b_law_pick .nil (fun _ _ => .nil) tk (ga_cons (g_var (pv 0)) (ga_cons (g_lst (ga_cons g_str (ga_cons g_str (ga_cons g_str (ga_cons g_str (ga_cons g_str (ga_cons g_str (ga_cons g_str (ga_cons g_non (ga_cons g_int (ga_cons (g_tup (ga_cons g_str ga_nil)) ga_nil))))))))))) ga_nil))) (g_var (pv 2)) g_int)) (gs_one (g_ifS (g_pt (g_wand (g_tval (g_call G_law_is_number gd (hr.mono (by decide)) rfl T.g__law_is_number k_law_is_number b_law_is_number .nil (fun _ _ => .nil) tk (ga_cons (g_ix (g_var (pv 2)) (g_var (pv 4))) ga_nil))) (g_wand1 (g_tcmp w_lt (g_var (pv 3)) g_int (nomark _))))) (gs_cons (g_set (i := 5) nd rfl (Or.inl rfl) (g_ix (g_var (pv 2)) (g_var (pv 4))))
      (gs_one (g_setL (g_call G_law_pick gd (hr.mono (by decide)) rfl T.g__law_pick k_law_pick b_law_pick .nil (fun _ _ => .nil) tk (ga_cons (g_var (pv 0)) (ga_cons (g_lst (ga_cons (g_op w_add (g_var (pv 5)) g_int) (ga_cons (g_op w_sub (g_var (pv 5)) g_int) (ga_cons (g_op w_sub g_int (g_var (pv 5))) (ga_cons (g_op w_mul g_int (g_var (pv 5))) (ga_cons g_bl (ga_cons g_non (ga_cons (g_cty w_str (by rfl) T.n_str (by decide +kernel) (ga_cons (g_var (pv 5)) ga_nil)) ga_nil)))))))) ga_nil))) (g_var (pv 2)) (g_var (pv 4))))) (gs_one (g_setL (g_call G_law_odd gd (hr.mono (by decide)) rfl T.g__law_odd k_law_odd b_law_odd .nil (fun _ _ => .nil) tk (ga_cons (g_var (pv 0)) ga_nil)) (g_var (pv 2)) (g_var (pv 4)))))))))))))
      (gs_one (g_fz 2 (g_ret (g_cty w_tuple (by rfl) T.n_tuple (by decide +kernel) (ga_cons (g_var (pv 2)) ga_nil))))))))) (by decide +kernel), run_wDef (N := N_law_bent) h (Nat.le_refl _)⟩
theorem ok_law_bent (T : Tx K mg) (TB : TbB K base mg) : OkW P w (cx K) mg base 10 (He.ga K "_law_bent") ["_law_state", "_law_thing_here"] wp_law_bent (2 ^ 3) (d_law_bent.dvs K) := by
  obtain ⟨fd, F⟩ := T.f_law_bent
  have hb : Binds K fd ["_law_state", "_law_thing_here"] [] := F.bindsN fun _ _ _ _ _ _ us hl => match us, hl with | [_, _], _ => rfl
  exact ⟨fd, okF_law_bent T TB F, hb, F.kp, ⟨[], .nil, hb⟩⟩
theorem okF_law_is_step (T : Tx K mg) (TB : TbB K base mg) {fd : FuncData} (F : FunD K "_law_is_step" "_law_is_step" (defArgs (topS 30)) (defBody (topS 30)) (defScope (topS 30)) (d_law_is_step.dvs K) [] (He.ga K "_law_is_step") fd) : FnW P w K mg base 10 (He.ga K "_law_is_step") fd ["_law_thing_here"] (SpW (cx K) wp_law_is_step (0)) := by
  obtain ⟨_, G_Rule___eq__, b_Rule___eq__, k_Rule___eq__, _, v_Rule___eq__, c_Rule___eq__⟩ := ok_Rule___eq__ (P := P) (w := w) (base := base) T TB
  obtain ⟨_, G_law_is_number, b_law_is_number, k_law_is_number, _, v_law_is_number, c_law_is_number⟩ := ok_law_is_number (P := P) (w := w) (base := base) T TB
  have nd := sc_law_is_step.nd
  refine fnW_of F sc_law_is_step (fun vs H Q E h => SpW.len rfl h) (fun A outer s H vs Q E gd hr h => ?_)
  have tk : Takes (cxOf (L2.CX P w) P w K mg base N_law_is_step "_law_is_step" (defScope (topS 30)) (He.ga K "_law_is_step") (.ref (codeAt K (He.ga K "_law_is_step"))) A outer s H E) (fun cls d _ H => E cls d H) := takes_of rfl rfl rfl rfl
  exact ⟨_, gs_le (c := cx K) (W := fun cls d _ H => E cls d H) (kb := 0) (gs_cons (g_ifS (g_pt (g_wor (g_tnot (g_tval (g_cb (w_isi T.ctx) (by rfl) T.n_isinstance (by decide +kernel) (ga_cons (g_var (pv 0)) (ga_cons (g_ty (pe_bltn (by rfl) T.n_tuple (by decide +kernel) rfl)) ga_nil))))) (g_wor (g_tcmp (w_eqR ⟨⟨_, _, _, _, G_Rule___eq__, b_Rule___eq__, T.nf_Rule, T.spl_Rule_eq, ownE_Rule⟩, ownC_Rule⟩ gd (hr.mono (by decide))) (g_var (pv 0)) (g_tup ga_nil) (nomark _)) (g_wor1 (g_tnot (g_tval (g_cb (w_isi T.ctx) (by rfl) T.n_isinstance (by decide +kernel) (ga_cons (g_ix (g_var (pv 0)) g_int) (ga_cons (g_ty (pe_bltn (by rfl) T.n_str (by decide +kernel) rfl)) ga_nil))))))))) (gs_one (g_ret g_bl)) gs_nil)
      (gs_cons (g_parN (hp := ps_par (i := 1) (j := 2) rfl nd rfl rfl (by decide) rfl rfl (ga_cons (g_ix (g_var (pv 0)) g_int) (ga_cons (g_cty w_list (by rfl) T.n_list (by decide +kernel) (ga_cons (g_sl w_sl (g_var (pv 0)) (go_some g_int) go_none) ga_nil)) ga_nil)) rfl))
      (gs_cons (g_ifS (g_tcmp w_in (g_var (pv 1)) (g_tup (ga_cons g_str (ga_cons g_str ga_nil))) (by rfl)) (gs_one (g_ret (g_and (g_cmp (w_eq hr.units) (g_cb w_len (by rfl) T.n_len PySem.boot_len (ga_cons (g_var (pv 2)) ga_nil)) g_int (nomark _)) (g_one (g_cb (w_isi T.ctx) (by rfl) T.n_isinstance (by decide +kernel) (ga_cons (g_ix (g_var (pv 2)) g_int) (ga_cons (g_cls (pe_glob rfl T.g_Rule rfl) i_Rule) ga_nil))))))) gs_nil)
      (gs_cons (g_ifS (g_tcmp (w_ne0 hr.units0) (g_lc (own := [("_law_piece", 3)]) nd (gi_seq (g_var (pv 2))) (blkOk_by (own := [("_law_piece", 3)]) (N := N_law_is_step) (sc := defScope (topS 30)) (by decide +kernel)) (fun _ _ _ _ _ => (gg_name (i := 3) nd rfl (Or.inl rfl))) (fun _ _ _ _ _ => (gt_one (g_tnot (g_tval (g_call G_law_is_number gd (hr.mono (by decide)) rfl T.g__law_is_number k_law_is_number b_law_is_number .nil (fun _ _ => .nil) LamX.takes0 (ga_cons (g_var (pv 3)) ga_nil)))))) (fun _ _ _ _ _ => (g_var (pv 3)))) (g_lst ga_nil) (nomark _)) (gs_one (g_ret g_bl)) gs_nil)
      (gs_cons (g_ifS (g_tcmp (w_eq hr.units) (g_var (pv 1)) g_str (nomark _)) (gs_one (g_ret (g_cmp (w_eq hr.units) (g_cb w_len (by rfl) T.n_len PySem.boot_len (ga_cons (g_var (pv 2)) ga_nil)) g_int (nomark _)))) gs_nil)
      (gs_cons (g_ifS (g_pt (g_wor (g_tcmp (w_ne hr.units) (g_var (pv 1)) g_str (nomark _)) (g_wor1 (g_tcmp (w_ne hr.units) (g_cb w_len (by rfl) T.n_len PySem.boot_len (ga_cons (g_var (pv 2)) ga_nil)) g_int (nomark _))))) (gs_one (g_ret g_bl)) gs_nil)
      (gs_one (g_ret (g_cmp w_in (g_op w_sub (g_op w_mul (g_ix (g_var (pv 2)) g_int) (g_ix (g_var (pv 2)) g_int)) (g_op w_mul (g_ix (g_var (pv 2)) g_int) (g_ix (g_var (pv 2)) g_int))) (g_tup (ga_cons g_int (ga_cons (g_un w_neg g_int) ga_nil))) (by rfl)))))))))) (by decide +kernel), run_wDef (N := N_law_is_step) h (Nat.le_refl _)⟩
theorem ok_law_is_step (T : Tx K mg) (TB : TbB K base mg) : OkW P w (cx K) mg base 10 (He.ga K "_law_is_step") ["_law_thing_here"] wp_law_is_step (0) (d_law_is_step.dvs K) := by
  obtain ⟨fd, F⟩ := T.f_law_is_step
  have hb : Binds K fd ["_law_thing_here"] [] := F.bindsN fun _ _ _ _ _ _ us hl => match us, hl with | [_], _ => rfl
  exact ⟨fd, okF_law_is_step T TB F, hb, F.kp, ⟨[], .nil, hb⟩⟩
theorem ok_law_begun (T : Tx K mg) (TB : TbB K base mg) : ∃ fd, FnW P w K mg base 1 (He.ga K "_law_begun") fd ["_law_script"] (sp_law_begun (cx K)) ∧ Binds K fd ["_law_script"] [] ∧ PySem.W.keepIn K (.ref (He.ga K "_law_begun")) = true := by
  obtain ⟨fd, F⟩ := T.f_law_begun
  have nd := sc_law_begun.nd
  have hb : Binds K fd ["_law_script"] [] := F.bindsN fun _ _ _ _ _ _ us hl => match us, hl with | [_], _ => rfl
  refine ⟨fd, fnW_of F sc_law_begun (fun vs H Q E h => by obtain ⟨a, ns, rfl, _⟩ := h; rfl) (fun A outer s H vs Q E gd hr h => ⟨rd_law_begun (cx K), PSs.nox ?_, run_begun rfl h⟩), hb, F.kp⟩
  exact (pss_cons (ps_setLc (i := 1) (own := [("_law_cell", 2)]) rfl nd rfl rfl (sw_true rfl rfl rfl (by decide +kernel)) (pi_list (pv 0)) (blkOk_by (own := [("_law_cell", 2)]) (N := N_law_begun) (sc := defScope (topS 17)) (by decide +kernel)) (fun _ _ _ _ _ => (pg_name (i := 2) nd rfl (Or.inl rfl))) (fun _ _ _ _ _ => (pts_one (pt_cmpR op_ge (pe_callB call_absG (by rfl) T.n_abs (by decide +kernel) (pa_cons (pv 2) pa_nil)) (pe_op op_pow27 pe_int pe_int) (nomark _)))) (fun _ _ _ _ _ => (pe_op op_sub (pe_callB call_absG (by rfl) T.n_abs (by decide +kernel) (pa_cons (pv 2) pa_nil)) (pe_op op_pow27 pe_int pe_int))))
      (pss_one (ps_ret (pe_disp (pps_cons pe_str (pv 1) (pps_cons pe_str (pe_lc (own := [("_law_cell", 2)]) rfl nd (pi_list (pv 0)) (blkOk_by (own := [("_law_cell", 2)]) (N := N_law_begun) (sc := defScope (topS 17)) (by decide +kernel)) (fun _ _ _ _ _ => (pg_name (i := 2) nd rfl (Or.inl rfl))) (fun _ _ _ _ _ => pts_nil) (fun _ _ _ _ _ => (pe_op op_mod (pe_callTy call_intG (by rfl) T.n_int (by decide +kernel) (pa_cons (pe_callB call_absG (by rfl) T.n_abs (by decide +kernel) (pa_cons (pv 2) pa_nil)) pa_nil)) pe_int))) (pps_cons pe_str pe_int (pps_cons pe_str pe_int pps_nil)))) (by rfl) (by rfl) (fun z => by cases z) (by decide)))))
theorem ok_law (T : Tx K mg) (TB : TbB K base mg) {fd : FuncData} (F : FunD K "law" "law" (defArgs (topS 32)) (defBody (topS 32)) (defScope (topS 32)) (d_law.dvs K) [] (He.ga K "law") fd) : FnW P w K mg base 11 (He.ga K "law") fd ["_law_script"] (spLaw (cx K)) := by
  obtain ⟨_, G_law_begun, b_law_begun, k_law_begun⟩ := ok_law_begun (P := P) (w := w) (base := base) T TB
  obtain ⟨_, G_law_bent, b_law_bent, k_law_bent, _, v_law_bent, c_law_bent⟩ := ok_law_bent (P := P) (w := w) (base := base) T TB
  obtain ⟨_, G_law_is_step, b_law_is_step, k_law_is_step, _, v_law_is_step, c_law_is_step⟩ := ok_law_is_step (P := P) (w := w) (base := base) T TB
  obtain ⟨_, G_law_number, b_law_number, k_law_number, _, v_law_number, c_law_number⟩ := ok_law_number (P := P) (w := w) (base := base) T TB
  obtain ⟨_, G_law_pick, b_law_pick, k_law_pick, _, v_law_pick, c_law_pick⟩ := ok_law_pick (P := P) (w := w) (base := base) T TB
  obtain ⟨_, G_law_step, b_law_step, k_law_step, _, v_law_step, c_law_step⟩ := ok_law_step (P := P) (w := w) (base := base) T TB
  obtain ⟨_, G_law_step_of, b_law_step_of, k_law_step_of, _, v_law_step_of, c_law_step_of⟩ := ok_law_step_of (P := P) (w := w) (base := base) T TB
  obtain ⟨_, G_law_take, b_law_take, k_law_take, _, v_law_take, c_law_take⟩ := ok_law_take (P := P) (w := w) (base := base) T TB
  obtain ⟨_, G_is_step, b_is_step, k_is_step, _, v_is_step, c_is_step⟩ := ok_is_step (P := P) (w := w) (base := base) T TB
  have nd := sc_law.nd
  obtain ⟨fk_kb_is_step_0, FK_kb_is_step_0⟩ := T.f_is_step
  have GK_is_step := okF_is_step (P := P) (w := w) (base := base) T TB FK_kb_is_step_0
  have kb_is_step_0 : KB K fk_kb_is_step_0 ["thing"] 0 ["thing"] [0] := kbn0 FK_kb_is_step_0 0 ["thing"] [0] fun _ _ _ _ _ _ us ws hl hw => match us, ws, hl, hw with | [], [_], _, _ => rfl
  refine fnW_of F sc_law (fun vs H Q E h => by obtain ⟨a, ns, rfl, _⟩ := h; rfl) (fun A outer s H vs Q E gd hr h => ?_)
  have tk : Takes (cxOf (L2.CX P w) P w K mg base N_law "law" (defScope (topS 32)) (He.ga K "law") (.ref (codeAt K (He.ga K "law"))) A outer s H E) (fun cls d _ H => E cls d H) := takes_of rfl rfl rfl rfl
  have first : PS (cxOf (L2.CX P w) P w K mg base N_law "law" (defScope (topS 32)) (He.ga K "law") (.ref (codeAt K (He.ga K "law"))) A outer s H E) (defBody (topS 32)).head! _ := ps_set (i := 1) nd rfl (Or.inr rfl) (pe_callW0 G_law_begun gd (hr.mono (by decide)) rfl T.g__law_begun k_law_begun b_law_begun (pa_cons (pv 0) pa_nil))
  have rest : GSs (cxOf (L2.CX P w) P w K mg base N_law "law" (defScope (topS 32)) (He.ga K "law") (.ref (codeAt K (He.ga K "law"))) A outer s H E) (cx K) (fun cls d _ H => E cls d H) (2 ^ 131) (defBody (topS 32)).tail wr_law := gs_le (gs_cons (g_for (passes_of rfl) (gi_rng1 (by rfl) T.n_range (ga_cons (g_op w_add g_int (g_cb w_min2 (by rfl) T.n_min (by decide +kernel) (ga_cons (g_cb w_len (by rfl) T.n_len PySem.boot_len (ga_cons (g_var (pv 0)) ga_nil)) (ga_cons g_int ga_nil)))) ga_nil)) (gg_name (i := 2) nd rfl (Or.inl rfl)) (gs_cons (g_set (i := 3) nd rfl (Or.inl rfl) (g_call G_law_step gd (hr.mono (by decide)) rfl T.g__law_step k_law_step b_law_step .nil (fun _ _ => .nil) tk (ga_cons (g_var (pv 1)) (ga_cons g_int (ga_cons (g_call G_law_pick gd (hr.mono (by decide)) rfl T.g__law_pick k_law_pick b_law_pick .nil (fun _ _ => .nil) tk (ga_cons (g_var (pv 1)) (ga_cons (g_lst (ga_cons g_int (ga_cons g_int (ga_cons (g_op w_pow g_int g_int) ga_nil)))) ga_nil))) ga_nil)))))
      (gs_cons (g_ifS (g_tcmp (w_eq hr.units) (g_call G_law_take gd (hr.mono (by decide)) rfl T.g__law_take k_law_take b_law_take .nil (fun _ _ => .nil) tk (ga_cons (g_var (pv 1)) (ga_cons g_int ga_nil))) g_int (nomark _)) (gs_one (g_set (i := 3) nd rfl (Or.inl rfl) (g_tup (ga_cons g_str (ga_cons (g_lc (own := [("_law_place", 7)]) nd (gi_rng1 (by rfl) T.n_range (ga_cons g_int ga_nil)) (blkOk_by (own := [("_law_place", 7)]) (N := N_law) (sc := defScope (topS 32)) (by decide +kernel)) (fun _ _ _ _ _ => (gg_name (i := 7) nd rfl (Or.inl rfl))) (fun _ _ _ _ _ => gt_yes) (fun _ _ _ _ _ => (g_call G_law_number gd (hr.mono (by decide)) rfl T.g__law_number k_law_number b_law_number .nil (fun _ _ => .nil) LamX.takes0 (ga_cons (g_var (pv 1)) (ga_cons (g_op w_pow g_int g_int) ga_nil))))) ga_nil))))) gs_nil)
      (gs_cons (g_set (i := 4) nd rfl (Or.inl rfl) (g_call G_law_step_of gd (hr.mono (by decide)) rfl T.g__law_step_of k_law_step_of b_law_step_of .nil (fun _ _ => .nil) tk (ga_cons (g_var (pv 3)) ga_nil)))
      (gs_cons (g_ifS (g_tcmp w_notB (g_call G_is_step gd (hr.mono (by decide)) rfl T.g_is_step k_is_step b_is_step .nil (fun _ _ => .nil) tk (ga_cons (g_var (pv 4)) ga_nil)) g_bl (nomark _)) (gs_one (g_ret g_bl)) gs_nil)
      (gs_cons (g_for (passes_of rfl) (gi_rng1 (by rfl) T.n_range (ga_cons (g_call G_law_pick gd (hr.mono (by decide)) rfl T.g__law_pick k_law_pick b_law_pick .nil (fun _ _ => .nil) tk (ga_cons (g_var (pv 1)) (ga_cons (g_lst (ga_cons g_int (ga_cons g_int (ga_cons g_int (ga_cons g_int ga_nil))))) ga_nil))) ga_nil)) (gg_name (i := 5) nd rfl (Or.inl rfl)) (gs_one (g_set (i := 4) nd rfl (Or.inl rfl) (g_call G_law_bent gd (hr.mono (by decide)) rfl T.g__law_bent k_law_bent b_law_bent .nil (fun _ _ => .nil) tk (ga_cons (g_var (pv 1)) (ga_cons (g_var (pv 4)) ga_nil))))))
      (gs_cons (g_set (i := 6) nd rfl (Or.inl rfl) (g_call G_law_is_step gd (hr.mono (by decide)) rfl T.g__law_is_step k_law_is_step b_law_is_step .nil (fun _ _ => .nil) tk (ga_cons (g_var (pv 4)) ga_nil)))
      (gs_one (g_ifS (g_tcmp (w_ne hr.units) (g_cb (w_repr gd hr.units) (by rfl) T.n_repr (by decide +kernel) (ga_cons (g_lst (ga_cons (g_call G_is_step gd (hr.mono (by decide)) rfl T.g_is_step k_is_step b_is_step .nil (fun _ _ => .nil) tk (ga_cons (g_var (pv 4)) ga_nil)) (ga_cons (g_callK GK_is_step gd (hr.mono (by decide)) rfl T.g_is_step k_is_step kb_is_step_0 tk (gk_cons (g_var (pv 4)) gk_nil)) ga_nil))) ga_nil)) (g_cb (w_repr gd hr.units) (by rfl) T.n_repr (by decide +kernel) (ga_cons (g_lst (ga_cons (g_var (pv 6)) (ga_cons (g_var (pv 6)) ga_nil))) ga_nil)) (nomark _)) (gs_one (g_ret g_bl)) gs_nil)))))))))
      (gs_one (g_ret g_bl))) (by decide +kernel)
  exact ⟨_, pss_cons first rest, law_start (N := N_law) (k := 2 ^ 131) (W := fun cls d _ H => E cls d H) (by decide) (by decide +kernel) law_ok h⟩
end
abbrev R : PySem.W.OpenRow := PySem.W.OpenLaw.row PySem.Challenge.rw_crossadds_k19_steps_judged
def loose0 : List Str := ["_wall", "__name__", "CrossError", "BadRule", "BadPower", "is_number", "is_from", "is_list", "without_end", "Rule", "row_value", "row_sum", "row_product", "is_step", "_law_begun", "_law_mixed", "_law_take", "_law_pick", "_law_number", "_law_is_number", "_law_trimmed", "_law_rule", "_law_is_low", "_law_turn", "_law_step", "_law_step_of", "_law_odd", "_law_is_step", "_law_bent"]
abbrev loose : List Str := ["_wall", "__name__", "CrossError", "BadRule", "BadPower", "is_number", "is_from", "is_list", "without_end", "Rule", "row_value", "row_sum", "row_product", "is_step", "_law_begun", "_law_mixed", "_law_take", "_law_pick", "_law_number", "_law_is_number", "_law_trimmed", "_law_rule", "_law_is_low", "_law_turn", "_law_step", "_law_step_of", "_law_odd", "_law_is_step", "_law_bent"]
abbrev hk : PySem.W.Hook := hookY 7 bs fn tf
def ob (s : PySem.W.SharedT) : AlY := obsY 7 bs fn tf (HandSHeadRun.getT s)
theorem ob_eq (s : PySem.W.SharedT) : ob s = hk.obs s.abs := obsY_eq (HandSHeadRun.getT_eq s)
theorem run (w : PySem.World) : HandSHeadRun.RunEq R (PySem.W.view R.prog [32]) hk ob 4000 loose w := by
  intro os
  kernel_rfl
end KLaw
open PySem PySem.W PySem.Calls PyProof.Rows
theorem PySem.Challenge.cw_crossadds_k19_steps_judged_holds : PySem.Challenge.rw_crossadds_k19_steps_judged.Holds := by
  w_on; o_law
  refine HandSHeadRun.head_any (r := OpenLaw.row PySem.Challenge.rw_crossadds_k19_steps_judged) (q := view (OpenLaw.row PySem.Challenge.rw_crossadds_k19_steps_judged).prog [32]) (H := KLaw.hk) (ob := KLaw.ob) (M := 4000) (loose := KLaw.loose) (d := HandSHeadRun.topDef (OpenLaw.row PySem.Challenge.rw_crossadds_k19_steps_judged).prog 32) (kwd := []) KLaw.ob_eq
    (by kernel_rfl) (fun s => by kernel_rfl) KLaw.run (by kernel_rfl) (by kernel_rfl) (by kernel_rfl) (by rfl) (by first | assumption | decide +kernel) (by decide +kernel) ⟨rfl, rfl, rfl, rfl, rfl, by decide +kernel⟩ ?hw ?hc
  case hw => w_witness2
  case hc =>
    refine DL.walk_of (l := PySem.Challenge.rw_crossadds_k19_steps_judged) (n := 63) (k := 11) (x := "_law_script") rfl (by decide) (by kernel_rfl) ⟨rfl, by decide, by decide⟩ ?F
    intro w mg fa h Y G hmg0
    obtain ⟨K, KX, c⟩ := Y
    have hmg : mg ("law" : PySem.Str) = some (.ref fa) := by
      have e : (HandSHeadRun.topDef (OpenLaw.row PySem.Challenge.rw_crossadds_k19_steps_judged).prog 32).name = ("law" : PySem.Str) := by kernel_rfl
      rw [← e]
      exact hmg0
    have T := KLaw.tx KX G c.t
    have e := hmg.symm.trans T.g_law
    cases e
    obtain ⟨fd, F⟩ := T.f_law
    refine ⟨KLaw.cx K, fd, DL.tabsOf K KLaw.tf, KX, DL.tabs_all (P := fun p => h.get? p.2 = some { cls := .none, data := .fields #[] }) c.empty, DL.tabs_all (P := fun p => K.lookup p.2 = none) c.out, DL.tabs_all (P := fun p => PySem.W.CodeHd h p.1 p.2) (fun f hf => PySem.W.codeHd_of_K KX (c.hd f hf)), ?tb, fun s v => (L2.FunD.bindsA (ps := ["_law_script"]) F fun _ _ _ _ _ _ us hl => match us, hl with | [_], _ => rfl) s [v] rfl, fun base _ _ TB => ?_⟩
    case tb =>
      intro p hp
      cases hp
    exact KLaw.ok_law (P := (PySem.Challenge.rw_crossadds_k19_steps_judged).prog) (w := w) (base := base) T (fun f hf => TB _ (DL.tabs_mem hf)) F
