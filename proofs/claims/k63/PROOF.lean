import PyProof.Rows.All
import Wide.All
import OpenK.AllK
import Wide.FinOn
import HandS.ForMost
import HandS.Wide
import HandS.WideBits
import HandS.Star
import HandS.Property
import HandS.IsInst
import HandS.Style
import HandS.TupAny
import HandS.Defaults
import HandS.Flow
import HandS.Lambda
import HandS.Exc
import KE.KOpsOwn
import PyProof.InstEq
import PyProof.InstNe
import HandS.TupMul
import HandS.Zip
import HandS.Head0
import HandS.Head1
import HandS.Head2
import HandS.HeadEnd
import HandS.HeadHook1
import HandS.HeadHook2
import KE.GoesMore
import KE.KRevSl
import KE.KIsAll
import HandS.ExcIs
import HandS.ExcField
import PyProof.ReprReads
import PyProof.ReprRoads
import PyProof.ReprLen
import PyProof.P3Eq
import PyProof.Fits
import HandS.ExcInit
import HandS.ExcOwn
import HandS.ClsMeth
import HandS.RaiseMore
import HandS.ExcValue
import HandS.EndTab
import HandS.HeadHook4
import PyProof.ListRange
import HandS.MakeKwOnly
import HandS.OwnEq
import HandS.NamedTupGet
import PyProof.StrReplace2
import PyProof.Rows.Digits
import KE.DataEq
import KE.KWithOwn
import HandS.Finally
import HandS.HotCalls
import HandS.RaiseOp
import HandS.TryMany
import HandS.DictTup
import HandS.Conv
import HandS.Iter
import HandS.SortRule
import KE.KDictSum
import HandS.DictComp
import KE.KDictCopyH
import KE.KDictOf
import KE.KDictPairs
import HandS.SortKw
import KE.DataMinMax
import KE.KEqDict
import HandS.Sort
import HandS.GenOver
import HandS.GenList
import PySem.Challenge.RW_crossadds_k63_blocks_of_benches
set_option Elab.async false
set_option linter.all false
set_option maxRecDepth 100000
set_option maxHeartbeats 4000000
/-! A0: a logic of plain data over the hand layer: data, cells, the world. -/
namespace DL
open PySem L2

/-- plain data; a cell is a thing that still changes -/
inductive D where
  | none | bool (b : Bool) | int (i : Int) | str (s : Str)
  | list (ds : List D) | tup (ds : List D)
  | dk (ks : List Key) (ds : List D) | dt (ks : List (List Key)) (ds : List D)
  | obj (c : Str) (fs : List Str) (ds : List D)
  | script (ns : List Int) | state | ty (n : String) | cls (n : Str)
  | err (c : Str) (fs : List Str) (ds : List D)
  | cell (a : Addr)
/-- what a cell holds -/
inductive Nd where
  | list (ds : List D) | dk (ks : List Key) (ds : List D) | dt (ks : List (List Key)) (ds : List D)
  | obj (c : Str) (fs : List Str) (ds : List D)
def Nd.frz : Nd → D
  | .list ds => .list ds
  | .dk ks ds => .dk ks ds
  | .dt ks ds => .dt ks ds
  | .obj c fs ds => .obj c fs ds
abbrev Mu := Addr → Option Nd
def up (μ : Mu) (a : Addr) (x : Nd) : Mu := fun b => if b = a then some x else μ b
def del (μ : Mu) (a : Addr) : Mu := fun b => if b = a then Option.none else μ b
theorem up_same {μ : Mu} {a : Addr} {x : Nd} : up μ a x a = some x := if_pos rfl
theorem up_ne {μ : Mu} {a b : Addr} {x : Nd} (h : b ≠ a) : up μ a x b = μ b := if_neg h
theorem up_up {μ : Mu} {a : Addr} {x y : Nd} : up (up μ a x) a y = up μ a y := by
  funext b
  unfold up
  split <;> rfl
theorem del_same {μ : Mu} {a : Addr} : del μ a a = Option.none := if_pos rfl
theorem del_ne {μ : Mu} {a b : Addr} (h : b ≠ a) : del μ a b = μ b := if_neg h
theorem del_up {μ : Mu} {a : Addr} {x : Nd} (h : μ a = Option.none) : del (up μ a x) a = μ := by
  funext b
  by_cases z : b = a
  · subst z
    rw [del_same, h]
  · rw [del_ne z, up_ne z]

/-- the written part, the classes by name -/
structure Ctx where
  K : PySem.W.Frag
  cl : Str → Addr
  tb : List (Addr × Str) := []
  ns : List Str := []
  es : List Str := []
/-- the built-in types that are named -/
def tyNames : List String := ["int", "bool", "str", "list", "tuple", "dict", "NoneType", "ValueError", "KeyError", "ZeroDivisionError", "TypeError"]
/-- where the law's state stands: its dict, its list of wide cells, its list of cells -/
structure SA where
  d : Addr
  l : Addr
  k : Addr
  T : List (Addr × Str) := []

/-- at a: an error of the class cls, its dict at d -/
def ErO (a : Addr) (cls : Value) (d : Option Addr) : HO := .ext fun h => ∃ (oe : Obj) (vs : Array Value), h.get? a = some oe ∧ Zc cls d oe ∧ oe.data = .fields vs
/-- what an error's dict holds -/
def ErF (I : Hp) (d : Option Addr) (fs : List Str) (xs : List V) : Prop := fs.length = xs.length ∧ ((d = none ∧ fs = []) ∨ ∃ dx, d = some dx ∧ I dx = some (.xd (List.zip fs xs)))
/-- no pair that begins with a number (such a pair may be a dict's key) -/
def isIntV : V → Bool
  | .int _ => true
  | _ => false
def noKey : List V → Bool
  | [v, _] => !isIntV v
  | _ => true
/-- a tuple at a: made while running, or one of the written part that is no key -/
def TupA (K : PySem.W.Frag) (I : Hp) (a : Addr) (xs : List V) : Prop := I a = some (.tup xs) ∨ (noKey xs = true ∧ SqT K I a xs)
theorem TupA.sq {K : PySem.W.Frag} {I : Hp} {a : Addr} {xs : List V} (h : TupA K I a xs) : SqT K I a xs := by
  rcases h with h | ⟨_, h⟩
  · exact .inl (.inl h)
  · exact h
mutual
/-- what a value stands for, by what is known -/
inductive Rep (c : Ctx) (S : Option SA) (I : Hp) : D → V → Prop where
  | none : Rep c S I .none .non
  | bool {b} : Rep c S I (.bool b) (.bl b)
  | int {i} : Rep c S I (.int i) (.int i)
  | str {s} : Rep c S I (.str s) (.str s)
  | list {a ds xs} (h : I a = some (.lst xs)) (r : Reps c S I ds xs) : Rep c S I (.list ds) (.ref a)
  | tup {a ds xs} (h : TupA c.K I a xs) (r : Reps c S I ds xs) : Rep c S I (.tup ds) (.ref a)
  | dk {a ks ds xs} (h : I a = some (.dK (List.zip ks xs))) (r : Reps c S I ds xs) (l : ks.length = xs.length) : Rep c S I (.dk ks ds) (.ref a)
  | dt {a ks ds xs} (h : I a = some (.dT (List.zip ks xs))) (r : Reps c S I ds xs) (l : ks.length = xs.length) : Rep c S I (.dt ks ds) (.ref a)
  | obj {a n dx fs ds xs} (h : I a = some (.ins (c.cl n) dx (List.zip fs xs))) (r : Reps c S I ds xs) (l : fs.length = xs.length) (hn : n ∈ c.ns) : Rep c S I (.obj n fs ds) (.ref a)
  | script {a ns} (h : SqL c.K I a (ns.map V.int)) : Rep c S I (.script ns) (.ref a)
  | state {s} (h : S = some s) (ht : s.T = c.tb) : Rep c S I .state (.ref s.d)
  | ty {n} (hn : n ∈ tyNames) : Rep c S I (.ty n) (.ty n)
  | cls {n} (hn : n ∈ c.ns ++ c.es) : Rep c S I (.cls n) (.ref (c.cl n))
  | err {a n d fs ds xs} (h : I a = some (ErO a (.ref (c.cl n)) d)) (hf : ErF I d fs xs) (r : Reps c S I ds xs) (hn : n ∈ c.es) : Rep c S I (.err n fs ds) (.ref a)
  | cell {a} : Rep c S I (.cell a) (.ref a)
inductive Reps (c : Ctx) (S : Option SA) (I : Hp) : List D → List V → Prop where
  | nil : Reps c S I [] []
  | cons {d ds x xs} (h : Rep c S I d x) (r : Reps c S I ds xs) : Reps c S I (d :: ds) (x :: xs)
end

theorem Same.sqT {K : PySem.W.Frag} {H H' : Hp} {a : Addr} {xs : List V} (e : Same H H') (h : SqT K H a xs) : SqT K H' a xs := by
  rcases h with (h | ⟨o, h⟩) | h
  · exact .inl (.inl (e _ _ h))
  · exact .inl (.inr ⟨o, e _ _ h⟩)
  · exact .inr h
theorem Same.tup {K : PySem.W.Frag} {H H' : Hp} {a : Addr} {xs : List V} (e : Same H H') (h : TupA K H a xs) : TupA K H' a xs := by
  rcases h with h | ⟨h, g⟩
  · exact .inl (e _ _ h)
  · exact .inr ⟨h, Same.sqT e g⟩
theorem ErF.mono {I I' : Hp} (e : Same I I') {d : Option Addr} {fs : List Str} {xs : List V} (h : ErF I d fs xs) : ErF I' d fs xs := by
  obtain ⟨h1, h2⟩ := h
  refine ⟨h1, ?_⟩
  rcases h2 with z | ⟨dx, z, q⟩
  · exact .inl z
  · exact .inr ⟨dx, z, e _ _ q⟩
section
variable {c : Ctx} {S : Option SA} {I I' : Hp}
mutual
theorem Rep.mono (e : Same I I') : ∀ {d : D} {v : V}, Rep c S I d v → Rep c S I' d v
  | _, _, .none => .none
  | _, _, .bool => .bool
  | _, _, .int => .int
  | _, _, .str => .str
  | _, _, .list h r => .list (e _ _ h) (Reps.mono e r)
  | _, _, .tup h r => .tup (Same.tup e h) (Reps.mono e r)
  | _, _, .dk h r l => .dk (e _ _ h) (Reps.mono e r) l
  | _, _, .dt h r l => .dt (e _ _ h) (Reps.mono e r) l
  | _, _, .obj h r l hn => .obj (e _ _ h) (Reps.mono e r) l hn
  | _, _, .script h => .script (e.seq h)
  | _, _, .state h t => .state h t
  | _, _, .ty hn => .ty hn
  | _, _, .cls hn => .cls hn
  | _, _, .err h f r hn => .err (e _ _ h) (f.mono e) (Reps.mono e r) hn
  | _, _, .cell => .cell
theorem Reps.mono (e : Same I I') : ∀ {ds : List D} {xs : List V}, Reps c S I ds xs → Reps c S I' ds xs
  | _, _, .nil => .nil
  | _, _, .cons h r => .cons (Rep.mono e h) (Reps.mono e r)
end
theorem Reps.length : ∀ {ds : List D} {xs : List V}, Reps c S I ds xs → ds.length = xs.length
  | _, _, .nil => rfl
  | _, _, .cons _ r => by rw [List.length_cons, List.length_cons, r.length]
theorem Reps.get : ∀ {ds : List D} {xs : List V} {i : Nat} {d : D}, Reps c S I ds xs → ds[i]? = some d → ∃ x, xs[i]? = some x ∧ Rep c S I d x
  | _, _, _, _, .nil, h => by simp at h
  | _, _, 0, _, .cons r _, h => by
    simp at h
    subst h
    exact ⟨_, rfl, r⟩
  | _, _, i + 1, d, .cons _ r, h => by
    obtain ⟨x, h1, h2⟩ := r.get (i := i) (by simpa using h)
    exact ⟨x, by simpa using h1, h2⟩
theorem Reps.append : ∀ {ds es : List D} {xs ys : List V}, Reps c S I ds xs → Reps c S I es ys → Reps c S I (ds ++ es) (xs ++ ys)
  | _, _, _, _, .nil, s => s
  | _, _, _, _, .cons h r, s => .cons h (r.append s)
theorem Reps.set {d : D} {x : V} (q : Rep c S I d x) : ∀ {ds : List D} {xs : List V} (i : Nat), Reps c S I ds xs → Reps c S I (ds.set i d) (xs.set i x)
  | _, _, _, .nil => .nil
  | _, _, 0, .cons _ r => .cons q r
  | _, _, i + 1, .cons h r => .cons h (Reps.set q i r)
theorem Reps.take : ∀ {ds : List D} {xs : List V} (i : Nat), Reps c S I ds xs → Reps c S I (ds.take i) (xs.take i)
  | _, _, 0, _ => .nil
  | _, _, _ + 1, .nil => .nil
  | _, _, i + 1, .cons h r => .cons h (r.take i)
theorem Reps.drop : ∀ {ds : List D} {xs : List V} (i : Nat), Reps c S I ds xs → Reps c S I (ds.drop i) (xs.drop i)
  | _, _, 0, r => r
  | _, _, _ + 1, .nil => .nil
  | _, _, i + 1, .cons _ r => r.drop i
theorem Reps.reverse : ∀ {ds : List D} {xs : List V}, Reps c S I ds xs → Reps c S I ds.reverse xs.reverse
  | _, _, .nil => .nil
  | _, _, .cons h r => by
    rw [List.reverse_cons, List.reverse_cons]
    exact r.reverse.append (.cons h .nil)
theorem Reps.flat {ds : List D} {xs : List V} (q : Reps c S I ds xs) : ∀ n : Nat, Reps c S I (List.replicate n ds).flatten (List.replicate n xs).flatten
  | 0 => .nil
  | n + 1 => by
    rw [List.replicate_succ, List.replicate_succ, List.flatten_cons, List.flatten_cons]
    exact q.append (Reps.flat q n)
theorem Reps.dropLast {ds : List D} {xs : List V} (q : Reps c S I ds xs) : Reps c S I ds.dropLast xs.dropLast := by
  rw [List.dropLast_eq_take, List.dropLast_eq_take, q.length]
  exact q.take _
theorem Reps.ints : ∀ {ns : List Int} {xs : List V}, Reps c S I (ns.map D.int) xs → xs = ns.map V.int
  | [], _, .nil => rfl
  | _ :: ns, _, .cons h r => by
    cases h
    rw [r.ints]
    rfl
theorem Reps.of_ints : ∀ {ns : List Int}, Reps c S I (ns.map D.int) (ns.map V.int)
  | [] => .nil
  | _ :: _ => .cons .int Reps.of_ints
end
/-- what a cell's thing is -/
inductive NdR (c : Ctx) (S : Option SA) (I : Hp) : Nd → HO → Prop where
  | list {ds xs} (r : Reps c S I ds xs) : NdR c S I (.list ds) (.lst xs)
  | dk {ks ds xs} (r : Reps c S I ds xs) (l : ks.length = xs.length) : NdR c S I (.dk ks ds) (.dK (List.zip ks xs))
  | dt {ks ds xs} (r : Reps c S I ds xs) (l : ks.length = xs.length) : NdR c S I (.dt ks ds) (.dT (List.zip ks xs))
  | obj {n dx fs ds xs} (r : Reps c S I ds xs) (l : fs.length = xs.length) (hn : n ∈ c.ns) : NdR c S I (.obj n fs ds) (.ins (c.cl n) dx (List.zip fs xs))
theorem NdR.mono {c : Ctx} {S : Option SA} {I I' : Hp} (e : Same I I') {nd : Nd} {o : HO} (h : NdR c S I nd o) : NdR c S I' nd o := by
  cases h with
  | list r => exact .list (r.mono e)
  | dk r l => exact .dk (r.mono e) l
  | dt r l => exact .dt (r.mono e) l
  | obj r l hn => exact .obj (r.mono e) l hn
theorem NdR.frz {c : Ctx} {S : Option SA} {I : Hp} {nd : Nd} {o : HO} {a : Addr} (h : NdR c S I nd o) (ha : I a = some o) : Rep c S I nd.frz (.ref a) := by
  cases h with
  | list r => exact .list ha r
  | dk r l => exact .dk ha r l
  | dt r l => exact .dt ha r l
  | obj r l hn => exact .obj ha r l hn

/-! ### the world -/
def isDict : HO → Bool
  | .dK _ => true
  | .dT _ => true
  | _ => false
/-- no table of code objects -/
def notTb : HO → Prop
  | .tbl _ => False
  | _ => True
def notTX : HO → Prop
  | .tbl _ => False
  | .ext _ => False
  | .tup _ => False
  | _ => True
theorem notTX.tb : ∀ {o : HO}, notTX o → notTb o := fun {o} h => by cases o <;> first | trivial | exact h
theorem NdR.tx {c : Ctx} {S : Option SA} {I : Hp} {nd : Nd} {o : HO} (h : NdR c S I nd o) : notTX o := by cases h <;> trivial
/-- the places of the state -/
def Cell (a : SA) (b : Addr) : Prop := (b = a.d ∨ b = a.l ∨ b = a.k) ∨ ∃ p ∈ a.T, b = p.1
def StOk (s : SA) (n : Nat) (H : Hp) : Prop := LamX.Tabs s.T H ∧ s.l ≠ s.k ∧ ∃ (ws cs : List Int) (r t : Int),
  H s.d = some (.dK [(Sum.inr "wide", .ref s.l), (Sum.inr "cells", .ref s.k), (Sum.inr "rest", .int r), (Sum.inr "turn", .int t)]) ∧
  H s.l = some (.lst (ws.map V.int)) ∧ H s.k = some (.lst (cs.map V.int)) ∧ ws.length ≤ 63 ∧ cs.length ≤ 63 ∧ 0 ≤ t ∧ t ≤ (n : Int)
/-- a thing that is left alone: nobody knows it, or it is a known dict while it is walked -/
def Lf (S : Option SA) (I : Hp) (μ : Mu) (b : Addr) (o : HO) : Prop := (I b = Option.none ∧ μ b = Option.none ∧ notTX o ∧ ∀ a, S = some a → ¬ Cell a b) ∨ ∃ ob u, o = .frz ob u ∧ isDict u = true ∧ I b = some u
theorem Lf.to {S : Option SA} {I I' : Hp} {μ μ' : Mu} {b : Addr} {o : HO} (h : Lf S I μ b o) (hi : I' b = I b) (hm : μ b = Option.none → μ' b = Option.none) : Lf S I' μ' b o := by
  rcases h with ⟨h1, h2, h3⟩ | ⟨ob, u, h1, h2, h3⟩
  · exact .inl ⟨by rw [hi]; exact h1, hm h2, h3⟩
  · exact .inr ⟨ob, u, h1, h2, by rw [hi]; exact h3⟩
/-- what is known (I), the cells (μ), what is left alone meanwhile (F), the state -/
structure Wd (c : Ctx) (S : Option SA) (F : Hp) (n : Nat) (I : Hp) (μ : Mu) (H : Hp) : Prop where
  i : ∀ b o, I b = some o → H b = some o ∨ (isDict o = true ∧ ∃ ob, H b = some (.frz ob o))
  m : ∀ b nd, μ b = some nd → I b = Option.none ∧ ∃ o, NdR c S I nd o ∧ H b = some o
  s : ∀ a, S = some a → StOk a n H ∧ ∀ b, Cell a b → I b = Option.none ∧ μ b = Option.none
  ni : ∀ b o, I b = some o → notTb o
  f : ∀ b o, F b = some o → H b = some o ∧ Lf S I μ b o
  z : ∃ a, S = some a ∧ a.T = c.tb
theorem none_of {α : Type} {x : Option α} (h : ∀ o, x = some o → False) : x = Option.none := by
  cases e : x with
  | none => rfl
  | some o => exact (h o e).elim
theorem StOk.up {s : SA} {n m : Nat} {H : Hp} (h : StOk s n H) (e : n ≤ m) : StOk s m H := by
  obtain ⟨h9, h0, ws, cs, r, t, h1, h2, h3, h4, h5, h6, h7⟩ := h
  exact ⟨h9, h0, ws, cs, r, t, h1, h2, h3, h4, h5, h6, by omega⟩
theorem StOk.cells {s : SA} {n : Nat} {H : Hp} (h : StOk s n H) {b : Addr} (q : Cell s b) : ∃ o, H b = some o := by
  obtain ⟨h9, h0, ws, cs, r, t, h1, h2, h3, _⟩ := h
  rcases q with (rfl | rfl | rfl) | ⟨p, hp, rfl⟩
  · exact ⟨_, h1⟩
  · exact ⟨_, h2⟩
  · exact ⟨_, h3⟩
  · obtain ⟨ps, z, _⟩ := h9 p hp
    exact ⟨_, z⟩
/-- the tables stay where they and what they tell stay -/
theorem tabs_keep {T : List (Addr × Str)} {H H' : Hp} (h : LamX.Tabs T H) (k : ∀ p ∈ T, H' p.1 = H p.1) (k2 : ∀ b φ, H b = some (.ext φ) → H' b = some (.ext φ)) : LamX.Tabs T H' := fun p hp => by
  obtain ⟨ps, h1, h2, h3⟩ := h p hp
  refine ⟨ps, by rw [k p hp]; exact h1, h2, fun pos cv hc => ?_⟩
  obtain ⟨c, e1, e2⟩ := h3 pos cv hc
  exact ⟨c, e1, k2 _ _ e2⟩
theorem StOk.keep {s : SA} {n : Nat} {H H' : Hp} (h : StOk s n H) (k : ∀ b, Cell s b → H' b = H b) (k2 : ∀ b φ, H b = some (.ext φ) → H' b = some (.ext φ)) : StOk s n H' := by
  obtain ⟨h9, h0, ws, cs, r, t, h1, h2, h3, h4⟩ := h
  exact ⟨tabs_keep h9 (fun p hp => k _ (.inr ⟨p, hp, rfl⟩)) k2, h0, ws, cs, r, t, by rw [k _ (.inl (.inl rfl))]; exact h1, by rw [k _ (.inl (.inr (.inl rfl)))]; exact h2, by rw [k _ (.inl (.inr (.inr rfl)))]; exact h3, h4⟩
section
variable {c : Ctx} {S : Option SA} {n m : Nat} {I H F F' : Hp} {μ μ' : Mu} {p : Addr} {u o : HO} {nd : Nd}
/-- what is left alone and not walked -/
theorem Wd.f0 (w : Wd c S F n I μ H) {b : Addr} {o : HO} (h : F b = some o) (ho : ∀ ob u, o ≠ .frz ob u) : H b = some o ∧ I b = Option.none ∧ μ b = Option.none ∧ notTX o ∧ ∀ a, S = some a → ¬ Cell a b := by
  obtain ⟨h1, h2⟩ := w.f b o h
  rcases h2 with h2 | ⟨ob, u, h3, _⟩
  · exact ⟨h1, h2⟩
  · exact absurd h3 (ho ob u)
theorem Wd.up (w : Wd c S F n I μ H) (e : n ≤ m) : Wd c S F m I μ H := ⟨w.i, w.m, fun a h => ⟨(w.s a h).1.up e, (w.s a h).2⟩, w.ni, w.f, w.z⟩
/-- less is owned -/
theorem Wd.drop (w : Wd c S F n I μ H) (e : ∀ b nd, μ' b = some nd → μ b = some nd) : Wd c S F n I μ' H :=
  ⟨w.i, fun b nd h => w.m b nd (e b nd h), fun a h => ⟨(w.s a h).1, fun b q => ⟨((w.s a h).2 b q).1, none_of fun o z => by
    have := e b o z
    rw [((w.s a h).2 b q).2] at this
    cases this⟩⟩, w.ni, fun b o h => ⟨(w.f b o h).1, (w.f b o h).2.to rfl fun hm => none_of (fun nd z => nomatch hm.symm.trans (e b nd z))⟩, w.z⟩
/-- less is left alone -/
theorem Wd.less (w : Wd c S F n I μ H) (e : ∀ b o, F' b = some o → F b = some o) : Wd c S F' n I μ H := ⟨w.i, w.m, w.s, w.ni, fun b o h => w.f b o (e b o h), w.z⟩
theorem Wd.nf (w : Wd c S F n I μ H) (h : H p = Option.none) : F p = Option.none := none_of fun o e => by
  have := (w.f p o e).1
  rw [h] at this
  cases this
theorem Wd.nfm (w : Wd c S F n I μ H) (h : μ p = some nd) : F p = Option.none := none_of fun o e => by
  rcases (w.f p o e).2 with ⟨_, h2, _⟩ | ⟨ob, u, _, _, h3⟩
  · rw [h] at h2
    cases h2
  · rw [(w.m p nd h).1] at h3
    cases h3
theorem Wd.fresh (w : Wd c S F n I μ H) (h : H p = Option.none) : I p = Option.none ∧ μ p = Option.none := by
  constructor
  · refine none_of fun o e => ?_
    rcases w.i p o e with z | ⟨_, ob, z⟩
    · rw [h] at z; cases z
    · rw [h] at z; cases z
  · refine none_of fun nd e => ?_
    obtain ⟨_, o, _, z⟩ := w.m p nd e
    rw [h] at z; cases z
theorem Wd.ne_st (w : Wd c S F n I μ H) (h : H p = Option.none) {a : SA} (e : S = some a) {b : Addr} (q : Cell a b) : b ≠ p := by
  obtain ⟨o, z⟩ := (w.s a e).1.cells q
  exact ne_of_none z h
theorem ext_new (h : H p = Option.none) : ∀ b φ, H b = some (.ext φ) → upd H p u b = some (.ext φ) := fun b φ e => by
  rw [upd_ne (ne_of_none e h)]
  exact e
theorem same_new (h : I p = Option.none) : Same I (upd I p u) := fun b o e => by
  rw [upd_ne (ne_of_none e h)]
  exact e
/-- a new thing of which nothing is said -/
theorem Wd.frame (w : Wd c S F n I μ H) (h : H p = Option.none) : Wd c S F n I μ (upd H p u) := by
  have hf := w.fresh h
  refine ⟨fun b o e => ?_, fun b nd e => ?_, fun a e => ⟨?_, (w.s a e).2⟩, w.ni, fun b o e => ⟨by rw [upd_ne (ne_of_none (w.f b o e).1 h)]; exact (w.f b o e).1, (w.f b o e).2⟩, w.z⟩
  · rw [upd_ne (ne_of_none e hf.1)]
    exact w.i b o e
  · obtain ⟨h1, o, h2, h3⟩ := w.m b nd e
    exact ⟨h1, o, h2, by rw [upd_ne (ne_of_none h3 h)]; exact h3⟩
  · exact (w.s a e).1.keep (fun b q => upd_ne (w.ne_st h e q)) (ext_new h)
/-- it is known from now on -/
theorem Wd.know (w : Wd c S F n I μ H) (h : H p = some u) (hi : I p = Option.none) (hm : μ p = Option.none) (hc : ∀ a, S = some a → ¬ Cell a p) (hf : F p = Option.none) (hu : notTb u) : Wd c S F n (upd I p u) μ H := by
  have sm : Same I (upd I p u) := same_new hi
  have ap : ∀ {b : Addr}, b ≠ p → upd I p u b = I b := fun z => upd_ne z
  refine ⟨fun b o e => ?_, fun b nd e => ?_, fun a e => ⟨(w.s a e).1, fun b q => ?_⟩, fun b o e => ?_, fun b o e => ⟨(w.f b o e).1, (w.f b o e).2.to (ap (ne_of_none e hf)) id⟩, w.z⟩
  · by_cases z : b = p
    · subst z
      rw [upd_same] at e
      cases e
      exact .inl h
    · rw [ap z] at e
      exact w.i b o e
  · have z : b ≠ p := fun z => by
      rw [z, hm] at e
      cases e
    obtain ⟨h1, o, h2, h3⟩ := w.m b nd e
    exact ⟨by rw [ap z]; exact h1, o, h2.mono sm, h3⟩
  · have z : b ≠ p := fun z => hc a e (z ▸ q)
    rw [ap z]
    exact (w.s a e).2 b q
  · by_cases z : b = p
    · subst z
      rw [upd_same] at e
      cases e
      exact hu
    · rw [ap z] at e
      exact w.ni b o e
/-- it is a cell from now on -/
theorem Wd.own (w : Wd c S F n I μ H) (r : NdR c S I nd u) (h : H p = some u) (hi : I p = Option.none) (hc : ∀ a, S = some a → ¬ Cell a p) (hf : F p = Option.none) : Wd c S F n I (DL.up μ p nd) H := by
  refine ⟨w.i, fun b nd' e => ?_, fun a e => ⟨(w.s a e).1, fun b q => ?_⟩, w.ni, fun b o e => ⟨(w.f b o e).1, (w.f b o e).2.to rfl fun hm => by rw [up_ne (ne_of_none e hf)]; exact hm⟩, w.z⟩
  · by_cases z : b = p
    · subst z
      rw [up_same] at e
      cases e
      exact ⟨hi, u, r, h⟩
    · rw [up_ne z] at e
      exact w.m b nd' e
  · rw [up_ne fun (z : b = p) => hc a e (z ▸ q)]
    exact (w.s a e).2 b q
theorem Wd.no_cell (w : Wd c S F n I μ H) (h : H p = Option.none) : ∀ a, S = some a → ¬ Cell a p := fun _ e q => w.ne_st h e q rfl
/-- a new thing, known -/
theorem Wd.new (w : Wd c S F n I μ H) (h : H p = Option.none) (hu : notTb u := by trivial) : Wd c S F n (upd I p u) μ (upd H p u) :=
  (w.frame h).know upd_same (w.fresh h).1 (w.fresh h).2 (w.no_cell h) (w.nf h) hu
/-- a new thing, a cell -/
theorem Wd.newCell (w : Wd c S F n I μ H) (h : H p = Option.none) (r : NdR c S I nd u) : Wd c S F n I (DL.up μ p nd) (upd H p u) :=
  (w.frame h).own r upd_same (w.fresh h).1 (w.no_cell h) (w.nf h)
/-- a cell is changed -/
theorem Wd.put (w : Wd c S F n I μ H) {nd0 : Nd} (h : μ p = some nd0) (r : NdR c S I nd u) : Wd c S F n I (DL.up μ p nd) (upd H p u) := by
  obtain ⟨hi, o0, r0, h0⟩ := w.m p nd0 h
  have hc : ∀ a, S = some a → ¬ Cell a p := fun a e q => by
    have := ((w.s a e).2 p q).2
    rw [h] at this
    cases this
  have hf := w.nfm h
  refine ⟨fun b o e => ?_, fun b nd' e => ?_, fun a e => ⟨?_, fun b q => ?_⟩, w.ni, fun b o e => ⟨by rw [upd_ne (ne_of_none e hf)]; exact (w.f b o e).1, (w.f b o e).2.to rfl fun hm => by rw [up_ne (ne_of_none e hf)]; exact hm⟩, w.z⟩
  · rw [upd_ne (ne_of_none e hi)]
    exact w.i b o e
  · by_cases z : b = p
    · subst z
      rw [up_same] at e
      cases e
      exact ⟨hi, u, r, upd_same⟩
    · rw [up_ne z] at e
      rw [upd_ne z]
      exact w.m b nd' e
  · refine (w.s a e).1.keep (fun b q => upd_ne fun z => hc a e (z ▸ q)) fun b φ z => ?_
    rw [upd_ne fun q => ?_]
    · exact z
    · rw [q, h0] at z
      cases z
      exact r0.tx
  · rw [up_ne fun (z : b = p) => hc a e (z ▸ q)]
    exact (w.s a e).2 b q
/-- a cell is known from now on -/
theorem Wd.freeze (w : Wd c S F n I μ H) (h : μ p = some nd) : ∃ o, NdR c S I nd o ∧ H p = some o ∧ I p = Option.none ∧ Wd c S F n (upd I p o) (del μ p) H := by
  obtain ⟨hi, o, r, h0⟩ := w.m p nd h
  refine ⟨o, r, h0, hi, (w.drop fun b nd' e => ?_).know h0 hi del_same (fun a e q => ?_) ?_ r.tx.tb⟩
  · by_cases z : b = p
    · rw [z, del_same] at e
      cases e
    · rw [del_ne z] at e
      exact e
  · have := ((w.s a e).2 p q).2
    rw [h] at this
    cases this
  · exact w.nfm h
theorem Wd.lst (w : Wd c S F n I μ H) {xs : List V} (h : I p = some (.lst xs)) : H p = some (.lst xs) := by
  rcases w.i p _ h with z | ⟨z, _⟩
  · exact z
  · cases z
theorem Wd.ins (w : Wd c S F n I μ H) {C dx : Addr} {fs : List (Str × V)} (h : I p = some (.ins C dx fs)) : H p = some (.ins C dx fs) := by
  rcases w.i p _ h with z | ⟨z, _⟩
  · exact z
  · cases z
theorem Wd.tupH (w : Wd c S F n I μ H) {K : PySem.W.Frag} {xs : List V} (h : TupA K I p xs) : SqT K H p xs := by
  rcases h.sq with (h | ⟨o, h⟩) | h
  · rcases w.i p _ h with z | ⟨z, _⟩
    · exact .inl (.inl z)
    · cases z
  · rcases w.i p _ h with z | ⟨z, _⟩
    · exact .inl (.inr ⟨o, z⟩)
    · cases z
  · exact .inr h
theorem Wd.seqH (w : Wd c S F n I μ H) {K : PySem.W.Frag} {xs : List V} (h : SqL K I p xs) : SqL K H p xs := by
  rcases h with (h | ⟨o, h⟩) | h
  · rcases w.i p _ h with z | ⟨z, _⟩
    · exact .inl (.inl z)
    · cases z
  · rcases w.i p _ h with z | ⟨z, _⟩
    · exact .inl (.inr ⟨o, z⟩)
    · cases z
  · exact .inr h
end
/-! ### the names' values -/
abbrev EnvD := List (Option D)
def gt : EnvD → Nat → Option D
  | [], _ => Option.none
  | x :: _, 0 => x
  | _ :: r, n + 1 => gt r n
def st : EnvD → Nat → Option D → EnvD
  | [], _, _ => []
  | _ :: r, 0, x => x :: r
  | y :: r, n + 1, x => y :: st r n x
inductive EnvR (c : Ctx) (S : Option SA) (I : Hp) : EnvD → L2.St → Prop where
  | nil : EnvR c S I [] []
  | no {e σ x} (h : EnvR c S I e σ) : EnvR c S I (Option.none :: e) (x :: σ)
  | yes {e σ d v} (r : Rep c S I d v) (h : EnvR c S I e σ) : EnvR c S I (some d :: e) (some v :: σ)
section
variable {c : Ctx} {S : Option SA} {I I' : Hp}
theorem EnvR.mono (k : Same I I') : ∀ {e : EnvD} {σ : L2.St}, EnvR c S I e σ → EnvR c S I' e σ
  | _, _, .nil => .nil
  | _, _, .no h => .no (h.mono k)
  | _, _, .yes r h => .yes (r.mono k) (h.mono k)
theorem EnvR.len : ∀ {e : EnvD} {σ : L2.St}, EnvR c S I e σ → e.length = σ.length
  | _, _, .nil => rfl
  | _, _, .no h => by rw [List.length_cons, List.length_cons, h.len]
  | _, _, .yes _ h => by rw [List.length_cons, List.length_cons, h.len]
theorem EnvR.get {d : D} : ∀ {e : EnvD} {σ : L2.St} {i : Nat}, EnvR c S I e σ → gt e i = some d → ∃ v, σ[i]? = some (some v) ∧ Rep c S I d v
  | _, _, _, .nil, h => by simp [gt] at h
  | _, _, 0, .no _, h => by simp [gt] at h
  | _, _, 0, .yes r _, h => by
    simp only [gt, Option.some.injEq] at h
    subst h
    exact ⟨_, rfl, r⟩
  | _, _, i + 1, .no q, h => by simpa using q.get (i := i) (by simpa [gt] using h)
  | _, _, i + 1, .yes _ q, h => by simpa using q.get (i := i) (by simpa [gt] using h)
theorem EnvR.put {d : D} {v : V} (r : Rep c S I d v) : ∀ {e : EnvD} {σ : L2.St} (i : Nat), EnvR c S I e σ → EnvR c S I (st e i (some d)) (σ.set i (some v))
  | _, _, _, .nil => .nil
  | _, _, 0, .no h => .yes r h
  | _, _, 0, .yes _ h => .yes r h
  | _, _, i + 1, .no h => .no (EnvR.put r i h)
  | _, _, i + 1, .yes q h => .yes q (EnvR.put r i h)
theorem EnvR.clr {x : Option V} : ∀ {e : EnvD} {σ : L2.St} (i : Nat), EnvR c S I e σ → EnvR c S I (st e i Option.none) (σ.set i x)
  | _, _, _, .nil => .nil
  | _, _, 0, .no h => .no h
  | _, _, 0, .yes _ h => .no h
  | _, _, i + 1, .no h => .no (EnvR.clr i h)
  | _, _, i + 1, .yes q h => .yes q (EnvR.clr i h)
/-- comprehension names are gone -/
def wipeE (e : EnvD) : List Nat → EnvD
  | [] => e
  | v :: vs => st (wipeE e vs) v Option.none
theorem EnvR.wipe : ∀ (vs : List Nat) {e : EnvD} {σ : L2.St}, EnvR c S I e σ → EnvR c S I (wipeE e vs) (L2.wipe σ vs)
  | [], _, _, h => h
  | v :: vs, _, _, h => EnvR.clr v (EnvR.wipe vs h)
theorem EnvR.init (m : Nat) : ∀ {ds : List D} {vs : List V}, Reps c S I ds vs → EnvR c S I (ds.map some ++ List.replicate m Option.none) (vs.map some ++ List.replicate m Option.none)
  | _, _, .nil => by
    induction m with
    | zero => exact .nil
    | succ m ih => exact .no ih
  | _, _, .cons r rs => .yes r (EnvR.init m rs)
end
/-- the built-in errors that are asked -/
def exNames : List String := ["KeyError", "ZeroDivisionError"]
/-- an error as it leaves -/
def ErrAt (c : Ctx) (S : Option SA) (I : Hp) (err : D) (cls : Value) (d : Option Addr) : Prop := (∃ n fs ds xs, err = .err n fs ds ∧ cls = .ref (c.cl n) ∧ ErF I d fs xs ∧ Reps c S I ds xs ∧ n ∈ c.es) ∨ ∃ n, err = .ty n ∧ cls = .type n ∧ n ∈ exNames
theorem ErrAt.mono {c : Ctx} {S : Option SA} {I I' : Hp} (e : Same I I') {err : D} {cls : Value} {d : Option Addr} (h : ErrAt c S I err cls d) : ErrAt c S I' err cls d := by
  rcases h with ⟨n, fs, ds, xs, h1, h2, h3, h4⟩ | h
  · exact .inl ⟨n, fs, ds, xs, h1, h2, h3.mono e, h4.1.mono e, h4.2⟩
  · exact .inr h
end DL

set_option Elab.async false
set_option linter.all false
set_option maxRecDepth 100000
set_option maxHeartbeats 4000000
/-! A1: wishes over data (weakest preconditions), and that a reading keeps them: expressions. -/
namespace DL
open PySem PyProof.Rows L2
/-- the most draws that are mixed -/
def LIM : Nat := 2 ^ 20000
/-- a result: a piece of data, or a new thing that nobody holds yet -/
inductive Rs where
  | v (d : D) | n (nd : Nd)
abbrev QD := D → Mu → Prop
abbrev QR := Rs → Mu → Prop
abbrev WE := EnvD → Mu → QD → QD → Prop
abbrev WT := EnvD → Mu → (Bool → Mu → Prop) → QD → Prop
abbrev WA := EnvD → Mu → (List D → Mu → Prop) → QD → Prop
abbrev WO := EnvD → Mu → (Option Int → Mu → Prop) → QD → Prop
abbrev WOp := D → D → Mu → QR → QD → Prop
abbrev WU := D → Mu → QR → QD → Prop
abbrev WC := List D → Mu → QR → QD → Prop
abbrev WM := D → List D → Mu → QR → QD → Prop
/-- a def -/
abbrev WP := List D → Mu → QD → QD → Prop
/-- a new thing is known from now on (false), or a cell (true) -/
def sett : Bool → QD → QR
  | _, Q, .v d, μ => Q d μ
  | false, Q, .n nd, μ => Q nd.frz μ
  | true, Q, .n nd, μ => ∀ p, μ p = Option.none → Q (.cell p) (up μ p nd)
/-! ### wishes -/
def wV (i : Nat) : WE := fun e μ Q _ => match gt e i with
  | some d => Q d μ
  | Option.none => False
def wK (d : D) : WE := fun _ μ Q _ => Q d μ
def wOp (m : Bool) (o : WOp) (a b : WE) : WE := fun e μ Q X => a e μ (fun x μ1 => b e μ1 (fun y μ2 => o x y μ2 (sett m Q) X) X) X
def wUn (m : Bool) (o : WU) (a : WE) : WE := fun e μ Q X => a e μ (fun x μ1 => o x μ1 (sett m Q) X) X
def waNil : WA := fun _ μ Q _ => Q [] μ
def waCons (a : WE) (r : WA) : WA := fun e μ Q X => a e μ (fun x μ1 => r e μ1 (fun xs μ2 => Q (x :: xs) μ2) X) X
def wTup (a : WA) : WE := fun e μ Q X => a e μ (fun xs μ1 => xs.length ≤ sizeLine ∧ Q (.tup xs) μ1) X
def wLst (m : Bool) (a : WA) : WE := fun e μ Q X => a e μ (fun xs μ1 => xs.length ≤ sizeLine ∧ sett m Q (.n (.list xs)) μ1) X
def wCb (m : Bool) (o : WC) (a : WA) : WE := fun e μ Q X => a e μ (fun xs μ1 => o xs μ1 (sett m Q) X) X
/-- tests -/
def wTst (a : WE) : WT := fun e μ Q X => a e μ (fun x μ1 => match x with
  | .bool b => Q b μ1
  | _ => False) X
def wNotT (t : WT) : WT := fun e μ Q X => t e μ (fun b μ1 => Q (!b) μ1) X
def wAndT (t u : WT) : WT := fun e μ Q X => t e μ (fun b μ1 => if b = true then u e μ1 Q X else Q false μ1) X
def wOrT (t u : WT) : WT := fun e μ Q X => t e μ (fun b μ1 => if b = true then Q true μ1 else u e μ1 Q X) X
def wIf (t : WT) (a b : WE) : WE := fun e μ Q X => t e μ (fun k μ1 => if k = true then a e μ1 Q X else b e μ1 Q X) X
def wAnd (a b : WE) : WE := fun e μ Q X => a e μ (fun x μ1 => match x with
  | .bool k => if k = true then b e μ1 Q X else Q (.bool false) μ1
  | _ => False) X
def wOr (a b : WE) : WE := fun e μ Q X => a e μ (fun x μ1 => match x with
  | .bool k => if k = true then Q (.bool true) μ1 else b e μ1 Q X
  | _ => False) X
def wNot (a : WE) : WE := fun e μ Q X => a e μ (fun x μ1 => match x with
  | .bool k => Q (.bool (!k)) μ1
  | _ => False) X
def woNone : WO := fun _ μ Q _ => Q Option.none μ
def woSome (a : WE) : WO := fun e μ Q X => a e μ (fun x μ1 => match x with
  | .int i => Q (some i) μ1
  | _ => False) X
def wSl (m : Bool) (o : D → Option Int → Option Int → Mu → QR → QD → Prop) (a : WE) (l h : WO) : WE := fun e μ Q X => a e μ (fun x μ1 => l e μ1 (fun lo μ2 => h e μ2 (fun hi μ3 => o x lo hi μ3 (sett m Q) X) X) X) X
/-! ### readings -/
section
variable (c : Ctx) (W : WX) (S : Option SA) (F : Hp) (n : Nat) (I : Hp)
def RsR (S : Option SA) (F : Hp) (I : Hp) (μ : Mu) (H : Hp) : Rs → V → Prop
  | .v d, v => Rep c S I d v
  | .n nd, v => ∃ l o, v = .ref l ∧ H l = some o ∧ NdR c S I nd o ∧ I l = Option.none ∧ μ l = Option.none ∧ (∀ a, S = some a → ¬ Cell a l) ∧ F l = Option.none
def QV (Qd : QD) (Q : VK) : Prop := ∀ d μ' v I' H', Qd d μ' → Same I I' → Wd c S F n I' μ' H' → Rep c S I' d v → Q v H'
def QVR (Qd : QR) (Q : VK) : Prop := ∀ r μ' v I' H', Qd r μ' → Same I I' → Wd c S F n I' μ' H' → RsR c S F I' μ' H' r v → Q v H'
def QVA (Qd : List D → Mu → Prop) (Q : List V → Hp → Prop) : Prop := ∀ ds μ' vs I' H', Qd ds μ' → Same I I' → Wd c S F n I' μ' H' → Reps c S I' ds vs → Q vs H'
def QVB {α : Type} (Qd : α → Mu → Prop) (Q : α → Hp → Prop) : Prop := ∀ b μ' I' H', Qd b μ' → Same I I' → Wd c S F n I' μ' H' → Q b H'
def XV (σ : L2.St) (Xd : QD) : Prop := ∀ d μ' cls dx I' H', Xd d μ' → Same I I' → Wd c S F n I' μ' H' → ErrAt c S I' d cls dx → W cls dx σ H'
end
section
variable {c : Ctx} {W : WX} {S : Option SA} {F : Hp} {n n' : Nat} {I I' : Hp} {σ : L2.St} {Xd : QD}
theorem XV.mono (h : XV c W S F n I σ Xd) (e : n' ≤ n) (s : Same I I') : XV c W S F n' I' σ Xd := fun d μ' cls dx I2 H2 p s2 w er => h d μ' cls dx I2 H2 p (s.trans s2) (w.up e) er
theorem QV.mono {Qd : QD} {Q : VK} (h : QV c S F n I Qd Q) (e : n' ≤ n) (s : Same I I') : QV c S F n' I' Qd Q := fun d μ' v I2 H2 p s2 w er => h d μ' v I2 H2 p (s.trans s2) (w.up e) er
theorem QVB.mono {α : Type} {Qd : α → Mu → Prop} {Q : α → Hp → Prop} (h : QVB c S F n I Qd Q) (e : n' ≤ n) (s : Same I I') : QVB c S F n' I' Qd Q := fun d μ' I2 H2 p s2 w => h d μ' I2 H2 p (s.trans s2) (w.up e)
theorem RsR.new {μ : Mu} {H : Hp} {p : Addr} {u : HO} {nd : Nd} (w : Wd c S F n I μ H) (h : H p = Option.none) (r : NdR c S I nd u) : Wd c S F n I μ (upd H p u) ∧ RsR c S F I μ (upd H p u) (.n nd) (.ref p) :=
  ⟨w.frame h, p, u, rfl, upd_same, r, (w.fresh h).1, (w.fresh h).2, w.no_cell h, w.nf h⟩
/-- a result settles -/
theorem settle {μ : Mu} {H : Hp} {r : Rs} {v : V} {m : Bool} {Q : QD} (w : Wd c S F n I μ H) (hr : RsR c S F I μ H r v) (h : sett m Q r μ) : ∃ d μ' I', Q d μ' ∧ Same I I' ∧ Wd c S F n I' μ' H ∧ Rep c S I' d v := by
  cases r with
  | v d => exact ⟨d, μ, I, (by cases m <;> exact h), Same.refl I, w, hr⟩
  | n nd =>
    obtain ⟨l, o, rfl, hl, nr, hi, hm, hc, hf⟩ := hr
    cases m with
    | false =>
      have sm : Same I (upd I l o) := same_new hi
      exact ⟨nd.frz, μ, upd I l o, h, sm, w.know hl hi hm hc hf nr.tx.tb, (nr.mono sm).frz upd_same⟩
    | true => exact ⟨.cell l, up μ l nd, I, h l hm, Same.refl I, w.own nr hl hi hc hf, .cell⟩
theorem QV.sett {m : Bool} {Qd : QD} {Q : VK} (h : QV c S F n I Qd Q) : QVR c S F n I (sett m Qd) Q := fun r μ' v I' H' p s w rr => by
  obtain ⟨d, μ2, I2, q, s2, w2, r2⟩ := settle w rr p
  exact h d μ2 v I2 H' q (s.trans s2) w2 r2
end
section
variable (c : Ctx) (W : WX) (k : Nat)
def ldE (w : WE) : TE := fun σ H Q => ∃ S F n I μ e Qd Xd, n + k ≤ LIM ∧ EnvR c S I e σ ∧ Wd c S F n I μ H ∧ w e μ Qd Xd ∧ QV c S F (n + k) I Qd Q ∧ XV c W S F (n + k) I σ Xd
def ldT (w : WT) : TT := fun σ H Q => ∃ S F n I μ e Qd Xd, n + k ≤ LIM ∧ EnvR c S I e σ ∧ Wd c S F n I μ H ∧ w e μ Qd Xd ∧ QVB c S F (n + k) I Qd Q ∧ XV c W S F (n + k) I σ Xd
def ldA (w : WA) : TA := fun σ H Q => ∃ S F n I μ e Qd Xd, n + k ≤ LIM ∧ EnvR c S I e σ ∧ Wd c S F n I μ H ∧ w e μ Qd Xd ∧ QVA c S F (n + k) I Qd Q ∧ XV c W S F (n + k) I σ Xd
def ldO (w : WO) : TO := fun σ H Q => ∃ S F n I μ e Qd Xd, n + k ≤ LIM ∧ EnvR c S I e σ ∧ Wd c S F n I μ H ∧ w e μ Qd Xd ∧ QVB c S F (n + k) I Qd Q ∧ XV c W S F (n + k) I σ Xd
/-- operations by values -/
def ld2 (o : WOp) (σ : L2.St) : R2 := fun x y H Q => ∃ S F n I μ dx dy Qd Xd, n + k ≤ LIM ∧ Wd c S F n I μ H ∧ Rep c S I dx x ∧ Rep c S I dy y ∧ o dx dy μ Qd Xd ∧ QVR c S F (n + k) I Qd Q ∧ XV c W S F (n + k) I σ Xd
def ld1 (o : WU) (σ : L2.St) : V → Hp → VK → Prop := fun x H Q => ∃ S F n I μ dx Qd Xd, n + k ≤ LIM ∧ Wd c S F n I μ H ∧ Rep c S I dx x ∧ o dx μ Qd Xd ∧ QVR c S F (n + k) I Qd Q ∧ XV c W S F (n + k) I σ Xd
def ldC (o : WC) (σ : L2.St) : List V → Hp → VK → Prop := fun xs H Q => ∃ S F n I μ ds Qd Xd, n + k ≤ LIM ∧ Wd c S F n I μ H ∧ Reps c S I ds xs ∧ o ds μ Qd Xd ∧ QVR c S F (n + k) I Qd Q ∧ XV c W S F (n + k) I σ Xd
def ldSl (o : D → Option Int → Option Int → Mu → QR → QD → Prop) (σ : L2.St) : V → Option Int → Option Int → Hp → VK → Prop := fun x lo hi H Q => ∃ S F n I μ d Qd Xd, n + k ≤ LIM ∧ Wd c S F n I μ H ∧ Rep c S I d x ∧ o d lo hi μ Qd Xd ∧ QVR c S F (n + k) I Qd Q ∧ XV c W S F (n + k) I σ Xd
end
/-! ### judgements -/
section
variable (X : Cx) (c : Ctx) (W : WX) (k : Nat)
abbrev GE (ex : Expr) (w : WE) : Prop := PE X ex (ldE c W k w)
abbrev GT (ex : Expr) (w : WT) : Prop := PT X ex (ldT c W k w)
abbrev GW (ex : Expr) (w : WT) : Prop := PW X ex (ldT c W k w)
abbrev GA (es : List Expr) (w : WA) : Prop := PA X es (ldA c W k w)
abbrev GO (ex : Option Expr) (w : WO) : Prop := PO X ex (ldO c W k w)
/-- an operation that keeps a wish -/
def Op2 (f : Value → Value → Sem Value) (o : WOp) : Prop := ∀ (pins : List (Addr × Obj)) (s : Shared) (σ : L2.St) (H : Hp) (x y : V) (v u : Value) (Q : VK), Inv X pins σ H s → RelV x v → RelV y u → ld2 c W k o σ x y H Q → wpAny (model X.prog X.w) X.A (f v u) (EP X pins σ Q) X.xe s
def Op1 (f : Value → Sem Value) (o : WU) : Prop := ∀ (pins : List (Addr × Obj)) (s : Shared) (σ : L2.St) (H : Hp) (x : V) (v : Value) (Q : VK), Inv X pins σ H s → RelV x v → ld1 c W k o σ x H Q → wpAny (model X.prog X.w) X.A (f v) (EP X pins σ Q) X.xe s
end
theorem _root_.L2.PE.imp {X : Cx} {ex : Expr} {t t' : TE} (h : PE X ex t) (i : ∀ σ H Q, t' σ H Q → t σ H Q) : PE X ex t' := ⟨fun pins s σ H Q J z => h.run pins s σ H Q J (i σ H Q z)⟩
theorem _root_.L2.PT.imp {X : Cx} {ex : Expr} {t t' : TT} (h : PT X ex t) (i : ∀ σ H Q, t' σ H Q → t σ H Q) : PT X ex t' := ⟨fun pins s σ H Q J z => h.run pins s σ H Q J (i σ H Q z)⟩
theorem _root_.L2.PW.imp {X : Cx} {ex : Expr} {t t' : TT} (h : PW X ex t) (i : ∀ σ H Q, t' σ H Q → t σ H Q) : PW X ex t' := ⟨fun wh pins s σ H Q J z => h.run wh pins s σ H Q J (i σ H Q z)⟩
theorem _root_.L2.PA.imp {X : Cx} {es : List Expr} {t t' : TA} (h : PA X es t) (i : ∀ σ H Q, t' σ H Q → t σ H Q) : PA X es t' := ⟨fun pos pins s σ H Q J z => h.run pos pins s σ H Q J (i σ H Q z)⟩
section
variable {X : Cx} {c : Ctx} {W : WX} {k ka kb kc ko : Nat} {a b d : Expr} {wa wb : WE} {o : WOp} {m : Bool} {pos : Pos} {es : List Expr} {wr : WA} {wt wu : WT}
theorem op2_of {f : Value → Value → Sem Value} {r : R2} (h : OpR X f r) (i : ∀ σ x y H Q, ld2 c W k o σ x y H Q → r x y H Q) : Op2 X c W k f o := fun pins s σ H x y v u Q J rx ry z => h pins s σ H x y v u Q J rx ry (i σ x y H Q z)
/-- two expressions in a row, as wishes -/
theorem ld_two {o : WOp} {σ : L2.St} {H : Hp} {Q : VK} (h : ldE c W (ka + (kb + ko)) (wOp m o wa wb) σ H Q) : ldE c W ka wa σ H fun x H1 => ldE c W kb wb σ H1 fun y H2 => ld2 c W ko o σ x y H2 Q := by
  obtain ⟨S, F, n, I, μ, e, Qd, Xd, hl, he, hw, h, q, x⟩ := h
  refine ⟨S, F, n, I, μ, e, _, Xd, by omega, he, hw, h, fun da μ1 va I1 H1 pa s1 w1 ra => ?_, x.mono (by omega) (Same.refl I)⟩
  refine ⟨S, F, n + ka, I1, μ1, e, _, Xd, by omega, he.mono s1, w1, pa, fun db μ2 vb I2 H2 pb s2 w2 rb => ?_, x.mono (by omega) s1⟩
  exact ⟨S, F, n + ka + kb, I2, μ2, da, db, _, Xd, by omega, w2, ra.mono s2, rb, pb, (q.mono (by omega) (s1.trans s2)).sett, x.mono (by omega) (s1.trans s2)⟩
theorem g_op {op : Operator} (ho : Op2 X c W ko (binaryOp op) o) (ha : GE X c W ka a wa) (hb : GE X c W kb b wb) : GE X c W (ka + (kb + ko)) (.BinOp a op b pos) (wOp m o wa wb) :=
  ⟨fun pins s σ H Q J h => wpAny_BinOp (binT ha hb J (ld_two h) fun v u s2 x y H2 I2 rx ry q => ho pins s2 σ H2 x y v u Q I2 rx ry q)⟩
theorem ld_un {o : WU} {σ : L2.St} {H : Hp} {Q : VK} (h : ldE c W (ka + ko) (wUn m o wa) σ H Q) : ldE c W ka wa σ H fun x H1 => ld1 c W ko o σ x H1 Q := by
  obtain ⟨S, F, n, I, μ, e, Qd, Xd, hl, he, hw, h, q, x⟩ := h
  refine ⟨S, F, n, I, μ, e, _, Xd, by omega, he, hw, h, fun da μ1 va I1 H1 pa s1 w1 ra => ?_, x.mono (by omega) (Same.refl I)⟩
  exact ⟨S, F, n + ka, I1, μ1, da, _, Xd, by omega, w1, ra, pa, (q.mono (by omega) s1).sett, x.mono (by omega) s1⟩
theorem g_un {op : UnaryOp} {o : WU} (ho : Op1 X c W ko (unaryOp op) o) (ha : GE X c W ka a wa) : GE X c W (ka + ko) (.UnaryOp op a pos) (wUn m o wa) :=
  ⟨fun pins s σ H Q J h => UnaryOp_ (thn (ha.run pins s σ H _ J (ld_un h)) fun v s1 ⟨x, H1, I1, r1, q1⟩ => ho pins s1 σ H1 x v Q I1 r1 q1)⟩
theorem g_cmp {op : CmpOp} (ho : Op2 X c W ko (compareOp op) o) (ha : GE X c W ka a wa) (hb : GE X c W kb b wb) (hm : behindInMarks op b = false) : GE X c W (ka + (kb + ko)) (.Compare a [op] [b] pos) (wOp m o wa wb) :=
  ⟨fun pins s σ H Q J h => wpAny_Compare1 (binT ha hb J (ld_two h) fun v u s2 x y H2 I2 rx ry q => ho pins s2 σ H2 x y v u Q I2 rx ry q) hm⟩
/-- a value as a test -/
theorem ld_tst {σ : L2.St} {H : Hp} {Q : Bool → Hp → Prop} (h : ldT c W k (wTst wa) σ H Q) : ldE c W k wa σ H fun x H' => ∃ k, x = .bl k ∧ Q k H' := by
  obtain ⟨S, F, n, I, μ, e, Qd, Xd, hl, he, hw, h, q, x⟩ := h
  refine ⟨S, F, n, I, μ, e, _, Xd, hl, he, hw, h, fun da μ1 va I1 H1 pa s1 w1 ra => ?_, x⟩
  cases ra <;> first | exact False.elim pa | exact ⟨_, rfl, q _ μ1 I1 H1 pa s1 w1⟩
theorem g_tcmp {op : CmpOp} (ho : Op2 X c W ko (compareOp op) o) (ha : GE X c W ka a wa) (hb : GE X c W kb b wb) (hm : behindInMarks op b = false) : GT X c W (ka + (kb + ko)) (.Compare a [op] [b] pos) (wTst (wOp false o wa wb)) := by
  refine ⟨fun pins s σ H Q J h => ?_⟩
  refine wpAny_isTrue_Compare1 (thn (ha.run pins s σ H _ J (ld_two (ld_tst h))) fun v s1 ⟨x, H1, I1, r1, q1⟩ => thn (hb.run pins s1 σ H1 _ I1 q1) fun u s2 ⟨y, H2, I2, r2, q2⟩ =>
    thn (ho pins s2 σ H2 x y v u _ I2 r1 r2 q2) fun cc s3 ⟨z, H3, I3, r3, k, e, q3⟩ => ?_) hm
  subst e
  cases r3
  exact wpAny_truthy_bool ⟨H3, I3, q3⟩
theorem g_tval (ha : GE X c W k a wa) (he : ∀ whole, isTrue a X.env whole = (do let v ← whole; standAt a.pos; holding [v] (truthy v)) := by intro _; rfl) : GT X c W k a (wTst wa) := (pt_val ha he).imp fun σ H Q h => ld_tst h
theorem g_tnot (ha : GT X c W k a wt) : GT X c W k (.UnaryOp .Not a pos) (wNotT wt) := (pt_not ha).imp fun σ H Q h => by
  obtain ⟨S, F, n, I, μ, e, Qd, Xd, hl, he, hw, h, q, x⟩ := h
  exact ⟨S, F, n, I, μ, e, _, Xd, hl, he, hw, h, fun b μ1 I1 H1 pb s1 w1 => q _ μ1 I1 H1 pb s1 w1, x⟩
theorem g_wand1 (ha : GT X c W k a wt) : GW X c W k (.BoolOp .And [a] pos) wt := pw_and1 ha
theorem g_wor1 (ha : GT X c W k a wt) : GW X c W k (.BoolOp .Or [a] pos) wt := pw_or1 ha
theorem ite_b {b : Bool} {A B A' B' : Prop} (h : if b = true then A else B) (h1 : b = true → A → A') (h2 : b = false → B → B') : if b = true then A' else B' := by
  cases b with
  | true => exact h1 rfl h
  | false => exact h2 rfl h
theorem g_wand {rest : List Expr} (ha : GT X c W ka a wt) (hb : GW X c W kb (.BoolOp .And (b :: rest) pos) wu) : GW X c W (ka + kb) (.BoolOp .And (a :: b :: rest) pos) (wAndT wt wu) := (pw_and ha hb).imp fun σ H Q h => by
  obtain ⟨S, F, n, I, μ, e, Qd, Xd, hl, he, hw, h, q, x⟩ := h
  refine ⟨S, F, n, I, μ, e, _, Xd, by omega, he, hw, h, fun b μ1 I1 H1 pb s1 w1 => ?_, x.mono (by omega) (Same.refl I)⟩
  exact ite_b pb (fun _ h => ⟨S, F, n + ka, I1, μ1, e, Qd, Xd, by omega, he.mono s1, w1, h, q.mono (by omega) s1, x.mono (by omega) s1⟩) fun _ h => q _ μ1 I1 H1 h s1 (w1.up (by omega))
theorem g_wor {rest : List Expr} (ha : GT X c W ka a wt) (hb : GW X c W kb (.BoolOp .Or (b :: rest) pos) wu) : GW X c W (ka + kb) (.BoolOp .Or (a :: b :: rest) pos) (wOrT wt wu) := (pw_or ha hb).imp fun σ H Q h => by
  obtain ⟨S, F, n, I, μ, e, Qd, Xd, hl, he, hw, h, q, x⟩ := h
  refine ⟨S, F, n, I, μ, e, _, Xd, by omega, he, hw, h, fun b μ1 I1 H1 pb s1 w1 => ?_, x.mono (by omega) (Same.refl I)⟩
  exact ite_b pb (fun _ h => q _ μ1 I1 H1 h s1 (w1.up (by omega))) fun _ h => ⟨S, F, n + ka, I1, μ1, e, Qd, Xd, by omega, he.mono s1, w1, h, q.mono (by omega) s1, x.mono (by omega) s1⟩
theorem g_pt (h : GW X c W k a wt) : GT X c W k a wt := h.pt
/-! values by and, or, not, if -/
theorem g_one {op} (h : GE X c W k a wa) : GE X c W k (.BoolOp op [a] pos) wa := pe_one h
theorem g_and {rest : List Expr} (ha : GE X c W ka a wa) (hb : GE X c W kb (.BoolOp .And (b :: rest) pos) wb) : GE X c W (ka + kb) (.BoolOp .And (a :: b :: rest) pos) (wAnd wa wb) := L2.PE.imp (pe_and ha hb) fun σ H Q h => by
  obtain ⟨S, F, n, I, μ, e, Qd, Xd, hl, he, hw, h, q, x⟩ := h
  refine ⟨S, F, n, I, μ, e, _, Xd, by omega, he, hw, h, fun da μ1 va I1 H1 pa s1 w1 ra => ?_, x.mono (by omega) (Same.refl I)⟩
  cases ra <;> first | exact False.elim pa | refine ⟨_, rfl, ite_b pa (fun _ h => ⟨S, F, n + ka, I1, μ1, e, Qd, Xd, by omega, he.mono s1, w1, h, q.mono (by omega) s1, x.mono (by omega) s1⟩) fun _ h => q _ μ1 _ I1 H1 h s1 (w1.up (by omega)) .bool⟩
theorem g_not (ha : GE X c W k a wa) : GE X c W k (.UnaryOp .Not a pos) (wNot wa) := L2.PE.imp (pe_not ha) fun σ H Q h => by
  obtain ⟨S, F, n, I, μ, e, Qd, Xd, hl, he, hw, h, q, x⟩ := h
  refine ⟨S, F, n, I, μ, e, _, Xd, by omega, he, hw, h, fun da μ1 va I1 H1 pa s1 w1 ra => ?_, x⟩
  cases ra <;> first | exact False.elim pa | exact ⟨_, rfl, q _ μ1 _ I1 H1 pa s1 w1 .bool⟩
theorem g_if (hc : GT X c W kc d wt) (ha : GE X c W ka a wa) (hb : GE X c W kb b wb) : GE X c W (kc + (ka + kb)) (.IfExp d a b pos) (wIf wt wa wb) := L2.PE.imp (pe_ifExp hc ha hb) fun σ H Q h => by
  obtain ⟨S, F, n, I, μ, e, Qd, Xd, hl, he, hw, h, q, x⟩ := h
  refine ⟨S, F, n, I, μ, e, _, Xd, by omega, he, hw, h, fun b μ1 I1 H1 pb s1 w1 => ?_, x.mono (by omega) (Same.refl I)⟩
  exact ite_b pb (fun _ h => ⟨S, F, n + kc, I1, μ1, e, Qd, Xd, by omega, he.mono s1, w1, h, q.mono (by omega) s1, x.mono (by omega) s1⟩) fun _ h => ⟨S, F, n + kc, I1, μ1, e, Qd, Xd, by omega, he.mono s1, w1, h, q.mono (by omega) s1, x.mono (by omega) s1⟩
/-! names, constants -/
theorem g_var {i : Nat} {x : Str} (h : PE X (.Name x pos) (tVar i)) : GE X c W 0 (.Name x pos) (wV i) := h.imp fun σ H Q h => by
  obtain ⟨S, F, n, I, μ, e, Qd, Xd, hl, he, hw, h, q, x⟩ := h
  unfold wV at h
  cases hg : gt e i with
  | none =>
    rw [hg] at h
    exact h.elim
  | some d =>
    rw [hg] at h
    obtain ⟨v, h1, h2⟩ := he.get hg
    exact ⟨v, h1, q d μ v I H h (Same.refl I) hw h2⟩
theorem g_con {ex : Expr} {v : V} {d : D} (h : PE X ex (tC v)) (r : ∀ S I, Rep c S I d v) : GE X c W 0 ex (wK d) := h.imp fun σ H Q h => by
  obtain ⟨S, F, n, I, μ, e, Qd, Xd, hl, he, hw, h, q, x⟩ := h
  exact q d μ v I H h (Same.refl I) hw (r S I)
theorem g_int {i j p} : GE X c W 0 (.Constant (.int i) j p) (wK (.int i)) := g_con pe_int fun _ _ => .int
theorem g_bl {i j p} : GE X c W 0 (.Constant (.bool i) j p) (wK (.bool i)) := g_con pe_bl fun _ _ => .bool
theorem g_str {i j p} : GE X c W 0 (.Constant (.str i) j p) (wK (.str i)) := g_con pe_str fun _ _ => .str
theorem g_non {j p} : GE X c W 0 (.Constant .none j p) (wK .none) := g_con pe_non fun _ _ => .none
/-! arguments -/
theorem ga_nil : GA X c W 0 [] waNil := L2.PA.imp pa_nil fun σ H Q h => by
  obtain ⟨S, F, n, I, μ, e, Qd, Xd, hl, he, hw, h, q, x⟩ := h
  exact q [] μ [] I H h (Same.refl I) hw .nil
theorem ld_cons {σ : L2.St} {H : Hp} {Q : List V → Hp → Prop} (h : ldA c W (ka + kb) (waCons wa wr) σ H Q) : tCons (ldE c W ka wa) (ldA c W kb wr) σ H Q := by
  obtain ⟨S, F, n, I, μ, e, Qd, Xd, hl, he, hw, h, q, x⟩ := h
  refine ⟨S, F, n, I, μ, e, _, Xd, by omega, he, hw, h, fun da μ1 va I1 H1 pa s1 w1 ra => ?_, x.mono (by omega) (Same.refl I)⟩
  refine ⟨S, F, n + ka, I1, μ1, e, _, Xd, by omega, he.mono s1, w1, pa, fun ds μ2 vs I2 H2 pb s2 w2 rb => ?_, x.mono (by omega) s1⟩
  exact q _ μ2 _ I2 H2 pb (s1.trans s2) (w2.up (by omega)) (.cons (ra.mono s2) rb)
theorem ga_cons (ha : GE X c W ka a wa) (hr : GA X c W kb es wr) (hs : starEach (a :: es) X.env = (false, eval a X.env) :: starEach es X.env := by rfl) : GA X c W (ka + kb) (a :: es) (waCons wa wr) := L2.PA.imp (pa_cons ha hr hs) fun σ H Q h => ld_cons h
/-! displays -/
theorem g_tup {x1} (h : GA X c W k es wr) : GE X c W k (.Tuple es x1 pos) (wTup wr) := L2.PE.imp (pe_tup h) fun σ H Q h => by
  obtain ⟨S, F, n, I, μ, e, Qd, Xd, hl, he, hw, h, q, x⟩ := h
  refine ⟨S, F, n, I, μ, e, _, Xd, hl, he, hw, h, fun ds μ1 vs I1 H1 ⟨hz, pa⟩ s1 w1 ra => ?_, x⟩
  refine ⟨by rw [← ra.length]; exact hz, fun p hp => ?_⟩
  have sm : Same I1 (upd I1 p (.tup vs)) := same_new (w1.fresh hp).1
  exact q _ μ1 _ _ _ pa (s1.trans sm) (w1.new hp) (.tup (.inl upd_same) (ra.mono sm))
theorem g_lst (h : GA X c W k es wr) : GE X c W k (.List es pos) (wLst m wr) := L2.PE.imp (pe_lst h) fun σ H Q h => by
  obtain ⟨S, F, n, I, μ, e, Qd, Xd, hl, he, hw, h, q, x⟩ := h
  refine ⟨S, F, n, I, μ, e, _, Xd, hl, he, hw, h, fun ds μ1 vs I1 H1 ⟨hz, pa⟩ s1 w1 ra => ?_, x⟩
  refine ⟨by rw [← ra.length]; exact hz, fun p hp => ?_⟩
  obtain ⟨w2, r2⟩ := RsR.new w1 hp (.list ra)
  exact (q.sett (m := m)) _ μ1 _ _ _ pa s1 w2 r2
/-! built-ins called by their names -/
theorem ld_cb {o : WC} {σ : L2.St} {H : Hp} {Q : VK} (h : ldE c W (ka + ko) (wCb m o wr) σ H Q) : ldA c W ka wr σ H fun xs H1 => ldC c W ko o σ xs H1 Q := by
  obtain ⟨S, F, n, I, μ, e, Qd, Xd, hl, he, hw, h, q, x⟩ := h
  refine ⟨S, F, n, I, μ, e, _, Xd, by omega, he, hw, h, fun ds μ1 vs I1 H1 pa s1 w1 ra => ?_, x.mono (by omega) (Same.refl I)⟩
  exact ⟨S, F, n + ka, I1, μ1, ds, _, Xd, by omega, w1, ra, pa, (q.mono (by omega) s1).sett, x.mono (by omega) s1⟩
/-- a built-in that keeps a wish -/
def CbW (X : Cx) (c : Ctx) (f : Value) (o : WC) : Prop := ∃ r, CallR X f r ∧ ∀ W σ xs H Q, ldC c W 0 o σ xs H Q → r xs H Q
theorem g_cb {x : Str} {id : String} {p : Pos} {o : WC} (hc : CbW X c (.builtin id) o) (hg : Gl X x) (hm : X.mg x = none) (hv : bootBuiltins x = some (.builtin id)) (ha : GA X c W k (a :: es) wr) (hn : x ≠ "__name__" := by decide) (hdb : (x == ("__debug__" : Str)) = false := by decide)
    (he : starEach (a :: es) X.env = (false, eval a X.env) :: starEach es X.env := by rfl) (hpl : (backTo pos (starEach es X.env)).any (·.1) = false := by rfl) : GE X c W (k + 0) (.Call (.Name x p) (a :: es) [] pos) (wCb m o wr) := by
  obtain ⟨r, h1, h2⟩ := hc
  refine L2.PE.imp (pe_callB h1 hg hm hv ha hn hdb he hpl) fun σ H Q h => ?_
  have h3 := ld_cb h
  obtain ⟨S, F, n, I, μ, e, Qd, Xd, hl, he, hw, h, q, x⟩ := h3
  exact ⟨S, F, n, I, μ, e, Qd, Xd, hl, he, hw, h, fun ds μ' vs I' H' p s w r => h2 W σ vs H' Q (q ds μ' vs I' H' p s w r), x⟩
theorem g_cty {x : Str} {T : String} {p : Pos} {o : WC} (hc : CbW X c (.type T) o) (hg : Gl X x) (hm : X.mg x = none) (hv : bootBuiltins x = some (.type T)) (ha : GA X c W k (a :: es) wr) (hn : x ≠ "__name__" := by decide) (hdb : (x == ("__debug__" : Str)) = false := by decide)
    (he : starEach (a :: es) X.env = (false, eval a X.env) :: starEach es X.env := by rfl) (hpl : (backTo pos (starEach es X.env)).any (·.1) = false := by rfl) : GE X c W (k + 0) (.Call (.Name x p) (a :: es) [] pos) (wCb m o wr) := by
  obtain ⟨r, h1, h2⟩ := hc
  refine L2.PE.imp (pe_callTy h1 hg hm hv ha hn hdb he hpl) fun σ H Q h => ?_
  have h3 := ld_cb h
  obtain ⟨S, F, n, I, μ, e, Qd, Xd, hl, he, hw, h, q, x⟩ := h3
  exact ⟨S, F, n, I, μ, e, Qd, Xd, hl, he, hw, h, fun ds μ' vs I' H' p s w r => h2 W σ vs H' Q (q ds μ' vs I' H' p s w r), x⟩
/-! slices -/
theorem go_none : GO X c W 0 none woNone := ⟨fun pins s σ H Q J h => po_none.run pins s σ H Q J (by
  obtain ⟨S, F, n, I, μ, e, Qd, Xd, hl, he, hw, h, q, x⟩ := h
  exact q _ μ I H h (Same.refl I) hw)⟩
theorem go_some (ha : GE X c W k a wa) : GO X c W k (some a) (woSome wa) := ⟨fun pins s σ H Q J h => (po_some ha).run pins s σ H Q J (by
  obtain ⟨S, F, n, I, μ, e, Qd, Xd, hl, he, hw, h, q, x⟩ := h
  refine ⟨S, F, n, I, μ, e, _, Xd, hl, he, hw, h, fun da μ1 va I1 H1 pa s1 w1 ra => ?_, x⟩
  cases ra <;> first | exact False.elim pa | exact ⟨_, rfl, q _ μ1 I1 H1 pa s1 w1⟩)⟩
def SlW (X : Cx) (c : Ctx) (o : D → Option Int → Option Int → Mu → QR → QD → Prop) : Prop := ∃ r, SlR X r ∧ ∀ W σ x lo hi H Q, ldSl c W 0 o σ x lo hi H Q → r x lo hi H Q
theorem g_sl {lo hi : Option Expr} {wl wh : WO} {p2 : Pos} {o : D → Option Int → Option Int → Mu → QR → QD → Prop} (ho : SlW X c o) (ha : GE X c W k a wa) (hl : GO X c W ka lo wl) (hh : GO X c W kb hi wh) : GE X c W (k + (ka + kb)) (.Subscript a (.Slice lo hi none p2) pos) (wSl m o wa wl wh) := by
  obtain ⟨r, h1, h2⟩ := ho
  refine L2.PE.imp (pe_slice h1 ha hl hh) fun σ H Q h => ?_
  obtain ⟨S, F, n, I, μ, e, Qd, Xd, hl, he, hw, h, q, x⟩ := h
  refine ⟨S, F, n, I, μ, e, _, Xd, by omega, he, hw, h, fun da μ1 va I1 H1 pa s1 w1 ra => ?_, x.mono (by omega) (Same.refl I)⟩
  refine ⟨S, F, n + k, I1, μ1, e, _, Xd, by omega, he.mono s1, w1, pa, fun lo μ2 I2 H2 pb s2 w2 => ?_, x.mono (by omega) s1⟩
  refine ⟨S, F, n + k + ka, I2, μ2, e, _, Xd, by omega, he.mono (s1.trans s2), w2, pb, fun hi μ3 I3 H3 pc s3 w3 => ?_, x.mono (by omega) (s1.trans s2)⟩
  exact h2 W σ _ _ _ _ _ ⟨S, F, n + k + ka + kb, I3, μ3, da, _, Xd, by omega, w3, ra.mono (s2.trans s3), pc, (q.mono (by omega) ((s1.trans s2).trans s3)).sett, x.mono (by omega) ((s1.trans s2).trans s3)⟩
end
end DL

set_option Elab.async false
set_option linter.all false
set_option maxRecDepth 100000
set_option maxHeartbeats 4000000
/-! A2: operations on data, and that the layer's rules keep them. -/
namespace DL
open PySem PyProof.Rows L2
abbrev iL (ns : List Int) : List D := ns.map D.int
def ndL : Option Nd → Option (List D)
  | some (.list ds) => some ds
  | _ => Option.none
/-- a list's items -/
def seqL (μ : Mu) : D → Option (List D)
  | .list ds => some ds
  | .cell p => ndL (μ p)
  | _ => Option.none
/-- a list's or a tuple's items -/
def sqD (μ : Mu) : D → Option (List D)
  | .tup ds => some ds
  | .script ns => some (iL ns)
  | .list ds => some ds
  | .cell p => ndL (μ p)
  | _ => Option.none
section
variable {c : Ctx} {S : Option SA} {F : Hp} {n : Nat} {I H : Hp} {μ : Mu} {d : D} {v : V} {ds : List D}
theorem ndL_some {x : Option Nd} (h : ndL x = some ds) : x = some (.list ds) := by
  unfold ndL at h
  split at h
  · cases h
    rfl
  · cases h
theorem Wd.cellL (w : Wd c S F n I μ H) {p : Addr} (h : ndL (μ p) = some ds) : ∃ xs, H p = some (.lst xs) ∧ Reps c S I ds xs := by
  obtain ⟨_, o, r, h2⟩ := w.m p _ (ndL_some h)
  cases r with
  | list r => exact ⟨_, h2, r⟩
theorem seqL_rep (w : Wd c S F n I μ H) (r : Rep c S I d v) (h : seqL μ d = some ds) : ∃ l xs, v = .ref l ∧ H l = some (.lst xs) ∧ Reps c S I ds xs := by
  cases r with
  | list g r =>
    cases h
    exact ⟨_, _, rfl, w.lst g, r⟩
  | cell =>
    obtain ⟨xs, h1, h2⟩ := w.cellL h
    exact ⟨_, xs, rfl, h1, h2⟩
  | _ => cases h
theorem sqD_rep (w : Wd c S F n I μ H) (r : Rep c S I d v) (h : sqD μ d = some ds) : ∃ l xs, v = .ref l ∧ (SqL c.K H l xs ∨ SqT c.K H l xs) ∧ Reps c S I ds xs := by
  cases r with
  | list g r =>
    cases h
    exact ⟨_, _, rfl, .inl (SqL.of (w.lst g)), r⟩
  | tup g r =>
    cases h
    exact ⟨_, _, rfl, .inr (w.tupH g), r⟩
  | script g =>
    cases h
    exact ⟨_, _, rfl, .inl (w.seqH g), Reps.of_ints⟩
  | cell =>
    obtain ⟨xs, h1, h2⟩ := w.cellL h
    exact ⟨_, xs, rfl, .inl (SqL.of h1), h2⟩
  | _ => cases h
end
/-! ### + - * // % ** -/
def oAdd : WOp := fun x y μ Q _ => match x with
  | .int i => (match y with
    | .int j => Q (.v (.int (i + j))) μ
    | _ => False)
  | .str a => (match y with
    | .str b => a.length + b.length ≤ sizeLine ∧ Q (.v (.str (a ++ b))) μ
    | _ => False)
  | .tup a => (match y with
    | .tup b => a.length + b.length ≤ sizeLine ∧ Q (.v (.tup (a ++ b))) μ
    | _ => False)
  | x => (match seqL μ x, seqL μ y with
    | some a, some b => a.length + b.length ≤ sizeLine ∧ Q (.n (.list (a ++ b))) μ
    | _, _ => False)
def oInt2 (C : Int → Int → Prop) (f : Int → Int → D) : WOp := fun x y μ Q _ => match x with
  | .int i => (match y with
    | .int j => C i j ∧ Q (.v (f i j)) μ
    | _ => False)
  | _ => False
def oSub : WOp := oInt2 (fun _ _ => True) fun i j => .int (i - j)
def oFdiv : WOp := oInt2 CDivW fun i j => .int (i / j)
def oMod : WOp := oInt2 (fun _ j => 0 < j) fun i j => .int (i % j)
def CPowW (i j : Int) : Prop := 0 ≤ j ∧ (Builtin.Int.intBits i : Int) * j ≤ 2 ^ 27
def oPow : WOp := oInt2 CPowW fun i j => .int (i ^ j.toNat)
def CMulU (i j : Int) : Prop := CMulX i j ∨ CMul i j
def oMul : WOp := fun x y μ Q _ => match x with
  | .int i => (match y with
    | .int j => CMulU i j ∧ Q (.v (.int (i * j))) μ
    | _ => False)
  | x => (match seqL μ x, y with
    | some a, .int k => -(2 ^ 63) ≤ k ∧ k < 2 ^ 63 ∧ a.length * k.toNat ≤ sizeLine ∧ Q (.n (.list (List.replicate k.toNat a).flatten)) μ
    | _, _ => False)
def oLt : WOp := oInt2 (fun _ _ => True) fun i j => .bool (decide (i < j))
def oLe : WOp := oInt2 (fun _ _ => True) fun i j => .bool (decide (i ≤ j))
def oGt : WOp := oInt2 (fun _ _ => True) fun i j => .bool (decide (j < i))
def oGe : WOp := oInt2 (fun _ _ => True) fun i j => .bool (decide (j ≤ i))
def oNeg : WU := fun x μ Q _ => match x with
  | .int i => Q (.v (.int (-i))) μ
  | _ => False
section
variable {X : Cx} {c : Ctx} {W : WX}
theorem op_pow27 : OpR X (binaryOp .Pow) (rI CPowW fun i j => .int (i ^ j.toNat)) := opI fun _ _ _ _ _ _ _ hc q => pow_int hc.1 hc.2 q
/-- two ints -/
theorem ld_int2 {C : Int → Int → Prop} {f : Int → Int → D} {g : Int → Int → V} (hg : ∀ S I i j, Rep c S I (f i j) (g i j)) {σ : L2.St} {x y : V} {H : Hp} {Q : VK} (h : ld2 c W 0 (oInt2 C f) σ x y H Q) : rI C g x y H Q := by
  obtain ⟨S, F, n, I, μ, dx, dy, Qd, Xd, hl, w, rx, ry, h, q, _⟩ := h
  cases rx <;> try exact h.elim
  cases ry <;> try exact h.elim
  exact ⟨_, _, rfl, rfl, h.1, q _ μ _ I H h.2 (Same.refl I) w (hg S I _ _)⟩
theorem rI0_of {g : Int → Int → V} {x y : V} {H : Hp} {Q : VK} (h : rI (fun _ _ => True) g x y H Q) : rI0 g x y H Q := by
  obtain ⟨i, j, h1, h2, _, h3⟩ := h
  exact ⟨i, j, h1, h2, h3⟩
theorem w_sub : Op2 X c W 0 (binaryOp .Sub) oSub := op2_of op_sub fun σ x y H Q h => rI0_of (ld_int2 (fun _ _ _ _ => .int) h)
theorem w_fdiv : Op2 X c W 0 (binaryOp .FloorDiv) oFdiv := op2_of op_fdivW fun σ x y H Q h => ld_int2 (fun _ _ _ _ => .int) h
theorem w_pow : Op2 X c W 0 (binaryOp .Pow) oPow := op2_of op_pow27 fun σ x y H Q h => ld_int2 (fun _ _ _ _ => .int) h
theorem w_gt : Op2 X c W 0 (compareOp .Gt) oGt := op2_of op_gt fun σ x y H Q h => rI0_of (ld_int2 (fun _ _ _ _ => .bool) h)
theorem w_neg : Op1 X c W 0 (unaryOp .USub) oNeg := fun pins s σ H x v Q J rx h => un_neg pins s σ H x v Q J rx (by
  obtain ⟨S, F, n, I, μ, dx, Qd, Xd, hl, w, rx, h, q, _⟩ := h
  cases rx <;> try exact h.elim
  exact ⟨_, rfl, q _ μ _ I H h (Same.refl I) w .int⟩)
theorem w_add (hK : X.K = c.K := by rfl) : Op2 X c W 0 (binaryOp .Add) oAdd := by
  obtain ⟨K, cl, tb, ns, es0⟩ := c
  cases hK
  refine op2_of (op_add.or (op_add_str.or (op_catA.or op_cat))) fun σ x y H Q h => ?_
  obtain ⟨S, F, n, I, μ, dx, dy, Qd, Xd, hl, w, rx, ry, h, q, _⟩ := h
  unfold oAdd at h
  split at h
  · split at h
    · cases rx
      cases ry
      exact .inl ⟨_, _, rfl, rfl, q _ μ _ I H h (Same.refl I) w .int⟩
    · exact h.elim
  · split at h
    · cases rx
      cases ry
      exact .inr (.inl ⟨_, _, rfl, rfl, h.1, q _ μ _ I H h.2 (Same.refl I) w .str⟩)
    · exact h.elim
  · split at h
    · rename_i a _ _ b
      cases rx with
      | @tup pa _ xs g1 r1 =>
        cases ry with
        | @tup pb _ ys g2 r2 =>
          refine .inr (.inr (.inl ⟨_, _, _, _, rfl, rfl, w.tupH g1, w.tupH g2, by rw [← r1.length, ← r2.length]; exact h.1, fun e => ?_, fun e1 e2 => ?_, fun e1 e2 p hp => ?_⟩))
          · subst e
            cases r1
            exact q _ μ _ I H h.2 (Same.refl I) w (.tup g2 r2)
          · subst e2
            cases r2
            have h2 := h.2
            rw [List.append_nil] at h2
            exact q _ μ _ I H h2 (Same.refl I) w (.tup g1 r1)
          · have sm : Same I (upd I p (.tup (xs ++ ys))) := same_new (w.fresh hp).1
            exact q _ μ _ _ _ h.2 sm (w.new hp) (.tup (.inl upd_same) ((r1.append r2).mono sm))
    · exact h.elim
  · split at h
    · rename_i _ _ _ _ _ _ e1 e2
      obtain ⟨l1, xs, rfl, h1, r1⟩ := seqL_rep w rx e1
      obtain ⟨l2, ys, rfl, h2, r2⟩ := seqL_rep w ry e2
      refine .inr (.inr (.inr ⟨_, _, _, _, rfl, rfl, h1, h2, by rw [← r1.length, ← r2.length]; exact h.1, fun p hp => ?_⟩))
      obtain ⟨w2, rr⟩ := RsR.new w hp (NdR.list (r1.append r2))
      exact q _ μ _ _ _ h.2 (Same.refl I) w2 rr
    · exact h.elim
theorem w_mul : Op2 X c W 0 (binaryOp .Mult) oMul := by
  refine op2_of (op_mulX.or (op_mul.or op_rep)) fun σ x y H Q h => ?_
  obtain ⟨S, F, n, I, μ, dx, dy, Qd, Xd, hl, w, rx, ry, h, q, _⟩ := h
  unfold oMul at h
  split at h
  · split at h
    · cases rx
      cases ry
      rcases h.1 with z | z
      · exact .inl ⟨_, _, rfl, rfl, z, q _ μ _ I H h.2 (Same.refl I) w .int⟩
      · exact .inr (.inl ⟨_, _, rfl, rfl, z, q _ μ _ I H h.2 (Same.refl I) w .int⟩)
    · exact h.elim
  · split at h
    · rename_i _ _ _ _ a k e1
      obtain ⟨l1, xs, rfl, h1, r1⟩ := seqL_rep w rx e1
      cases ry
      refine .inr (.inr ⟨_, _, _, rfl, rfl, h1, h.1, h.2.1, by rw [← r1.length]; exact h.2.2.1, fun p hp => ?_⟩)
      obtain ⟨w2, rr⟩ := RsR.new w hp (NdR.list (r1.flat k.toNat))
      exact q _ μ _ _ _ h.2.2.2 (Same.refl I) w2 rr
    · exact h.elim
end
/-! ### items, slices -/
theorem atI_rep {c : Ctx} {S : Option SA} {I : Hp} {ds : List D} {xs : List V} {i : Int} {d : D} (r : Reps c S I ds xs) (h : atI ds i = some d) : ∃ x, atI xs i = some x ∧ Rep c S I d x := by
  unfold atI at h ⊢
  rw [← r.length]
  cases q : ixN ds.length i with
  | none =>
    rw [q] at h
    cases h
  | some j =>
    rw [q] at h
    exact r.get h
def oIx : WOp := fun x y μ Q _ => match x with
  | .str z => (match y with
    | .int i => z.length ≤ sizeLine ∧ (match atI z.cps.toList i with
      | some ch => Q (.v (.str ⟨#[ch]⟩)) μ
      | Option.none => False)
    | _ => False)
  | x => (match sqD μ x, y with
    | some ds, .int i => (match atI ds i with
      | some d => Q (.v d) μ
      | Option.none => False)
    | _, _ => False)
/-- a slice's items -/
def cutD (xs : List D) (lo hi : Option Int) : List D := (xs.drop (HT.sIx xs.length 0 lo)).take (HT.sIx xs.length xs.length hi - HT.sIx xs.length 0 lo)
theorem cut_rep {c : Ctx} {S : Option SA} {I : Hp} {ds : List D} {xs : List V} (r : Reps c S I ds xs) (lo hi : Option Int) : Reps c S I (cutD ds lo hi) (cutV xs lo hi) := by
  unfold cutD cutV
  rw [r.length]
  exact (r.drop _).take _
def oSl : D → Option Int → Option Int → Mu → QR → QD → Prop := fun x lo hi μ Q _ => match x with
  | .str z => z.length ≤ sizeLine ∧ Q (.v (.str (cutS z lo hi))) μ
  | .tup ds => Q (.v (.tup (cutD ds lo hi))) μ
  | x => (match seqL μ x with
    | some ds => Q (.n (.list (cutD ds lo hi))) μ
    | Option.none => False)
section
variable {X : Cx} {c : Ctx} {W : WX} {k ka kb : Nat} {a b : Expr} {wa wb : WE} {m : Bool} {pos : Pos}
theorem ld_ix {σ : L2.St} {x y : V} {H : Hp} {Q : VK} (h : ld2 c W 0 oIx σ x y H Q) : rIx c.K x y H Q := by
  obtain ⟨S, F, n, I, μ, dx, dy, Qd, Xd, hl, w, rx, ry, h, q, _⟩ := h
  unfold oIx at h
  split at h
  · split at h
    · obtain ⟨hz, h⟩ := h
      split at h
      · rename_i ch e
        cases rx
        cases ry
        exact .inr (.inr ⟨_, _, _, rfl, rfl, hz, e, q _ μ _ I H h (Same.refl I) w .str⟩)
      · exact h.elim
    · exact h.elim
  · split at h
    · rename_i _ _ _ _ ds i e1
      split at h
      · rename_i d e2
        obtain ⟨l, xs, rfl, h1, r1⟩ := sqD_rep w rx e1
        cases ry
        obtain ⟨v, h3, h4⟩ := atI_rep r1 e2
        rcases h1 with h1 | h1
        · exact .inl ⟨_, _, _, _, rfl, rfl, h1, h3, q _ μ _ I H h (Same.refl I) w h4⟩
        · exact .inr (.inl ⟨_, _, _, _, rfl, rfl, h1, h3, q _ μ _ I H h (Same.refl I) w h4⟩)
      · exact h.elim
    · exact h.elim
theorem g_ix (ha : GE X c W ka a wa) (hb : GE X c W kb b wb) (hp : PlainIx b := by exact fun _ _ => rfl) (hK : X.K = c.K := by rfl) : GE X c W (ka + (kb + 0)) (.Subscript a b pos) (wOp m oIx wa wb) := by
  obtain ⟨K, cl, tb, ns, es0⟩ := c
  cases hK
  refine L2.PE.imp (pe_ix ix_seq ha hb hp) fun σ H Q h => ?_
  obtain ⟨S, F, n, I, μ, e, Qd, Xd, hl, he, hw, h, q, x⟩ := ld_two h
  refine ⟨S, F, n, I, μ, e, Qd, Xd, hl, he, hw, h, fun d μ1 v I1 H1 p s1 w1 r1 => ?_, x⟩
  obtain ⟨S, F, n, I, μ, e, Qd, Xd, hl, he, hw, h, q, x⟩ := q d μ1 v I1 H1 p s1 w1 r1
  exact ⟨S, F, n, I, μ, e, Qd, Xd, hl, he, hw, h, fun d μ1 v I1 H1 p s1 w1 r1 => ld_ix (q d μ1 v I1 H1 p s1 w1 r1), x⟩
theorem w_sl (hK : X.K = c.K := by rfl) : SlW X c oSl := by
  obtain ⟨K, cl, tb, ns, es0⟩ := c
  cases hK
  refine ⟨_, SlR.or sl_str (SlR.or sl_tupA sl_list), fun W σ x lo hi H Q h => ?_⟩
  obtain ⟨S, F, n, I, μ, d, Qd, Xd, hl, w, r, h, q, _⟩ := h
  unfold oSl at h
  split at h
  · cases r
    exact .inl ⟨_, rfl, h.1, q _ μ _ I H h.2 (Same.refl I) w .str⟩
  · cases r with
    | @tup a _ xs g r =>
      refine .inr (.inl ⟨_, _, rfl, w.tupH g, fun hw => ?_, fun hw p hp => ?_⟩)
      · refine q _ μ _ I H h (Same.refl I) w ?_
        have e1 : cutV xs lo hi = xs := by
          unfold cutV
          rw [hw.1, hw.2, List.drop_zero, Nat.sub_zero, List.take_length]
        have r4 := cut_rep r lo hi
        rw [e1] at r4
        exact .tup g r4
      · have sm : Same I (upd I p (.tup (cutV xs lo hi))) := same_new (w.fresh hp).1
        exact q _ μ _ _ _ h sm (w.new hp) (.tup (.inl upd_same) ((cut_rep r lo hi).mono sm))
  · split at h
    · rename_i ds e1
      obtain ⟨l1, xs, rfl, h1, r1⟩ := seqL_rep w r e1
      refine .inr (.inr ⟨_, _, rfl, SqL.of h1, fun p hp => ?_⟩)
      obtain ⟨w2, rr⟩ := RsR.new w hp (NdR.list (cut_rep r1 lo hi))
      exact q _ μ _ _ _ h (Same.refl I) w2 rr
    · exact h.elim
end
/-! ### built-ins by their names -/
def one (xs : List D) (f : D → Prop) : Prop := match xs with
  | [x] => f x
  | _ => False
def two (xs : List D) (f : D → D → Prop) : Prop := match xs with
  | [x, y] => f x y
  | _ => False
theorem one_cases {xs : List D} {f : D → Prop} (h : one xs f) : ∃ x, xs = [x] ∧ f x := by
  unfold one at h
  split at h
  · exact ⟨_, rfl, h⟩
  · exact h.elim
theorem two_cases {xs : List D} {f : D → D → Prop} (h : two xs f) : ∃ x y, xs = [x, y] ∧ f x y := by
  unfold two at h
  split at h
  · exact ⟨_, _, rfl, h⟩
  · exact h.elim
theorem reps1 {c : Ctx} {S : Option SA} {I : Hp} {x : D} {vs : List V} (r : Reps c S I [x] vs) : ∃ v, vs = [v] ∧ Rep c S I x v := by
  cases r with
  | cons h r =>
    cases r
    exact ⟨_, rfl, h⟩
theorem reps2 {c : Ctx} {S : Option SA} {I : Hp} {x y : D} {vs : List V} (r : Reps c S I [x, y] vs) : ∃ v u, vs = [v, u] ∧ Rep c S I x v ∧ Rep c S I y u := by
  cases r with
  | cons h r =>
    obtain ⟨u, rfl, h2⟩ := reps1 r
    exact ⟨_, u, rfl, h, h2⟩
def cbLen : WC := fun xs μ Q _ => one xs fun x => match x with
  | .str z => z.length ≤ sizeLine ∧ Q (.v (.int (z.length : Int))) μ
  | x => (match sqD μ x with
    | some ds => Q (.v (.int (ds.length : Int))) μ
    | Option.none => False)
def int1 (x : D) (f : Int → Prop) : Prop := match x with
  | .int i => f i
  | _ => False
theorem int1_cases {x : D} {f : Int → Prop} (h : int1 x f) : ∃ i, x = .int i ∧ f i := by
  unfold int1 at h
  split at h
  · exact ⟨_, rfl, h⟩
  · exact h.elim
def cbMin2 : WC := fun xs μ Q _ => two xs fun x y => int1 x fun i => int1 y fun j => Q (.v (.int (if j < i then j else i))) μ
def cbMax2 : WC := fun xs μ Q _ => two xs fun x y => int1 x fun i => int1 y fun j => Q (.v (.int (if j > i then j else i))) μ
def cbAbs : WC := fun xs μ Q _ => one xs fun x => int1 x fun i => Q (.v (.int (if i < 0 then -i else i))) μ
def cbInt : WC := fun xs μ Q _ => one xs fun x => match x with
  | .int i => Q (.v (.int i)) μ
  | .bool b => Q (.v (.int (if b then 1 else 0))) μ
  | _ => False
def cbList : WC := fun xs μ Q _ => one xs fun x => match sqD μ x with
  | some ds => Q (.n (.list ds)) μ
  | Option.none => False
def cbTup : WC := fun xs μ Q _ => one xs fun x => match sqD μ x with
  | some ds => Q (.v (.tup ds)) μ
  | Option.none => False
section
variable {X : Cx} {c : Ctx} {W : WX}
theorem cbw_of {f : Value} {o : WC} {r : List V → Hp → VK → Prop} (h : CallR X f r) (i : ∀ S F n I μ ds vs H Qd Xd Q, Wd c S F n I μ H → Reps c S I ds vs → o ds μ Qd Xd → QVR c S F n I Qd Q → r vs H Q) : CbW X c f o := ⟨r, h, fun W σ xs H Q h => by
  obtain ⟨S, F, n, I, μ, ds, Qd, Xd, hl, w, rs, h, q, _⟩ := h
  exact i S F n I μ ds xs H Qd Xd Q w rs h q⟩
theorem w_len (hK : X.K = c.K := by rfl) : CbW X c (.builtin "len") cbLen := by
  obtain ⟨K, cl, tb, ns, es0⟩ := c
  cases hK
  refine cbw_of call_len fun S F n I μ ds vs H Qd Xd Q w rs h q => ?_
  obtain ⟨x, rfl, g⟩ := one_cases h
  obtain ⟨v, rfl, rv⟩ := reps1 rs
  clear h rs
  revert g; intro h
  split at h
  · cases rv
    exact ⟨_, _, rfl, ⟨h.1, rfl⟩, q _ μ _ I H h.2 (Same.refl I) w .int⟩
  · split at h
    · rename_i ds e
      obtain ⟨l, xs, rfl, h1, r1⟩ := sqD_rep w rv e
      rw [r1.length] at h
      rcases h1 with h1 | h1
      · exact ⟨_, _, rfl, .inl ⟨_, h1, rfl⟩, q _ μ _ I H h (Same.refl I) w .int⟩
      · exact ⟨_, _, rfl, .inr ⟨_, h1, rfl⟩, q _ μ _ I H h (Same.refl I) w .int⟩
    · exact h.elim
theorem w_min2 (hc : X.calm = true := by rfl) : CbW X c (.builtin "min") cbMin2 := cbw_of (call_min2 hc) fun S F n I μ ds vs H Qd Xd Q w rs h q => by
  obtain ⟨x, y, rfl, h⟩ := two_cases h
  obtain ⟨i, rfl, h⟩ := int1_cases h
  obtain ⟨j, rfl, h⟩ := int1_cases h
  obtain ⟨v, u, rfl, rv, ru⟩ := reps2 rs
  cases rv
  cases ru
  exact ⟨i, j, rfl, q _ μ _ I H h (Same.refl I) w .int⟩
theorem w_max2 (hc : X.calm = true := by rfl) : CbW X c (.builtin "max") cbMax2 := cbw_of (call_max2 hc) fun S F n I μ ds vs H Qd Xd Q w rs h q => by
  obtain ⟨x, y, rfl, h⟩ := two_cases h
  obtain ⟨i, rfl, h⟩ := int1_cases h
  obtain ⟨j, rfl, h⟩ := int1_cases h
  obtain ⟨v, u, rfl, rv, ru⟩ := reps2 rs
  cases rv
  cases ru
  exact ⟨i, j, rfl, q _ μ _ I H h (Same.refl I) w .int⟩
theorem w_int : CbW X c (.type "int") cbInt := cbw_of call_int1 fun S F n I μ ds vs H Qd Xd Q w rs h q => by
  obtain ⟨x, rfl, h⟩ := one_cases h
  obtain ⟨v, rfl, rv⟩ := reps1 rs
  cases rv <;> try exact h.elim
  · exact .inr ⟨_, rfl, q _ μ _ I H h (Same.refl I) w .int⟩
  · exact .inl ⟨_, rfl, q _ μ _ I H h (Same.refl I) w .int⟩
theorem w_list (hK : X.K = c.K := by rfl) : CbW X c (.type "list") cbList := by
  obtain ⟨K, cl, tb, ns, es0⟩ := c
  cases hK
  refine cbw_of call_list_of fun S F n I μ ds vs H Qd Xd Q w rs h q => ?_
  obtain ⟨x, rfl, g⟩ := one_cases h
  obtain ⟨v, rfl, rv⟩ := reps1 rs
  clear h rs
  revert g; intro h
  split at h
  · rename_i ds e
    obtain ⟨l, xs, rfl, h1, r1⟩ := sqD_rep w rv e
    refine ⟨_, _, rfl, h1, fun p hp => ?_⟩
    obtain ⟨w2, rr⟩ := RsR.new w hp (NdR.list r1)
    exact q _ μ _ _ _ h (Same.refl I) w2 rr
  · exact h.elim
theorem w_tuple (hK : X.K = c.K := by rfl) : CbW X c (.type "tuple") cbTup := by
  obtain ⟨K, cl, tb, ns, es0⟩ := c
  cases hK
  refine cbw_of call_tuple_of fun S F n I μ ds vs H Qd Xd Q w rs h q => ?_
  obtain ⟨x, rfl, g⟩ := one_cases h
  obtain ⟨v, rfl, rv⟩ := reps1 rs
  clear h rs
  revert g; intro h
  split at h
  · rename_i ds e
    have new : ∀ {xs : List V}, Reps ⟨X.K, cl, tb, ns, es0⟩ S I ds xs → ∀ p, H p = Option.none → Q (.ref p) (upd H p (.tup xs)) := fun {xs} r1 p hp => by
      have sm : Same I (upd I p (.tup xs)) := same_new (w.fresh hp).1
      exact q _ μ _ _ _ h sm (w.new hp) (.tup (.inl upd_same) (r1.mono sm))
    cases rv with
    | list g r =>
      cases e
      exact ⟨_, _, rfl, .inl ⟨SqL.of (w.lst g), new r⟩⟩
    | tup g r =>
      cases e
      exact ⟨_, _, rfl, .inr ⟨w.tupH g, q _ μ _ I H h (Same.refl I) w (.tup g r)⟩⟩
    | script g =>
      cases e
      exact ⟨_, _, rfl, .inl ⟨w.seqH g, new Reps.of_ints⟩⟩
    | cell =>
      obtain ⟨xs, h1, h2⟩ := w.cellL e
      exact ⟨_, _, rfl, .inl ⟨SqL.of h1, new h2⟩⟩
    | _ => cases e
  · exact h.elim
end
/-! ### is None -/
def isNone : D → Bool
  | .none => true
  | _ => false
def oIsN : WOp := fun x y μ Q _ => match y with
  | .none => Q (.v (.bool (isNone x))) μ
  | _ => False
def oNotN : WOp := fun x y μ Q _ => match y with
  | .none => Q (.v (.bool (!isNone x))) μ
  | _ => False
section
variable {X : Cx} {c : Ctx} {W : WX}
theorem rep_none {S : Option SA} {I : Hp} {d : D} {v : V} (r : Rep c S I d v) : decide (v = V.non) = isNone d := by
  cases r <;> first | rfl | exact decide_eq_false fun z => nomatch z
theorem w_isnot : Op2 X c W 0 (compareOp .IsNot) oNotN := op2_of op_notN fun σ x y H Q h => by
  obtain ⟨S, F, n, I, μ, dx, dy, Qd, Xd, hl, w, rx, ry, h, q, _⟩ := h
  cases ry <;> try exact h.elim
  exact ⟨rfl, by rw [rep_none rx]; exact q _ μ _ I H h (Same.refl I) w .bool⟩
end
end DL

set_option Elab.async false
set_option linter.all false
set_option maxRecDepth 100000
set_option maxHeartbeats 4000000
/-! A3: statements, targets, what is walked, loops, comprehensions. -/
namespace DL
open PySem PyProof.Rows L2
structure WEnds where
  nx : EnvD → Mu → Prop
  rt : QD
  bk : EnvD → Mu → Prop
  ct : EnvD → Mu → Prop
  xp : D → EnvD → Mu → Prop
abbrev WS := EnvD → Mu → WEnds → Prop
abbrev WG := D → EnvD → (EnvD → Prop) → Prop
abbrev WGs := List D → EnvD → (EnvD → Prop) → Prop
/-- what is walked: the items, what stays meanwhile -/
structure Src where
  xs : List D
  ok : Mu → Prop
abbrev WI := EnvD → Mu → (Src → Mu → Prop) → QD → Prop
/-! ### wishes -/
def wSeq (a b : WS) : WS := fun e μ E => a e μ { E with nx := fun e1 μ1 => b e1 μ1 E }
def wNext : WS := fun e μ E => E.nx e μ
def wBreak : WS := fun e μ E => E.bk e μ
def wCont : WS := fun e μ E => E.ct e μ
def wAsg (i : Nat) (a : WE) : WS := fun e μ E => a e μ (fun d μ1 => E.nx (st e i (some d)) μ1) fun d μ1 => E.xp d e μ1
def wAsgG (g : WG) (a : WE) : WS := fun e μ E => a e μ (fun d μ1 => g d e fun e1 => E.nx e1 μ1) fun d μ1 => E.xp d e μ1
def wDrop (a : WE) : WS := fun e μ E => a e μ (fun _ μ1 => E.nx e μ1) fun d μ1 => E.xp d e μ1
def wRet (a : WE) : WS := fun e μ E => a e μ E.rt fun d μ1 => E.xp d e μ1
def wRetN : WS := fun _ μ E => E.rt .none μ
def wIfS (t : WT) (a b : WS) : WS := fun e μ E => t e μ (fun k μ1 => if k = true then a e μ1 E else b e μ1 E) fun d μ1 => E.xp d e μ1
def wPar (i j : Nat) (a : WA) : WS := fun e μ E => a e μ (fun ds μ1 => match ds with
  | [x, y] => E.nx (st (st e i (some x)) j (some y)) μ1
  | _ => False) fun d μ1 => E.xp d e μ1
def wAug (i : Nat) (f : Int → Int → Int) (a : WE) : WS := fun e μ E => match gt e i with
  | some (.int x) => a e μ (fun d μ1 => match d with
    | .int y => E.nx (st e i (some (.int (f x y)))) μ1
    | _ => False) fun d μ1 => E.xp d e μ1
  | _ => False
/-- l[i] = v -/
def wSetL (v o i : WE) : WS := fun e μ E => v e μ (fun d μ1 => o e μ1 (fun x μ2 => i e μ2 (fun y μ3 => match x, y with
  | .cell p, .int k => (match ndL (μ3 p) with
    | some ds => (match ixN ds.length k with
      | some j => E.nx e (up μ3 p (.list (ds.set j d)))
      | Option.none => False)
    | Option.none => False)
  | _, _ => False) fun d μ1 => E.xp d e μ1) fun d μ1 => E.xp d e μ1) fun d μ1 => E.xp d e μ1
def wgN (i : Nat) : WG := fun d e Q => Q (st e i (some d))
def wgNil : WGs := fun ds e Q => match ds with
  | [] => Q e
  | _ => False
def wgCons (g : WG) (gs : WGs) : WGs := fun ds e Q => match ds with
  | d :: ds => g d e fun e1 => gs ds e1 Q
  | _ => False
def wgTup (n : Nat) (gs : WGs) : WG := fun d e Q => match d with
  | .tup ds => ds.length = n ∧ gs ds e Q
  | _ => False
def okS : D → List D → Mu → Prop
  | .cell p, ds, μ => ndL (μ p) = some ds
  | _, _, _ => True
def wiSeq (a : WE) : WI := fun e μ Q X => a e μ (fun d μ1 => match sqD μ1 d with
  | some ds => Q ⟨ds, okS d ds⟩ μ1
  | Option.none => False) X
def rangeD (lo : Int) (n : Nat) : List D := (List.range n).map fun (i : Nat) => .int (lo + (i : Int))
def inR (i : Int) : Prop := -(2 ^ 62) ≤ i ∧ i < 2 ^ 62
def wiRng1 (a : WA) : WI := fun e μ Q X => a e μ (fun ds μ1 => one ds fun x => int1 x fun j => inR j ∧ Q ⟨rangeD 0 j.toNat, fun _ => True⟩ μ1) X
def wiRng2 (a : WA) : WI := fun e μ Q X => a e μ (fun ds μ1 => two ds fun x y => int1 x fun lo => int1 y fun hi => inR lo ∧ inR hi ∧ Q ⟨rangeD lo (hi - lo).toNat, fun _ => True⟩ μ1) X
def goFor (ok : Mu → Prop) (g : WG) (b : WS) : List D → WS
  | [], e, μ, E => ok μ ∧ E.nx e μ
  | x :: xs, e, μ, E => ok μ ∧ g x e fun e1 => b e1 μ { nx := fun e2 μ2 => goFor ok g b xs e2 μ2 E, rt := E.rt, bk := E.nx, ct := fun e2 μ2 => goFor ok g b xs e2 μ2 E, xp := E.xp }
def wFor (s : WI) (g : WG) (b : WS) : WS := fun e μ E => s e μ (fun s μ1 => s.xs.length ≤ 2 ^ 63 ∧ goFor s.ok g b s.xs e μ1 E) fun d μ1 => E.xp d e μ1
/-- n turns at most -/
def goWhile (t : WT) (b : WS) : Nat → WS
  | 0, _, _, _ => False
  | n + 1, e, μ, E => t e μ (fun k μ1 => if k = true then b e μ1 { nx := fun e2 μ2 => goWhile t b n e2 μ2 E, rt := E.rt, bk := E.nx, ct := fun e2 μ2 => goWhile t b n e2 μ2 E, xp := E.xp } else E.nx e μ1) fun d μ1 => E.xp d e μ1
def wWhile (t : WT) (b : WS) : WS := fun e μ E => ∃ n, n ≤ 2 ^ 63 ∧ goWhile t b n e μ E
def wYes : WT := fun _ μ Q _ => Q true μ
def goLc (ok : Mu → Prop) (g : WG) (t : WT) (a : WE) (e : EnvD) (X : QD) : List D → List D → Mu → (List D → Mu → Prop) → Prop
  | [], acc, μ, Q => ok μ ∧ Q acc μ
  | x :: xs, acc, μ, Q => ok μ ∧ g x e fun e1 => t e1 μ (fun k μ1 => if k = true then a e1 μ1 (fun d μ2 => goLc ok g t a e X xs (acc ++ [d]) μ2 Q) X else goLc ok g t a e X xs acc μ1 Q) X
def wLc (m : Bool) (s : WI) (g : WG) (t : WT) (a : WE) (vs : List Nat) : WE := fun e μ Q X => s e μ (fun s μ1 => s.xs.length ≤ sizeLine ∧ goLc s.ok g t a (wipeE e vs) (fun _ _ => False) s.xs [] μ1 fun ds μ2 => sett m Q (.n (.list ds)) μ2) X
/-! ### readings -/
structure EV (c : Ctx) (W : WX) (S : Option SA) (F : Hp) (n : Nat) (I : Hp) (E : WEnds) (K : Ends) : Prop where
  nx : ∀ e' μ' σ' I' H', E.nx e' μ' → Same I I' → EnvR c S I' e' σ' → Wd c S F n I' μ' H' → K.nx σ' H'
  rt : ∀ d μ' v I' H', E.rt d μ' → Same I I' → Wd c S F n I' μ' H' → Rep c S I' d v → K.rt v H'
  bk : ∀ e' μ' σ' I' H', E.bk e' μ' → Same I I' → EnvR c S I' e' σ' → Wd c S F n I' μ' H' → K.bk σ' H'
  ct : ∀ e' μ' σ' I' H', E.ct e' μ' → Same I I' → EnvR c S I' e' σ' → Wd c S F n I' μ' H' → K.ct σ' H'
  xp : ∀ d e' μ' cls dx σ' I' H', E.xp d e' μ' → Same I I' → EnvR c S I' e' σ' → Wd c S F n I' μ' H' → ErrAt c S I' d cls dx → W cls dx σ' H'
theorem EV.mono {c : Ctx} {W : WX} {S : Option SA} {F : Hp} {n n' : Nat} {I I' : Hp} {E : WEnds} {K : Ends} (h : EV c W S F n I E K) (l : n' ≤ n) (s : Same I I') : EV c W S F n' I' E K :=
  ⟨fun e' μ' σ' I2 H' p s2 r w => h.nx e' μ' σ' I2 H' p (s.trans s2) r (w.up l), fun d μ' v I2 H' p s2 w r => h.rt d μ' v I2 H' p (s.trans s2) (w.up l) r, fun e' μ' σ' I2 H' p s2 r w => h.bk e' μ' σ' I2 H' p (s.trans s2) r (w.up l),
    fun e' μ' σ' I2 H' p s2 r w => h.ct e' μ' σ' I2 H' p (s.trans s2) r (w.up l), fun d e' μ' cls dx σ' I2 H' p s2 r w er => h.xp d e' μ' cls dx σ' I2 H' p (s.trans s2) r (w.up l) er⟩
theorem EV.lessF {c : Ctx} {W : WX} {S : Option SA} {F F' : Hp} {n : Nat} {I : Hp} {E : WEnds} {K : Ends} (h : EV c W S F n I E K) (l : ∀ b o, F b = some o → F' b = some o) : EV c W S F' n I E K :=
  ⟨fun e' μ' σ' I2 H' p s2 r w => h.nx e' μ' σ' I2 H' p s2 r (w.less l), fun d μ' v I2 H' p s2 w r => h.rt d μ' v I2 H' p s2 (w.less l) r, fun e' μ' σ' I2 H' p s2 r w => h.bk e' μ' σ' I2 H' p s2 r (w.less l),
    fun e' μ' σ' I2 H' p s2 r w => h.ct e' μ' σ' I2 H' p s2 r (w.less l), fun d e' μ' cls dx σ' I2 H' p s2 r w er => h.xp d e' μ' cls dx σ' I2 H' p s2 r (w.less l) er⟩
/-- what errors of an expression come to -/
theorem EV.x {c : Ctx} {W : WX} {S : Option SA} {F : Hp} {n : Nat} {I : Hp} {E : WEnds} {K : Ends} {e : EnvD} {σ : L2.St} (h : EV c W S F n I E K) (he : EnvR c S I e σ) : XV c W S F n I σ fun d μ1 => E.xp d e μ1 := fun d μ' cls dx I' H' p s w er => h.xp d e μ' cls dx σ I' H' p s (he.mono s) w er
section
variable (c : Ctx) (W : WX) (k : Nat)
def ldS (w : WS) : TS := fun K σ H => ∃ S F n I μ e E, n + k ≤ LIM ∧ EnvR c S I e σ ∧ Wd c S F n I μ H ∧ w e μ E ∧ EV c W S F (n + k) I E K
/-- a target; js the slots that it stores -/
def ldG (js : List Nat) (g : WG) : TG := fun v σ H Q => ∃ S F n I μ e d Qd, EnvR c S I e σ ∧ Wd c S F n I μ H ∧ Rep c S I d v ∧ g d e Qd ∧ ∀ e' σ', Qd e' → EnvR c S I e' σ' → (∀ i, i ∉ js → σ'[i]? = σ[i]?) → σ'.length = σ.length → Q σ' H
def ldGs (js : List Nat) (g : WGs) : TGs := fun vs σ H Q => ∃ S F n I μ e ds Qd, EnvR c S I e σ ∧ Wd c S F n I μ H ∧ Reps c S I ds vs ∧ g ds e Qd ∧ ∀ e' σ', Qd e' → EnvR c S I e' σ' → (∀ i, i ∉ js → σ'[i]? = σ[i]?) → σ'.length = σ.length → Q σ' H
def SubF (F F' : Hp) : Prop := ∀ b o, F b = some o → F' b = some o
def ItD (S : Option SA) (F0 : Hp) (J : It) (I1 : Hp) (s : Src) : Prop := ∀ F i n I μ H, SubF F0 F → Same I1 I → Wd c S F n I μ H → s.ok μ →
  (∀ d, s.xs[i]? = some d → J.go i H ∧ ∀ v H', J.yld i H v H' → ∃ I', Same I I' ∧ Wd c S F n I' μ H' ∧ Rep c S I' d v) ∧ (s.xs[i]? = Option.none → J.stop i H)
def ldI (w : WI) : TI := fun σ H R => ∃ S F n I μ e Qd Xd, n + k ≤ LIM ∧ EnvR c S I e σ ∧ Wd c S F n I μ H ∧ w e μ Qd Xd ∧ (∀ s μ' J I' H' F', SubF F F' → Qd s μ' → Same I I' → Wd c S F' (n + k) I' μ' H' → ItD c S F' J I' s → R J H') ∧ XV c W S F (n + k) I σ Xd
end
section
variable (X : Cx) (c : Ctx) (W : WX) (k : Nat)
abbrev GS (s : Stmt) (w : WS) : Prop := PS X s (ldS c W k w)
abbrev GSs (s : List Stmt) (w : WS) : Prop := PSs X s (ldS c W k w)
abbrev GG (js : List Nat) (t : Expr) (g : WG) : Prop := PG X t (ldG c js g)
abbrev GGs (js : List Nat) (t : List Expr) (g : WGs) : Prop := PGs X t (ldGs c js g)
abbrev GI (tg it : Expr) (w : WI) : Prop := PI X tg it (ldI c W k w)
end
theorem _root_.L2.PS.imp {X : Cx} {s : Stmt} {t t' : TS} (h : PS X s t) (i : ∀ D σ H, t' D σ H → t D σ H) : PS X s t' := ⟨fun pins s σ H D J z => h.run pins s σ H D J (i D σ H z)⟩
theorem _root_.L2.PSs.imp {X : Cx} {s : List Stmt} {t t' : TS} (h : PSs X s t) (i : ∀ D σ H, t' D σ H → t D σ H) : PSs X s t' := ⟨fun pins s σ H D J z => h.run pins s σ H D J (i D σ H z)⟩
theorem _root_.L2.PG.imp {X : Cx} {s : Expr} {t t' : TG} (h : PG X s t) (i : ∀ v σ H Q, t' v σ H Q → t v σ H Q) : PG X s t' := ⟨fun pins s σ H v u Q J r z => h.run pins s σ H v u Q J r (i v σ H Q z)⟩
theorem _root_.L2.PGs.imp {X : Cx} {s : List Expr} {t t' : TGs} (h : PGs X s t) (i : ∀ v σ H Q, t' v σ H Q → t v σ H Q) : PGs X s t' := ⟨fun pins s σ H v u Q J r z => h.run pins s σ H v u Q J r (i v σ H Q z)⟩
theorem _root_.L2.PI.imp {X : Cx} {tg s : Expr} {t t' : TI} (h : PI X tg s t) (i : ∀ σ H Q, t' σ H Q → t σ H Q) : PI X tg s t' := ⟨fun pins s σ H R J z => h.run pins s σ H R J (i σ H R z)⟩
section
variable {X : Cx} {c : Ctx} {W : WX} {k ka kb kc ko : Nat} {a b d tg it : Expr} {wa wb wo wi' : WE} {m : Bool} {pos pos' : Pos} {es : List Expr} {wr : WA} {wt wu : WT} {s : Stmt} {ss ss2 : List Stmt} {w1 w2 : WS} {i j : Nat} {x y : Str} {js js2 : List Nat} {g : WG} {gs : WGs} {wi : WI}
theorem gs_nil : GSs X c W 0 [] wNext := L2.PSs.imp pss_nil fun K σ H h => by
  obtain ⟨S, F, n, I, μ, e, E, hl, he, hw, h, q⟩ := h
  exact q.nx e μ σ I H h (Same.refl I) he hw
theorem ldS_seq {K : Ends} {σ : L2.St} {H : Hp} (h : ldS c W (ka + kb) (wSeq w1 w2) K σ H) : tSeq (ldS c W ka w1) (ldS c W kb w2) K σ H := by
  obtain ⟨S, F, n, I, μ, e, E, hl, he, hw, h, q⟩ := h
  refine ⟨S, F, n, I, μ, e, _, by omega, he, hw, h, ?_⟩
  have q1 := q.mono (n' := n + ka) (by omega) (Same.refl I)
  exact ⟨fun e1 μ1 σ1 I1 H1 p1 s1 r1 u1 => ⟨S, F, n + ka, I1, μ1, e1, E, by omega, r1, u1, p1, q.mono (by omega) s1⟩, q1.rt, q1.bk, q1.ct, q1.xp⟩
theorem gs_cons (h1 : GS X c W ka s w1) (h2 : GSs X c W kb ss w2) : GSs X c W (ka + kb) (s :: ss) (wSeq w1 w2) := L2.PSs.imp (pss_cons h1 h2) fun K σ H h => ldS_seq h
theorem gs_one (h1 : GS X c W k s w1) : GSs X c W k [s] w1 := pss_one h1
theorem ldE_S {Q : VK} {σ : L2.St} {H : Hp} {E : WEnds} {K : Ends} {S : Option SA} {F : Hp} {n : Nat} {I : Hp} {μ : Mu} {e : EnvD} {Qd : QD} (hl : n + k ≤ LIM) (he : EnvR c S I e σ) (hw : Wd c S F n I μ H) (q : EV c W S F (n + k) I E K) (h : wa e μ Qd fun d μ1 => E.xp d e μ1)
    (hq : QV c S F (n + k) I Qd Q) : ldE c W k wa σ H Q := ⟨S, F, n, I, μ, e, Qd, _, hl, he, hw, h, hq, q.x he⟩
theorem g_ret (ha : GE X c W k a wa) : GS X c W k (.Return (some a) pos) (wRet wa) := L2.PS.imp (ps_ret ha) fun K σ H h => by
  obtain ⟨S, F, n, I, μ, e, E, hl, he, hw, h, q⟩ := h
  exact ldE_S hl he hw q h fun d μ1 v I1 H1 p s1 u1 r1 => q.rt d μ1 v I1 H1 p s1 u1 r1
theorem g_drop (ha : GE X c W k a wa) (hs : swapsWith a none pos.line X.env = pure false := by rfl) : GS X c W k (.Expr a pos) (wDrop wa) := L2.PS.imp (ps_expr ha hs) fun K σ H h => by
  obtain ⟨S, F, n, I, μ, e, E, hl, he, hw, h, q⟩ := h
  exact ldE_S hl he hw q h fun d μ1 v I1 H1 p s1 u1 r1 => q.nx e μ1 σ I1 H1 p s1 (he.mono s1) u1
theorem g_ifS {bb b2 : List Stmt} (hc : GT X c W kc d wt) (ha : GSs X c W ka bb w1) (hb : GSs X c W kb b2 w2) : GS X c W (kc + (ka + kb)) (.If d bb b2 pos) (wIfS wt w1 w2) := L2.PS.imp (ps_if hc ha hb) fun K σ H h => by
  obtain ⟨S, F, n, I, μ, e, E, hl, he, hw, h, q⟩ := h
  refine ⟨S, F, n, I, μ, e, _, _, by omega, he, hw, h, fun b μ1 I1 H1 pb s1 u1 => ?_, (q.x he).mono (by omega) (Same.refl I)⟩
  exact ite_b pb (fun _ h => ⟨S, F, n + kc, I1, μ1, e, E, by omega, he.mono s1, u1, h, q.mono (by omega) s1⟩) fun _ h => ⟨S, F, n + kc, I1, μ1, e, E, by omega, he.mono s1, u1, h, q.mono (by omega) s1⟩
theorem ld_asg {K : Ends} {σ : L2.St} {H : Hp} (h : ldS c W k (wAsg i wa) K σ H) : tAsg (ldE c W k wa) (gName i) K σ H := by
  obtain ⟨S, F, n, I, μ, e, E, hl, he, hw, h, q⟩ := h
  exact ldE_S hl he hw q h fun d μ1 v I1 H1 p s1 u1 r1 => q.nx _ μ1 _ I1 H1 p s1 ((he.mono s1).put r1 i) u1
theorem g_set (hN : X.N.Nodup) (hi : X.N[i]? = some x) (hx : Loc X.env.scope x) (he : GE X c W k a wa) (hs : swapsWith a (some (.Name x pos')) pos.line X.env = pure false := by rfl) (hf : X.fn x = true ∨ X.env.scope.names.lookup x = some .local := by first | exact .inl rfl | exact .inr rfl | assumption) :
    GS X c W k (.Assign [.Name x pos'] a pos) (wAsg i wa) := L2.PS.imp (ps_set hN hi hx he hs hf) fun K σ H h => ld_asg h
theorem g_asg (he : GE X c W k a wa) (hg : GG X c js tg g) (hs : swapsWithSole [tg] a pos.line X.env = pure false := by rfl) (hw : swappedStores [tg] a X.env = pure none := by rfl)
    (h1 : (assignEach [tg] X.env).map (·.2) = [assign tg X.env] := by rfl) : GS X c W k (.Assign [tg] a pos) (wAsgG g wa) := L2.PS.imp (ps_asg he hg hs hw h1) fun K σ H h => by
  obtain ⟨S, F, n, I, μ, e, E, hl, he, hw, h, q⟩ := h
  refine ldE_S hl he hw q h fun d μ1 v I1 H1 p s1 u1 r1 => ?_
  exact ⟨S, F, _, I1, μ1, e, d, _, he.mono s1, u1, r1, p, fun e' σ' p' r' _ _ => q.nx e' μ1 σ' I1 H1 p' s1 r' u1⟩
theorem g_parN {hp : PS X s (tPar i j (ldA c W k wr))} : GS X c W k s (wPar i j wr) := L2.PS.imp hp fun K σ H h => by
  obtain ⟨S, F, n, I, μ, e, E, hl, he, hw, h, q⟩ := h
  refine ⟨S, F, n, I, μ, e, _, _, hl, he, hw, h, fun ds μ1 vs I1 H1 p s1 u1 r1 => ?_, q.x he⟩
  cases r1 with
  | nil => exact False.elim p
  | cons r1 r2 =>
    cases r2 with
    | nil => exact False.elim p
    | cons r2 r3 =>
      cases r3 with
      | nil => exact ⟨_, _, rfl, q.nx _ μ1 _ I1 H1 p s1 (((he.mono s1).put r1 i).put r2 j) u1⟩
      | cons => exact False.elim p
theorem g_aug {op : Operator} {f : Int → Int → Int} (hN : X.N.Nodup) (hi : X.N[i]? = some x) (hx : Loc X.env.scope x) (he : GE X c W k a wa) (ho : PIp X op (ipI f)) (hf : X.fn x = true ∨ X.env.scope.names.lookup x = some .local := by first | exact .inl rfl | exact .inr rfl | assumption) :
    GS X c W k (.AugAssign (.Name x pos') op a pos) (wAug i f wa) := L2.PS.imp (ps_aug hN hi hx he ho hf) fun K σ H h => by
  obtain ⟨S, F, n, I, μ, e, E, hl, he, hw, h, q⟩ := h
  unfold wAug at h
  split at h
  · rename_i z hz
    obtain ⟨v, h1, h2⟩ := he.get hz
    cases h2
    refine ⟨_, h1, ldE_S hl he hw q h fun d μ1 v I1 H1 p s1 u1 r1 => ?_⟩
    cases r1 <;> first | exact False.elim p | exact ⟨_, _, rfl, rfl, q.nx _ μ1 _ I1 H1 p s1 ((he.mono s1).put .int i) u1⟩
  · exact h.elim
theorem g_setL (hv : GE X c W ka a wa) (ho : GE X c W kb b wo) (hi : GE X c W kc d wi') (hs : swapsWithSole [.Subscript b d pos'] a pos.line X.env = pure false := by rfl) (hw : swappedStores [.Subscript b d pos'] a X.env = pure none := by rfl)
    (h1 : (assignEach [.Subscript b d pos'] X.env).map (·.2) = [assign (.Subscript b d pos') X.env] := by rfl)
    (ha : ∀ v, assign (.Subscript b d pos') X.env v = (do
      let ov ← holding [v] (eval b X.env)
      let iv ← holding [v, ov] (eval d X.env)
      standAt pos'
      holding [v, ov, iv] (setItem ov iv v)
      release [v, ov, iv] []) := by intro _; rfl) : GS X c W (ka + (kb + kc)) (.Assign [.Subscript b d pos'] a pos) (wSetL wa wo wi') := L2.PS.imp (ps_asg hv (pg_sub ho hi set_list ha) hs hw h1) fun K σ H h => by
  obtain ⟨S, F, n, I, μ, e, E, hl, he, hw, h, q⟩ := h
  refine ⟨S, F, n, I, μ, e, _, _, by omega, he, hw, h, fun d μ1 v I1 H1 p s1 u1 r1 => ?_, (q.x he).mono (by omega) (Same.refl I)⟩
  refine ⟨S, F, n + ka, I1, μ1, e, _, _, by omega, he.mono s1, u1, p, fun d2 μ2 v2 I2 H2 p2 s2 u2 r2 => ?_, (q.x he).mono (by omega) s1⟩
  refine ⟨S, F, n + ka + kb, I2, μ2, e, _, _, by omega, he.mono (s1.trans s2), u2, p2, fun d3 μ3 v3 I3 H3 p3 s3 u3 r3 => ?_, (q.x he).mono (by omega) (s1.trans s2)⟩
  dsimp only at p3
  split at p3
  · split at p3
    · rename_i ds e1
      split at p3
      · rename_i jj e2
        cases r2
        cases r3
        obtain ⟨xs, h5, h6⟩ := u3.cellL e1
        refine ⟨_, xs, _, jj, rfl, rfl, h5, by rw [← h6.length]; exact e2, ?_⟩
        refine q.nx e _ σ I3 _ p3 ((s1.trans s2).trans s3) (he.mono ((s1.trans s2).trans s3)) ?_
        exact (u3.put (ndL_some e1) (NdR.list (h6.set (r1.mono (s2.trans s3)) jj))).up (by omega)
      · exact p3.elim
    · exact p3.elim
  · exact p3.elim
/-! targets -/
theorem gg_name (hN : X.N.Nodup) (hi : X.N[i]? = some x) (hx : Loc X.env.scope x) (hf : X.fn x = true ∨ X.env.scope.names.lookup x = some .local := by first | exact .inl rfl | exact .inr rfl | assumption) : GG X c [i] (.Name x pos) (wgN i) := L2.PG.imp (pg_name hN hi hx hf) fun v σ H Q h => by
  obtain ⟨S, F, n, I, μ, e, d, Qd, he, hw, r, h, q⟩ := h
  exact q _ _ h (he.put r i) (fun j hj => List.getElem?_set_ne fun z => hj (by rw [z]; exact List.mem_cons_self)) List.length_set
theorem ggs_nil : GGs X c [] [] wgNil := L2.PGs.imp pgs_nil fun vs σ H Q h => by
  obtain ⟨S, F, n, I, μ, e, ds, Qd, he, hw, r, h, q⟩ := h
  cases r with
  | nil => exact ⟨rfl, q e σ h he (fun _ _ => rfl) rfl⟩
  | cons => exact False.elim h
theorem ggs_cons (h1 : GG X c js a g) (h2 : GGs X c js2 es gs) (hs : (assignEach (a :: es) X.env).map (·.2) = assign a X.env :: (assignEach es X.env).map (·.2) := by rfl) : GGs X c (js ++ js2) (a :: es) (wgCons g gs) := L2.PGs.imp (pgs_cons h1 h2 hs) fun vs σ H Q h => by
  obtain ⟨S, F, n, I, μ, e, ds, Qd, he, hw, r, h, q⟩ := h
  cases r with
  | nil => exact False.elim h
  | cons r1 r2 =>
    refine ⟨_, _, rfl, S, F, n, I, μ, e, _, _, he, hw, r1, h, fun e1 σ1 p1 he1 k1 l1 => ?_⟩
    refine ⟨S, F, n, I, μ, e1, _, _, he1, hw, r2, p1, fun e2 σ2 p2 he2 k2 l2 => ?_⟩
    exact q e2 σ2 p2 he2 (fun i hi => (k2 i fun z => hi (List.mem_append_right _ z)).trans (k1 i fun z => hi (List.mem_append_left _ z))) (l2.trans l1)
theorem gg_tup {kk n : Nat} (h : GGs X c js es gs) (hc : X.calm = true := by rfl) (hn : (assignEach es X.env).length = n := by rfl) (hst : (assignEach es X.env).findIdx? (·.1) = none := by rfl) (hK : X.K = c.K := by rfl) : GG X c js (.Tuple es kk pos) (wgTup n gs) := by
  obtain ⟨K, cl, tb, ns, es0⟩ := c
  cases hK
  refine L2.PG.imp (pg_tup hc h hn hst) fun v σ H Q h => ?_
  obtain ⟨S, F, m, I, μ, e, d, Qd, he, hw, r, h, q⟩ := h
  cases r <;> try exact False.elim h
  rename_i a ds xs g r
  exact ⟨_, _, rfl, hw.tupH g, by rw [← r.length]; exact h.1, S, F, m, I, μ, e, ds, Qd, he, hw, r, h.2, q⟩
/-! what is walked -/
def iSeq (K : PySem.W.Frag) (tl : TE) : TI := fun σ H R => tl σ H fun x H1 => ∃ a xs, x = .ref a ∧ ((SqL K H1 a xs ∧ R (Itl K a) H1) ∨ (SqT K H1 a xs ∧ R (Itt K a) H1))
theorem pi_seq {tl : TE} (hl : PE X a tl) : PI X tg a (iSeq X.K tl) := by
  refine ⟨fun pins s σ H R I h => ?_⟩
  refine thn (hl.run pins s σ H _ I h) fun v s1 ⟨x, H1, I1, r1, q1⟩ => ?_
  obtain ⟨a, xs, e, q1⟩ := q1
  subst e
  cases r1
  rcases q1 with ⟨hq, q⟩ | ⟨hq, q⟩
  · obtain ⟨its, rv, p, hz⟩ := I1.list hq
    refine wpAny_pyIter_list p.isList ?_
    refine ⟨s1.heap.objs.size, [s1.heap.objs.size], _, _, H1, rfl, I1.kept (t' := s1.toks) fun b o e => Heap.get?_push_of_some _ e, turn_list a _, ⟨_, Heap.get?_push_size _ rfl, rfl, rfl⟩, fun b hb => ?_, q⟩
    have e : b = s1.heap.objs.size := by simpa using hb
    subst e
    exact I1.fpOk (Nat.le_refl _) (I1.hok.fresh (Nat.le_refl _))
  · obtain ⟨its, rv, p, hz⟩ := I1.tuple hq
    refine wpAny_pyIter_tuple (show s1.heap.IsTuple a its.toArray from p) ?_
    refine ⟨s1.heap.objs.size, [s1.heap.objs.size], _, _, H1, rfl, I1.kept (t' := s1.toks) fun b o e => Heap.get?_push_of_some _ e, turn_tuple a _, ⟨_, Heap.get?_push_size _ rfl, rfl, rfl⟩, fun b hb => ?_, q⟩
    have e : b = s1.heap.objs.size := by simpa using hb
    subst e
    exact I1.fpOk (Nat.le_refl _) (I1.hok.fresh (Nat.le_refl _))
theorem itd_list {S : Option SA} {F0 I1 : Hp} {a : Addr} {ds : List D} {ok : Mu → Prop} (h : ∀ F n I μ H, Same I1 I → Wd c S F n I μ H → ok μ → ∃ xs, SqL c.K H a xs ∧ Reps c S I ds xs) : ItD c S F0 (Itl c.K a) I1 ⟨ds, ok⟩ := fun F i n I μ H _ s w o => by
  obtain ⟨xs, hq, r⟩ := h F n I μ H s w o
  refine ⟨fun d hd => ?_, fun hd => ?_⟩
  · obtain ⟨x, hx, rx⟩ := r.get hd
    refine ⟨⟨xs, x, hq, hx⟩, fun v H' ⟨e1, y⟩ => ⟨I, Same.refl I, by rw [e1]; exact w, ?_⟩⟩
    have e2 := y xs hq
    rw [hx] at e2
    rw [← Option.some.inj e2]
    exact rx
  · refine ⟨xs, hq, ?_⟩
    rw [← r.length]
    exact List.getElem?_eq_none_iff.mp hd
theorem itd_tup {S : Option SA} {F0 I1 : Hp} {a : Addr} {ds : List D} {ok : Mu → Prop} (h : ∀ F n I μ H, Same I1 I → Wd c S F n I μ H → ok μ → ∃ xs, SqT c.K H a xs ∧ Reps c S I ds xs) : ItD c S F0 (Itt c.K a) I1 ⟨ds, ok⟩ := fun F i n I μ H _ s w o => by
  obtain ⟨xs, hq, r⟩ := h F n I μ H s w o
  refine ⟨fun d hd => ?_, fun hd => ?_⟩
  · obtain ⟨x, hx, rx⟩ := r.get hd
    refine ⟨⟨xs, x, hq, hx⟩, fun v H' ⟨e1, y⟩ => ⟨I, Same.refl I, by rw [e1]; exact w, ?_⟩⟩
    have e2 := y xs hq
    rw [hx] at e2
    rw [← Option.some.inj e2]
    exact rx
  · refine ⟨xs, hq, ?_⟩
    rw [← r.length]
    exact List.getElem?_eq_none_iff.mp hd
/-- a list or a tuple, as it is walked -/
theorem itd_sq {S : Option SA} {F F0 : Hp} {n : Nat} {I H : Hp} {μ : Mu} {d : D} {v : V} {ds : List D} (w : Wd c S F n I μ H) (r : Rep c S I d v) (e : sqD μ d = some ds) : ∃ a xs, v = .ref a ∧ ((SqL c.K H a xs ∧ ItD c S F0 (Itl c.K a) I ⟨ds, okS d ds⟩) ∨ (SqT c.K H a xs ∧ ItD c S F0 (Itt c.K a) I ⟨ds, okS d ds⟩)) := by
  cases r with
  | list g r =>
    cases e
    exact ⟨_, _, rfl, .inl ⟨SqL.of (w.lst g), itd_list fun F n I2 μ2 H2 s2 w2 _ => ⟨_, SqL.of (w2.lst (s2 _ _ g)), r.mono s2⟩⟩⟩
  | tup g r =>
    cases e
    exact ⟨_, _, rfl, .inr ⟨w.tupH g, itd_tup fun F n I2 μ2 H2 s2 w2 _ => ⟨_, w2.tupH (Same.tup s2 g), r.mono s2⟩⟩⟩
  | script g =>
    cases e
    exact ⟨_, _, rfl, .inl ⟨w.seqH g, itd_list fun F n I2 μ2 H2 s2 w2 _ => ⟨_, w2.seqH (s2.seq g), Reps.of_ints⟩⟩⟩
  | cell =>
    obtain ⟨xs, h1, h2⟩ := w.cellL e
    refine ⟨_, _, rfl, .inl ⟨SqL.of h1, itd_list fun F n I2 μ2 H2 s2 w2 o => ?_⟩⟩
    obtain ⟨ys, h3, h4⟩ := w2.cellL o
    exact ⟨ys, SqL.of h3, h4⟩
  | _ => cases e
theorem gi_seq (ha : GE X c W k a wa) (hK : X.K = c.K := by rfl) : GI X c W k tg a (wiSeq wa) := by
  obtain ⟨K, cl, tb, ns, es0⟩ := c
  cases hK
  refine L2.PI.imp (pi_seq ha) fun σ H R h => ?_
  obtain ⟨S, F, n, I, μ, e, Qd, Xd, hl, he, hw, h, q, x⟩ := h
  refine ⟨S, F, n, I, μ, e, _, Xd, hl, he, hw, h, fun d μ1 v I1 H1 p s1 u1 r1 => ?_, x⟩
  dsimp only at p
  split at p
  · rename_i ds e1
    obtain ⟨a, xs, rfl, h1⟩ := itd_sq (F0 := F) u1 r1 e1
    refine ⟨a, xs, rfl, ?_⟩
    rcases h1 with ⟨h1, h2⟩ | ⟨h1, h2⟩
    · exact .inl ⟨h1, q _ μ1 _ I1 H1 F (fun _ _ z => z) p s1 u1 h2⟩
    · exact .inr ⟨h1, q _ μ1 _ I1 H1 F (fun _ _ z => z) p s1 u1 h2⟩
  · exact p.elim
theorem rangeD_get (lo : Int) (n i : Nat) : (rangeD lo n)[i]? = if i < n then some (.int (lo + (i : Int))) else Option.none := by
  unfold rangeD
  rw [List.getElem?_map]
  by_cases h : i < n
  · rw [List.getElem?_range h, if_pos h]
    rfl
  · rw [List.getElem?_eq_none (by rw [List.length_range]; omega), if_neg h]
    rfl
theorem rangeD_len (lo : Int) (n : Nat) : (rangeD lo n).length = n := by
  unfold rangeD
  rw [List.length_map, List.length_range]
theorem itr_d {S : Option SA} {F0 I : Hp} {ok : Mu → Prop} (lo : Int) (n : Nat) : ItD c S F0 (Itr lo n) I ⟨rangeD lo n, ok⟩ := fun F i m I2 O2 H2 _ s2 w2 o => by
  show (∀ d, (rangeD lo n)[i]? = some d → _) ∧ ((rangeD lo n)[i]? = _ → _)
  rw [rangeD_get]
  by_cases h : i < n
  · rw [if_pos h]
    refine ⟨fun d hd => ⟨h, fun v H' ⟨e1, e2⟩ => ⟨I2, Same.refl I2, by rw [e1]; exact w2, ?_⟩⟩, fun hd => by cases hd⟩
    rw [← Option.some.inj hd, e2]
    exact .int
  · rw [if_neg h]
    refine ⟨fun d hd => (by cases hd), fun _ => ?_⟩
    show n ≤ i
    omega
theorem gi_rng1 {p : Pos} (hg : Gl X "range") (hm : X.mg "range" = none) (ha : GA X c W k [a] wr) (hs : starEach [a] X.env = [(false, eval a X.env)] := by rfl) : GI X c W k tg (.Call (.Name "range" p) [a] [] pos) (wiRng1 wr) := L2.PI.imp (pi_range1 hg hm ha hs) fun σ H R h => by
  obtain ⟨S, F, n, I, μ, e, Qd, Xd, hl, he, hw, h, q, x⟩ := h
  refine ⟨S, F, n, I, μ, e, _, Xd, hl, he, hw, h, fun ds μ1 vs I1 H1 p s1 u1 r1 => ?_, x⟩
  obtain ⟨z, rfl, p⟩ := one_cases p
  obtain ⟨j, rfl, p⟩ := int1_cases p
  obtain ⟨v, rfl, rv⟩ := reps1 r1
  cases rv
  exact ⟨j, rfl, p.1.1, p.1.2, q _ μ1 _ I1 H1 F (fun _ _ z => z) p.2 s1 u1 (itr_d 0 _)⟩
/-! loops -/
theorem g_for {body : List Stmt} {kk : Nat} (hp : PassesOwn (model X.prog X.w) X.A X.env X.xe) (hi : GI X c W ka tg it wi) (hg : GG X c js tg g) (hb : GSs X c W kk body w1) (hc : X.calm = true := by rfl) (hs : ∀ x, foldedSetIterable it X.env x = pure x := by intro _; rfl) :
    GS X c W (ka + 2 ^ 63 * kk) (.For tg it body [] pos) (wFor wi g w1) := L2.PS.imp (ps_for hp hc hi hg hb hs) fun K σ H h => by
  obtain ⟨S, F, n, I, μ, e, E, hl, he, hw, h, q⟩ := h
  refine ⟨S, F, n, I, μ, e, _, _, by omega, he, hw, h, fun sr μ1 J I1 H1 F' sf p s1 u1 it1 => ?_, (q.x he).mono (by omega) (Same.refl I)⟩
  obtain ⟨hlen, p⟩ := p
  have hk : sr.xs.length * kk ≤ 2 ^ 63 * kk := Nat.mul_le_mul_right kk hlen
  refine ⟨fun i r σ' H' => r = sr.xs.length - i ∧ i ≤ sr.xs.length ∧ ∃ e' μ' I', Same I1 I' ∧ EnvR c S I' e' σ' ∧ Wd c S F' (n + ka + i * kk) I' μ' H' ∧ goFor sr.ok g w1 (sr.xs.drop i) e' μ' E,
    ⟨sr.xs.length, by omega, Nat.zero_le _, e, μ1, I1, Same.refl I1, he.mono s1, by rw [Nat.zero_mul, Nat.add_zero]; exact u1, p⟩, ?_⟩
  rintro i r σ2 H2 ⟨rfl, hi, e2, μ2, I2, s2, r2, u2, p2⟩
  by_cases hlt : i < sr.xs.length
  · have hx1 : sr.xs[i]? = some sr.xs[i] := List.getElem?_eq_getElem hlt
    rw [List.drop_eq_getElem_cons hlt] at p2
    obtain ⟨ok2, p2⟩ := p2
    obtain ⟨hgo, hy⟩ := (it1 F' i _ I2 μ2 H2 (fun _ _ z => z) s2 u2 ok2).1 _ hx1
    refine .inr ⟨hgo, fun σ' H' => ∃ e' μ' I', Same I1 I' ∧ EnvR c S I' e' σ' ∧ Wd c S F' (n + ka + (i + 1) * kk) I' μ' H' ∧ goFor sr.ok g w1 (sr.xs.drop (i + 1)) e' μ' E, fun σ' H' z => ⟨sr.xs.length - (i + 1), by omega, rfl, hlt, z⟩, fun x H3 yl => ?_⟩
    obtain ⟨I3, s3, u3, r3⟩ := hy x H3 yl
    have hmul : (i + 1) * kk = i * kk + kk := by rw [Nat.add_mul, Nat.one_mul]
    have hle : (i + 1) * kk ≤ sr.xs.length * kk := Nat.mul_le_mul_right kk hlt
    refine ⟨S, F', _, I3, μ2, e2, _, _, r2.mono s3, u3, r3, p2, fun e4 σ4 p4 r4 _ _ => ?_⟩
    refine ⟨S, F', n + ka + i * kk, I3, μ2, e4, _, by omega, r4, u3, p4, ?_⟩
    have q3 := (q.lessF sf).mono (n' := n + ka + i * kk + kk) (by omega) ((s1.trans s2).trans s3)
    refine ⟨fun e5 μ5 σ5 I5 H5 p5 s5 r5 u5 => ⟨e5, μ5, I5, (s2.trans s3).trans s5, r5, u5.up (by omega), p5⟩, q3.rt, q3.nx, fun e5 μ5 σ5 I5 H5 p5 s5 r5 u5 => ⟨e5, μ5, I5, (s2.trans s3).trans s5, r5, u5.up (by omega), p5⟩, q3.xp⟩
  · have e0 : i = sr.xs.length := by omega
    subst e0
    rw [List.drop_length] at p2
    obtain ⟨ok2, p2⟩ := p2
    exact .inl ⟨(it1 F' _ _ I2 μ2 H2 (fun _ _ z => z) s2 u2 ok2).2 (List.getElem?_eq_none_iff.mpr (Nat.le_refl _)), (q.lessF sf).nx e2 μ2 σ2 I2 H2 p2 (s1.trans s2) r2 (u2.up (by omega))⟩
theorem g_while {body : List Stmt} {kt kk : Nat} (hp : PassesOwn (model X.prog X.w) X.A X.env X.xe) (ht : GT X c W kt a wt) (hb : GSs X c W kk body w1) : GS X c W (2 ^ 63 * (kt + kk)) (.While a body [] pos) (wWhile wt w1) := L2.PS.imp (ps_while hp ht hb) fun K σ H h => by
  obtain ⟨S, F, n, I, μ, e, E, hl, he, hw, ⟨N, hN, h⟩, q⟩ := h
  have hk : N * (kt + kk) ≤ 2 ^ 63 * (kt + kk) := Nat.mul_le_mul_right _ hN
  refine ⟨fun r σ' H' => r ≤ N ∧ ∃ e' μ' I', Same I I' ∧ EnvR c S I' e' σ' ∧ Wd c S F (n + (N - r) * (kt + kk)) I' μ' H' ∧ goWhile wt w1 r e' μ' E, ⟨N, Nat.le_refl _, e, μ, I, Same.refl I, he, by rw [Nat.sub_self, Nat.zero_mul, Nat.add_zero]; exact hw, h⟩, ?_⟩
  rintro r σ2 H2 ⟨hr, e2, μ2, I2, s2, r2, u2, p2⟩
  cases r with
  | zero => exact p2.elim
  | succ r =>
    have hmul : (N - r) * (kt + kk) = (N - (r + 1)) * (kt + kk) + (kt + kk) := by rw [show N - r = N - (r + 1) + 1 by omega, Nat.add_mul, Nat.one_mul]
    have hle : (N - r) * (kt + kk) ≤ N * (kt + kk) := Nat.mul_le_mul_right _ (by omega)
    refine ⟨S, F, n + (N - (r + 1)) * (kt + kk), I2, μ2, e2, _, _, by omega, r2, u2, p2, fun b μ3 I3 H3 p3 s3 u3 => ?_, ((q.mono (n' := n + 2 ^ 63 * (kt + kk)) (Nat.le_refl _) s2).x r2).mono (by omega) (Same.refl I2)⟩
    refine ite_b p3 (fun _ p4 => ⟨fun σ' H' => ∃ e' μ' I', Same I I' ∧ EnvR c S I' e' σ' ∧ Wd c S F (n + (N - r) * (kt + kk)) I' μ' H' ∧ goWhile wt w1 r e' μ' E, fun σ' H' z => ⟨r, Nat.lt_succ_self r, by omega, z⟩, ?_⟩) fun _ p4 => q.nx e2 μ3 σ2 I3 H3 p4 (s2.trans s3) (r2.mono s3) (u3.up (by omega))
    refine ⟨S, F, n + (N - (r + 1)) * (kt + kk) + kt, I3, μ3, e2, _, by omega, r2.mono s3, u3, p4, ?_⟩
    have q3 := q.mono (n' := n + (N - (r + 1)) * (kt + kk) + kt + kk) (by omega) (s2.trans s3)
    exact ⟨fun e5 μ5 σ5 I5 H5 p5 s5 r5 u5 => ⟨e5, μ5, I5, (s2.trans s3).trans s5, r5, u5.up (by omega), p5⟩, q3.rt, q3.nx, fun e5 μ5 σ5 I5 H5 p5 s5 r5 u5 => ⟨e5, μ5, I5, (s2.trans s3).trans s5, r5, u5.up (by omega), p5⟩, q3.xp⟩
end
/-! ### comprehensions -/
theorem wipe_eq {σ σ' : L2.St} (hl : σ'.length = σ.length) : ∀ {vs : List Nat}, (∀ i, i ∉ vs → σ'[i]? = σ[i]?) → wipe σ' vs = wipe σ vs := by
  intro vs h
  have key : ∀ (vs : List Nat) (σ : L2.St) (i : Nat), (wipe σ vs)[i]? = if i ∈ vs then (if i < σ.length then some Option.none else Option.none) else σ[i]? := by
    intro vs
    induction vs with
    | nil =>
      intro σ i
      rw [if_neg (by simp)]
      rfl
    | cons a vs ih =>
      intro σ i
      show ((wipe σ vs).set a Option.none)[i]? = _
      by_cases hi : a = i
      · subst hi
        rw [if_pos List.mem_cons_self]
        by_cases hv : a < σ.length
        · rw [if_pos hv, List.getElem?_set_self (by rw [wipe_length]; exact hv)]
        · rw [if_neg hv, List.getElem?_eq_none (by rw [List.length_set, wipe_length]; omega)]
      · rw [List.getElem?_set_ne hi, ih]
        by_cases hm : i ∈ vs
        · rw [if_pos hm, if_pos (List.mem_cons_of_mem _ hm)]
        · rw [if_neg hm, if_neg (by
            intro z
            rcases List.mem_cons.mp z with z | z
            · exact hi z.symm
            · exact hm z)]
  refine List.ext_getElem? fun i => ?_
  rw [key, key, hl]
  by_cases hm : i ∈ vs
  · rw [if_pos hm, if_pos hm]
  · rw [if_neg hm, if_neg hm]
    exact h i hm
theorem wipe_get {σ : L2.St} {vs : List Nat} {i : Nat} (h : i ∉ vs) : (wipe σ vs)[i]? = σ[i]? := by
  induction vs with
  | nil => rfl
  | cons a vs ih =>
    show ((wipe σ vs).set a Option.none)[i]? = _
    rw [List.getElem?_set_ne (fun z => h (by rw [z]; exact List.mem_cons_self)), ih fun z => h (List.mem_cons_of_mem _ z)]
abbrev W0 : WX := fun _ _ _ _ => False
section
variable {X : Cx} {c : Ctx} {W : WX} {k ka kb kc kt kk : Nat} {m : Bool} {js : List Nat} {g : WG} {wi : WI} {wt : WT} {wa : WE} {vs : List Nat}
/-- one more thing is left alone -/
theorem Wd.leave {S : Option SA} {F : Hp} {n : Nat} {I H : Hp} {μ : Mu} {p : Addr} {o : HO} (w : Wd c S F n I μ H) (h : H p = some o) (hi : I p = none) (hm : μ p = none) (ho : notTX o) (hc : ∀ a, S = some a → ¬ Cell a p) : Wd c S (upd F p o) n I μ H := ⟨w.i, w.m, w.s, w.ni, fun b u e => by
  by_cases z : b = p
  · subst z
    rw [upd_same] at e
    cases e
    exact ⟨h, .inl ⟨hi, hm, ho, hc⟩⟩
  · rw [upd_ne z] at e
    exact w.f b u e, w.z⟩
/-- what is left alone changes -/
theorem Wd.turn {S : Option SA} {F : Hp} {n : Nat} {I H : Hp} {μ : Mu} {p : Addr} {o u : HO} (w : Wd c S (upd F p o) n I μ H) (hu : notTX u) (no : ∀ ob v, o ≠ .frz ob v := by intro _ _ z; cases z) : Wd c S (upd F p u) n I μ (upd H p u) := by
  obtain ⟨h1, h2, h3, h4, h5⟩ := w.f0 upd_same no
  refine ⟨fun b v e => ?_, fun b nd e => ?_, fun a e => ⟨?_, (w.s a e).2⟩, w.ni, fun b v e => ?_, w.z⟩
  · rw [upd_ne (ne_of_none e h2)]
    exact w.i b v e
  · obtain ⟨g1, v, g2, g3⟩ := w.m b nd e
    refine ⟨g1, v, g2, ?_⟩
    rw [upd_ne fun z => ?_]
    · exact g3
    · rw [z, h3] at e
      cases e
  · refine (w.s a e).1.keep (fun b q => upd_ne fun (z : b = p) => h5 a e (z ▸ q)) fun b φ z => ?_
    rw [upd_ne fun q => ?_]
    · exact z
    · rw [q, h1] at z
      cases z
      exact h4
  · by_cases z : b = p
    · subst z
      rw [upd_same] at e ⊢
      cases e
      exact ⟨rfl, .inl ⟨h2, h3, hu, h5⟩⟩
    · have e2 : upd F p o b = some v := by
        rw [upd_ne z] at e ⊢
        exact e
      rw [upd_ne z]
      exact w.f b v e2
theorem sub_new {F : Hp} {p : Addr} {o : HO} (h : F p = none) : SubF F (upd F p o) := fun b u e => by
  rw [upd_ne (ne_of_none e h)]
  exact e
theorem ld_lc {σ : L2.St} {H : Hp} {Q : VK} (hjs : ∀ i ∈ js, i ∈ vs) (h : ldE c W (ka + sizeLine * (kt + kk)) (wLc m wi g wt wa vs) σ H Q) : tLc (ldI c W ka wi) (ldG c js g) (ldT c W0 kt wt) (ldE c W0 kk wa) vs σ H Q := by
  obtain ⟨S, F, n, I, μ, e, Qd, Xd, hl, he, hw, h, q, x⟩ := h
  refine ⟨S, F, n, I, μ, e, _, Xd, by omega, he, hw, h, fun sr μ1 J I1 H1 F' sf p s1 u1 it1 Dl hD => ?_, x.mono (by omega) (Same.refl I)⟩
  obtain ⟨hlen, p⟩ := p
  have hk : sr.xs.length * (kt + kk) ≤ sizeLine * (kt + kk) := Nat.mul_le_mul_right _ hlen
  have fD := u1.fresh hD
  have nD := u1.no_cell hD
  have nF := u1.nf hD
  refine ⟨fun i r H' => r = sr.xs.length - i ∧ i ≤ sr.xs.length ∧ ∃ I' μ' acc ds, Same I1 I' ∧ Wd c S (upd F' Dl (.lst acc)) (n + ka + i * (kt + kk)) I' μ' H' ∧ Reps c S I' ds acc ∧ ds.length ≤ i ∧ goLc sr.ok g wt wa (wipeE e vs) (fun _ _ => False) (sr.xs.drop i) ds μ' fun ds μ2 => sett m Qd (.n (.list ds)) μ2,
    ⟨sr.xs.length, by omega, Nat.zero_le _, I1, μ1, [], [], Same.refl I1, by rw [Nat.zero_mul, Nat.add_zero]; exact (u1.frame hD).leave upd_same fD.1 fD.2 trivial nD, .nil, Nat.le_refl _, p⟩, ?_⟩
  rintro i r H2 ⟨rfl, hi, I2, μ2, acc, ds, s2, u2, r2, l2, p2⟩
  by_cases hlt : i < sr.xs.length
  · have hx1 : sr.xs[i]? = some sr.xs[i] := List.getElem?_eq_getElem hlt
    rw [List.drop_eq_getElem_cons hlt] at p2
    obtain ⟨ok2, p2⟩ := p2
    obtain ⟨hgo, hy⟩ := (it1 _ i _ I2 μ2 H2 (sub_new nF) s2 u2 ok2).1 _ hx1
    refine .inr ⟨hgo, fun H' => ∃ I' μ' acc ds, Same I1 I' ∧ Wd c S (upd F' Dl (.lst acc)) (n + ka + (i + 1) * (kt + kk)) I' μ' H' ∧ Reps c S I' ds acc ∧ ds.length ≤ i + 1 ∧ goLc sr.ok g wt wa (wipeE e vs) (fun _ _ => False) (sr.xs.drop (i + 1)) ds μ' fun ds μ2 => sett m Qd (.n (.list ds)) μ2, fun H' z => ⟨sr.xs.length - (i + 1), by omega, rfl, hlt, z⟩, fun v H3 yl => ?_⟩
    obtain ⟨I3, s3, u3, r3⟩ := hy v H3 yl
    have hmul : (i + 1) * (kt + kk) = i * (kt + kk) + (kt + kk) := by rw [Nat.add_mul, Nat.one_mul]
    have hle : (i + 1) * (kt + kk) ≤ sr.xs.length * (kt + kk) := Nat.mul_le_mul_right _ hlt
    have he3 := EnvR.wipe vs (he.mono ((s1.trans s2).trans s3))
    refine ⟨S, _, _, I3, μ2, wipeE e vs, _, _, he3, u3, r3, p2, fun e4 σ4 p4 r4 k4 l4 => ⟨?_, ?_⟩⟩
    · have e1 : wipe σ4 vs = wipe (wipe σ vs) vs := wipe_eq l4 fun j hj => k4 j fun z => hj (hjs j z)
      rw [e1]
      exact wipe_eq (wipe_length σ vs) fun j hj => wipe_get hj
    · refine ⟨S, _, n + ka + i * (kt + kk), I3, μ2, e4, _, _, by omega, r4, u3, p4, fun b μ5 I5 H5 p5 s5 u5 => ?_, fun d μ' cls dx I' H' z => z.elim⟩
      refine ite_b p5 (fun _ p6 => ?_) fun _ p6 => ⟨I5, μ5, acc, ds, (s2.trans s3).trans s5, u5.up (by omega), r2.mono (s3.trans s5), by omega, p6⟩
      refine ⟨S, _, n + ka + i * (kt + kk) + kt, I5, μ5, e4, _, _, by omega, r4.mono s5, u5, p6, fun d μ7 v7 I7 H7 p7 s7 u7 r7 => ?_, fun d μ' cls dx I' H' z => z.elim⟩
      have r8 := r2.mono ((s3.trans s5).trans s7)
      refine ⟨acc, (u7.f Dl _ upd_same).1, by rw [← r8.length]; omega, I7, μ7, acc ++ [v7], ds ++ [d], ((s2.trans s3).trans s5).trans s7, (u7.turn (u := .lst (acc ++ [v7])) trivial).up (by omega), r8.append (.cons r7 .nil), by rw [List.length_append]; show ds.length + 1 ≤ i + 1; omega, p7⟩
  · have e0 : i = sr.xs.length := by omega
    subst e0
    rw [List.drop_length] at p2
    obtain ⟨ok2, p2⟩ := p2
    refine .inl ⟨(it1 _ _ _ I2 μ2 H2 (sub_new nF) s2 u2 ok2).2 (List.getElem?_eq_none_iff.mpr (Nat.le_refl _)), ?_⟩
    obtain ⟨h1, h2, h3, h4, h5⟩ := u2.f0 (b := Dl) upd_same fun _ _ z => nomatch z
    refine (q.sett (m := m)) _ μ2 _ I2 H2 p2 (s1.trans s2) ((u2.less fun b o e => ?_).up (by omega)) ⟨Dl, _, rfl, h1, .list r2, h2, h3, h5, none_of fun o z => nomatch (sf _ _ z).symm.trans nF⟩
    rw [upd_ne (ne_of_none (sf _ _ e) nF)]
    exact sf _ _ e
theorem gt_yes {X' : Cx} : PTs X' [] (ldT c W0 0 wYes) := ⟨fun pins s σ H Q J h => pts_nil.run pins s σ H Q J (by
  obtain ⟨S, F, n, I, μ, e, Qd, Xd, hl, he, hw, h, q, x⟩ := h
  exact q true μ I H h (Same.refl I) hw)⟩
theorem g_lc {elt tg iter : Expr} {ifs : List Expr} {scope : Scope} {own : List (Str × Nat)} {pos : Pos} (hN : X.N.Nodup) (hi : GI X c W ka tg iter wi) (ok : BlkOk X.N X.env.scope scope own)
    (hg : ∀ (s : Shared) (H : Hp) (C : Addr) (cl : List (Str × Addr)) (fp : List Addr), GG (X.blk s H scope (compEnvC scope cl C X.env) fp) c js tg g) (ht : ∀ (s : Shared) (H : Hp) (C : Addr) (cl : List (Str × Addr)) (fp : List Addr), PTs (X.blk s H scope (compEnvC scope cl C X.env) fp) ifs (ldT c W0 kt wt))
    (he : ∀ (s : Shared) (H : Hp) (C : Addr) (cl : List (Str × Addr)) (fp : List Addr), GE (X.blk s H scope (compEnvC scope cl C X.env) fp) c W0 kk elt wa) (hjs : ∀ i ∈ js, i ∈ own.map (·.2) := by decide) (hc : X.calm = true := by rfl) (hs : ∀ x, foldedSetIterable iter X.env x = pure x := by intro _; rfl) :
    GE X c W (ka + sizeLine * (kt + kk)) (.ListComp elt [⟨tg, iter, ifs, 0⟩] scope pos) (wLc m wi g wt wa (own.map (·.2))) := L2.PE.imp (pe_lc hc hN hi ok hg ht he hs) fun σ H Q h => ld_lc hjs h
end
end DL

set_option Elab.async false
set_option linter.all false
set_option maxRecDepth 100000
set_option maxHeartbeats 4000000
/-! Y1: rules of the machine for operators of own classes; the head's facts. -/
namespace DL
open PySem PySem.Calls PyProof.Rows L2
section
variable {prog : Program} {w : World} {A : Around} {E : Value → Shared → Prop} {s : Shared} {K : PySem.W.Frag} {x y C f : Addr} {ox oy : Obj} {od od' : Option Obj}
open PySem.W in
theorem cmp_own {op : CmpOp} {b tb : Value} {Q : Value → Shared → Prop} (hu : A.units < cLine) (X : K.In s.heap) (I : InstAt s.heap x ox C od) (hb : Looks (model prog w) s.heap (typeOf b) tb) (hn : notFirst K C tb = true)
    (hs : findIn K (.ref C) (cmpInfo op).2.1 = some (some (.ref f))) (hf : isFn K (.ref f) = true)
    (h : wpAny (model prog w) A (call (.ref f) [.ref x, b]) (PySem.W.CmpBack Q) E s) : wpAny (model prog w) A (richCompare op (.ref x) b) Q E s := by
  have one : wpAny (model prog w) A (tryCompare (.ref x) (cmpInfo op).2.1 b) (fun r s' => ∃ v, r = some v ∧ Q v s') E s := by
    unfold tryCompare
    refine wpAny_bind (ifBound_K X I hs hf (wpAny_mono h (fun v s' hv => ?_) fun _ _ e => e))
    cases v <;> first | exact hv.elim | exact wpAny_pure ⟨_, rfl, hv⟩
  unfold richCompare
  simp only [oneThing_ref]
  refine wpAny_holding (wpAny_bind (wpAny_cRoomFor hu ?_))
  refine wpAny_bind (I.type.here (wpAny_bind (hb.here ?_)))
  split
  · rename_i q
    have e : subIn K tb (.ref C) = some false := by
      rcases Bool.or_eq_true_iff.mp hn with e | e
      · rw [beq_iff_eq.mp e] at q; simp at q
      · exact beq_iff_eq.mp e
    refine wpAny_bind ((looks_subIn X e).here ?_)
    simp only [Bool.false_eq_true, if_false]
    refine wpAny_bind (wpAny_mono one (fun r s' z => ?_) fun _ _ e => e)
    obtain ⟨v, rfl, hq⟩ := z
    exact wpAny_pure hq
  · refine wpAny_bind (wpAny_pure ?_)
    simp only [Bool.false_eq_true, if_false]
    refine wpAny_bind (wpAny_mono one (fun r s' z => ?_) fun _ _ e => e)
    obtain ⟨v, rfl, hq⟩ := z
    exact wpAny_pure hq
end
/-! ### over the layer -/
/-- what a class has a special method by -/
structure Spl (K : PySem.W.Frag) (C : Addr) (nm : Str) (f : Addr) : Prop where
  at_ : PySem.W.findIn K (.ref C) nm = some (some (.ref f))
  fn : PySem.W.isFn K (.ref f) = true
section
variable {prog : Program} {w : PySem.World} {A : Around} {E : Value → Shared → Prop} {s : Shared} {K : PySem.W.Frag} {x y C f : Addr} {ox oy : Obj} {od od' : Option Obj}
end
/-- what a class has its != by -/
structure NeOf (K : PySem.W.Frag) (C : Addr) : Prop where
  at_ : PySem.W.findIn K (.ref C) "__ne__" = some (some (.builtin "object.__ne__"))
  ob : PySem.W.mroIn K C (.type "object") = some true
end DL
namespace DL
open PySem PySem.Spec PyProof.Rows L2
/-- what the look for an instance's class asks of the class -/
structure IsiC (K : PySem.W.Frag) (C : Addr) : Prop where
  cl : Cls K C
  ha : PySem.W.findIn K (.ref C) "__class__" = some (some (.builtin "object.__class__"))
  hn : PySem.W.specialIn K (.builtin "object.__class__") "__get__" = some (some (.builtin "getset_descriptor.__get__"))
  htk : PySem.W.takesIn K (.builtin "object.__class__") = some true
  hm : PySem.W.mroIn K C (.type "object") = some true
/-! ### the head's facts: defs by their addresses, any Bools besides -/
structure DefX where
  at_ : PySem.W.Frag → Addr
  name : Str
  qual : Str
  params : Arguments
  body : List Stmt
  scope : Scope
  dfl : List He.Dv := []
def fnX (K : PySem.W.Frag) (a : Addr) : He.FnW := match K.lookup a with
  | some ⟨_, _, .func fd, _⟩ => some (fd.name, fd.qualname, fd.params, fd.body, fd.scope, fd.globals, fd.closure, fd.builtins)
  | _ => none
def DefX.val (d : DefX) : He.FnW := some (d.name, d.qual, d.params, .stmts d.body, d.scope, mainGlobals, [], builtinsNs)
def DefX.dvs (K : PySem.W.Frag) (d : DefX) : List V := d.dfl.map (He.Dv.v K)
def DefX.ok (K : PySem.W.Frag) (d : DefX) : Bool := PySem.W.keepIn K (.ref (d.at_ K)) && (match K.lookup (d.at_ K) with
  | some ⟨_, _, .func fd, _⟩ => PySem.W.codeIn K fd.code d.qual && He.dflB K fd.defaults (d.dvs K)
  | _ => false)
theorem DefX.funD {K : PySem.W.Frag} {d : DefX} (e : fnX K (d.at_ K) = d.val) (c : d.ok K = true) : ∃ fd, FunD K d.name d.qual d.params d.body d.scope (d.dvs K) [] (d.at_ K) fd := by
  obtain ⟨kp, c2⟩ := He.ba c
  unfold fnX at e
  cases q : K.lookup (d.at_ K) with
  | none =>
    rw [q] at c2
    cases c2
  | some o =>
    obtain ⟨oc, od, dt, osl⟩ := o
    rw [q] at c2 e
    cases dt with
    | func fd =>
      obtain ⟨n1, n2, n3, n4, n5, n6, n7, n8, n9, n10, n11, n12, n13, n14, n15⟩ := fd
      have e2 : (some (n1, n2, n3, n4, n5, n6, n7, n15) : He.FnW) = some (d.name, d.qual, d.params, .stmts d.body, d.scope, mainGlobals, [], builtinsNs) := e
      simp only [Option.some.injEq, Prod.mk.injEq] at e2
      obtain ⟨h1, h2, h3, h4, h5, h6, h7, h8⟩ := e2
      subst h1 h2 h3 h4 h5 h6 h7 h8
      have c3 : (PySem.W.codeIn K n13 d.qual && He.dflB K n8 (d.dvs K)) = true := c2
      obtain ⟨k1, k3⟩ := He.ba c3
      exact ⟨_, ⟨oc, od, n8, n9, n10, n11, n12, n13, n14, osl, rfl, q, k1, He.dflB_ok k3, .inl rfl⟩, kp⟩
    | _ => cases c2
abbrev AlX : Type := Bool × List He.FnW
def obsX (bs : List (PySem.W.Frag → Bool)) (fn : List DefX) (K : PySem.W.Frag) : AlX := ((bs.all fun b => b K) && fn.all fun d => d.ok K, fn.map fun d => fnX K (d.at_ K))
def valX (fn : List DefX) : AlX := (true, fn.map DefX.val)
def SaysX (bs : List (PySem.W.Frag → Bool)) (fn : List DefX) (K : PySem.W.Frag) : Prop := obsX bs fn K = valX fn
section
variable {bs : List (PySem.W.Frag → Bool)} {fn : List DefX} {K : PySem.W.Frag}
theorem SaysX.fact (c : SaysX bs fn K) (i : Nat) {f : PySem.W.Frag → Bool} (h : bs[i]? = some f := by rfl) : f K = true := by
  have c1 := (He.ba (show ((bs.all fun b => b K) && fn.all fun d => d.ok K) = true from congrArg (fun z : AlX => z.1) c)).1
  exact List.all_eq_true.mp c1 f (List.mem_of_getElem? h)
theorem SaysX.def_ (c : SaysX bs fn K) (i : Nat) {d : DefX} (h : fn[i]? = some d := by rfl) : ∃ fd, FunD K d.name d.qual d.params d.body d.scope (d.dvs K) [] (d.at_ K) fd := by
  have c2 := (He.ba (show ((bs.all fun b => b K) && fn.all fun d => d.ok K) = true from congrArg (fun z : AlX => z.1) c)).2
  have e : fn.map (fun d => fnX K (d.at_ K)) = fn.map DefX.val := congrArg (fun z : AlX => z.2) c
  have e2 : (fn.map fun d => fnX K (d.at_ K))[i]? = (fn.map DefX.val)[i]? := by rw [e]
  rw [List.getElem?_map, List.getElem?_map, h] at e2
  exact DefX.funD (Option.some.inj e2) (List.all_eq_true.mp c2 d (List.mem_of_getElem? h))
end
/-! addresses: a property's getter, a static method's def -/
def recAt (K : PySem.W.Frag) (T : String) (p : Addr) : Addr := match PySem.W.recIn K p T with
  | some (.ref g :: _) => g
  | _ => 0
def isSomeRef (o : Option (List Value)) (g : Addr) : Bool := match o with
  | some (.ref a :: _) => decide (a = g)
  | _ => false
/-- a property of a class -/
def propB (K : PySem.W.Frag) (C : Addr) (f : Str) : Bool := He.eqO (PySem.W.findIn K (.ref C) f) (some (some (.ref (He.ma K C f)))) && (He.eqO (PySem.W.specialIn K (.ref (He.ma K C f)) "__get__") (some (some (.builtin "property.__get__"))) &&
  (decide (PySem.W.takesIn K (.ref (He.ma K C f)) = some true) && isSomeRef (PySem.W.recIn K (He.ma K C f) "property") (recAt K "property" (He.ma K C f))))
theorem propB_ok {K : PySem.W.Frag} {C : Addr} {f : Str} (h : propB K C f = true) : PropOf K C f (He.ma K C f) (recAt K "property" (He.ma K C f)) := by
  obtain ⟨h1, h⟩ := He.ba h
  obtain ⟨h2, h⟩ := He.ba h
  obtain ⟨h3, h4⟩ := He.ba h
  refine ⟨He.eqO_ok h1, He.eqO_ok h2, of_decide_eq_true h3, ?_⟩
  unfold isSomeRef at h4
  split at h4
  · rename_i a rest e
    have e2 := of_decide_eq_true h4
    rw [e2] at e
    exact ⟨rest, e⟩
  · cases h4
/-- a special method of a class -/
def splB (K : PySem.W.Frag) (C : Addr) (nm : Str) : Bool := He.eqO (PySem.W.findIn K (.ref C) nm) (some (some (.ref (He.ma K C nm)))) && PySem.W.isFn K (.ref (He.ma K C nm))
theorem splB_ok {K : PySem.W.Frag} {C : Addr} {nm : Str} (h : splB K C nm = true) : Spl K C nm (He.ma K C nm) := by
  obtain ⟨h1, h2⟩ := He.ba h
  exact ⟨He.eqO_ok h1, h2⟩
def callB (K : PySem.W.Frag) (C : Addr) : Bool := splB K C "__call__" && PySem.W.fnIn K (He.ma K C "__call__")
theorem callB_ok {K : PySem.W.Frag} {C : Addr} (h : callB K C = true) : StX.CallO K C (He.ma K C "__call__") := by
  obtain ⟨h1, h2⟩ := He.ba h
  exact ⟨(splB_ok h1).at_, (splB_ok h1).fn, h2⟩
def isiB (K : PySem.W.Frag) (C : Addr) : Bool := He.eqO (PySem.W.findIn K (.ref C) "__class__") (some (some (.builtin "object.__class__"))) && (He.eqO (PySem.W.specialIn K (.builtin "object.__class__") "__get__") (some (some (.builtin "getset_descriptor.__get__"))) &&
  (decide (PySem.W.takesIn K (.builtin "object.__class__") = some true) && decide (PySem.W.mroIn K C (.type "object") = some true)))
theorem isiB_ok {K : PySem.W.Frag} {C : Addr} (hc : Cls K C) (h : isiB K C = true) : IsiC K C := by
  obtain ⟨h1, h⟩ := He.ba h
  obtain ⟨h2, h⟩ := He.ba h
  obtain ⟨h3, h4⟩ := He.ba h
  exact ⟨hc, He.eqO_ok h1, He.eqO_ok h2, of_decide_eq_true h3, of_decide_eq_true h4⟩
def kitB2 (K : PySem.W.Frag) (t u : Value) (b : Bool) : Bool := decide (PySem.W.kitOne K t u = some b)
theorem kitB2_ok {K : PySem.W.Frag} {t u : Value} {b : Bool} (h : kitB2 K t u b = true) : PySem.W.kitOne K t u = some b := of_decide_eq_true h
end DL

set_option Elab.async false
set_option linter.all false
set_option maxRecDepth 100000
set_option maxHeartbeats 4000000
/-! DLe: enumerate of a tuple, a tuple turned about. -/
namespace DL
open PySem PySem.Calls PyProof.Rows
open AutoSeq1 (wpAny_loadPart')
theorem meets_enumerate_newT (l : Addr) (items : Array Value) (n : Nat) (dct : Option Addr) (sl : Array (Option Value)) :
    Meets (Builtin.«enumerate.__new__» ⟨[.type "enumerate", .ref l], []⟩) (fun _ R s => s.heap.get? l = some { cls := .type "tuple", dict := dct, data := .seq items n, slots := sl } ∧
      R (.ok (.ret (.ref (s.heap.push { cls := .type "tuple_iterator", data := .fields #[.ref l, .int 0 0] }).objs.size)))
        { s with heap := (s.heap.push { cls := .type "tuple_iterator", data := .fields #[.ref l, .int 0 0] }).push { cls := .type "enumerate", data := .fields #[.none, .bool false, .ref s.heap.objs.size, rawInt 0, .none, .none] } }) :=
  .of_wp fun prog w A R s h => by
    obtain ⟨hp, g, d, tk, os⟩ := s; obtain ⟨hl, h⟩ := h
    have hsub := sub_enumerate
    have hL : Heap.IsTuple (Shared.heap ⟨hp, g, d, tk, os⟩) l items := ⟨_, hl, rfl, n, rfl⟩
    wp_walk using wpAny_loadPart' hl
    refine wpAny_stack_any fun st => wpAny_pure ?_
    split
    · rename_i c _ _ _ _ _
      cases (c == Value.type "enumerate")
      · wp_walk using wpAny_loadPart' hl, wpAny_pyIter_tuple hL
        exact ⟨_, rfl, h⟩
      · wp_walk using wpAny_loadPart' hl, wpAny_pyIter_tuple hL
        exact ⟨_, rfl, h⟩
    · wp_walk using wpAny_loadPart' hl, wpAny_pyIter_tuple hL
      exact ⟨_, rfl, h⟩
section
variable {prog : Program} {w : PySem.World} {A : Around} {Ex : Value → Shared → Prop} {s : Shared}
theorem call_enumerate_tuple {l : Addr} {items : Array Value} {Q : Value → Shared → Prop} (hL : s.heap.IsTuple l items)
    (h : ∀ h', IsEnum h' (s.heap.objs.size + 1) s.heap.objs.size 0 .none → h'.IsTupleIter s.heap.objs.size l 0 → h'.objs.size = s.heap.objs.size + 2 →
      (∀ b o, s.heap.get? b = some o → h'.get? b = some o) → Q (.ref (s.heap.objs.size + 1)) { s with heap := h' }) :
    wpAny (model prog w) A (call (.type "enumerate") [.ref l]) Q Ex s := by
  obtain ⟨⟨c, dct, dt, sl⟩, hl, hc, n, hd⟩ := hL
  replace hc : c = .type "tuple" := hc
  replace hd : dt = .seq items n := hd
  subst hc hd
  refine callType_new F.called_enumerate (by decide) (F.typeCall_enumerate_1 _) (F.newCall_enumerate_1 _) (fun obj => F.args_object_init_2 obj _) F.entry_enumerate_new
    (meets_enumerate_newT l items n dct sl) ⟨hl, ?_⟩
  have hz : (s.heap.push { cls := .type "tuple_iterator", data := .fields #[.ref l, .int 0 0] }).objs.size = s.heap.objs.size + 1 := Heap.size_push ..
  show _ ∧ _
  rw [hz]
  have he : IsEnum ((s.heap.push { cls := .type "tuple_iterator", data := .fields #[.ref l, .int 0 0] }).push
      { cls := .type "enumerate", data := .fields #[.none, .bool false, .ref s.heap.objs.size, rawInt 0, .none, .none] }) (s.heap.objs.size + 1) s.heap.objs.size 0 .none := by
    have := Heap.get?_push_size (s.heap.push { cls := .type "tuple_iterator", data := .fields #[.ref l, .int 0 0] })
      (o := { cls := .type "enumerate", data := .fields #[.none, .bool false, .ref s.heap.objs.size, rawInt 0, .none, .none] }) rfl
    rw [hz] at this; exact this
  refine ⟨⟨_, he, rfl⟩, h _ he ⟨_, Heap.get?_push_of_some _ (Heap.get?_push_size _ rfl), rfl, rfl⟩ (by rw [Heap.size_push, hz]) fun b o x => Heap.get?_push_of_some _ (Heap.get?_push_of_some _ x)⟩
/-! ### t[::-1] -/
theorem sliceApplied_rev {sl : Addr} {vl vu vs : Value} {n : Nat} {Q : Int × Int × Nat → Shared → Prop} (hs : s.heap.IsSliceOf sl vl vu vs) (pl : IsPart vl none) (pu : IsPart vu none) (ps : IsPart vs (some (-1)))
    (h : Q ((n : Int) - 1, -1, n) s) : wpAny (model prog w) A (Builtin.Slice.sliceApplied (.ref sl) (pure (n : Int))) Q Ex s := by
  obtain ⟨os, hos, hcs, hds⟩ := id hs
  unfold Builtin.Slice.sliceApplied Builtin.Slice.sliceFields
  refine wpAny_bind (wpAny_bind (wpAny_field hos hds (x := vl) rfl (wpAny_bind (wpAny_field hos hds (x := vu) rfl (wpAny_bind (wpAny_field hos hds (x := vs) rfl (wpAny_pure ?_)))))))
  refine wpAny_bind (HT.slicePart_ ps ?_)
  show wpAny _ _ (if ((-1 : Int) == 0) = true then _ else _) _ _ s
  rw [if_neg (by decide)]
  refine wpAny_bind (HT.slicePart_ pl (wpAny_bind (HT.slicePart_ pu (wpAny_bind (wpAny_pure ?_)))))
  show wpAny _ _ (match Builtin.Slice.sliceAdjust none none (-1) (n : Int) with | (lo, hi) => pure (lo, (-1 : Int), Builtin.Slice.slicePlaces lo hi (-1))) _ _ s
  have e1 : Builtin.Slice.sliceAdjust none none (-1) (n : Int) = ((n : Int) - 1, -1) := by
    unfold Builtin.Slice.sliceAdjust
    simp
  have e2 : Builtin.Slice.slicePlaces ((n : Int) - 1) (-1) (-1) = n := by
    unfold Builtin.Slice.slicePlaces
    have h1 : ¬ ((-1 : Int) > 0) := by decide
    simp only [h1, if_false]
    by_cases hn : n = 0
    · subst hn
      decide
    · have h2 : (n : Int) - 1 > -1 := by omega
      simp only [h2, if_true]
      rw [show (- -1 : Int) = 1 by decide, Int.ediv_one]
      omega
  rw [e1]
  show wpAny _ _ (pure ((n : Int) - 1, (-1 : Int), Builtin.Slice.slicePlaces ((n : Int) - 1) (-1) (-1))) _ _ s
  rw [e2]
  exact wpAny_pure h
theorem filterMap_same {α β : Type} {f g : α → Option β} : ∀ (l : List α), (∀ k ∈ l, f k = g k) → l.filterMap f = l.filterMap g
  | [], _ => rfl
  | a :: l, h => by
    rw [List.filterMap_cons, List.filterMap_cons, h a List.mem_cons_self, filterMap_same l fun k hk => h k (List.mem_cons_of_mem _ hk)]
theorem pick_rev (xs : Array Value) : ((List.range xs.size).filterMap fun (k : Nat) => xs[(((xs.size : Nat) : Int) - 1 + (k : Int) * (-1)).toNat]?).toArray = xs.toList.reverse.toArray := by
  have e : (List.range xs.size).filterMap (fun (k : Nat) => xs[(((xs.size : Nat) : Int) - 1 + (k : Int) * (-1)).toNat]?) = ((List.range xs.size).map fun k => xs.size - 1 - k).filterMap (xs[·]?) := by
    rw [List.filterMap_map]
    refine filterMap_same _ fun k hk => ?_
    have hk' := List.mem_range.mp hk
    show xs[(((xs.size : Nat) : Int) - 1 + (k : Int) * (-1)).toNat]? = xs[xs.size - 1 - k]?
    rw [show (((xs.size : Nat) : Int) - 1 + (k : Int) * (-1)).toNat = xs.size - 1 - k by omega]
  rw [e, PySem.W.krv_range, List.filterMap_reverse, PySem.W.krv_all]
theorem getItem_tuple_rev {t sl : Addr} {items : Array Value} {vl vu vs : Value} {Q : Value → Shared → Prop} (ht : IsTup s.heap t items) (hs : s.heap.IsSliceOf sl vl vu vs) (pl : IsPart vl none) (pu : IsPart vu none) (ps : IsPart vs (some (-1)))
    (h : Q (.ref s.heap.objs.size) { s with heap := s.heap.push { cls := .type "tuple", data := .seq items.toList.reverse.toArray } })
    (hsz : items.size ≤ sizeLine) : wpAny (model prog w) A (getItem (.ref t) (.ref sl)) Q Ex s := by
  have htake : sizeOk (.seq items.toList.reverse.toArray) := by
    show items.toList.reverse.toArray.size ≤ sizeLine
    rw [List.size_toArray, List.length_reverse, Array.length_toList]
    exact hsz
  obtain ⟨os, hos, hcs, hds⟩ := id hs
  have hTs : s.TypeIs (.ref sl) "slice" := ⟨os, hos, hcs⟩
  unfold getItem
  try with_reducible refine wpAny_holding ?_
  first | refine wpAny_bind (wpAny_pure ?_) | skip
  refine wpAny_bind (wpAny_sequenceKey ht.typeIs (by decide) ?_)
  refine wpAny_bind (wpAny_callSpecial?_slot (name := Str.ofString "__getitem__") ht.typeIs PyProof.Rows.slot_tuple_getitem
    (wpAny_call_entry PyProof.Rows.slot_tuple_getitem ht.typeIs entry_tuple_getitem ?_ (args_tuple_getitem _ _)))
  show wpAny _ _ (Builtin.Tuple.tupleItemsOf (.ref t) >>= _) _ _ s
  refine wpAny_bind (tupleItemsOf_ ht ?_)
  refine wpAny_bind (wpAny_typeOf hTs ?_)
  rw [if_pos (by decide)]
  refine wpAny_bind (sliceApplied_rev hs pl pu ps ?_)
  have hno : ¬ ((((items.size : Nat) : Int) - 1 == 0 && (-1 : Int) == 1 && items.size == items.size) = true) := by
    intro q
    rw [Bool.and_eq_true, Bool.and_eq_true] at q
    exact absurd q.1.2 (by decide)
  show wpAny _ _ (if (((items.size : Nat) : Int) - 1 == 0 && (-1 : Int) == 1 && items.size == items.size) = true then _ else _) _ _ s
  rw [if_neg hno, pick_rev]
  first
    | exact wpAny_bind (m := Builtin.Tuple.tupleExact _) (wpAny_newObj_type (wpAny_pure ⟨_, rfl, wpAny_pure h⟩) htake)
    | exact wpAny_bind (m := Builtin.Tuple.tupleExact _) (wpAny_newObj_type (wpAny_bind (wpAny_pure (wpAny_pure ⟨_, rfl, wpAny_pure h⟩))) htake)
    | exact wpAny_bind (wpAny_bind (m := Builtin.Tuple.tupleExact _) (wpAny_newObj_type (wpAny_pure (wpAny_pure ⟨_, rfl, wpAny_pure h⟩)) htake))
    | exact wpAny_bind (wpAny_bind (m := Builtin.Tuple.tupleExact _) (wpAny_newObj_type (wpAny_pure ⟨_, rfl, wpAny_pure h⟩) htake))
end
end DL
namespace DL
open PySem PySem.Spec PyProof.Rows L2
section
variable {X : Cx}
/-- xs[::-1]: a list gives a new list, a tuple a new tuple -/
def tRevU (K : PySem.W.Frag) (te : TE) : TE := fun σ H Q => te σ H fun x H1 => ∃ a xs, x = .ref a ∧ ((SqL K H1 a xs ∧ ∀ p, H1 p = Option.none → Q (.ref p) (upd H1 p (.lst xs.reverse))) ∨ (SqT K H1 a xs ∧ ∀ p, H1 p = Option.none → Q (.ref p) (upd H1 p (.tup xs.reverse))))
theorem pe_revU {e : Expr} {te : TE} {k : Nat} {p1 p2 p3 pos : Pos} (he : PE X e te) : PE X (.Subscript e (.Slice none none (some (.UnaryOp .USub (.Constant (.int 1) k p1) p2)) p3) pos) (tRevU X.K te) := by
  refine ⟨fun pins s σ H Q I h => ?_⟩
  refine Subscript_ (thn (he.run pins s σ H _ I h) fun v s1 ⟨x, H1, I1, r1, q1⟩ => ?_)
  obtain ⟨a, xs, ex, hx⟩ := q1
  subst ex
  cases r1
  have hst : PO X (some (.UnaryOp .USub (.Constant (.int 1) k p1) p2)) (tPart (tUn (rU fun i => .int (-i)) (tC (.int 1)))) := po_some (pe_un un_neg pe_int)
  refine wpAny_Slice (thn (po_none.run pins s1 σ H1 (fun o H2 => o = none ∧ H2 = H1) I1 ⟨rfl, rfl⟩) fun vl s2 ⟨l, H2, I2, pl, el, e2⟩ => ?_)
  subst el e2
  refine thn (po_none.run pins s2 σ H2 (fun o H3 => o = none ∧ H3 = H2) I2 ⟨rfl, rfl⟩) fun vu s3 ⟨u, H3, I3, pu, eu, e3⟩ => ?_
  subst eu e3
  refine thn (hst.run pins s3 σ H3 (fun o H4 => o = some (-1) ∧ H4 = H3) I3 ⟨1, rfl, -1, rfl, rfl, rfl⟩) fun vs s4 ⟨o, H4, I4, ps, eo, e4⟩ => ?_
  subst eo e4
  have I5 : Inv X pins σ H4 { s4 with heap := s4.heap.push { cls := .type "slice", data := .fields #[vl, vu, vs] } } := I4.kept (t' := s4.toks) fun b ob q => Heap.get?_push_of_some _ q
  show wpAny (model X.prog X.w) X.A (subscriptTail e (.Slice none none (some (.UnaryOp .USub (.Constant (.int 1) k p1) p2)) p3) (.ref a) (.ref s4.heap.objs.size)) (EP X pins σ Q) X.xe { s4 with heap := s4.heap.push { cls := .type "slice", data := .fields #[vl, vu, vs] } }
  rcases hx with ⟨hx, q⟩ | ⟨hx, q⟩
  · obtain ⟨its, r, ht, hz⟩ := I5.list hx
    have hlen := r.length
    refine tail_any (ops := [.ref a, .ref s4.heap.objs.size]) ht.isList.typeIs (PySem.slot_list_getitem.lookup) ?_ (by with_unfolding_all rfl)
    refine wpAny_getItem_list_slice ht.isList (Heap.IsSliceOf.new _ vl vu vs) pl pu ps (by decide) ?_ (by rw [List.size_toArray]; omega)
    rw [PySem.W.krv_pick]
    refine ⟨.ref _, _, I5.laid (t' := s4.toks) (o := .lst xs.reverse) (fun b ob q => Heap.get?_push_of_some _ q) (Nat.le_refl _) ?_, rfl, q _ (I5.hok.fresh (Nat.le_refl _))⟩
    exact ⟨by rw [List.length_reverse]; exact hz, _, 0, r.reverse, Heap.get?_push_size _ rfl⟩
  · obtain ⟨its, r, ht, hz⟩ := I5.tuple hx
    have hlen := r.length
    refine tail_any (ops := [.ref a, .ref s4.heap.objs.size]) ht.typeIs (PyProof.Rows.slot_tuple_getitem.lookup) ?_ (by with_unfolding_all rfl)
    refine getItem_tuple_rev ht (Heap.IsSliceOf.new _ vl vu vs) pl pu ps ?_ (by rw [List.size_toArray]; omega)
    refine ⟨.ref _, _, I5.laid (t' := s4.toks) (o := .tup xs.reverse) (fun b ob q => Heap.get?_push_of_some _ q) (Nat.le_refl _) ?_, rfl, q _ (I5.hok.fresh (Nat.le_refl _))⟩
    exact ⟨by rw [List.length_reverse]; exact hz, _, r.reverse, IsTup.new _ _⟩
/-- enumerate of a tuple: each item in a new pair -/
def IteT (K : PySem.W.Frag) (a : Addr) : It :=
  ⟨fun i H => ∃ (xs : List V) (x : V), SqT K H a xs ∧ xs[i]? = some x, fun i H v H' => ∃ T x, v = .ref T ∧ H T = none ∧ H' = upd H T (.tup [.int (i : Nat), x]) ∧ ∀ xs, SqT K H a xs → xs[i]? = some x, fun i H => ∃ xs : List V, SqT K H a xs ∧ xs.length ≤ i⟩
theorem turn_enumT {P : Program} {w : PySem.World} {K : PySem.W.Frag} {elts : List Expr} {kk : Nat} {tpos : Pos} (a e it : Addr) :
    Turn P w K (.Tuple elts kk tpos) (IteT K a) [e, it] e (fun i h => (∃ old, IsEnum h e it ((i : Nat) : Int) old) ∧ h.IsTupleIter it a i ∧ e ≠ it) where
  mem := by simp
  obj := fun i h st b hb => by
    obtain ⟨⟨old, he⟩, ⟨o, ho, hc, hd⟩, _⟩ := st
    have e' : b = e ∨ b = it := by simpa using hb
    rcases e' with z | z
    · rw [z]; exact ⟨_, he, fun v q => nomatch q⟩
    · rw [z]; exact ⟨o, ho, fun v q => by rw [hd] at q; cases q⟩
  keep := fun i h h' st k => let ⟨⟨old, he⟩, hi, hne⟩ := st; ⟨⟨old, k e (by simp) _ he⟩, hi.at fun o q => k it (by simp) o q, hne⟩
  item := by
    intro X hP hw hK hc i pins s σ H E I hf st hg
    subst hP hw hK
    obtain ⟨⟨old, he⟩, hit, hne⟩ := st
    obtain ⟨xs, x, hq, hx⟩ := hg
    obtain ⟨its, rv, p, hz⟩ := I.tuple hq
    obtain ⟨u, hu, ru⟩ := rv.get hx
    have hel : e < s.heap.objs.size := Heap.lt_size he
    have hil : it < s.heap.objs.size := by obtain ⟨_, q, _⟩ := hit; exact Heap.lt_size q
    have hpT : s.heap.IsTuple a its.toArray := p
    have nea : e ≠ a := fun z => by
      obtain ⟨o, h1, h2, _⟩ := hpT
      subst z
      rw [show s.heap.get? e = some _ from he] at h1
      cases h1
      exact absurd (Value.type.inj h2) (by decide)
    have nia : a ≠ it := fun z => by
      obtain ⟨o, h1, h2, _⟩ := hpT
      obtain ⟨o2, h3, h4, _⟩ := hit
      subst z
      rw [h1] at h3
      cases h3
      rw [h2] at h4
      exact absurd (Value.type.inj h4) (by decide)
    have hui : its.toArray[i]? = some u := by simpa using hu
    have hlt : i < its.toArray.size := (Array.getElem?_eq_some_iff.mp hui).1
    refine wpAny_pyNext_enum_itemD (Draws.tuple (A := X.A.in1) (I.ok.hd hc) it a nia its.toArray) he ⟨hit, hpT⟩ hlt hne (by simp; exact ⟨hne, nea⟩) fun x' h' tk hx' ho hst' hT hsz hk => ?_
    have ex : x' = u := by
      rw [hui] at hx'
      exact (Option.some.inj hx').symm
    subst ex
    refine ⟨_, rfl, wpAny_letOwnedTupleGo_enum (s := { s with heap := h', toks := tk + 1 }) ho fun h'' he' sb => ?_⟩
    have hT2 : h''.get? s.heap.objs.size = some { cls := .type "tuple", data := .seq #[.int i tk, x'] } := (sb.2 _ (Nat.ne_of_gt hel)).trans hT
    have new : ObjOk X.prog X.w (upd H s.heap.objs.size (.tup [.int (i : Nat), x])) h'' s.heap.objs.size (.tup [.int (i : Nat), x]) :=
      ⟨by show 2 ≤ sizeLine; decide, [.int i tk, x'], .cons ⟨_, rfl⟩ (.cons ru .nil), ⟨_, hT2, rfl, _, rfl⟩⟩
    have I1 : Inv X pins σ (upd H s.heap.objs.size (.tup [.int (i : Nat), x])) { s with heap := h'', toks := tk + 1 } :=
      I.turnedNew (ch := [e, it]) (fun b ob hb q => (sb.2 b (fun z => hb (by simp [z]))).trans (hk b ob (fun z => hb (by simp [z])) (fun z => hb (by simp [z])) q)) hf (Nat.le_refl _) new
    refine ⟨.ref s.heap.objs.size, _, I1, rfl, ⟨_, x, rfl, I.hok.fresh (Nat.le_refl _), rfl, fun ys hy => by rw [I.tuple_inj hy hq]; exact hx⟩, ⟨⟨x', ?_⟩, hst'.1.at fun o q => (sb.2 it (Ne.symm hne)).trans q, hne⟩, fun b hb => ?_⟩
    · have e1 : ((i + 1 : Nat) : Int) = (i : Int) + 1 := by omega
      rw [e1]; exact he'
    · have hb' : b < s.heap.objs.size := by
        have e' : b = e ∨ b = it := by simpa using hb
        rcases e' with z | z
        · rw [z]; exact hel
        · rw [z]; exact hil
      rw [upd_ne (Nat.ne_of_lt hb')]
      exact (hf b hb).1
  done := by
    intro X hP hw hK hc i pins s σ H E I hf st hg
    subst hP hw hK
    obtain ⟨⟨old, he⟩, hit, hne⟩ := st
    obtain ⟨xs, hq, hx⟩ := hg
    obtain ⟨its, rv, p, hz⟩ := I.tuple hq
    obtain ⟨f0, f1, f2, f3, f4, f5⟩ := hf it (by simp)
    have hl := rv.length
    have hpT : s.heap.IsTuple a its.toArray := p
    have hT : s.TypeIs (.ref e) "enumerate" := ⟨_, he, rfl⟩
    unfold pyNext
    refine wpAny_bind (wpAny_attempt (wpAny_callSpecial?_slot (name := Str.ofString "__next__") hT F.slot_enumerate_next
      (wpAny_call_entry F.slot_enumerate_next hT F.entry_enumerate_next ?_ (F.args_enumerate_next_1 _))))
    show wpAny _ _ (field (.ref e) 2 >>= _) _ _ _
    refine wpAny_bind (wpAny_field he rfl (x := .ref it) rfl ?_)
    refine wpAny_bind (wpAny_nextOf_tuple_end (I.ok.hd hc) hit hpT (by simp; omega) fun h' x he' hx' => ?_)
    obtain ⟨o, ho, hcc⟩ := hx'
    refine wpAny_bind (wpAny_isInstance (T := "StopIteration") (b := true) ⟨o, ho, hcc⟩ isSubtype_stop ?_)
    exact wpAny_pure ⟨rfl, I.turned (t' := s.toks) (fun b o hb q => he' b o hb q) f0 f1 f3 f4 f5⟩
  self := fun A i s Q E st h => let ⟨⟨_, he⟩, _⟩ := st; wpAny_pyIter_enum he h
/-- enumerate of a list or a tuple -/
def iEnumU (K : PySem.W.Frag) (ta : TA) : TI := fun σ H R => ta σ H fun vs H1 => ∃ a xs, vs = [.ref a] ∧ ((SqL K H1 a xs ∧ R (Ite K a) H1) ∨ (SqT K H1 a xs ∧ R (IteT K a) H1))
theorem pi_enumU {e : Expr} {ta : TA} {p pos tpos : Pos} {elts : List Expr} {kk : Nat} (hg : Gl X "enumerate") (hm : X.mg "enumerate" = none) (ha : PA X [e] ta) (hs : starEach [e] X.env = [(false, eval e X.env)] := by rfl) :
    PI X (.Tuple elts kk tpos) (.Call (.Name "enumerate" p) [e] [] pos) (iEnumU X.K ta) := by
  refine ⟨fun pins s σ H R I h => ?_⟩
  refine Call_ (ld_blt I hg hm boot_enumerate (PyProof.Rows.callWith_type1 (thn (ha.run pos pins s σ H _ I h) fun us s1 ⟨vs, H1, I1, r1, q1⟩ => ?_) hs rfl))
  obtain ⟨a, xs, ex, hq⟩ := q1
  subst ex
  cases r1 with
  | cons r rr =>
    cases rr
    cases r
    rcases hq with ⟨hq, q⟩ | ⟨hq, q⟩
    · obtain ⟨its, rv, p', hz⟩ := I1.list hq
      refine call_enumerate_list p'.isList fun h' he hit hsz hk => wpAny_pyIter_enum he ?_
      have I2 : Inv X pins σ H1 { s1 with heap := h' } := I1.kept (t' := s1.toks) hk
      refine ⟨s1.heap.objs.size + 1, [s1.heap.objs.size + 1, s1.heap.objs.size], _, _, H1, rfl, I2, turn_enum a (s1.heap.objs.size + 1) s1.heap.objs.size, ⟨⟨.none, he⟩, hit, Nat.succ_ne_self _⟩, fun b hb => ?_, q⟩
      have e' : b = s1.heap.objs.size + 1 ∨ b = s1.heap.objs.size := by simpa using hb
      have hle : s1.heap.objs.size ≤ b := by
        rcases e' with z | z
        · rw [z]; exact Nat.le_add_right _ _
        · rw [z]; exact Nat.le_refl _
      exact I1.fpOk hle (I1.hok.fresh hle)
    · obtain ⟨its, rv, p', hz⟩ := I1.tuple hq
      refine call_enumerate_tuple (show s1.heap.IsTuple a its.toArray from p') fun h' he hit hsz hk => wpAny_pyIter_enum he ?_
      have I2 : Inv X pins σ H1 { s1 with heap := h' } := I1.kept (t' := s1.toks) hk
      refine ⟨s1.heap.objs.size + 1, [s1.heap.objs.size + 1, s1.heap.objs.size], _, _, H1, rfl, I2, turn_enumT a (s1.heap.objs.size + 1) s1.heap.objs.size, ⟨⟨.none, he⟩, hit, Nat.succ_ne_self _⟩, fun b hb => ?_, q⟩
      have e' : b = s1.heap.objs.size + 1 ∨ b = s1.heap.objs.size := by simpa using hb
      have hle : s1.heap.objs.size ≤ b := by
        rcases e' with z | z
        · rw [z]; exact Nat.le_add_right _ _
        · rw [z]; exact Nat.le_refl _
      exact I1.fpOk hle (I1.hok.fresh hle)
end
end DL

set_option Elab.async false
set_option linter.all false
set_option maxRecDepth 100000
set_option maxHeartbeats 4000000
/-! A4: defs and their calls, objects, fields, properties, operators of own classes. -/
namespace DL
open PySem PySem.Spec PyProof.Rows L2
/-! ### views of objects -/
def ndO : Option Nd → Option (Str × List Str × List D)
  | some (.obj n fs ds) => some (n, fs, ds)
  | _ => Option.none
def asObj (μ : Mu) : D → Option (Str × List Str × List D)
  | .obj n fs ds => some (n, fs, ds)
  | .cell p => ndO (μ p)
  | _ => Option.none
theorem ndO_some {x : Option Nd} {n : Str} {fs : List Str} {ds : List D} (h : ndO x = some (n, fs, ds)) : x = some (.obj n fs ds) := by
  unfold ndO at h
  split at h
  · cases h
    rfl
  · cases h
theorem asObj_rep {c : Ctx} {S : Option SA} {F : Hp} {m : Nat} {I H : Hp} {μ : Mu} {d : D} {v : V} {n : Str} {fs : List Str} {ds : List D} (w : Wd c S F m I μ H) (r : Rep c S I d v) (h : asObj μ d = some (n, fs, ds)) :
    ∃ a dx xs, v = .ref a ∧ H a = some (.ins (c.cl n) dx (List.zip fs xs)) ∧ Reps c S I ds xs ∧ fs.length = xs.length ∧ n ∈ c.ns := by
  cases r with
  | obj g r l hn =>
    cases h
    exact ⟨_, _, _, rfl, w.ins g, r, l, hn⟩
  | cell =>
    obtain ⟨_, o, r, h2⟩ := w.m _ _ (ndO_some h)
    cases r with
    | obj r l hn => exact ⟨_, _, _, rfl, h2, r, l, hn⟩
  | _ => cases h
def fldD (f : Str) : List Str → List D → Option D
  | g :: gs, d :: ds => if f = g then some d else fldD f gs ds
  | _, _ => Option.none
theorem fld_rep {c : Ctx} {S : Option SA} {I : Hp} {f : Str} {d : D} : ∀ {fs : List Str} {ds : List D} {xs : List V}, Reps c S I ds xs → fldD f fs ds = some d → ∃ x, (List.zip fs xs).lookup f = some x ∧ Rep c S I d x
  | [], _, _, _, h => by simp [fldD] at h
  | _ :: _, _, _, .nil, h => by simp [fldD] at h
  | g :: gs, _, _, .cons (x := x) r rs, h => by
    unfold fldD at h
    by_cases e : f = g
    · rw [if_pos e] at h
      cases h
      subst e
      exact ⟨x, by simp [List.lookup], r⟩
    · rw [if_neg e] at h
      obtain ⟨y, h1, h2⟩ := fld_rep rs h
      refine ⟨y, ?_, h2⟩
      rw [List.zip_cons_cons, List.lookup_cons, show (f == g) = false from beq_eq_false_iff_ne.mpr e]
      exact h1
theorem fld_none {f : Str} : ∀ {fs : List Str} {xs : List V}, f ∉ fs → (List.zip fs xs).lookup f = Option.none
  | [], _, _ => rfl
  | _ :: _, [], _ => rfl
  | g :: gs, x :: xs, h => by
    rw [List.zip_cons_cons, List.lookup_cons, show (f == g) = false from beq_eq_false_iff_ne.mpr fun z => h (by rw [z]; exact List.mem_cons_self)]
    exact fld_none fun z => h (List.mem_cons_of_mem _ z)
/-- a field is stored -/
def putN (f : Str) (d : D) : List Str → List D → List Str × List D
  | g :: gs, x :: xs => if g = f then (g :: gs, d :: xs) else ((g :: (putN f d gs xs).1), (x :: (putN f d gs xs).2))
  | gs, xs => (gs ++ [f], xs ++ [d])
theorem putN_rep {c : Ctx} {S : Option SA} {I : Hp} {f : Str} {d : D} {v : V} (r : Rep c S I d v) : ∀ {fs : List Str} {ds : List D} {xs : List V}, Reps c S I ds xs → fs.length = xs.length →
    ∃ ys, Reps c S I (putN f d fs ds).2 ys ∧ (putN f d fs ds).1.length = ys.length ∧ putF f v (List.zip fs xs) = List.zip (putN f d fs ds).1 ys
  | [], _, _, .nil, _ => ⟨[v], .cons r .nil, rfl, rfl⟩
  | [], _, _ :: _, .cons _ _, h => by cases h
  | _ :: _, _, [], .nil, h => by cases h
  | g :: gs, _, x :: xs, .cons h rs, l => by
    unfold putN
    by_cases e : g = f
    · rw [if_pos e]
      refine ⟨v :: xs, .cons r rs, by simpa using l, ?_⟩
      rw [List.zip_cons_cons, List.zip_cons_cons]
      show (if g = f then _ else _) = _
      rw [if_pos e]
    · rw [if_neg e]
      obtain ⟨ys, h1, h2, h3⟩ := putN_rep (f := f) r rs (by simpa using l : gs.length = xs.length)
      refine ⟨x :: ys, .cons h h1, by simpa using h2, ?_⟩
      rw [List.zip_cons_cons, List.zip_cons_cons, ← h3]
      show (if g = f then _ else _) = _
      rw [if_neg e]
/-! ### wishes -/
def wCall (s : WP) (dd : List D) (a : WA) : WE := fun e μ Q X => a e μ (fun ds μ1 => s (ds ++ dd) μ1 Q X) X
/-- an instance of the class n without an attribute m -/
def isOf (n m : Str) (μ : Mu) (x : D) (P : Prop) : Prop := match asObj μ x with
  | some (k, fs, _) => k = n ∧ m ∉ fs ∧ P
  | Option.none => False
theorem isOf_cases {n m : Str} {μ : Mu} {x : D} {P : Prop} (h : isOf n m μ x P) : ∃ fs ds, asObj μ x = some (n, fs, ds) ∧ m ∉ fs ∧ P := by
  unfold isOf at h
  split at h
  · rename_i k fs ds e
    obtain ⟨rfl, h1, h2⟩ := h
    exact ⟨fs, ds, e, h1, h2⟩
  · exact h.elim
def wMeth (n m : Str) (s : WP) (dd : List D) (r : WE) (a : WA) : WE := fun e μ Q X => r e μ (fun x μ1 => isOf n m μ1 x (a e μ1 (fun ds μ2 => s (x :: (ds ++ dd)) μ2 Q X) X)) X
def wProp (n f : Str) (s : WP) (r : WE) : WE := fun e μ Q X => r e μ (fun x μ1 => isOf n f μ1 x (s [x] μ1 Q fun _ _ => False)) X
def wFld (n f : Str) (r : WE) : WE := fun e μ Q X => r e μ (fun x μ1 => match asObj μ1 x with
  | some (k, fs, ds) => k = n ∧ (match fldD f fs ds with
    | some d => Q d μ1
    | Option.none => False)
  | Option.none => False) X
def wSetF (n f : Str) (o v : WE) : WS := fun e μ E => v e μ (fun d μ1 => o e μ1 (fun x μ2 => match x with
  | .cell p => (match ndO (μ2 p) with
    | some (k, fs, ds) => k = n ∧ fs.length < 1000 ∧ E.nx e (up μ2 p (.obj k (putN f d fs ds).1 (putN f d fs ds).2))
    | Option.none => False)
  | _ => False) fun d μ1 => E.xp d e μ1) fun d μ1 => E.xp d e μ1
def wMake (m : Bool) (n : Str) (s : WP) (dd : List D) (a : WA) : WE := fun e μ Q X => a e μ (fun ds μ1 => ∀ p, μ1 p = Option.none → s (.cell p :: (ds ++ dd)) (up μ1 p (.obj n [] [])) (fun r μ2 => r = .none ∧ (match μ2 p with
  | some nd => sett m Q (.n nd) (del μ2 p)
  | Option.none => False)) X) X
/-- a def of n parameters, N names -/
def initE (N : Nat) (ds : List D) : EnvD := ds.map some ++ List.replicate (N - ds.length) Option.none
def wDef (n N : Nat) (b : WS) : WP := fun ds μ Q X => ds.length = n ∧ b (initE N ds) μ ⟨fun _ μ1 => Q .none μ1, Q, fun _ _ => False, fun _ _ => False, fun d _ μ1 => X d μ1⟩
/-! ### a def's promise -/
def SpW (c : Ctx) (s : WP) (k : Nat) : Sp := fun vs H Q Ex => ∃ S F n I μ ds Qd Xd, n + k ≤ LIM ∧ Wd c S F n I μ H ∧ Reps c S I ds vs ∧ s ds μ Qd Xd ∧ QV c S F (n + k) I Qd Q ∧ ∀ d μ' cls dx I' H', Xd d μ' → Same I I' → Wd c S F (n + k) I' μ' H' → ErrAt c S I' d cls dx → Ex cls dx H'
/-- what a def asks of the calls around it: nothing, or that no repr is under way -/
class Gds where
  ok : Around → Prop
  in1 : ∀ {A : Around}, ok A → ok A.in1
  deeper : ∀ {A : Around} {e : Env}, ok A → ok (A.deeper e)
  tyc : ∀ {A : Around} {us : Args}, ok A → ok (A.under (.builtin "type.__call__" us))
theorem guards_tyc {A : Around} {us : Args} (gd : A.guards = some []) : (A.under (.builtin "type.__call__" us)).guards = some [] := by
  first | exact gd | (simpa [Around.under, Code.isGuard, guardIds] using gd)
/-- no repr is under way -/
instance (priority := low) gdsR : Gds := ⟨fun A => A.guards = some [], fun h => h, fun h => h, guards_tyc⟩
/-- nothing is asked -/
@[reducible] def gdsT : Gds := ⟨fun _ => True, fun h => h, fun h => h, fun h => h⟩
variable [Gds]
structure FnW (P : Program) (w : PySem.World) (K : PySem.W.Frag) (mg : Str → Option Value) (base : Heap) (k : Nat) (f : Addr) (fd : FuncData) (ps : List Str) (sp : Sp) : Prop where
  len : ∀ vs H Q E, sp vs H Q E → vs.length = ps.length
  run : ∀ (A : Around) (outer : List Env) (s : Shared) (H : Hp) (args : Args) (us : List Value) (vs : List V) (Q : VK) (E : XK), Gds.ok A → Room k A → Env0 P w K mg base A outer s H →
    BindsTo s fd args (ps.zip us) → Vals vs us → sp vs H Q E → codeAny (model P w) A (.call (.ref f) args) (CR (L2.CX P w) outer P w H s Q E) s
/-- a def's code object -/
def codeAt (K : PySem.W.Frag) (f : Addr) : Addr := match K.lookup f with
  | some ⟨_, _, .func fd, _⟩ => (match fd.code with
    | .ref c => c
    | _ => 0)
  | _ => 0
theorem codeAt_eq {K : PySem.W.Frag} {f : Addr} {oc : Value} {od : Option Addr} {osl : Array (Option Value)} {fd : FuncData} {q : Str} (lk : K.lookup f = some ⟨oc, od, .func fd, osl⟩) (h : PySem.W.codeIn K fd.code q = true) : fd.code = .ref (codeAt K f) := by
  unfold codeAt
  rw [lk]
  show fd.code = .ref (match fd.code with | .ref c => c | _ => 0)
  cases e : fd.code with
  | ref c => rfl
  | _ =>
    rw [e] at h
    cases h
section
variable {P : Program} {w : PySem.World} {K : PySem.W.Frag} {mg : Str → Option Value} {base : Heap} {k : Nat} {f : Addr} {fd : FuncData} {ps : List Str} {sp : Sp}
theorem fnW_of {x qual : Str} {pa : Arguments} {bd : List Stmt} {sc : Scope} {dvs : List V} {kws : List (Str × V)} {N : List Str} (F : FunD K x qual pa bd sc dvs kws f fd) (Sc : FnScope N ps sc) (len : ∀ vs H Q E, sp vs H Q E → vs.length = ps.length)
    (hb : ∀ (A : Around) (outer : List Env) (s : Shared) (H : Hp) (vs : List V) (Q : VK) (E : XK), Gds.ok (A.deeper (envOfC qual sc s.heap.objs.size f (.ref (codeAt K f)))) → Room k (A.deeper (envOfC qual sc s.heap.objs.size f (.ref (codeAt K f)))) → sp vs H Q E →
      ∃ t, PSs (cxOf (L2.CX P w) P w K mg base N qual sc f (.ref (codeAt K f)) A outer s H E) bd t ∧ t { nx := fun _ H' => Q .non H', rt := Q } (start N vs) H) : FnW P w K mg base (k + 1) f fd ps sp := by
  obtain ⟨oc, od, dV, kV, doc, pm, an, cdv, ct, osl, rfl, lk, hc, _, _⟩ := F.ex
  have hcd : cdv = .ref (codeAt K f) := codeAt_eq (fd := PySem.W.fnOf x qual pa bd sc dV kV doc pm an cdv ct) lk hc
  subst hcd
  refine ⟨len, fun A outer s H args us vs Q E gd room en bi re hs => ?_⟩
  have many := len _ _ _ _ hs
  have kin : K.In s.heap := en.mod.kin.keeps fun b o z => (en.bs b o z).1
  have nol : s.heap.NoLimit := en.mod.nolimit.keeps fun b o z => (en.bs b o z).1
  have kinds : ∀ y ∈ ps.zip us, sc.names.lookup y.1 = some .local ∨ (sc.names.lookup y.1 = some .cell ∧ ((cellsFrom (s.heap.objs.size + 1) sc.names []).lookup y.1).isSome = true) := by
    rintro ⟨n, v⟩ hy
    have hp := Sc.par n (List.of_mem_zip hy).1
    rcases hp with z | z
    · exact .inl z
    · exact .inr ⟨z, PySem.W.cellsFrom_some _ _ _ (.inl z)⟩
  have after : ∀ s1 : Shared, InCallC s s.heap.objs.size (bindL (envOfC qual sc s.heap.objs.size f (.ref (codeAt K f))).kindOf (ps.zip us) fun _ => none) (cellsFrom (s.heap.objs.size + 1) sc.names [])
        (bindC (envOfC qual sc s.heap.objs.size f (.ref (codeAt K f))).kindOf (ps.zip us) fun _ => none) s1 → s1.heap.NoLimit ∧ codeAny (model P w) A (.func bd (envOfC qual sc s.heap.objs.size f (.ref (codeAt K f)))) (CR (L2.CX P w) outer P w H s Q E) s1 := fun s1 x1 => by
    refine ⟨nol.keeps x1.toInCall.keep, codeAny_func ?_⟩
    obtain ⟨t, ht, hq⟩ := hb A outer s H vs Q E (Gds.deeper gd) (room.deeper _) hs
    have J : Inv (cxOf (L2.CX P w) P w K mg base N qual sc f (.ref (codeAt K f)) A outer s H E) [] (start N vs) H s1 := inv_start Sc room.hd en many re x1
    refine wpAny_mono (ht.run [] s1 (start N vs) H _ J hq) (fun fl s2 z => ?_) fun e s2 z => z
    cases fl with
    | ret u =>
      obtain ⟨v, σ2, H2, J2, rv, q2⟩ := z
      exact ⟨v, H2, J2.os, J2.bare, J2.base, J2.hok, rv, q2⟩
    | next =>
      obtain ⟨σ2, H2, J2, q2⟩ := z
      exact ⟨.non, H2, J2.os, J2.bare, J2.base, J2.hok, rfl, q2⟩
    | brk => exact z.elim fun _ z => z.elim fun _ z => False.elim z.2
    | cont => exact z.elim fun _ z => z.elim fun _ z => False.elim z.2
  refine codeAny_call_function room.depth (kin _ _ lk) rfl Sc.co Sc.gen rfl (PySem.W.codeRec_of kin hc) (bi _ _ _ _ (wpAny_newFunctionEnv_cells Sc.kind kinds fun env he s1 x1 => ?_))
  subst he
  exact after s1 x1
end
theorem SpW.len {c : Ctx} {n N : Nat} {b : WS} {k : Nat} {ps : List Str} (hn : n = ps.length) {vs : List V} {H : Hp} {Q : VK} {Ex : XK} (h : SpW c (wDef n N b) k vs H Q Ex) : vs.length = ps.length := by
  obtain ⟨S, F, m, I, μ, ds, Qd, Xd, hl, w, r, h, _⟩ := h
  rw [← r.length, h.1, hn]
/-- a def's body runs -/
theorem run_wDef {c : Ctx} {n : Nat} {b : WS} {k kb : Nat} {N : List Str} {vs : List V} {H : Hp} {Q : VK} {Ex : XK} (h : SpW c (wDef n N.length b) k vs H Q Ex) (hk : kb ≤ k) : ldS c (fun cls d _ H => Ex cls d H) kb b { nx := fun _ H' => Q .non H', rt := Q } (L2.start N vs) H := by
  obtain ⟨S, F, m, I, μ, ds, Qd, Xd, hl, w, r, ⟨hn, h⟩, q, x⟩ := h
  refine ⟨S, F, m, I, μ, initE N.length ds, _, by omega, ?_, w, h, ⟨fun e' μ' σ' I' H' p s r' w' => q .none μ' .non I' H' p s (w'.up (by omega)) .none, fun d μ' v I' H' p s w' r' => q d μ' v I' H' p s (w'.up (by omega)) r', fun _ _ _ _ _ p => p.elim, fun _ _ _ _ _ p => p.elim, fun d e' μ' cls dx σ' I' H' p s _ w' er => x d μ' cls dx I' H' p s (w'.up (by omega)) er⟩⟩
  unfold initE L2.start
  rw [r.length]
  exact EnvR.init _ r
/-- a def with its promise -/
def OkW (P : Program) (w : PySem.World) (c : Ctx) (mg : Str → Option Value) (base : Heap) (k : Nat) (f : Addr) (ps : List Str) (s : WP) (kf : Nat) (dvs : List V) : Prop :=
  ∃ fd, FnW P w c.K mg base k f fd ps (SpW c s kf) ∧ Binds c.K fd ps [] ∧ PySem.W.keepIn c.K (.ref f) = true ∧ ∃ ds, Vals dvs ds ∧ Binds c.K fd ps ds
section
variable {X : Cx} {c : Ctx} {W : WX} {k kf ka kb ko : Nat} {f C : Addr} {fd : FuncData} {ps : List Str} {sp : Sp} {s : WP} {dvs : List V} {dv : List Value} {dd : List D}
theorem FnW.mono {j : Nat} (F : FnW X.prog X.w X.K X.mg X.base j f fd ps sp) (h : j ≤ k) : FnW X.prog X.w X.K X.mg X.base k f fd ps sp := ⟨F.len, fun A outer s H args us vs Q E gd hr => F.run A outer s H args us vs Q E gd (hr.mono h)⟩
/-- the callee runs -/
theorem run_fnW {pins : List (Addr × Obj)} {σ : L2.St} {H : Hp} {s : Shared} {Q : VK} {us : List Value} {vs : List V} (F : FnW X.prog X.w X.K X.mg X.base k f fd ps sp) (gd : Gds.ok X.A) (hr : Room k X.A) (hb : Binds X.K fd ps dv) (hd : Vals dvs dv) (tk : Takes X W)
    (J : Inv X pins σ H s) (r : Vals vs us) (h : sp (vs ++ dvs) H Q fun cls d H' => W cls d σ H') : wpAny (model X.prog X.w) X.A (call (.ref f) us) (EP X pins σ Q) X.xe s := by
  have r2 : Vals (vs ++ dvs) (us ++ dv) := r.append hd
  have hl : (us ++ dv).length = ps.length := by rw [← r2.length]; exact F.len _ _ _ _ h
  refine wpAny_call (codeAny_mono (F.run X.A X.stack s H ⟨us, []⟩ (us ++ dv) (vs ++ dvs) Q _ gd hr J.env0 (hb s us J.kIn hl) r2 h) fun r s' hq => ?_)
  cases r with
  | error e => exact tk e s' (XE.of_call J (fun _ _ _ h => h) hq)
  | ok fl =>
    cases fl with
    | ret u => exact J.after hq
    | next => exact False.elim hq
    | brk => exact False.elim hq
    | cont => exact False.elim hq
/-- a call as a wish: the arguments, then the promise -/
theorem ld_call {wr : WA} {σ : L2.St} {H : Hp} {Q : VK} (hd : ∀ S I, Reps c S I dd dvs) (h : ldE c W (ka + kf) (wCall s dd wr) σ H Q) : ldA c W ka wr σ H fun vs H1 => SpW c s kf (vs ++ dvs) H1 Q fun cls d H' => W cls d σ H' := by
  obtain ⟨S, F, n, I, μ, e, Qd, Xd, hl, he, hw, h, q, x⟩ := h
  refine ⟨S, F, n, I, μ, e, _, Xd, by omega, he, hw, h, fun ds μ1 vs I1 H1 pa s1 w1 ra => ?_, x.mono (by omega) (Same.refl I)⟩
  exact ⟨S, F, n + ka, I1, μ1, _, Qd, Xd, by omega, w1, ra.append (hd S I1), pa, q.mono (by omega) s1, fun d μ' cls dx I' H' p s2 w' er => x d μ' cls dx I' H' p (s1.trans s2) (w'.up (by omega)) er⟩
variable {x m : Str} {p pos apos : Pos} {a o : Expr} {es : List Expr} {wr : WA} {wo : WE}
/-- f(a, ..) -/
theorem g_call (F : FnW X.prog X.w X.K X.mg X.base k f fd ps (SpW c s kf)) (gd : Gds.ok X.A) (hr : Room k X.A) (hg : Gl X x) (hm : X.mg x = some (.ref f)) (hk : PySem.W.keepIn X.K (.ref f) = true) (hb : Binds X.K fd ps dv) (hd : Vals dvs dv) (hdd : ∀ S I, Reps c S I dd dvs) (tk : Takes X W)
    (ha : GA X c W ka (a :: es) wr) (hdb : (x == ("__debug__" : Str)) = false := by decide) (he : starEach (a :: es) X.env = (false, eval a X.env) :: starEach es X.env := by rfl) (hpl : (backTo pos (starEach es X.env)).any (·.1) = false := by rfl) :
    GE X c W (ka + kf) (.Call (.Name x p) (a :: es) [] pos) (wCall s dd wr) := by
  refine ⟨fun pins s σ H Q J h => ?_⟩
  refine wpAny_Call_Name_kw (ld_glob J hg hm ?_ hdb)
  refine PySem.W.callWith_K (h₀ := X.base) J.ok.mod.kin hk (thn (ha.run pos pins s σ H _ J (ld_call hdd h)) fun us s1 ⟨vs, H1, I1, r, q⟩ => ⟨I1.kIn, ?_⟩) he hpl
  exact run_fnW F gd hr hb hd tk I1 r q
/-- o.m(a, ..) -/
theorem ld_meth {n : Str} {σ : L2.St} {H : Hp} {Q : VK} (hd : ∀ S I, Reps c S I dd dvs) (h : ldE c W (ko + (ka + kf)) (wMeth n m s dd wo wr) σ H Q) : ldE c W ko wo σ H fun x H1 => ∃ a dx fs, x = .ref a ∧ H1 a = some (.ins (c.cl n) dx fs) ∧ fs.lookup m = none ∧
    ldA c W ka wr σ H1 fun vs H2 => SpW c s kf (x :: (vs ++ dvs)) H2 Q fun cls d H' => W cls d σ H' := by
  obtain ⟨S, F, nn, I, μ, e, Qd, Xd, hl, he, hw, h, q, x⟩ := h
  refine ⟨S, F, nn, I, μ, e, _, Xd, by omega, he, hw, h, fun d μ1 v I1 H1 pa s1 w1 ra => ?_, x.mono (by omega) (Same.refl I)⟩
  obtain ⟨fs, ds, e1, e2, pa⟩ := isOf_cases pa
  obtain ⟨a, dx, xs, rfl, h1, r1, l1⟩ := asObj_rep w1 ra e1
  refine ⟨a, dx, _, rfl, h1, fld_none e2, S, F, nn + ko, I1, μ1, e, _, Xd, by omega, he.mono s1, w1, pa, fun ds μ2 vs I2 H2 pb s2 w2 rb => ?_, x.mono (by omega) s1⟩
  exact ⟨S, F, nn + ko + ka, I2, μ2, _, Qd, Xd, by omega, w2, .cons (ra.mono s2) (rb.append (hd S I2)), pb, q.mono (by omega) (s1.trans s2), fun d μ' cls dx I' H' p s3 w' er => x d μ' cls dx I' H' p ((s1.trans s2).trans s3) (w'.up (by omega)) er⟩
theorem g_meth {n : Str} {pl : Sem Bool} (ho : GE X c W ko o wo) (cc : Cls X.K (c.cl n)) (hm : Meth X.K (c.cl n) m f) (F : FnW X.prog X.w X.K X.mg X.base k f fd ps (SpW c s kf)) (gd : Gds.ok X.A) (hr : Room k X.A) (hb : Binds X.K fd ps dv) (hd : Vals dvs dv) (hdd : ∀ S I, Reps c S I dd dvs) (tk : Takes X W)
    (ha : GA X c W ka (a :: es) wr)
    (hst : starEach (a :: es) X.env = (false, eval a X.env) :: starEach es X.env := by rfl) (hpl : (backTo pos (starEach es X.env)).any (·.1) = false := by rfl)
    (ht : eval (.Call (.Attribute o m apos) (a :: es) [] pos) X.env = (do
      let ov ← eval o X.env
      standAt apos.atName
      let (f, first) ← holding [ov] (getMethod ov m pl)
      callWith pos f first (backTo pos (starEach (a :: es) X.env)) (backToKw pos (keywordEach [] X.env))) := by rfl) :
    GE X c W (ko + (ka + kf)) (.Call (.Attribute o m apos) (a :: es) [] pos) (wMeth n m s dd wo wr) := by
  refine ⟨fun pins s σ H Q J h => ?_⟩
  refine PySem.W.methodCall_KW (pl := pl) (thn (ho.run pins s σ H _ J (ld_meth hdd h)) fun u s1 ⟨x, H1, I1, rx, a, dx, fs, ex, ea, l, q⟩ => ?_) ht
  subst ex
  obtain rfl : u = Value.ref a := rx
  refine getmeth_ok I1 ea cc hm l ?_
  refine PySem.W.callWith_K (first := [.ref a]) (h₀ := X.base) J.ok.mod.kin hm.kp (thn (ha.run pos pins s1 σ H1 _ I1 q) fun us s2 ⟨vs, H2, I2, r, q2⟩ => ⟨I2.kIn, ?_⟩) hst hpl
  exact run_fnW (us := .ref a :: us) (vs := .ref a :: vs) F gd hr hb hd tk I2 (.cons rfl r) q2
theorem g_meth0 {n : Str} {pl : Sem Bool} (ho : GE X c W ko o wo) (cc : Cls X.K (c.cl n)) (hm : Meth X.K (c.cl n) m f) (F : FnW X.prog X.w X.K X.mg X.base k f fd ps (SpW c s kf)) (gd : Gds.ok X.A) (hr : Room k X.A) (hb : Binds X.K fd ps dv) (hd : Vals dvs dv) (hdd : ∀ S I, Reps c S I dd dvs) (tk : Takes X W)
    (ht : eval (.Call (.Attribute o m apos) [] [] pos) X.env = (do
      let ov ← eval o X.env
      standAt apos.atName
      let (f, first) ← holding [ov] (getMethod ov m pl)
      callWith pos f first (backTo pos (starEach [] X.env)) (backToKw pos (keywordEach [] X.env))) := by rfl) :
    GE X c W (ko + (0 + kf)) (.Call (.Attribute o m apos) [] [] pos) (wMeth n m s dd wo waNil) := by
  refine ⟨fun pins s σ H Q J h => ?_⟩
  refine PySem.W.methodCall_KW (pl := pl) (thn (ho.run pins s σ H _ J (ld_meth hdd h)) fun u s1 ⟨x, H1, I1, rx, a, dx, fs, ex, ea, l, q⟩ => ?_) ht
  subst ex
  obtain rfl : u = Value.ref a := rx
  refine getmeth_ok I1 ea cc hm l ?_
  obtain ⟨S, F', nn, I, μ, e, Qd, Xd, hl, he, hw, h, q, x⟩ := q
  exact PySem.W.callWith_K0 (first := [.ref a]) I1.kIn hm.kp (run_fnW (us := [.ref a]) (vs := [.ref a]) F gd hr hb hd tk I1 (.cons rfl .nil) (q [] μ [] I H1 h (Same.refl I) hw .nil))
/-! properties, fields -/
theorem getprop_okW {pr g aa dx : Addr} {fs : List (Str × V)} {pins : List (Addr × Obj)} {σ : L2.St} {H : Hp} {s : Shared} {Q : VK} {b : Bool} {E' : Value → Shared → Prop} (J : Inv X pins σ H s) (ea : H aa = some (.ins C dx fs)) (cc : Cls X.K C) (hp : PropOf X.K C m pr g)
    (F : FnW X.prog X.w X.K X.mg X.base k g fd ps sp) (gd : Gds.ok X.A) (hr : Room (k + 1) X.A) (hb : Binds X.K fd ps []) (h : sp [.ref aa] H Q fun _ _ _ => False) : wpAny (model X.prog X.w) X.A (getAttr (.ref aa) m b) (EP X pins σ Q) E' s := by
  obtain ⟨mA, O, _, _, _, _⟩ := ins_get J.hok ea
  obtain ⟨od, Jx, _⟩ := O.look
  obtain ⟨rest, hrec⟩ := hp.rec_
  have I1 := J.tok (s.toks + 1)
  have hl : ([Value.ref aa] ++ ([] : List Value)).length = ps.length := by
    rw [← F.len _ _ _ _ h]
    rfl
  have hc : (PySem.W.clsIn X.K C).isSome = true := by
    obtain ⟨cd, hc, _⟩ := PySem.W.any_some cc.hd
    rw [hc]
    rfl
  have hbs := hb { s with toks := s.toks + 1 } [.ref aa] I1.kIn hl
  rw [List.append_nil] at hbs
  refine PySem.W.get_bind J.kIn Jx (PySem.W.plainGet_of (cc.get m)).1 (PySem.W.findObj_data hc hp.at_ hp.get hp.tak) (PySem.W.plainGet_of (cc.get m)).2 (wpAny_call (PySem.W.prop_get (s := { s with toks := s.toks + 1 }) J.kIn hrec ?_))
  refine codeAny_mono (F.run X.A.in1 X.stack { s with toks := s.toks + 1 } H ⟨[.ref aa], []⟩ [.ref aa] [.ref aa] Q _ (Gds.in1 gd) hr.in1 I1.env0.in1 hbs (.cons rfl .nil) h) fun r s' hq => ?_
  cases r with
  | error er =>
    obtain ⟨_, _, _, _, _, _, _, _, _, _, _, _, z⟩ := hq
    exact z.elim
  | ok fl =>
    cases fl with
    | ret u =>
      obtain ⟨v, H', I3, rv, q3⟩ := I1.after hq
      show wpAny _ _ (handedOut u) _ _ _
      rw [PySem.W.handedOut_of (handed_of rv)]
      exact wpAny_pure ⟨v, H', I3, rv, q3⟩
    | next => exact False.elim hq
    | brk => exact False.elim hq
    | cont => exact False.elim hq
theorem g_prop {n : Str} {pr g : Addr} (ho : GE X c W ko o wo) (cc : Cls X.K (c.cl n)) (hp : PropOf X.K (c.cl n) m pr g) (F : FnW X.prog X.w X.K X.mg X.base k g fd ps (SpW c s kf)) (gd : Gds.ok X.A) (hr : Room (k + 1) X.A) (hb : Binds X.K fd ps [])
    (hab : attributeBase o m X.env (eval o X.env) = eval o X.env := by rfl) : GE X c W (ko + kf) (.Attribute o m pos) (wProp n m s wo) := by
  refine ⟨fun pins sh σ H Q J h => ?_⟩
  have h2 : ldE c W ko wo σ H fun x H1 => ∃ a dx fs, x = .ref a ∧ H1 a = some (.ins (c.cl n) dx fs) ∧ SpW c s kf [.ref a] H1 Q fun _ _ _ => False := by
    obtain ⟨S, F', nn, I, μ, e, Qd, Xd, hl, he, hw, h, q, x⟩ := h
    refine ⟨S, F', nn, I, μ, e, _, Xd, by omega, he, hw, h, fun d μ1 v I1 H1 pa s1 w1 ra => ?_, x.mono (by omega) (Same.refl I)⟩
    obtain ⟨fs, ds, e1, e2, pa⟩ := isOf_cases pa
    obtain ⟨a, dx, xs, rfl, h1, r1, l1⟩ := asObj_rep w1 ra e1
    exact ⟨a, dx, _, rfl, h1, S, F', nn + ko, I1, μ1, [d], Qd, _, by omega, w1, .cons ra .nil, pa, q.mono (by omega) s1, fun _ _ _ _ _ _ z => z.elim⟩
  refine attr_of hab (thn (ho.run pins sh σ H _ J h2) fun u s1 ⟨x, H1, I1, rx, a, dx, fs, ex, ea, q⟩ => ?_)
  subst ex
  obtain rfl : u = Value.ref a := rx
  exact getprop_okW I1 ea cc hp F gd hr hb q
theorem g_fld {n : Str} (ho : GE X c W ko o wo) (cc : Cls X.K (c.cl n)) (hn : NoAttr X.K (c.cl n) m) (hb : attributeBase o m X.env (eval o X.env) = eval o X.env := by rfl) : GE X c W ko (.Attribute o m pos) (wFld n m wo) := L2.PE.imp (pe_fld ho hb) fun σ H Q h => by
  obtain ⟨S, F', nn, I, μ, e, Qd, Xd, hl, he, hw, h, q, x⟩ := h
  refine ⟨S, F', nn, I, μ, e, _, Xd, hl, he, hw, h, fun d μ1 v I1 H1 pa s1 w1 ra => ?_, x⟩
  dsimp only at pa
  split at pa
  · rename_i k fs ds e1
    obtain ⟨rfl, pa⟩ := pa
    split at pa
    · rename_i d2 e2
      obtain ⟨a, dx, xs, rfl, h1, r1, l1⟩ := asObj_rep w1 ra e1
      obtain ⟨y, h2, h3⟩ := fld_rep r1 e2
      exact ⟨_, _, _, _, y, rfl, h1, cc, hn, h2, q d2 μ1 y I1 H1 pa s1 w1 h3⟩
    · exact pa.elim
  · exact pa.elim
theorem g_setF {n : Str} {v : Expr} {wv : WE} {pos' : Pos} (ho : GE X c W ko o wo) (hv : GE X c W ka v wv) (cc : Cls X.K (c.cl n)) (hn : NoAttr X.K (c.cl n) m) (hs : swapsWith v (some (.Attribute o m pos')) pos.line X.env = pure false := by rfl) :
    GS X c W (ka + ko) (.Assign [.Attribute o m pos'] v pos) (wSetF n m wo wv) := L2.PS.imp (ps_fld ho hv hs) fun K σ H h => by
  obtain ⟨S, F', nn, I, μ, e, E, hl, he, hw, h, q⟩ := h
  refine ⟨S, F', nn, I, μ, e, _, _, by omega, he, hw, h, fun d μ1 v I1 H1 pa s1 w1 ra => ?_, (q.x he).mono (by omega) (Same.refl I)⟩
  refine ⟨S, F', nn + ka, I1, μ1, e, _, _, by omega, he.mono s1, w1, pa, fun d2 μ2 v2 I2 H2 pb s2 w2 rb => ?_, (q.x he).mono (by omega) s1⟩
  dsimp only at pb
  split at pb
  · split at pb
    · rename_i pp _ k fs ds e1
      obtain ⟨rfl, hz, pb⟩ := pb
      cases rb
      obtain ⟨_, o2, r2, h2⟩ := w2.m _ _ (ndO_some e1)
      cases r2 with
      | @obj _ dx _ _ xs r2 l2 hn2 =>
        obtain ⟨ys, g1, g2, g3⟩ := putN_rep (f := m) (ra.mono s2) r2 l2
        refine ⟨_, _, _, _, rfl, h2, cc, hn, by rw [List.length_zip, ← l2, Nat.min_self]; exact hz, ?_⟩
        rw [g3]
        exact q.nx e _ σ I2 _ pb (s1.trans s2) (he.mono (s1.trans s2)) ((w2.put (ndO_some e1) (NdR.obj g1 g2 hn2)).up (by omega))
    · exact pb.elim
  · exact pb.elim
/-! C(..) -/
theorem run_makeW {pins : List (Addr × Obj)} {σ : L2.St} {H : Hp} {s : Shared} {Q : VK} {us : List Value} {vs : List V} (M : Mk X.K C f) (F : FnW X.prog X.w X.K X.mg X.base k f fd ps sp) (gd : Gds.ok X.A) (hr : Room (k + 1) X.A) (hb : Binds X.K fd ps dv) (hd : Vals dvs dv)
    (tk : Takes X W) (J : Inv X pins σ H s) (r : Vals vs us)
    (h : ∀ x dx, H x = none → H dx = none → dx ≠ x → sp (.ref x :: (vs ++ dvs)) (upd (upd H dx (.own x)) x (.ins C dx [])) (fun v H2 => v = .non ∧ Q (.ref x) H2) fun cls d H' => W cls d σ H') :
    wpAny (model X.prog X.w) X.A (call (.ref C) us) (EP X pins σ Q) X.xe s := by
  have hq := h (s.heap.objs.size + 1) s.heap.objs.size (J.hok.fresh (Nat.le_succ _)) (J.hok.fresh (Nat.le_refl _)) (Nat.ne_of_lt (Nat.lt_succ_self _))
  have I2 := Inv.made (C := C) J
  have r2 : Vals (V.ref (s.heap.objs.size + 1) :: (vs ++ dvs)) (Value.ref (s.heap.objs.size + 1) :: (us ++ dv)) := .cons rfl (r.append hd)
  have hl : (Value.ref (s.heap.objs.size + 1) :: us ++ dv).length = ps.length := by
    have e := r2.length
    rw [F.len _ _ _ _ hq] at e
    exact e.symm
  have gd2 : Gds.ok (X.A.under (.builtin "type.__call__" ⟨.ref C :: us, []⟩)) := Gds.tyc gd
  refine wpAny_call (make_map (f := f) J.kIn M.makes M.init (beq_iff_eq.mp M.fn) (codeAny_mono (F.run _ X.stack _ _ ⟨Value.ref (s.heap.objs.size + 1) :: us, []⟩ (Value.ref (s.heap.objs.size + 1) :: (us ++ dv)) _ _ _ gd2 (hr.make C us [])
    (I2.env0.make C us []) (hb _ (Value.ref (s.heap.objs.size + 1) :: us) I2.kIn hl) r2 hq) fun r s' hq' => ?_))
  cases r with
  | error e => exact tk e s' (XE.of_call I2 (fun _ _ _ h => h) hq')
  | ok fl =>
    cases fl with
    | ret u =>
      obtain ⟨v, H', I3, rv, ev, q3⟩ := I2.after hq'
      subst ev
      exact ⟨rv, ⟨V.ref (s.heap.objs.size + 1), H', I3, rfl, q3⟩⟩
    | next => exact False.elim hq'
    | brk => exact False.elim hq'
    | cont => exact False.elim hq'
theorem ld_make {n : Str} {mm : Bool} {σ : L2.St} {H : Hp} {Q : VK} (hns : n ∈ c.ns) (hd : ∀ S I, Reps c S I dd dvs) (h : ldE c W (ka + kf) (wMake mm n s dd wr) σ H Q) : ldA c W ka wr σ H fun vs H1 => ∀ x dx, H1 x = none → H1 dx = none → dx ≠ x →
    SpW c s kf (.ref x :: (vs ++ dvs)) (upd (upd H1 dx (.own x)) x (.ins (c.cl n) dx [])) (fun v H2 => v = .non ∧ Q (.ref x) H2) fun cls d H' => W cls d σ H' := by
  obtain ⟨S, F, nn, I, μ, e, Qd, Xd, hl, he, hw, h, q, x⟩ := h
  refine ⟨S, F, nn, I, μ, e, _, Xd, by omega, he, hw, h, fun ds μ1 vs I1 H1 pa s1 w1 ra p dx hp hdx ne => ?_, x.mono (by omega) (Same.refl I)⟩
  have w2 := w1.frame (p := dx) (u := .own p) hdx
  have hp2 : upd H1 dx (.own p) p = none := by rw [upd_ne (Ne.symm ne)]; exact hp
  have w3 := w2.newCell (p := p) (u := .ins (c.cl n) dx []) (nd := .obj n [] []) hp2 (NdR.obj (fs := []) (xs := []) .nil rfl hns)
  refine ⟨S, F, nn + ka, I1, _, _, _, Xd, by omega, w3, .cons .cell (ra.append (hd S I1)), pa p (w1.fresh hp).2, fun d μ2 v I2 H2 pb s2 w4 rb => ?_, fun d μ' cls dx I' H' p s2 w' er => x d μ' cls dx I' H' p (s1.trans s2) (w'.up (by omega)) er⟩
  obtain ⟨rfl, pb⟩ := pb
  cases rb
  refine ⟨rfl, ?_⟩
  split at pb
  · rename_i nd e1
    obtain ⟨hi, o, r1, h1⟩ := w4.m p nd e1
    have hnc : ∀ a, S = some a → ¬ Cell a p := fun a ea qq => by
      have := ((w4.s a ea).2 p qq).2
      rw [e1] at this
      cases this
    refine (q.sett (m := mm)) _ (del μ2 p) _ I2 H2 pb (s1.trans s2) ((w4.drop fun b nd' e => ?_).up (by omega)) ⟨p, o, rfl, h1, r1, hi, del_same, hnc, w4.nfm e1⟩
    by_cases z : b = p
    · rw [z, del_same] at e
      cases e
    · rw [del_ne z] at e
      exact e
  · exact pb.elim
theorem g_make {n : Str} {mm : Bool} (M : Mk X.K (c.cl n) f) (F : FnW X.prog X.w X.K X.mg X.base k f fd ps (SpW c s kf)) (gd : Gds.ok X.A) (hr : Room (k + 1) X.A) (hg : Gl X x) (hm : X.mg x = some (.ref (c.cl n))) (hb : Binds X.K fd ps dv) (hd : Vals dvs dv) (hdd : ∀ S I, Reps c S I dd dvs) (tk : Takes X W)
    (ha : GA X c W ka (a :: es) wr) (hns : n ∈ c.ns := by decide) (hdb : (x == ("__debug__" : Str)) = false := by decide) (he : starEach (a :: es) X.env = (false, eval a X.env) :: starEach es X.env := by rfl) (hpl : (backTo pos (starEach es X.env)).any (·.1) = false := by rfl) :
    GE X c W (ka + kf) (.Call (.Name x p) (a :: es) [] pos) (wMake mm n s dd wr) := by
  refine ⟨fun pins s σ H Q J h => ?_⟩
  refine wpAny_Call_Name_kw (ld_glob J hg hm ?_ hdb)
  refine PySem.W.callWith_K (h₀ := X.base) J.ok.mod.kin M.kp (thn (ha.run pos pins s σ H _ J (ld_make hns hdd h)) fun us s1 ⟨vs, H1, I1, r, q⟩ => ⟨I1.kIn, ?_⟩) he hpl
  exact run_makeW M F gd hr hb hd tk I1 r q
end
end DL

set_option Elab.async false
set_option linter.all false
set_option maxRecDepth 100000
set_option maxHeartbeats 4000000
/-! A5: operators of own classes, instances called, enumerate, reversal, stars, methods of lists. -/
namespace DL
open PySem PySem.Calls PySem.Spec PyProof.Rows L2
variable [Gds]
def clsOf (μ : Mu) (x : D) : Option Str := (asObj μ x).map fun z => z.1
theorem clsOf_some {μ : Mu} {x : D} {n : Str} (h : clsOf μ x = some n) : ∃ fs ds, asObj μ x = some (n, fs, ds) := by
  unfold clsOf at h
  cases e : asObj μ x with
  | none =>
    rw [e] at h
    cases h
  | some z =>
    rw [e] at h
    cases h
    exact ⟨z.2.1, z.2.2, rfl⟩
def wCallI (n : Str) (s : WP) (r : WE) (a : WA) : WE := fun e μ Q X => r e μ (fun x μ1 => clsOf μ1 x = some n ∧ a e μ1 (fun ds μ2 => clsOf μ2 x = some n ∧ s (x :: ds) μ2 Q X) X) X
section
variable {X : Cx} {c : Ctx} {W : WX} {k kf ka kb ko : Nat} {f C : Addr} {fd : FuncData} {ps : List Str} {s : WP} {n : Str}
theorem cmpBack_of' {pins : List (Addr × Obj)} {σ : L2.St} {Q : VK} {u : Value} {s' : Shared} (h : EP X pins σ Q u s') : PySem.W.CmpBack (EP X pins σ Q) u s' := by
  obtain ⟨v, H', I, r, q⟩ := h
  cases v with
  | non => cases r; exact ⟨.non, H', I, rfl, q⟩
  | bl b => cases r; exact ⟨.bl b, H', I, rfl, q⟩
  | int i => obtain ⟨t, rfl⟩ := r; exact ⟨.int i, H', I, ⟨t, rfl⟩, q⟩
  | str z => obtain ⟨t, rfl⟩ := r; exact ⟨.str z, H', I, ⟨t, rfl⟩, q⟩
  | byt z => obtain ⟨t, rfl⟩ := r; exact ⟨.byt z, H', I, ⟨t, rfl⟩, q⟩
  | flt z => obtain ⟨t, rfl⟩ := r; exact ⟨.flt z, H', I, ⟨t, rfl⟩, q⟩
  | ref a => cases r; exact ⟨.ref a, H', I, rfl, q⟩
  | ty n => cases r; exact ⟨.ty n, H', I, rfl, q⟩
/-- the promise of a def out of a wish at values -/
theorem sp_of {S : Option SA} {F I H : Hp} {m : Nat} {μ : Mu} {ds : List D} {vs : List V} {Qd : QD} {Xd : QD} {Q : VK} {σ : L2.St} (hl : m + kf ≤ LIM) (w : Wd c S F m I μ H) (r : Reps c S I ds vs) (h : s ds μ Qd Xd) (q : QV c S F (m + kf) I Qd Q) (x : XV c W S F (m + kf) I σ Xd) :
    SpW c s kf vs H Q fun cls d H' => W cls d σ H' := ⟨S, F, m, I, μ, ds, Qd, Xd, hl, w, r, h, q, fun d μ' cls dx I' H' p s2 w' er => x d μ' cls dx I' H' p s2 w' er⟩
variable {a b o : Expr} {wa wb wo : WE} {pos : Pos} {es : List Expr} {wr : WA} {m : Bool}
/-- an instance called -/
theorem g_callI (ho : GE X c W ko o wo) (cc : StX.CallO X.K (c.cl n) f) (G : FnW X.prog X.w X.K X.mg X.base k f fd ps (SpW c s kf)) (gd : Gds.ok X.A) (hr : Room k X.A) (hb : Binds X.K fd ps []) (tk : Takes X W) (ha : GA X c W ka (a :: es) wr)
    (ht : eval (.Call o (a :: es) [] pos) X.env = (do callWith pos (← eval o X.env) [] (backTo pos (starEach (a :: es) X.env)) (backToKw pos (keywordEach [] X.env))) := by rfl)
    (he : starEach (a :: es) X.env = (false, eval a X.env) :: starEach es X.env := by rfl) (hpl : (backTo pos (starEach es X.env)).any (·.1) = false := by rfl) : GE X c W (ko + (ka + kf)) (.Call o (a :: es) [] pos) (wCallI n s wo wr) := by
  refine ⟨fun pins sh σ H Q J h => ?_⟩
  have h2 : ldE c W ko wo σ H fun y H1 => ∃ p, y = V.ref p ∧ ldA c W ka wr σ H1 fun vs H2 => (∃ dx fs, H2 p = some (.ins (c.cl n) dx fs)) ∧ SpW c s kf (V.ref p :: vs) H2 Q fun cls d H' => W cls d σ H' := by
    obtain ⟨S, F, mm, I, μ, e, Qd, Xd, hl, he, hw, h, q, x⟩ := h
    refine ⟨S, F, mm, I, μ, e, _, Xd, by omega, he, hw, h, fun d μ1 v I1 H1 pa s1 w1 ra => ?_, x.mono (by omega) (Same.refl I)⟩
    obtain ⟨g1, pa⟩ := pa
    obtain ⟨fs, ds, e1⟩ := clsOf_some g1
    obtain ⟨p, _, _, rfl, hp, _⟩ := asObj_rep w1 ra e1
    refine ⟨p, rfl, S, F, mm + ko, I1, μ1, e, _, Xd, by omega, he.mono s1, w1, pa, fun ds μ2 vs I2 H2 pb s2 w2 rb => ?_, x.mono (by omega) s1⟩
    obtain ⟨g2, pb⟩ := pb
    obtain ⟨fs2, ds2, e2⟩ := clsOf_some g2
    obtain ⟨p', dx', xs', e3, hp', _⟩ := asObj_rep w2 (ra.mono s2) e2
    cases e3
    exact ⟨⟨_, _, hp'⟩, sp_of (by omega) w2 (.cons (ra.mono s2) rb) pb (q.mono (by omega) (s1.trans s2)) (x.mono (by omega) (s1.trans s2))⟩
  refine Call_ (thn (ho.run pins sh σ H _ J h2) fun u s1 ⟨y, H1, I1, ry, p, ey, q⟩ => ?_) ht
  subst ey
  obtain rfl : u = Value.ref p := ry
  refine StX.callO_with (thn (ha.run pos pins s1 σ H1 _ I1 q) fun us s2 ⟨vs, H2, I2, r, hi, q2⟩ => ?_) he hpl
  obtain ⟨dx, fs, hi⟩ := hi
  obtain ⟨ox, od, Jx, hd⟩ := StX.insC_at (X := X) I2 (.inr ⟨dx, fs, hi⟩)
  refine ⟨⟨c.cl n, ox, od, Jx, hd⟩, ?_⟩
  refine wpAny_call (PySem.W.kco_code I2.kIn Jx hd cc.at_ cc.fn cc.fi ?_)
  have rr : Vals (V.ref p :: vs) (Value.ref p :: us) := .cons rfl r
  have hl : ((Value.ref p :: us) ++ ([] : List Value)).length = ps.length := by rw [List.append_nil, ← rr.length]; exact G.len _ _ _ _ q2
  have hbs := hb s2 (.ref p :: us) I2.kIn hl
  rw [List.append_nil] at hbs
  refine codeAny_mono (G.run X.A X.stack s2 H2 ⟨.ref p :: us, []⟩ (.ref p :: us) (.ref p :: vs) Q _ gd hr I2.env0 hbs rr q2) fun r s' hq => ?_
  cases r with
  | error e => exact tk e s' (XE.of_call I2 (fun _ _ _ h => h) hq)
  | ok fl =>
    cases fl with
    | ret u => exact I2.after hq
    | next => exact False.elim hq
    | brk => exact False.elim hq
    | cont => exact False.elim hq
end
/-! ### enumerate, reversal, stars -/
def enumD : Nat → List D → List D
  | _, [] => []
  | i, d :: ds => .tup [.int (i : Int), d] :: enumD (i + 1) ds
theorem enumD_get : ∀ (ds : List D) (k i : Nat), (enumD k ds)[i]? = (ds[i]?).map fun d => .tup [.int ((k + i : Nat) : Int), d]
  | [], _, _ => rfl
  | d :: ds, k, 0 => rfl
  | d :: ds, k, i + 1 => by
    show (enumD (k + 1) ds)[i]? = (ds[i]?).map _
    rw [enumD_get ds (k + 1) i, show k + 1 + i = k + (i + 1) by omega]
theorem enumD_len : ∀ (ds : List D) (k : Nat), (enumD k ds).length = ds.length
  | [], _ => rfl
  | d :: ds, k => by rw [enumD, List.length_cons, List.length_cons, enumD_len ds]
def wiEnum (a : WA) : WI := fun e μ Q X => a e μ (fun ds μ1 => one ds fun d => match sqD μ1 d with
  | some xs => Q ⟨enumD 0 xs, okS d xs⟩ μ1
  | Option.none => False) X
def wRev (m : Bool) (a : WE) : WE := fun e μ Q X => a e μ (fun x μ1 => match x with
  | .tup ds => Q (.tup ds.reverse) μ1
  | x => (match seqL μ1 x with
    | some ds => sett m Q (.n (.list ds.reverse)) μ1
    | Option.none => False)) X
def waStar (a : WE) (r : WA) : WA := fun e μ Q X => a e μ (fun x μ1 => match sqD μ1 x with
  | some ds => r e μ1 (fun es μ2 => Q (ds ++ es) μ2) X
  | Option.none => False) X
section
variable {X : Cx} {c : Ctx} {W : WX} {k ka kb : Nat} {a tg : Expr} {wa : WE} {pos p : Pos} {es : List Expr} {wr : WA} {m : Bool}
/-- what enumerate tells of a sequence that is walked -/
theorem itd_enum {S : Option SA} {F0 I1 : Hp} {J : It} {ds : List D} {ok : Mu → Prop} {sq : Hp → List V → Prop} (h : ∀ F n I μ H, Same I1 I → Wd c S F n I μ H → ok μ → ∃ xs, sq H xs ∧ Reps c S I ds xs)
    (hgo : ∀ i H xs x, sq H xs → xs[i]? = some x → J.go i H) (hy : ∀ i H xs x v H', sq H xs → xs[i]? = some x → J.yld i H v H' → ∃ T, v = .ref T ∧ H T = none ∧ H' = upd H T (.tup [.int (i : Nat), x])) (hst : ∀ i H xs, sq H xs → xs.length ≤ i → J.stop i H) : ItD c S F0 J I1 ⟨enumD 0 ds, ok⟩ := fun F i n I μ H _ s w o => by
  obtain ⟨xs, hq, r⟩ := h F n I μ H s w o
  show (∀ d, (enumD 0 ds)[i]? = some d → _) ∧ ((enumD 0 ds)[i]? = _ → _)
  rw [enumD_get]
  refine ⟨fun d hd => ?_, fun hd => ?_⟩
  · cases hx : ds[i]? with
    | none =>
      rw [hx] at hd
      cases hd
    | some d0 =>
      rw [hx] at hd
      have hd' : D.tup [.int ((0 + i : Nat) : Int), d0] = d := Option.some.inj hd
      obtain ⟨x, hx1, rx⟩ := r.get hx
      refine ⟨hgo i H xs x hq hx1, fun v H' yl => ?_⟩
      obtain ⟨T, e1, hT, e2⟩ := hy i H xs x v H' hq hx1 yl
      have sm : Same I (upd I T (.tup [.int (i : Nat), x])) := same_new (w.fresh hT).1
      refine ⟨_, sm, by rw [e2]; exact w.new hT, ?_⟩
      rw [e1, ← hd', Nat.zero_add]
      exact .tup (.inl upd_same) (.cons .int (.cons (rx.mono sm) .nil))
  · refine hst i H xs hq ?_
    rw [← r.length]
    cases hx : ds[i]? with
    | none => exact List.getElem?_eq_none_iff.mp hx
    | some d0 =>
      rw [hx] at hd
      cases hd
theorem itd_enumL {S : Option SA} {F0 I1 : Hp} {aa : Addr} {ds : List D} {ok : Mu → Prop} (h : ∀ F n I μ H, Same I1 I → Wd c S F n I μ H → ok μ → ∃ xs, SqL c.K H aa xs ∧ Reps c S I ds xs) : ItD c S F0 (Ite c.K aa) I1 ⟨enumD 0 ds, ok⟩ :=
  itd_enum (sq := fun H xs => SqL c.K H aa xs) h (fun i H xs x hq hx => ⟨xs, x, hq, hx⟩) (fun i H xs x v H' hq hx ⟨T, x2, e1, hT, e2, y⟩ => by
    have e3 := y xs hq
    rw [hx] at e3
    have e4 : x = x2 := Option.some.inj e3
    subst e4
    exact ⟨T, e1, hT, e2⟩) fun i H xs hq hl => ⟨xs, hq, hl⟩
theorem itd_enumT {S : Option SA} {F0 I1 : Hp} {aa : Addr} {ds : List D} {ok : Mu → Prop} (h : ∀ F n I μ H, Same I1 I → Wd c S F n I μ H → ok μ → ∃ xs, SqT c.K H aa xs ∧ Reps c S I ds xs) : ItD c S F0 (IteT c.K aa) I1 ⟨enumD 0 ds, ok⟩ :=
  itd_enum (sq := fun H xs => SqT c.K H aa xs) h (fun i H xs x hq hx => ⟨xs, x, hq, hx⟩) (fun i H xs x v H' hq hx ⟨T, x2, e1, hT, e2, y⟩ => by
    have e3 := y xs hq
    rw [hx] at e3
    have e4 : x = x2 := Option.some.inj e3
    subst e4
    exact ⟨T, e1, hT, e2⟩) fun i H xs hq hl => ⟨xs, hq, hl⟩
theorem gi_enum {tpos : Pos} {elts : List Expr} {kk : Nat} (hg : Gl X "enumerate") (hm : X.mg "enumerate" = none) (ha : GA X c W k [a] wr) (hs : starEach [a] X.env = [(false, eval a X.env)] := by rfl) (hK : X.K = c.K := by rfl) : GI X c W k (.Tuple elts kk tpos) (.Call (.Name "enumerate" p) [a] [] pos) (wiEnum wr) := by
  obtain ⟨K, cl, tb, ns, es0⟩ := c
  cases hK
  refine L2.PI.imp (pi_enumU hg hm ha hs) fun σ H R h => ?_
  obtain ⟨S, F, n, I, μ, e, Qd, Xd, hl, he, hw, h, q, x⟩ := h
  refine ⟨S, F, n, I, μ, e, _, Xd, hl, he, hw, h, fun ds μ1 vs I1 H1 p s1 u1 r1 => ?_, x⟩
  obtain ⟨z, rfl, p2⟩ := one_cases p
  obtain ⟨v, rfl, rv⟩ := reps1 r1
  clear p
  split at p2
  · rename_i xs e1
    cases rv with
    | list g r =>
      cases e1
      exact ⟨_, _, rfl, .inl ⟨SqL.of (u1.lst g), q _ μ1 _ I1 H1 F (fun _ _ z => z) p2 s1 u1 (itd_enumL fun F n I2 μ2 H2 s2 w2 _ => ⟨_, SqL.of (w2.lst (s2 _ _ g)), r.mono s2⟩)⟩⟩
    | tup g r =>
      cases e1
      exact ⟨_, _, rfl, .inr ⟨u1.tupH g, q _ μ1 _ I1 H1 F (fun _ _ z => z) p2 s1 u1 (itd_enumT fun F n I2 μ2 H2 s2 w2 _ => ⟨_, w2.tupH (Same.tup s2 g), r.mono s2⟩)⟩⟩
    | script g =>
      cases e1
      exact ⟨_, _, rfl, .inl ⟨u1.seqH g, q _ μ1 _ I1 H1 F (fun _ _ z => z) p2 s1 u1 (itd_enumL fun F n I2 μ2 H2 s2 w2 _ => ⟨_, w2.seqH (s2.seq g), Reps.of_ints⟩)⟩⟩
    | cell =>
      obtain ⟨ys, h1, h2⟩ := u1.cellL e1
      refine ⟨_, _, rfl, .inl ⟨SqL.of h1, q _ μ1 _ I1 H1 F (fun _ _ z => z) p2 s1 u1 (itd_enumL fun F n I2 μ2 H2 s2 w2 o => ?_)⟩⟩
      obtain ⟨zs, h3, h4⟩ := w2.cellL o
      exact ⟨zs, SqL.of h3, h4⟩
    | _ => cases e1
  · exact p2.elim
theorem g_rev {kk : Nat} {p1 p2 p3 : Pos} (ha : GE X c W k a wa) (hK : X.K = c.K := by rfl) : GE X c W k (.Subscript a (.Slice none none (some (.UnaryOp .USub (.Constant (.int 1) kk p1) p2)) p3) pos) (wRev m wa) := by
  obtain ⟨K, cl, tb, ns, es0⟩ := c
  cases hK
  refine L2.PE.imp (pe_revU ha) fun σ H Q h => ?_
  obtain ⟨S, F, n, I, μ, e, Qd, Xd, hl, he, hw, h, q, x⟩ := h
  refine ⟨S, F, n, I, μ, e, _, Xd, hl, he, hw, h, fun d μ1 v I1 H1 pa s1 w1 ra => ?_, x⟩
  dsimp only at pa
  split at pa
  · cases ra with
    | @tup aa _ xs g r =>
      refine ⟨_, _, rfl, .inr ⟨w1.tupH g, fun p hp => ?_⟩⟩
      have sm : Same I1 (upd I1 p (.tup xs.reverse)) := same_new (w1.fresh hp).1
      exact q _ μ1 _ _ _ pa (s1.trans sm) (w1.new hp) (.tup (.inl upd_same) (r.reverse.mono sm))
  · split at pa
    · rename_i ds e1
      obtain ⟨l, xs, rfl, h1, r1⟩ := seqL_rep w1 ra e1
      refine ⟨_, _, rfl, .inl ⟨SqL.of h1, fun p hp => ?_⟩⟩
      obtain ⟨w2, rr⟩ := RsR.new w1 hp (NdR.list r1.reverse)
      exact (q.sett (m := m)) _ μ1 _ _ _ pa s1 w2 rr
    · exact pa.elim
theorem ga_star (ha : GE X c W ka a wa) (hr : GA X c W kb es wr) (hs : starEach (.Starred a p :: es) X.env = (true, eval a X.env) :: starEach es X.env := by rfl) (hK : X.K = c.K := by rfl) : GA X c W (ka + kb) (.Starred a p :: es) (waStar wa wr) := by
  obtain ⟨K, cl, tb, ns, es0⟩ := c
  cases hK
  refine L2.PA.imp (StX.pa_star ha hr hs) fun σ H Q h => ?_
  obtain ⟨S, F, n, I, μ, e, Qd, Xd, hl, he, hw, h, q, x⟩ := h
  refine ⟨S, F, n, I, μ, e, _, Xd, by omega, he, hw, h, fun d μ1 v I1 H1 pa s1 w1 ra => ?_, x.mono (by omega) (Same.refl I)⟩
  dsimp only at pa
  split at pa
  · rename_i ds e1
    obtain ⟨l, xs, rfl, h1, r1⟩ := sqD_rep w1 ra e1
    refine ⟨l, xs, rfl, h1.symm, S, F, n + ka, I1, μ1, e, _, Xd, by omega, he.mono s1, w1, pa, fun es μ2 vs I2 H2 pb s2 w2 rb => ?_, x.mono (by omega) s1⟩
    exact q _ μ2 _ I2 H2 pb (s1.trans s2) (w2.up (by omega)) ((r1.mono s2).append rb)
  · exact pa.elim
end
/-! ### methods of lists -/
/-- a list that is a cell -/
def lstC (x : D) (μ : Mu) (f : Addr → List D → Prop) : Prop := match x with
  | .cell p => (match ndL (μ p) with
    | some ds => f p ds
    | Option.none => False)
  | _ => False
theorem lstC_cases {x : D} {μ : Mu} {f : Addr → List D → Prop} (h : lstC x μ f) : ∃ p ds, x = .cell p ∧ ndL (μ p) = some ds ∧ f p ds := by
  unfold lstC at h
  split at h
  · split at h
    · rename_i e
      exact ⟨_, _, rfl, e, h⟩
    · exact h.elim
  · exact h.elim
def isL (μ : Mu) (x : D) : Prop := (seqL μ x).isSome = true
def mPop : WM := fun x xs μ Q _ => xs = [] ∧ lstC x μ fun p ds => match ds[ds.length - 1]? with
  | some y => Q (.v y) (up μ p (.list ds.dropLast))
  | Option.none => False
/-- x.m(..) of a list -/
def wLm (m : Bool) (o : WM) (r : WE) (a : WA) : WE := fun e μ Q X => r e μ (fun x μ1 => isL μ1 x ∧ a e μ1 (fun xs μ2 => o x xs μ2 (sett m Q) X) X) X
section
variable {X : Cx} {c : Ctx} {W : WX} {ko ka : Nat} {a o : Expr} {wo : WE} {es : List Expr} {wr : WA} {m : Bool} {name : Str} {id : String}
/-- a method that keeps a wish -/
def MtW (X : Cx) (c : Ctx) (id : String) (o : WM) : Prop := ∃ r, MtR X id r ∧ ∀ S F n I μ d ds v vs H Qd Xd Q, Wd c S F n I μ H → Rep c S I d v → Reps c S I ds vs → o d ds μ Qd Xd → QVR c S F n I Qd Q → r v vs H Q
theorem mw_pop : MtW X c "list.pop" mPop := ⟨_, mt_pop, fun S F n I μ d ds v vs H Qd Xd Q w rv rs h q => by
  obtain ⟨rfl, h⟩ := h
  obtain ⟨p, xs, rfl, e, h⟩ := lstC_cases h
  cases rs
  cases rv
  obtain ⟨zs, h1, h2⟩ := w.cellL e
  split at h
  · rename_i y ey
    obtain ⟨u, hu, ru⟩ := h2.get ey
    refine ⟨p, zs, u, rfl, rfl, h1, by rw [← h2.length]; exact hu, ?_⟩
    exact q _ _ _ I _ h (Same.refl I) (w.put (ndL_some e) (NdR.list h2.dropLast)) ru
  · exact h.elim⟩
theorem ld_lm {oo : WM} {r : V → List V → Hp → VK → Prop} (hr : ∀ S F n I μ d ds v vs H Qd Xd Q, Wd c S F n I μ H → Rep c S I d v → Reps c S I ds vs → oo d ds μ Qd Xd → QVR c S F n I Qd Q → r v vs H Q) {σ : L2.St} {H : Hp} {Q : VK} (h : ldE c W (ko + ka) (wLm m oo wo wr) σ H Q) : tBM c.K "list" r (ldE c W ko wo) (ldA c W ka wr) σ H Q := by
  obtain ⟨S, F, n, I, μ, e, Qd, Xd, hl, he, hw, h, q, x⟩ := h
  refine ⟨S, F, n, I, μ, e, _, Xd, by omega, he, hw, h, fun d μ1 v I1 H1 pa s1 w1 ra => ?_, x.mono (by omega) (Same.refl I)⟩
  obtain ⟨g1, pa⟩ := pa
  obtain ⟨ds, e1⟩ := Option.isSome_iff_exists.mp g1
  obtain ⟨l, xs, rfl, h1, r1⟩ := seqL_rep w1 ra e1
  refine ⟨.inl ⟨rfl, _, SqL.of h1⟩, S, F, n + ko, I1, μ1, e, _, Xd, by omega, he.mono s1, w1, pa, fun es μ2 vs I2 H2 pb s2 w2 rb => ?_, x.mono (by omega) s1⟩
  exact hr S F _ I2 μ2 _ _ _ _ H2 _ _ Q w2 (ra.mono s2) rb pb (QV.sett (q.mono (by omega) (s1.trans s2)))
theorem g_lm0 {oo : WM} {ex : Expr} (hm : MtW X c id oo) (hb : ∀ r, MtR X id r → PE X ex (tBM0 X.K "list" r (ldE c W ko wo))) (hK : X.K = c.K := by rfl) : GE X c W (ko + 0) ex (wLm m oo wo waNil) := by
  obtain ⟨r, h1, h2⟩ := hm
  refine L2.PE.imp (hb r h1) fun σ H Q h => ?_
  rw [hK]
  obtain ⟨S, F, n, I, μ, e, Qd, Xd, hl, he, hw, h, q, x⟩ := ld_lm h2 h
  refine ⟨S, F, n, I, μ, e, Qd, Xd, hl, he, hw, h, fun d μ1 v I1 H1 pa s1 w1 ra => ?_, x⟩
  obtain ⟨g1, g2⟩ := q d μ1 v I1 H1 pa s1 w1 ra
  obtain ⟨S, F, n, I, μ, e, Qd, Xd, hl, he, hw, h, q, x⟩ := g2
  exact ⟨g1, q [] μ [] I H1 h (Same.refl I) hw .nil⟩
end
end DL

set_option Elab.async false
set_option linter.all false
set_option maxRecDepth 100000
set_option maxHeartbeats 4000000
/-! Y3: isinstance of an error, whatever dict it has. -/
namespace DL
open PySem PySem.W PySem.Spec PySem.Calls PyProof.Rows L2
section
variable {prog : Program} {w : PySem.World} {A : Around} {E : Value → Shared → Prop} {s : Shared} {K : Frag} {x C : Addr} {ox : Obj} {od : Option Obj}
theorem class_find (T : ExcC K C) : findObj K C od "__class__" = some (.bind (.builtin "getset_descriptor.__get__") (.builtin "object.__class__")) := by
  have hc : (clsIn K C).isSome = true := by
    obtain ⟨cd, z, _⟩ := any_some T.hd
    rw [z]
    rfl
  cases od with
  | none => exact findObj_dataN hc T.ha T.hn T.ht
  | some o => exact findObj_data hc T.ha T.hn T.ht
theorem class_exc {Q : Option Value → Shared → Prop} (T : ExcC K C) (kin : K.In s.heap) (ins : PySem.W.InstAt s.heap x ox C od) (fin : Q (some (.ref C)) { s with toks := s.toks + 1 }) : wpAny (model prog w) A (getAttr? (.ref x) "__class__") Q E s := by
  obtain ⟨hp, gs, dr, tk, osx⟩ := s
  have l0 := ins.type (M := model prog w)
  have l1 := looks_findIn (M := model prog w) kin T.hg
  have l2 := looks_findIn (M := model prog w) kin T.hk
  have l3 := looks_find (M := model prog w) kin ins (class_find T)
  have below : Looks (model prog w) hp (isInstance (.ref x) (.type "BaseException")) true := l0.andThen (looks_subIn kin T.hs)
  have z0 : (false && onTheHeap (Value.builtin "BaseException.__getattribute__")) = false := rfl
  have z2 : (Value.builtin "BaseException.__getattribute__" == Value.builtin "object.__getattribute__") = false := by decide +kernel
  have z1 : (onTheHeap (Value.ref C) && Value.builtin "BaseException.__getattribute__" == Value.builtin "object.__getattribute__") = false := by
    rw [z2]
    rfl
  unfold getAttr? getAttrBy? getAttrBy
  refine wpAny_bind (wpAny_mkText (wpAny_bind (wpAny_attempt (wpAny_holding (wpAny_bind (l0.at (wpAny_bind (l1.at ?_))))))))
  show wpAny _ _ (if (onTheHeap (Value.ref C) && Value.builtin "BaseException.__getattribute__" == Value.builtin "object.__getattribute__") = true then _ else _) _ _ _
  rw [z1, if_neg Bool.false_ne_true]
  unfold getAttrByItsOwn hookBefore
  refine wpAny_bind ?_
  rw [if_pos (show onTheHeap (Value.ref C) = true from rfl)]
  refine l2.at (wpAny_bind (wpAny_attempt (wpAny_holding ?_)))
  unfold callGetattribute
  rw [z0, if_neg Bool.false_ne_true]
  unfold boundAndCalled
  rw [PySem.F.excAttr_ValueError.ga.bind (.ref x)]
  refine wpAny_bind (wpAny_pure ?_)
  show wpAny _ _ (call (.builtin "BaseException.__getattribute__") [.ref x, .str "__class__" tk]) _ _ _
  refine wpAny_call (codeAny_call_builtin PySem.F.excAttr_ValueError.ga.plain PySem.F.entry_bexc_ga (@check_slot (model prog w) _ _ ⟨hp, gs, dr, tk + 1, osx⟩ "BaseException.__getattribute__" "BaseException" "__getattribute__" (.ref x) [.str "__class__" tk] [] _ (by decide +kernel) (by decide +kernel) below (PySem.F.args_bexc_ga (.ref x) (.str "__class__" tk)) ?_))
  unfold Builtin.«object.__getattribute__»
  refine wpAny_bind (wpAny_of_eq (a := ((Value.ref x : Value), [Value.str "__class__" tk])) (by first | rfl | (simp only [slotArgs]; rfl)) (wpAny_bind (wpAny_pure (wpAny_bind (l0.at (wpAny_bind (l3.at ?_)))))))
  show wpAny _ _ (holding [Value.builtin "object.__class__"] (call (.builtin "getset_descriptor.__get__") [.builtin "object.__class__", .ref x, .ref C]) >>= ret) _ _ _
  refine wpAny_bind (wpAny_holding (wpAny_call (class_get (s := ⟨hp, gs, dr, tk + 1, osx⟩) (ox := ox) (od := od) kin ins T.hm (wpAny_pure ?_))))
  show wpAny _ _ (handedOut (.ref C)) _ _ _
  rw [handedOut_of (v := .ref C) rfl]
  first
    | exact wpAny_pure (wpAny_pure fin)
    | exact wpAny_pure fin
    | exact wpAny_pure (wpAny_bind (wpAny_pure (wpAny_pure fin)))
theorem kitx_err (T : ExcC K C) : KitX K (.ref x) (.ref C) (fun h => ∃ ox od, PySem.W.InstAt h x ox C od) where
  ty := fun _ _ _ ⟨_, _, ins⟩ => ins.type
  it := fun _ _ kin _ => by
    obtain ⟨cd, hc, _⟩ := any_some T.hd
    unfold clsIn at hc
    split at hc
    · rename_i _ _ _ _ ho
      intro A' Q' E' s' k q
      unfold isType loadHead
      exact wpAny_bind (wpAny_loadPart (k _ _ (kin _ _ ho)) (wpAny_pure q))
    · cases hc
  ne := fun h tp dd its n sl kin htp => by
    obtain ⟨cd, hc, _⟩ := any_some T.hd
    refine Bool.eq_false_iff.mpr fun q => ?_
    have e : C = tp := Value.ref.inj (beq_iff_eq.mp q)
    subst e
    unfold clsIn at hc
    split at hc
    · rename_i _ _ _ _ ho
      cases (kin _ _ ho).symm.trans htp
    · cases hc
  ca := fun kin ⟨_, _, ins⟩ k => class_exc T kin ins k
end
/-- the error at a as the machine sees it -/
theorem inst_err {X : Cx} {pins : List (Addr × Obj)} {σ : L2.St} {H : Hp} {s : Shared} {a C : Addr} {d : Option Addr} {fs : List Str} {xs : List V} (J : Inv X pins σ H s) (h : H a = some (ErO a (.ref C) d)) (hf : ErF H d fs xs) : ∃ oe od, PySem.W.InstAt s.heap a oe C od ∧ ∀ f v, (List.zip fs xs).lookup f = some v → ∃ o u, od = some o ∧ PySem.W.lookIn f o = some (some u) ∧ RelV v u := by
  obtain ⟨⟨oe, vs, h1, h2, h3⟩, _⟩ := J.hok a _ h
  have no : PySem.W.notCls oe = true := by
    unfold PySem.W.notCls
    rw [h3]
  rcases hf.2 with ⟨rfl, rfl⟩ | ⟨dx, rfl, hd⟩
  · exact ⟨oe, none, ⟨h1, h2.1, no, by rw [h2.2]; trivial⟩, fun f v z => by simp at z⟩
  · obtain ⟨mA, hns, hr⟩ := J.hok dx _ hd
    obtain ⟨od, ho, hl⟩ := lookIn_ns hns
    refine ⟨oe, some od, ⟨h1, h2.1, no, by rw [h2.2]; exact ho⟩, fun f v z => ?_⟩
    obtain ⟨u, hu, ru⟩ := RelO.some_of (v := v) (o := mA f) (by rw [← z]; exact hr f)
    exact ⟨od, u, rfl, by rw [hl, hu], ru⟩
end DL

set_option Elab.async false
set_option linter.all false
set_option maxRecDepth 100000
set_option maxHeartbeats 4000000
/-! A6: equality of data, isinstance, in, repr, fields of errors. -/
namespace DL
open PySem PySem.Spec PyProof.Rows L2
variable [Gds]
mutual
def pd : D → PyData
  | .bool b => .bool b
  | .int i => .int i
  | .str s => .str s
  | .list ds => .list (pds ds)
  | .tup ds => .tuple (pds ds)
  | _ => .none
def pds : List D → List PyData
  | [] => []
  | d :: ds => pd d :: pds ds
end
mutual
/-- data of None, bools, ints, texts, lists, tuples -/
def plainD : D → Bool
  | .none => true
  | .bool _ => true
  | .int _ => true
  | .str _ => true
  | .list ds => plainsD ds
  | .tup ds => plainsD ds
  | _ => false
def plainsD : List D → Bool
  | [] => true
  | d :: ds => plainD d && plainsD ds
end
section
variable {c : Ctx} {S : Option SA} {F : Hp} {n : Nat} {I H : Hp} {μ : Mu}
mutual
theorem rep_dp (w : Wd c S F n I μ H) : ∀ {d : D} {v : V}, Rep c S I d v → plainD d = true → Dp c.K H v (pd d)
  | _, _, .none, _ => by rw [pd]; exact .non; all_goals intros; contradiction
  | _, _, .bool, _ => by rw [pd]; exact .bl _
  | _, _, .int, _ => by rw [pd]; exact .int _
  | _, _, .str, _ => by rw [pd]; exact .str _
  | _, _, .list h r, p => by
    rw [pd]
    rw [plainD] at p
    exact .lst (SqL.of (w.lst h)) (reps_dp w r p)
  | _, _, .tup h r, p => by
    rw [pd]
    rw [plainD] at p
    exact .tup (w.tupH h) (reps_dp w r p)
  | _, _, .dk h r l, p => by simp [plainD] at p
  | _, _, .dt h r l, p => by simp [plainD] at p
  | _, _, .obj h r l _, p => by simp [plainD] at p
  | _, _, .script h, p => by simp [plainD] at p
  | _, _, .state h t, p => by simp [plainD] at p
  | _, _, .ty _, p => by simp [plainD] at p
  | _, _, .cls _, p => by simp [plainD] at p
  | _, _, .err h f r _, p => by simp [plainD] at p
  | _, _, .cell, p => by simp [plainD] at p
theorem reps_dp (w : Wd c S F n I μ H) : ∀ {ds : List D} {vs : List V}, Reps c S I ds vs → plainsD ds = true → DpAll c.K H vs (pds ds)
  | _, _, .nil, _ => by rw [pds]; exact .nil
  | _, _, .cons h r, p => by
    rw [pds]
    rw [plainsD, Bool.and_eq_true] at p
    exact .cons (rep_dp w h p.1) (reps_dp w r p.2)
end
end
/-- a list that is a cell, as it stands -/
def drf (μ : Mu) : D → D
  | .cell p => (match ndL (μ p) with
    | some ds => .list ds
    | Option.none => .cell p)
  | d => d
theorem drf_dp {c : Ctx} {S : Option SA} {F : Hp} {n : Nat} {I H : Hp} {μ : Mu} {d : D} {v : V} (w : Wd c S F n I μ H) (r : Rep c S I d v) (p : plainD (drf μ d) = true) : Dp c.K H v (pd (drf μ d)) := by
  cases d with
  | cell a =>
    cases r
    cases e : ndL (μ a) with
    | none =>
      have e2 : drf μ (.cell a) = .cell a := by
        simp only [drf, e]
      rw [e2] at p
      simp [plainD] at p
    | some ds =>
      have e2 : drf μ (.cell a) = .list ds := by
        simp only [drf, e]
      rw [e2] at p ⊢
      rw [pd]
      rw [plainD] at p
      obtain ⟨xs, h1, h2⟩ := w.cellL e
      exact .lst (SqL.of h1) (reps_dp w h2 p)
  | _ => exact rep_dp w r p
/-- == of plain data -/
structure EqOk (a b : D) : Prop where
  pa : plainD a = true
  pb : plainD b = true
  sa : SeqAt.shaped (pd a) = true
  sb : SeqAt.shaped (pd b) = true
def eqG (a b : D) (Q : Bool → Prop) : Prop := EqOk a b ∧ Q (PyData.eqv (pd a) (pd b))
def eqU (x y : D) (μ : Mu) (Q : Bool → Prop) : Prop := match x with
  | .int i => (match y with
    | .int j => Q (decide (i = j))
    | y => eqG (.int i) (drf μ y) Q)
  | .str a => (match y with
    | .str b => Q (decide (a = b))
    | y => eqG (.str a) (drf μ y) Q)
  | x => eqG (drf μ x) (drf μ y) Q
def oEq : WOp := fun x y μ Q _ => eqU x y μ fun b => Q (.v (.bool b)) μ
def oNe : WOp := fun x y μ Q _ => eqU x y μ fun b => Q (.v (.bool (!b))) μ
section
variable {X : Cx} {c : Ctx} {W : WX}
theorem dec_intV {i j : Int} : decide (V.int i = V.int j) = decide (i = j) := by
  by_cases h : i = j
  · rw [h, decide_eq_true rfl, decide_eq_true rfl]
  · rw [decide_eq_false h, decide_eq_false fun z => h (V.int.inj z)]
theorem dec_strV {i j : Str} : decide (V.str i = V.str j) = decide (i = j) := by
  by_cases h : i = j
  · rw [h, decide_eq_true rfl, decide_eq_true rfl]
  · rw [decide_eq_false h, decide_eq_false fun z => h (V.str.inj z)]
theorem eqU_cases {S : Option SA} {F : Hp} {n : Nat} {I H : Hp} {μ : Mu} {x y : D} {v u : V} {Q : Bool → Prop} (w : Wd c S F n I μ H) (rx : Rep c S I x v) (ry : Rep c S I y u) (h : eqU x y μ Q) : (scal v u = true ∧ Q (decide (v = u))) ∨ ∃ d e, Dp c.K H v d ∧ Dp c.K H u e ∧ SeqAt.shaped d = true ∧ SeqAt.shaped e = true ∧ Q (PyData.eqv d e) := by
  have gen : ∀ {x : D} {v : V}, Rep c S I x v → eqG (drf μ x) (drf μ y) Q → ∃ d e, Dp c.K H v d ∧ Dp c.K H u e ∧ SeqAt.shaped d = true ∧ SeqAt.shaped e = true ∧ Q (PyData.eqv d e) := fun rx ⟨o, q⟩ => ⟨_, _, drf_dp w rx o.pa, drf_dp w ry o.pb, o.sa, o.sb, q⟩
  unfold eqU at h
  split at h
  · split at h
    · cases rx
      cases ry
      exact .inl ⟨rfl, by rw [dec_intV]; exact h⟩
    · exact .inr (gen rx h)
  · split at h
    · cases rx
      cases ry
      exact .inl ⟨rfl, by rw [dec_strV]; exact h⟩
    · exact .inr (gen rx h)
  · exact .inr (gen rx h)
theorem w_eq (hu : X.A.units + 64 < cLine) (hK : X.K = c.K := by rfl) : Op2 X c W 0 (compareOp .Eq) oEq := by
  obtain ⟨K, cl, tb, ns, es0⟩ := c
  cases hK
  refine op2_of (op_eq.or (op_eqD hu)) fun σ x y H Q h => ?_
  obtain ⟨S, F, n, I, μ, dx, dy, Qd, Xd, hl, w, rx, ry, h, q, _⟩ := h
  rcases eqU_cases w rx ry h with ⟨h1, h2⟩ | ⟨d, e, h1, h2, h3, h4, h5⟩
  · exact .inl ⟨h1, q _ μ _ I H h2 (Same.refl I) w .bool⟩
  · exact .inr ⟨d, e, h1, h2, h3, h4, q _ μ _ I H h5 (Same.refl I) w .bool⟩
theorem w_ne (hu : X.A.units + 64 < cLine) (hK : X.K = c.K := by rfl) : Op2 X c W 0 (compareOp .NotEq) oNe := by
  obtain ⟨K, cl, tb, ns, es0⟩ := c
  cases hK
  refine op2_of (op_ne.or (op_neD hu)) fun σ x y H Q h => ?_
  obtain ⟨S, F, n, I, μ, dx, dy, Qd, Xd, hl, w, rx, ry, h, q, _⟩ := h
  rcases eqU_cases w rx ry h with ⟨h1, h2⟩ | ⟨d, e, h1, h2, h3, h4, h5⟩
  · exact .inl ⟨h1, q _ μ _ I H h2 (Same.refl I) w .bool⟩
  · exact .inr ⟨d, e, h1, h2, h3, h4, q _ μ _ I H h5 (Same.refl I) w .bool⟩
end
/-! ### isinstance -/
inductive TyD where
  | b (n : String) | o (n : Str)
def ndTy : Option Nd → Option TyD
  | some (.list _) => some (.b "list")
  | some (.dk _ _) => some (.b "dict")
  | some (.dt _ _) => some (.b "dict")
  | some (.obj n _ _) => some (.o n)
  | Option.none => Option.none
def tyD (μ : Mu) : D → Option TyD
  | .none => some (.b "NoneType")
  | .bool _ => some (.b "bool")
  | .int _ => some (.b "int")
  | .str _ => some (.b "str")
  | .list _ => some (.b "list")
  | .tup _ => some (.b "tuple")
  | .dk _ _ => some (.b "dict")
  | .dt _ _ => some (.b "dict")
  | .obj n _ _ => some (.o n)
  | .err n _ _ => some (.o n)
  | .cell p => ndTy (μ p)
  | _ => Option.none
/-- the errors of the package -/
def errNames : List Str := ["CrossError", "BadRule", "BadPower", "BadFormula", "BadPair", "BadProgram", "BadPoint", "BadCount", "TooMany", "NoCore", "BadDeed", "NothingLeft", "BadJournal", "BadText"]
def subCC (n m : Str) : Bool := decide (n = m) || (decide (m = "CrossError") && errNames.contains n)
def subCT (n : Str) (t : String) : Bool := decide (t = "ValueError") && errNames.contains n
def isi1 (t : TyD) (y : D) : Option Bool := match y with
  | .ty u => (match t with
    | .b a => kitB a u
    | .o n => some (subCT n u))
  | .cls m => (match t with
    | .b _ => some false
    | .o n => some (subCC n m))
  | _ => Option.none
def isiN (t : TyD) : List D → Option Bool
  | [] => some false
  | y :: ys => (match isi1 t y, isiN t ys with
    | some a, some b => some (a || b)
    | _, _ => Option.none)
def isiD (t : TyD) (y : D) : Option Bool := match y with
  | .tup ys => isiN t ys
  | y => isi1 t y
def cbIsi : WC := fun xs μ Q _ => two xs fun x y => match tyD μ x with
  | some t => (match isiD t y with
    | some b => Q (.v (.bool b)) μ
    | Option.none => False)
  | Option.none => False
/-- what a law's classes say -/
structure CtxOk (c : Ctx) : Prop where
  isi : ∀ n ∈ c.ns, IsiC c.K (c.cl n)
  exc : ∀ n ∈ c.es, ExcC c.K (c.cl n)
  cc : ∀ n ∈ c.ns ++ c.es, ∀ m ∈ c.ns ++ c.es, PySem.W.kitOne c.K (.ref (c.cl n)) (.ref (c.cl m)) = some (subCC n m)
  ct : ∀ n ∈ c.ns ++ c.es, ∀ t ∈ tyNames, PySem.W.kitOne c.K (.ref (c.cl n)) (.type t) = some (subCT n t)
  tc : ∀ t ∈ tyNames, ∀ n ∈ c.ns ++ c.es, PySem.W.kitOne c.K (.type t) (.ref (c.cl n)) = some false
def TyV (c : Ctx) : TyD → Value → Prop
  | .b n, u => u = .type n ∧ n ∈ tyNames
  | .o n, u => u = .ref (c.cl n) ∧ n ∈ c.ns ++ c.es
section
variable {X : Cx} {c : Ctx} {W : WX}
/-- a type, of a walked dict with tuple keys, too -/
def TyZ (K : PySem.W.Frag) (H : Hp) (v : V) (u : Value) : Prop := TyX K H v u ∨ ∃ a o kvs, v = .ref a ∧ u = .type "dict" ∧ H a = some (.frz o (.dT kvs))
theorem kitZ_of {pins : List (Addr × Obj)} {σ : L2.St} {H : Hp} {s : Shared} {x : V} {u t : Value} (I : Inv X pins σ H s) (rx : RelV x u) (ty : TyZ X.K H x t) : ∃ P : Heap → Prop, PySem.W.KitX X.K u t P ∧ P s.heap ∧ u ≠ .builtin "__main__.__loader__#opaque" := by
  rcases ty with ty | ⟨a, ob, kvs, rfl, rfl, ea⟩
  · exact kit_of I rx ty
  · cases (show u = Value.ref a from rx)
    obtain ⟨_, _, _, xs, _, o, es, ep, h1, h2, _⟩ := (show ObjOk X.prog X.w H s.heap a (.frz ob (.dT kvs)) from I.hok a _ ea)
    exact ⟨_, PySem.W.kitx_dict, ⟨o, h1, h2.1⟩, fun z => nomatch z⟩
theorem ty_rep (T : CtxOk c) {S : Option SA} {F : Hp} {n : Nat} {I H : Hp} {μ : Mu} {d : D} {v : V} {t : TyD} (w : Wd c S F n I μ H) (r : Rep c S I d v) (h : tyD μ d = some t) (he : ∀ n fs ds, d ≠ .err n fs ds) : ∃ u, TyV c t u ∧ TyZ c.K H v u := by
  cases r with
  | none => cases h; exact ⟨_, ⟨rfl, by decide⟩, .inl <| .base .non⟩
  | bool => cases h; exact ⟨_, ⟨rfl, by decide⟩, .inl <| .base (.bl _)⟩
  | int => cases h; exact ⟨_, ⟨rfl, by decide⟩, .inl <| .base (.int _)⟩
  | str => cases h; exact ⟨_, ⟨rfl, by decide⟩, .inl <| .base (.str _)⟩
  | list g r => cases h; exact ⟨_, ⟨rfl, by decide⟩, .inl <| .base (.lst (w.lst g))⟩
  | tup g r =>
    cases h
    refine ⟨_, ⟨rfl, by decide⟩, ?_⟩
    rcases w.tupH g with (g | ⟨o, g⟩) | ⟨o, its, m, g, h2, _⟩
    · exact .inl (.base (.tup g))
    · exact .inl (.fTuple g)
    · exact .inl (.kTuple g h2)
  | dk g r l =>
    cases h
    refine ⟨_, ⟨rfl, by decide⟩, ?_⟩
    rcases w.i _ _ g with z | ⟨_, ob, z⟩
    · exact .inl (.base (.dK z))
    · exact .inl (.fDict z)
  | dt g r l =>
    cases h
    refine ⟨_, ⟨rfl, by decide⟩, ?_⟩
    rcases w.i _ _ g with z | ⟨_, ob, z⟩
    · exact .inl (.base (.dT z))
    · exact .inr ⟨_, _, _, rfl, rfl, z⟩
  | obj g r l hn =>
    cases h
    have hc := T.isi _ hn
    exact ⟨_, ⟨rfl, List.mem_append_left _ hn⟩, .inl <| .base (.ins (w.ins g) hc.cl hc.ha hc.hn hc.htk hc.hm)⟩
  | err => exact absurd rfl (he _ _ _)
  | @cell p =>
    have h' : ndTy (μ p) = some t := h
    cases e : μ p with
    | none =>
      rw [e] at h'
      cases h'
    | some nd =>
      rw [e] at h'
      obtain ⟨_, o, r, hh⟩ := w.m p nd e
      cases r with
      | list r => cases h'; exact ⟨_, ⟨rfl, by decide⟩, .inl <| .base (.lst hh)⟩
      | dk r l => cases h'; exact ⟨_, ⟨rfl, by decide⟩, .inl <| .base (.dK hh)⟩
      | dt r l => cases h'; exact ⟨_, ⟨rfl, by decide⟩, .inl <| .base (.dT hh)⟩
      | obj r l hn =>
        cases h'
        have hc := T.isi _ hn
        exact ⟨_, ⟨rfl, List.mem_append_left _ hn⟩, .inl <| .base (.ins hh hc.cl hc.ha hc.hn hc.htk hc.hm)⟩
  | _ => cases h
theorem Wd.err {S : Option SA} {F : Hp} {n : Nat} {I H : Hp} {μ : Mu} {a : Addr} {cv : Value} {dd : Option Addr} (w : Wd c S F n I μ H) (h : I a = some (ErO a cv dd)) : H a = some (ErO a cv dd) := by
  rcases w.i _ _ h with z | ⟨z, _⟩
  · exact z
  · cases z
theorem Wd.erF {S : Option SA} {F : Hp} {n : Nat} {I H : Hp} {μ : Mu} {dd : Option Addr} {fs : List Str} {xs : List V} (w : Wd c S F n I μ H) (h : ErF I dd fs xs) : ErF H dd fs xs := by
  refine ⟨h.1, ?_⟩
  rcases h.2 with z | ⟨dx, z1, z2⟩
  · exact .inl z
  · rcases w.i _ _ z2 with z | ⟨z, _⟩
    · exact .inr ⟨dx, z1, z⟩
    · cases z
theorem isi1_kit (T : CtxOk c) {S : Option SA} {I : Hp} {t : TyD} {u : Value} {y : D} {v : V} {b : Bool} (ht : TyV c t u) (r : Rep c S I y v) (h : isi1 t y = some b) : ∃ k, ClsV v k ∧ PySem.W.kitOne c.K u k = some b := by
  cases r with
  | ty hn =>
    refine ⟨_, .ty _, ?_⟩
    cases t with
    | b a =>
      obtain ⟨rfl, _⟩ := ht
      exact kit_ty h
    | o n =>
      obtain ⟨rfl, hm⟩ := ht
      rw [T.ct _ hm _ hn]
      exact h
  | cls hn =>
    refine ⟨_, .own _, ?_⟩
    cases t with
    | b a =>
      obtain ⟨rfl, hm⟩ := ht
      rw [T.tc _ hm _ hn]
      exact h
    | o n =>
      obtain ⟨rfl, hm⟩ := ht
      rw [T.cc _ hm _ hn]
      exact h
  | _ => cases h
theorem isiN_kit (T : CtxOk c) {S : Option SA} {I : Hp} {t : TyD} {u : Value} (ht : TyV c t u) : ∀ {ys : List D} {vs : List V} {b : Bool}, Reps c S I ys vs → isiN t ys = some b → ∃ ks, Paired ClsV vs ks ∧ PySem.W.kitAny c.K u ks = some b
  | _, _, _, .nil, h => by
    cases h
    exact ⟨[], .nil, rfl⟩
  | y :: ys, _, b, .cons r rs, h => by
    rw [isiN] at h
    split at h
    · rename_i b1 b2 e1 e2
      cases h
      obtain ⟨k, h1, h2⟩ := isi1_kit T ht r e1
      obtain ⟨ks, p, q⟩ := isiN_kit T ht rs e2
      refine ⟨k :: ks, .cons h1 p, kitAny_cons h2 (fun z => ?_) fun z => ?_⟩
      · rw [z]
        exact q
      · rw [z]
        rfl
    · cases h
theorem isiN_tup (T : CtxOk c) {S : Option SA} {I : Hp} {t : TyD} {u : Value} {ys : List D} {v : V} {b : Bool} (ht : TyV c t u) (r : Rep c S I (.tup ys) v) (h : isiN t ys = some b) : ∃ a xs ks, v = .ref a ∧ TupA c.K I a xs ∧ Paired ClsV xs ks ∧ PySem.W.kitAny c.K u ks = some b := by
  cases r with
  | tup g r =>
    obtain ⟨ks, p, q⟩ := isiN_kit T ht r h
    exact ⟨_, _, ks, rfl, g, p, q⟩
/-- isinstance, any value that is known, a class or a tuple of them -/
theorem call_isiW (T : CtxOk c) {pins : List (Addr × Obj)} {s : Shared} {σ σ' : L2.St} {H : Hp} {xs : List V} {us : List Value} {Q : VK} (hK : X.K = c.K) (J : Inv X pins σ H s) (rv : Vals xs us) (h : ldC c W 0 cbIsi σ' xs H Q) : wpAny (model X.prog X.w) X.A (call (.builtin "isinstance") us) (EP X pins σ Q) X.xe s := by
  obtain ⟨K, cl, tb, ns, es0⟩ := c
  cases hK
  obtain ⟨S, F, n, I, μ, ds, Qd, Xd, hl, w, rs, h, q, _⟩ := h
  obtain ⟨x, y, rfl, g⟩ := two_cases h
  obtain ⟨v, u, rfl, rx, ry⟩ := reps2 rs
  obtain ⟨v1, v2, rfl, r1, r2⟩ := vals2 rv
  clear h rs rv
  split at g
  · rename_i t et
    split at g
    · rename_i b eb
      have fin : ∀ tk, EP X pins σ Q (.bool b) { s with toks := tk } := fun tk => ⟨.bl b, H, J.tok tk, rfl, q _ μ _ I H g (Same.refl I) w .bool⟩
      -- the type of x, as isinstance asks it
      have ask : ∃ z, TyV ⟨X.K, cl, tb, ns, es0⟩ t z ∧ ∃ P : Heap → Prop, PySem.W.KitX X.K v1 z P ∧ P s.heap ∧ v1 ≠ .builtin "__main__.__loader__#opaque" := by
        by_cases he : ∃ n fs ds, x = .err n fs ds
        · obtain ⟨m, fs, es, rfl⟩ := he
          cases et
          cases rx with
          | err g1 g2 g3 hn =>
            obtain ⟨oe, od, ins, _⟩ := inst_err (C := cl m) (fs := fs) J (w.err g1) (w.erF g2)
            cases r1
            exact ⟨_, ⟨rfl, List.mem_append_right _ hn⟩, _, kitx_err (T.exc m hn), ⟨oe, od, ins⟩, fun z => nomatch z⟩
        · obtain ⟨z, h1, h2⟩ := ty_rep T w rx et fun n fs ds e => he ⟨n, fs, ds, e⟩
          exact ⟨z, h1, kitZ_of J r1 h2⟩
      obtain ⟨z, tz, P, Z, p, hx⟩ := ask
      unfold isiD at eb
      split at eb
      · obtain ⟨a, xs, ks, rfl, gt, pk, ek⟩ := isiN_tup T tz ry eb
        cases (show v2 = Value.ref a from r2)
        obtain ⟨its, rv, ht, hz⟩ := J.tuple (w.tupH gt)
        have e3 := ClsV.all pk rv
        subst e3
        obtain ⟨⟨oc, od, dt, sl⟩, h1, h2, m, h3⟩ := ht
        dsimp only at h2 h3
        subst h2 h3
        exact PySem.W.kia_tup Z J.kIn p h1 ek hx fin
      · obtain ⟨k, ck, ek⟩ := isi1_kit T tz ry eb
        have e2 := ck.eq r2
        subst e2
        exact PySem.W.kia_one Z J.kIn p ek hx fin
    · exact g.elim
  · exact g.elim
theorem w_isi (T : CtxOk c) (hK : X.K = c.K := by rfl) : CbW X c (.builtin "isinstance") cbIsi := ⟨fun xs H Q => ∃ W σ, ldC c W 0 cbIsi σ xs H Q, fun pins s σ H xs us Q J rv ⟨W, σ', h⟩ => call_isiW T hK J rv h, fun W σ xs H Q h => ⟨W, σ, h⟩⟩
end
/-! ### in -/
def flatD : D → Bool
  | .none => true
  | .bool _ => true
  | .int _ => true
  | .str _ => true
  | _ => false
/-- == of flat data -/
def eqF : D → D → Bool
  | .none, .none => true
  | .bool a, .bool b => a == b
  | .bool a, .int j => (if a then 1 else 0) == j
  | .int i, .bool b => i == (if b then 1 else 0)
  | .int i, .int j => i == j
  | .str a, .str b => a == b
  | _, _ => false
def vF : D → V
  | .bool b => .bl b
  | .int i => .int i
  | .str s => .str s
  | _ => .non
theorem rep_flat {c : Ctx} {S : Option SA} {I : Hp} {d : D} {v : V} (r : Rep c S I d v) (h : flatD d = true) : v = vF d ∧ flatV v = true := by
  cases r <;> first | exact ⟨rfl, rfl⟩ | cases h
theorem reps_flat {c : Ctx} {S : Option SA} {I : Hp} : ∀ {ds : List D} {vs : List V}, Reps c S I ds vs → ds.all flatD = true → vs = ds.map vF ∧ vs.all flatV = true
  | _, _, .nil, _ => ⟨rfl, rfl⟩
  | _, _, .cons r rs, h => by
    rw [List.all_cons, Bool.and_eq_true] at h
    obtain ⟨h1, h2⟩ := rep_flat r h.1
    obtain ⟨h3, h4⟩ := reps_flat rs h.2
    exact ⟨by rw [h1, h3, List.map_cons], by rw [List.all_cons, h2, h4]; rfl⟩
def inF (x : D) (ds : List D) : Bool := ds.any fun y => eqF y x
theorem eqF_eqV {a b : D} (ha : flatD a = true) (hb : flatD b = true) : eqV (vF a) (vF b) = eqF a b := by
  cases a <;> cases b <;> first | rfl | (simp [flatD] at ha; done) | (simp [flatD] at hb; done)
theorem inF_inV {x : D} {ds : List D} (hx : flatD x = true) (hd : ds.all flatD = true) : inV (vF x) (ds.map vF) = inF x ds := by
  unfold inV inF
  induction ds with
  | nil => rfl
  | cons d ds ih =>
    rw [List.all_cons, Bool.and_eq_true] at hd
    rw [List.map_cons, List.any_cons, List.any_cons, ih hd.2, eqF_eqV hd.1 hx]
def oIn (neg : Bool) : WOp := fun x y μ Q _ => match sqD μ y with
  | some ds => flatD x = true ∧ ds.all flatD = true ∧ Q (.v (.bool (if neg then !inF x ds else inF x ds))) μ
  | Option.none => False
section
variable {X : Cx} {c : Ctx} {W : WX}
theorem ld_in {neg : Bool} {σ : L2.St} {x y : V} {H : Hp} {Q : VK} (h : ld2 c W 0 (oIn neg) σ x y H Q) : rIn c.K neg x y H Q := by
  obtain ⟨S, F, n, I, μ, dx, dy, Qd, Xd, hl, w, rx, ry, h, q, _⟩ := h
  unfold oIn at h
  split at h
  · rename_i ds e
    obtain ⟨l, xs, rfl, h1, r1⟩ := sqD_rep w ry e
    obtain ⟨e1, f1⟩ := rep_flat rx h.1
    obtain ⟨e2, f2⟩ := reps_flat r1 h.2.1
    refine ⟨l, xs, rfl, h1, f1, f2, ?_⟩
    rw [e1, e2, inF_inV h.1 h.2.1]
    exact q _ μ _ I H h.2.2 (Same.refl I) w .bool
  · exact h.elim
theorem w_in (hK : X.K = c.K := by rfl) : Op2 X c W 0 (compareOp .In) (oIn false) := by
  obtain ⟨K, cl, tb, ns, es0⟩ := c
  cases hK
  exact op2_of op_in_seq fun σ x y H Q h => ld_in h
end
/-! ### repr of plain data -/
structure Sh (L k : Nat) (p : PyData) : Prop where
  len : p.shown.length ≤ L
  dep : p.depth ≤ k
  can : p.showable = true
  nod : p.hasDict = false
section
variable {X : Cx} {c : Ctx} {W : WX}
end
/-! ### a field of an error -/
def wErrF (f : Str) (r : WE) : WE := fun e μ Q X => r e μ (fun x μ1 => match x with
  | .err _ fs ds => (match fldD f fs ds with
    | some d => Q d μ1
    | Option.none => False)
  | _ => False) X
section
variable {X : Cx} {c : Ctx} {W : WX} {ko : Nat} {o : Expr} {wo : WE} {m : Str} {pos : Pos}
end
end DL

set_option Elab.async false
set_option linter.all false
set_option maxRecDepth 100000
set_option maxHeartbeats 4000000
/-! A7: the law's own state of draws. -/
namespace DL
open PySem PyProof.Rows L2
variable [Gds]
def rAbs : List V → Hp → VK → Prop := fun xs H Q => ∃ i, xs = [.int i] ∧ Q (.int (if i < 0 then -i else i)) H
def rInt1 : List V → Hp → VK → Prop := fun xs H Q => (∃ i, xs = [.int i] ∧ Q (.int i) H) ∨ ∃ k, xs = [.bl k] ∧ Q (.int (if k then 1 else 0)) H
theorem call_absG {X : Cx} : CallR X (.builtin "abs") rAbs := call_abs
theorem call_intG {X : Cx} : CallR X (.type "int") rInt1 := call_int1
theorem pds_ints : ∀ ns : List Int, pds (ns.map D.int) = ns.map PyData.int
  | [] => rfl
  | n :: ns => by rw [List.map_cons, pds, pd, pds_ints ns]; rfl
theorem plains_ints : ∀ ns : List Int, plainsD (ns.map D.int) = true
  | [] => rfl
  | n :: ns => by rw [List.map_cons, plainsD, plainD, plains_ints ns]; rfl
theorem eqvAll_ints : ∀ ns ms : List Int, PyData.eqvAll (ns.map PyData.int) (ms.map PyData.int) = decide (ns = ms)
  | [], [] => rfl
  | [], _ :: _ => rfl
  | _ :: _, [] => rfl
  | n :: ns, m :: ms => by
    rw [List.map_cons, List.map_cons, PyData.eqvAll, PyData.eqv, eqvAll_ints ns ms]
    by_cases h : n = m
    · subst h
      by_cases h2 : ns = ms
      · subst h2
        simp
      · simp [h2]
    · simp [h]
theorem canLay_ints : ∀ ns : List Int, PyData.canLayAll0 (ns.map PyData.int) = true
  | [] => rfl
  | n :: ns => by rw [List.map_cons, PyData.canLayAll0, PyData.canLay0, canLay_ints ns]; rfl
theorem depth_ints : ∀ ns : List Int, PyData.depthAll (ns.map PyData.int) = 0
  | [] => rfl
  | n :: ns => by
    rw [List.map_cons, PyData.depthAll, depth_ints ns]
    rfl
theorem shaped_ints (ns : List Int) : SeqAt.shaped (pd (.list (ns.map D.int))) = true := by
  rw [pd, pds_ints]
  unfold SeqAt.shaped
  rw [PyData.canLay0, canLay_ints, PyData.depth, depth_ints]
  rfl
theorem shaped_intsT (ns : List Int) : SeqAt.shaped (pd (.tup (ns.map D.int))) = true := by
  rw [pd, pds_ints]
  unfold SeqAt.shaped
  rw [PyData.canLay0, canLay_ints, PyData.depth, depth_ints]
  rfl
/-- f(a, ..) where nothing is raised -/
theorem pe_callW0 {X : Cx} {k : Nat} {f : Addr} {fd : FuncData} {ps : List Str} {sp : Sp} {x : Str} {p pos : Pos} {e : Expr} {es : List Expr} {t : TA} (G : FnW X.prog X.w X.K X.mg X.base k f fd ps sp) (gd : Gds.ok X.A) (room : Room k X.A) (gl : Gl X x) (hm : X.mg x = some (.ref f)) (kp : PySem.W.keepIn X.K (.ref f) = true) (bi : Binds X.K fd ps [])
    (ha : PA X (e :: es) t) (hdb : (x == ("__debug__" : Str)) = false := by decide) (he : starEach (e :: es) X.env = (false, eval e X.env) :: starEach es X.env := by rfl) (hpl : (backTo pos (starEach es X.env)).any (·.1) = false := by rfl) :
    PE X (.Call (.Name x p) (e :: es) [] pos) (tCall sp [] E0 t) := ⟨fun pins s σ H Q J h => wpAny_Call_Name_kw (ld_glob J gl hm (PySem.W.callWith_K (h₀ := X.base) J.ok.mod.kin kp (thn (ha.run pos pins s σ H _ J h) fun us s1 ⟨vs, H1, J1, r1, q1⟩ => ⟨J1.kIn, run_fnW (W := W0) (dvs := []) G gd room bi .nil (fun u s' z => by
      obtain ⟨_, _, _, _, _, _, _, _, _, _, _, _, _, _, _, _, z⟩ := z
      exact z.elim) J1 r1 q1⟩) he hpl) hdb)⟩
def stD (l k : Addr) (r t : Int) : List (Key × V) := [(Sum.inr "wide", .ref l), (Sum.inr "cells", .ref k), (Sum.inr "rest", .int r), (Sum.inr "turn", .int t)]
theorem st_wide (l k : Addr) (r t : Int) : valV (stD l k r t) (Sum.inr "wide") = some (.ref l) := rfl
theorem st_cells (l k : Addr) (r t : Int) : valV (stD l k r t) (Sum.inr "cells") = some (.ref k) := rfl
theorem st_rest (l k : Addr) (r t : Int) : valV (stD l k r t) (Sum.inr "rest") = some (.int r) := rfl
theorem st_turn (l k : Addr) (r t : Int) : valV (stD l k r t) (Sum.inr "turn") = some (.int t) := rfl
theorem put_rest (l k : Addr) (r t r' : Int) : putK (stD l k r t) (Sum.inr "rest") (.int r') = stD l k r' t := rfl
theorem put_turn (l k : Addr) (r t t' : Int) : putK (stD l k r t) (Sum.inr "turn") (.int t') = stD l k r t' := rfl

theorem tabs_upd {T : List (Addr × Str)} {H : Hp} {x : Addr} {o u : HO} (h : LamX.Tabs T H) (hx : H x = some o) (ho : notTX o) : LamX.Tabs T (upd H x u) := by
  refine tabs_keep h (fun p hp => upd_ne fun z => ?_) fun b φ e => ?_
  · obtain ⟨ps, h1, _⟩ := h p hp
    rw [z, hx] at h1
    cases h1
    exact ho
  · rw [upd_ne fun z => ?_]
    · exact e
    · rw [z, hx] at e
      cases e
      exact ho
/-- the state's own cells change -/
theorem Wd.st {c : Ctx} {s : SA} {F : Hp} {n m : Nat} {I H H' : Hp} {μ : Mu} (w : Wd c (some s) F n I μ H) (h : StOk s m H') (k : ∀ b o, b ≠ s.d → b ≠ s.l → b ≠ s.k → H b = some o → H' b = some o) : Wd c (some s) F m I μ H' := by
  have ne : ∀ {b : Addr}, (Cell s b → False) → b ≠ s.d ∧ b ≠ s.l ∧ b ≠ s.k := fun {b} hb => ⟨fun e => hb (.inl (.inl e)), fun e => hb (.inl (.inr (.inl e))), fun e => hb (.inl (.inr (.inr e)))⟩
  have nI : ∀ {b : Addr} {o : HO}, I b = some o → Cell s b → False := fun {b o} e q => by
    rw [((w.s s rfl).2 b q).1] at e
    cases e
  have nM : ∀ {b : Addr} {o : Nd}, μ b = some o → Cell s b → False := fun {b o} e q => by
    rw [((w.s s rfl).2 b q).2] at e
    cases e
  refine ⟨fun b o e => ?_, fun b nd e => ?_, fun a e => ?_, w.ni, fun b o e => ?_, w.z⟩
  · obtain ⟨n1, n2, n3⟩ := ne (nI e)
    rcases w.i b o e with z | ⟨z, ob, z2⟩
    · exact .inl (k b o n1 n2 n3 z)
    · exact .inr ⟨z, ob, k b _ n1 n2 n3 z2⟩
  · obtain ⟨n1, n2, n3⟩ := ne (nM e)
    obtain ⟨h1, o, h2, h3⟩ := w.m b nd e
    exact ⟨h1, o, h2, k b _ n1 n2 n3 h3⟩
  · cases e
    exact ⟨h, (w.s s rfl).2⟩
  · obtain ⟨h1, hL⟩ := w.f b o e
    obtain ⟨n1, n2, n3⟩ := ne (b := b) (by
      rcases hL with ⟨_, _, _, h5⟩ | ⟨ob, u, _, _, h3⟩
      · exact h5 s rfl
      · exact nI h3)
    exact ⟨k b _ n1 n2 n3 h1, hL⟩
/-- one more long number -/
def wp_law_mixed : WP := fun ds μ Q _ => match ds with
  | [.state] => ∀ i, Q (.int i) μ
  | _ => False
abbrev rd_law_mixed (c : Ctx) : TS := (tSeq (tPar 1 2 (tCons (tOp (rI0 fun i j => .int (i + j)) (tDGet (tVar 0) (tC (.str "turn"))) (tC (.int 1))) (tCons (tC (.int 0)) tNil)))
    (tSeq (sDPut (tVar 0) (tC (.str "turn")) (tVar 1))
    (tSeq (tFor (iList c.K (tLst (tCons (tC (.int 2147483629)) (tCons (tC (.int 2147483587)) (tCons (tC (.int 2147483579)) (tCons (tC (.int 2147483563)) tNil)))))) (gName 3) (tSeq (tAsg (tOp (rI0 fun i j => .int (i + j)) (tOp (rI CMul fun i j => .int (i * j)) (tC (.int 49999)) (tVar 1)) (tOp (rI CDiv fun i j => .int (i / j)) (tVar 3) (tC (.int 23)))) (gName 4))
    (tSeq (tFor (iList c.K (tDGet (tVar 0) (tC (.str "cells")))) (gName 5) (tAsg (tOp (rI (fun _ j => 0 < j) fun i j => .int (i % j)) (tCB rInt1 (tCons (tOp (rI0 fun i j => .int (i + j)) (tOp (rI0 fun i j => .int (i + j)) (tOp (rI CMul fun i j => .int (i * j)) (tVar 4) (tC (.int 48271))) (tVar 5)) (tVar 1)) tNil)) (tVar 3)) (gName 4)))
    (tAsg (tOp (rI0 fun i j => .int (i + j)) (tOp (rI CMul fun i j => .int (i * j)) (tVar 2) (tC (.int 2147483647))) (tOp (rI (fun _ j => 0 < j) fun i j => .int (i % j)) (tCB rInt1 (tCons (tOp (rI CPowW fun i j => .int (i ^ j.toNat)) (tVar 4) (tC (.int 5))) tNil)) (tVar 3))) (gName 2)))))
    (tRet (tVar 2)))))
def primes : List Int := [2147483629, 2147483587, 2147483579, 2147483563]
theorem primes_ok : ∀ p ∈ primes, 0 < p ∧ p < 2147483648 := by decide
theorem DGet.st {H : Hp} {s : SA} {r t : Int} {key : Str} {v : V} (h : H s.d = some (.dK (stD s.l s.k r t))) (e : valV (stD s.l s.k r t) (Sum.inr key) = some v) : DGet H s.d (.str key) (some v) := by
  rw [← e]
  exact DGet.k (k := Sum.inr key) h
theorem pow5 {b : Int} (h : b.natAbs < 2 ^ 20100) : (Builtin.Int.intBits b : Int) * 5 ≤ 2 ^ 27 := by
  have := intBits_le h
  omega
theorem run_mixed {c : Ctx} {N : List Str} (hN : N.length = 6) {vs : List V} {H : Hp} {Q : VK} {Ex : XK} (hs : SpW c wp_law_mixed 1 vs H Q Ex) : rd_law_mixed c { nx := fun _ H' => Q .non H', rt := Q } (L2.start N vs) H := by
  obtain ⟨S, F, n, I, μ, ds, Qd, Xd, hl, w, rs, h, q, _⟩ := hs
  unfold wp_law_mixed at h
  split at h
  case h_2 => exact h.elim
  cases rs with
  | cons r1 r2 =>
    cases r2
    cases r1 with
    | @state s hS hTB =>
      subst hS
      obtain ⟨htb, hlk, ws, cs, r, t, hd, hw, hk, hwl, hcl, ht0, htn⟩ := (w.s s rfl).1
      have est : L2.start N [V.ref s.d] = [some (V.ref s.d), none, none, none, none, none] := by
        unfold L2.start
        rw [hN]
        rfl
      rw [est]
      -- turn = state["turn"] + 1, found = 0
      refine ⟨_, rfl, s.d, .int t, rfl, DGet.st hd (st_turn _ _ _ _), t, 1, rfl, rfl, ?_⟩
      refine ⟨_, _, rfl, ?_⟩
      -- state["turn"] = turn
      refine ⟨_, rfl, _, rfl, s.d, _, rfl, DPut.k (k := Sum.inr "turn") hd (by show 4 < sizeLine; decide), ?_⟩
      have ndl : s.l ≠ s.d := fun z => by
        rw [z, hd] at hw
        cases hw
      have ndk : s.k ≠ s.d := fun z => by
        rw [z, hd] at hk
        cases hk
      have w1 : Wd c (some s) F (n + 1) I μ (upd H s.d (.dK (stD s.l s.k r (t + 1)))) := by
        refine w.st ⟨tabs_upd htb hd trivial, hlk, ws, cs, r, t + 1, upd_same, by rw [upd_ne ndl]; exact hw, by rw [upd_ne ndk]; exact hk, hwl, hcl, by omega, by push_cast; omega⟩ fun b o h1 h2 h3 e => ?_
        rw [upd_ne h1]
        exact e
      show tSeq _ _ _ _ (upd H s.d (.dK (putK (stD s.l s.k r t) (Sum.inr "turn") (.int (t + 1)))))
      rw [put_turn]
      generalize upd H s.d (.dK (stD s.l s.k r (t + 1))) = H1 at w1
      -- for prime in [..]
      refine ⟨by show 4 ≤ sizeLine; decide, fun l0 hl0 => ⟨l0, rfl, ⟨_, SqL.of upd_same⟩, ?_⟩⟩
      have f0 := w1.nf hl0
      have w2 : Wd c (some s) (upd F l0 (.lst (primes.map V.int))) (n + 1) I μ (upd H1 l0 (.lst (primes.map V.int))) := (w1.frame hl0).leave upd_same (w1.fresh hl0).1 (w1.fresh hl0).2 trivial (w1.no_cell hl0)
      refine for_list (K := c.K) (a := l0) (xs := primes.map V.int) (fun i σ H' => ∃ (f : Int) (p b cl : Option V), σ = [some (V.ref s.d), some (V.int (t + 1)), some (V.int f), p, b, cl] ∧ Wd c (some s) (upd F l0 (.lst (primes.map V.int))) (n + 1) I μ H')
        ⟨0, _, _, _, rfl, w2⟩ (fun i σ H' _ ⟨_, _, _, _, _, w'⟩ => SqL.of (w'.f _ _ upd_same).1) ?_ ?_
      · rintro i x σ H' hx ⟨f, p, b, cl, rfl, w'⟩
        have hxm : x ∈ primes.map V.int := List.mem_of_getElem? hx
        obtain ⟨pr, hpr, rfl⟩ := List.mem_map.mp hxm
        obtain ⟨hp0, hp1⟩ := primes_ok pr hpr
        obtain ⟨htb', hlk', ws', cs', r', t', hd', hw', hk', hwl', hcl', ht0', htn'⟩ := (w'.s s rfl).1
        -- blend = 49999 * turn + prime // 23
        refine ⟨_, rfl, 49999, t + 1, rfl, rfl, .inl ⟨by decide, by decide⟩, ?_⟩
        refine ⟨_, rfl, pr, 23, rfl, rfl, ⟨by decide, by decide⟩, _, _, rfl, rfl, ?_⟩
        -- for cell in state["cells"]
        refine ⟨_, rfl, s.d, _, rfl, DGet.st hd' (st_cells _ _ _ _), s.k, rfl, ⟨_, SqL.of hk'⟩, ?_⟩
        refine for_list (K := c.K) (a := s.k) (xs := cs'.map V.int) (fun j σ2 H2 => ∃ (bl : Int) (cl2 : Option V), σ2 = [some (V.ref s.d), some (V.int (t + 1)), some (V.int f), some (V.int pr), some (V.int bl), cl2] ∧ H2 = H' ∧ bl.natAbs < 2 ^ 20100)
          ⟨_, cl, rfl, rfl, ?_⟩ (fun j σ2 H2 _ ⟨_, _, _, e, _⟩ => by rw [e]; exact SqL.of hk') ?_ ?_
        · have h23 : 0 ≤ pr / 23 ∧ pr / 23 < 2147483648 := by omega
          have e1 : (49999 * (t + 1) + pr / 23).natAbs ≤ 49999 * LIM + 2147483648 := by omega
          refine Nat.lt_of_le_of_lt e1 ?_
          unfold LIM
          decide +kernel
        · rintro j x σ2 H2 hx2 ⟨bl, cl2, rfl, rfl, hbl⟩
          obtain ⟨cv, hcv, rfl⟩ := List.mem_map.mp (List.mem_of_getElem? hx2)
          refine ⟨_, rfl, bl, 48271, rfl, rfl, .inr ⟨by decide, by decide⟩, ?_⟩
          refine ⟨_, rfl, _, _, rfl, rfl, _, rfl, _, _, rfl, rfl, .inl ⟨_, rfl, _, rfl, _, _, rfl, rfl, hp0, ?_⟩⟩
          refine ⟨_, _, rfl, rfl, ?_⟩
          have h1 := Int.emod_nonneg (bl * 48271 + cv + (t + 1)) (show pr ≠ 0 by omega)
          have h2 := Int.emod_lt_of_pos (bl * 48271 + cv + (t + 1)) hp0
          refine Nat.lt_of_lt_of_le (m := 2 ^ 31) (by omega) (Nat.pow_le_pow_right (by decide) (by decide))
        · rintro σ2 H2 ⟨bl, cl2, rfl, rfl, hbl⟩
          refine ⟨_, rfl, f, 2147483647, rfl, rfl, .inr ⟨by decide, by decide⟩, ?_⟩
          refine ⟨_, rfl, bl, 5, rfl, rfl, ⟨by decide, pow5 hbl⟩, .inl ⟨_, rfl, _, rfl, _, _, rfl, rfl, hp0, _, _, rfl, rfl, ?_⟩⟩
          exact ⟨_, _, _, _, rfl, w'⟩
      · rintro σ H' ⟨f, p, b, cl, rfl, w'⟩
        exact ⟨_, rfl, q (.int f) μ _ I H' (h f) (Same.refl I) (w'.less fun b o e => by rw [upd_ne (ne_of_none e f0)]; exact e) .int⟩
/-! ### a draw -/
def wp_law_take : WP := fun ds μ Q _ => match ds with
  | [.state, .int m] => (0 < m ∧ m.natAbs.log2 < 9000) ∧ ∀ i, 0 ≤ i → i < m → Q (.int i) μ
  | _ => False
abbrev rd_law_take (c : Ctx) : TS := (tSeq (tIfS (tTest (tOp rEq (tDGet (tVar 0) (tC (.str "rest"))) (tC (.int 0)))) (sDPut (tVar 0) (tC (.str "rest")) (tIf (tTest (tOp (rNeD c.K) (tDGet (tVar 0) (tC (.str "wide"))) (tLst tNil))) (tBM c.K "list" rPopAt (tDGet (tVar 0) (tC (.str "wide"))) (tCons (tC (.int 0)) tNil)) (tCall (SpW c wp_law_mixed 1) [] E0 (tCons (tVar 0) tNil)))) tNext)
    (tSeq (tAsg (tOp (rI (fun _ j => 0 < j) fun i j => .int (i % j)) (tCB rInt1 (tCons (tDGet (tVar 0) (tC (.str "rest"))) tNil)) (tVar 1)) (gName 2))
    (tSeq (sDPut (tVar 0) (tC (.str "rest")) (tOp (rI CDivW fun i j => .int (i / j)) (tDGet (tVar 0) (tC (.str "rest"))) (tVar 1)))
    (tRet (tVar 2)))))
theorem seq0 (n : Nat) : seqIndex? 0 (n + 1) = some 0 := by
  unfold seqIndex?
  simp
theorem run_take {c : Ctx} {N : List Str} (hN : N.length = 3) {vs : List V} {H : Hp} {Q : VK} {Ex : XK} (hs : SpW c wp_law_take 1 vs H Q Ex) : rd_law_take c { nx := fun _ H' => Q .non H', rt := Q } (L2.start N vs) H := by
  obtain ⟨S, F, n, I, μ, ds, Qd, Xd, hl, w, rs, h, q, _⟩ := hs
  unfold wp_law_take at h
  split at h
  case h_2 => exact h.elim
  rename_i m
  obtain ⟨⟨hm0, hm1⟩, h⟩ := h
  cases rs with
  | cons r1 r2 =>
    cases r2 with
    | cons r2 r3 =>
      cases r3
      cases r2
      cases r1 with
      | @state s hS hTB =>
        subst hS
        have est : L2.start N [V.ref s.d, V.int m] = [some (V.ref s.d), some (V.int m), none] := by
          unfold L2.start
          rw [hN]
          rfl
        rw [est]
        -- what follows the if
        have rest : ∀ I2 H', Same I I2 → Wd c (some s) F (n + 1) I2 μ H' → tSeq (tAsg (tOp (rI (fun _ j => 0 < j) fun i j => .int (i % j)) (tCB rInt1 (tCons (tDGet (tVar 0) (tC (.str "rest"))) tNil)) (tVar 1)) (gName 2))
            (tSeq (sDPut (tVar 0) (tC (.str "rest")) (tOp (rI CDivW fun i j => .int (i / j)) (tDGet (tVar 0) (tC (.str "rest"))) (tVar 1)))
            (tRet (tVar 2))) { nx := fun _ H' => Q .non H', rt := Q } [some (V.ref s.d), some (V.int m), none] H' := fun I2 H' sm0 w' => by
          obtain ⟨htb, hlk, ws, cs, r, t, hd, hw, hk, hwl, hcl, ht0, htn⟩ := (w'.s s rfl).1
          refine ⟨_, rfl, s.d, _, rfl, DGet.st hd (st_rest _ _ _ _), .inl ⟨r, rfl, _, rfl, r, m, rfl, rfl, hm0, ?_⟩⟩
          refine ⟨_, rfl, s.d, _, rfl, DGet.st hd (st_rest _ _ _ _), _, rfl, r, m, rfl, rfl, ⟨hm0, hm1⟩, _, rfl, s.d, _, rfl, DPut.k (k := Sum.inr "rest") hd (by show 4 < sizeLine; decide), ?_⟩
          have ndl : s.l ≠ s.d := fun z => by
            rw [z, hd] at hw
            cases hw
          have ndk : s.k ≠ s.d := fun z => by
            rw [z, hd] at hk
            cases hk
          refine ⟨_, rfl, q (.int (r % m)) μ _ I2 _ (h _ (Int.emod_nonneg _ (by omega)) (Int.emod_lt_of_pos _ hm0)) sm0 ?_ .int⟩
          show Wd c (some s) F (n + 1) I2 μ (upd H' s.d (.dK (putK (stD s.l s.k r t) (Sum.inr "rest") (.int (r / m)))))
          rw [put_rest]
          refine w'.st ⟨tabs_upd htb hd trivial, hlk, ws, cs, r / m, t, upd_same, by rw [upd_ne ndl]; exact hw, by rw [upd_ne ndk]; exact hk, hwl, hcl, ht0, htn⟩ fun b o h1 h2 h3 e => ?_
          rw [upd_ne h1]
          exact e
        obtain ⟨htb, hlk, ws, cs, r, t, hd, hw, hk, hwl, hcl, ht0, htn⟩ := (w.s s rfl).1
        refine ⟨_, rfl, s.d, _, rfl, DGet.st hd (st_rest _ _ _ _), rfl, _, rfl, ?_⟩
        refine ite2 (fun _ => ?_) (fun _ => rest I H (Same.refl I) (w.up (by omega)))
        -- a new rest
        have ndl : s.l ≠ s.d := fun z => by
          rw [z, hd] at hw
          cases hw
        have ndk : s.k ≠ s.d := fun z => by
          rw [z, hd] at hk
          cases hk
        have store : ∀ (v : Int) I2 H', Wd c (some s) F (n + 1) I2 μ H' → ∃ a H4, V.ref s.d = .ref a ∧ DPut H' a (.str "rest") (.int v) H4 ∧ Wd c (some s) F (n + 1) I2 μ H4 := fun v I2 H' w' => by
          obtain ⟨htb, hlk, ws, cs, r, t, hd, hw, hk, hwl, hcl, ht0, htn⟩ := (w'.s s rfl).1
          refine ⟨s.d, _, rfl, DPut.k (k := Sum.inr "rest") hd (by show 4 < sizeLine; decide), ?_⟩
          show Wd c (some s) F (n + 1) I2 μ (upd H' s.d (.dK (putK (stD s.l s.k r t) (Sum.inr "rest") (.int v))))
          rw [put_rest]
          have ndl : s.l ≠ s.d := fun z => by
            rw [z, hd] at hw
            cases hw
          have ndk : s.k ≠ s.d := fun z => by
            rw [z, hd] at hk
            cases hk
          refine w'.st ⟨tabs_upd htb hd trivial, hlk, ws, cs, v, t, upd_same, by rw [upd_ne ndl]; exact hw, by rw [upd_ne ndk]; exact hk, hwl, hcl, ht0, htn⟩ fun b o h1 h2 h3 e => ?_
          rw [upd_ne h1]
          exact e
        refine ⟨_, rfl, s.d, _, rfl, DGet.st hd (st_wide _ _ _ _), Nat.zero_le _, fun p hp => ?_⟩
        have hpl : s.l ≠ p := ne_of_none hw hp
        have hw' : upd H p (.lst []) s.l = some (.lst (ws.map V.int)) := by rw [upd_ne hpl]; exact hw
        have hd' : upd H p (.lst []) s.d = some (.dK (stD s.l s.k r t)) := by rw [upd_ne (ne_of_none hd hp)]; exact hd
        have hk' : upd H p (.lst []) s.k = some (.lst (cs.map V.int)) := by rw [upd_ne (ne_of_none hk hp)]; exact hk
        have w2 : Wd c (some s) F n I μ (upd H p (.lst [])) := w.frame hp
        have dpw : ∀ (xs : List Int) (b : Addr), upd H p (.lst []) b = some (.lst (xs.map V.int)) → Dp c.K (upd H p (.lst [])) (.ref b) (.list (xs.map PyData.int)) := fun xs b hb => by
          refine .lst (SqL.of hb) ?_
          clear hb
          induction xs with
          | nil => exact .nil
          | cons x xs ih => exact .cons (.int x) ih
        refine ⟨_, _, dpw ws s.l hw', dpw [] p upd_same, ?_, ?_, _, rfl, ?_⟩
        · have := shaped_ints ws
          rw [pd, pds_ints] at this
          exact this
        · decide +kernel
        · cases ws with
          | nil =>
            refine iteF ?_
            -- by mixing
            refine ⟨_, rfl, ?_⟩
            refine ⟨some s, F, n, I, μ, [.state], fun d μ' => μ' = μ ∧ ∃ i, d = .int i, fun _ _ => False, hl, w2, .cons (.state rfl hTB) .nil, fun i => ⟨rfl, i, rfl⟩, fun d μ' v I' H' ⟨e0, i, hi⟩ sm w3 r3 => ?_, fun _ _ _ _ _ _ z => z.elim⟩
            subst e0 hi
            cases r3
            obtain ⟨a, H4, e1, e2, e3⟩ := store i I' H' w3
            exact ⟨_, rfl, a, H4, e1, e2, rest I' H4 sm e3⟩
          | cons x xs =>
            refine iteT ?_
            refine ⟨_, rfl, s.d, _, rfl, DGet.st hd' (st_wide _ _ _ _), .inl ⟨rfl, _, SqL.of hw'⟩, ?_⟩
            refine ⟨s.l, _, 0, 0, .int x, rfl, rfl, hw', by decide, by decide, ?_, rfl, ?_⟩
            · rw [List.length_map]
              exact seq0 _
            · have w4 : Wd c (some s) F (n + 1) I μ (upd (upd H p (.lst [])) s.l (.lst (xs.map V.int))) := by
                refine w2.st ⟨tabs_upd ((w2.s s rfl).1.1) hw' trivial, hlk, xs, cs, r, t, by rw [upd_ne (Ne.symm ndl)]; exact hd', upd_same, by rw [upd_ne (Ne.symm hlk)]; exact hk', ?_, hcl, ht0, by push_cast; omega⟩ fun b o h1 h2 h3 e => ?_
                · rw [List.length_cons] at hwl
                  omega
                · rw [upd_ne h2]
                  exact e
              obtain ⟨a, H4, e1, e2, e3⟩ := store x I _ w4
              exact ⟨_, rfl, a, H4, e1, e2, rest I H4 (Same.refl I) e3⟩
/-! ### the state's making -/
def sp_law_begun (c : Ctx) : Sp := fun vs H Q _ => ∃ (a : Addr) (ns : List Int), vs = [.ref a] ∧ SqL c.K H a (ns.map V.int) ∧ ns.length ≤ 63 ∧ LamX.Tabs c.tb H ∧
  ∀ (s : SA) H', s.T = c.tb → H s.d = Option.none → H s.l = Option.none → H s.k = Option.none → StOk s 0 H' → Same H H' → Q (.ref s.d) H'
abbrev rd_law_begun (c : Ctx) : TS := (tSeq (tAsg (tLc (iList c.K (tVar 0)) (gName 2) (tTest (tOp (rI0 fun i j => .bl (decide (j ≤ i))) (tCB rAbs (tCons (tVar 2) tNil)) (tOp (rI CPowW fun i j => .int (i ^ j.toNat)) (tC (.int 10)) (tC (.int 18))))) (tOp (rI0 fun i j => .int (i - j)) (tCB rAbs (tCons (tVar 2) tNil)) (tOp (rI CPowW fun i j => .int (i ^ j.toNat)) (tC (.int 10)) (tC (.int 18)))) [2]) (gName 1))
    (tRet (tDisp [((tC (.str "wide")), (tVar 1)), ((tC (.str "cells")), (tLc (iList c.K (tVar 0)) (gName 2) tYes (tOp (rI (fun _ j => 0 < j) fun i j => .int (i % j)) (tCB rInt1 (tCons (tCB rAbs (tCons (tVar 2) tNil)) tNil)) (tC (.int 2147483629))) [2])), ((tC (.str "rest")), (tC (.int 0))), ((tC (.str "turn")), (tC (.int 0)))])))
theorem st_merge (l k : Addr) : mergeK [] (stD l k 0 0) = stD l k 0 0 := rfl
theorem run_begun {c : Ctx} {N : List Str} (hN : N.length = 3) {vs : List V} {H : Hp} {Q : VK} {Ex : XK} (hs : sp_law_begun c vs H Q Ex) : rd_law_begun c { nx := fun _ H' => Q .non H', rt := Q } (L2.start N vs) H := by
  obtain ⟨a, ns, rfl, hS, hl, hT, q⟩ := hs
  have est : L2.start N [V.ref a] = [some (V.ref a), none, none] := by
    unfold L2.start
    rw [hN]
    rfl
  rw [est]
  have get : ∀ {i : Nat} {y : V}, (ns.map V.int)[i]? = some y → ∃ z, y = V.int z := fun {i y} h => by
    obtain ⟨z, _, e⟩ := List.mem_map.mp (List.mem_of_getElem? h)
    exact ⟨z, e.symm⟩
  refine ⟨_, rfl, a, rfl, ⟨_, hS⟩, fun Dw hD => lc_list (K := c.K) (a := a) (xs := ns.map V.int) (fun i H' => Same H H' ∧ ∃ ws : List Int, H' Dw = some (.lst (ws.map V.int)) ∧ ws.length ≤ i) ⟨same_new hD, [], upd_same, Nat.le_refl _⟩ (fun i H' _ p => p.1.seq hS) ?_ ?_⟩
  · rintro i y H' hy ⟨sm, ws, hw, hwl⟩
    obtain ⟨z, rfl⟩ := get hy
    have hil : i < ns.length := by
      have := (List.getElem?_eq_some_iff.mp hy).1
      rw [List.length_map] at this
      exact this
    refine ⟨rfl, _, rfl, z, rfl, 10, 18, rfl, rfl, ⟨by decide, by decide +kernel⟩, _, _, rfl, rfl, _, rfl, ?_⟩
    refine ite2 (fun _ => ?_) (fun _ => ⟨sm, ws, hw, by omega⟩)
    refine ⟨_, rfl, z, rfl, 10, 18, rfl, rfl, ⟨by decide, by decide +kernel⟩, _, _, rfl, rfl, _, hw, ?_, ?_, ws ++ [(if z < 0 then -z else z) - 10 ^ (18 : Int).toNat], ?_, ?_⟩
    · rw [List.length_map]
      exact small1000 (by omega)
    · intro b o e
      rw [upd_ne (ne_of_none e hD)]
      exact sm b o e
    · rw [upd_same, List.map_append]
      rfl
    · rw [List.length_append]
      show ws.length + 1 ≤ i + 1
      omega
  · rintro H1 ⟨sm1, ws, hw, hwl⟩
    rw [List.length_map] at hwl
    intro p hp
    have hpD : Dw ≠ p := ne_of_none hw hp
    have hpH : H p = none := sm1.free hp
    have smp : Same H (upd H1 p (.dK [])) := fun b o e => by
      rw [upd_ne (ne_of_none e hpH)]
      exact sm1 b o e
    refine ⟨_, rfl, _, rfl, a, rfl, ⟨_, smp.seq hS⟩, fun Dc hDc => lc_list (K := c.K) (a := a) (xs := ns.map V.int) (fun i H' => Same (upd H1 p (.dK [])) H' ∧ ∃ cs : List Int, H' Dc = some (.lst (cs.map V.int)) ∧ cs.length ≤ i) ⟨same_new hDc, [], upd_same, Nat.le_refl _⟩ (fun i H' _ p => (smp.trans p.1).seq hS) ?_ ?_⟩
    · rintro i y H' hy ⟨sm, cs, hc, hcl⟩
      obtain ⟨z, rfl⟩ := get hy
      have hil : i < ns.length := by
        have := (List.getElem?_eq_some_iff.mp hy).1
        rw [List.length_map] at this
        exact this
      refine ⟨rfl, ?_⟩
      unfold tYes
      dsimp only
      rw [if_pos rfl]
      refine ⟨_, rfl, z, rfl, .inl ⟨_, rfl, _, _, rfl, rfl, (by show (0 : Int) < 2147483629; decide), _, hc, ?_, ?_, cs ++ [(if z < 0 then -z else z) % 2147483629], ?_, ?_⟩⟩
      · rw [List.length_map]
        exact small1000 (by omega)
      · intro b o e
        rw [upd_ne (ne_of_none e hDc)]
        exact sm b o e
      · rw [upd_same, List.map_append]
        rfl
      · rw [List.length_append]
        show cs.length + 1 ≤ i + 1
        omega
    · rintro H2 ⟨sm2, cs, hc, hcl⟩
      rw [List.length_map] at hcl
      have hDcp : Dc ≠ p := fun z => by
        rw [z, upd_same] at hDc
        cases hDc
      have hDcw : Dw ≠ Dc := fun z => by
        rw [← z, upd_ne hpD, hw] at hDc
        cases hDc
      refine ⟨sm2 _ _ upd_same, stD Dw Dc 0 0, rfl, by show 4 ≤ 15; decide, ?_⟩
      rw [st_merge]
      have hDcH : H Dc = none := smp.free hDc
      have smF : ∀ u, Same H (upd H2 p u) := fun u b o e => by
        rw [upd_ne (ne_of_none e hpH)]
        exact sm2 b o (smp b o e)
      refine q ⟨p, Dw, Dc, c.tb⟩ _ rfl hpH hD hDcH ⟨hT.ext (smF _), hDcw, ws, cs, 0, 0, upd_same, ?_, ?_, by omega, by omega, by omega, by omega⟩ (smF _)
      · rw [upd_ne hpD]
        exact sm2 _ _ (by rw [upd_ne hpD]; exact hw)
      · rw [upd_ne hDcp]
        exact hc
/-! ### the law -/
def spLaw (c : Ctx) : Sp := fun vs H Q _ => ∃ (a : Addr) (ns : List Int), vs = [.ref a] ∧ SqL c.K H a (ns.map V.int) ∧ ns.length ≤ 63 ∧ (∀ p ∈ c.tb, H p.1 = some (.tbl #[])) ∧ ∀ H', Q (.bl true) H'
/-- the law's wish behind its first row -/
def lawEnds : WEnds := ⟨fun _ _ => False, fun d _ => d = .bool true, fun _ _ => False, fun _ _ => False, fun _ _ _ => False⟩
theorem law_start {c : Ctx} {W : WX} {u : WS} {N : List Str} {k : Nat} (hN : 2 ≤ N.length) (hk : k ≤ LIM) (h : ∀ ns : List Int, ns.length ≤ 63 → u (some (.script ns) :: some .state :: List.replicate (N.length - 2) Option.none) (fun _ => Option.none) lawEnds)
    {vs : List V} {H : Hp} {Q : VK} {Ex : XK} (hs : spLaw c vs H Q Ex) : tSeq (tAsg (tCall (sp_law_begun c) [] E0 (tCons (tVar 0) tNil)) (gName 1)) (ldS c W k u) { nx := fun _ H' => Q .non H', rt := Q } (L2.start N vs) H := by
  obtain ⟨a, ns, rfl, hS, hl, hT, q⟩ := hs
  have est : L2.start N [V.ref a] = some (V.ref a) :: none :: List.replicate (N.length - 2) none := by
    unfold L2.start
    obtain ⟨m, hm⟩ : ∃ m, N.length = m + 2 := ⟨N.length - 2, by omega⟩
    rw [hm]
    rfl
  rw [est]
  refine ⟨_, rfl, a, ns, rfl, hS, hl, fun p hp => .nil (hT p hp), fun s H' eT h1 h2 h3 hst sm => ?_⟩
  show ldS c W k u _ (some (V.ref a) :: some (V.ref s.d) :: List.replicate (N.length - 2) none) H'
  obtain ⟨I, hI, hIS⟩ : ∃ I : Hp, (∀ b o, I b = some o → H b = some o ∧ notTb o) ∧ SqL c.K I a (ns.map V.int) := by
    have one : ∀ o0 : HO, H a = some o0 → notTb o0 → ∃ I : Hp, (∀ b o, I b = some o → H b = some o ∧ notTb o) ∧ I a = some o0 := fun o0 e0 n0 => by
      refine ⟨fun b => if b = a then some o0 else Option.none, fun b o e => ?_, if_pos rfl⟩
      by_cases z : b = a
      · have e2 := (if_pos z).symm.trans e
        cases e2
        rw [z]
        exact ⟨e0, n0⟩
      · have e2 := (if_neg z).symm.trans e
        cases e2
    rcases hS with (z | ⟨o, z⟩) | z
    · obtain ⟨I, p1, p2⟩ := one _ z trivial
      exact ⟨I, p1, .inl (.inl p2)⟩
    · obtain ⟨I, p1, p2⟩ := one _ z trivial
      exact ⟨I, p1, .inl (.inr ⟨o, p2⟩)⟩
    · exact ⟨fun _ => Option.none, fun _ _ e => (by cases e), .inr z⟩
  have w : Wd c (some s) (fun _ => Option.none) 0 I (fun _ => Option.none) H' := by
    refine ⟨fun b o e => .inl (sm _ _ (hI b o e).1), fun b o e => (by cases e), fun x e => ?_, fun b o e => (hI b o e).2, fun b o e => (by cases e), s, rfl, eT⟩
    cases e
    refine ⟨hst, fun b hb => ⟨none_of fun o e => ?_, rfl⟩⟩
    obtain ⟨e1, e2⟩ := hI b o e
    rcases hb with (z | z | z) | ⟨p, hp, z⟩
    · rw [z, h1] at e1; cases e1
    · rw [z, h2] at e1; cases e1
    · rw [z, h3] at e1; cases e1
    · rw [eT] at hp
      rw [z, hT p hp] at e1
      cases e1
      exact e2
  have r : Rep c (some s) I (.script ns) (.ref a) := .script hIS
  have er : EnvR c (some s) I (some (.script ns) :: some .state :: List.replicate (N.length - 2) Option.none) (some (V.ref a) :: some (V.ref s.d) :: List.replicate (N.length - 2) none) := by
    refine .yes r (.yes (.state rfl eT) ?_)
    exact EnvR.init (N.length - 2) (ds := []) (vs := []) .nil
  refine ⟨some s, fun _ => Option.none, 0, I, fun _ => Option.none, _, lawEnds, by omega, er, w, h ns hl, ⟨fun _ _ _ _ _ p => p.elim, fun d μ' v I' H2 p s2 w2 r2 => ?_, fun _ _ _ _ _ p => p.elim, fun _ _ _ _ _ p => p.elim, fun _ _ _ _ _ _ _ _ p => p.elim⟩⟩
  cases p
  cases r2
  exact q H2
end DL

set_option Elab.async false
set_option linter.all false
set_option maxRecDepth 100000
set_option maxHeartbeats 4000000
/-! A8: raise, errors with a field, errors caught, a cell that stays as it is from now on. -/
namespace DL
open PySem PySem.Spec PyProof.Rows L2
/-! ### raise -/
def wRz (n : Str) : WS := fun e μ E => E.xp (.err n [] []) e μ
def wRzA (n f : Str) (a : WE) : WS := fun e μ E => a e μ (fun d μ1 => E.xp (.err n [f] [d]) e μ1) fun d μ1 => E.xp d e μ1
/-- the error's own __init__: its field is kept -/
def sp_ei (K : PySem.W.Frag) (f : Str) : Sp := fun vs H Q _ => ∃ (a C : Addr) (y : V), vs = [.ref a, y] ∧ OexC K C ∧ PySem.W.findIn K (.ref C) f = some none ∧ H a = some (exo a C none) ∧ ∀ dx, H dx = none → dx ≠ a → Q .non (upd (upd H dx (exd dx [(f, y)])) a (exo a C (some dx)))
section
variable {X : Cx}
/-- CrossError.__init__(self, ..) -/
theorem pe_ceinit {x : Str} {CE : Addr} {e : Expr} {es : List Expr} {ta : TA} {p1 p2 pos : Pos} {pl : Sem Bool} (hg : Gl X x) (hm : X.mg x = some (.ref CE)) (rd : ClX.CRead X.K CE (.type "type"))
    (vV : PySem.W.findCls X.K (.ref CE) (.type "type") "__init__" = some (.val (.builtin "ValueError.__init__"))) (ha : PA X (e :: es) ta) (hdb : (x == ("__debug__" : Str)) = false := by decide)
    (hc : eval (.Call (.Attribute (.Name x p1) "__init__" p2) (e :: es) [] pos) X.env = (do
      let ov ← eval (.Name x p1) X.env
      standAt p2.atName
      let (f, first) ← holding [ov] (getMethod ov "__init__" pl)
      callWith pos f first (backTo pos (starEach (e :: es) X.env)) (backToKw pos (keywordEach [] X.env))) := by rfl)
    (he : starEach (e :: es) X.env = (false, eval e X.env) :: starEach es X.env := by rfl) (hpl : (backTo pos (starEach es X.env)).any (·.1) = false := by rfl) :
    PE X (.Call (.Attribute (.Name x p1) "__init__" p2) (e :: es) [] pos) (tVeI X.K ta) := by
  refine ⟨fun pins s σ H Q J h => ?_⟩
  refine PySem.W.methodCall_KW (ld_glob J hg hm ?_ hdb) hc
  refine PySem.W.method_cls J.kIn rd.ga (PySem.W.cls_value J.kIn rd.rd vV (by decide +kernel) ?_)
  show wpAny _ _ (callWith pos (Value.builtin "ValueError.__init__") [] (backTo pos (starEach (e :: es) X.env)) []) _ _ _
  refine PyProof.Rows.callWith_method1 (thn (ha.run pos pins _ σ H _ (J.tok _) h) fun us s1 ⟨vs, H1, J1, r1, a, C, ws, ev, hl, T, ea, q⟩ => ?_) he hpl
  subst ev
  cases r1 with
  | @cons _ u0 _ ur ra rw' =>
    obtain rfl : u0 = Value.ref a := ra
    exact oinit_ok T J1 ea (by rw [← Paired.length rw', sizeLine_eq]; omega) fun s' J2 => ⟨.non, H1, J2, rfl, q⟩
end
/-- def __init__(self, f): CrossError.__init__(self, '..'); self.f = f -/
theorem einit_of {P : Program} {w : PySem.World} {K : PySem.W.Frag} {mg : Str → Option Value} {base : Heap} {fa CE : Addr} {fd : FuncData} {x qual s a fld txt : Str} {pa : Arguments} {sc : Scope} {dvs : List V} {kws : List (Str × V)} {j : Nat} {p1 p2 p3 p4 p5 p6 p7 p8 p9 p10 : Pos}
    (F : FunD K x qual pa [.Expr (.Call (.Attribute (.Name "CrossError" p1) "__init__" p2) [.Name s p3, .Constant (.str txt) j p4] [] p5) p6, .Assign [.Attribute (.Name s p7) fld p8] (.Name a p9) p10] sc dvs kws fa fd)
    (Sc : FnScope [s, a] [s, a] sc) (hm : mg "CrossError" = some (.ref CE)) (hgl : sc.names.lookup ("CrossError" : Str) = some .globalImplicit) (hs : sc.names.lookup s = some .local) (ha : sc.names.lookup a = some .local) (rd : ClX.CRead K CE (.type "type"))
    (vV : PySem.W.findCls K (.ref CE) (.type "type") "__init__" = some (.val (.builtin "ValueError.__init__")))
    {pl : Env → Sem Bool} (hcl : ∀ env, eval (.Call (.Attribute (.Name "CrossError" p1) "__init__" p2) [.Name s p3, .Constant (.str txt) j p4] [] p5) env = (do
      let ov ← eval (.Name "CrossError" p1) env
      standAt p2.atName
      let (f, first) ← holding [ov] (getMethod ov "__init__" (pl env))
      callWith p5 f first (backTo p5 (starEach [.Name s p3, .Constant (.str txt) j p4] env)) (backToKw p5 (keywordEach [] env))) := by intro _; rfl)
    (hsw : ∀ env, swapsWith (.Call (.Attribute (.Name "CrossError" p1) "__init__" p2) [.Name s p3, .Constant (.str txt) j p4] [] p5) none p6.line env = pure false := by intro _; rfl) (hsw2 : ∀ env, swapsWith (.Name a p9) (some (.Attribute (.Name s p7) fld p8)) p10.line env = pure false := by intro _; rfl)
    (ds : (s == ("__debug__" : Str)) = false := by decide) (ds2 : (s == ("__classdict__" : Str)) = false := by decide) (da : (a == ("__debug__" : Str)) = false := by decide) (da2 : (a == ("__classdict__" : Str)) = false := by decide) :
    FnOk P w K mg base C8.CX0 1 fa fd [s, a] (sp_ei K fld) := by
  refine F.ok (k := 0) Sc (fun vs H Q E h => ?_) fun cdv A outer sh H vs Q E hr h => ?_
  · obtain ⟨_, _, _, rfl, _⟩ := h
    rfl
  · obtain ⟨a0, C, y, rfl, T, hf, hx, q⟩ := h
    refine ⟨_, pss_cons (ps_expr (pe_ceinit (X := cxOf C8.CX0 P w K mg base [s, a] qual sc fa cdv A outer sh H E) hgl hm rd vV (pa_cons (pe_var (i := 0) rfl (Or.inl hs) ds ds2) (pa_cons pe_str pa_nil)) (hc := hcl _)) (hsw _)) (pss_one (ps_ost (X := cxOf C8.CX0 P w K mg base [s, a] qual sc fa cdv A outer sh H E) (pe_var (i := 0) rfl (Or.inl hs) ds ds2) (pe_var (i := 1) rfl (Or.inl ha) da da2) (hsw2 _))), ?_⟩
    exact ⟨_, rfl, a0, C, _, rfl, by show 1 ≤ 1000; omega, T, hx, y, rfl, _, rfl, a0, C, rfl, T, hf, .inl ⟨hx, q⟩⟩
section
variable {X : Cx} {c : Ctx} {W : WX} {k ka : Nat} {a : Expr} {wa : WE} {n x f : Str} {p p2 pos pos' : Pos}
/-- raise x('..') -/
theorem g_rz {m : Str} {j : Nat} {bmB : List Value} {B newId initId : String} (hc : X.calm = true) (tk : Takes X W) (G : ExcBaseFacts B newId initId bmB) (q : PySem.W.excIn X.K (c.cl n) bmB newId = true) (gC : X.mg x = some (.ref (c.cl n))) (kC : PySem.W.keepIn X.K (.ref (c.cl n)) = true)
    (r : Raises X (.ref (c.cl n))) (hg : Gl X x) (hn : n ∈ c.es := by decide) (hdb : (x == ("__debug__" : Str)) = false := by decide) : GS X c W 0 (.Raise (some (.Call (.Name x p) [.Constant (.str m) j p2] [] pos)) none pos') (wRz n) := L2.PS.imp (ps_raise hc tk (pmk_own G q gC kC r hg hdb)) fun K σ H h => by
  obtain ⟨S, F, nn, I, μ, e, E, hl, he, hw, h, q⟩ := h
  exact q.x he _ μ _ _ I H h (Same.refl I) hw (.inl ⟨n, [], [], [], rfl, rfl, ⟨rfl, .inl ⟨rfl, rfl⟩⟩, .nil, hn⟩)
theorem exd_del {H1 : Hp} {a C dx : Addr} {f : Str} {y : V} (ha : H1 a = none) (hd : dx ≠ a) : upd (L2.del (upd (upd (upd H1 a (exo a C none)) dx (exd dx [(f, y)])) a (exo a C (some dx))) a) dx (.xd [(f, y)]) = upd H1 dx (.xd [(f, y)]) := by
  funext b
  by_cases h1 : b = dx
  · subst h1
    rw [upd_same, upd_same]
  · rw [upd_ne h1, upd_ne h1]
    by_cases h2 : b = a
    · subst h2
      rw [L2.del_same, ha]
    · rw [L2.del_ne h2, upd_ne h2, upd_ne h1, upd_ne h2]
theorem g_rzA {fI : Addr} {fd : FuncData} {ps : List Str} (hc : X.calm = true) (tk : Takes X W) (T : OexC X.K (c.cl n)) (iC : PySem.W.findIn X.K (.ref (c.cl n)) "__init__" = some (some (.ref fI))) (tI : PySem.W.typeIn X.K (.ref fI) = some (.type "function")) (hf : PySem.W.findIn X.K (.ref (c.cl n)) f = some none)
    (G : FnOk X.prog X.w X.K X.mg X.base C8.CX0 k fI fd ps (sp_ei X.K f)) (hr : Room (k + 1) X.A) (hb : Binds X.K fd ps []) (hg : Gl X x) (hm : X.mg x = some (.ref (c.cl n))) (ha : GE X c W ka a wa) (hn : n ∈ c.es := by decide) (hdb : (x == ("__debug__" : Str)) = false := by decide) (hst : starEach [a] X.env = [(false, eval a X.env)] := by rfl) :
    GS X c W ka (.Raise (some (.Call (.Name x p) [a] [] pos)) none pos') (wRzA n f wa) := L2.PS.imp (ps_raise hc tk (pmk_oex (ds := []) (dvs := []) T iC tI G hr hb .nil (fun _ _ _ _ _ _ _ z => False.elim z) hg hm (ga_cons ha ga_nil hst) hdb hst rfl)) fun K σ H h => by
  obtain ⟨S, F, nn, I, μ, e, E, hl, he, hw, h, q⟩ := h
  refine ⟨S, F, nn, I, μ, e, fun ds μ1 => one ds fun d => E.xp (.err n [f] [d]) e μ1, _, hl, he, hw, h, fun ds μ1 vs I1 H1 pa s1 w1 ra => ?_, q.x he⟩
  cases ra with
  | nil => exact pa.elim
  | cons r1 r2 =>
    cases r2 with
    | cons _ _ => exact pa.elim
    | nil =>
      rename_i d y
      refine ⟨by show 1 ≤ 1000; omega, fun b hb1 => ⟨b, _, y, rfl, T, hf, upd_same, fun dx h1 h2 => ⟨rfl, dx, [(f, y)], upd_same, ?_, ?_, ?_⟩⟩⟩
      · rw [upd_ne h2, upd_same]
      · rw [upd_ne h2] at h1
        exact h1
      · rw [upd_ne h2] at h1
        rw [exd_del hb1 h2]
        have sm : Same I1 (upd I1 dx (.xd [(f, y)])) := same_new (w1.fresh h1).1
        exact q.x he _ μ1 _ _ _ _ pa (s1.trans sm) (w1.new h1) (.inl ⟨n, [f], [d], [y], rfl, rfl, ⟨rfl, .inr ⟨dx, rfl, upd_same⟩⟩, .cons (r1.mono sm) .nil, hn⟩)
/-! ### a cell that stays as it is from now on -/
def wFz (i : Nat) (w : WS) : WS := fun e μ E => match gt e i with
  | some (.cell b) => (match μ b with
    | some nd => w (st e i (some nd.frz)) (del μ b) E
    | Option.none => False)
  | some _ => w e μ E
  | Option.none => False
theorem EnvR.same {S : Option SA} {I : Hp} {d : D} {v : V} : ∀ {e : EnvD} {σ : L2.St} {i : Nat}, EnvR c S I e σ → σ[i]? = some (some v) → Rep c S I d v → EnvR c S I (st e i (some d)) σ
  | _, _, _, .nil, h, _ => by simp at h
  | _, _, 0, .no h, h1, r => by
    simp at h1
    subst h1
    exact .yes r h
  | _, _, 0, .yes _ h, h1, r => by
    simp at h1
    subst h1
    exact .yes r h
  | _, _, i + 1, .no h, h1, r => .no (EnvR.same h (by simpa using h1) r)
  | _, _, i + 1, .yes q h, h1, r => .yes q (EnvR.same h (by simpa using h1) r)
theorem g_fz {s : Stmt} {w : WS} (i : Nat) (h : GS X c W k s w) : GS X c W k s (wFz i w) := L2.PS.imp h fun K σ H h => by
  obtain ⟨S, F, nn, I, μ, e, E, hl, he, hw, h, q⟩ := h
  unfold wFz at h
  split at h
  · rename_i b hb
    split at h
    · rename_i nd hnd
      obtain ⟨o, r, h0, hi, w2⟩ := hw.freeze hnd
      obtain ⟨v, h1, h2⟩ := he.get hb
      cases h2
      have sm : Same I (upd I b o) := same_new hi
      exact ⟨S, F, nn, upd I b o, _, _, E, hl, (he.mono sm).same h1 ((r.mono sm).frz upd_same), w2, h, q.mono (Nat.le_refl _) sm⟩
    · exact h.elim
  · exact ⟨S, F, nn, I, μ, e, E, hl, he, hw, h, q⟩
  · exact h.elim
end
end DL

set_option Elab.async false
set_option linter.all false
set_option maxRecDepth 100000
set_option maxHeartbeats 4000000
/-! A9: caught(lambda: ..). -/
namespace DL
open PySem PySem.Spec PyProof.Rows L2
variable [Gds]
open LamX (lamCx lamEnv LamS GivesTo CodeO ExtN Tabs TabB tLam)
section
variable {X : Cx} {pins : List (Addr × Obj)} {σ : L2.St} {H HZ : Hp} {s s1 : Shared}
/-- the def that got the lambda calls it, where no repr is under way -/
theorem act_ok {CXg : CXT} {Eg : XK} {Ng : List Str} {qg : Str} {sg : Scope} {g f c' : Addr} {cdg pm ctv : Value} {params : Arguments} {body : Expr} {scope : Scope} {k i : Nat} {a : Str} {pn : List (Addr × Obj)} {xe : Value → Shared → Prop} {W : WX} {E : XK} {tb : TE} {p1 p2 : Pos}
    (gd : Gds.ok X.A) (J : Inv X pins σ H s) (L : LamS X.env.scope scope) (hf : s.heap.get? f = some (PySem.W.kla_obj "<lambda>" (X.env.qual ++ "<lambda>") params body scope (cloFrom X.env.cells scope.names []) pm c' ctv)) (hfn : H f = none) (hfr : f ∉ frs X.stack)
    (bi : bindArgs (PySem.W.kla_fn "<lambda>" (X.env.qual ++ "<lambda>") params body scope (cloFrom X.env.cells scope.names []) pm (.ref c') ctv) ⟨[], []⟩ = pure [])
    (tk : Takes ((cxOf CXg X.prog X.w X.K X.mg X.base Ng qg sg g cdg X.A X.stack s H Eg).tr pn xe) W) (hW : ∀ cls d σ' H', E cls d H' → W cls d σ' H') (room : Room (k + 1) (X.A.deeper (envOfC qg sg s.heap.objs.size g cdg)))
    (hb : ∀ (A : Around) (outer : List Env) (s : Shared) (H : Hp), Gds.ok (A.deeper (lamEnv X scope s.heap.objs.size f c')) → Room k (A.deeper (lamEnv X scope s.heap.objs.size f c')) → PE (lamCx X A outer s H E scope f c') body tb)
    (hN : Ng[i]? = some a) (hv : Vis sg a) (hd : (a == ("__debug__" : Str)) = false := by decide) (hcd : (a == ("__classdict__" : Str)) = false := by decide) :
    PE ((cxOf CXg X.prog X.w X.K X.mg X.base Ng qg sg g cdg X.A X.stack s H Eg).tr pn xe) (.Call (.Name a p1) [] [] p2)
      (fun σZ HZ Q => σZ[i]? = some (some (.ref f)) ∧ HZ c' = some (CodeO c' (X.env.qual ++ "<lambda>")) ∧ tb σ HZ Q) := by
  refine ⟨fun pinsZ sZ σZ HZ Q JZ ⟨e1, e2, e3⟩ => ?_⟩
  refine wpAny_Call_Name_kw (thn ((pe_var (pos := p1) (i := i) hN hv hd hcd).run pinsZ sZ σZ HZ (fun v H1 => v = .ref f ∧ H1 = HZ) JZ ⟨.ref f, e1, rfl, rfl⟩) fun u t1 ⟨v, H1, J1, r1, ev, eH⟩ => ?_)
  subst ev
  rw [eH] at J1
  obtain rfl : u = Value.ref f := r1
  have here : t1.heap.get? f = some (PySem.W.kla_obj "<lambda>" (X.env.qual ++ "<lambda>") params body scope (cloFrom X.env.cells scope.names []) pm c' ctv) := J1.base.keep f _ hf hfn hfr (fun z => nomatch (show f ∈ ([] : List Addr) from z))
  have un : Un (frs X.stack) [] H HZ s.heap t1.heap := J1.base
  obtain ⟨⟨oc, vs, t, hoc, hdc, hvc⟩, _, _⟩ := J1.hok c' _ e2
  have runs : codeAny (model X.prog X.w) (X.A.deeper (envOfC qg sg s.heap.objs.size g cdg)) (.call (.ref f) ⟨[], []⟩) (CR (L2.CX X.prog X.w) (envOfC qg sg s.heap.objs.size g cdg :: X.stack) X.prog X.w HZ t1 Q E) t1 := by
    refine PySem.W.kla_callFunE room.depth here rfl L.co L.gen rfl ⟨c', oc, vs, t, rfl, hoc, hdc, hvc⟩ ?_
    rw [bi]
    refine wpAny_pure (wpAny_newFunctionEnv (fun y hy => (L.own y hy).2) (fun y hy => absurd hy (by simp)) (fun h₁ hns hsb => ⟨J1.nolimit.fresh _ hsb, ?_⟩) L.kind)
    show codeAny _ _ (.expr body (lamEnv X scope t1.heap.objs.size f c')) _ _
    have J2 : Inv (lamCx X (X.A.deeper (envOfC qg sg s.heap.objs.size g cdg)) (envOfC qg sg s.heap.objs.size g cdg :: X.stack) t1 HZ E scope f c') [] σ HZ { t1 with heap := h₁, toks := t1.toks + ([] : List (Str × Value)).length } :=
      LamX.lam_start2 J L J1.env0 room.hd un hns fun b o e => hsb.extBut b o (Nat.ne_of_lt (Heap.lt_size e)) (Heap.get?_push_of_some _ e)
    refine PySem.W.kla_codeExpr (wpAny_mono ((hb (X.A.deeper (envOfC qg sg s.heap.objs.size g cdg)) _ t1 HZ (Gds.deeper (Gds.deeper gd)) (room.deeper _)).run [] _ _ HZ Q J2 e3) (fun v s' ⟨w', H', J', rv, q⟩ => ⟨w', H', J'.os, J'.bare, J'.base, J'.hok, rv, q⟩) fun e s' hq => hq)
  refine PySem.W.callWith_F0 ⟨_, _, _, _, here⟩ (wpAny_call (codeAny_mono runs fun res t2 hq => ?_))
  · match res, hq with
    | .error e, hq => exact passes_call (X := (cxOf CXg X.prog X.w X.K X.mg X.base Ng qg sg g cdg X.A X.stack s H Eg).tr pn xe) tk hW pinsZ σZ HZ t1 e t2 J1 hq
    | .ok (.ret u), hq => exact J1.after hq
    | .ok .next, hq => exact False.elim hq
    | .ok .brk, hq => exact False.elim hq
    | .ok .cont, hq => exact False.elim hq
/-- x(lambda: ..), where no repr is under way -/
theorem lamcall_ok {T : List (Addr × Str)} {TT : (XK → Hp → VK → Prop) → Hp → VK → Prop} {x a : Str} {g cc P : Addr} {k : Nat} {pg : Arguments} {bg : List Stmt} {sg : Scope} {dvg : List V} {kwg : List (Str × V)} {fdg : FuncData} {Ng : List Str}
    {params : Arguments} {body : Expr} {scope : Scope} {t : XK → TE} {p lpos pos : Pos} (gd : Gds.ok X.A) (hg : Gl X x) (hm : X.mg x = some (.ref g)) (hk : PySem.W.keepIn X.K (.ref g) = true)
    (Fg : FunD X.K x x pg bg sg dvg kwg g fdg) (bi : L2.Binds X.K fdg [a] []) (Sg : FnScope Ng [a] sg) (hNg : Ng[0]? = some a) (hva : Vis sg a)
    (gv : ∀ cdv : Value, GivesTo X Ng x sg g cdv bg a (X.env.qual ++ "<lambda>") TT)
    (TB : TabB X.base X.mg cc P) (hcode : X.env.code = .ref cc) (hmT : (P, X.env.qual ++ "<lambda>") ∈ T) (hu : ∀ p ∈ T, p.1 = P → p.2 = X.env.qual ++ "<lambda>") (room : Room (k + 2) X.A) (L : LamS X.env.scope scope) (hdef : defaultsOf params X.env = ([], []))
    (hbind : ∀ (q : Str) (cl : List (Str × Addr)) (pm cv ctv : Value), bindArgs (PySem.W.kla_fn "<lambda>" q params body scope cl pm cv ctv) ⟨[], []⟩ = pure [])
    (hb : ∀ (A : Around) (outer : List Env) (s : Shared) (H : Hp) (E : XK) (f c' : Addr), Gds.ok (A.deeper (lamEnv X scope s.heap.objs.size f c')) → Room k (A.deeper (lamEnv X scope s.heap.objs.size f c')) → PE (lamCx X A outer s H E scope f c') body (t E))
    (hdb : (x == ("__debug__" : Str)) = false := by decide) (hd : (a == ("__debug__" : Str)) = false := by decide) (hcd : (a == ("__classdict__" : Str)) = false := by decide) :
    PE X (.Call (.Name x p) [.Lambda params body scope lpos] [] pos) (tLam T TT t) := by
  refine ⟨fun pins s σ H Q J ⟨hT, h⟩ => ?_⟩
  obtain ⟨oc, od, dV, kV, doc, pm, an, cdv, ct, osl, rfl, lk, hcg, _, _⟩ := Fg.ex
  refine wpAny_Call_Name_kw (ld_glob J hg hm (PySem.W.callWith_K (h₀ := X.base) J.ok.mod.kin hk ?_ (by rfl) (by rfl)) hdb)
  show wpAny _ _ (spliced ((false, eval (.Lambda params body scope lpos) X.env) :: backTo pos (starEach [] X.env))) _ _ s
  refine Calls.spliced_cons (LamX.lam_make2 J TB hcode hmT hu hT hdef (L.has J.ok) fun f c' pm' ctv H1 s' J1 eN T1 hf hfn hfr hco => Calls.spliced_nil ⟨J1.kIn, ?_⟩)
  refine wpAny_call (codeAny_mono (R := CR C8.CX0 X.stack X.prog X.w H1 s' Q C8.E0) (LamX.run_ofS (N := Ng) (ps := [a]) (us := [.ref f]) (vs := [.ref f]) lk hcg Sg room J1.env0 (bi s' [.ref f] J1.kIn rfl) (.cons rfl .nil) rfl fun room' => ?_) fun res s2 hq => ?_)
  · obtain ⟨t', ht', hq'⟩ := gv cdv f c' s' H1 Q (fun E H' Q' => t E σ H' Q') (fun W pn xe E p1 p2 tk hW => act_ok (i := 0) gd J1 L hf hfn hfr (hbind _ _ _ _ _) tk hW room' (fun A outer s H gd2 room2 => hb A outer s H E f c' gd2 room2) hNg hva hd hcd) hco (h H1 eN T1)
    exact ⟨t', ht'.nox, hq'⟩
  · match res, hq with
    | .error e, hq => exact (show False from hq).elim
    | .ok (.ret u), hq => exact J1.after hq
    | .ok .next, hq => exact False.elim hq
    | .ok .brk, hq => exact False.elim hq
    | .ok .cont, hq => exact False.elim hq
end
section
variable {X : Cx} {pins : List (Addr × Obj)} {σ : L2.St} {H : Hp} {s : Shared}
/-- an error that is new since the frame began is tracked from now on -/
theorem inv_track {a : Addr} {oe : Obj} {vs : Array Value} {cls : Value} {d : Option Addr} (J : Inv X pins σ H s) (ha : s.heap.get? a = some oe) (na : H a = none) (nl : a ≠ X.env.locals) (hz : Zc cls d oe) (hd : oe.data = .fields vs) (new : X.s_0.heap.get? a = none)
    (np : ∀ p ∈ X.pn ++ pins, p.1 ≠ a) : Inv X pins σ (upd H a (ErO a cls d)) s := by
  have up : ∀ {b : Addr} {o : HO}, H b = some o → upd H a (ErO a cls d) b = some o := fun {b o} e => by
    rw [upd_ne (ne_of_none e na)]
    exact e
  have old : ∀ {b : Addr} {o : Obj}, X.s_0.heap.get? b = some o → b ≠ a := fun {b o} e z => by
    rw [z, new] at e
    cases e
  refine ⟨J.ok, J.os, J.bare, ⟨J.base.keep, J.base.slot, fun b o e n hx => ?_, J.base.there, fun b xs e => up (J.base.tups b xs e), fun b o u e => up (J.base.frzs b o u e), fun b ps e => ?_⟩, J.loc, J.cell, ?_, fun y c e => ?_, fun p hp => ?_, ?_, J.len⟩
  · rw [upd_ne (old e)]
    exact J.base.free b o e n hx
  · obtain ⟨more, z⟩ := J.base.tbls b ps e
    exact ⟨more, up z⟩
  · rw [upd_ne (Ne.symm nl)]
    exact J.free
  · obtain ⟨v, o, e1, e2⟩ := J.cell y c e
    rw [upd_ne fun z => ?_]
    · exact J.freeC y c e
    · rw [z, ha] at e1
      cases e1
      rw [hd] at e2
      cases e2
  · obtain ⟨e1, e2, e3⟩ := J.pin p hp
    exact ⟨e1, by rw [upd_ne (np p hp)]; exact e2, e3⟩
  · exact J.hok.laidN (fun _ _ z => z) na ⟨⟨oe, vs, ha, hz, hd⟩, ⟨oe, ha⟩, fun h1 h2 ⟨o, v, e1, e2, e3⟩ k => ⟨o, v, k _ e1, e2, e3⟩⟩
end
/-- what 'except x as n: ..' wishes of an error of the body, where the suite keeps it: it is tracked behind the statement -/
def wTr (K : PySem.W.Frag) (c : Value) (i : Nat) (ts : Addr → Value → Option Addr → TS) (D : Ends) : WX := fun cls d σ H =>
  PySem.W.exmOne K cls c = some true ∧ ∀ a, H a = none → ts a cls d { nx := fun σ' H' => H' a = none → D.nx (σ'.set i none) (upd H' a (ErO a cls d)), rt := fun _ _ => False, bk := fun _ _ => False, ct := fun _ _ => False } (σ.set i (some (.ref a))) H
section
variable {X : Cx} {x n : Str} {c : Value} {i : Nat} {body suite : List Stmt} {b₀ : Stmt} {np pos pos' : Pos} {tb : WX → TS} {ts : Addr → Value → Option Addr → TS}
theorem ps_try_track (hex0 : X.ex = []) (hst : X.stack = X.env :: X.outer) (hfm : X.env.frame = some X.env.locals) (hN : X.N.Nodup) (hi : X.N[i]? = some n) (hln : X.env.kindOf n = some .local) (hc : Names X x c)
    (hb : ∀ (W : WX) (pn : List (Addr × Obj)) (xe : Value → Shared → Prop), Takes (X.tr pn xe) W → PassesOwn (model X.prog X.w) X.A X.env xe → PSs (X.tr pn xe) body (tb W))
    (hsu : ∀ (a : Addr) (oe : Obj) (cls : Value) (d : Option Addr) (pn : List (Addr × Obj)), Zc cls d oe → (∃ vs, oe.data = .fields vs) → PSs (X.suite a ((a, oe) :: pn)) (b₀ :: suite) (ts a cls d)) :
    PS X (.Try body [.ExceptHandler (some (.Name x np)) (some n) (b₀ :: suite) pos'] [] [] pos) (fun D σ H => tb (wTr X.K c i ts D) D σ H) := by
  refine ⟨fun pins s σ H D I0 h => ?_⟩
  have ok := I0.ok
  have frm : X.A.frames = some (X.env :: X.outer) := by rw [ok.frames, hst]
  let xe1 : Value → Shared → Prop := fun e t1 => wpAny (model X.prog X.w) X.A (noteFrame e X.env) (fun _ t2 => wpAny (model X.prog X.w) X.A (setFlight e none) (fun _ t3 => wpAny (model X.prog X.w) X.A (handleBy e X.env [.ExceptHandler (some (.Name x np)) (some n) (b₀ :: suite) pos']) (SP X pins D) X.xe t3) X.xe t2) X.xe t1
  have catch_ : Takes (X.tr (X.pn ++ pins) xe1) (wTr X.K c i ts D) := fun u t xx => by
    obtain ⟨a, B, sI, pins1, σ1, H1, cls, d, rfl, J0, nb, upS, sky, na, oss, ags, hex, hyes⟩ := xx
    have J : Inv X pins σ1 H1 sI := J0.ofTry ok
    have sky1 : Sky B (X.env :: X.outer) a (Zc cls d) X.env.locals t.heap := by rw [← hst]; exact sky
    show wpAny (model X.prog X.w) X.A (noteFrame (.ref a) X.env) _ _ _
    refine Sky.land Zc.steady frm hfm sky1 fun h3 fl3 up3 => ?_
    have J3 : Inv X pins σ1 H1 { t with heap := h3 } := J.landed nb fl3.1 (upS.trans up3) oss ags
    obtain ⟨oe3, vs3, he3, hz3, hd3⟩ := fl3.there
    have nfr : a ∉ frs (X.env :: X.outer) := fun hm => by
      obtain ⟨_, o', e', hnf⟩ := fl3.2.2.1.mem hm
      rw [he3] at e'
      cases e'
      exact hnf _ hd3
    have nL : a ≠ X.env.locals := fun z => nfr (List.mem_filterMap.mpr ⟨X.env, List.mem_cons_self, by rw [hfm, z]⟩)
    have nF : a ∉ X.fs := fun hm => by
      obtain ⟨e, he, q⟩ := List.mem_filterMap.mp hm
      exact nfr (List.mem_filterMap.mpr ⟨e, List.mem_cons_of_mem _ he, q⟩)
    have newI : sI.heap.get? a = none := by
      cases q : sI.heap.get? a with
      | none => rfl
      | some o =>
        have z := nb a o q (by rw [hst]; exact nfr)
        rw [fl3.2.1] at z
        cases z
    have new0 : a ∉ X.ex → X.s_0.heap.get? a = none := fun hx => by
      cases q : X.s_0.heap.get? a with
      | none => rfl
      | some o =>
        obtain ⟨o', z⟩ := J.base.there a o q hx
        rw [newI] at z
        cases z
    have npin : ∀ p ∈ X.pn ++ pins, p.1 ≠ a := fun p hp z => by
      have z2 := (J.pin p hp).1
      rw [z, newI] at z2
      cases z2
    have S3 := J3.suite he3 hd3 na nL nF
    refine wpAny_handleBy_cons (codeAny_handlers_test ?_) (by intro q; cases q)
    have lt : PySem.W.Looks (model X.prog X.w) h3 (typeOf (.ref a)) cls := fun A Q E s k q => wpAny_typeOf_ref (k _ _ he3) (by rw [hz3.1]; exact q)
    have lm := PySem.W.exm_one (M := model X.prog X.w) J3.kIn lt hex
    have test : ∀ {Q E : Value → Shared → Prop}, Q c { t with heap := h3 } → wpAny (model X.prog X.w) (X.A.mark (some (.ref a))) (eval (.Name x np) X.env) Q E { t with heap := h3 } := fun {Q E} q => by
      obtain ⟨hg, hdbg, hm⟩ := hc
      rcases hm with hm | ⟨hm, hv, hnn⟩
      · exact ld_glob (X := X.suite a ((a, oe3) :: (X.pn ++ pins))) S3 hg hm q hdbg
      · exact ld_blt (X := X.suite a ((a, oe3) :: (X.pn ++ pins))) S3 hg hm hv q hnn hdbg
    refine test (lm.here (codeAny_handlers_suite_as (HandSPX.lands_againZ fl3 fun h4 fl4 up4 => ?_)))
    have J4 : Inv X pins σ1 H1 { t with heap := h4 } := J.landed nb fl4.1 ((upS.trans up3).trans up4) oss ags
    obtain ⟨oe4, vs4, he4, hz4, hd4⟩ := fl4.there
    have S4 := J4.suite he4 hd4 na nL nF
    refine store_ok (X := X.suite a ((a, oe4) :: (X.pn ++ pins))) (v := .ref a) S4 hN hi (.inl hln) rfl (fun s5 S5 => ?_) (.inr hln)
    refine wpAny_mono ((hsu a oe4 cls d (X.pn ++ pins) hz4 ⟨_, hd4⟩).run [] s5 _ H1 _ S5 (hyes a na)) (fun f s6 hsp => ?_) (fun _ _ z => False.elim z)
    match f, hsp with
    | .next, hsp =>
      obtain ⟨σ6, H6, S6, q6⟩ := hsp
      have pa := S6.pin (a, oe4) (List.mem_append_left _ List.mem_cons_self)
      have J6 : Inv X ((a, oe4) :: pins) σ6 H6 s6 := (S6.unsuite ok).pins_of fun p hp => by
        rcases List.mem_cons.mp (show p ∈ (a, oe4) :: pins from hp) with rfl | hp
        · exact pa
        · exact (S6.unsuite ok).pin p (List.mem_append_right _ hp)
      refine gone_ok J6 hN hi hln fun s7 J7 => ?_
      have p7 := J7.pin (a, oe4) (List.mem_append_right _ List.mem_cons_self)
      have J8 : Inv X pins (σ6.set i none) H6 s7 := J7.pins_of fun p hp => J7.pin p (List.mem_append_right _ (List.mem_cons_of_mem _ hp))
      exact ⟨_, _, inv_track J8 p7.1 p7.2.1 nL hz4 hd4 (new0 (by rw [hex0]; exact List.not_mem_nil)) npin, q6 p7.2.1⟩
    | .brk, hsp => exact (hsp.elim fun _ z => z.elim fun _ z => z.2).elim
    | .cont, hsp => exact (hsp.elim fun _ z => z.elim fun _ z => z.2).elim
    | .ret u, hsp => exact (hsp.elim fun _ z => z.elim fun _ z => z.elim fun _ z => z.2.2).elim
  refine wpAny_Try_except (wpAny_mono ((hb (wTr X.K c i ts D) (X.pn ++ pins) xe1 catch_ PassesOwn.looking).run [] s σ H D (I0.toTry _) h) (fun f s1 hsp => ?_) (fun e s1 he => he))
  match f, hsp with
  | .next, hsp =>
    obtain ⟨σ', H', J', q⟩ := hsp
    exact wpAny_execs_nil ⟨σ', H', J'.ofTry ok, q⟩
  | .brk, hsp =>
    obtain ⟨σ', H', J', q⟩ := hsp
    exact ⟨σ', H', J'.ofTry ok, q⟩
  | .cont, hsp =>
    obtain ⟨σ', H', J', q⟩ := hsp
    exact ⟨σ', H', J'.ofTry ok, q⟩
  | .ret u, hsp =>
    obtain ⟨v, σ', H', J', r, q⟩ := hsp
    exact ⟨v, σ', H', J'.ofTry ok, r, q⟩
end
/-- what `caught` makes of the lambda's reading -/
def TTc (K : PySem.W.Frag) (CS : Addr) : (XK → Hp → VK → Prop) → Hp → VK → Prop := fun tl H Q =>
  tl (fun cls d H' => PySem.W.exmOne K cls (.ref CS) = some true ∧ ∀ a, H' a = none → Q (.ref a) (upd H' a (ErO a cls d))) H fun _ H' => Q .non H'
def tLen (m : Nat) (t : TS) : TS := fun D σ H => σ.length = m → t D σ H
theorem pss_len {X : Cx} {body : List Stmt} {t : TS} {m : Nat} (hm : X.N.length = m) (h : PSs X body t) : PSs X body (tLen m t) := ⟨fun pins s σ H D J z => h.run pins s σ H D J (z (J.len.trans hm))⟩
theorem pss_imp {X : Cx} {body : List Stmt} {t t' : TS} (h : PSs X body t) (i : ∀ D σ H, t' D σ H → t D σ H) : PSs X body t' := ⟨fun pins s σ H D J z => h.run pins s σ H D J (i D σ H z)⟩
def tRat (i : Nat) : TS := fun D σ H => match σ[i]? with
  | some (some v) => D.rt v H
  | _ => False
theorem tRat_ret {i : Nat} {D : Ends} {σ : L2.St} {H : Hp} (h : tRat i D σ H) : tRet (tVar i) D σ H := by
  unfold tRat at h
  split at h
  · rename_i v e
    exact ⟨v, e, h⟩
  · exact h.elim
theorem caught_gives {X : Cx} {x a e n cn q : Str} {sg : Scope} {g CS : Addr} {cdg : Value} {j : Nat} {p1 p2 p3 p4 p5 p6 p7 p8 p9 p10 p11 p12 p13 p14 : Pos}
    (nd : [a, cn, n].Nodup) (hkn : sg.names.lookup n = some .local) (hkc : sg.names.lookup cn = some .local) (hge : sg.names.lookup e = some .globalImplicit) (hme : X.mg e = some (.ref CS)) (hde : (e == ("__debug__" : Str)) = false)
    (dn : (n == ("__debug__" : Str)) = false) (dn2 : (n == ("__classdict__" : Str)) = false) (dc : (cn == ("__debug__" : Str)) = false) (dc2 : (cn == ("__classdict__" : Str)) = false) :
    LamX.GivesTo X [a, cn, n] x sg g cdg [.Assign [.Name cn p1] (.Constant .none j p2) p3, .Try [.Expr (.Call (.Name a p4) [] [] p5) p6] [.ExceptHandler (some (.Name e p7)) (some n) [.Assign [.Name cn p8] (.Name n p9) p10] p11] [] [] p12, .Return (some (.Name cn p13)) p14] a q (TTc X.K CS) := by
  intro f c' s H Q tl act hc h
  have hgl : Gl (cxOf C8.CX0 X.prog X.w X.K X.mg X.base [a, cn, n] x sg g cdg X.A X.stack s H C8.E0).nox e := hge
  refine ⟨_, pss_cons (ps_set (i := 1) nd rfl (Or.inl hkc) pe_non) (pss_cons (ps_try_track (X := (cxOf C8.CX0 X.prog X.w X.K X.mg X.base [a, cn, n] x sg g cdg X.A X.stack s H C8.E0).nox) (c := .ref CS) (i := 2)
      (tb := fun W D σ H => ∃ Ech : XK, (∀ cls d σ' H', Ech cls d H' → W cls d σ' H') ∧ σ[0]? = some (some (.ref f)) ∧ H c' = some (LamX.CodeO c' q) ∧ tl Ech H fun _ H' => D.nx σ H')
      (ts := fun _ _ _ => tLen 3 (tAsg (tVar 2) (gName 1))) rfl rfl rfl nd rfl hkn ⟨hgl, hde, .inl hme⟩ (fun W pn xe tk _ => ?_) (fun a oe cls d pn _ _ => pss_len rfl (pss_one (ps_set (i := 1) nd rfl (Or.inl hkc) (pv 2 (hv := Or.inl hkn) (hd := dn) (hcd := dn2)))))) (pss_imp (t' := tRat 1) (pss_one (ps_ret (pv 1 (hv := Or.inl hkc) (hd := dc) (hcd := dc2)))) fun D σ H => tRat_ret)), ?_⟩
  · refine ⟨fun pins s' σ H' D I h' => ?_⟩
    obtain ⟨Ech, hW, h1, h2, h3⟩ := h'
    exact (pss_one (ps_expr (pos := p6) (act W pn xe Ech p4 p5 tk hW))).run pins s' σ H' D I ⟨h1, h2, h3⟩
  · refine ⟨fun cls d H' => PySem.W.exmOne X.K cls (.ref CS) = some true ∧ ∀ a, H' a = none → Q (.ref a) (upd H' a (ErO a cls d)), fun cls d σ' H' ⟨e1, e2⟩ => ⟨e1, fun a0 ha hl => ?_⟩, rfl, hc, ?_⟩
    · have hl3 : σ'.length = 3 := by
        rw [List.length_set] at hl
        exact hl
      match σ', hl3 with
      | [x0, x1, x2], _ => exact ⟨_, rfl, fun na => e2 a0 ha⟩
    · exact h
/-! ### over data -/
theorem Wd.extN {c : Ctx} {s : SA} {F : Hp} {n : Nat} {I H H1 : Hp} {μ : Mu} (w : Wd c (some s) F n I μ H) (e : ExtN H H1) (t : Tabs s.T H1) : Wd c (some s) F n I μ H1 := by
  have keep : ∀ b o, H b = some o → notTb o → H1 b = some o := fun b o h k => e b o h fun ps z => by
    rw [z] at k
    exact k
  refine ⟨fun b o h => ?_, fun b nd h => ?_, fun a h => ?_, w.ni, fun b o h => ⟨keep b o (w.f b o h).1 (by
    rcases (w.f b o h).2 with ⟨_, _, q, _⟩ | ⟨_, _, rfl, _⟩
    · exact q.tb
    · trivial), (w.f b o h).2⟩, w.z⟩
  · rcases w.i b o h with z | ⟨z, ob, z2⟩
    · exact .inl (keep b o z (w.ni b o h))
    · exact .inr ⟨z, ob, keep b _ z2 trivial⟩
  · obtain ⟨h1, o, h2, h3⟩ := w.m b nd h
    exact ⟨h1, o, h2, keep b o h3 h2.tx.tb⟩
  · cases h
    obtain ⟨h9, h0, ws, cs, r, t0, h1, h2, h3, h4⟩ := (w.s s rfl).1
    exact ⟨⟨t, h0, ws, cs, r, t0, keep _ _ h1 trivial, keep _ _ h2 trivial, keep _ _ h3 trivial, h4⟩, (w.s s rfl).2⟩
/-- what caught tells: None, or the error, which is one of the classes es -/
def wCaught (es : List Str) (w : WE) : WE := fun e μ Q _ => w e μ (fun _ μ1 => Q .none μ1) fun d μ1 => match d with
  | .err n _ _ => n ∈ es ∧ Q d μ1
  | _ => False
section
variable {X : Cx} {c : Ctx} {W : WX} {k kl : Nat} {w : WE} {es : List Str}
theorem ld_caught {σ : L2.St} {H : Hp} {Q : VK} {CS : Addr} (hes : ∀ n ∈ es, PySem.W.exmOne c.K (.ref (c.cl n)) (.ref CS) = some true) (h : ldE c W k (wCaught es w) σ H Q) : tLam c.tb (TTc c.K CS) (fun E => ldE c (fun cls d _ H => E cls d H) k w) σ H Q := by
  obtain ⟨S, F, n, I, μ, e, Qd, Xd, hl, he, hw, h, q, x⟩ := h
  obtain ⟨s, rfl, hT⟩ := hw.z
  refine ⟨by rw [← hT]; exact (hw.s s rfl).1.1, fun H1 eN t1 => ?_⟩
  refine ⟨some s, F, n, I, μ, e, _, _, hl, he, hw.extN eN (by rw [hT]; exact t1), h, fun d μ1 v I1 H1 pa s1 w1 ra => q .none μ1 .non I1 H1 pa s1 w1 .none, fun d μ' cls dx I' H' p sm w' er => ?_⟩
  obtain ⟨n', fs, ds, xs, rfl, rfl, hf, hr, hn⟩ | ⟨n', rfl, rfl, hn⟩ := er
  rotate_left
  · exact p.elim
  obtain ⟨p1, p2⟩ := p
  refine ⟨hes n' p1, fun a ha => ?_⟩
  have sm2 : Same I' (upd I' a (ErO a (.ref (c.cl n')) dx)) := same_new (w'.fresh ha).1
  exact q _ μ' (.ref a) _ _ p2 (sm.trans sm2) (w'.new ha (show notTb (.ext _) from trivial)) (.err upd_same (hf.mono sm2) (hr.mono sm2) hn)
/-- caught(lambda: ..) -/
theorem g_caught {x a e n cn : Str} {g CS cc P : Addr} {pg : Arguments} {sg : Scope} {dvg : List V} {kwg : List (Str × V)} {fdg : FuncData} {params : Arguments} {body : Expr} {scope : Scope} {p lpos pos : Pos} {j : Nat} {p1 p2 p3 p4 p5 p6 p7 p8 p9 p10 p11 p12 p13 p14 : Pos}
    (gd : Gds.ok X.A) (hg : Gl X x) (hm : X.mg x = some (.ref g)) (hk : PySem.W.keepIn X.K (.ref g) = true)
    (Fg : FunD X.K x x pg [.Assign [.Name cn p1] (.Constant .none j p2) p3, .Try [.Expr (.Call (.Name a p4) [] [] p5) p6] [.ExceptHandler (some (.Name e p7)) (some n) [.Assign [.Name cn p8] (.Name n p9) p10] p11] [] [] p12, .Return (some (.Name cn p13)) p14] sg dvg kwg g fdg)
    (bi : L2.Binds X.K fdg [a] []) (Sg : FnScope [a, cn, n] [a] sg) (hva : Vis sg a) (nd : [a, cn, n].Nodup) (hkn : sg.names.lookup n = some .local) (hkc : sg.names.lookup cn = some .local) (hge : sg.names.lookup e = some .globalImplicit) (hme : X.mg e = some (.ref CS))
    (TB : TabB X.base X.mg cc P) (hcode : X.env.code = .ref cc) (hmT : (P, X.env.qual ++ "<lambda>") ∈ c.tb) (hu : ∀ p ∈ c.tb, p.1 = P → p.2 = X.env.qual ++ "<lambda>") (room : Room (kl + 2) X.A) (L : LamS X.env.scope scope) (hdef : defaultsOf params X.env = ([], []))
    (hbind : ∀ (q : Str) (cl : List (Str × Addr)) (pm cv ctv : Value), bindArgs (PySem.W.kla_fn "<lambda>" q params body scope cl pm cv ctv) ⟨[], []⟩ = pure [])
    (hes : ∀ n ∈ es, PySem.W.exmOne c.K (.ref (c.cl n)) (.ref CS) = some true)
    (hb : ∀ (A : Around) (outer : List Env) (s : Shared) (H : Hp) (E : XK) (f c' : Addr), Gds.ok (A.deeper (lamEnv X scope s.heap.objs.size f c')) → Room kl (A.deeper (lamEnv X scope s.heap.objs.size f c')) → GE (lamCx X A outer s H E scope f c') c (fun cls d _ H => E cls d H) k body w)
    (hdb : (x == ("__debug__" : Str)) = false := by decide) (hd : (a == ("__debug__" : Str)) = false := by decide) (hcd : (a == ("__classdict__" : Str)) = false := by decide) (hde : (e == ("__debug__" : Str)) = false := by decide)
    (dn : (n == ("__debug__" : Str)) = false := by decide) (dn2 : (n == ("__classdict__" : Str)) = false := by decide) (dc : (cn == ("__debug__" : Str)) = false := by decide) (dc2 : (cn == ("__classdict__" : Str)) = false := by decide) (hK : X.K = c.K := by rfl) :
    GE X c W k (.Call (.Name x p) [.Lambda params body scope lpos] [] pos) (wCaught es w) :=
  L2.PE.imp (lamcall_ok gd hg hm hk Fg bi Sg rfl hva (fun cdv => caught_gives nd hkn hkc hge hme hde dn dn2 dc dc2) TB hcode hmT hu room L hdef hbind hb hdb hd hcd) fun σ H Q h => by
    rw [hK]
    exact ld_caught hes h
end
end DL

set_option Elab.async false
set_option linter.all false
set_option maxRecDepth 100000
set_option maxHeartbeats 4000000
/-! A10: the law's end, with tables of code objects, where no repr is under way. -/
namespace DL
open PySem PySem.Spec PyProof.Rows L2
open LamX (TabB)
/-- what the caller asks behind the law -/
abbrev Ended (s1 : Shared) : Result → Shared → Prop := fun r s' => r = .ok (.ret (.bool true)) ∧ OldK s1.heap s'.heap ∧ s'.os = s1.os ∧ AllBare s'.gens
section
variable {P : Program} {w : PySem.World} {K : PySem.W.Frag} {mg mb : Str → Option Value} {k : Nat} {fa a : Addr} {fd : FuncData} {x : Str} {sp : Sp} {s1 : Shared} {vs : List Value} {ns : List Int} {cs : List (Addr × Addr)}
/-- what is known of the law's heap -/
structure LawH (K : PySem.W.Frag) (mg mb : Str → Option Value) (s1 : Shared) (cs : List (Addr × Addr)) (a : Addr) (vs : List Value) : Prop where
  kx : K.In s1.heap
  hns : s1.heap.Ns mainGlobals mg
  hb : s1.heap.Ns builtinsNs mb
  hbb : ∀ x : Str, x ≠ "__name__" → mb x = bootBuiltins x
  lim : s1.heap.NoLimit
  hg : s1.gens = #[]
  tab : ∀ p ∈ cs, s1.heap.get? p.2 = some { cls := .none, data := .fields #[] }
  ntab : ∀ p ∈ cs, K.lookup p.2 = none
  code : ∀ p ∈ cs, PySem.W.CodeHd s1.heap p.1 p.2
  bm : ∃ (bm : Addr) (ob : Obj), mg "__builtins__" = some (.ref bm) ∧ bm ≠ builtinsNs ∧ s1.heap.get? bm = some ob ∧ ob.cls = .type "module" ∧ ob.dict = some builtinsNs ∧ ob.data = .plain
  ha : s1.heap.get? a = some { cls := .type "list", data := .seq vs.toArray }
def isTb (cs : List (Addr × Addr)) (b : Addr) : Prop := ∃ p ∈ cs, b = p.2
/-- what is tracked ahead of the law: the script, the tables -/
structure Track (cs : List (Addr × Addr)) (K : PySem.W.Frag) (a : Addr) (H : Hp) : Prop where
  tb : ∀ p ∈ cs, H p.2 = some (.tbl #[])
  only : ∀ b u, H b = some u → (b = a ∧ K.lookup a = none ∧ ∃ o xs, u = .frz o (.lst xs)) ∨ isTb cs b
theorem law_end (L : LawH K mg mb s1 cs a vs) (room : Room k callerA) (F : ∀ base : Heap, K.In base → base.Ns mainGlobals mg → (∀ p ∈ cs, TabB base mg p.1 p.2) → FnW P w K mg base k fa fd [x] sp) (bi : ∀ (s : Shared) (u : Value), BindsTo s fd ⟨[u], []⟩ [(x, u)])
    {H : Hp} (T : Track cs K a H) (hok : HOk P w H s1.heap) (hs : sp [.ref a] H (fun v _ => v = .bl true) fun _ _ _ => False) : codeAny (model P w) callerA (.call (.ref fa) ⟨[.ref a], []⟩) (Ended s1) s1 := by
  have isT : ∀ {b : Addr}, isTb cs b → s1.heap.get? b = some { cls := .none, data := .fields #[] } := by
    rintro b ⟨p, hp, rfl⟩
    exact L.tab p hp
  have seen : ∀ {b : Addr} {o : Obj}, s1.heap.get? b = some o → H b = none → (hidT s1.heap H).get? b = some o := fun p q => hidT_get p q
  have off : ∀ {b : Addr} {o : Obj}, s1.heap.get? b = some o → (∀ vs n, o.data ≠ .seq vs n) → o.data ≠ .fields #[] → H b = none := fun {b o} e h1 h2 => none_of fun u q => by
    rcases T.only b u q with ⟨z, _⟩ | z
    · rw [z, L.ha] at e
      cases e
      exact h1 _ _ rfl
    · rw [isT z] at e
      cases e
      exact h2 rfl
  have dct : ∀ {b : Addr} {o : Obj} {es : Array DictEntry} {n : Nat}, s1.heap.get? b = some o → o.data = .dict es n → H b = none := fun {b o es n} e d => off e (fun _ _ z => by rw [d] at z; cases z) fun z => by rw [d] at z; cases z
  have names : ∀ {b : Addr} {m : Str → Option Value}, s1.heap.Ns b m → (hidT s1.heap H).Ns b m := by
    rintro b m ⟨o, es, n, p, q, r⟩
    exact ⟨o, es, n, seen p (dct p q), q, r⟩
  have kin : K.In (hidT s1.heap H) := fun b o p => seen (L.kx b o p) (none_of fun u q => by
    rcases T.only b u q with ⟨z, z2, _⟩ | ⟨t, ht, z⟩
    · rw [z, z2] at p
      cases p
    · rw [z, L.ntab t ht] at p
      cases p)
  have md : Mod K mg (hidT s1.heap H) := by
    obtain ⟨mc, l1, l2⟩ := L.lim
    exact ⟨kin, names L.hns, ⟨mb, names L.hb, L.hbb⟩, ⟨mc, names l1, l2⟩⟩
  have tabs : ∀ p ∈ cs, TabB (hidT s1.heap H) mg p.1 p.2 := fun p hp => by
    have tp := L.tab p hp
    refine ⟨?_, ?_, fun z => ?_⟩
    · obtain ⟨o, us, file, tf, flags, tg, inF, text, tt, e1, r1, r2, r3, rest⟩ := L.code p hp
      refine ⟨o, us, file, tf, flags, tg, inF, text, tt, seen e1 (off e1 (fun _ _ z => ?_) fun z => ?_), r1, r2, r3, rest⟩
      · rw [r2] at z
        cases z
      · rw [r2] at z
        cases z
        simp at r3
    · obtain ⟨bm, ob, b1, b2, b3, b4, b5, b6⟩ := L.bm
      refine ⟨bm, ob, b1, b2, fun q => ?_, fun q => ?_, seen b3 (off b3 (fun _ _ z => ?_) fun z => ?_), b4, b5, b6⟩
      · obtain ⟨o, es, n, e, hd, _⟩ := L.hns
        rw [q, e] at b3
        cases b3
        rw [hd] at b6
        cases b6
      · rw [q, tp] at b3
        cases b3
        cases b6
      · rw [b6] at z
        cases z
      · rw [b6] at z
        cases z
    · obtain ⟨o, es, n, e, hd, _⟩ := L.hns
      rw [z, tp] at e
      cases e
      cases hd
  have en : Env0 P w K mg (hidT s1.heap H) callerA [] s1 H := ⟨rfl, md, fun b o p => of_hidT p, Nat.le_of_eq (hidT_size _ _), trivial, fun b p => absurd (show b ∈ ([] : List Addr) from p) List.not_mem_nil, hok, .of_eq L.hg⟩
  refine codeAny_mono ((F _ kin (names L.hns) tabs).run callerA [] s1 H ⟨[.ref a], []⟩ [.ref a] [.ref a] _ _ rfl room en (bi s1 (.ref a)) (.cons rfl .nil) hs) fun res s2 z => ?_
  match res, z with
  | .error e, z =>
    obtain ⟨_, _, _, _, _, _, _, _, _, _, _, _, z⟩ := z
    exact z.elim
  | .ok .next, z => exact False.elim z
  | .ok .brk, z => exact False.elim z
  | .ok .cont, z => exact False.elim z
  | .ok (.ret u), z =>
    obtain ⟨v, H2, e1, e2, un, hok2, e3, e4⟩ := z
    cases (show v = .bl true from e4)
    cases (show u = Value.bool true from e3)
    have kept : ∀ b o, ¬ isTb cs b → s1.heap.get? b = some o → s2.heap.get? b = some o := fun b o nb p => by
      cases q : H b with
      | none => exact un.keep b o p q (fun q => nomatch (show b ∈ ([] : List Addr) from q)) List.not_mem_nil
      | some u =>
        rcases T.only b u q with ⟨_, _, ob, xs, z⟩ | z
        · rw [z] at q
          have p1 := (hok b _ q).1
          have p2 := (hok2 b _ (un.frzs b ob _ q)).1
          rw [p] at p1
          cases p1
          exact p2
        · exact absurd z nb
    have grown : ∀ {b : Addr}, isTb cs b → ∃ more : Array Value, s2.heap.get? b = some { cls := .none, data := .fields more } := by
      rintro b ⟨p, hp, rfl⟩
      obtain ⟨more, z⟩ := un.tbls p.2 #[] (T.tb p hp)
      exact ⟨_, hok2 p.2 _ z⟩
    refine ⟨rfl, ⟨fun b o p => ?_, fun b o p => ?_⟩, e1, e2⟩
    · rcases Classical.em (isTb cs b) with z | z
      · obtain ⟨more, hm⟩ := grown z
        rw [isT z] at p
        cases p
        obtain ⟨p, hp, rfl⟩ := z
        exact .inr (.inl ⟨((L.code p hp).tab (L.tab p hp)).isCodeTable, rfl, #[], more, rfl, by rw [Array.empty_append]; exact hm⟩)
      · exact .inl (kept b o z p)
    · rcases Classical.em (isTb cs b) with z | z
      · obtain ⟨more, hm⟩ := grown z
        exact ⟨_, hm⟩
      · exact ⟨o, kept b o z p⟩
theorem law_runs (L : LawH K mg mb s1 cs a vs) (hi : IntsAre vs ns) (hl : ns.length ≤ sizeLine) (room : Room k callerA) (F : ∀ base : Heap, K.In base → base.Ns mainGlobals mg → (∀ p ∈ cs, TabB base mg p.1 p.2) → FnW P w K mg base k fa fd [x] sp) (bi : ∀ (s : Shared) (u : Value), BindsTo s fd ⟨[u], []⟩ [(x, u)])
    (hsp : ∀ H : Hp, (∀ p ∈ cs, H p.2 = some (.tbl #[])) → SqL K H a (ns.map V.int) → sp [.ref a] H (fun v _ => v = .bl true) fun _ _ _ => False) : codeAny (model P w) callerA (.call (.ref fa) ⟨[.ref a], []⟩) (Ended s1) s1 := by
  have rv := vals_ints hi
  have aT : ¬ isTb cs a := by
    rintro ⟨p, hp, z⟩
    have q := L.tab p hp
    rw [← z, L.ha] at q
    cases (show Data.seq vs.toArray _ = Data.fields #[] from congrArg Obj.data (Option.some.inj q))
  classical
  let H0 : Hp := fun b => if isTb cs b then some (.tbl #[]) else none
  have on : ∀ {b : Addr}, isTb cs b → H0 b = some (.tbl #[]) := fun z => if_pos z
  have no : ∀ {b : Addr}, ¬ isTb cs b → H0 b = none := fun z => if_neg z
  have ok0 : ∀ {H : Hp} {b : Addr} {u : HO}, H0 b = some u → ObjOk P w H s1.heap b u := fun {H b u} q => by
    rcases Classical.em (isTb cs b) with z | z
    · rw [on z] at q
      cases q
      obtain ⟨p, hp, rfl⟩ := z
      exact L.tab p hp
    · rw [no z] at q
      cases q
  have t0 : ∀ {b : Addr} {u : HO}, H0 b = some u → isTb cs b := fun {b u} q => Classical.byContradiction fun z => by
    rw [no z] at q
    cases q
  cases hk : K.lookup a with
  | some o =>
    have p := L.kx a o hk
    rw [L.ha] at p
    cases p
    refine law_end L room F bi (H := H0) ⟨fun p hp => on ⟨p, hp, rfl⟩, fun b u q => .inr (t0 q)⟩ (fun b u q => ok0 q) (hsp _ (fun p hp => on ⟨p, hp, rfl⟩) (.inr ⟨_, vs.toArray, _, hk, rfl, rfl, rfl, by rw [List.size_toArray, hi.length]; exact hl, rv⟩))
  | none =>
    let h0 : HO := .frz { cls := .type "list", data := .seq vs.toArray } (.lst (ns.map V.int))
    have ne : ∀ {p : Addr × Addr}, p ∈ cs → p.2 ≠ a := fun {p} hp z => aT ⟨p, hp, z.symm⟩
    refine law_end L room F bi (H := upd H0 a h0) ⟨fun p hp => by rw [upd_ne (ne hp)]; exact on ⟨p, hp, rfl⟩, fun b u q => ?_⟩ (fun b u q => ?_) (hsp _ (fun p hp => by rw [upd_ne (ne hp)]; exact on ⟨p, hp, rfl⟩) (.inl (.inr ⟨_, upd_same⟩)))
    · by_cases z : b = a
      · subst z
        rw [upd_same] at q
        cases q
        exact .inl ⟨rfl, hk, _, _, rfl⟩
      · rw [upd_ne z] at q
        exact .inr (t0 q)
    · by_cases z : b = a
      · subst z
        rw [upd_same] at q
        cases q
        exact ⟨L.ha, by rw [List.length_map]; exact hl, vs, _, rv, L.ha⟩
      · rw [upd_ne z] at q
        exact ok0 q
end
/-- a law, by its def's promise at the head's heap h -/
def LawAt (l : PySem.W.OpenLaw) (w : PySem.World) (k n : Nat) (x : Str) (mg : Str → Option Value) (fa : Addr) (h : Heap) : Prop :=
  ∃ (c : Ctx) (fd : FuncData) (cs : List (Addr × Addr)), c.K.In h ∧ (∀ p ∈ cs, h.get? p.2 = some { cls := .none, data := .fields #[] }) ∧ (∀ p ∈ cs, c.K.lookup p.2 = none) ∧ (∀ p ∈ cs, PySem.W.CodeHd h p.1 p.2) ∧ (∀ p ∈ c.tb, isTb cs p.1) ∧ (∀ (s : Shared) (u : Value), BindsTo s fd ⟨[u], []⟩ [(x, u)]) ∧
    ∀ base : Heap, c.K.In base → base.Ns mainGlobals mg → (∀ p ∈ cs, TabB base mg p.1 p.2) → FnW l.prog w c.K mg base k fa fd [x] (spLaw c)
theorem walk_of {l : PySem.W.OpenLaw} {n k : Nat} {q : Program} {loose : List Str} {XP : (Str → Option Value) → Heap → Prop} {YP : PySem.World → Heap → Prop} {d : DefRec} {x : Str} (hn : l.most = some n) (hn2 : n ≤ 63) (hdf : d.params.defaults = []) (room : Room k callerA)
    (F : ∀ (w : PySem.World) (mg : Str → Option Value) (fa : Addr) (h : Heap), YP w h → h.Ns mainGlobals mg → mg d.name = some (.ref fa) → LawAt l w k n x mg fa h) :
    PySem.W.WalkO q loose XP YP l.row.toRowW d [] (fun f vs => PySem.call f vs) := Att.attach_call hn hdf fun w s0 s1 mg mb fa o pm cd doc a vs ns G Y ho hd hcd hmg hobj hints hlen hg => by
  obtain ⟨c, fd, cs, kx, b1, b2, b3, b4, b5, b6⟩ := F w mg fa _ Y G.T.g hmg
  refine law_runs ⟨kx, G.T.g, G.T.b, G.T.builtins, G.T.nolimit, hg, b1, b2, b3, G.T.bmain, hobj⟩ hints (by rw [sizeLine_eq]; omega) room b6 b5 fun H hT hS => ⟨a, ns, rfl, hS, by omega, fun p hp => ?_, fun _ => rfl⟩
  obtain ⟨r, hr, e⟩ := b4 p hp
  rw [e]
  exact hT r hr
end DL

set_option Elab.async false
set_option linter.all false
set_option maxRecDepth 100000
set_option maxHeartbeats 4000000
/-! A11: the head's facts: with empty tables left out; errors, classes by lists of names; static methods; some displays. -/
namespace DL
open PySem PySem.Spec PyProof.Rows L2
variable [Gds]
/-! ### the hook with tables -/
/-- the bits of addresses; what is new joins them, the last in front -/
def newY : List Addr → Nat → List Addr → Nat × List Addr
  | [], m, acc => (m, acc)
  | a :: as, m, acc => HandSHeadRun.frNat a fun a => match Nat.beq (Nat.mod (Nat.shiftRight m a) 2) 1 with
    | true => newY as m acc
    | false => HandSHeadRun.frNat (Nat.add m (Nat.pow 2 a)) fun m => newY as m (a :: acc)
/-- n rounds from those in front -/
def goY (g : Addr → Option Obj) : Nat → Nat → List Addr → List Addr → List Addr
  | 0, _, _, all => all.reverse
  | n + 1, m, fr, all => match newY (fr.flatMap fun a => match g a with
    | some o => He.refsD o
    | none => []) m [] with
    | (m, new) => goY g n m new.reverse (new ++ all)
/-- what the names reach in n steps, and the interpreter's own statics -/
def asY (g : Addr → Option Obj) (n : Nat) : List Addr := goY g n (Nat.pow 2 mainGlobals) [mainGlobals] [mainGlobals] ++ [cStatics, sysModules]
abbrev tabAt (K : PySem.W.Frag) (f : Addr) : Addr := He.tabOf K (codeAt K f)
structure SaysY (bs : List (PySem.W.Frag → Bool)) (fn : List DefX) (tf : List (PySem.W.Frag → Addr)) (h : Heap) (K : PySem.W.Frag) : Prop where
  t : SaysX bs fn K
  hd : ∀ f ∈ tf, PySem.W.codeHdIn K (codeAt K (f K)) (tabAt K (f K)) = true
  out : ∀ f ∈ tf, K.lookup (tabAt K (f K)) = none
  empty : ∀ f ∈ tf, h.get? (tabAt K (f K)) = some { cls := .none, data := .fields #[] }
def tabsY (g : Addr → Option Obj) (tf : List (PySem.W.Frag → Addr)) (K : PySem.W.Frag) : Bool := tf.all fun f => PySem.W.codeHdIn K (codeAt K (f K)) (tabAt K (f K)) && (match g (tabAt K (f K)) with
  | some o => He.emptyTab o
  | none => false)
abbrev AlY : Type := AlX × Bool
def obsY (n : Nat) (bs : List (PySem.W.Frag → Bool)) (fn : List DefX) (tf : List (PySem.W.Frag → Addr)) (g : Addr → Option Obj) : AlY := (obsX bs fn (He.frT g (asY g n)), tabsY g tf (He.frT g (asY g n)))
theorem saysY_of {n : Nat} {bs : List (PySem.W.Frag → Bool)} {fn : List DefX} {tf : List (PySem.W.Frag → Addr)} {h : Heap} (e : obsY n bs fn tf h.get? = (valX fn, true)) : SaysY bs fn tf h (He.frT h.get? (asY h.get? n)) := by
  have e1 : obsX bs fn (He.frT h.get? (asY h.get? n)) = valX fn := congrArg (fun z : AlY => z.1) e
  have e2 : tabsY h.get? tf (He.frT h.get? (asY h.get? n)) = true := congrArg (fun z : AlY => z.2) e
  have each : ∀ f ∈ tf, PySem.W.codeHdIn (He.frT h.get? (asY h.get? n)) (codeAt (He.frT h.get? (asY h.get? n)) (f (He.frT h.get? (asY h.get? n)))) (tabAt (He.frT h.get? (asY h.get? n)) (f (He.frT h.get? (asY h.get? n)))) = true ∧
      ∃ o, h.get? (tabAt (He.frT h.get? (asY h.get? n)) (f (He.frT h.get? (asY h.get? n)))) = some o ∧ He.emptyTab o = true := fun f hf => by
    obtain ⟨z1, z2⟩ := He.ba (List.all_eq_true.mp e2 f hf)
    refine ⟨z1, ?_⟩
    split at z2
    · rename_i o q
      exact ⟨o, q, z2⟩
    · cases z2
  refine ⟨e1, fun f hf => (each f hf).1, fun f hf => ?_, fun f hf => ?_⟩
  · obtain ⟨_, o, q, z⟩ := each f hf
    exact He.frT_none q z
  · obtain ⟨_, o, q, z⟩ := each f hf
    rw [q, He.emptyTab_eq z]
def hookY (n : Nat) (bs : List (PySem.W.Frag → Bool)) (fn : List DefX) (tf : List (PySem.W.Frag → Addr)) : PySem.W.Hook where
  α := AlY
  obs := fun s => obsY n bs fn tf s.heap.get?
  val := fun _ => (valX fn, true)
  says := fun _ h => ∃ K : PySem.W.Frag, K.In h ∧ SaysY bs fn tf h K
  of := fun _ _ e => ⟨_, He.frT_in, saysY_of e⟩
  keeps := fun _ _ _ ⟨K, hK, c⟩ k => ⟨K, PySem.W.Frag.In.keeps hK k, ⟨c.t, c.hd, c.out, fun f hf => k _ _ (c.empty f hf)⟩⟩
theorem obsY_eq {n : Nat} {bs : List (PySem.W.Frag → Bool)} {fn : List DefX} {tf : List (PySem.W.Frag → Addr)} {g : Addr → Option Obj} {s : Shared} (h : ∀ a, g a = s.heap.get? a) : obsY n bs fn tf g = (hookY n bs fn tf).obs s := by
  have e : g = s.heap.get? := funext h
  rw [e] <;> rfl
/-- the tables of the defs tf -/
def tabsOf (K : PySem.W.Frag) (tf : List (PySem.W.Frag → Addr)) : List (Addr × Addr) := tf.map fun f => (codeAt K (f K), tabAt K (f K))
/-! ### Bools of the head -/
def noneB (o : Option (Option Value)) : Bool := match o with
  | some none => true
  | _ => false
theorem noneB_ok {o : Option (Option Value)} (h : noneB o = true) : o = some none := by
  unfold noneB at h
  split at h
  · rfl
  · cases h
theorem all_ok {α : Type} {l : List α} {p : α → Bool} {P : α → Prop} (h : l.all p = true) (i : ∀ a, p a = true → P a) : ∀ a ∈ l, P a := fun a ha => i a (List.all_eq_true.mp h a ha)
def excB (K : PySem.W.Frag) (D : Addr) : Bool := He.eqO (PySem.W.findIn K (.ref D) "__getattribute__") (some (some (.builtin "BaseException.__getattribute__"))) && (noneB (PySem.W.findIn K (.ref D) "__getattr__") && (decide (PySem.W.subIn K (.ref D) (.type "BaseException") = some true) && (PySem.W.hasDictIn K D &&
  (He.eqO (PySem.W.findIn K (.ref D) "__class__") (some (some (.builtin "object.__class__"))) && (He.eqO (PySem.W.specialIn K (.builtin "object.__class__") "__get__") (some (some (.builtin "getset_descriptor.__get__"))) && (decide (PySem.W.takesIn K (.builtin "object.__class__") = some true) && decide (PySem.W.mroIn K D (.type "object") = some true)))))))
theorem excB_ok {K : PySem.W.Frag} {D : Addr} (h : excB K D = true) : ExcC K D := by
  obtain ⟨h1, h⟩ := He.ba h
  obtain ⟨h2, h⟩ := He.ba h
  obtain ⟨h3, h⟩ := He.ba h
  obtain ⟨h4, h⟩ := He.ba h
  obtain ⟨h5, h⟩ := He.ba h
  obtain ⟨h6, h⟩ := He.ba h
  obtain ⟨h7, h8⟩ := He.ba h
  exact ⟨He.eqO_ok h1, noneB_ok h2, of_decide_eq_true h3, h4, He.eqO_ok h5, He.eqO_ok h6, of_decide_eq_true h7, of_decide_eq_true h8⟩
/-- all that is asked of the classes of a law -/
def ctxB (ns es : List Str) (K : PySem.W.Frag) : Bool := (ns.all fun n => (He.Fa.cls n).ok K && isiB K (He.ga K n)) && ((es.all fun n => excB K (He.ga K n)) && (((ns ++ es).all fun n => (ns ++ es).all fun m => kitB2 K (.ref (He.ga K n)) (.ref (He.ga K m)) (subCC n m)) &&
  (((ns ++ es).all fun n => tyNames.all fun t => kitB2 K (.ref (He.ga K n)) (.type t) (subCT n t)) && (tyNames.all fun t => (ns ++ es).all fun n => kitB2 K (.type t) (.ref (He.ga K n)) false))))
theorem ctxB_ok {ns es : List Str} {K : PySem.W.Frag} {tb : List (Addr × Str)} (h : ctxB ns es K = true) : CtxOk { K := K, cl := He.ga K, tb := tb, ns := ns, es := es } := by
  obtain ⟨h1, h⟩ := He.ba h
  obtain ⟨h2, h⟩ := He.ba h
  obtain ⟨h3, h⟩ := He.ba h
  obtain ⟨h4, h5⟩ := He.ba h
  refine ⟨all_ok h1 fun n z => ?_, all_ok h2 fun n z => excB_ok z, all_ok h3 fun n z => all_ok z fun m z => kitB2_ok z, all_ok h4 fun n z => all_ok z fun m z => kitB2_ok z, all_ok h5 fun n z => all_ok z fun m z => kitB2_ok z⟩
  obtain ⟨z1, z2⟩ := He.ba z
  exact isiB_ok (He.cls_ok z1) z2
/-- an error class without own __init__ -/
structure ErN (K : PySem.W.Frag) (C : Addr) : Prop where
  q : PySem.W.excIn K C PySem.HandSPX.veTail "ValueError.__new__" = true
  kp : PySem.W.keepIn K (.ref C) = true
  be : PySem.W.subIn K (.ref C) (.type "BaseException") = some true
  ty : PySem.W.typeIn K (.ref C) = some (.type "type")
def erB (K : PySem.W.Frag) (C : Addr) : Bool := PySem.W.excIn K C PySem.HandSPX.veTail "ValueError.__new__" && (PySem.W.keepIn K (.ref C) && (decide (PySem.W.subIn K (.ref C) (.type "BaseException") = some true) && decide (PySem.W.typeIn K (.ref C) = some (.type "type"))))
theorem erB_ok {K : PySem.W.Frag} {C : Addr} (h : erB K C = true) : ErN K C := by
  obtain ⟨h1, h⟩ := He.ba h
  obtain ⟨h2, h⟩ := He.ba h
  obtain ⟨h3, h4⟩ := He.ba h
  exact ⟨h1, h2, of_decide_eq_true h3, of_decide_eq_true h4⟩
/-- one with an own __init__ and the field f -/
structure ErI (K : PySem.W.Frag) (C fI : Addr) (f : Str) : Prop where
  t : OexC K C
  ini : PySem.W.findIn K (.ref C) "__init__" = some (some (.ref fI))
  fn : PySem.W.typeIn K (.ref fI) = some (.type "function")
  nof : PySem.W.findIn K (.ref C) f = some none
def oexB (K : PySem.W.Frag) (C : Addr) : Bool := match K.lookup C with
  | some ⟨.type "type", _, .cls cd, sl⟩ => (match cd.mro, sl.toList with
    | .ref C' :: bm, [_, _, _, _, some (.builtin n), _] => C' == C && (n == "ValueError.__new__" && (!cd.hasDel && (cd.hasDict && PySem.HandSPX.refsVE bm)))
    | _, _ => false)
  | _ => false
theorem oexB_ok {K : PySem.W.Frag} {C : Addr} (h : oexB K C = true) : ∃ nm q N bs bm sn sub ab col dd k0 k1 k2 k3 k5, K.lookup C = some (excClassObj nm q C N bs bm true sn sub ab col dd k0 k1 k2 k3 k5 "ValueError.__new__") ∧ PySem.HandSPX.refsVE bm = true := by
  unfold oexB at h
  split at h
  · rename_i dd cd sl ho
    split at h
    · rename_i C' bm k0 k1 k2 k3 n k5 hm hs
      simp only [Bool.and_eq_true, beq_iff_eq, Bool.not_eq_true'] at h
      obtain ⟨rfl, rfl, hdel, hdct, hr⟩ := h
      obtain ⟨nm, bs, mro, ns, qn, hd, sn, sub, ab, col, del⟩ := cd
      dsimp only at hm hdel hdct
      subst hm hdel hdct
      have hsl : sl = #[k0, k1, k2, k3, some (.builtin "ValueError.__new__"), k5] := by
        obtain ⟨l⟩ := sl
        simp only at hs
        rw [hs]
      subst hsl
      exact ⟨nm, qn, ns, bs, bm, sn, sub, ab, col, dd, k0, k1, k2, k3, k5, ho, hr⟩
    · cases h
  · cases h
def eriB (K : PySem.W.Frag) (C fI : Addr) (f : Str) : Bool := oexB K C && (He.eqO (PySem.W.findIn K (.ref C) "__setattr__") (some (some (.builtin "object.__setattr__"))) && (decide (PySem.W.subIn K (.ref C) (.type "BaseException") = some true) && (decide (PySem.W.typeIn K (.ref C) = some (.type "type")) && (PySem.W.keepIn K (.ref C) &&
  (He.eqO (PySem.W.findIn K (.ref C) "__init__") (some (some (.ref fI))) && (decide (PySem.W.typeIn K (.ref fI) = some (.type "function")) && noneB (PySem.W.findIn K (.ref C) f)))))))
theorem eriB_ok {K : PySem.W.Frag} {C fI : Addr} {f : Str} (h : eriB K C fI f = true) : ErI K C fI f := by
  obtain ⟨h1, h⟩ := He.ba h
  obtain ⟨h2, h⟩ := He.ba h
  obtain ⟨h3, h⟩ := He.ba h
  obtain ⟨h4, h⟩ := He.ba h
  obtain ⟨h5, h⟩ := He.ba h
  obtain ⟨h6, h⟩ := He.ba h
  obtain ⟨h7, h8⟩ := He.ba h
  exact ⟨⟨oexB_ok h1, He.eqO_ok h2, of_decide_eq_true h3, of_decide_eq_true h4, h5⟩, He.eqO_ok h6, of_decide_eq_true h7, noneB_ok h8⟩
/-- what of a class is read: the base's __init__, a static method -/
def vInit (K : PySem.W.Frag) (C : Addr) : Bool := match PySem.W.findCls K (.ref C) (.type "type") "__init__" with
  | some (.val (.builtin n)) => n == "ValueError.__init__"
  | _ => false
theorem vInit_ok {K : PySem.W.Frag} {C : Addr} (h : vInit K C = true) : PySem.W.findCls K (.ref C) (.type "type") "__init__" = some (.val (.builtin "ValueError.__init__")) := by
  unfold vInit at h
  split at h
  · rename_i n e
    rw [e, beq_iff_eq.mp h]
  · cases h
def creadB (K : PySem.W.Frag) (C : Addr) : Bool := PySem.W.readsIn K C (.type "type") && He.eqO (PySem.W.specialIn K (.ref C) "__getattribute__") (some (some (.builtin "type.__getattribute__")))
theorem creadB_ok {K : PySem.W.Frag} {C : Addr} (h : creadB K C = true) : ClX.CRead K C (.type "type") := by
  obtain ⟨h1, h2⟩ := He.ba h
  exact ⟨h1, He.eqO_ok h2⟩
structure SMet (K : PySem.W.Frag) (C : Addr) (m : Str) (p g : Addr) : Prop where
  at_ : PySem.W.findCls K (.ref C) (.type "type") m = some (.get (.builtin "staticmethod.__get__") (.ref p) .none (.ref C))
  rc : ∃ rest, PySem.W.recIn K p "staticmethod" = some (.ref g :: rest)
  kp : PySem.W.keepIn K (.ref g) = true
section
variable {X : Cx} {c : Ctx} {W : WX} {k kf ka : Nat} {n m x : Str} {a : Expr} {es : List Expr} {wr : WA} {s : WP} {f pp : Addr} {fd : FuncData} {ps : List Str} {p pos apos : Pos}
theorem g_cls {ex : Expr} (h : PE X ex (tC (.ref (c.cl n)))) (hn : n ∈ c.ns ++ c.es) : GE X c W 0 ex (wK (.cls n)) := g_con h fun _ _ => .cls hn
theorem g_ty {ex : Expr} {t : String} (h : PE X ex (tC (.ty t))) (hn : t ∈ tyNames := by decide) : GE X c W 0 ex (wK (.ty t)) := g_con h fun _ _ => .ty hn
end
/-! ### facts of the written part that later texts ask -/
section
open PySem.W
end
end DL

set_option Elab.async false
set_option linter.all false
set_option maxRecDepth 100000
set_option maxHeartbeats 4000000
/-! A12: defaults, costs, {}, list(range(..)). -/
namespace DL
open PySem PySem.Spec PyProof.Rows L2
section
variable {X : Cx} {c : Ctx} {W : WX} {k ka kb : Nat} {m : Bool} {a : Expr} {wr : WA} {pos : Pos}
theorem gs_le {ss : List Stmt} {w : WS} (h : GSs X c W ka ss w) (hk : ka ≤ kb) : GSs X c W kb ss w := L2.PSs.imp h fun K σ H h => by
  obtain ⟨S, F, n, I, μ, e, E, hl, he, hw, h, q⟩ := h
  exact ⟨S, F, n, I, μ, e, E, by omega, he, hw, h, q.mono (by omega) (Same.refl I)⟩
/-- {} -/
def wDict0 (m : Bool) : WE := fun _ μ Q _ => sett m Q (.n (.dk [] [])) μ
/-! list(range(n)) -/
def wLrng (m : Bool) (a : WA) : WE := fun e μ Q X => a e μ (fun ds μ1 => one ds fun d => int1 d fun j => (0 ≤ j ∧ j ≤ 2 ^ 20) ∧ sett m Q (.n (.list (rangeD 0 j.toNat))) μ1) X
end
theorem len_mixed {c : Ctx} {vs : List V} {H : Hp} {Q : VK} {Ex : XK} {k : Nat} {x : Str} (h : SpW c wp_law_mixed k vs H Q Ex) : vs.length = [x].length := by
  obtain ⟨S, F, m, I, μ, ds, Qd, Xd, hl, w, r, h, _⟩ := h
  rw [← r.length]
  unfold wp_law_mixed at h
  split at h
  · rfl
  · exact h.elim
theorem len_take {c : Ctx} {vs : List V} {H : Hp} {Q : VK} {Ex : XK} {k : Nat} {x y : Str} (h : SpW c wp_law_take k vs H Q Ex) : vs.length = [x, y].length := by
  obtain ⟨S, F, m, I, μ, ds, Qd, Xd, hl, w, r, h, _⟩ := h
  rw [← r.length]
  unfold wp_law_take at h
  split at h
  · rfl
  · exact h.elim
theorem tabs_all {K : PySem.W.Frag} {tf : List (PySem.W.Frag → Addr)} {P : Addr × Addr → Prop} (h : ∀ f ∈ tf, P (codeAt K (f K), tabAt K (f K))) : ∀ p ∈ tabsOf K tf, P p := fun p hp => by
  obtain ⟨f, hf, rfl⟩ := List.mem_map.mp hp
  exact h f hf
theorem tabs_mem {K : PySem.W.Frag} {tf : List (PySem.W.Frag → Addr)} {f : PySem.W.Frag → Addr} (h : f ∈ tf) : (codeAt K (f K), tabAt K (f K)) ∈ tabsOf K tf := List.mem_map.mpr ⟨f, h, rfl⟩
theorem tb_uniq {a : Addr} {q : Str} : ∀ {l : List (Addr × Str)}, (l.map (·.1)).Nodup → (a, q) ∈ l → ∀ p ∈ l, p.1 = a → p.2 = q
  | [], _, h, _, _, _ => by cases h
  | r :: l, nd, h, p, hp, e => by
    rw [List.map_cons, List.nodup_cons] at nd
    rcases List.mem_cons.mp h with h | h <;> rcases List.mem_cons.mp hp with hp | hp
    · rw [hp, ← h]
    · exact (nd.1 (List.mem_map.mpr ⟨p, hp, by rw [e, ← h]⟩)).elim
    · exact (nd.1 (List.mem_map.mpr ⟨(a, q), h, by rw [← hp, e]⟩)).elim
    · exact tb_uniq nd.2 h p hp e
end DL

set_option Elab.async false
set_option linter.all false
set_option maxRecDepth 100000
set_option maxHeartbeats 4000000
/-! A13: == of an own object and any thing of a known kind. -/
namespace DL
open PySem PySem.Spec PyProof.Rows L2
variable [Gds]
/-- no kind of thing comes ahead of the class -/
structure NotF (c : Ctx) (C : Addr) : Prop where
  ty : ∀ t ∈ tyNames, PySem.W.notFirst c.K C (.type t) = true
  cl : ∀ n ∈ c.ns ++ c.es, PySem.W.notFirst c.K C (.ref (c.cl n)) = true
theorem NotF.of {c : Ctx} {C : Addr} (h : NotF c C) {t : TyD} {u : Value} (q : TyV c t u) : PySem.W.notFirst c.K C u = true := by
  cases t with
  | b n =>
    obtain ⟨rfl, q⟩ := q
    exact h.ty _ q
  | o n =>
    obtain ⟨rfl, q⟩ := q
    exact h.cl _ q
section
variable {X : Cx} {c : Ctx} {W : WX} {k kf : Nat} {n : Str} {s : WP} {f : Addr} {fd : FuncData} {ps : List Str}
end
end DL

set_option Elab.async false
set_option linter.all false
set_option maxRecDepth 100000
set_option maxHeartbeats 4000000
/-! A14: keywords; all, any, insert, str of an int, is of bools, chains. -/
namespace DL
open PySem PyProof.Rows L2
variable [Gds]
/-! ### keywords: the values in the parameters' order -/
def permD {α : Type} (z : α) (js : List Nat) (xs : List α) : List α := js.map fun j => xs.getD j z
def waPerm (js : List Nat) (a : WA) : WA := fun e μ Q X => a e μ (fun ds μ1 => ds.length = js.length ∧ Q (permD D.none js ds) μ1) X
theorem getD_none {α : Type} {z : α} {xs : List α} {j : Nat} (h : xs[j]? = Option.none) : xs.getD j z = z := by rw [List.getD, h]; rfl
theorem getD_some {α : Type} {z x : α} {xs : List α} {j : Nat} (h : xs[j]? = some x) : xs.getD j z = x := by rw [List.getD, h]; rfl
theorem perm_vals {vs : List V} {us : List Value} (r : Vals vs us) : ∀ js : List Nat, Vals (permD V.non js vs) (permD Value.none js us)
  | [] => .nil
  | j :: js => by
    refine .cons ?_ (perm_vals r js)
    show RelV (vs.getD j V.non) (us.getD j Value.none)
    cases e : vs[j]? with
    | none =>
      have e2 : us[j]? = Option.none := by
        rw [List.getElem?_eq_none_iff] at e ⊢
        rw [← r.length]
        exact e
      rw [getD_none e, getD_none e2]
      exact rfl
    | some d =>
      obtain ⟨x, h1, h2⟩ := r.get e
      rw [getD_some e, getD_some h1]
      exact h2
abbrev KB (K : PySem.W.Frag) (fd : FuncData) (ps : List Str) (n : Nat) (ks : List Str) (js : List Nat) : Prop := KBn K fd ps n ks (fun us ws => us ++ permD Value.none js ws) (fun vs zs => vs ++ permD V.non js zs)
section
variable {K : PySem.W.Frag} {x qual : Str} {params : Arguments} {body : List Stmt} {scope : Scope} {dvs : List V} {kws : List (Str × V)} {f : Addr} {fd : FuncData} {ps : List Str}
theorem kbn0 (F : FunD K x qual params body scope [] kws f fd) (n : Nat) (ks : List Str) (js : List Nat)
    (h : ∀ (kV doc pm : Value) (an : Option Addr) (cdv ct : Value) (us ws : List Value), us.length = n → ws.length = ks.length → bindArgs (PySem.W.fnOf x qual params body scope .none kV doc pm an cdv ct) ⟨us, ks.zip ws⟩ = pure (ps.zip (us ++ permD Value.none js ws))) : KB K fd ps n ks js := by
  obtain ⟨oc, od, dV, kV, doc, pm, an, cdv, ct, osl, rfl, lk, hcd, hD, hK⟩ := F.ex
  rcases hD with ⟨_, rfl⟩ | ⟨e, _⟩
  · exact ⟨fun s us ws X l1 l2 => .of_eq (h kV doc pm an cdv ct us ws l1 l2), fun r1 r2 => r1.append (perm_vals r2 js)⟩
  · exact absurd rfl e
end
theorem _root_.L2.PK.imp {X : Cx} {kws : List Keyword} {t t' : TA} (h : PK X kws t) (i : ∀ σ H Q, t' σ H Q → t σ H Q) : PK X kws t' := ⟨fun pos pins s σ H Q J z => h.run pos pins s σ H Q J (i σ H Q z)⟩
section
variable {X : Cx} {c : Ctx} {W : WX} {k kf ka kb : Nat} {f C : Addr} {fd : FuncData} {ps ks : List Str} {sp : Sp} {s : WP} {js : List Nat} {x : Str} {p pos kpos : Pos} {e : Expr} {kws : List Keyword} {wr : WA} {wa : WE} {nm : Option Str}
end
/-! ### all, any of a list of bools -/
def boolsD : List D → Option (List Bool)
  | [] => some []
  | .bool b :: ds => (boolsD ds).map (b :: ·)
  | _ => Option.none
theorem bools_rep {c : Ctx} {S : Option SA} {I : Hp} : ∀ {ds : List D} {xs : List V} {bs : List Bool}, Reps c S I ds xs → boolsD ds = some bs → xs = bs.map V.bl
  | _, _, _, .nil, h => by cases h; rfl
  | _, _, bs, .cons r rs, h => by
    cases r with
    | bool =>
      simp only [boolsD, Option.map_eq_some_iff] at h
      obtain ⟨l, h1, rfl⟩ := h
      rw [bools_rep rs h1]
      rfl
    | _ => cases h
theorem boolsD_map (bs : List Bool) : boolsD (bs.map D.bool) = some bs := by
  induction bs with
  | nil => rfl
  | cons b bs ih => simp [boolsD, ih]
def cbBs (f : List Bool → Bool) : WC := fun xs μ Q _ => one xs fun x => match seqL μ x with
  | some ds => (match boolsD ds with
    | some bs => Q (.v (.bool (f bs))) μ
    | Option.none => False)
  | Option.none => False
abbrev cbAll : WC := cbBs fun bs => bs.all id
section
variable {X : Cx} {c : Ctx} {W : WX}
theorem w_all (hc : X.calm = true := by rfl) (hK : X.K = c.K := by rfl) : CbW X c (.builtin "all") cbAll := cbw_of (cr_all hc) fun S F n I μ ds vs H Qd Xd Q w rs h q => by
  obtain ⟨x, rfl, h2⟩ := one_cases h
  obtain ⟨v, rfl, rv⟩ := reps1 rs
  split at h2
  · rename_i ds e
    split at h2
    · rename_i bs e2
      obtain ⟨l, xs, rfl, h1, r1⟩ := seqL_rep w rv e
      rw [bools_rep r1 e2] at h1
      exact ⟨l, bs, rfl, SqL.of h1, q _ μ _ I H h2 (Same.refl I) w .bool⟩
    · exact h2.elim
  · exact h2.elim
/-! ### list.insert -/
/-! ### is, is not of bools -/
def oBB (f : Bool → Bool → Bool) : WOp := fun x y μ Q _ => match x with
  | .bool a => (match y with
    | .bool b => Q (.v (.bool (f a b))) μ
    | _ => False)
  | _ => False
abbrev oIsB : WOp := oBB fun a b => decide (a = b)
abbrev oNotB : WOp := oBB fun a b => !decide (a = b)
/-! ### a < b < c of ints -/
def wChain (p q : Int → Int → Bool) (a b d : WE) : WE := fun e μ Q X => a e μ (fun x μ1 => b e μ1 (fun y μ2 => int1 x fun i => int1 y fun j => if p i j = true then d e μ2 (fun z μ3 => int1 z fun k => Q (.bool (q j k)) μ3) X else Q (.bool false) μ2) X) X
variable {a b d : Expr} {wa wb wd : WE} {ka kb kc : Nat} {pos : Pos} {op op' : CmpOp} {p q : Int → Int → Bool}
end
end DL

set_option Elab.async false
set_option linter.all false
set_option maxRecDepth 100000
set_option maxHeartbeats 4000000
/-! A15: == of tuples and lists that hold instances with an own ==. -/
namespace GQ2
open PySem PySem.SeqAt
open AutoSeq1 (wpAny_loadPart')
open MeetsSeq MeetsSeq2 MeetsSeq3 SeqRoads2
section
variable {prog : Program} {w : World} {A : Around} {R : Result → Shared → Prop}
/-- how a turn ends: equal and on, or not -/
abbrev Turn (I : Shared → Prop) (Fl : Shared → Prop) : Bool → Shared → Prop := fun r s' => (r = true ∧ I s') ∨ (r = false ∧ Fl s')
theorem tuple_eqB (l b : Addr) (items items2 : Array Value) (n n2 : Nat) (dd dd2 : Option Addr) (sl sl2 : Array (Option Value)) (I : Nat → Shared → Prop) (Fl : Shared → Prop)
    (turn : ∀ i (h1 : i < items.size) (h2 : i < items2.size) s, I i s → wpAny (model prog w) A.in1 (eqBool items[i] items2[i]) (Turn (I (i + 1)) Fl) (fun e s' => R (.error e) s') s)
    (fin : ∀ s, I (min items.size items2.size) s → R (.ok (.ret (.bool (items.size == items2.size)))) s) (no : ∀ s, Fl s → R (.ok (.ret (.bool false))) s)
    {s : Shared} (hl1 : s.heap.get? l = some { cls := .type "tuple", dict := dd, data := .seq items n, slots := sl }) (hb1 : s.heap.get? b = some { cls := .type "tuple", dict := dd2, data := .seq items2 n2, slots := sl2 }) (h : I 0 s) :
    wpAny (model prog w) A.in1 (Builtin.«tuple.__eq__» ⟨[.ref l, .ref b], []⟩) (GQ.FinOf prog w A R) (fun e s' => R (.error e) s') s := by
  have f2 := AutoSeq1.sub_tuple_tuple
  have hZ : (items.toList.zip items2.toList).length = min items.size items2.size := by simp
  have h0 := h
  obtain ⟨hp, g, d, tk, os⟩ := s
  wp_walk using wpAny_loadPart' hl1, wpAny_loadPart' hb1, wpAny_forIn_list _ (fun rest b s' => b.1 = none ∧ ∃ i, rest = (items.toList.zip items2.toList).drop i ∧ i ≤ min items.size items2.size ∧ I i s') _
  case turn =>
    rintro ⟨y, x⟩ rest b s' ⟨hb', i, hz, hi, hI⟩
    have hlt : i < (items.toList.zip items2.toList).length := by
      rcases Nat.lt_or_ge i (items.toList.zip items2.toList).length with h' | h'
      · exact h'
      · rw [List.drop_of_length_le h'] at hz; cases hz
    have hm : i < min items.size items2.size := hZ ▸ hlt
    have h1 : i < items.size := Nat.lt_of_lt_of_le hm (Nat.min_le_left _ _)
    have h2 : i < items2.size := Nat.lt_of_lt_of_le hm (Nat.min_le_right _ _)
    rw [List.drop_eq_getElem_cons hlt] at hz
    injection hz with hyx hrest
    have hy : y = items[i] := by have := congrArg Prod.fst hyx; simpa using this
    have hx : x = items2[i] := by have := congrArg Prod.snd hyx; simpa using this
    subst hy hx
    refine wpAny_bind (wpAny_mono (turn i h1 h2 s' hI) (fun r s2 q2 => ?_) fun _ _ x => x)
    rcases q2 with ⟨rfl, q2⟩ | ⟨rfl, q2⟩
    · wp_walk
      exact ⟨rfl, i + 1, hrest, hm, q2⟩
    · wp_walk
      exact no _ q2
  case fin =>
    rintro ⟨b1, b2⟩ s' ⟨hb', i, hz, hi, hI⟩
    simp only at hb'
    subst hb'
    have hge : min items.size items2.size ≤ i := by
      rcases Nat.lt_or_ge i (items.toList.zip items2.toList).length with h' | h'
      · rw [List.drop_eq_getElem_cons h'] at hz; cases hz
      · exact hZ ▸ h'
    have hi' : i = min items.size items2.size := by omega
    have hR := fin s' (hi' ▸ hI)
    wp_walk
    simpa [Builtin.Tuple.tupleCompareSizes] using hR
  case h =>
    exact ⟨rfl, 0, rfl, Nat.zero_le _, h0⟩
/-- at each turn the two lists are read anew -/
def ListB (prog : Program) (w : World) (A : Around) (E : Value → Shared → Prop) (l b : Addr) (N : Nat) (I : Nat → Shared → Prop) (Fl : Shared → Prop) : Prop :=
  ∀ i s, I i s → ∃ (items items2 : Array Value) (n n2 : Nat), s.heap.get? l = some { cls := .type "list", data := .seq items n } ∧ s.heap.get? b = some { cls := .type "list", data := .seq items2 n2 } ∧ items.size = N ∧ items2.size = N ∧
    ∀ (h1 : i < items.size) (h2 : i < items2.size), wpAny (model prog w) A.in1 (eqBool items[i] items2[i]) (Turn (I (i + 1)) Fl) E s
def ListF (l b : Addr) (Fl : Shared → Prop) (N : Nat) : Prop := ∀ s, Fl s → ∃ (items items2 : Array Value) (n n2 : Nat), s.heap.get? l = some { cls := .type "list", data := .seq items n } ∧ s.heap.get? b = some { cls := .type "list", data := .seq items2 n2 } ∧ items.size = N ∧ items2.size = N
theorem eq_loopB (l b : Addr) (N : Nat) (I : Nat → Shared → Prop) (Fl : Shared → Prop) (hl : ListB prog w A (fun e s' => R (.error e) s') l b N I Fl) (hf : ListF l b Fl N)
    (fin : ∀ s, I N s → R (.ok (.ret (.bool true))) s) (no : ∀ s, Fl s → R (.ok (.ret (.bool false))) s) (k : Nat) :
    ∀ i : Nat, N - i = k → i ≤ N → ∀ s, I i s →
      wpAny (model prog w) A.in1 (Builtin.«list.__eq__.loop» ⟨[.ref l, .ref b, rawInt i, rawInt 2], []⟩) (GQ.FinOf prog w A R) (fun e s' => R (.error e) s') s := by
  induction k with
  | zero =>
    intro i hk hi s h
    obtain ⟨items, items2, n, n2, hl1, hb1, hs1, hs2, _⟩ := hl _ _ h
    have hi' : i = N := by omega
    have hR : R (.ok (.ret (.bool true))) s := fin s (hi' ▸ h)
    obtain ⟨hp, g, d, tk, os⟩ := s
    wp_walk using wpAny_loadPart' hl1, wpAny_loadPart' hb1
    have hi1 : items[((i : Nat) : Int).toNat]? = none := by simp; omega
    have hi2 : items2[((i : Nat) : Int).toNat]? = none := by simp; omega
    rw [hi1, hi2]
    wp_walk using wpAny_loadPart' hl1, wpAny_loadPart' hb1
    show R (.ok (.ret (.bool (items.size == items2.size)))) _
    rw [hs1, hs2]
    simpa using hR
  | succ k ih =>
    intro i hk hi s h
    obtain ⟨items, items2, n, n2, hl1, hb1, hs1, hs2, turn⟩ := hl _ _ h
    have hlt : i < items.size := by omega
    have hlt2 : i < items2.size := by omega
    have ht := turn hlt hlt2
    obtain ⟨hp, g, d, tk, os⟩ := s
    wp_walk using wpAny_loadPart' hl1, wpAny_loadPart' hb1
    have hi1 : items[((i : Nat) : Int).toNat]? = some items[i] := by simp [hlt]
    have hi2 : items2[((i : Nat) : Int).toNat]? = some items2[i] := by simp [hlt2]
    have hc : ((i : Int) + 1) = ((i + 1 : Nat) : Int) := by omega
    rw [hi1, hi2]
    refine wpAny_bind (wpAny_mono ht (fun r s2 h2 => ?_) fun _ _ x => x)
    rcases h2 with ⟨rfl, h2⟩ | ⟨rfl, h2⟩
    · have hrec := ih (i + 1) (by omega) (by omega) s2 h2
      obtain ⟨hp2, g2, d2, tk2, os2⟩ := s2
      wp_walk
      rw [hc]
      exact ⟨plainId_quiet plain_eq_loop _, codeAny_builtin entry_eq_loop (by
        rw [Around.under_plainId plain_eq_loop _]
        exact hrec)⟩
    · obtain ⟨its3, its4, n3, n4, hl3, hb3, hs3, hs4⟩ := hf _ h2
      have hR := no _ h2
      obtain ⟨hp2, g2, d2, tk2, os2⟩ := s2
      wp_walk using wpAny_loadPart' hl3, wpAny_loadPart' hb3
      have hi3 : its3[((i : Nat) : Int).toNat]? = some (its3[i]'(by omega)) := by simp
      have hi4 : its4[((i : Nat) : Int).toNat]? = some (its4[i]'(by omega)) := by simp
      rw [hi3, hi4]
      wp_walk
      exact hR
theorem list_eqB (l b : Addr) (N : Nat) (I : Nat → Shared → Prop) (Fl : Shared → Prop) (hl : ListB prog w A (fun e s' => R (.error e) s') l b N I Fl) (hf : ListF l b Fl N)
    (fin : ∀ s, I N s → R (.ok (.ret (.bool true))) s) (no : ∀ s, Fl s → R (.ok (.ret (.bool false))) s) {s : Shared} (h : I 0 s) :
    wpAny (model prog w) A.in1 (Builtin.«list.__eq__» ⟨[.ref l, .ref b], []⟩) (GQ.FinOf prog w A R) (fun e s' => R (.error e) s') s := by
  obtain ⟨items, items2, n, n2, hl1, hb1, hs1, hs2, _⟩ := hl _ _ h
  have hrec := eq_loopB (A := A) (R := R) l b N I Fl hl hf fin no _ 0 rfl (Nat.zero_le _) s h
  obtain ⟨hp, g, d, tk, os⟩ := s
  have f3 := AutoSeq1.sub_list_list
  have hne : ¬ (items.size != items2.size) = true := by simp [hs1, hs2]
  wp_walk using wpAny_loadPart' hl1, wpAny_loadPart' hb1
  exact ⟨plainId_quiet plain_eq_loop _, codeAny_builtin entry_eq_loop (by
    rw [Around.under_plainId plain_eq_loop _]
    exact hrec)⟩
theorem list_neB (l b : Addr) {items items2 : Array Value} {n n2 : Nat} {s : Shared} (hl1 : s.heap.get? l = some { cls := .type "list", data := .seq items n }) (hb1 : s.heap.get? b = some { cls := .type "list", data := .seq items2 n2 })
    (hne : items.size ≠ items2.size) (no : R (.ok (.ret (.bool false))) s) :
    wpAny (model prog w) A.in1 (Builtin.«list.__eq__» ⟨[.ref l, .ref b], []⟩) (GQ.FinOf prog w A R) (fun e s' => R (.error e) s') s := by
  obtain ⟨hp, g, d, tk, os⟩ := s
  have f3 := AutoSeq1.sub_list_list
  have hc0 : (items.size != items2.size) = true := by simp [hne]
  wp_walk using wpAny_loadPart' hl1, wpAny_loadPart' hb1
  exact no
end
section
variable {prog : Program} {w : World} {A : Around} {E : Value → Shared → Prop} {s : Shared}
theorem rc_tupB {l b : Addr} {items items2 : Array Value} {Q : Value → Shared → Prop} (hu : A.units < cLine) (I : Nat → Shared → Prop) (Fl : Shared → Prop) (hl : s.heap.IsTuple l items) (hb : s.heap.IsTuple b items2)
    (turn : ∀ i (h1 : i < items.size) (h2 : i < items2.size) s, I i s → wpAny (model prog w) A.in1 (eqBool items[i] items2[i]) (Turn (I (i + 1)) Fl) E s)
    (fin : ∀ s, I (min items.size items2.size) s → Q (.bool (items.size == items2.size)) s) (no : ∀ s, Fl s → Q (.bool false) s) (h : I 0 s) : wpAny (model prog w) A (richCompare .Eq (.ref l) (.ref b)) Q E s := by
  obtain ⟨⟨cls, dd, data, sl⟩, ho, hc, n, hd⟩ := id hl
  obtain ⟨⟨cls2, dd2, data2, sl2⟩, ho2, hc2, n2, hd2⟩ := id hb
  simp only at hc hd hc2 hd2
  subst hc hd hc2 hd2
  refine wpAny_richCompare_same_room (op := .Eq) ⟨_, ho, rfl⟩ ⟨_, ho2, rfl⟩ F.slot_tuple_eq (GQ.call_here F.slot_tuple_eq ⟨_, ho, rfl⟩ F.entry_tuple_eq (F.args_tuple_eq_2 _ _) ?_) hu
  exact tuple_eqB (R := wants (fun v s' => v ≠ .notImplemented ∧ Q v s') E) l b items items2 n n2 dd dd2 sl sl2 I Fl turn (fun s' q => ⟨(fun x => nomatch x), fin s' q⟩) (fun s' q => ⟨(fun x => nomatch x), no s' q⟩) ho ho2 h
theorem rc_listB {l b : Addr} {N : Nat} {Q : Value → Shared → Prop} (hu : A.units < cLine) (I : Nat → Shared → Prop) (Fl : Shared → Prop) (hl : ListB prog w A E l b N I Fl) (hf : ListF l b Fl N)
    (fin : ∀ s, I N s → Q (.bool true) s) (no : ∀ s, Fl s → Q (.bool false) s) (h : I 0 s) : wpAny (model prog w) A (richCompare .Eq (.ref l) (.ref b)) Q E s := by
  obtain ⟨items, items2, n, n2, hl1, hb1, _, _, _⟩ := hl _ _ h
  refine wpAny_richCompare_same_room (op := .Eq) ⟨_, hl1, rfl⟩ ⟨_, hb1, rfl⟩ F.slot_list_eq (GQ.call_here F.slot_list_eq ⟨_, hl1, rfl⟩ F.entry_list_eq (F.args_list_eq_2 _ _) ?_) hu
  exact list_eqB (R := wants (fun v s' => v ≠ .notImplemented ∧ Q v s') E) l b N I Fl hl hf (fun s' q => ⟨(fun x => nomatch x), fin s' q⟩) (fun s' q => ⟨(fun x => nomatch x), no s' q⟩) h
theorem rc_listN {l b : Addr} {items items2 : Array Value} {n n2 : Nat} {Q : Value → Shared → Prop} (hu : A.units < cLine) (hl1 : s.heap.get? l = some { cls := .type "list", data := .seq items n }) (hb1 : s.heap.get? b = some { cls := .type "list", data := .seq items2 n2 })
    (hne : items.size ≠ items2.size) (no : Q (.bool false) s) : wpAny (model prog w) A (richCompare .Eq (.ref l) (.ref b)) Q E s := by
  refine wpAny_richCompare_same_room (op := .Eq) ⟨_, hl1, rfl⟩ ⟨_, hb1, rfl⟩ F.slot_list_eq (GQ.call_here F.slot_list_eq ⟨_, hl1, rfl⟩ F.entry_list_eq (F.args_list_eq_2 _ _) ?_) hu
  exact list_neB (R := wants (fun v s' => v ≠ .notImplemented ∧ Q v s') E) l b hl1 hb1 hne ⟨(fun x => nomatch x), no⟩
end
end GQ2
namespace DL
open PySem PyProof.Rows L2
variable [Gds]
/-! ### equality of data with instances of one class -/
mutual
def eqO : D → D → Bool
  | .tup xs, .tup ys => eqOs xs ys
  | .list xs, .list ys => eqOs xs ys
  | .obj _ _ xs, .obj _ _ ys => eqOs xs ys
  | x, y => eqF x y
def eqOs : List D → List D → Bool
  | [], [] => true
  | x :: xs, y :: ys => eqO x y && eqOs xs ys
  | _, _ => false
end
mutual
/-- they can be compared; n, fs, P: of the instances -/
def cmpO (n : Str) (fs : List Str) (P : List D → Bool) : D → D → Bool
  | .tup xs, .tup ys => cmpOs n fs P xs ys
  | .list xs, .list ys => cmpOs n fs P xs ys
  | .obj n1 f1 xs, .obj n2 f2 ys => decide (n1 = n) && (decide (f1 = fs) && (P xs && (decide (n2 = n) && (decide (f2 = fs) && P ys))))
  | x, y => flatD x && flatD y
def cmpOs (n : Str) (fs : List Str) (P : List D → Bool) : List D → List D → Bool
  | x :: xs, y :: ys => cmpO n fs P x y && (!eqO x y || cmpOs n fs P xs ys)
  | _, _ => true
end
mutual
def dpO : D → Nat
  | .tup xs => dpOs xs + 1
  | .list xs => dpOs xs + 1
  | .obj _ _ xs => dpOs xs + 1
  | _ => 0
def dpOs : List D → Nat
  | [] => 0
  | x :: xs => max (dpO x) (dpOs xs)
end
theorem eqF_refl : ∀ {d : D}, flatD d = true → eqF d d = true := fun {d} h => by cases d <;> simp_all [flatD, eqF]
theorem dpOs_get : ∀ {xs : List D} {i : Nat} {x : D}, xs[i]? = some x → dpO x ≤ dpOs xs
  | [], _, _, h => by simp at h
  | y :: ys, 0, x, h => by
    simp at h
    subst h
    exact Nat.le_max_left _ _
  | y :: ys, i + 1, x, h => Nat.le_trans (dpOs_get (xs := ys) (by simpa using h)) (Nat.le_max_right _ _)
/-- equal ahead of i -/
def preO : Nat → List D → List D → Bool
  | 0, _, _ => true
  | i + 1, x :: xs, y :: ys => eqO x y && preO i xs ys
  | _ + 1, _, _ => true
theorem cmpOs_get {n : Str} {fs : List Str} {P : List D → Bool} : ∀ {i : Nat} {xs ys : List D} {x y : D}, cmpOs n fs P xs ys = true → preO i xs ys = true → xs[i]? = some x → ys[i]? = some y → cmpO n fs P x y = true
  | _, [], _, _, _, _, _, h, _ => by simp at h
  | _, _ :: _, [], _, _, _, _, _, h => by simp at h
  | 0, a :: xs, b :: ys, x, y, h, _, h1, h2 => by
    simp at h1 h2
    subst h1; subst h2
    simp only [cmpOs, Bool.and_eq_true] at h
    exact h.1
  | i + 1, a :: xs, b :: ys, x, y, h, hp, h1, h2 => by
    simp only [cmpOs, Bool.and_eq_true, Bool.or_eq_true] at h
    simp only [preO, Bool.and_eq_true] at hp
    refine cmpOs_get (i := i) (xs := xs) (ys := ys) ?_ hp.2 (by simpa using h1) (by simpa using h2)
    rcases h.2 with z | z
    · rw [hp.1] at z
      cases z
    · exact z
theorem preO_step : ∀ {i : Nat} {xs ys : List D} {x y : D}, preO i xs ys = true → xs[i]? = some x → ys[i]? = some y → preO (i + 1) xs ys = eqO x y
  | _, [], _, _, _, _, h, _ => by simp at h
  | _, _ :: _, [], _, _, _, _, h => by simp at h
  | 0, a :: xs, b :: ys, x, y, _, h1, h2 => by
    simp at h1 h2
    subst h1; subst h2
    simp [preO]
  | i + 1, a :: xs, b :: ys, x, y, hp, h1, h2 => by
    simp only [preO, Bool.and_eq_true] at hp
    have ih := preO_step (i := i) (xs := xs) (ys := ys) hp.2 (by simpa using h1) (by simpa using h2)
    show (eqO a b && preO (i + 1) xs ys) = _
    rw [hp.1, ih]
    rfl
theorem preO_all : ∀ {xs ys : List D}, preO (min xs.length ys.length) xs ys = true → eqOs xs ys = (xs.length == ys.length)
  | [], [], _ => rfl
  | [], _ :: _, _ => rfl
  | _ :: _, [], _ => rfl
  | x :: xs, y :: ys, h => by
    rw [List.length_cons, List.length_cons, Nat.succ_min_succ] at h
    simp only [preO, Bool.and_eq_true] at h
    rw [eqOs, h.1, preO_all h.2]
    simp
theorem preO_no : ∀ {i : Nat} {xs ys : List D}, preO i xs ys = false → eqOs xs ys = false
  | 0, _, _, h => by cases h
  | i + 1, [], _, h => by cases h
  | i + 1, _ :: _, [], h => by cases h
  | i + 1, x :: xs, y :: ys, h => by
    rw [preO] at h
    rw [eqOs]
    cases e : eqO x y with
    | false => rfl
    | true =>
      rw [e] at h
      rw [preO_no (i := i) h]
      rfl
theorem eqOs_len : ∀ {xs ys : List D}, xs.length ≠ ys.length → eqOs xs ys = false
  | [], [], h => absurd rfl h
  | [], _ :: _, _ => rfl
  | _ :: _, [], _ => rfl
  | x :: xs, y :: ys, h => by
    rw [eqOs, eqOs_len (xs := xs) (ys := ys) (by simpa using h)]
    simp
/-- what is known of the instances' own == -/
structure OwnE (X : Cx) (c : Ctx) (k : Nat) (n : Str) (fs : List Str) (P : List D → Bool) : Prop where
  ex : ∃ (f : Addr) (fd : FuncData) (ps : List Str) (s : WP), FnW X.prog X.w X.K X.mg X.base k f fd ps (SpW c s 0) ∧ Binds X.K fd ps [] ∧ PySem.W.notFirst X.K (c.cl n) (.ref (c.cl n)) = true ∧ Spl X.K (c.cl n) "__eq__" f ∧
    ∀ μ xs ys (Q : QD) (E : QD), P xs = true → P ys = true → Q (.bool (eqOs xs ys)) μ → s [.obj n fs xs, .obj n fs ys] μ Q E
  cm : ∀ xs ys, P xs = true → P ys = true → cmpOs n fs P xs ys = true
section
variable {X : Cx} {c : Ctx} {W : WX} {k m : Nat} {n : Str} {fs : List Str} {P : List D → Bool} {S : Option SA} {F : Hp} {μ : Mu}
theorem run_fnWA {kk : Nat} {A : Around} {f : Addr} {fd : FuncData} {ps : List Str} {sp : Sp} {pins : List (Addr × Obj)} {σ : L2.St} {H : Hp} {s : Shared} {Q : VK} {us : List Value} {vs : List V} (sb : Sub X kk A) (gd : Gds.ok A) (F : FnW X.prog X.w X.K X.mg X.base kk f fd ps sp) (hb : Binds X.K fd ps [])
    (J : Inv X pins σ H s) (r : Vals vs us) (h : sp vs H Q fun _ _ _ => False) : wpAny (model X.prog X.w) A (call (.ref f) us) (EP X pins σ Q) X.xe s := by
  have hl : (us ++ ([] : List Value)).length = ps.length := by rw [List.append_nil, ← r.length]; exact F.len _ _ _ _ h
  have hbs := hb s us J.kIn hl
  rw [List.append_nil] at hbs
  have e0 : Env0 X.prog X.w X.K X.mg X.base A X.stack s H := by
    have e := J.env0
    exact ⟨by rw [sb.fr]; exact e.frames, e.mod, e.bs, e.bsz, e.funs, e.frf, e.hok, e.bare⟩
  refine wpAny_call (codeAny_mono (F.run A X.stack s H ⟨us, []⟩ us vs Q _ gd sb.room e0 hbs r h) fun r s' hq => ?_)
  cases r with
  | error e => exact LamX.takes0 e s' (XE.of_call J (fun _ _ _ h => h) hq)
  | ok fl =>
    cases fl with
    | ret u => exact J.after hq
    | next => exact False.elim hq
    | brk => exact False.elim hq
    | cont => exact False.elim hq
/-- what stands behind a comparison -/
def EqEnd (X : Cx) (c : Ctx) (S : Option SA) (F : Hp) (m : Nat) (μ : Mu) (I : Hp) (pins : List (Addr × Obj)) (σ : L2.St) (s' : Shared) : Prop := ∃ I' H', Inv X pins σ H' s' ∧ Same I I' ∧ Wd c S F m I' μ H'
def EqB (X : Cx) (c : Ctx) (S : Option SA) (F : Hp) (m : Nat) (μ : Mu) (kk : Nat) (x y : D) : Prop := ∀ (A : Around) (pins : List (Addr × Obj)) (s : Shared) (σ : L2.St) (I H : Hp) (v u : V) (v' u' : Value), Sub X kk A → Gds.ok A → Inv X pins σ H s → Wd c S F m I μ H →
  Rep c S I x v → Rep c S I y u → RelV v v' → RelV u u' → wpAny (model X.prog X.w) A (eqBool v' u') (fun r s' => r = eqO x y ∧ EqEnd X c S F m μ I pins σ s') X.xe s
/-- the same, by the rich comparison of two things -/
def RcB (X : Cx) (c : Ctx) (S : Option SA) (F : Hp) (m : Nat) (μ : Mu) (kk : Nat) (x y : D) : Prop := ∀ (A : Around) (pins : List (Addr × Obj)) (s : Shared) (σ : L2.St) (I H : Hp) (a b : Addr), Sub X kk A → Gds.ok A → Inv X pins σ H s → Wd c S F m I μ H →
  Rep c S I x (.ref a) → Rep c S I y (.ref b) → wpAny (model X.prog X.w) A (richCompare .Eq (.ref a) (.ref b)) (fun v s' => v = .bool (eqO x y) ∧ EqEnd X c S F m μ I pins σ s') X.xe s
theorem reps_inj {I : Hp} : ∀ {xs ys : List D} {vs : List V}, Reps c S I xs vs → Reps c S I ys vs → (∀ (i : Nat) x y v, xs[i]? = some x → ys[i]? = some y → Rep c S I x v → Rep c S I y v → preO i xs ys = true → eqO x y = true) → eqOs xs ys = true
  | _, _, _, .nil, .nil, _ => rfl
  | x :: xs, y :: ys, _, .cons r rs, .cons q qs, h => by
    have e := h 0 x y _ rfl rfl r q rfl
    rw [eqOs, e, reps_inj rs qs fun i x' y' v h1 h2 h3 h4 h5 => h (i + 1) x' y' v (by simpa using h1) (by simpa using h2) h3 h4 (by rw [preO, e, h5]; rfl)]
    rfl
theorem cmpO_cases {x y : D} (h : cmpO n fs P x y = true) : (∃ xs ys, x = .tup xs ∧ y = .tup ys ∧ cmpOs n fs P xs ys = true) ∨ (∃ xs ys, x = .list xs ∧ y = .list ys ∧ cmpOs n fs P xs ys = true) ∨
    (∃ xs ys, x = .obj n fs xs ∧ y = .obj n fs ys ∧ P xs = true ∧ P ys = true) ∨ (flatD x = true ∧ flatD y = true) := by
  cases x with
  | tup xs =>
    cases y with
    | tup ys => exact .inl ⟨xs, ys, rfl, rfl, by rw [cmpO] at h; exact h⟩
    | _ => simp [cmpO, flatD] at h
  | list xs =>
    cases y with
    | list ys => exact .inr (.inl ⟨xs, ys, rfl, rfl, by rw [cmpO] at h; exact h⟩)
    | _ => simp [cmpO, flatD] at h
  | obj n1 f1 xs =>
    cases y with
    | obj n2 f2 ys =>
      simp only [cmpO, Bool.and_eq_true, decide_eq_true_eq] at h
      obtain ⟨rfl, rfl, p1, rfl, rfl, p2⟩ := h
      exact .inr (.inr (.inl ⟨xs, ys, rfl, rfl, p1, p2⟩))
    | _ => simp [cmpO, flatD] at h
  | _ => exact .inr (.inr (.inr (by cases y <;> simp_all [cmpO, flatD])))
theorem eqO_flat {x y : D} (h : flatD x = true) : eqO x y = eqF x y := by
  cases x <;> first | (cases y <;> rw [eqO] <;> (intros; contradiction)) | (simp [flatD] at h; done)
/-- one thing is equal to itself -/
theorem same_eq (O : OwnE X c k n fs P) (hK : X.K = c.K) {I H : Hp} {pins : List (Addr × Obj)} {σ : L2.St} {s : Shared} (J : Inv X pins σ H s) (w : Wd c S F m I μ H) : ∀ (dep : Nat) {x y : D} {v : V}, dpO x ≤ dep → Rep c S I x v → Rep c S I y v → cmpO n fs P x y = true → eqO x y = true := by
  intro dep
  induction dep with
  | zero =>
    intro x y v hd rx ry hc
    rcases cmpO_cases hc with ⟨xs, ys, rfl, rfl, h⟩ | ⟨xs, ys, rfl, rfl, h⟩ | ⟨xs, ys, rfl, rfl, h⟩ | ⟨h1, h2⟩
    · simp [dpO] at hd
    · simp [dpO] at hd
    · simp [dpO] at hd
    · rw [eqO_flat h1, ← eqF_eqV h1 h2, ← (rep_flat rx h1).1, ← (rep_flat ry h2).1, (rep_flat rx h1).1, eqF_eqV h1 h1]
      exact eqF_refl h1
  | succ dep ih =>
    intro x y v hd rx ry hc
    rcases cmpO_cases hc with ⟨xs, ys, rfl, rfl, h⟩ | ⟨xs, ys, rfl, rfl, h⟩ | ⟨xs, ys, rfl, rfl, p1, p2⟩ | ⟨h1, h2⟩
    · have hd2 : dpOs xs ≤ dep := by rw [dpO] at hd; omega
      cases rx with
      | tup g r =>
        cases ry with
        | tup g2 r2 =>
          have e := J.tuple_inj (hK ▸ w.tupH g) (hK ▸ w.tupH g2)
          subst e
          rw [eqO]
          exact reps_inj r r2 fun i x y v h1 h2 h3 h4 h5 => ih (Nat.le_trans (dpOs_get h1) hd2) h3 h4 (cmpOs_get h h5 h1 h2)
    · have hd2 : dpOs xs ≤ dep := by rw [dpO] at hd; omega
      cases rx with
      | list g r =>
        cases ry with
        | list g2 r2 =>
          rw [g] at g2
          injection g2 with g2
          injection g2 with g2
          subst g2
          rw [eqO]
          exact reps_inj r r2 fun i x y v h1 h2 h3 h4 h5 => ih (Nat.le_trans (dpOs_get h1) hd2) h3 h4 (cmpOs_get h h5 h1 h2)
    · have hd2 : dpOs xs ≤ dep := by rw [dpO] at hd; omega
      have h := O.cm xs ys p1 p2
      cases rx with
      | obj g r l hn =>
        cases ry with
        | obj g2 r2 l2 hn2 =>
          rw [g] at g2
          injection g2 with g2
          injection g2 with _ _ g2
          have g3 := congrArg (List.map Prod.snd) g2
          rw [List.map_snd_zip (by omega), List.map_snd_zip (by omega)] at g3
          subst g3
          rw [eqO]
          exact reps_inj r r2 fun i x y v h1 h2 h3 h4 h5 => ih (Nat.le_trans (dpOs_get h1) hd2) h3 h4 (cmpOs_get h h5 h1 h2)
    · rw [eqO_flat h1, ← eqF_eqV h1 h2, ← (rep_flat rx h1).1, ← (rep_flat ry h2).1, (rep_flat rx h1).1, eqF_eqV h1 h1]
      exact eqF_refl h1
theorem gd_in1 {A : Around} (h : Gds.ok A) : Gds.ok A.in1 := Gds.in1 h
/-- a turn of the loop over the items -/
theorem turnB {kk : Nat} {A : Around} (sb : Sub X (kk + 1) A) (gd : Gds.ok A) {xs ys : List D} (ih : ∀ (i : Nat) x y, xs[i]? = some x → ys[i]? = some y → preO i xs ys = true → EqB X c S F m μ kk x y) {I : Hp} {vs us : List V} {its its2 : List Value} (rx : Reps c S I xs vs) (ry : Reps c S I ys us) (r : Vals vs its) (r2 : Vals us its2)
    {pins : List (Addr × Obj)} {σ : L2.St} (i : Nat) (h1 : i < its.toArray.size) (h2 : i < its2.toArray.size) (s' : Shared) (l : preO i xs ys = true ∧ EqEnd X c S F m μ I pins σ s') :
    wpAny (model X.prog X.w) A.in1 (eqBool its.toArray[i] its2.toArray[i]) (GQ2.Turn (fun s' => preO (i + 1) xs ys = true ∧ EqEnd X c S F m μ I pins σ s') fun s' => eqOs xs ys = false ∧ EqEnd X c S F m μ I pins σ s') X.xe s' := by
  obtain ⟨hp, I1, H1, J1, s1, w1⟩ := l
  have g1 : its[i]? = some its.toArray[i] := by
    have h1' : i < its.length := by simpa using h1
    rw [List.getElem?_eq_getElem h1'] <;> simp
  have g2 : its2[i]? = some its2.toArray[i] := by
    have h2' : i < its2.length := by simpa using h2
    rw [List.getElem?_eq_getElem h2'] <;> simp
  have k1 : i < xs.length := by rw [rx.length, r.length]; simpa using h1
  have k2 : i < ys.length := by rw [ry.length, r2.length]; simpa using h2
  obtain ⟨v, hv, rv⟩ := rx.get (List.getElem?_eq_getElem k1)
  obtain ⟨u, hu, ru⟩ := ry.get (List.getElem?_eq_getElem k2)
  obtain ⟨v', hv', rv'⟩ := r.get hv
  obtain ⟨u', hu', ru'⟩ := r2.get hu
  rw [g1] at hv'
  rw [g2] at hu'
  rw [Option.some.inj hv', Option.some.inj hu']
  have hx := List.getElem?_eq_getElem k1
  have hy := List.getElem?_eq_getElem k2
  refine wpAny_mono (ih i _ _ hx hy hp A.in1 pins s' σ I1 H1 v u v' u' sb.in1 (gd_in1 gd) J1 w1 (rv.mono s1) (ru.mono s1) rv' ru') (fun q s2 hq => ?_) fun _ _ x => x
  obtain ⟨hq, I2, H2, J2, s2', w2⟩ := hq
  have e := preO_step hp hx hy
  cases q with
  | true => exact .inl ⟨rfl, e.trans hq.symm, I2, H2, J2, s1.trans s2', w2⟩
  | false => exact .inr ⟨rfl, preO_no (i := i + 1) (e.trans hq.symm), I2, H2, J2, s1.trans s2', w2⟩
theorem rcb_tup {kk : Nat} (hK : X.K = c.K) {xs ys : List D} (ih : ∀ (i : Nat) x y, xs[i]? = some x → ys[i]? = some y → preO i xs ys = true → EqB X c S F m μ kk x y) : RcB X c S F m μ (kk + 1) (.tup xs) (.tup ys) := by
  intro A pins s σ I H a b sb gd J w rx ry
  cases rx with
  | tup g r =>
    cases ry with
    | tup g2 r2 =>
      obtain ⟨its, q, e, z⟩ := J.tuple (hK ▸ w.tupH g)
      obtain ⟨its2, q2, e2, z2⟩ := J.tuple (hK ▸ w.tupH g2)
      have l1 : its.toArray.size = xs.length := by rw [List.size_toArray, ← q.length, ← r.length]
      have l2 : its2.toArray.size = ys.length := by rw [List.size_toArray, ← q2.length, ← r2.length]
      refine GQ2.rc_tupB sb.room.units0 (fun i s' => preO i xs ys = true ∧ EqEnd X c S F m μ I pins σ s') (fun s' => eqOs xs ys = false ∧ EqEnd X c S F m μ I pins σ s') e e2 (fun i h1 h2 s' l => turnB sb gd ih r r2 q q2 i h1 h2 s' l) (fun s' l => ?_) (fun s' l => ⟨by rw [eqO, l.1], l.2⟩) ⟨rfl, I, H, J, Same.refl I, w⟩
      refine ⟨?_, l.2⟩
      have l3 := l.1
      rw [l1, l2] at l3 ⊢
      rw [eqO, preO_all l3]
theorem rcb_list {kk : Nat} (hK : X.K = c.K) {xs ys : List D} (ih : ∀ (i : Nat) x y, xs[i]? = some x → ys[i]? = some y → preO i xs ys = true → EqB X c S F m μ kk x y) : RcB X c S F m μ (kk + 1) (.list xs) (.list ys) := by
  intro A pins s σ I H a b sb gd J w rx ry
  cases rx with
  | @list _ _ vs g r =>
    cases ry with
    | @list _ _ us g2 r2 =>
      by_cases hl : xs.length = ys.length
      · have look : ∀ s', EqEnd X c S F m μ I pins σ s' → ∃ (its its2 : List Value) (n n2 : Nat), Vals vs its ∧ Vals us its2 ∧ s'.heap.get? a = some { cls := .type "list", data := .seq its.toArray n } ∧ s'.heap.get? b = some { cls := .type "list", data := .seq its2.toArray n2 } ∧ its.toArray.size = xs.length ∧ its2.toArray.size = xs.length := by
          rintro s' ⟨I1, H1, J1, s1, w1⟩
          obtain ⟨its, n, q, e, _⟩ := J1.lst (w1.lst (s1 _ _ g))
          obtain ⟨its2, n2, q2, e2, _⟩ := J1.lst (w1.lst (s1 _ _ g2))
          exact ⟨its, its2, n, n2, q, q2, e, e2, by rw [List.size_toArray, ← q.length, ← r.length], by rw [List.size_toArray, ← q2.length, ← r2.length, hl]⟩
        refine GQ2.rc_listB (N := xs.length) sb.room.units0 (fun i s' => preO i xs ys = true ∧ EqEnd X c S F m μ I pins σ s') (fun s' => eqOs xs ys = false ∧ EqEnd X c S F m μ I pins σ s') (fun i s' l => ?_) (fun s' l => ?_) (fun s' l => ⟨?_, l.2⟩) (fun s' l => ⟨by rw [eqO, l.1], l.2⟩) ⟨rfl, I, H, J, Same.refl I, w⟩
        · obtain ⟨its, its2, n, n2, q, q2, e, e2, z, z2⟩ := look s' l.2
          exact ⟨its.toArray, its2.toArray, n, n2, e, e2, z, z2, fun h1 h2 => turnB sb gd ih r r2 q q2 i h1 h2 s' l⟩
        · obtain ⟨its, its2, n, n2, q, q2, e, e2, z, z2⟩ := look s' l.2
          exact ⟨its.toArray, its2.toArray, n, n2, e, e2, z, z2⟩
        · have l3 := l.1
          rw [eqO, preO_all (by rw [← hl, Nat.min_self]; exact l3), hl]
          simp
      · obtain ⟨its, n, q, e, _⟩ := J.lst (w.lst g)
        obtain ⟨its2, n2, q2, e2, _⟩ := J.lst (w.lst g2)
        refine GQ2.rc_listN sb.room.units0 e e2 ?_ ⟨by rw [eqO, eqOs_len hl], I, H, J, Same.refl I, w⟩
        rw [List.size_toArray, List.size_toArray, ← q.length, ← q2.length, ← r.length, ← r2.length]
        exact hl
theorem rcb_obj (O : OwnE X c k n fs P) (hm : m ≤ LIM) {xs ys : List D} (p1 : P xs = true) (p2 : P ys = true) : RcB X c S F m μ k (.obj n fs xs) (.obj n fs ys) := by
  intro A pins s σ I H a b sb gd J w rx ry
  obtain ⟨f, fd, ps, sw, G, hb, hn, hs, ho⟩ := O.ex
  obtain ⟨a', _, _, ea, ha, _⟩ := asObj_rep w rx rfl
  obtain ⟨b', _, _, eb, hb', _⟩ := asObj_rep w ry rfl
  cases ea
  cases eb
  obtain ⟨mA, Oa, _⟩ := ins_get J.hok ha
  obtain ⟨od, Ja, _⟩ := Oa.look
  obtain ⟨mB, Ob, _⟩ := ins_get J.hok hb'
  obtain ⟨od', Jb, _⟩ := Ob.look
  have sp : SpW c sw 0 [.ref a, .ref b] H (fun v H' => v = .bl (eqOs xs ys) ∧ ∃ I', Same I I' ∧ Wd c S F m I' μ H') fun _ _ _ => False := by
    refine ⟨S, F, m, I, μ, _, fun d μ' => d = .bool (eqOs xs ys) ∧ μ' = μ, fun _ _ => False, hm, w, .cons rx (.cons ry .nil), ho μ xs ys _ _ p1 p2 ⟨rfl, rfl⟩, fun d μ' v I' H' p s w' r => ?_, fun _ _ _ _ _ _ p => p.elim⟩
    obtain ⟨rfl, rfl⟩ := p
    cases r
    exact ⟨rfl, I', s, w'⟩
  refine wpAny_mono (cmp_own (op := .Eq) (Q := EP X pins σ (fun v H' => v = .bl (eqOs xs ys) ∧ ∃ I', Same I I' ∧ Wd c S F m I' μ H')) sb.room.units0 J.kIn Ja Jb.type hn hs.at_ hs.fn (thn (run_fnWA (us := [.ref a, .ref b]) (vs := [.ref a, .ref b]) sb gd G hb J (.cons rfl (.cons rfl .nil)) sp) fun r s' z => cmpBack_of' z)) (fun v s' z => ?_) fun _ _ x => x
  obtain ⟨v', H', J', r', rfl, I', s1, w1⟩ := z
  cases r'
  exact ⟨by rw [eqO], I', H', J', s1, w1⟩
theorem eqb_of (O : OwnE X c k n fs P) (hK : X.K = c.K) {x y : D} {kk dep : Nat} (hd : dpO x ≤ dep) (hc : cmpO n fs P x y = true) (hx : ∀ I v, Rep c S I x v → ∃ a, v = .ref a) (hy : ∀ I v, Rep c S I y v → ∃ a, v = .ref a) (h : RcB X c S F m μ kk x y) : EqB X c S F m μ kk x y := by
  intro A pins s σ I H v u v' u' sb gd J w rx ry rv ru
  obtain ⟨a, rfl⟩ := hx I v rx
  obtain ⟨b, rfl⟩ := hy I u ry
  cases rv
  cases ru
  by_cases e : a = b
  · subst e
    have eo := same_eq O hK J w dep hd rx ry hc
    rw [eo]
    exact SeqAt.EqAt.same (A := A) (s := s) (.ref a) X.prog X.w X.xe _ ⟨rfl, I, H, J, Same.refl I, w⟩
  · refine GQ.eqBool_refG e (wpAny_mono (h A pins s σ I H a b sb gd J w rx ry) (fun r s' q => ?_) fun _ _ x => x)
    exact ⟨_, q.1, rfl, q.2⟩
theorem RcB.mono {x y : D} {kk kk' : Nat} (h : RcB X c S F m μ kk x y) (hk : kk ≤ kk') : RcB X c S F m μ kk' x y := fun A pins s σ I H a b sb => h A pins s σ I H a b (sb.mono hk)
theorem eqb (O : OwnE X c k n fs P) (hK : X.K = c.K) (hm : m ≤ LIM) : ∀ (dep : Nat) {x y : D}, dpO x ≤ dep → cmpO n fs P x y = true → EqB X c S F m μ (k + dep) x y := by
  intro dep
  induction dep with
  | zero =>
    intro x y hd hc
    rcases cmpO_cases hc with ⟨xs, ys, rfl, rfl, h⟩ | ⟨xs, ys, rfl, rfl, h⟩ | ⟨xs, ys, rfl, rfl, h⟩ | ⟨h1, h2⟩
    · simp [dpO] at hd
    · simp [dpO] at hd
    · simp [dpO] at hd
    · intro A pins s σ I H v u v' u' sb gd J w rx ry rv ru
      have q := eqAt_V (A := A) (s := s) rv ru (rep_flat rx h1).2 (rep_flat ry h2).2
      rw [(rep_flat rx h1).1, (rep_flat ry h2).1, eqF_eqV h1 h2, ← eqO_flat h1] at q
      exact q X.prog X.w X.xe _ ⟨rfl, I, H, J, Same.refl I, w⟩
  | succ dep ih =>
    intro x y hd hc
    rcases cmpO_cases hc with ⟨xs, ys, rfl, rfl, h⟩ | ⟨xs, ys, rfl, rfl, h⟩ | ⟨xs, ys, rfl, rfl, p1, p2⟩ | ⟨h1, h2⟩
    · have hd2 : dpOs xs ≤ dep := by rw [dpO] at hd; omega
      refine eqb_of O hK hd hc (fun I v r => ?_) (fun I v r => ?_) (rcb_tup hK fun i x y g1 g2 g3 => ih (Nat.le_trans (dpOs_get g1) hd2) (cmpOs_get h g3 g1 g2))
      · cases r; exact ⟨_, rfl⟩
      · cases r; exact ⟨_, rfl⟩
    · have hd2 : dpOs xs ≤ dep := by rw [dpO] at hd; omega
      refine eqb_of O hK hd hc (fun I v r => ?_) (fun I v r => ?_) (rcb_list hK fun i x y g1 g2 g3 => ih (Nat.le_trans (dpOs_get g1) hd2) (cmpOs_get h g3 g1 g2))
      · cases r; exact ⟨_, rfl⟩
      · cases r; exact ⟨_, rfl⟩
    · refine eqb_of O hK hd hc (fun I v r => ?_) (fun I v r => ?_) ((rcb_obj O hm p1 p2).mono (Nat.le_add_right _ _))
      · cases r; exact ⟨_, rfl⟩
      · cases r; exact ⟨_, rfl⟩
    · intro A pins s σ I H v u v' u' sb gd J w rx ry rv ru
      have q := eqAt_V (A := A) (s := s) rv ru (rep_flat rx h1).2 (rep_flat ry h2).2
      rw [(rep_flat rx h1).1, (rep_flat ry h2).1, eqF_eqV h1 h2, ← eqO_flat h1] at q
      exact q X.prog X.w X.xe _ ⟨rfl, I, H, J, Same.refl I, w⟩
/-- two sequences of one kind -/
def twoSq : D → D → Bool
  | .tup _, .tup _ => true
  | .list _, .list _ => true
  | _, _ => false
def oEqR (n : Str) (fs : List Str) (P : List D → Bool) : WOp := fun x y μ Q _ => twoSq x y = true ∧ cmpO n fs P x y = true ∧ dpO x ≤ 8 ∧ Q (.v (.bool (eqO x y))) μ
theorem w_eqR (O : OwnE X c k n fs P) (gd : Gds.ok X.A) (hr : Room (k + 8) X.A) (hK : X.K = c.K := by rfl) : Op2 X c W 0 (compareOp .Eq) (oEqR n fs P) := by
  intro pins sh σ H x y v u Q J rx ry h
  obtain ⟨S, F, m, I, μ, dx, dy, Qd, Xd, hl, w, ra, rb, ⟨h1, h2, h3, h⟩, q, x⟩ := h
  have hm : m ≤ LIM := by omega
  have sb : Sub X (k + 8) X.A := ⟨hr, rfl⟩
  show wpAny (model X.prog X.w) X.A (richCompare .Eq v u) (EP X pins σ Q) X.xe sh
  have fin : ∀ {a b : Addr}, Rep c S I dx (.ref a) → Rep c S I dy (.ref b) → RcB X c S F m μ (k + 8) dx dy → wpAny (model X.prog X.w) X.A (richCompare .Eq (.ref a) (.ref b)) (EP X pins σ Q) X.xe sh := fun ra rb hh => by
    refine wpAny_mono (hh X.A pins sh σ I H _ _ sb gd J w ra rb) (fun v s' z => ?_) fun _ _ x => x
    obtain ⟨rfl, I', H', J', s1, w1⟩ := z
    exact ⟨.bl _, H', J', rfl, q _ μ _ I' H' h s1 w1 .bool⟩
  cases dx with
  | tup xs =>
    cases dy with
    | tup ys =>
      have hd2 : dpOs xs ≤ 7 := by rw [dpO] at h3; omega
      have hc : cmpOs n fs P xs ys = true := by rw [cmpO] at h2; exact h2
      have hh : RcB X c S F m μ (k + 7 + 1) (.tup xs) (.tup ys) := rcb_tup hK fun i x y g1 g2 g3 => eqb O hK hm 7 (Nat.le_trans (dpOs_get g1) hd2) (cmpOs_get hc g3 g1 g2)
      cases ra with
      | tup g r =>
        cases rb with
        | tup g2 r2 =>
          cases rx
          cases ry
          exact fin (.tup g r) (.tup g2 r2) hh
    | _ => cases h1
  | list xs =>
    cases dy with
    | list ys =>
      have hd2 : dpOs xs ≤ 7 := by rw [dpO] at h3; omega
      have hc : cmpOs n fs P xs ys = true := by rw [cmpO] at h2; exact h2
      have hh : RcB X c S F m μ (k + 7 + 1) (.list xs) (.list ys) := rcb_list hK fun i x y g1 g2 g3 => eqb O hK hm 7 (Nat.le_trans (dpOs_get g1) hd2) (cmpOs_get hc g3 g1 g2)
      cases ra with
      | list g r =>
        cases rb with
        | list g2 r2 =>
          cases rx
          cases ry
          exact fin (.list g r) (.list g2 r2) hh
    | _ => cases h1
  | _ => cases h1
end
end DL

set_option Elab.async false
set_option linter.all false
set_option maxRecDepth 100000
set_option maxHeartbeats 4000000
/-! A16: what a def owns is let go at its end; displays of dicts with one pair. -/
namespace DL
open PySem PyProof.Rows L2
def subMu (μ2 μ1 : Mu) : Prop := ∀ b nd, μ2 b = some nd → μ1 b = some nd
/-- a def at whose end cells may be let go -/
def wDefD (n N : Nat) (b : WS) : WP := fun ds μ Q X => wDef n N b ds μ (fun d μ1 => ∃ μ2, subMu μ2 μ1 ∧ Q d μ2) X
theorem SpW.drop {c : Ctx} {n N : Nat} {b : WS} {k : Nat} {vs : List V} {H : Hp} {Q : VK} {Ex : XK} (h : SpW c (wDefD n N b) k vs H Q Ex) : SpW c (wDef n N b) k vs H Q Ex := by
  obtain ⟨S, F, m, I, μ, ds, Qd, Xd, hl, w, r, h, q, x⟩ := h
  refine ⟨S, F, m, I, μ, ds, _, Xd, hl, w, r, h, fun d μ' v I' H' p s w' r' => ?_, x⟩
  obtain ⟨μ2, e, p⟩ := p
  exact q d μ2 v I' H' p s (w'.drop e) r'
theorem subMu.refl (μ : Mu) : subMu μ μ := fun _ _ h => h
theorem subMu.trans {μ1 μ2 μ3 : Mu} (a : subMu μ1 μ2) (b : subMu μ2 μ3) : subMu μ1 μ3 := fun p nd h => b p nd (a p nd h)
theorem subMu.up {μ1 μ2 : Mu} {p : Addr} {nd : Nd} (a : subMu μ1 μ2) (h : μ2 p = Option.none) : subMu μ1 (up μ2 p nd) := fun b x e => by
  have q := a b x e
  rw [up_ne fun z => by rw [z, h] at q; cases q]
  exact q
/-- a cell that was not owned at first changes -/
theorem subMu.put {μ1 μ2 : Mu} {p : Addr} {nd : Nd} (a : subMu μ1 μ2) (h : μ1 p = Option.none) : subMu μ1 (DL.up μ2 p nd) := fun b x e => by
  rw [up_ne fun z => by rw [z, h] at e; cases e]
  exact a b x e
def keyD : D → Option Key
  | .int i => some (Sum.inl i)
  | .str s => some (Sum.inr s)
  | _ => Option.none
/-- {k: v} -/
def wDisp1 (m : Bool) (a b : WE) : WE := fun e μ Q X => a e μ (fun x μ1 => b e μ1 (fun y μ2 => match keyD x with
  | some k => sett m Q (.n (.dk [k] [y])) μ2
  | Option.none => False) X) X
/-- {(i, ..): v}, the key of ints as written -/
def wDispT (m : Bool) (ks : List Key) (b : WE) : WE := fun e μ Q X => b e μ (fun y μ2 => sett m Q (.n (.dt [ks] [y])) μ2) X
section
variable {X : Cx} {c : Ctx} {W : WX} {ka kb : Nat} {m : Bool} {a b : Expr} {wa wb : WE} {pos : Pos}
theorem leave_x {S : Option SA} {F : Hp} {n : Nat} {I : Hp} {σ : L2.St} {Xd : QD} {p : Addr} {o : HO} (nF : F p = none) (x : XV c W S F n I σ Xd) : XV c W S (upd F p o) n I σ Xd := fun d μ' cls dx I' H' z s w er => x d μ' cls dx I' H' z s (w.less fun b o e => by rw [upd_ne (ne_of_none e nF)]; exact e) er
end
end DL

set_option Elab.async false
set_option linter.all false
set_option maxRecDepth 100000
set_option maxHeartbeats 0
set_option exponentiation.threshold 100000
namespace KLaw
open PySem PySem.Spec PyProof.Rows L2 DL
def topS (i : Nat) : Stmt := PySem.Challenge.pw_crossadds_k63_blocks_of_benches.main.body.getD i (.Pass ⟨0, 0, 0, 0⟩)
abbrev nsL : List Str := ["Bench", "Held", "Program", "Rule"]
abbrev esL : List Str := ["CrossError", "BadRule", "BadPower", "BadProgram", "BadPoint", "BadDeed", "NothingLeft"]
abbrev tf : List (PySem.W.Frag → Addr) := [(fun K => (He.ga K "_law_undone")), (fun K => (He.ga K "_law_block"))]
abbrev cx (K : PySem.W.Frag) : DL.Ctx := { K := K, cl := He.ga K, tb := [(tabAt K (He.ga K "_law_undone"), ("_law_undone" : Str) ++ ".<locals>." ++ "<lambda>"), (tabAt K (He.ga K "_law_block"), ("_law_block" : Str) ++ ".<locals>." ++ "<lambda>")], ns := nsL, es := esL }
def d_law_mixed : DefX := ⟨fun K => (He.ga K "_law_mixed"), "_law_mixed", "_law_mixed", defArgs (topS 36), defBody (topS 36), defScope (topS 36), []⟩
def d_law_take : DefX := ⟨fun K => (He.ga K "_law_take"), "_law_take", "_law_take", defArgs (topS 37), defBody (topS 37), defScope (topS 37), []⟩
def d_law_pick : DefX := ⟨fun K => (He.ga K "_law_pick"), "_law_pick", "_law_pick", defArgs (topS 38), defBody (topS 38), defScope (topS 38), []⟩
def d_law_number : DefX := ⟨fun K => (He.ga K "_law_number"), "_law_number", "_law_number", defArgs (topS 39), defBody (topS 39), defScope (topS 39), []⟩
def d_is_number : DefX := ⟨fun K => (He.ga K "is_number"), "is_number", "is_number", defArgs (topS 10), defBody (topS 10), defScope (topS 10), []⟩
def d_need_point : DefX := ⟨fun K => (He.ga K "need_point"), "need_point", "need_point", defArgs (topS 19), defBody (topS 19), defScope (topS 19), []⟩
def d_Bench___init__ : DefX := ⟨fun K => (He.ma K (He.ga K "Bench") "__init__"), "__init__", "Bench.__init__", defArgs (inClass (topS 27) 0), defBody (inClass (topS 27) 0), defScope (inClass (topS 27) 0), []⟩
def d_law_bench_drawn : DefX := ⟨fun K => (He.ga K "_law_bench_drawn"), "_law_bench_drawn", "_law_bench_drawn", defArgs (topS 29), defBody (topS 29), defScope (topS 29), []⟩
def d_Rule___eq__ : DefX := ⟨fun K => (He.ma K (He.ga K "Rule") "__eq__"), "__eq__", "Rule.__eq__", defArgs (inClass (topS 14) 12), defBody (inClass (topS 14) 12), defScope (inClass (topS 14) 12), []⟩
def d_Bench_point : DefX := ⟨fun K => (recAt K "property" (He.ma K (He.ga K "Bench") "point")), "point", "Bench.point", defArgs (inClass (topS 27) 2), defBody (inClass (topS 27) 2), defScope (inClass (topS 27) 2), []⟩
def d_Bench_undo : DefX := ⟨fun K => (He.ma K (He.ga K "Bench") "undo"), "undo", "Bench.undo", defArgs (inClass (topS 27) 6), defBody (inClass (topS 27) 6), defScope (inClass (topS 27) 6), []⟩
def d_Bench_begun : DefX := ⟨fun K => (recAt K "property" (He.ma K (He.ga K "Bench") "begun")), "begun", "Bench.begun", defArgs (inClass (topS 27) 1), defBody (inClass (topS 27) 1), defScope (inClass (topS 27) 1), []⟩
def d_law_now : DefX := ⟨fun K => (He.ga K "_law_now"), "_law_now", "_law_now", defArgs (topS 30), defBody (topS 30), defScope (topS 30), []⟩
def d_Bench_log : DefX := ⟨fun K => (recAt K "property" (He.ma K (He.ga K "Bench") "log")), "log", "Bench.log", defArgs (inClass (topS 27) 3), defBody (inClass (topS 27) 3), defScope (inClass (topS 27) 3), []⟩
def d_law_is_low : DefX := ⟨fun K => (He.ga K "_law_is_low"), "_law_is_low", "_law_is_low", defArgs (topS 43), defBody (topS 43), defScope (topS 43), []⟩
def d_is_list : DefX := ⟨fun K => (He.ga K "is_list"), "is_list", "is_list", defArgs (topS 12), defBody (topS 12), defScope (topS 12), []⟩
def d_without_end : DefX := ⟨fun K => (He.ga K "without_end"), "without_end", "without_end", defArgs (topS 13), defBody (topS 13), defScope (topS 13), []⟩
def d_Rule___init__ : DefX := ⟨fun K => (He.ma K (He.ga K "Rule") "__init__"), "__init__", "Rule.__init__", defArgs (inClass (topS 14) 0), defBody (inClass (topS 14) 0), defScope (inClass (topS 14) 0), [.adr (fun K => He.dflAt ("Rule", some "__init__") 0 K)]⟩
def d_law_step_of : DefX := ⟨fun K => (He.ga K "_law_step_of"), "_law_step_of", "_law_step_of", defArgs (topS 47), defBody (topS 47), defScope (topS 47), []⟩
def d_law_bench_shows : DefX := ⟨fun K => (He.ga K "_law_bench_shows"), "_law_bench_shows", "_law_bench_shows", defArgs (topS 31), defBody (topS 31), defScope (topS 31), []⟩
def d_law_undone : DefX := ⟨fun K => (He.ga K "_law_undone"), "_law_undone", "_law_undone", defArgs (topS 34), defBody (topS 34), defScope (topS 34), []⟩
def d_law_turn : DefX := ⟨fun K => (He.ga K "_law_turn"), "_law_turn", "_law_turn", defArgs (topS 45), defBody (topS 45), defScope (topS 45), []⟩
def d_law_trimmed : DefX := ⟨fun K => (He.ga K "_law_trimmed"), "_law_trimmed", "_law_trimmed", defArgs (topS 40), defBody (topS 40), defScope (topS 40), []⟩
def d_law_rule : DefX := ⟨fun K => (He.ga K "_law_rule"), "_law_rule", "_law_rule", defArgs (topS 41), defBody (topS 41), defScope (topS 41), []⟩
def d_law_step : DefX := ⟨fun K => (He.ga K "_law_step"), "_law_step", "_law_step", defArgs (topS 46), defBody (topS 46), defScope (topS 46), []⟩
def d_law_bench_step : DefX := ⟨fun K => (He.ga K "_law_bench_step"), "_law_bench_step", "_law_bench_step", defArgs (topS 32), defBody (topS 32), defScope (topS 32), []⟩
def d_law_rule_at : DefX := ⟨fun K => (He.ga K "_law_rule_at"), "_law_rule_at", "_law_rule_at", defArgs (topS 42), defBody (topS 42), defScope (topS 42), []⟩
def d_law_step_done : DefX := ⟨fun K => (He.ga K "_law_step_done"), "_law_step_done", "_law_step_done", defArgs (topS 44), defBody (topS 44), defScope (topS 44), []⟩
def d_is_step : DefX := ⟨fun K => (He.ga K "is_step"), "is_step", "is_step", defArgs (topS 21), defBody (topS 21), defScope (topS 21), []⟩
def d_Program___init__ : DefX := ⟨fun K => (He.ma K (He.ga K "Program") "__init__"), "__init__", "Program.__init__", defArgs (inClass (topS 24) 0), defBody (inClass (topS 24) 0), defScope (inClass (topS 24) 0), [.adr (fun K => He.dflAt ("Program", some "__init__") 0 K)]⟩
def d_row_value : DefX := ⟨fun K => (He.ga K "row_value"), "row_value", "row_value", defArgs (topS 15), defBody (topS 15), defScope (topS 15), []⟩
def d_done : DefX := ⟨fun K => (He.ga K "done"), "done", "done", defArgs (topS 22), defBody (topS 22), defScope (topS 22), []⟩
def d_Program___call__ : DefX := ⟨fun K => (He.ma K (He.ga K "Program") "__call__"), "__call__", "Program.__call__", defArgs (inClass (topS 24) 3), defBody (inClass (topS 24) 3), defScope (inClass (topS 24) 3), []⟩
def d_Bench_do : DefX := ⟨fun K => (He.ma K (He.ga K "Bench") "do"), "do", "Bench.do", defArgs (inClass (topS 27) 4), defBody (inClass (topS 27) 4), defScope (inClass (topS 27) 4), []⟩
def d_law_done : DefX := ⟨fun K => (He.ga K "_law_done"), "_law_done", "_law_done", defArgs (topS 33), defBody (topS 33), defScope (topS 33), []⟩
def d_law_some_done : DefX := ⟨fun K => (He.ga K "_law_some_done"), "_law_some_done", "_law_some_done", defArgs (topS 49), defBody (topS 49), defScope (topS 49), []⟩
def d_law_end : DefX := ⟨fun K => (He.ga K "_law_end"), "_law_end", "_law_end", defArgs (topS 50), defBody (topS 50), defScope (topS 50), []⟩
def d_law_job__r0 : DefX := ⟨fun K => (He.ga K "_law_job"), "_law_job", "_law_job", defArgs (topS 51), defBody (topS 51), defScope (topS 51), []⟩
def d_Held___init__ : DefX := ⟨fun K => (He.ma K (He.ga K "Held") "__init__"), "__init__", "Held.__init__", defArgs (inClass (topS 26) 0), defBody (inClass (topS 26) 0), defScope (inClass (topS 26) 0), []⟩
def d_Bench___enter__ : DefX := ⟨fun K => (He.ma K (He.ga K "Bench") "__enter__"), "__enter__", "Bench.__enter__", defArgs (inClass (topS 27) 7), defBody (inClass (topS 27) 7), defScope (inClass (topS 27) 7), []⟩
def d_Bench___exit__ : DefX := ⟨fun K => (He.ma K (He.ga K "Bench") "__exit__"), "__exit__", "Bench.__exit__", defArgs (inClass (topS 27) 8), defBody (inClass (topS 27) 8), defScope (inClass (topS 27) 8), []⟩
def d_law_block__r0 : DefX := ⟨fun K => (He.ga K "_law_block"), "_law_block", "_law_block", defArgs (topS 52), defBody (topS 52), defScope (topS 52), []⟩
def d_law_job__r1 : DefX := ⟨fun K => (He.ga K "_law_job"), "_law_job", "_law_job", defArgs (topS 51), defBody (topS 51), defScope (topS 51), []⟩
def d_law_block__r1 : DefX := ⟨fun K => (He.ga K "_law_block"), "_law_block", "_law_block", defArgs (topS 52), defBody (topS 52), defScope (topS 52), []⟩
def d_law_job__r2 : DefX := ⟨fun K => (He.ga K "_law_job"), "_law_job", "_law_job", defArgs (topS 51), defBody (topS 51), defScope (topS 51), []⟩
def d_law_block__r2 : DefX := ⟨fun K => (He.ga K "_law_block"), "_law_block", "_law_block", defArgs (topS 52), defBody (topS 52), defScope (topS 52), []⟩
def d_law_begun : DefX := ⟨fun K => (He.ga K "_law_begun"), "_law_begun", "_law_begun", defArgs (topS 35), defBody (topS 35), defScope (topS 35), []⟩
def d_law : DefX := ⟨fun K => (He.ga K "law"), "law", "law", defArgs (topS 53), defBody (topS 53), defScope (topS 53), []⟩
def d_BadDeed___init__ : DefX := ⟨fun K => (He.ma K (He.ga K "BadDeed") "__init__"), "__init__", "BadDeed.__init__", defArgs (inClass (topS 7) 0), defBody (inClass (topS 7) 0), defScope (inClass (topS 7) 0), []⟩
def d_BadProgram___init__ : DefX := ⟨fun K => (He.ma K (He.ga K "BadProgram") "__init__"), "__init__", "BadProgram.__init__", defArgs (inClass (topS 5) 0), defBody (inClass (topS 5) 0), defScope (inClass (topS 5) 0), []⟩
def d_BadRule___init__ : DefX := ⟨fun K => (He.ma K (He.ga K "BadRule") "__init__"), "__init__", "BadRule.__init__", defArgs (inClass (topS 3) 0), defBody (inClass (topS 3) 0), defScope (inClass (topS 3) 0), []⟩
def d_law_caught : DefX := ⟨fun K => (He.ga K "_law_caught"), "_law_caught", "_law_caught", defArgs (topS 48), defBody (topS 48), defScope (topS 48), []⟩
def d_Bench_tried : DefX := ⟨fun K => (He.ma K (He.ga K "Bench") "tried"), "tried", "Bench.tried", defArgs (inClass (topS 27) 9), defBody (inClass (topS 27) 9), defScope (inClass (topS 27) 9), []⟩
def bsA1 : List (PySem.W.Frag → Bool) := [fun K => (He.Fa.glo "BadDeed").ok K,
  fun K => (He.Fa.glo "BadPoint").ok K,
  fun K => (He.Fa.glo "BadProgram").ok K,
  fun K => (He.Fa.glo "BadRule").ok K,
  fun K => (He.Fa.glo "Bench").ok K,
  fun K => (He.Fa.glo "CrossError").ok K,
  fun K => (He.Fa.glo "Held").ok K,
  fun K => (He.Fa.glo "NothingLeft").ok K,
  fun K => (He.Fa.glo "Program").ok K,
  fun K => (He.Fa.glo "Rule").ok K,
  fun K => (He.Fa.glo "_law_begun").ok K,
  fun K => (He.Fa.glo "_law_bench_drawn").ok K,
  fun K => (He.Fa.glo "_law_bench_shows").ok K,
  fun K => (He.Fa.glo "_law_bench_step").ok K,
  fun K => (He.Fa.glo "_law_block").ok K,
  fun K => (He.Fa.glo "_law_caught").ok K,
  fun K => (He.Fa.glo "_law_done").ok K,
  fun K => (He.Fa.glo "_law_end").ok K,
  fun K => (He.Fa.glo "_law_is_low").ok K,
  fun K => (He.Fa.glo "_law_job").ok K,
  fun K => (He.Fa.glo "_law_mixed").ok K,
  fun K => (He.Fa.glo "_law_now").ok K,
  fun K => (He.Fa.glo "_law_number").ok K,
  fun K => (He.Fa.glo "_law_pick").ok K,
  fun K => (He.Fa.glo "_law_rule").ok K]
def bsA2 : List (PySem.W.Frag → Bool) := [fun K => (He.Fa.glo "_law_rule_at").ok K,
  fun K => (He.Fa.glo "_law_some_done").ok K,
  fun K => (He.Fa.glo "_law_step").ok K,
  fun K => (He.Fa.glo "_law_step_done").ok K,
  fun K => (He.Fa.glo "_law_step_of").ok K,
  fun K => (He.Fa.glo "_law_take").ok K,
  fun K => (He.Fa.glo "_law_trimmed").ok K,
  fun K => (He.Fa.glo "_law_turn").ok K,
  fun K => (He.Fa.glo "_law_undone").ok K,
  fun K => (He.Fa.glo "done").ok K,
  fun K => (He.Fa.glo "is_list").ok K,
  fun K => (He.Fa.glo "is_number").ok K,
  fun K => (He.Fa.glo "is_step").ok K,
  fun K => (He.Fa.glo "need_point").ok K,
  fun K => (He.Fa.glo "row_value").ok K,
  fun K => (He.Fa.glo "without_end").ok K,
  fun K => (He.Fa.glo "law").ok K,
  fun K => (He.Fa.free "KeyError").ok K,
  fun K => (He.Fa.free "ZeroDivisionError").ok K,
  fun K => (He.Fa.free "abs").ok K,
  fun K => (He.Fa.free "all").ok K,
  fun K => (He.Fa.free "bool").ok K,
  fun K => (He.Fa.free "enumerate").ok K,
  fun K => (He.Fa.free "int").ok K,
  fun K => (He.Fa.free "isinstance").ok K]
def bsA3 : List (PySem.W.Frag → Bool) := [fun K => (He.Fa.free "len").ok K,
  fun K => (He.Fa.free "list").ok K,
  fun K => (He.Fa.free "max").ok K,
  fun K => (He.Fa.free "min").ok K,
  fun K => (He.Fa.free "range").ok K,
  fun K => (He.Fa.free "repr").ok K,
  fun K => (He.Fa.free "str").ok K,
  fun K => (He.Fa.free "tuple").ok K,
  ctxB nsL esL,
  fun K => esL.all fun n => decide (PySem.W.exmOne K (.ref (He.ga K n)) (.ref (He.ga K "CrossError")) = some true),
  fun K => PySem.W.keepIn K (.ref (He.ga K "_law_caught")),
  fun K => callB K (He.ga K "Program"),
  fun K => (He.Fa.cls "Bench").ok K,
  fun K => (He.Fa.cls "Held").ok K,
  fun K => (He.Fa.cls "Program").ok K,
  fun K => (He.Fa.cls "Rule").ok K,
  fun K => noneB (PySem.W.nsIn K cStatics "sys.int_max_str_digits"),
  fun K => eriB K (He.ga K "BadDeed") (He.ma K (He.ga K "BadDeed") "__init__") "deed",
  fun K => eriB K (He.ga K "BadProgram") (He.ma K (He.ga K "BadProgram") "__init__") "at",
  fun K => eriB K (He.ga K "BadRule") (He.ma K (He.ga K "BadRule") "__init__") "at",
  fun K => erB K (He.ga K "BadPoint"),
  fun K => erB K (He.ga K "NothingLeft"),
  fun K => esL.all fun n => decide (PySem.W.exmOne K (.ref (He.ga K n)) (.type "KeyError") = some false),
  fun K => esL.all fun n => decide (PySem.W.exmOne K (.ref (He.ga K n)) (.type "ZeroDivisionError") = some false),
  fun K => esL.all fun n => decide (PySem.W.exmOne K (.ref (He.ga K n)) (.ref (He.ga K "BadDeed")) = some (subCC n "BadDeed"))]
def bsA4 : List (PySem.W.Frag → Bool) := [fun K => exNames.all fun n => decide (PySem.W.exmOne K (.type n) (.ref (He.ga K "BadDeed")) = some false),
  fun K => (He.Fa.meth "Bench" "__enter__").ok K,
  fun K => (He.Fa.meth "Bench" "__exit__").ok K,
  fun K => (He.Fa.meth "Bench" "do").ok K,
  fun K => (He.Fa.meth "Bench" "tried").ok K,
  fun K => (He.Fa.meth "Bench" "undo").ok K,
  fun K => (He.Fa.mkr "Bench").ok K,
  fun K => (He.Fa.mkr "Held").ok K,
  fun K => (He.Fa.mkr "Program").ok K,
  fun K => (He.Fa.mkr "Rule").ok K,
  fun K => (He.Fa.noat "Bench" "done").ok K,
  fun K => (He.Fa.noat "Bench" "held").ok K,
  fun K => (He.Fa.noat "Bench" "own_begun").ok K,
  fun K => (He.Fa.noat "Held" "around").ok K,
  fun K => (He.Fa.noat "Held" "had").ok K,
  fun K => (He.Fa.noat "Program" "own_steps").ok K,
  fun K => (He.Fa.noat "Rule" "own_numbers").ok K,
  fun K => PySem.W.notFirst K (He.ga K "Rule") (.ref (He.ga K "Rule")),
  fun K => propB K (He.ga K "Bench") "begun",
  fun K => propB K (He.ga K "Bench") "log",
  fun K => propB K (He.ga K "Bench") "point",
  fun K => splB K (He.ga K "Rule") "__eq__",
  fun K => creadB K (He.ga K "CrossError"),
  fun K => vInit K (He.ga K "CrossError"),
  fun K => decide (((cx K).tb.map (·.1)).Nodup)]
def bs1 : List (PySem.W.Frag → Bool) := bsA1 ++ bsA2
def bs2 : List (PySem.W.Frag → Bool) := bsA3 ++ bsA4
def bs : List (PySem.W.Frag → Bool) := bs1 ++ bs2
def fnA1 : List DefX := [d_law_mixed, d_law_take, d_law_pick, d_law_number, d_is_number, d_need_point, d_Bench___init__, d_law_bench_drawn, d_Rule___eq__, d_Bench_point, d_Bench_undo, d_Bench_begun, d_law_now, d_Bench_log, d_law_is_low, d_is_list, d_without_end, d_Rule___init__]
def fnA2 : List DefX := [d_law_step_of, d_law_bench_shows, d_law_undone, d_law_turn, d_law_trimmed, d_law_rule, d_law_step, d_law_bench_step, d_law_rule_at, d_law_step_done, d_is_step, d_Program___init__, d_row_value, d_done, d_Program___call__, d_Bench_do, d_law_done, d_law_some_done]
def fnA3 : List DefX := [d_law_end, d_law_job__r0, d_Held___init__, d_Bench___enter__, d_Bench___exit__, d_law_block__r0, d_law_job__r1, d_law_block__r1, d_law_job__r2, d_law_block__r2, d_law_begun, d_law, d_BadDeed___init__, d_BadProgram___init__, d_BadRule___init__, d_law_caught, d_Bench_tried]
def fn : List DefX := fnA1 ++ (fnA2 ++ fnA3)
abbrev R : PySem.W.OpenRow := PySem.W.OpenLaw.row PySem.Challenge.rw_crossadds_k63_blocks_of_benches
def loose0 : List Str := ["_wall", "__name__", "CrossError", "BadRule", "BadPower", "BadProgram", "BadPoint", "BadDeed", "NothingLeft", "is_number", "is_from", "is_list", "without_end", "Rule", "row_value", "row_sum", "row_product", "need_point", "is_step", "done", "undone", "Program", "Held", "Bench", "_law_bench_drawn", "_law_now", "_law_bench_shows", "_law_bench_step", "_law_done", "_law_undone"]
def loose1 : List Str := ["_law_begun", "_law_mixed", "_law_take", "_law_pick", "_law_number", "_law_trimmed", "_law_rule", "_law_rule_at", "_law_is_low", "_law_step_done", "_law_turn", "_law_step", "_law_step_of", "_law_caught", "_law_some_done", "_law_end", "_law_job", "_law_block"]
abbrev loose : List Str := loose0 ++ loose1
abbrev hk : PySem.W.Hook := hookY 7 bs fn tf
def ob (s : PySem.W.SharedT) : AlY := obsY 7 bs fn tf (HandSHeadRun.getT s)
theorem ob_eq (s : PySem.W.SharedT) : ob s = hk.obs s.abs := obsY_eq (HandSHeadRun.getT_eq s)
theorem p_three {α β γ δ : Type} {x : Option α} {f : α → β} {g : α → γ} {h : α → δ} {a : β} {b : γ} {c : δ} (h1 : x.map f = some a) (h2 : x.map g = some b) (h3 : x.map h = some c) : x.map (fun s => (f s, g s, h s)) = some (a, b, c) := by cases x with | none => cases h1 | some y => cases h1; cases h2; cases h3; rfl
theorem p_join {α : Type} {x : Option α} {b1 b2 : List (PySem.W.Frag → Bool)} {fn : List DefX} {tf : List (PySem.W.Frag → Addr)} {G : α → Addr → Option Obj} (h1 : x.map (fun s => b1.all fun b => b (He.frT (G s) (asY (G s) 7))) = some true) (h2 : x.map (fun s => b2.all fun b => b (He.frT (G s) (asY (G s) 7))) = some true) (h3 : x.map (fun s => (fn.all (fun d => d.ok (He.frT (G s) (asY (G s) 7))), tabsY (G s) tf (He.frT (G s) (asY (G s) 7)))) = some (true, true)) (h4 : x.map (fun s => fn.map fun d => fnX (He.frT (G s) (asY (G s) 7)) (d.at_ (He.frT (G s) (asY (G s) 7)))) = some (fn.map DefX.val)) : x.map (fun s => obsY 7 (b1 ++ b2) fn tf (G s)) = some (valX fn, true) := by
  cases x with
  | none => cases h1
  | some s =>
    have e1 := Option.some.inj h1
    have e2 := Option.some.inj h2
    have e3 := Option.some.inj h3
    have e4 := Option.some.inj h4
    have e5 := congrArg Prod.fst e3
    have e6 := congrArg Prod.snd e3
    dsimp only at e1 e2 e4 e5 e6
    show some (obsY 7 (b1 ++ b2) fn tf (G s)) = _
    unfold obsY obsX valX
    rw [List.all_append, e1, e2, e5, e6, e4]
    rfl
open PySem PySem.W PySem.Calls HandSHeadRun in theorem p_look (w : PySem.World) (os : PySem.OsState) : (endF (stepQ (denQ tabQ) R.prog w) 16000 R.prog w os).map (fun s => looksF R.prog (boot_heap w.params) s.abs) = some (true) := by kernel_rfl
open PySem PySem.W PySem.Calls HandSHeadRun in theorem p_seen (w : PySem.World) (os : PySem.OsState) : (endF (stepQ (denQ tabQ) R.prog w) 16000 R.prog w os).map (fun s => seenQ (PySem.W.view R.prog [53]) loose (importedModules R.prog.main.body) (fun s => xlAt (PySem.W.view R.prog [53]) [] s && recOk R.toRowW.records s) s.abs) = some (openGood (PySem.W.view R.prog [53]) loose) := by kernel_rfl
open PySem PySem.W PySem.Calls HandSHeadRun in theorem p_ob1 (w : PySem.World) (os : PySem.OsState) : (endF (stepQ (denQ tabQ) R.prog w) 16000 R.prog w os).map (fun s => bs1.all fun b => b (He.frT (HandSHeadRun.getT s) (asY (HandSHeadRun.getT s) 7))) = some (true) := by kernel_rfl
open PySem PySem.W PySem.Calls HandSHeadRun in theorem p_ob2 (w : PySem.World) (os : PySem.OsState) : (endF (stepQ (denQ tabQ) R.prog w) 16000 R.prog w os).map (fun s => bs2.all fun b => b (He.frT (HandSHeadRun.getT s) (asY (HandSHeadRun.getT s) 7))) = some (true) := by kernel_rfl
open PySem PySem.W PySem.Calls HandSHeadRun in theorem p_ob3 (w : PySem.World) (os : PySem.OsState) : (endF (stepQ (denQ tabQ) R.prog w) 16000 R.prog w os).map (fun s => (fn.all (fun d => d.ok (He.frT (HandSHeadRun.getT s) (asY (HandSHeadRun.getT s) 7))), tabsY (HandSHeadRun.getT s) tf (He.frT (HandSHeadRun.getT s) (asY (HandSHeadRun.getT s) 7)))) = some ((true, true)) := by kernel_rfl
open PySem PySem.W PySem.Calls HandSHeadRun in theorem p_ob4 (w : PySem.World) (os : PySem.OsState) : (endF (stepQ (denQ tabQ) R.prog w) 16000 R.prog w os).map (fun s => fn.map fun d => fnX (He.frT (HandSHeadRun.getT s) (asY (HandSHeadRun.getT s) 7)) (d.at_ (He.frT (HandSHeadRun.getT s) (asY (HandSHeadRun.getT s) 7)))) = some (fn.map DefX.val) := by kernel_rfl
open PySem PySem.W PySem.Calls HandSHeadRun in theorem p_ob (w : PySem.World) (os : PySem.OsState) : (endF (stepQ (denQ tabQ) R.prog w) 16000 R.prog w os).map (fun s => ob s) = some (hk.val w) := p_join (p_ob1 w os) (p_ob2 w os) (p_ob3 w os) (p_ob4 w os)
theorem run (w : PySem.World) : HandSHeadRun.RunEq R (PySem.W.view R.prog [53]) hk ob 16000 loose w := by
  intro os
  exact p_three (p_look w os) (p_seen w os) (p_ob w os)
end KLaw
set_option Elab.async false
set_option linter.all false
set_option maxRecDepth 100000
set_option maxHeartbeats 4000000
/-! A17: len by an own __len__, a tuple times a number, != of a tuple and (). -/
namespace DL
open PySem PyProof.Rows L2
variable [Gds]
section
variable {X : Cx} {c : Ctx} {W : WX} {k : Nat} {n : Str} {s : WP} {f : Addr} {fd : FuncData} {ps : List Str}
end
end DL

set_option Elab.async false
set_option linter.all false
set_option maxRecDepth 100000
set_option maxHeartbeats 4000000
/-! A18: what each wish says, as equations (printed by tools/mku.py). -/
namespace DL
open PySem PyProof.Rows L2
theorem Jbx (n N : Nat) (b : WS) (ds : List D) (μ : Mu) (Q : QD) (X : QD) : wDef n N b ds μ Q X = (ds.length = n ∧ b (initE N ds) μ ⟨fun _ μ1 => Q .none μ1, Q, fun _ _ => False, fun _ _ => False, fun d _ μ1 => X d μ1⟩) := propext Iff.rfl
theorem Jcx (a b : WS) (e : EnvD) (μ : Mu) (E : WEnds) : wSeq a b e μ E = (a e μ { E with nx := fun e1 μ1 => b e1 μ1 E }) := propext Iff.rfl
theorem Jcj (e : EnvD) (μ : Mu) (E : WEnds) : wNext e μ E = (E.nx e μ) := propext Iff.rfl
theorem Jbl (i : Nat) (a : WE) (e : EnvD) (μ : Mu) (E : WEnds) : wAsg i a e μ E = (a e μ (fun d μ1 => E.nx (st e i (some d)) μ1) fun d μ1 => E.xp d e μ1) := propext Iff.rfl
theorem Jbm (g : WG) (a : WE) (e : EnvD) (μ : Mu) (E : WEnds) : wAsgG g a e μ E = (a e μ (fun d μ1 => g d e fun e1 => E.nx e1 μ1) fun d μ1 => E.xp d e μ1) := propext Iff.rfl
theorem Jc3 (a : WE) (e : EnvD) (μ : Mu) (E : WEnds) : wDrop a e μ E = (a e μ (fun _ μ1 => E.nx e μ1) fun d μ1 => E.xp d e μ1) := propext Iff.rfl
theorem Jcs (a : WE) (e : EnvD) (μ : Mu) (E : WEnds) : wRet a e μ E = (a e μ E.rt fun d μ1 => E.xp d e μ1) := propext Iff.rfl
theorem Jct (u0' : EnvD) (μ : Mu) (E : WEnds) : wRetN u0' μ E = (E.rt .none μ) := propext Iff.rfl
theorem Jca (t : WT) (a b : WS) (e : EnvD) (μ : Mu) (E : WEnds) : wIfS t a b e μ E = (t e μ (fun k μ1 => if k = true then a e μ1 E else b e μ1 E) fun d μ1 => E.xp d e μ1) := propext Iff.rfl
theorem Jcp (i j : Nat) (a : WA) (e : EnvD) (μ : Mu) (E : WEnds) : wPar i j a e μ E = (a e μ (fun ds μ1 => match ds with
  | [x, y] => E.nx (st (st e i (some x)) j (some y)) μ1
  | _ => False) fun d μ1 => E.xp d e μ1) := propext Iff.rfl
theorem Jbn (i : Nat) (f : Int → Int → Int) (a : WE) (e : EnvD) (μ : Mu) (E : WEnds) : wAug i f a e μ E = (match gt e i with
  | some (.int x) => a e μ (fun d μ1 => match d with
    | .int y => E.nx (st e i (some (.int (f x y)))) μ1
    | _ => False) fun d μ1 => E.xp d e μ1
  | _ => False) := propext Iff.rfl
theorem Jcz (v o i : WE) (e : EnvD) (μ : Mu) (E : WEnds) : wSetL v o i e μ E = (v e μ (fun d μ1 => o e μ1 (fun x μ2 => i e μ2 (fun y μ3 => match x, y with
  | .cell p, .int k => (match ndL (μ3 p) with
    | some ds => (match ixN ds.length k with
      | some j => E.nx e (up μ3 p (.list (ds.set j d)))
      | Option.none => False)
    | Option.none => False)
  | _, _ => False) fun d μ1 => E.xp d e μ1) fun d μ1 => E.xp d e μ1) fun d μ1 => E.xp d e μ1) := propext Iff.rfl
theorem Jbo (e : EnvD) (μ : Mu) (E : WEnds) : wBreak e μ E = (E.bk e μ) := propext Iff.rfl
theorem Jbu (e : EnvD) (μ : Mu) (E : WEnds) : wCont e μ E = (E.ct e μ) := propext Iff.rfl
theorem Jdd (i : Nat) (d : D) (e : EnvD) (Q : EnvD → Prop) : wgN i d e Q = (Q (st e i (some d))) := propext Iff.rfl
theorem Jde (ds : List D) (e : EnvD) (Q : EnvD → Prop) : wgNil ds e Q = (match ds with
  | [] => Q e
  | _ => False) := propext Iff.rfl
theorem Jdc (g : WG) (gs : WGs) (ds : List D) (e : EnvD) (Q : EnvD → Prop) : wgCons g gs ds e Q = (match ds with
  | d :: ds => g d e fun e1 => gs ds e1 Q
  | _ => False) := propext Iff.rfl
theorem Jdf (n : Nat) (gs : WGs) (d : D) (e : EnvD) (Q : EnvD → Prop) : wgTup n gs d e Q = (match d with
  | .tup ds => ds.length = n ∧ gs ds e Q
  | _ => False) := propext Iff.rfl
theorem Jdj (a : WE) (e : EnvD) (μ : Mu) (Q : Src → Mu → Prop) (X : QD) : wiSeq a e μ Q X = (a e μ (fun d μ1 => match sqD μ1 d with
  | some ds => Q ⟨ds, okS d ds⟩ μ1
  | Option.none => False) X) := propext Iff.rfl
theorem Jdh (a : WA) (e : EnvD) (μ : Mu) (Q : Src → Mu → Prop) (X : QD) : wiRng1 a e μ Q X = (a e μ (fun ds μ1 => one ds fun x => int1 x fun j => inR j ∧ Q ⟨rangeD 0 j.toNat, fun _ => True⟩ μ1) X) := propext Iff.rfl
theorem Jdi (a : WA) (e : EnvD) (μ : Mu) (Q : Src → Mu → Prop) (X : QD) : wiRng2 a e μ Q X = (a e μ (fun ds μ1 => two ds fun x y => int1 x fun lo => int1 y fun hi => inR lo ∧ inR hi ∧ Q ⟨rangeD lo (hi - lo).toNat, fun _ => True⟩ μ1) X) := propext Iff.rfl
theorem Jdg (a : WA) (e : EnvD) (μ : Mu) (Q : Src → Mu → Prop) (X : QD) : wiEnum a e μ Q X = (a e μ (fun ds μ1 => one ds fun d => match sqD μ1 d with
  | some xs => Q ⟨enumD 0 xs, okS d xs⟩ μ1
  | Option.none => False) X) := propext Iff.rfl
theorem Jc6 (s : WI) (g : WG) (b : WS) (e : EnvD) (μ : Mu) (E : WEnds) : wFor s g b e μ E = (s e μ (fun s μ1 => s.xs.length ≤ 2 ^ 63 ∧ goFor s.ok g b s.xs e μ1 E) fun d μ1 => E.xp d e μ1) := propext Iff.rfl
theorem Jcc (m : Bool) (s : WI) (g : WG) (t : WT) (a : WE) (vs : List Nat) (e : EnvD) (μ : Mu) (Q : QD) (X : QD) : wLc m s g t a vs e μ Q X = (s e μ (fun s μ1 => s.xs.length ≤ sizeLine ∧ goLc s.ok g t a (wipeE e vs) (fun _ _ => False) s.xs [] μ1 fun ds μ2 => sett m Q (.n (.list ds)) μ2) X) := propext Iff.rfl
theorem Jd7 (u0' : EnvD) (μ : Mu) (Q : Bool → Mu → Prop) (u1' : QD) : wYes u0' μ Q u1' = (Q true μ) := propext Iff.rfl
theorem Jd6 (i : Nat) (e : EnvD) (μ : Mu) (Q : QD) (u0' : QD) : wV i e μ Q u0' = (match gt e i with
  | some d => Q d μ
  | Option.none => False) := propext Iff.rfl
theorem Jcb (d : D) (u0' : EnvD) (μ : Mu) (Q : QD) (u1' : QD) : wK d u0' μ Q u1' = (Q d μ) := propext Iff.rfl
theorem Jcm (m : Bool) (o : WOp) (a b : WE) (e : EnvD) (μ : Mu) (Q : QD) (X : QD) : wOp m o a b e μ Q X = (a e μ (fun x μ1 => b e μ1 (fun y μ2 => o x y μ2 (sett m Q) X) X) X) := propext Iff.rfl
theorem Jd5 (m : Bool) (o : WU) (a : WE) (e : EnvD) (μ : Mu) (Q : QD) (X : QD) : wUn m o a e μ Q X = (a e μ (fun x μ1 => o x μ1 (sett m Q) X) X) := propext Iff.rfl
theorem Jd4 (a : WA) (e : EnvD) (μ : Mu) (Q : QD) (X : QD) : wTup a e μ Q X = (a e μ (fun xs μ1 => xs.length ≤ sizeLine ∧ Q (.tup xs) μ1) X) := propext Iff.rfl
theorem Jcg (m : Bool) (a : WA) (e : EnvD) (μ : Mu) (Q : QD) (X : QD) : wLst m a e μ Q X = (a e μ (fun xs μ1 => xs.length ≤ sizeLine ∧ sett m Q (.n (.list xs)) μ1) X) := propext Iff.rfl
theorem Jbs (m : Bool) (o : WC) (a : WA) (e : EnvD) (μ : Mu) (Q : QD) (X : QD) : wCb m o a e μ Q X = (a e μ (fun xs μ1 => o xs μ1 (sett m Q) X) X) := propext Iff.rfl
theorem Jd3 (a : WE) (e : EnvD) (μ : Mu) (Q : Bool → Mu → Prop) (X : QD) : wTst a e μ Q X = (a e μ (fun x μ1 => match x with
  | .bool b => Q b μ1
  | _ => False) X) := propext Iff.rfl
theorem Jcl (t : WT) (e : EnvD) (μ : Mu) (Q : Bool → Mu → Prop) (X : QD) : wNotT t e μ Q X = (t e μ (fun b μ1 => Q (!b) μ1) X) := propext Iff.rfl
theorem Jbk (t u : WT) (e : EnvD) (μ : Mu) (Q : Bool → Mu → Prop) (X : QD) : wAndT t u e μ Q X = (t e μ (fun b μ1 => if b = true then u e μ1 Q X else Q false μ1) X) := propext Iff.rfl
theorem Jco (t u : WT) (e : EnvD) (μ : Mu) (Q : Bool → Mu → Prop) (X : QD) : wOrT t u e μ Q X = (t e μ (fun b μ1 => if b = true then Q true μ1 else u e μ1 Q X) X) := propext Iff.rfl
theorem Jc9 (t : WT) (a b : WE) (e : EnvD) (μ : Mu) (Q : QD) (X : QD) : wIf t a b e μ Q X = (t e μ (fun k μ1 => if k = true then a e μ1 Q X else b e μ1 Q X) X) := propext Iff.rfl
theorem Jbj (a b : WE) (e : EnvD) (μ : Mu) (Q : QD) (X : QD) : wAnd a b e μ Q X = (a e μ (fun x μ1 => match x with
  | .bool k => if k = true then b e μ1 Q X else Q (.bool false) μ1
  | _ => False) X) := propext Iff.rfl
theorem Jcn (a b : WE) (e : EnvD) (μ : Mu) (Q : QD) (X : QD) : wOr a b e μ Q X = (a e μ (fun x μ1 => match x with
  | .bool k => if k = true then Q (.bool true) μ1 else b e μ1 Q X
  | _ => False) X) := propext Iff.rfl
theorem Jck (a : WE) (e : EnvD) (μ : Mu) (Q : QD) (X : QD) : wNot a e μ Q X = (a e μ (fun x μ1 => match x with
  | .bool k => Q (.bool (!k)) μ1
  | _ => False) X) := propext Iff.rfl
theorem Jd9 (u0' : EnvD) (μ : Mu) (Q : List D → Mu → Prop) (u1' : QD) : waNil u0' μ Q u1' = (Q [] μ) := propext Iff.rfl
theorem Jd8 (a : WE) (r : WA) (e : EnvD) (μ : Mu) (Q : List D → Mu → Prop) (X : QD) : waCons a r e μ Q X = (a e μ (fun x μ1 => r e μ1 (fun xs μ2 => Q (x :: xs) μ2) X) X) := propext Iff.rfl
theorem Jdb (a : WE) (r : WA) (e : EnvD) (μ : Mu) (Q : List D → Mu → Prop) (X : QD) : waStar a r e μ Q X = (a e μ (fun x μ1 => match sqD μ1 x with
  | some ds => r e μ1 (fun es μ2 => Q (ds ++ es) μ2) X
  | Option.none => False) X) := propext Iff.rfl
theorem Jbp (s : WP) (dd : List D) (a : WA) (e : EnvD) (μ : Mu) (Q : QD) (X : QD) : wCall s dd a e μ Q X = (a e μ (fun ds μ1 => s (ds ++ dd) μ1 Q X) X) := propext Iff.rfl
theorem Jci (n m : Str) (s : WP) (dd : List D) (r : WE) (a : WA) (e : EnvD) (μ : Mu) (Q : QD) (X : QD) : wMeth n m s dd r a e μ Q X = (r e μ (fun x μ1 => isOf n m μ1 x (a e μ1 (fun ds μ2 => s (x :: (ds ++ dd)) μ2 Q X) X)) X) := propext Iff.rfl
theorem Jcr (n f : Str) (s : WP) (r : WE) (e : EnvD) (μ : Mu) (Q : QD) (X : QD) : wProp n f s r e μ Q X = (r e μ (fun x μ1 => isOf n f μ1 x (s [x] μ1 Q fun _ _ => False)) X) := propext Iff.rfl
theorem Jc5 (n f : Str) (r : WE) (e : EnvD) (μ : Mu) (Q : QD) (X : QD) : wFld n f r e μ Q X = (r e μ (fun x μ1 => match asObj μ1 x with
  | some (k, fs, ds) => k = n ∧ (match fldD f fs ds with
    | some d => Q d μ1
    | Option.none => False)
  | Option.none => False) X) := propext Iff.rfl
theorem Jcy (n f : Str) (o v : WE) (e : EnvD) (μ : Mu) (E : WEnds) : wSetF n f o v e μ E = (v e μ (fun d μ1 => o e μ1 (fun x μ2 => match x with
  | .cell p => (match ndO (μ2 p) with
    | some (k, fs, ds) => k = n ∧ fs.length < 1000 ∧ E.nx e (up μ2 p (.obj k (putN f d fs ds).1 (putN f d fs ds).2))
    | Option.none => False)
  | _ => False) fun d μ1 => E.xp d e μ1) fun d μ1 => E.xp d e μ1) := propext Iff.rfl
theorem Jbq (n : Str) (s : WP) (r : WE) (a : WA) (e : EnvD) (μ : Mu) (Q : QD) (X : QD) : wCallI n s r a e μ Q X = (r e μ (fun x μ1 => clsOf μ1 x = some n ∧ a e μ1 (fun ds μ2 => clsOf μ2 x = some n ∧ s (x :: ds) μ2 Q X) X) X) := propext Iff.rfl
theorem Jcu (m : Bool) (a : WE) (e : EnvD) (μ : Mu) (Q : QD) (X : QD) : wRev m a e μ Q X = (a e μ (fun x μ1 => match x with
  | .tup ds => Q (.tup ds.reverse) μ1
  | x => (match seqL μ1 x with
    | some ds => sett m Q (.n (.list ds.reverse)) μ1
    | Option.none => False)) X) := propext Iff.rfl
theorem Jd0 (m : Bool) (o : D → Option Int → Option Int → Mu → QR → QD → Prop) (a : WE) (l h : WO) (e : EnvD) (μ : Mu) (Q : QD) (X : QD) : wSl m o a l h e μ Q X = (a e μ (fun x μ1 => l e μ1 (fun lo μ2 => h e μ2 (fun hi μ3 => o x lo hi μ3 (sett m Q) X) X) X) X) := propext Iff.rfl
theorem Jdk (u0' : EnvD) (μ : Mu) (Q : Option Int → Mu → Prop) (u1' : QD) : woNone u0' μ Q u1' = (Q Option.none μ) := propext Iff.rfl
theorem Jdl (a : WE) (e : EnvD) (μ : Mu) (Q : Option Int → Mu → Prop) (X : QD) : woSome a e μ Q X = (a e μ (fun x μ1 => match x with
  | .int i => Q (some i) μ1
  | _ => False) X) := propext Iff.rfl
theorem Jcd (m : Bool) (o : WM) (r : WE) (a : WA) (e : EnvD) (μ : Mu) (Q : QD) (X : QD) : wLm m o r a e μ Q X = (r e μ (fun x μ1 => isL μ1 x ∧ a e μ1 (fun xs μ2 => o x xs μ2 (sett m Q) X) X) X) := propext Iff.rfl
theorem Jcv (n : Str) (e : EnvD) (μ : Mu) (E : WEnds) : wRz n e μ E = (E.xp (.err n [] []) e μ) := propext Iff.rfl
theorem Jcw (n f : Str) (a : WE) (e : EnvD) (μ : Mu) (E : WEnds) : wRzA n f a e μ E = (a e μ (fun d μ1 => E.xp (.err n [f] [d]) e μ1) fun d μ1 => E.xp d e μ1) := propext Iff.rfl
theorem Jc8 (i : Nat) (w : WS) (e : EnvD) (μ : Mu) (E : WEnds) : wFz i w e μ E = (match gt e i with
  | some (.cell b) => (match μ b with
    | some nd => w (st e i (some nd.frz)) (del μ b) E
    | Option.none => False)
  | some _ => w e μ E
  | Option.none => False) := propext Iff.rfl
theorem Jbr (es : List Str) (w : WE) (e : EnvD) (μ : Mu) (Q : QD) (u0' : QD) : wCaught es w e μ Q u0' = (w e μ (fun _ μ1 => Q .none μ1) fun d μ1 => match d with
  | .err n _ _ => n ∈ es ∧ Q d μ1
  | _ => False) := propext Iff.rfl
theorem Jc4 (f : Str) (r : WE) (e : EnvD) (μ : Mu) (Q : QD) (X : QD) : wErrF f r e μ Q X = (r e μ (fun x μ1 => match x with
  | .err _ fs ds => (match fldD f fs ds with
    | some d => Q d μ1
    | Option.none => False)
  | _ => False) X) := propext Iff.rfl
theorem Jbz (m : Bool) (u0' : EnvD) (μ : Mu) (Q : QD) (u1' : QD) : wDict0 m u0' μ Q u1' = (sett m Q (.n (.dk [] [])) μ) := propext Iff.rfl
theorem Jcf (m : Bool) (a : WA) (e : EnvD) (μ : Mu) (Q : QD) (X : QD) : wLrng m a e μ Q X = (a e μ (fun ds μ1 => one ds fun d => int1 d fun j => (0 ≤ j ∧ j ≤ 2 ^ 20) ∧ sett m Q (.n (.list (rangeD 0 j.toNat))) μ1) X) := propext Iff.rfl
theorem Jda (js : List Nat) (a : WA) (e : EnvD) (μ : Mu) (Q : List D → Mu → Prop) (X : QD) : waPerm js a e μ Q X = (a e μ (fun ds μ1 => ds.length = js.length ∧ Q (permD D.none js ds) μ1) X) := propext Iff.rfl
theorem Jbt (p q : Int → Int → Bool) (a b d : WE) (e : EnvD) (μ : Mu) (Q : QD) (X : QD) : wChain p q a b d e μ Q X = (a e μ (fun x μ1 => b e μ1 (fun y μ2 => int1 x fun i => int1 y fun j => if p i j = true then d e μ2 (fun z μ3 => int1 z fun k => Q (.bool (q j k)) μ3) X else Q (.bool false) μ2) X) X) := propext Iff.rfl
theorem Jc0 (m : Bool) (a b : WE) (e : EnvD) (μ : Mu) (Q : QD) (X : QD) : wDisp1 m a b e μ Q X = (a e μ (fun x μ1 => b e μ1 (fun y μ2 => match keyD x with
  | some k => sett m Q (.n (.dk [k] [y])) μ2
  | Option.none => False) X) X) := propext Iff.rfl
theorem Jc2 (m : Bool) (ks : List Key) (b : WE) (e : EnvD) (μ : Mu) (Q : QD) (X : QD) : wDispT m ks b e μ Q X = (b e μ (fun y μ2 => sett m Q (.n (.dt [ks] [y])) μ2) X) := propext Iff.rfl
theorem Jby (n N : Nat) (b : WS) (ds : List D) (μ : Mu) (Q : QD) (X : QD) : wDefD n N b ds μ Q X = (wDef n N b ds μ (fun d μ1 => ∃ μ2, subMu μ2 μ1 ∧ Q d μ2) X) := propext Iff.rfl
/-- what is wished behind an __init__ -/
def mkQ (m : Bool) (Q : QD) (p : Addr) : QD := fun r μ2 => r = .none ∧ (match μ2 p with
  | some nd => sett m Q (.n nd) (del μ2 p)
  | Option.none => False)
theorem Jch (m : Bool) (n : Str) (s : WP) (dd : List D) (a : WA) (e : EnvD) (μ : Mu) (Q X : QD) : wMake m n s dd a e μ Q X = a e μ (fun ds μ1 => ∀ p, μ1 p = Option.none → s (.cell p :: (ds ++ dd)) (up μ1 p (.obj n [] [])) (mkQ m Q p) X) X := propext Iff.rfl
theorem mkQ_f {Q : QD} {p : Addr} {μ : Mu} {nd : Nd} (hp : μ p = Option.none) (q : Q nd.frz μ) : mkQ false Q p .none (up μ p nd) := by
  refine ⟨rfl, ?_⟩
  rw [up_same, del_up hp]
  exact q
theorem Jbc (m : Bool) (Q : QD) (d : D) (μ : Mu) : sett m Q (.v d) μ = Q d μ := by cases m <;> exact propext Iff.rfl
theorem Jba (Q : QD) (nd : Nd) (μ : Mu) : sett false Q (.n nd) μ = Q nd.frz μ := propext Iff.rfl
theorem Jbb (Q : QD) (nd : Nd) (μ : Mu) : sett true Q (.n nd) μ = (∀ p, μ p = Option.none → Q (.cell p) (up μ p nd)) := propext Iff.rfl
theorem Jbd (μ : Mu) (ds : List D) : sqD μ (.list ds) = some ds := rfl
theorem Jbf (μ : Mu) (ds : List D) : sqD μ (.tup ds) = some ds := rfl
theorem Jbe (μ : Mu) (ns : List Int) : sqD μ (.script ns) = some (iL ns) := rfl
theorem Jb9 (μ : Mu) (ds : List D) : seqL μ (.list ds) = some ds := rfl
theorem Ja2 (ds : List D) : (Nd.list ds).frz = .list ds := rfl
theorem Ja1 (ks : List Key) (ds : List D) : (Nd.dk ks ds).frz = .dk ks ds := rfl
theorem Ja4 (ks : List (List Key)) (ds : List D) : (Nd.dt ks ds).frz = .dt ks ds := rfl
theorem Ja3 (c : Str) (fs : List Str) (ds : List D) : (Nd.obj c fs ds).frz = .obj c fs ds := rfl
theorem Jb8 (x : D) (f : D → Prop) : one [x] f = f x := propext Iff.rfl
theorem Jbi (x y : D) (f : D → D → Prop) : two [x, y] f = f x y := propext Iff.rfl
theorem Ja5 (i : Int) (f : Int → Prop) : int1 (.int i) f = f i := propext Iff.rfl
section
variable (μ : Mu) (Q : QR) (X : QD)
theorem Jae (i j : Int) : oAdd (.int i) (.int j) μ Q X = Q (.v (.int (i + j))) μ := propext Iff.rfl
theorem Jag (a b : Str) : oAdd (.str a) (.str b) μ Q X = (a.length + b.length ≤ sizeLine ∧ Q (.v (.str (a ++ b))) μ) := propext Iff.rfl
theorem Jah (a b : List D) : oAdd (.tup a) (.tup b) μ Q X = (a.length + b.length ≤ sizeLine ∧ Q (.v (.tup (a ++ b))) μ) := propext Iff.rfl
theorem Jaf (a b : List D) : oAdd (.list a) (.list b) μ Q X = (a.length + b.length ≤ sizeLine ∧ Q (.n (.list (a ++ b))) μ) := propext Iff.rfl
theorem Jb7 (i j : Int) : oSub (.int i) (.int j) μ Q X = Q (.v (.int (i - j))) μ := propext ⟨fun h => h.2, fun h => ⟨trivial, h⟩⟩
theorem Jaw (i j : Int) : oMul (.int i) (.int j) μ Q X = (CMulU i j ∧ Q (.v (.int (i * j))) μ) := propext Iff.rfl
theorem Jax (a : List D) (k : Int) : oMul (.list a) (.int k) μ Q X = (-(2 ^ 63) ≤ k ∧ k < 2 ^ 63 ∧ a.length * k.toNat ≤ sizeLine ∧ Q (.n (.list (List.replicate k.toNat a).flatten)) μ) := propext Iff.rfl
theorem Jak (i j : Int) : oFdiv (.int i) (.int j) μ Q X = (CDivW i j ∧ Q (.v (.int (i / j))) μ) := propext Iff.rfl
theorem Jav (i j : Int) : oMod (.int i) (.int j) μ Q X = (0 < j ∧ Q (.v (.int (i % j))) μ) := propext Iff.rfl
theorem Jb4 (i j : Int) : oPow (.int i) (.int j) μ Q X = (CPowW i j ∧ Q (.v (.int (i ^ j.toNat))) μ) := propext Iff.rfl
theorem Jau (i j : Int) : oLt (.int i) (.int j) μ Q X = Q (.v (.bool (decide (i < j)))) μ := propext ⟨fun h => h.2, fun h => ⟨trivial, h⟩⟩
theorem Jat (i j : Int) : oLe (.int i) (.int j) μ Q X = Q (.v (.bool (decide (i ≤ j)))) μ := propext ⟨fun h => h.2, fun h => ⟨trivial, h⟩⟩
theorem Jan (i j : Int) : oGt (.int i) (.int j) μ Q X = Q (.v (.bool (decide (j < i)))) μ := propext ⟨fun h => h.2, fun h => ⟨trivial, h⟩⟩
theorem Jam (i j : Int) : oGe (.int i) (.int j) μ Q X = Q (.v (.bool (decide (j ≤ i)))) μ := propext ⟨fun h => h.2, fun h => ⟨trivial, h⟩⟩
theorem Jb2 (i : Int) : oNeg (.int i) μ Q X = Q (.v (.int (-i))) μ := propext Iff.rfl
theorem Jai (i j : Int) : oEq (.int i) (.int j) μ Q X = Q (.v (.bool (decide (i = j)))) μ := propext Iff.rfl
theorem Jaj (i j : Str) : oEq (.str i) (.str j) μ Q X = Q (.v (.bool (decide (i = j)))) μ := propext Iff.rfl
theorem Jb0 (i j : Int) : oNe (.int i) (.int j) μ Q X = Q (.v (.bool (!decide (i = j)))) μ := propext Iff.rfl
theorem Jb1 (i j : Str) : oNe (.str i) (.str j) μ Q X = Q (.v (.bool (!decide (i = j)))) μ := propext Iff.rfl
theorem Jaq (x : D) : oIsN x .none μ Q X = Q (.v (.bool (isNone x))) μ := propext Iff.rfl
theorem Jb3 (x : D) : oNotN x .none μ Q X = Q (.v (.bool (!isNone x))) μ := propext Iff.rfl
theorem Jar (ds : List D) (i : Int) : oIx (.list ds) (.int i) μ Q X = (match atI ds i with
  | some d => Q (.v d) μ
  | Option.none => False) := propext Iff.rfl
theorem Jas (ds : List D) (i : Int) : oIx (.tup ds) (.int i) μ Q X = (match atI ds i with
  | some d => Q (.v d) μ
  | Option.none => False) := propext Iff.rfl
theorem Jao (neg : Bool) (x : D) (ds : List D) : oIn neg x (.tup ds) μ Q X = (flatD x = true ∧ ds.all flatD = true ∧ Q (.v (.bool (if neg then !inF x ds else inF x ds))) μ) := propext Iff.rfl
theorem Jap (neg : Bool) (x : D) (ds : List D) : oIn neg x (.list ds) μ Q X = (flatD x = true ∧ ds.all flatD = true ∧ Q (.v (.bool (if neg then !inF x ds else inF x ds))) μ) := propext Iff.rfl
theorem Jb6 (ds : List D) (lo hi : Option Int) : oSl (.tup ds) lo hi μ Q X = Q (.v (.tup (cutD ds lo hi))) μ := propext Iff.rfl
theorem Jb5 (ds : List D) (lo hi : Option Int) : oSl (.list ds) lo hi μ Q X = Q (.n (.list (cutD ds lo hi))) μ := propext Iff.rfl
theorem Ja7 (ds : List D) : cbLen [.list ds] μ Q X = Q (.v (.int ds.length)) μ := propext Iff.rfl
theorem Ja8 (ds : List D) : cbLen [.tup ds] μ Q X = Q (.v (.int ds.length)) μ := propext Iff.rfl
theorem Jac (i j : Int) : cbMin2 [.int i, .int j] μ Q X = Q (.v (.int (if j < i then j else i))) μ := propext Iff.rfl
theorem Jab (i j : Int) : cbMax2 [.int i, .int j] μ Q X = Q (.v (.int (if j > i then j else i))) μ := propext Iff.rfl
theorem Ja0 (i : Int) : cbAbs [.int i] μ Q X = Q (.v (.int (if i < 0 then -i else i))) μ := propext Iff.rfl
theorem Ja9 (ds : List D) : cbList [.list ds] μ Q X = Q (.n (.list ds)) μ := propext Iff.rfl
theorem Jaa (ds : List D) : cbList [.tup ds] μ Q X = Q (.n (.list ds)) μ := propext Iff.rfl
theorem Jbg (ds : List D) : cbTup [.list ds] μ Q X = Q (.v (.tup ds)) μ := propext Iff.rfl
theorem Jbh (ds : List D) : cbTup [.tup ds] μ Q X = Q (.v (.tup ds)) μ := propext Iff.rfl
theorem Ja6 (a b : Bool) : oIsB (.bool a) (.bool b) μ Q X = Q (.v (.bool (decide (a = b)))) μ := propext Iff.rfl
theorem Jad (a b : Bool) : oNotB (.bool a) (.bool b) μ Q X = Q (.v (.bool (!decide (a = b)))) μ := propext Iff.rfl
end
end DL

set_option Elab.async false
set_option linter.all false
set_option maxRecDepth 100000
set_option maxHeartbeats 4000000
/-! A19: != of a list and [], of a tuple and (). -/
namespace GQ2
open PySem PySem.SeqAt
open AutoSeq1 (wpAny_loadPart')
open MeetsSeq MeetsSeq2 MeetsSeq3 SeqRoads2
section
variable {prog : Program} {w : World} {A : Around} {R : Result → Shared → Prop}
theorem list_ne0 (l b : Addr) {items items2 : Array Value} {n n2 : Nat} {s : Shared} (hl1 : s.heap.get? l = some { cls := .type "list", data := .seq items n }) (hb1 : s.heap.get? b = some { cls := .type "list", data := .seq items2 n2 })
    (h0 : items2.size = 0) (no : R (.ok (.ret (.bool (items.size != 0)))) s) :
    wpAny (model prog w) A.in1 (Builtin.«list.__ne__» ⟨[.ref l, .ref b], []⟩) (GQ.FinOf prog w A R) (fun e s' => R (.error e) s') s := by
  obtain ⟨hp, g, d, tk, os⟩ := s
  have f3 := AutoSeq1.sub_list_list
  by_cases e : items.size = 0
  · have e1 : items = #[] := Array.eq_empty_of_size_eq_zero e
    have e2 : items2 = #[] := Array.eq_empty_of_size_eq_zero h0
    subst e1 e2
    have hc0 : ¬ ((#[] : Array Value).size != (#[] : Array Value).size) = true := by simp
    wp_walk using wpAny_loadPart' hl1, wpAny_loadPart' hb1
    refine ⟨plainId_quiet plain_eq_loop _, codeAny_builtin entry_eq_loop ?_⟩
    rw [Around.under_plainId plain_eq_loop _]
    wp_walk using wpAny_loadPart' hl1, wpAny_loadPart' hb1
    exact no
  · have hc0 : (items.size != items2.size) = true := by simp [e, h0]
    wp_walk using wpAny_loadPart' hl1, wpAny_loadPart' hb1
    have e2 : (items.size != 0) = true := by simp [e]
    rw [e2] at no
    exact no
theorem tuple_ne0 (l b : Addr) (items items2 : Array Value) (n n2 : Nat) (dd dd2 : Option Addr) (sl sl2 : Array (Option Value)) (h0 : items2.size = 0)
    {s : Shared} (hl1 : s.heap.get? l = some { cls := .type "tuple", dict := dd, data := .seq items n, slots := sl }) (hb1 : s.heap.get? b = some { cls := .type "tuple", dict := dd2, data := .seq items2 n2, slots := sl2 }) (no : R (.ok (.ret (.bool (items.size != 0)))) s) :
    wpAny (model prog w) A.in1 (Builtin.«tuple.__ne__» ⟨[.ref l, .ref b], []⟩) (GQ.FinOf prog w A R) (fun e s' => R (.error e) s') s := by
  have f2 := AutoSeq1.sub_tuple_tuple
  have e2 : items2 = #[] := Array.eq_empty_of_size_eq_zero h0
  subst e2
  obtain ⟨hp, g, d, tk, os⟩ := s
  have hz : items.toList.zip (#[] : Array Value).toList = [] := by simp
  wp_walk using wpAny_loadPart' hl1, wpAny_loadPart' hb1, wpAny_forIn_list _ (fun rest b s' => b.1 = none ∧ rest = [] ∧ s' = ⟨hp, g, d, tk, os⟩) _
  case turn =>
    rintro x rest b s' ⟨_, z, _⟩
    cases z
  case fin =>
    rintro ⟨b1, b2⟩ s' ⟨hb', _, rfl⟩
    simp only at hb'
    subst hb'
    wp_walk
    simpa [Builtin.Tuple.tupleCompareSizes] using no
  case h => exact ⟨rfl, hz, rfl⟩
end
section
variable {prog : Program} {w : World} {A : Around} {E : Value → Shared → Prop} {s : Shared}
theorem rc_list0 {l b : Addr} {items items2 : Array Value} {n n2 : Nat} {Q : Value → Shared → Prop} (hu : A.units < cLine) (hl1 : s.heap.get? l = some { cls := .type "list", data := .seq items n }) (hb1 : s.heap.get? b = some { cls := .type "list", data := .seq items2 n2 })
    (h0 : items2.size = 0) (q : Q (.bool (items.size != 0)) s) : wpAny (model prog w) A (richCompare .NotEq (.ref l) (.ref b)) Q E s := by
  refine wpAny_richCompare_same_room (op := .NotEq) ⟨_, hl1, rfl⟩ ⟨_, hb1, rfl⟩ F.slot_list_ne (GQ.call_here F.slot_list_ne ⟨_, hl1, rfl⟩ F.entry_list_ne (F.args_list_ne_2 _ _) ?_) hu
  exact list_ne0 (R := wants (fun v s' => v ≠ .notImplemented ∧ Q v s') E) l b hl1 hb1 h0 ⟨(fun x => nomatch x), q⟩
theorem rc_tup0 {l b : Addr} {items items2 : Array Value} {Q : Value → Shared → Prop} (hu : A.units < cLine) (hl : s.heap.IsTuple l items) (hb : s.heap.IsTuple b items2)
    (h0 : items2.size = 0) (q : Q (.bool (items.size != 0)) s) : wpAny (model prog w) A (richCompare .NotEq (.ref l) (.ref b)) Q E s := by
  obtain ⟨⟨cls, dd, data, sl⟩, ho, hc, n, hd⟩ := id hl
  obtain ⟨⟨cls2, dd2, data2, sl2⟩, ho2, hc2, n2, hd2⟩ := id hb
  simp only at hc hd hc2 hd2
  subst hc hd hc2 hd2
  refine wpAny_richCompare_same_room (op := .NotEq) ⟨_, ho, rfl⟩ ⟨_, ho2, rfl⟩ F.slot_tuple_ne (GQ.call_here F.slot_tuple_ne ⟨_, ho, rfl⟩ F.entry_tuple_ne (F.args_tuple_ne_2 _ _) ?_) hu
  exact tuple_ne0 (R := wants (fun v s' => v ≠ .notImplemented ∧ Q v s') E) l b items items2 n n2 dd dd2 sl sl2 h0 ho ho2 ⟨(fun x => nomatch x), q⟩
end
end GQ2
namespace DL
open PySem PyProof.Rows L2
/-- x != [], x != () -/
def oNe0 : WOp := fun x y μ Q _ => match x with
  | .tup ds => (match y with
    | .tup [] => Q (.v (.bool (!ds.isEmpty))) μ
    | _ => False)
  | x => (match seqL μ x, y with
    | some ds, .list [] => Q (.v (.bool (!ds.isEmpty))) μ
    | _, _ => False)
theorem Jay (ds : List D) (μ : Mu) (Q : QR) (X : QD) : oNe0 (.list ds) (.list []) μ Q X = Q (.v (.bool (!ds.isEmpty))) μ := propext Iff.rfl
theorem Jaz (ds : List D) (μ : Mu) (Q : QR) (X : QD) : oNe0 (.tup ds) (.tup []) μ Q X = Q (.v (.bool (!ds.isEmpty))) μ := propext Iff.rfl
theorem ne0_len {α β : Type} {ds : List α} {its : List β} (h : ds.length = its.length) : (its.toArray.size != 0) = !ds.isEmpty := by
  rw [List.size_toArray, ← h]
  cases ds <;> simp
section
variable {X : Cx} {c : Ctx} {W : WX}
theorem w_ne0 (hu : X.A.units < cLine) (hK : X.K = c.K := by rfl) : Op2 X c W 0 (compareOp .NotEq) oNe0 := by
  intro pins sh σ H x y v u Q J rx ry h
  obtain ⟨S, F, m, I, μ, dx, dy, Qd, Xd, hl, w, ra, rb, h, q, x⟩ := h
  show wpAny (model X.prog X.w) X.A (richCompare .NotEq v u) (EP X pins σ Q) X.xe sh
  have lst : ∀ ds, seqL μ dx = some ds → dy = .list [] → Qd (.v (.bool (!ds.isEmpty))) μ → wpAny (model X.prog X.w) X.A (richCompare .NotEq v u) (EP X pins σ Q) X.xe sh := fun ds e1 e2 hq => by
    subst e2
    obtain ⟨l, xs, rfl, h1, r1⟩ := seqL_rep w ra e1
    cases rb with
    | list g2 r2 =>
      cases rx
      cases ry
      obtain ⟨its, n, r3, e3, _⟩ := J.lst h1
      obtain ⟨its2, n2, r4, e4, _⟩ := J.lst (w.lst g2)
      cases r2
      cases r4
      refine GQ2.rc_list0 hu e3 e4 rfl ?_
      rw [ne0_len (r1.length.trans r3.length)]
      exact ⟨.bl _, H, J, rfl, q _ μ _ I H hq (Same.refl I) w .bool⟩
  cases dx with
  | tup ds =>
    cases dy with
    | tup es =>
      cases es with
      | nil =>
        cases ra with
        | tup g1 r1 =>
          cases rb with
          | tup g2 r2 =>
            cases rx
            cases ry
            obtain ⟨its, r3, e3, _⟩ := J.tuple (hK ▸ w.tupH g1)
            obtain ⟨its2, r4, e4, _⟩ := J.tuple (hK ▸ w.tupH g2)
            cases r2
            cases r4
            refine GQ2.rc_tup0 hu e3 e4 rfl ?_
            rw [ne0_len (r1.length.trans r3.length)]
            exact ⟨.bl _, H, J, rfl, q _ μ _ I H h (Same.refl I) w .bool⟩
      | cons _ _ => exact h.elim
    | _ => exact h.elim
  | list ds =>
    cases dy with
    | list es =>
      cases es with
      | nil => exact lst ds rfl rfl h
      | cons _ _ => exact h.elim
    | _ => exact h.elim
  | cell p =>
    cases e : seqL μ (.cell p) with
    | none =>
      simp only [oNe0, e] at h
    | some ds =>
      simp only [oNe0, e] at h
      cases dy with
      | list es =>
        cases es with
        | nil => exact lst ds e rfl h
        | cons _ _ => exact h.elim
      | _ => exact h.elim
  | _ => exact h.elim
end
end DL

set_option Elab.async false
set_option linter.all false
set_option maxRecDepth 100000
/-! A20: zip of two tuples. -/
namespace DL
open PySem L2
section
variable {X : Cx} {c : Ctx} {W : WX} {k ka kb : Nat} {a b tg : Expr} {wa : WE} {pos p : Pos} {es : List Expr} {wr : WA} {m : Bool}
end
end DL

set_option Elab.async false
set_option linter.all false
set_option maxRecDepth 100000
/-! A21: repr of plain data with great numbers. -/
namespace PySem
open Sem (wp)
open Builtin Builtin.Str Builtin.Int
/-- no limit of figures was set -/
def DigOk (h : Heap) : Prop := ∀ M : Model, PySem.W.Looks M h (nsGet cStatics "sys.int_max_str_digits") none
theorem DigOk.keeps {h h' : Heap} (x : DigOk h) (k : ∀ b o, h.get? b = some o → h'.get? b = some o) : DigOk h' := fun M => (x M).keeps k
theorem digits_ok {M : Model} {A : Around} {E : Value → Shared → Prop} {s : Shared} {a : Int} {Q : Option Nat → Shared → Prop} (hn : DigOk s.heap) (ha : a.natAbs.log2 < 12900) (h : Q none s) : wpAny M A (Builtin.overDigitLimit? a) Q E s := by
  unfold Builtin.overDigitLimit?
  by_cases hs : a.natAbs.log2 < 1920
  · rw [if_pos hs]
    exact wpAny_pure h
  · rw [if_neg hs]
    unfold Builtin.intMaxStrDigits
    refine wpAny_bind (wpAny_bind (hn M A _ _ s (fun _ _ e => e) ?_))
    refine wpAny_pure ?_
    dsimp only
    rw [if_neg (by omega), if_pos (by simp; omega)]
    exact wpAny_pure h
theorem gives_int_reprB {a : Int} (t : Tok) (ha : a.natAbs.log2 < 12900) : GivesAt (fun s => DigOk s.heap) («int.__repr__» ⟨[.int a t], []⟩) (.str (toString a)) := by
  intro prog w A R s hP h
  unfold «int.__repr__»
  show wpAny _ _ (do let r ← overDigitLimit? a; _) _ _ s
  refine wpAny_bind (digits_ok hP ha ?_)
  exact wpAny_bind (wpAny_mkStr (wpAny_pure h.2) h.1)
section
variable {prog : Program} {w : World} {A : Around} {E : Value → Shared → Prop} {s : Shared}
theorem pyReprObj_intB {a : Int} {t : Tok} {Q : Value → Shared → Prop} (hn : DigOk s.heap) (ha : a.natAbs.log2 < 12900) (hx : (Str.ofString (toString a)).length ≤ sizeLine) (h : Q (.str (toString a) s.toks) { s with toks := s.toks + 1 }) : wpAny (model prog w) A (pyReprObj (.int a t)) Q E s := by
  have hv : [Value.int a t].any Value.onHeap = false := rfl
  unfold pyReprObj
  simp only [cRoomFor, hv, Bool.false_eq_true, if_false, pure_bind]
  refine wpAny_bind (wpAny_specialOf (name := Str.ofString "__repr__") (typeIs_int s a t) F.slot_int_repr.lookup ?_)
  refine wpAny_bind (m := callSpecialIfBound? (.int a t) (Str.ofString "__repr__")) (wpAny_callSpecialIfBound?_slot (name := Str.ofString "__repr__") (typeIs_int s a t) F.slot_int_repr (call_givesAt F.slot_int_repr (typeIs_int s a t) F.entry_int_repr (F.args_int_repr_1 _) (gives_int_reprB t ha) hn ⟨hx, ?_⟩))
  exact wpAny_bind (wpAny_isInstance (T := "str") (b := true) rfl isSubtype_str_str (wpAny_pure h))
theorem repr_of_intB {a : Int} {t : Tok} {Q : Value → Shared → Prop} (hn : DigOk s.heap) (ha : a.natAbs.log2 < 12900) (hx : (Str.ofString (toString a)).length ≤ sizeLine) (h : Q (.str (toString a) s.toks) { s with toks := s.toks + 1 }) : wpAny (model prog w) A (call (.builtin "repr") [.int a t]) Q E s := by
  have hv : [Value.int a t].any Value.onHeap = false := rfl
  refine Calls.call_function_entry F.kind_repr F.plain_repr F.entry_repr (F.args_repr1 _) ?_
  unfold Builtin.«repr»
  refine wpAny_bind (m := oneArg "repr" _) (wpAny_pure ?_)
  simp only [cRoomFor, hv, Bool.false_eq_true, if_false, pure_bind]
  refine wpAny_bind (wpAny_specialOf (name := Str.ofString "__repr__") (typeIs_int s a t) F.slot_int_repr.lookup ?_)
  refine wpAny_bind (m := callSpecialIfBound? (.int a t) (Str.ofString "__repr__")) (wpAny_callSpecialIfBound?_slot (name := Str.ofString "__repr__") (typeIs_int s a t) F.slot_int_repr (call_givesAt F.slot_int_repr (typeIs_int s a t) F.entry_int_repr (F.args_int_repr_1 _) (gives_int_reprB t ha) hn ⟨hx, ?_⟩))
  refine wpAny_bind (wpAny_isInstance (T := "str") (b := true) rfl isSubtype_str_str ?_)
  exact wpAny_pure ⟨_, rfl, h⟩
end
section
variable {prog : Program} {w : World} {h₀ : Heap}
theorem ReprK.intB {a : Int} (t : Tok) (hn : DigOk h₀) (ha : a.natAbs.log2 < 12900) (hx : (Str.ofString (toString a)).length ≤ sizeLine) (as : List Addr) (d : Nat) : ReprK prog w as h₀ d (.int a t) (toString a) := fun n hnn A g E s Q _ _ _ hk h => by
  have hn' : n ≤ sizeLine := by omega
  rw [pyReprUnder_leaf (v := .int a t) hn' (fun _ e => nomatch e)]
  unfold pyRepr
  exact wpAny_bind (pyReprObj_intB (hn.keeps hk) ha hx (wpAny_pure (h s.heap _ fun _ _ e => e)))
end
namespace PyData
mutual
/-- numbers of up to about 3880 figures; no dicts -/
def big : PyData → Bool
  | .none | .bool _ | .str _ => true
  | .int i => decide (i.natAbs.log2 < 12900)
  | .list xs | .tuple xs => bigAll xs
  | .dict _ => false
def bigAll : List PyData → Bool
  | [] => true
  | x :: xs => big x && bigAll xs
end
end PyData
section
variable {prog : Program} {w : World} {h₀ : Heap}
mutual
theorem ReprK.of_readsB (dg : DigOk h₀) : ∀ {v : Value} {d : PyData} {as : List Addr}, Reads h₀ v d as → d.big = true → d.shown.length ≤ sizeLine → ∃ bs, ReadAtMost h₀ d.depth bs ∧ ReprK prog w bs h₀ d.depth v d.shown
  | _, _, _, .none, _, _ => ⟨[], (fun _ h => nomatch h), by simp only [PyData.shown]; exact .of_is ReprIs.none _ _ _⟩
  | _, _, _, .bool b, _, _ => ⟨[], (fun _ h => nomatch h), by simp only [PyData.shown]; exact .of_is (ReprIs.bool b) _ _ _⟩
  | _, _, _, .int i t, hs, hz => ⟨[], (fun _ h => nomatch h), by simp only [PyData.shown] at hz ⊢; exact ReprK.intB t dg (by simpa [PyData.big] using hs) hz _ _⟩
  | _, _, _, .str x t, _, hz => ⟨[], (fun _ h => nomatch h), by simp only [PyData.shown]; exact .of_is (ReprIs.str x t (by simpa only [PyData.shown] using hz)) _ _ _⟩
  | _, _, _, .list (a := a) (vs := vs) (xs := xs) h1 h2 h3 h4, hs, hz => by
    have hz' : (listText (PyData.shownAll xs)).length ≤ sizeLine := by simpa only [PyData.shown] using hz
    obtain ⟨bs, hb, hk⟩ := ReprAllK.of_readsAllB dg h4 (by simpa [PyData.big] using hs) (fun t ht => Nat.le_trans (listText_mem_le ht) hz')
    have r : Reads h₀ (.ref a) (.list xs) _ := .list h1 h2 h3 h4
    have hna : a ∉ bs := not_mem_of_deeper r (by simp only [PyData.depth]; omega) hb
    refine ⟨a :: bs, ReadAtMost.cons r (by simp only [PyData.depth]; omega) hb, ?_⟩
    simp only [PyData.depth, PyData.shown]
    obtain ⟨l⟩ := vs
    cases l with
    | nil =>
      have h4' : ReadsAll h₀ [] xs _ := h4
      cases h4'
      simp only [PyData.shownAll, listText_nil]
      exact ReprK.listEmpty h1 h2 h3
    | cons x l => exact ReprK.list h1 h2 h3 hna (by simpa using hk.length_eq) (fun i y e => hk.item i y (by simpa using e))
  | _, _, _, .tuple (a := a) (xs := xs) h1 h2 h3 h4, hs, hz => by
    have hz' : (tupleText (PyData.shownAll xs)).length ≤ sizeLine := by simpa only [PyData.shown] using hz
    obtain ⟨bs, hb, hk⟩ := ReprAllK.of_readsAllB dg h4 (by simpa [PyData.big] using hs) (fun t ht => Nat.le_trans (tupleText_mem_le ht) hz')
    have r : Reads h₀ (.ref a) (.tuple xs) _ := .tuple h1 h2 h3 h4
    have hna : a ∉ bs := not_mem_of_deeper r (by simp only [PyData.depth]; omega) hb
    refine ⟨a :: bs, ReadAtMost.cons r (by simp only [PyData.depth]; omega) hb, ?_⟩
    simp only [PyData.depth, PyData.shown]
    exact ReprK.tuple h1 h2 h3 hna hk
  | _, _, _, .dict h1 h2 h3 h4 h5, hs, _ => by simp [PyData.big] at hs
theorem ReprAllK.of_readsAllB (dg : DigOk h₀) : ∀ {vs : List Value} {ds : List PyData} {as : List Addr}, ReadsAll h₀ vs ds as → PyData.bigAll ds = true → (∀ t ∈ PyData.shownAll ds, t.length ≤ sizeLine) →
    ∃ bs, ReadAtMost h₀ (PyData.depthAll ds) bs ∧ ReprAllK prog w bs h₀ (PyData.depthAll ds) vs (PyData.shownAll ds)
  | _, _, _, .nil, _, _ => ⟨[], (fun _ h => nomatch h), by simp only [PyData.shownAll]; exact .nil⟩
  | _, _, _, .cons (d := d) (ds := ds) r rs, hs, hz => by
    have hs' : d.big = true ∧ PyData.bigAll ds = true := by simpa [PyData.bigAll] using hs
    obtain ⟨b1, hb1, k1⟩ := ReprK.of_readsB dg r hs'.1 (hz _ (by simp only [PyData.shownAll]; exact List.mem_cons_self ..))
    obtain ⟨b2, hb2, k2⟩ := ReprAllK.of_readsAllB dg rs hs'.2 (fun t ht => hz t (by simp only [PyData.shownAll]; exact List.mem_cons_of_mem _ ht))
    refine ⟨b1 ++ b2, ?_, ?_⟩
    · intro b hm
      simp only [PyData.depthAll]
      rcases List.mem_append.mp hm with hm | hm
      · obtain ⟨d', as', r', hd'⟩ := hb1 b hm
        exact ⟨d', as', r', Nat.le_trans hd' (Nat.le_max_left _ _)⟩
      · obtain ⟨d', as', r', hd'⟩ := hb2 b hm
        exact ⟨d', as', r', Nat.le_trans hd' (Nat.le_max_right _ _)⟩
    · simp only [PyData.depthAll, PyData.shownAll]
      exact .cons ((k1.more fun b hb => List.mem_append_left _ hb).level_le (Nat.le_max_left _ _)) (k2.more_le (fun b hb => List.mem_append_right _ hb) (Nat.le_max_right _ _))
end
variable {a : Addr} {d : PyData} {as : List Addr}
theorem showsBy_of_readsB (dg : DigOk h₀) (r : Reads h₀ (.ref a) d as) (hs : d.big = true) (hsz : d.shown.length ≤ sizeLine) : ∃ T idr, ShowsBy prog w h₀ a d T idr := by
  cases r with
  | list h1 h2 h3 h4 =>
    rename_i o vs n xs bs₀
    have hz' : (listText (PyData.shownAll xs)).length ≤ sizeLine := by simpa only [PyData.shown] using hsz
    obtain ⟨bs, hb, hk⟩ := ReprAllK.of_readsAllB (prog := prog) (w := w) dg h4 (by simpa [PyData.big] using hs) (fun t ht => Nat.le_trans (listText_mem_le ht) hz')
    have hna : a ∉ bs := not_mem_of_deeper (.list h1 h2 h3 h4) (by simp only [PyData.depth]; omega) hb
    refine ⟨"list", "list.__repr__", F.slot_list_repr.toG, F.slot_list_str, F.slot_list_format, fun s hk0 => ⟨o, hk0 _ _ h1, h2⟩, fun A E s Q hg hu hk0 hQ => ?_⟩
    simp only [PyData.depth] at hu
    simp only [PyData.shown] at hQ
    obtain ⟨l⟩ := vs
    cases l with
    | nil =>
      have h4' : ReadsAll h₀ [] xs _ := h4
      cases h4'
      simp only [PyData.shownAll, listText_nil] at hQ
      exact call_list_repr_empty ⟨o, hk0 _ _ h1, h2⟩ (hk0 _ _ h1) h3 (hQ s.heap _ _ fun _ _ e => e)
    | cons x l =>
      exact call_list_reprK h1 h2 h3 hna (by simpa using hk.length_eq) (fun i y e => hk.item i y (by simpa using e)) hg (fun b _ => Clear.nil b) hu hk0 hQ hz'
  | tuple h1 h2 h3 h4 =>
    rename_i o vs n xs
    have hz' : (tupleText (PyData.shownAll xs)).length ≤ sizeLine := by simpa only [PyData.shown] using hsz
    obtain ⟨bs, hb, hk⟩ := ReprAllK.of_readsAllB (prog := prog) (w := w) dg h4 (by simpa [PyData.big] using hs) (fun t ht => Nat.le_trans (tupleText_mem_le ht) hz')
    have hna : a ∉ bs := not_mem_of_deeper (.tuple h1 h2 h3 h4) (by simp only [PyData.depth]; omega) hb
    refine ⟨"tuple", "tuple.__repr__", F.slot_tuple_repr, F.slot_tuple_str, F.slot_tuple_format, fun s hk0 => ⟨o, hk0 _ _ h1, h2⟩, fun A E s Q hg hu hk0 hQ => ?_⟩
    simp only [PyData.depth] at hu
    simp only [PyData.shown] at hQ
    exact call_tuple_reprK h1 h2 h3 hna hk hg (fun b _ => Clear.nil b) hu hk0 hQ hz'
  | dict h1 h2 h3 h4 h5 => simp [PyData.big] at hs
variable {A : Around} {E : Value → Shared → Prop} {s : Shared} {Q : Value → Shared → Prop}
theorem repr_of_readsB (dg : DigOk h₀) (r : Reads h₀ (.ref a) d as) (hs : d.big = true) (hg : A.guards = some []) (hu : A.units + (d.depth + 1) < cLine) (hk0 : ∀ b o, h₀.get? b = some o → s.heap.get? b = some o)
    (hQ : ∀ h' u tk, (∀ b o, s.heap.get? b = some o → h'.get? b = some o) → Q (.str d.shown u) { s with heap := h', toks := tk })
    (hsz : d.shown.length ≤ sizeLine) : wpAny (model prog w) A (call (.builtin "repr") [.ref a]) Q E s := by
  obtain ⟨T, idr, S⟩ := showsBy_of_readsB (prog := prog) (w := w) dg r hs hsz
  exact call_repr_slot (by omega) (S.typeIs s hk0) S.slotRepr (S.call A.in1 E s _ hg (by show A.units + 1 + d.depth < cLine; omega) hk0 fun h' u tk hk => ⟨_, _, rfl, hQ h' u tk hk⟩)
end
end PySem
namespace DL
open PySem L2
structure ShB (L k : Nat) (p : PyData) : Prop where
  len : p.shown.length ≤ L
  dep : p.depth ≤ k
  can : p.big = true
def cbReprB : WC := fun xs μ Q _ => one xs fun x => plainD (drf μ x) = true ∧ ShB sizeLine 60 (pd (drf μ x)) ∧ Q (.v (.str (pd (drf μ x)).shown)) μ
section
variable {X : Cx} {c : Ctx} {W : WX}
def rReprB (K : PySem.W.Frag) : List V → Hp → VK → Prop := fun xs H Q => ∃ v p, xs = [v] ∧ Dp K H v p ∧ ShB sizeLine 60 p ∧ Q (.str p.shown) H
theorem call_reprB (hD : PySem.W.nsIn X.K cStatics "sys.int_max_str_digits" = some none) (gd : X.A.guards = some []) (hu : X.A.units + 64 < cLine) : CallR X (.builtin "repr") (rReprB X.K) := by
  intro pins s σ H xs us Q J r h
  obtain ⟨v, p, rfl, hp, sh, q⟩ := h
  obtain ⟨u, rfl, ru⟩ := vals1 r
  obtain ⟨as, rd⟩ := Dp.reads J p v u hp ru
  have dg : DigOk s.heap := fun M => PySem.W.looks_nsIn J.kIn hD
  have key : ∀ a, u = .ref a → wpAny (model X.prog X.w) X.A (call (.builtin "repr") [u]) (EP X pins σ Q) X.xe s := fun a e => by
    subst e
    exact repr_of_readsB dg rd sh.can gd (by have := sh.dep; omega) (fun _ _ z => z) (fun h' t tk kp => ⟨.str _, H, J.kept kp, ⟨t, rfl⟩, q⟩) sh.len
  cases hp with
  | non =>
    cases ru
    rw [PyData.shown_none] at q
    exact PySem.P.repr_of_none ⟨.str _, H, J.tok _, ⟨_, rfl⟩, q⟩
  | bl b =>
    cases ru
    rw [PyData.shown_bool] at q
    exact PySem.P.repr_of_bool ⟨.str _, H, J.tok _, ⟨_, rfl⟩, q⟩
  | int i =>
    obtain ⟨t, rfl⟩ := ru
    have hx := sh.len
    rw [PyData.shown_int] at q hx
    exact repr_of_intB dg (by have := sh.can; simpa [PyData.big] using this) hx ⟨.str _, H, J.tok _, ⟨_, rfl⟩, q⟩
  | str x =>
    obtain ⟨t, rfl⟩ := ru
    have := sh.len
    rw [PyData.shown_str] at q this
    exact PySem.P.repr_of_str ⟨.str _, H, J.tok _, ⟨_, rfl⟩, q⟩ this
  | lst g r2 => exact key _ ru
  | tup g r2 => exact key _ ru
theorem w_reprB (hD : PySem.W.nsIn X.K cStatics "sys.int_max_str_digits" = some none) (gd : X.A.guards = some []) (hu : X.A.units + 64 < cLine) (hK : X.K = c.K := by rfl) : CbW X c (.builtin "repr") cbReprB := by
  obtain ⟨K, cl, tb, ns, es0⟩ := c
  cases hK
  refine cbw_of (call_reprB hD gd hu) fun S F n I μ ds vs H Qd Xd Q w rs h q => ?_
  obtain ⟨x, rfl, h1, h2, h3⟩ := one_cases h
  obtain ⟨v, rfl, rv⟩ := reps1 rs
  exact ⟨v, _, rfl, drf_dp w rv h1, h2, q _ μ _ I H h3 (Same.refl I) w .str⟩
end
end DL

set_option Elab.async false
set_option linter.all false
set_option maxRecDepth 100000
set_option maxHeartbeats 4000000
/-! A22: tuple * int, whatever the int. -/
namespace L2
open PySem PySem.Spec PyProof.Rows
section
variable {X : Cx}
end
end L2
namespace DL
open PySem L2
section
variable {X : Cx} {c : Ctx} {W : WX}
end
end DL

set_option Elab.async false
set_option linter.all false
set_option maxRecDepth 100000
set_option maxHeartbeats 4000000
/-! A23: o.f, p.g = x, y. -/
namespace L2
open PySem PySem.Spec PyProof.Rows
end L2
namespace DL
open PySem PyProof.Rows L2
section
variable {X : Cx} {c : Ctx} {W : WX} {k ka kb kc ko : Nat} {a b o o2 v : Expr} {wo wo2 wv : WE} {pos pos1 pos2 pos3 : Pos} {n n2 f f2 : Str}
end
end DL

set_option Elab.async false
set_option linter.all false
set_option maxRecDepth 100000
set_option maxHeartbeats 4000000
/-! A24: x in a list or a tuple of plain data. -/
namespace L2
open PySem PySem.Spec PyProof.Rows
section
variable {X : Cx}
end
end L2
namespace DL
open PySem PyProof.Rows L2
section
variable {X : Cx} {c : Ctx} {W : WX}
end
end DL

set_option Elab.async false
set_option linter.all false
set_option maxRecDepth 100000
set_option maxHeartbeats 4000000
/-! A25: dicts of texts that change: {k: v, k: v, k: v}, d[k], d[k] = v; x += y of an own class. -/
namespace L2
open PySem PySem.Spec PyProof.Rows PySem.W
end L2
namespace DL
open PySem PyProof.Rows L2
variable [Gds]
theorem units1 {a b : Nat} (h : a + 64 < b) : a + 1 < b := by omega
/-- a dict of texts as a cell -/
def ndK : Option Nd → Option (List Key × List D)
  | some (.dk ks ds) => some (ks, ds)
  | _ => Option.none
theorem ndK_some {x : Option Nd} {ks : List Key} {ds : List D} (h : ndK x = some (ks, ds)) : x = some (.dk ks ds) := by
  unfold ndK at h
  split at h
  · cases h
    rfl
  · cases h
def getK (k : Key) : List Key → List D → Option D
  | j :: ks, d :: ds => if j = k then some d else getK k ks ds
  | _, _ => Option.none
/-- a key that stands gets another value -/
def setK (k : Key) (d : D) (ks : List Key) (ds : List D) : List D := List.zipWith (fun j x => if j = k then d else x) ks ds
theorem getK_rep {c : Ctx} {S : Option SA} {I : Hp} {k : Key} {d : D} : ∀ {ks : List Key} {ds : List D} {xs : List V}, Reps c S I ds xs → getK k ks ds = some d → ∃ x, valV (List.zip ks xs) k = some x ∧ Rep c S I d x
  | [], _, _, _, h => by simp [getK] at h
  | _ :: _, _, _, .nil, h => by simp [getK] at h
  | j :: ks, _, _, .cons (xs := xs) r rs, h => by
    rw [getK] at h
    by_cases e : j = k
    · rw [if_pos e] at h
      cases h
      exact ⟨_, valV_pos e, r⟩
    · rw [if_neg e] at h
      obtain ⟨x, h1, h2⟩ := getK_rep rs h
      exact ⟨x, by rw [← h1]; simp [valV, List.find?_cons, e], h2⟩
theorem setK_rep {c : Ctx} {S : Option SA} {I : Hp} {k : Key} {d : D} {v : V} (q : Rep c S I d v) : ∀ {ks : List Key} {ds : List D} {xs : List V}, Reps c S I ds xs → Reps c S I (setK k d ks ds) (List.zipWith (fun j x => if j = k then v else x) ks xs)
  | [], _, _, _ => by simp [setK]; exact .nil
  | _ :: _, _, _, .nil => by simp [setK]; exact .nil
  | j :: ks, _, _, .cons r rs => by
    have ih := setK_rep (k := k) q (ks := ks) rs
    unfold setK at ih ⊢
    rw [List.zipWith_cons_cons, List.zipWith_cons_cons]
    by_cases e : j = k
    · rw [if_pos e, if_pos e]
      exact .cons q ih
    · rw [if_neg e, if_neg e]
      exact .cons r ih
theorem putK_zip {k : Key} {v : V} (ks : List Key) (xs : List V) (hl : ks.length = xs.length) (hk : k ∈ ks) : putK (List.zip ks xs) k v = List.zip ks (List.zipWith (fun j x => if j = k then v else x) ks xs) := by
  have h1 : ((List.zip ks xs).any fun kv => decide (kv.1 = k)) = true := by
    rw [List.any_eq_true]
    obtain ⟨i, hi⟩ := List.getElem?_of_mem hk
    have hlt := (List.getElem?_eq_some_iff.mp hi).1
    refine ⟨(k, xs[i]'(by omega)), ?_, by simp⟩
    refine List.mem_of_getElem? (i := i) ?_
    rw [List.getElem?_zip_eq_some]
    exact ⟨hi, List.getElem?_eq_getElem (by omega)⟩
  unfold putK
  rw [if_pos h1]
  clear h1 hk
  induction ks generalizing xs with
  | nil => simp
  | cons j ks ih =>
    cases xs with
    | nil => simp
    | cons x xs =>
      simp only [List.zip_cons_cons, List.map_cons, List.zipWith_cons_cons]
      rw [ih xs (by simpa using hl)]
      by_cases e : j = k
      · rw [if_pos e, if_pos e]
      · rw [if_neg e, if_neg e]
/-- d[k] of a cell -/
def wDGet (k : Str) (o : WE) : WE := fun e μ Q X => o e μ (fun x μ1 => match x with
  | .cell p => (match ndK (μ1 p) with
    | some (ks, ds) => (match getK (Sum.inr k) ks ds with
      | some d => Q d μ1
      | Option.none => False)
    | Option.none => False)
  | _ => False) X
/-- d[k] = v of a cell that has the key -/
def wDPut (k : Str) (o v : WE) : WS := fun e μ E => v e μ (fun d μ1 => o e μ1 (fun x μ2 => match x with
  | .cell p => (match ndK (μ2 p) with
    | some (ks, ds) => (Sum.inr k) ∈ ks ∧ ks.length < 1000 ∧ E.nx e (up μ2 p (.dk ks (setK (Sum.inr k) d ks ds)))
    | Option.none => False)
  | _ => False) fun d μ1 => E.xp d e μ1) fun d μ1 => E.xp d e μ1
/-- {k1: a, k2: b, k3: d} -/
def wDisp3 (m : Bool) (k1 k2 k3 : Str) (a b d : WE) : WE := fun e μ Q X => a e μ (fun x μ1 => b e μ1 (fun y μ2 => d e μ2 (fun z μ3 => sett m Q (.n (.dk [Sum.inr k1, Sum.inr k2, Sum.inr k3] [x, y, z])) μ3) X) X) X
section
variable {X : Cx} {c : Ctx} {W : WX} {k ka kb kc ko kf : Nat} {a b d o v : Expr} {wa wb wd wo wv : WE} {m : Bool} {pos pos' p1 p2 p3 : Pos} {q1 q2 q3 : Nat} {key k1 k2 k3 : Str}
theorem g_dget (hu : X.A.units + 1 < cLine) (ho : GE X c W k o wo) (hs : NoSl (.Constant (.str key) q1 p1) := by exact fun _ _ => rfl) : GE X c W k (.Subscript o (.Constant (.str key) q1 p1) pos) (wDGet key wo) := L2.PE.imp (pe_dget hu ho pe_str hs) fun σ H Q h => by
  obtain ⟨S, F, n, I, μ, e, Qd, Xd, hl, he, hw, h, q, x⟩ := h
  refine ⟨S, F, n, I, μ, e, _, Xd, hl, he, hw, h, fun dd μ1 u I1 H1 pa s1 w1 ra => ?_, x⟩
  dsimp only at pa
  split at pa
  · split at pa
    · rename_i pp _ ks ds e1
      split at pa
      · rename_i d0 e2
        cases ra
        obtain ⟨_, o2, r2, h2⟩ := w1.m _ _ (ndK_some e1)
        cases r2 with
        | @dk _ _ xs r2 l2 =>
          obtain ⟨y, h3, h4⟩ := getK_rep r2 e2
          refine ⟨_, y, rfl, ?_, q d0 μ1 y I1 H1 pa s1 w1 h4⟩
          rw [← h3]
          exact DGet.k (k := Sum.inr key) h2
      · exact pa.elim
    · exact pa.elim
  · exact pa.elim
theorem g_dput (hu : X.A.units + 1 < cLine) (ho : GE X c W ko o wo) (hv : GE X c W ka v wv) (hs : swapsWith v (some (.Subscript o (.Constant (.str key) q1 p1) pos')) pos.line X.env = pure false := by rfl) : GS X c W (ka + ko) (.Assign [.Subscript o (.Constant (.str key) q1 p1) pos'] v pos) (wDPut key wo wv) := L2.PS.imp (ps_dput hu ho pe_str hv hs) fun K σ H h => by
  obtain ⟨S, F', nn, I, μ, e, E, hl, he, hw, h, q⟩ := h
  refine ⟨S, F', nn, I, μ, e, _, _, by omega, he, hw, h, fun d μ1 v I1 H1 pa s1 w1 ra => ?_, (q.x he).mono (by omega) (Same.refl I)⟩
  refine ⟨S, F', nn + ka, I1, μ1, e, _, _, by omega, he.mono s1, w1, pa, fun d2 μ2 v2 I2 H2 pb s2 w2 rb => ?_, (q.x he).mono (by omega) s1⟩
  dsimp only at pb
  split at pb
  · split at pb
    · rename_i pp _ ks ds e1
      obtain ⟨hm, hz, pb⟩ := pb
      cases rb
      obtain ⟨_, o2, r2, h2⟩ := w2.m _ _ (ndK_some e1)
      cases r2 with
      | @dk _ _ xs r2 l2 =>
        have hl2 : (List.zip ks xs).length < sizeLine := by rw [List.length_zip, ← l2, Nat.min_self, sizeLine_eq]; omega
        refine ⟨_, _, rfl, .inl ⟨_, Sum.inr key, h2, rfl, hl2, rfl⟩, ?_⟩
        rw [putK_zip ks xs l2 hm]
        refine q.nx e _ σ I2 _ pb (s1.trans s2) (he.mono (s1.trans s2)) ((w2.put (ndK_some e1) (NdR.dk (setK_rep (ra.mono s2) r2) ?_)).up (by omega))
        rw [List.length_zipWith, ← l2, Nat.min_self]
    · exact pb.elim
  · exact pb.elim
theorem g_disp3 (h12 : k1 ≠ k2) (h13 : k1 ≠ k3) (h23 : k2 ≠ k3) (ha : GE X c W ka a wa) (hb : GE X c W kb b wb) (hd : GE X c W kc d wd) : GE X c W (ka + (kb + kc)) (.Dict [some (.Constant (.str k1) q1 p1), some (.Constant (.str k2) q2 p2), some (.Constant (.str k3) q3 p3)] [a, b, d] pos) (wDisp3 m k1 k2 k3 wa wb wd) :=
  L2.PE.imp (pe_disp (pps_cons pe_str ha (pps_cons pe_str hb (pps_cons pe_str hd pps_nil))) rfl rfl (fun z => nomatch z) (show 3 ≤ 15 by decide)) fun σ H Q h => by
    obtain ⟨S, F, n, I, μ, e, Qd, Xd, hl, he, hw, h, q, x⟩ := h
    intro p hp
    have fD := hw.fresh hp
    have nD := hw.no_cell hp
    have nF := hw.nf hp
    show ldE c W ka wa σ (upd H p (.dK [])) fun x H1 => ldE c W kb wb σ H1 fun y H2 => ldE c W kc wd σ H2 fun z H3 => H3 p = some (.dK []) ∧ ∃ kvs : List (Key × V), [(V.str k1, x), (V.str k2, y), (V.str k3, z)] = kvs.map (fun kv => (kV kv.1, kv.2)) ∧ kvs.length ≤ 15 ∧ Q (.ref p) (upd H3 p (.dK (mergeK [] kvs)))
    refine ⟨S, upd F p (.dK []), n, I, μ, e, _, Xd, by omega, he, (hw.frame hp).leave upd_same fD.1 fD.2 trivial nD, h, fun da μ1 va I1 H1 pa s1 w1 ra => ?_, leave_x nF (x.mono (by omega) (Same.refl I))⟩
    refine ⟨S, upd F p (.dK []), n + ka, I1, μ1, e, _, Xd, by omega, he.mono s1, w1, pa, fun db μ2 vb I2 H2 pb s2 w2 rb => ?_, leave_x nF (x.mono (by omega) s1)⟩
    refine ⟨S, upd F p (.dK []), n + ka + kb, I2, μ2, e, _, Xd, by omega, he.mono (s1.trans s2), w2, pb, fun dc μ3 vc I3 H3 pc s3 w3 rc => ?_, leave_x nF (x.mono (by omega) (s1.trans s2))⟩
    obtain ⟨h1, h2, h3, h4, h5⟩ := w3.f0 (b := p) upd_same fun _ _ z => nomatch z
    refine ⟨h1, [(Sum.inr k1, va), (Sum.inr k2, vb), (Sum.inr k3, vc)], rfl, (show 3 ≤ 15 by decide), ?_⟩
    have em : mergeK [] [((Sum.inr k1 : Key), va), (Sum.inr k2, vb), (Sum.inr k3, vc)] = List.zip [Sum.inr k1, Sum.inr k2, Sum.inr k3] [va, vb, vc] := by
      have n12 : ((Sum.inr k1 : Key) = Sum.inr k2) = False := by simp [h12]
      have n13 : ((Sum.inr k1 : Key) = Sum.inr k3) = False := by simp [h13]
      have n23 : ((Sum.inr k2 : Key) = Sum.inr k3) = False := by simp [h23]
      simp [mergeK, putK, n12, n13, n23, h12, h13, h23]
    rw [em]
    have w4 := w3.turn (u := .dK (List.zip [Sum.inr k1, Sum.inr k2, Sum.inr k3] [va, vb, vc])) trivial
    refine (q.sett (m := m)) _ μ3 _ I3 _ pc ((s1.trans s2).trans s3) ((w4.less fun b o e => ?_).up (by omega)) ⟨p, _, rfl, upd_same, NdR.dk (.cons (ra.mono (s2.trans s3)) (.cons (rb.mono s3) (.cons rc .nil))) rfl, h2, h3, h5, nF⟩
    rw [upd_ne (ne_of_none e nF)]
    exact e
end
end DL

set_option Elab.async false
set_option linter.all false
set_option maxRecDepth 100000
set_option maxHeartbeats 4000000
/-! A26: what an expression gives is frozen: from then on it never changes. -/
namespace DL
open PySem PyProof.Rows L2
/-- a cell that an expression gives is taken as plain data -/
def wFr (w : WE) : WE := fun e μ Q X => w e μ (fun d μ1 => match d with
  | .cell b => (match μ1 b with
    | some nd => Q nd.frz (del μ1 b)
    | Option.none => False)
  | d => Q d μ1) X
section
variable {X : Cx} {c : Ctx} {W : WX} {k : Nat} {a : Expr} {wa : WE}
theorem g_fr (ha : GE X c W k a wa) : GE X c W k a (wFr wa) := L2.PE.imp ha fun σ H Q h => by
  obtain ⟨S, F, n, I, μ, e, Qd, Xd, hl, he, hw, h, q, x⟩ := h
  refine ⟨S, F, n, I, μ, e, _, Xd, hl, he, hw, h, fun d μ1 v I1 H1 p s1 w1 r => ?_, x⟩
  dsimp only at p
  split at p
  · rename_i b
    split at p
    · rename_i nd hnd
      obtain ⟨o, r2, h0, hi, w2⟩ := w1.freeze hnd
      cases r
      have sm : Same I1 (upd I1 b o) := same_new hi
      exact q _ _ _ _ _ p (s1.trans sm) w2 ((r2.mono sm).frz upd_same)
    · exact p.elim
  · exact q _ _ _ _ _ p s1 w1 r
end
end DL

set_option Elab.async false
set_option linter.all false
set_option maxRecDepth 100000
set_option maxHeartbeats 4000000
/-! A27: != of tuples and lists that hold instances with an own ==. -/
namespace GQ2
open PySem PySem.SeqAt
open AutoSeq1 (wpAny_loadPart')
open MeetsSeq MeetsSeq2 MeetsSeq3 SeqRoads2
section
variable {prog : Program} {w : World} {A : Around} {R : Result → Shared → Prop}
end
section
variable {prog : Program} {w : World} {A : Around} {E : Value → Shared → Prop} {s : Shared}
end
end GQ2
namespace DL
open PySem PyProof.Rows L2
variable [Gds]
section
variable {X : Cx} {c : Ctx} {W : WX} {k m : Nat} {n : Str} {fs : List Str} {P : List D → Bool} {S : Option SA} {F : Hp} {μ : Mu}
end
end DL

set_option Elab.async false
set_option linter.all false
set_option maxRecDepth 100000
set_option maxHeartbeats 4000000
/-! A28: C(*x). -/
namespace DL
open PySem PySem.Spec PyProof.Rows L2
variable [Gds]
section
variable {X : Cx} {c : Ctx} {W : WX} {k kf ka : Nat} {a : Expr} {wa : WE} {n x : Str} {f : Addr} {fd : FuncData} {ps : List Str} {s : WP} {p sp_ pos : Pos}
end
end DL

set_option Elab.async false
set_option linter.all false
set_option maxRecDepth 100000
set_option maxHeartbeats 4000000
/-! M0: the mathematics of rows of numbers. -/
namespace M
/-- the value at x, the power 0 first -/
def ev : List Int → Int → Int
  | [], _ => 0
  | n :: ns, x => n + x * ev ns x
/-- without the zeros at the end -/
def trim : List Int → List Int
  | [] => []
  | n :: ns => if trim ns = [] ∧ n = 0 then [] else n :: trim ns
theorem trim_append_zero : ∀ ns : List Int, trim (ns ++ [0]) = trim ns
  | [] => by simp [trim]
  | n :: ns => by rw [List.cons_append, trim, trim, trim_append_zero ns]
theorem trim_len : ∀ ns : List Int, (trim ns).length ≤ ns.length
  | [] => Nat.le_refl _
  | n :: ns => by
    rw [trim]
    have := trim_len ns
    by_cases h : trim ns = [] ∧ n = 0
    · rw [if_pos h]; simp
    · rw [if_neg h, List.length_cons, List.length_cons]; omega
theorem trim_self : ∀ ns : List Int, (∀ h : ns ≠ [], ns.getLast h ≠ 0) → trim ns = ns
  | [], _ => rfl
  | [n], h => by
    have := h (by simp)
    rw [trim, trim]
    simp at this
    simp [this]
  | n :: m :: ns, h => by
    have ih := trim_self (m :: ns) fun h2 => by simpa using h (by simp)
    rw [trim, ih]
    simp
theorem trim_last : ∀ (ns : List Int) (h : trim ns ≠ []), (trim ns).getLast h ≠ 0
  | [], h => absurd rfl h
  | n :: ns, h => by
    have e : trim (n :: ns) = if trim ns = [] ∧ n = 0 then [] else n :: trim ns := rfl
    by_cases hc : trim ns = [] ∧ n = 0
    · rw [if_pos hc] at e
      exact absurd e h
    · rw [if_neg hc] at e
      by_cases h2 : trim ns = []
      · have hn : n ≠ 0 := fun z => hc ⟨h2, z⟩
        simp only [e, h2, List.getLast_singleton]
        exact hn
      · have ih := trim_last ns h2
        simp only [e]
        rw [List.getLast_cons h2]
        exact ih
theorem trim_trim (ns : List Int) : trim (trim ns) = trim ns := trim_self _ (trim_last ns)
theorem trim_mem {x : Int} : ∀ {ns : List Int}, x ∈ trim ns → x ∈ ns
  | [], h => h
  | n :: ns, h => by
    rw [trim] at h
    by_cases hc : trim ns = [] ∧ n = 0
    · rw [if_pos hc] at h
      cases h
    · rw [if_neg hc] at h
      rcases List.mem_cons.mp h with e | e
      · rw [e]; exact List.mem_cons_self
      · exact List.mem_cons_of_mem _ (trim_mem e)
end M

set_option Elab.async false
set_option linter.all false
set_option maxRecDepth 100000
set_option maxHeartbeats 4000000
/-! M1: products and compositions of rows. -/
namespace M
end M

set_option Elab.async false
set_option linter.all false
set_option maxRecDepth 100000
set_option maxHeartbeats 4000000
/-! M2: rows by their values. -/
namespace M
def fact : Nat → Nat
  | 0 => 1
  | d + 1 => (d + 1) * fact d
/-- the bound of a value -/
def bd (g b : Nat) : Nat → Nat
  | 0 => 0
  | k + 1 => g + b * bd g b k
end M

set_option Elab.async false
set_option linter.all false
set_option maxRecDepth 100000
set_option maxHeartbeats 4000000
/-! M3: rows are what their values are; bounds of their numbers. -/
namespace M
/-! ### bounds -/
/-- numbers of so many bits -/
def Bt (b : Nat) (ns : List Int) : Prop := ∀ n ∈ ns, n.natAbs < 2 ^ b
theorem Bt.up {a b : Nat} {ns : List Int} (h : Bt a ns) (hb : a ≤ b) : Bt b ns := fun n hn => Nat.lt_of_lt_of_le (h n hn) (Nat.pow_le_pow_right (by decide) hb)
theorem Bt.trim {b : Nat} {ns : List Int} (h : Bt b ns) : Bt b (trim ns) := fun n hn => h n (trim_mem hn)
theorem Bt.nil {b : Nat} : Bt b [] := fun _ z => nomatch z
end M

set_option Elab.async false
set_option linter.all false
set_option maxRecDepth 100000
set_option maxHeartbeats 4000000
/-! P0: loops, by what stays. -/
namespace DL
open PySem L2
theorem for_inv {ok : Mu → Prop} {g : WG} {b : WS} {xs : List D} {e : EnvD} {μ : Mu} {E : WEnds} (P : Nat → EnvD → Mu → Prop) (h0 : P 0 e μ)
    (hs : ∀ i x e μ (N : EnvD → Mu → Prop), xs[i]? = some x → P i e μ → (∀ e' μ', P (i + 1) e' μ' → N e' μ') → ok μ ∧ g x e fun e1 => b e1 μ { nx := N, rt := E.rt, bk := E.nx, ct := N, xp := E.xp })
    (hd : ∀ e μ, P xs.length e μ → ok μ ∧ E.nx e μ) : goFor ok g b xs e μ E := by
  have key : ∀ (ys : List D) (i : Nat) (e : EnvD) (μ : Mu), xs.drop i = ys → i ≤ xs.length → P i e μ → goFor ok g b ys e μ E := by
    intro ys
    induction ys with
    | nil =>
      intro i e μ hy hi p
      have hl : xs.length ≤ i := List.drop_eq_nil_iff.mp hy
      have ei : i = xs.length := by omega
      subst ei
      exact hd e μ p
    | cons y ys ih =>
      intro i e μ hy hi p
      have hx : xs[i]? = some y := by
        have := List.getElem?_drop (xs := xs) (i := i) (j := 0)
        rw [hy] at this
        simpa using this.symm
      have hlt : i < xs.length := (List.getElem?_eq_some_iff.mp hx).1
      have hy2 : xs.drop (i + 1) = ys := by
        rw [← List.drop_drop, hy]
        rfl
      exact hs i y e μ (fun e2 μ2 => goFor ok g b ys e2 μ2 E) hx p fun e' μ' p' => ih (i + 1) e' μ' hy2 hlt p'
  exact key xs 0 e μ rfl (Nat.zero_le _) h0
theorem while_inv {t : WT} {b : WS} {E : WEnds} (P : Nat → EnvD → Mu → Prop)
    (hs : ∀ k e μ (N : EnvD → Mu → Prop), P k e μ → (∀ j e' μ', j < k → P j e' μ' → N e' μ') →
      t e μ (fun c μ1 => if c = true then b e μ1 { nx := N, rt := E.rt, bk := E.nx, ct := N, xp := E.xp } else E.nx e μ1) fun d μ1 => E.xp d e μ1) :
    ∀ (n k : Nat) (e : EnvD) (μ : Mu), k < n → P k e μ → goWhile t b n e μ E
  | 0, k, _, _, h, _ => absurd h (Nat.not_lt_zero k)
  | n + 1, k, e, μ, h, p => hs k e μ (fun e2 μ2 => goWhile t b n e2 μ2 E) p fun j e' μ' hj p' => while_inv P hs n j e' μ' (by omega) p'
theorem lc_inv {ok : Mu → Prop} {g : WG} {t : WT} {a : WE} {e : EnvD} {X : QD} {xs : List D} {μ : Mu} {Q : List D → Mu → Prop} (P : Nat → List D → Mu → Prop) (h0 : P 0 [] μ)
    (hs : ∀ i x acc μ (N : List D → Mu → Prop), xs[i]? = some x → P i acc μ → (∀ acc' μ', P (i + 1) acc' μ' → N acc' μ') → ok μ ∧ g x e fun e1 => t e1 μ (fun c μ1 => if c = true then a e1 μ1 (fun d μ2 => N (acc ++ [d]) μ2) X else N acc μ1) X)
    (hd : ∀ acc μ, P xs.length acc μ → ok μ ∧ Q acc μ) : goLc ok g t a e X xs [] μ Q := by
  have key : ∀ (ys : List D) (i : Nat) (acc : List D) (μ : Mu), xs.drop i = ys → i ≤ xs.length → P i acc μ → goLc ok g t a e X ys acc μ Q := by
    intro ys
    induction ys with
    | nil =>
      intro i acc μ hy hi p
      have hl : xs.length ≤ i := List.drop_eq_nil_iff.mp hy
      have ei : i = xs.length := by omega
      subst ei
      exact hd acc μ p
    | cons y ys ih =>
      intro i acc μ hy hi p
      have hx : xs[i]? = some y := by
        have := List.getElem?_drop (xs := xs) (i := i) (j := 0)
        rw [hy] at this
        simpa using this.symm
      have hlt : i < xs.length := (List.getElem?_eq_some_iff.mp hx).1
      have hy2 : xs.drop (i + 1) = ys := by
        rw [← List.drop_drop, hy]
        rfl
      exact hs i y acc μ (fun acc' μ2 => goLc ok g t a e X ys acc' μ2 Q) hx p fun acc' μ' p' => ih (i + 1) acc' μ' hy2 hlt p'
  exact key xs 0 [] μ rfl (Nat.zero_le _) h0
theorem atI0 {α : Type} (a : α) (l : List α) : atI (a :: l) 0 = some a := by
  unfold atI ixN
  rw [if_pos (by decide), if_pos (by show (0 : Int) < ((l.length + 1 : Nat) : Int); omega)]
  rfl
theorem atI1 {α : Type} (a b : α) (l : List α) : atI (a :: b :: l) 1 = some b := by
  unfold atI ixN
  rw [if_pos (by decide), if_pos (by show (1 : Int) < ((l.length + 1 + 1 : Nat) : Int); omega)]
  rfl
theorem atI2 {α : Type} (a b c : α) (l : List α) : atI (a :: b :: c :: l) 2 = some c := by
  unfold atI ixN
  rw [if_pos (by decide), if_pos (by show (2 : Int) < ((l.length + 1 + 1 + 1 : Nat) : Int); omega)]
  rfl
theorem atI3 {α : Type} (a b c d : α) (l : List α) : atI (a :: b :: c :: d :: l) 3 = some d := by
  unfold atI ixN
  rw [if_pos (by decide), if_pos (by show (3 : Int) < ((l.length + 1 + 1 + 1 + 1 : Nat) : Int); omega)]
  rfl
theorem atI4 {α : Type} (a b c d e : α) (l : List α) : atI (a :: b :: c :: d :: e :: l) 4 = some e := by
  unfold atI ixN
  rw [if_pos (by decide), if_pos (by show (4 : Int) < ((l.length + 1 + 1 + 1 + 1 + 1 : Nat) : Int); omega)]
  rfl
theorem ixN20 : ixN (0 + 1 + 1) 0 = some 0 := rfl
theorem ixN21 : ixN (0 + 1 + 1) 1 = some 1 := rfl
end DL

set_option Elab.async false
set_option linter.all false
set_option maxRecDepth 100000
set_option maxHeartbeats 4000000
/-! P1: what the defs of rules come to, plainly. -/
namespace DL
open PySem L2
def wp_is_list : WP := (wDef 1 1 (wRet (wCb false cbIsi (waCons (wV 0) (waCons (wTup (waCons (wK (.ty "list")) (waCons (wK (.ty "tuple")) waNil))) waNil)))))
def wp_is_number : WP := (wDef 1 1 (wRet (wAnd (wCb false cbIsi (waCons (wV 0) (waCons (wK (.ty "int")) waNil))) (wNot (wCb false cbIsi (waCons (wV 0) (waCons (wK (.ty "bool")) waNil)))))))
def numD : D → Bool
  | .int _ => true
  | _ => false
def listD (μ : Mu) (d : D) : Bool := (match tyD μ d with
  | some (.b "list") => true
  | some (.b "tuple") => true
  | _ => false)
section
variable {μ : Mu} {Q X : QD} {d : D}
theorem ty_num {t : TyD} (h : tyD μ d = some t) : isi1 t (.ty "int") = some (numD d || (match d with | .bool _ => true | _ => false)) ∧ isi1 t (.ty "bool") = some (match d with | .bool _ => true | _ => false) := by
  cases d with
  | cell p =>
    simp only [tyD] at h
    cases e : μ p with
    | none => rw [e] at h; cases h
    | some nd =>
      rw [e] at h
      cases nd <;> (cases h; constructor <;> rfl)
  | obj n fs ds => cases h; exact ⟨rfl, rfl⟩
  | err n fs ds => cases h; exact ⟨rfl, rfl⟩
  | _ => first | (cases h; exact ⟨rfl, rfl⟩) | cases h
theorem ok_is_number {t : TyD} (h : tyD μ d = some t) (q : Q (.bool (numD d)) μ) : wp_is_number [d] μ Q X := by
  obtain ⟨h1, h2⟩ := ty_num h
  unfold wp_is_number
  simp only [wDef, initE, wSeq, wNext, wAsg, wAsgG, wDrop, wRet, wRetN, wIfS, wPar, wAug, wSetL, wBreak, wCont, wgN, wgNil, wgCons, wgTup, wiSeq, wiRng1, wiRng2, wiEnum, wFor, wLc, wYes, wV, wK, wOp, wUn, wTup, wLst, wCb, wTst, wNotT, wAndT, wOrT, wIf, wAnd, wOr, wNot, waNil, waCons, waStar, wCall, wMeth, wProp, wFld, wSetF, wMake, wCallI, wRev, wSl, woNone, woSome, wLm, wRz, wRzA, wFz, wCaught, wErrF, wDict0, wLrng, gt, st, sett, one, two, int1, atI0, atI1, atI2, atI3, atI4, ixN20, ixN21, List.map_cons, List.map_nil, List.cons_append, List.nil_append, List.append_nil, List.length_cons, List.length_nil, List.replicate_succ, List.replicate_zero, Nat.add_one_sub_one]
  refine ⟨trivial, ?_⟩
  simp only [cbIsi, two, h, isiD, h1, h2, sett]
  cases d <;> simp_all [numD]
theorem ok_is_list {t : TyD} (h : tyD μ d = some t) (q : Q (.bool (listD μ d)) μ) : wp_is_list [d] μ Q X := by
  unfold wp_is_list
  simp only [wDef, initE, wSeq, wNext, wAsg, wAsgG, wDrop, wRet, wRetN, wIfS, wPar, wAug, wSetL, wBreak, wCont, wgN, wgNil, wgCons, wgTup, wiSeq, wiRng1, wiRng2, wiEnum, wFor, wLc, wYes, wV, wK, wOp, wUn, wTup, wLst, wCb, wTst, wNotT, wAndT, wOrT, wIf, wAnd, wOr, wNot, waNil, waCons, waStar, wCall, wMeth, wProp, wFld, wSetF, wMake, wCallI, wRev, wSl, woNone, woSome, wLm, wRz, wRzA, wFz, wCaught, wErrF, wDict0, wLrng, gt, st, sett, one, two, int1, atI0, atI1, atI2, atI3, atI4, ixN20, ixN21, List.map_cons, List.map_nil, List.cons_append, List.nil_append, List.append_nil, List.length_cons, List.length_nil, List.replicate_succ, List.replicate_zero, Nat.add_one_sub_one]
  refine ⟨trivial, by decide, ?_⟩
  simp only [cbIsi, two, h, isiD, sett]
  have e : isiN t [.ty "list", .ty "tuple"] = some (listD μ d) := by
    unfold listD
    rw [h]
    cases d with
    | cell p =>
      simp only [tyD] at h
      cases e : μ p with
      | none => rw [e] at h; cases h
      | some nd =>
        rw [e] at h
        cases nd <;> (cases h; rfl)
    | obj n fs ds => cases h; rfl
    | err n fs ds => cases h; rfl
    | _ => first | (cases h; rfl) | cases h
  rw [e]
  exact q
/-! ### sequences, however they stand -/
section
variable {QQ : QR} {ds : List D}
theorem len_sq (h : sqD μ d = some ds) : cbLen [d] μ QQ X = QQ (.v (.int ds.length)) μ := by
  cases d <;> simp_all [cbLen, one, sqD]
theorem ix_sq {i : Int} {x : D} (h : sqD μ d = some ds) (hi : atI ds i = some x) : oIx d (.int i) μ QQ X = QQ (.v x) μ := by
  cases d <;> simp_all [oIx, sqD]
theorem list_sq (h : sqD μ d = some ds) : cbList [d] μ QQ X = QQ (.n (.list ds)) μ := by simp [cbList, one, h]
theorem tup_sq (h : sqD μ d = some ds) : cbTup [d] μ QQ X = QQ (.v (.tup ds)) μ := by simp [cbTup, one, h]
/-- a slice, made a tuple -/
theorem sl_tup {lo hi : Option Int} {Q : QD} (h : sqD μ d = some ds) (hs : ∀ ns, d ≠ .script ns) (q : Q (.tup (cutD ds lo hi)) μ) : oSl d lo hi μ (sett false fun x μ1 => cbTup [x] μ1 (sett false Q) X) X := by
  cases d <;> simp_all [oSl, sqD, seqL, sett, cbTup, one, Nd.frz]
theorem atI_nat {α : Type} (xs : List α) (i : Nat) (h : i < xs.length) : atI xs (i : Int) = some xs[i] := by
  have e : ixN xs.length (i : Int) = some i := by
    unfold ixN
    simp [h]
  unfold atI
  rw [e]
  simp [h]
end
/-! ### rows -/
def wp_without_end : WP := (wDef 1 2 (wSeq (wAsg 1 (wCb false cbLen (waCons (wV 0) waNil)))
    (wSeq (wWhile (wAndT (wTst (wOp false oGt (wV 1) (wK (.int 0)))) (wTst (wOp false oEq (wOp false oIx (wV 0) (wOp false oSub (wV 1) (wK (.int 1)))) (wK (.int 0))))) (wAug 1 (fun i j => i - j) (wK (.int 1))))
    (wRet (wCb false cbTup (waCons (wSl false oSl (wV 0) woNone (woSome (wV 1))) waNil))))))
theorem iL_get (ns : List Int) (i : Nat) : (iL ns)[i]? = (ns[i]?).map D.int := by
  unfold iL
  rw [List.getElem?_map]
theorem iL_len (ns : List Int) : (iL ns).length = ns.length := by
  unfold iL
  rw [List.length_map]
theorem trim_take {ns : List Int} {k : Nat} (hk : k < ns.length) (h : ns[k]? = some 0) : M.trim (ns.take (k + 1)) = M.trim (ns.take k) := by
  have e : ns.take (k + 1) = ns.take k ++ [0] := by
    rw [List.take_succ, h]
    rfl
  rw [e, M.trim_append_zero]
theorem ok_without_end {ns : List Int} (h : sqD μ d = some (iL ns)) (hs : ∀ ns, d ≠ .script ns) (hl : ns.length ≤ 2 ^ 20) (q : Q (.tup (iL (M.trim ns))) μ) : wp_without_end [d] μ Q X := by
  unfold wp_without_end
  simp only [wDef, initE, wSeq, wNext, wAsg, wAsgG, wDrop, wRet, wRetN, wIfS, wPar, wAug, wSetL, wBreak, wCont, wgN, wgNil, wgCons, wgTup, wiSeq, wiRng1, wiRng2, wiEnum, wFor, wLc, wYes, wV, wK, wOp, wUn, wTup, wLst, wCb, wTst, wNotT, wAndT, wOrT, wIf, wAnd, wOr, wNot, waNil, waCons, waStar, wCall, wMeth, wProp, wFld, wSetF, wMake, wCallI, wRev, wSl, woNone, woSome, wLm, wRz, wRzA, wFz, wCaught, wErrF, wDict0, wLrng, gt, st, sett, one, two, int1, atI0, atI1, atI2, atI3, atI4, ixN20, ixN21, List.map_cons, List.map_nil, List.cons_append, List.nil_append, List.append_nil, List.length_cons, List.length_nil, List.replicate_succ, List.replicate_zero, Nat.add_one_sub_one]
  refine ⟨trivial, ?_⟩
  simp only [len_sq h, sett, wWhile, iL_len]
  refine ⟨ns.length + 1, by omega, while_inv (fun k e μ' => e = [some d, some (.int (k : Int))] ∧ μ' = μ ∧ k ≤ ns.length ∧ M.trim (ns.take k) = M.trim ns) ?_ _ _ _ _ (Nat.lt_succ_self _) ⟨rfl, rfl, Nat.le_refl _, by rw [List.take_length]⟩⟩
  rintro k e μ' N ⟨rfl, rfl, hk, ht⟩ hN
  simp only [wDef, initE, wSeq, wNext, wAsg, wAsgG, wDrop, wRet, wRetN, wIfS, wPar, wAug, wSetL, wBreak, wCont, wgN, wgNil, wgCons, wgTup, wiSeq, wiRng1, wiRng2, wiEnum, wFor, wLc, wYes, wV, wK, wOp, wUn, wTup, wLst, wCb, wTst, wNotT, wAndT, wOrT, wIf, wAnd, wOr, wNot, waNil, waCons, waStar, wCall, wMeth, wProp, wFld, wSetF, wMake, wCallI, wRev, wSl, woNone, woSome, wLm, wRz, wRzA, wFz, wCaught, wErrF, wDict0, wLrng, gt, st, sett, one, two, int1, atI0, atI1, atI2, atI3, atI4, ixN20, ixN21, List.map_cons, List.map_nil, List.cons_append, List.nil_append, List.append_nil, List.length_cons, List.length_nil, List.replicate_succ, List.replicate_zero, Nat.add_one_sub_one, oGt, oInt2, true_and]
  by_cases h0 : k = 0
  · subst h0
    have e0 : M.trim ns = [] := by rw [← ht]; rfl
    rw [if_neg (by decide), if_neg (by decide)]
    refine sl_tup h hs ?_
    have e : cutD (iL ns) none (some ((0 : Nat) : Int)) = iL (M.trim ns) := by
      rw [e0]
      unfold cutD
      rw [HT.sIx_nat, HT.sIx_none]
      simp [iL]
    rw [e]
    exact q
  · have hk1 : (0 : Int) < (k : Int) := by omega
    rw [if_pos (decide_eq_true hk1)]
    simp only [oSub, oInt2, true_and, sett]
    have e1 : ((k : Int) - 1) = ((k - 1 : Nat) : Int) := by omega
    have hlt : k - 1 < (iL ns).length := by rw [iL_len]; omega
    have hlt2 : k - 1 < ns.length := by omega
    rw [e1, ix_sq h (atI_nat (iL ns) (k - 1) hlt)]
    have e2 : (iL ns)[k - 1] = D.int ns[k - 1] := by simp [iL]
    rw [e2]
    simp only [sett, oEq, eqU]
    by_cases hz : ns[k - 1] = 0
    · rw [if_pos (decide_eq_true hz)]
      refine hN (k - 1) _ _ (by omega) ⟨rfl, rfl, by omega, ?_⟩
      have h3 := trim_take hlt2 (by rw [List.getElem?_eq_getElem hlt2, hz])
      rw [show k - 1 + 1 = k by omega] at h3
      rw [← h3]
      exact ht
    · rw [if_neg (by simp [hz])]
      refine sl_tup h hs ?_
      have e : cutD (iL ns) none (some ((k : Nat) : Int)) = iL (M.trim ns) := by
        have et : M.trim (ns.take k) = ns.take k := M.trim_self _ fun hne => by
          rw [List.getLast_take]
          simp [hz, List.getElem?_eq_getElem hlt2]
        rw [← ht, et]
        unfold cutD
        rw [HT.sIx_nat, HT.sIx_none]
        simp [iL, List.map_take, Nat.min_eq_left hk]
      rw [e]
      exact q
/-! ### rules -/
def wp_Rule___init__ : WP := (wDef 2 4 (wSeq (wIfS (wNotT (wTst (wCall wp_is_list [] (waCons (wV 1) waNil)))) (wRzA "BadRule" "at" (wK .none)) wNext)
    (wSeq (wFor (wiEnum (waCons (wV 1) waNil)) (wgTup 2 (wgCons (wgN 2) (wgCons (wgN 3) wgNil))) (wIfS (wNotT (wTst (wCall wp_is_number [] (waCons (wV 3) waNil)))) (wRzA "BadRule" "at" (wV 2)) wNext))
    (wSetF "Rule" "own_numbers" (wV 0) (wCall wp_without_end [] (waCons (wV 1) waNil))))))
def wp_row_value : WP := (wDef 2 4 (wSeq (wAsg 2 (wK (.int 0)))
    (wSeq (wFor (wiSeq (wRev false (wV 0))) (wgN 3) (wAsg 2 (wOp false oAdd (wOp false oMul (wV 2) (wV 1)) (wV 3))))
    (wRet (wV 2)))))
def wp_Rule___eq__ : WP := (wDef 2 2 (wRet (wAnd (wCb false cbIsi (waCons (wV 1) (waCons (wK (.cls "Rule")) waNil))) (wOp false oEq (wFld "Rule" "own_numbers" (wV 0)) (wFld "Rule" "own_numbers" (wV 1))))))
def ruleD (ns : List Int) : D := .obj "Rule" ["own_numbers"] [.tup (iL ns)]
theorem sq_up {p : Addr} {nd : Nd} {ds : List D} (h : sqD μ d = some ds) (hp : μ p = Option.none) : sqD (up μ p nd) d = some ds := by
  cases d with
  | cell a =>
    have ne : a ≠ p := fun z => by
      subst z
      simp [sqD, hp, ndL] at h
    simp only [sqD] at h ⊢
    rw [up_ne ne]
    exact h
  | _ => exact h
theorem ty_sq {ds : List D} (h : sqD μ d = some ds) (hs : ∀ ns, d ≠ .script ns) : ∃ t, tyD μ d = some t ∧ listD μ d = true := by
  cases d with
  | cell a =>
    simp only [sqD] at h
    have e := ndL_some h
    refine ⟨.b "list", ?_, ?_⟩ <;> simp [listD, tyD, ndTy, e]
  | tup ds => exact ⟨_, rfl, rfl⟩
  | list ds => exact ⟨_, rfl, rfl⟩
  | script ns => exact absurd rfl (hs ns)
  | _ => simp [sqD] at h
theorem okS_sq {ds : List D} (h : sqD μ d = some ds) : okS d ds μ := by
  cases d <;> first | trivial | exact h
theorem enum_iL {ns : List Int} {i : Nat} {x : D} (h : (enumD 0 (iL ns))[i]? = some x) : ∃ n, ns[i]? = some n ∧ x = .tup [.int (i : Int), .int n] := by
  rw [enumD_get, iL_get] at h
  cases e : ns[i]? with
  | none => rw [e] at h; cases h
  | some n =>
    rw [e] at h
    cases h
    exact ⟨n, rfl, by simp⟩
theorem ok_Rule_init {p : Addr} {ns : List Int} (h : sqD μ d = some (iL ns)) (hs : ∀ ns, d ≠ .script ns) (hp : μ p = Option.none) (hl : ns.length ≤ 2 ^ 20)
    (q : Q .none (up μ p (.obj "Rule" ["own_numbers"] [.tup (iL (M.trim ns))]))) : wp_Rule___init__ [.cell p, d] (up μ p (.obj "Rule" [] [])) Q X := by
  have h1 := sq_up (nd := .obj "Rule" [] []) h hp
  obtain ⟨t, h2, h3⟩ := ty_sq h1 hs
  unfold wp_Rule___init__
  simp only [wDef, initE, wSeq, wNext, wAsg, wAsgG, wDrop, wRet, wRetN, wIfS, wPar, wAug, wSetL, wBreak, wCont, wgN, wgNil, wgCons, wgTup, wiSeq, wiRng1, wiRng2, wiEnum, wFor, wLc, wYes, wV, wK, wOp, wUn, wTup, wLst, wCb, wTst, wNotT, wAndT, wOrT, wIf, wAnd, wOr, wNot, waNil, waCons, waStar, wCall, wMeth, wProp, wFld, wSetF, wMake, wCallI, wRev, wSl, woNone, woSome, wLm, wRz, wRzA, wFz, wCaught, wErrF, wDict0, wLrng, gt, st, sett, one, two, int1, atI0, atI1, atI2, atI3, atI4, ixN20, ixN21, List.map_cons, List.map_nil, List.cons_append, List.nil_append, List.append_nil, List.length_cons, List.length_nil, List.replicate_succ, List.replicate_zero, Nat.add_one_sub_one]
  refine ⟨trivial, ok_is_list h2 ?_⟩
  rw [h3]
  simp only [Bool.not_true, if_neg Bool.false_ne_true, h1]
  refine ⟨by rw [enumD_len, iL_len]; omega, for_inv (fun i e μ' => μ' = up μ p (.obj "Rule" [] []) ∧ ∃ a b, e = [some (.cell p), some d, a, b]) ⟨rfl, _, _, rfl⟩ ?_ ?_⟩
  · rintro i x e μ' N hx ⟨rfl, a, b, rfl⟩ hN
    obtain ⟨n, hn, rfl⟩ := enum_iL hx
    refine ⟨okS_sq h1, ?_⟩
    simp only [wDef, initE, wSeq, wNext, wAsg, wAsgG, wDrop, wRet, wRetN, wIfS, wPar, wAug, wSetL, wBreak, wCont, wgN, wgNil, wgCons, wgTup, wiSeq, wiRng1, wiRng2, wiEnum, wFor, wLc, wYes, wV, wK, wOp, wUn, wTup, wLst, wCb, wTst, wNotT, wAndT, wOrT, wIf, wAnd, wOr, wNot, waNil, waCons, waStar, wCall, wMeth, wProp, wFld, wSetF, wMake, wCallI, wRev, wSl, woNone, woSome, wLm, wRz, wRzA, wFz, wCaught, wErrF, wDict0, wLrng, gt, st, sett, one, two, int1, atI0, atI1, atI2, atI3, atI4, ixN20, ixN21, List.map_cons, List.map_nil, List.cons_append, List.nil_append, List.append_nil, List.length_cons, List.length_nil, List.replicate_succ, List.replicate_zero, Nat.add_one_sub_one]
    refine ⟨trivial, ok_is_number (t := .b "int") rfl ?_⟩
    exact hN _ _ ⟨rfl, _, _, rfl⟩
  · rintro e μ' ⟨rfl, a, b, rfl⟩
    refine ⟨okS_sq h1, ?_⟩
    simp only [wDef, initE, wSeq, wNext, wAsg, wAsgG, wDrop, wRet, wRetN, wIfS, wPar, wAug, wSetL, wBreak, wCont, wgN, wgNil, wgCons, wgTup, wiSeq, wiRng1, wiRng2, wiEnum, wFor, wLc, wYes, wV, wK, wOp, wUn, wTup, wLst, wCb, wTst, wNotT, wAndT, wOrT, wIf, wAnd, wOr, wNot, waNil, waCons, waStar, wCall, wMeth, wProp, wFld, wSetF, wMake, wCallI, wRev, wSl, woNone, woSome, wLm, wRz, wRzA, wFz, wCaught, wErrF, wDict0, wLrng, gt, st, sett, one, two, int1, atI0, atI1, atI2, atI3, atI4, ixN20, ixN21, List.map_cons, List.map_nil, List.cons_append, List.nil_append, List.append_nil, List.length_cons, List.length_nil, List.replicate_succ, List.replicate_zero, Nat.add_one_sub_one]
    refine ok_without_end h1 hs hl ?_
    simp only [up_same, ndO, putN, up_up]
    exact ⟨trivial, by decide, q⟩
/-- Rule(..) -/
theorem mk_Rule {Q X : QD} {ns : List Int} (h : sqD μ d = some (iL ns)) (hs : ∀ ns, d ≠ .script ns) (hl : ns.length ≤ 2 ^ 20) (q : Q (ruleD (M.trim ns)) μ) (p : Addr) (hp : μ p = Option.none) :
    wp_Rule___init__ [.cell p, d] (up μ p (.obj "Rule" [] [])) (fun r μ2 => r = .none ∧ (match μ2 p with
      | some nd => Q nd.frz (del μ2 p)
      | Option.none => False)) X := by
  refine ok_Rule_init h hs hp hl ⟨rfl, ?_⟩
  rw [up_same]
  show Q _ (del (up μ p _) p)
  rw [del_up hp]
  exact q
end
end DL

set_option Elab.async false
set_option linter.all false
set_option maxRecDepth 100000
set_option maxHeartbeats 4000000
/-! P2: rules at numbers, terms, equality. -/
namespace DL
open PySem L2
theorem ev_bits {b : Nat} {t : Int} (ht : t.natAbs < 2 ^ b) : ∀ {ns : List Int}, (∀ n ∈ ns, n.natAbs < 2 ^ b) → (M.ev ns t).natAbs < 2 ^ ((b + 1) * ns.length)
  | [], _ => by simp [M.ev]
  | n :: ns, h => by
    have ih := ev_bits ht (ns := ns) fun m hm => h m (List.mem_cons_of_mem _ hm)
    have hn := h n List.mem_cons_self
    have e : M.ev (n :: ns) t = n + t * M.ev ns t := rfl
    rw [e, List.length_cons, Nat.mul_add, Nat.mul_one, Nat.pow_add, Nat.pow_succ]
    have h1 := Int.natAbs_add_le n (t * M.ev ns t)
    rw [Int.natAbs_mul] at h1
    have h2 : t.natAbs * (M.ev ns t).natAbs ≤ 2 ^ b * 2 ^ ((b + 1) * ns.length) := Nat.mul_le_mul (Nat.le_of_lt ht) (Nat.le_of_lt ih)
    have h3 : 2 ^ b ≤ 2 ^ b * 2 ^ ((b + 1) * ns.length) := Nat.le_mul_of_pos_right _ (Nat.pow_pos (by decide))
    have h4 : 2 ^ ((b + 1) * ns.length) * (2 ^ b * 2) = 2 ^ b * 2 ^ ((b + 1) * ns.length) + 2 ^ b * 2 ^ ((b + 1) * ns.length) := by
      rw [Nat.mul_comm (2 ^ b) (2 ^ ((b + 1) * ns.length)), ← Nat.mul_assoc]
      omega
    omega
theorem mulU_of {i j : Int} {a b : Nat} (ha : i.natAbs < 2 ^ a) (hb : j.natAbs < 2 ^ b) (h : a + b ≤ 130000000) : CMulU i j :=
  .inl (mulx_ok ha hb (by omega))
section
variable {μ : Mu} {Q X : QD} {d : D}
/-- no number is greater -/
def HUGE : Nat := 2 ^ 16000000
theorem pow_huge {b : Nat} (h : b ≤ 16000000) : 2 ^ b ≤ HUGE := Nat.pow_le_pow_right (by decide) h
theorem mulU_huge {i j : Int} (hi : i.natAbs ≤ HUGE) (hj : j.natAbs ≤ HUGE) : CMulU i j :=
  have k : HUGE < 2 ^ 16000001 := Nat.pow_lt_pow_right (by decide) (by decide)
  mulU_of (a := 16000001) (b := 16000001) (Nat.lt_of_le_of_lt hi k) (Nat.lt_of_le_of_lt hj k) (by decide)
theorem rev_get {ns : List Int} {i : Nat} {x : D} (h : (iL ns).reverse[i]? = some x) : ∃ n, ns.reverse[i]? = some n ∧ x = .int n := by
  unfold iL at h
  rw [← List.map_reverse, List.getElem?_map] at h
  cases e : ns.reverse[i]? with
  | none => rw [e] at h; cases h
  | some n => rw [e] at h; cases h; exact ⟨n, rfl, rfl⟩
theorem iL_snoc (ns : List Int) (n : Int) : iL ns ++ [D.int n] = iL (ns ++ [n]) := by
  unfold iL
  rw [List.map_append]
  rfl
/-- the value of the last i numbers -/
def evR (ns : List Int) (t : Int) (i : Nat) : Int := M.ev ((ns.reverse.take i).reverse) t
theorem evR_succ {ns : List Int} {t n : Int} {i : Nat} (h : ns.reverse[i]? = some n) : evR ns t (i + 1) = evR ns t i * t + n := by
  unfold evR
  rw [List.take_succ, h]
  show M.ev ((ns.reverse.take i ++ [n]).reverse) t = _
  rw [List.reverse_append]
  show n + t * M.ev (ns.reverse.take i).reverse t = _
  rw [Int.mul_comm t, Int.add_comm]
theorem evR_all (ns : List Int) (t : Int) : evR ns t ns.length = M.ev ns t := by
  unfold evR
  rw [show ns.length = ns.reverse.length from (List.length_reverse).symm, List.take_length, List.reverse_reverse]
theorem evR_bits {ns : List Int} {t : Int} {b : Nat} (hn : ∀ n ∈ ns, n.natAbs < 2 ^ b) (ht : t.natAbs < 2 ^ b) (i : Nat) : (evR ns t i).natAbs < 2 ^ ((b + 1) * ns.length) := by
  have h := ev_bits ht (ns := (ns.reverse.take i).reverse) fun n h => hn n (by simpa using List.mem_of_mem_take (List.mem_reverse.mp h))
  refine Nat.lt_of_lt_of_le h (Nat.pow_le_pow_right (by decide) (Nat.mul_le_mul_left _ ?_))
  rw [List.length_reverse, List.length_take, List.length_reverse]
  exact Nat.min_le_right _ _
/-- the loop of both defs that tell a value -/
theorem horner_loop {ns : List Int} {t : Int} {b : Nat} {ok : Mu → Prop} {E : WEnds} {d0 : D} {a : Option D} (hn : ∀ n ∈ ns, n.natAbs < 2 ^ b) (ht : t.natAbs < 2 ^ b) (hb : (b + 1) * ns.length + b ≤ 40000000) (hok : ok μ)
    (q : ∀ x, E.nx [some d0, some (.int t), some (.int (M.ev ns t)), x] μ) : goFor ok (wgN 3) (wAsg 2 (wOp false oAdd (wOp false oMul (wV 2) (wV 1)) (wV 3))) (iL ns).reverse [some d0, some (.int t), some (.int 0), a] μ E := by
  refine for_inv (fun i e μ' => μ' = μ ∧ ∃ x, e = [some d0, some (.int t), some (.int (evR ns t i)), x]) ⟨rfl, _, rfl⟩ ?_ ?_
  · rintro i x e μ' N hx ⟨rfl, y, rfl⟩ hN
    obtain ⟨n, hn1, rfl⟩ := rev_get hx
    refine ⟨hok, ?_⟩
    simp only [wDef, initE, wSeq, wNext, wAsg, wAsgG, wDrop, wRet, wRetN, wIfS, wPar, wAug, wSetL, wBreak, wCont, wgN, wgNil, wgCons, wgTup, wiSeq, wiRng1, wiRng2, wiEnum, wFor, wLc, wYes, wV, wK, wOp, wUn, wTup, wLst, wCb, wTst, wNotT, wAndT, wOrT, wIf, wAnd, wOr, wNot, waNil, waCons, waStar, wCall, wMeth, wProp, wFld, wSetF, wMake, wCallI, wRev, wSl, woNone, woSome, wLm, wRz, wRzA, wFz, wCaught, wErrF, wDict0, wLrng, gt, st, sett, one, two, int1, atI0, atI1, atI2, atI3, atI4, ixN20, ixN21, List.map_cons, List.map_nil, List.cons_append, List.nil_append, List.append_nil, List.length_cons, List.length_nil, List.replicate_succ, List.replicate_zero, Nat.add_one_sub_one, oMul, oAdd]
    refine ⟨mulU_of (evR_bits hn ht i) ht (by omega), ?_⟩
    rw [← evR_succ hn1]
    exact hN _ _ ⟨rfl, _, rfl⟩
  · rintro e μ' ⟨rfl, y, rfl⟩
    refine ⟨hok, ?_⟩
    rw [List.length_reverse, iL_len, evR_all]
    exact q y
theorem ok_row_value {ns : List Int} {t : Int} {b : Nat} (hn : ∀ n ∈ ns, n.natAbs < 2 ^ b) (ht : t.natAbs < 2 ^ b) (hl : ns.length ≤ 2 ^ 20) (hb : (b + 1) * ns.length + b ≤ 40000000) (q : Q (.int (M.ev ns t)) μ) : wp_row_value [.tup (iL ns), .int t] μ Q X := by
  unfold wp_row_value
  simp only [wDef, initE, wSeq, wAsg, wK, wFor, wiSeq, wRev, wV, gt, st, sqD, List.map_cons, List.map_nil, List.cons_append, List.nil_append, List.length_cons, List.length_nil, List.replicate_succ, List.replicate_zero, Nat.add_one_sub_one]
  refine ⟨trivial, by rw [List.length_reverse, iL_len]; omega, horner_loop hn ht hb trivial fun x => ?_⟩
  simp only [wDef, initE, wSeq, wNext, wAsg, wAsgG, wDrop, wRet, wRetN, wIfS, wPar, wAug, wSetL, wBreak, wCont, wgN, wgNil, wgCons, wgTup, wiSeq, wiRng1, wiRng2, wiEnum, wFor, wLc, wYes, wV, wK, wOp, wUn, wTup, wLst, wCb, wTst, wNotT, wAndT, wOrT, wIf, wAnd, wOr, wNot, waNil, waCons, waStar, wCall, wMeth, wProp, wFld, wSetF, wMake, wCallI, wRev, wSl, woNone, woSome, wLm, wRz, wRzA, wFz, wCaught, wErrF, wDict0, wLrng, gt, st, sett, one, two, int1, atI0, atI1, atI2, atI3, atI4, ixN20, ixN21, List.map_cons, List.map_nil, List.cons_append, List.nil_append, List.append_nil, List.length_cons, List.length_nil, List.replicate_succ, List.replicate_zero, Nat.add_one_sub_one]
  exact q
theorem eq_tups (ns ms : List Int) (Q : Bool → Prop) (q : Q (decide (ns = ms))) : eqG (.tup (iL ns)) (.tup (iL ms)) Q := by
  have e1 : ∀ l : List Int, plainD (.tup (iL l)) = true := fun l => plains_ints l
  refine ⟨⟨e1 ns, e1 ms, shaped_intsT ns, shaped_intsT ms⟩, ?_⟩
  have e : PyData.eqv (pd (.tup (iL ns))) (pd (.tup (iL ms))) = decide (ns = ms) := by
    show PyData.eqv (.tuple (pds (iL ns))) (.tuple (pds (iL ms))) = _
    unfold iL
    rw [pds_ints, pds_ints, PyData.eqv, eqvAll_ints]
  rw [e]
  exact q
theorem ok_Rule_eq {ns ms : List Int} (q : Q (.bool (decide (ns = ms))) μ) : wp_Rule___eq__ [ruleD ns, ruleD ms] μ Q X := by
  unfold wp_Rule___eq__
  simp only [wDef, initE, wSeq, wNext, wAsg, wAsgG, wDrop, wRet, wRetN, wIfS, wPar, wAug, wSetL, wBreak, wCont, wgN, wgNil, wgCons, wgTup, wiSeq, wiRng1, wiRng2, wiEnum, wFor, wLc, wYes, wV, wK, wOp, wUn, wTup, wLst, wCb, wTst, wNotT, wAndT, wOrT, wIf, wAnd, wOr, wNot, waNil, waCons, waStar, wCall, wMeth, wProp, wFld, wSetF, wMake, wCallI, wRev, wSl, woNone, woSome, wLm, wRz, wRzA, wFz, wCaught, wErrF, wDict0, wLrng, gt, st, sett, one, two, int1, atI0, atI1, atI2, atI3, atI4, ixN20, ixN21, List.map_cons, List.map_nil, List.cons_append, List.nil_append, List.append_nil, List.length_cons, List.length_nil, List.replicate_succ, List.replicate_zero, Nat.add_one_sub_one, ruleD, asObj, fldD, if_true, true_and, cbIsi, tyD, isiD]
  have e : isi1 (.o "Rule") (.cls "Rule") = some true := by decide
  rw [e]
  show oEq (.tup (iL ns)) (.tup (iL ms)) μ (sett false Q) X
  unfold oEq eqU
  exact eq_tups ns ms _ q
end
end DL

set_option Elab.async false
set_option linter.all false
set_option maxRecDepth 100000
set_option maxHeartbeats 4000000
/-! P3: the laws' own helpers: draws, rows. -/
namespace DL
open PySem L2
def wp_law_pick : WP := (wDef 2 2 (wRet (wOp false oIx (wV 1) (wCall wp_law_take [] (waCons (wV 0) (waCons (wCb false cbLen (waCons (wV 1) waNil)) waNil))))))
def wp_law_number : WP := (wDef 2 3 (wSeq (wAsg 2 (wCall wp_law_pick [] (waCons (wV 0) (waCons (wLst false (waCons (wK (.int 0)) (waCons (wK (.int 1)) (waCons (wK (.int 1)) (waCons (wK (.int 2)) (waCons (wK (.int 3)) (waCons (wCall wp_law_take [] (waCons (wV 0) (waCons (wOp false oAdd (wV 1) (wK (.int 1))) waNil))) waNil))))))) waNil))))
    (wRet (wCall wp_law_pick [] (waCons (wV 0) (waCons (wLst false (waCons (wCb false cbMin2 (waCons (wV 2) (waCons (wV 1) waNil))) (waCons (wOp false oSub (wK (.int 0)) (wCb false cbMin2 (waCons (wV 2) (waCons (wV 1) waNil)))) waNil))) waNil))))))
def wp_law_trimmed : WP := (wDef 1 2 (wSeq (wAsg 1 (wCb true cbList (waCons (wV 0) waNil)))
    (wSeq (wWhile (wAndT (wTst (wOp false oNe (wV 1) (wLst false waNil))) (wTst (wOp false oEq (wOp false oIx (wV 1) (wUn false oNeg (wK (.int 1)))) (wK (.int 0))))) (wDrop (wLm false mPop (wV 1) waNil)))
    (wFz 1 (wRet (wV 1))))))
def wp_law_rule : WP := (wDef 3 4 (wRet (wCall wp_law_trimmed [] (waCons (wLc false (wiRng1 (waCons (wCall wp_law_take [] (waCons (wV 0) (waCons (wOp false oAdd (wV 1) (wK (.int 2))) waNil))) waNil)) (wgN 3) wYes (wCall wp_law_number [] (waCons (wV 0) (waCons (wV 2) waNil))) [3]) waNil))))
def wp_law_rule_at : WP := (wDef 2 4 (wSeq (wAsg 2 (wK (.int 0)))
    (wSeq (wFor (wiSeq (wRev false (wV 0))) (wgN 3) (wAsg 2 (wOp false oAdd (wOp false oMul (wV 2) (wV 1)) (wV 3))))
    (wRet (wV 2)))))
section
variable {μ : Mu} {Q X : QD} {d : D}
theorem log_le {m : Int} (h : m.natAbs < 2 ^ 9000) : m.natAbs.log2 < 9000 := by
  by_cases h0 : m.natAbs = 0
  · rw [h0]
    decide
  · exact (Nat.log2_lt h0).mpr h
theorem ok_take {m : Int} (h0 : 0 < m) (h1 : m.natAbs < 2 ^ 9000) (q : ∀ i : Int, 0 ≤ i → i < m → Q (.int i) μ) : wp_law_take [.state, .int m] μ Q X := ⟨⟨h0, log_le h1⟩, q⟩
theorem ok_pick {ds : List D} (h : sqD μ d = some ds) (h0 : ds ≠ []) (h1 : ds.length ≤ 2 ^ 60) (q : ∀ x ∈ ds, Q x μ) : wp_law_pick [.state, d] μ Q X := by
  unfold wp_law_pick
  simp only [wDef, initE, wSeq, wNext, wAsg, wAsgG, wDrop, wRet, wRetN, wIfS, wPar, wAug, wSetL, wBreak, wCont, wgN, wgNil, wgCons, wgTup, wiSeq, wiRng1, wiRng2, wiEnum, wFor, wLc, wYes, wV, wK, wOp, wUn, wTup, wLst, wCb, wTst, wNotT, wAndT, wOrT, wIf, wAnd, wOr, wNot, waNil, waCons, waStar, wCall, wMeth, wProp, wFld, wSetF, wMake, wCallI, wRev, wSl, woNone, woSome, wLm, wRz, wRzA, wFz, wCaught, wErrF, wDict0, wLrng, gt, st, sett, one, two, int1, atI0, atI1, atI2, atI3, atI4, ixN20, ixN21, List.map_cons, List.map_nil, List.cons_append, List.nil_append, List.append_nil, List.length_cons, List.length_nil, List.replicate_succ, List.replicate_zero, Nat.add_one_sub_one, true_and, len_sq h]
  have hp : 0 < ds.length := List.length_pos_iff.mpr h0
  refine ok_take (by omega) ?_ fun i h2 h3 => ?_
  · rw [Int.natAbs_natCast]
    exact Nat.lt_of_le_of_lt h1 (Nat.pow_lt_pow_right (by decide) (by decide))
  · obtain ⟨j, rfl⟩ := Int.eq_ofNat_of_zero_le h2
    have hj : j < ds.length := by omega
    rw [ix_sq h (atI_nat ds j hj)]
    exact q _ (List.getElem_mem hj)
theorem ok_number {g : Int} (h0 : 0 ≤ g) (h1 : g < 2 ^ 62) (q : ∀ i : Int, i.natAbs ≤ g.natAbs → Q (.int i) μ) : wp_law_number [.state, .int g] μ Q X := by
  unfold wp_law_number
  simp only [wDef, initE, wSeq, wNext, wAsg, wAsgG, wDrop, wRet, wRetN, wIfS, wPar, wAug, wSetL, wBreak, wCont, wgN, wgNil, wgCons, wgTup, wiSeq, wiRng1, wiRng2, wiEnum, wFor, wLc, wYes, wV, wK, wOp, wUn, wTup, wLst, wCb, wTst, wNotT, wAndT, wOrT, wIf, wAnd, wOr, wNot, waNil, waCons, waStar, wCall, wMeth, wProp, wFld, wSetF, wMake, wCallI, wRev, wSl, woNone, woSome, wLm, wRz, wRzA, wFz, wCaught, wErrF, wDict0, wLrng, gt, st, sett, one, two, int1, atI0, atI1, atI2, atI3, atI4, ixN20, ixN21, List.map_cons, List.map_nil, List.cons_append, List.nil_append, List.append_nil, List.length_cons, List.length_nil, List.replicate_succ, List.replicate_zero, Nat.add_one_sub_one, true_and, oAdd]
  refine ok_take (by omega) (Nat.lt_of_lt_of_le (by omega : (g + 1).natAbs < 2 ^ 63) (Nat.pow_le_pow_right (by decide) (by decide))) fun i h2 h3 => ?_
  refine ⟨by decide, ok_pick rfl (fun z => by cases z) (by simp) fun x hx => ?_⟩
  have hx2 : ∃ s : Int, x = .int s ∧ 0 ≤ s := by
    simp only [Nd.frz, List.mem_cons, List.not_mem_nil, or_false] at hx
    rcases hx with rfl | rfl | rfl | rfl | rfl | rfl
    · exact ⟨0, rfl, by decide⟩
    · exact ⟨1, rfl, by decide⟩
    · exact ⟨1, rfl, by decide⟩
    · exact ⟨2, rfl, by decide⟩
    · exact ⟨3, rfl, by decide⟩
    · exact ⟨i, rfl, h2⟩
  obtain ⟨s, rfl, hs⟩ := hx2
  simp only [cbMin2, wDef, initE, wSeq, wNext, wAsg, wAsgG, wDrop, wRet, wRetN, wIfS, wPar, wAug, wSetL, wBreak, wCont, wgN, wgNil, wgCons, wgTup, wiSeq, wiRng1, wiRng2, wiEnum, wFor, wLc, wYes, wV, wK, wOp, wUn, wTup, wLst, wCb, wTst, wNotT, wAndT, wOrT, wIf, wAnd, wOr, wNot, waNil, waCons, waStar, wCall, wMeth, wProp, wFld, wSetF, wMake, wCallI, wRev, wSl, woNone, woSome, wLm, wRz, wRzA, wFz, wCaught, wErrF, wDict0, wLrng, gt, st, sett, one, two, int1, atI0, atI1, atI2, atI3, atI4, ixN20, ixN21, List.map_cons, List.map_nil, List.cons_append, List.nil_append, List.append_nil, List.length_cons, List.length_nil, List.replicate_succ, List.replicate_zero, Nat.add_one_sub_one, oSub, oInt2, true_and]
  refine ⟨by decide, ok_pick rfl (fun z => by cases z) (by simp) fun x hx => ?_⟩
  simp only [Nd.frz, List.mem_cons, List.not_mem_nil, or_false] at hx
  rcases hx with rfl | rfl
  · refine q _ ?_
    split <;> omega
  · refine q _ ?_
    split <;> omega
theorem eq_lists (ns ms : List Int) (Q : Bool → Prop) (q : Q (decide (ns = ms))) : eqG (.list (iL ns)) (.list (iL ms)) Q := by
  have e1 : ∀ l : List Int, plainD (.list (iL l)) = true := fun l => plains_ints l
  refine ⟨⟨e1 ns, e1 ms, shaped_ints ns, shaped_ints ms⟩, ?_⟩
  have e : PyData.eqv (pd (.list (iL ns))) (pd (.list (iL ms))) = decide (ns = ms) := by
    show PyData.eqv (.list (pds (iL ns))) (.list (pds (iL ms))) = _
    unfold iL
    rw [pds_ints, pds_ints, PyData.eqv, eqvAll_ints]
  rw [e]
  exact q
theorem ok_trimmed {ns : List Int} (h : sqD μ d = some (iL ns)) (hl : ns.length ≤ 2 ^ 20) (q : Q (.list (iL (M.trim ns))) μ) : wp_law_trimmed [d] μ Q X := by
  unfold wp_law_trimmed
  simp only [wDef, initE, wSeq, wNext, wAsg, wAsgG, wDrop, wRet, wRetN, wIfS, wPar, wAug, wSetL, wBreak, wCont, wgN, wgNil, wgCons, wgTup, wiSeq, wiRng1, wiRng2, wiEnum, wFor, wLc, wYes, wV, wK, wOp, wUn, wTup, wLst, wCb, wTst, wNotT, wAndT, wOrT, wIf, wAnd, wOr, wNot, waNil, waCons, waStar, wCall, wMeth, wProp, wFld, wSetF, wMake, wCallI, wRev, wSl, woNone, woSome, wLm, wRz, wRzA, wFz, wCaught, wErrF, wDict0, wLrng, gt, st, sett, one, two, int1, atI0, atI1, atI2, atI3, atI4, ixN20, ixN21, List.map_cons, List.map_nil, List.cons_append, List.nil_append, List.append_nil, List.length_cons, List.length_nil, List.replicate_succ, List.replicate_zero, Nat.add_one_sub_one, true_and, list_sq h]
  intro p hp
  simp only [wWhile]
  refine ⟨ns.length + 1, by omega, while_inv (fun k e μ' => e = [some d, some (.cell p)] ∧ μ' = up μ p (.list (iL (ns.take k))) ∧ k ≤ ns.length ∧ M.trim (ns.take k) = M.trim ns) ?_ _ _ _ _ (Nat.lt_succ_self _) ⟨rfl, by rw [List.take_length], Nat.le_refl _, by rw [List.take_length]⟩⟩
  rintro k e μ' N ⟨rfl, rfl, hk, ht⟩ hN
  have eq1 : drf (up μ p (.list (iL (ns.take k)))) (.cell p) = .list (iL (ns.take k)) := by simp [drf, up_same, ndL]
  have sq1 : sqD (up μ p (.list (iL (ns.take k)))) (.cell p) = some (iL (ns.take k)) := by simp [sqD, up_same, ndL]
  have fin : M.trim (ns.take k) = ns.take k → Q (Nd.frz (.list (iL (ns.take k)))) (del (up μ p (.list (iL (ns.take k)))) p) := fun e => by
    rw [del_up hp, ← e, ht]
    exact q
  simp only [wDef, initE, wSeq, wNext, wAsg, wAsgG, wDrop, wRet, wRetN, wIfS, wPar, wAug, wSetL, wBreak, wCont, wgN, wgNil, wgCons, wgTup, wiSeq, wiRng1, wiRng2, wiEnum, wFor, wLc, wYes, wV, wK, wOp, wUn, wTup, wLst, wCb, wTst, wNotT, wAndT, wOrT, wIf, wAnd, wOr, wNot, waNil, waCons, waStar, wCall, wMeth, wProp, wFld, wSetF, wMake, wCallI, wRev, wSl, woNone, woSome, wLm, wRz, wRzA, wFz, wCaught, wErrF, wDict0, wLrng, gt, st, sett, one, two, int1, atI0, atI1, atI2, atI3, atI4, ixN20, ixN21, List.map_cons, List.map_nil, List.cons_append, List.nil_append, List.append_nil, List.length_cons, List.length_nil, List.replicate_succ, List.replicate_zero, Nat.add_one_sub_one, true_and, oNe, eqU, eq1]
  refine ⟨Nat.zero_le _, eq_lists (ns.take k) [] _ ?_⟩
  by_cases h0 : k = 0
  · subst h0
    simp only [List.take_zero, decide_true, Bool.not_true, if_neg Bool.false_ne_true, up_same]
    exact fin rfl
  · have hlt : k - 1 < ns.length := by omega
    have ne : ns.take k ≠ [] := fun z => by
      have := congrArg List.length z
      rw [List.length_take, List.length_nil] at this
      omega
    have hlen : (iL (ns.take k)).length = k := by rw [iL_len, List.length_take]; omega
    rw [if_pos (by simp [ne])]
    have e1 : atI (iL (ns.take k)) (-1) = some (.int ns[k - 1]) := by
      have e2 : ixN (iL (ns.take k)).length (-1) = some (k - 1) := by
        rw [hlen]
        unfold ixN
        rw [if_neg (by decide), if_pos (by omega)]
        congr 1
        omega
      unfold atI
      rw [e2]
      show (iL (ns.take k))[k - 1]? = _
      rw [iL_get, List.getElem?_take, if_pos (by omega), List.getElem?_eq_getElem hlt]
      rfl
    simp only [oNeg, wDef, initE, wSeq, wNext, wAsg, wAsgG, wDrop, wRet, wRetN, wIfS, wPar, wAug, wSetL, wBreak, wCont, wgN, wgNil, wgCons, wgTup, wiSeq, wiRng1, wiRng2, wiEnum, wFor, wLc, wYes, wV, wK, wOp, wUn, wTup, wLst, wCb, wTst, wNotT, wAndT, wOrT, wIf, wAnd, wOr, wNot, waNil, waCons, waStar, wCall, wMeth, wProp, wFld, wSetF, wMake, wCallI, wRev, wSl, woNone, woSome, wLm, wRz, wRzA, wFz, wCaught, wErrF, wDict0, wLrng, gt, st, sett, one, two, int1, atI0, atI1, atI2, atI3, atI4, ixN20, ixN21, List.map_cons, List.map_nil, List.cons_append, List.nil_append, List.append_nil, List.length_cons, List.length_nil, List.replicate_succ, List.replicate_zero, Nat.add_one_sub_one, oEq, eqU]
    rw [show (-1 : Int) = -1 from rfl, ix_sq sq1 e1]
    simp only [sett, eqU]
    by_cases hz : ns[k - 1] = 0
    · rw [if_pos (decide_eq_true hz)]
      have el : (iL (ns.take k))[(iL (ns.take k)).length - 1]? = some (.int ns[k - 1]) := by
        rw [hlen, iL_get, List.getElem?_take, if_pos (by omega), List.getElem?_eq_getElem hlt]
        rfl
      have ed : (iL (ns.take k)).dropLast = iL (ns.take (k - 1)) := by
        rw [List.dropLast_eq_take, hlen]
        unfold iL
        rw [List.map_take, List.map_take, List.take_take]
        congr 1
        omega
      refine ⟨by simp [isL, seqL, up_same, ndL], rfl, ?_⟩
      simp only [lstC, up_same, ndL, el, ed, sett, up_up]
      refine hN (k - 1) _ _ (by omega) ⟨rfl, rfl, by omega, ?_⟩
      have h3 := trim_take hlt (by rw [List.getElem?_eq_getElem hlt, hz])
      rw [show k - 1 + 1 = k by omega] at h3
      rw [← h3]
      exact ht
    · rw [if_neg (by simp [hz])]
      simp only [up_same]
      refine fin (M.trim_self _ fun hne => ?_)
      rw [List.getLast_take]
      simp [hz, List.getElem?_eq_getElem hlt]
theorem ok_law_rule {m g : Int} (hm : 0 ≤ m) (hm2 : m ≤ 1000) (h0 : 0 ≤ g) (h1 : g < 2 ^ 62) (q : ∀ ns : List Int, M.trim ns = ns → (ns.length : Int) ≤ m + 1 → (∀ n ∈ ns, n.natAbs ≤ g.natAbs) → Q (.list (iL ns)) μ) : wp_law_rule [.state, .int m, .int g] μ Q X := by
  unfold wp_law_rule
  simp only [wDef, initE, wSeq, wNext, wAsg, wAsgG, wDrop, wRet, wRetN, wIfS, wPar, wAug, wSetL, wBreak, wCont, wgN, wgNil, wgCons, wgTup, wiSeq, wiRng1, wiRng2, wiEnum, wFor, wLc, wYes, wV, wK, wOp, wUn, wTup, wLst, wCb, wTst, wNotT, wAndT, wOrT, wIf, wAnd, wOr, wNot, waNil, waCons, waStar, wCall, wMeth, wProp, wFld, wSetF, wMake, wCallI, wRev, wSl, woNone, woSome, wLm, wRz, wRzA, wFz, wCaught, wErrF, wDict0, wLrng, gt, st, sett, one, two, int1, atI0, atI1, atI2, atI3, atI4, ixN20, ixN21, List.map_cons, List.map_nil, List.cons_append, List.nil_append, List.append_nil, List.length_cons, List.length_nil, List.replicate_succ, List.replicate_zero, Nat.add_one_sub_one, true_and, oAdd]
  refine ok_take (by omega) (Nat.lt_of_lt_of_le (by omega : (m + 2).natAbs < 2 ^ 63) (Nat.pow_le_pow_right (by decide) (by decide))) fun i h2 h3 => ?_
  refine ⟨⟨by omega, by omega⟩, ?_⟩
  have hl : (rangeD 0 i.toNat).length = i.toNat := rangeD_len _ _
  refine ⟨by rw [hl, sizeLine_eq]; omega, lc_inv (fun k acc μ' => μ' = μ ∧ ∃ ns : List Int, acc = iL ns ∧ ns.length = k ∧ ∀ n ∈ ns, n.natAbs ≤ g.natAbs) ⟨rfl, [], rfl, rfl, fun _ z => nomatch z⟩ ?_ ?_⟩
  · rintro k x acc μ' N hx ⟨rfl, ns, rfl, hk, hn⟩ hN
    refine ⟨trivial, ?_⟩
    show wp_law_number [.state, .int g] μ' (fun d μ2 => N (iL ns ++ [d]) μ2) (fun _ _ => False)
    refine ok_number h0 h1 fun j hj => ?_
    refine hN _ _ ⟨rfl, ns ++ [j], iL_snoc ns j, by rw [List.length_append, hk]; rfl, fun n hm => ?_⟩
    rcases List.mem_append.mp hm with z | z
    · exact hn n z
    · rw [List.mem_singleton.mp z]
      exact hj
  · rintro acc μ' ⟨rfl, ns, rfl, hk, hn⟩
    rw [hl] at hk
    refine ⟨trivial, ok_trimmed (ns := ns) rfl (by omega) (q _ (M.trim_trim ns) ?_ fun n hm => hn n (M.trim_mem hm))⟩
    have := M.trim_len ns
    omega
theorem ok_rule_at {ns : List Int} {t : Int} {b : Nat} (hn : ∀ n ∈ ns, n.natAbs < 2 ^ b) (ht : t.natAbs < 2 ^ b) (hl : ns.length ≤ 2 ^ 20) (hb : (b + 1) * ns.length + b ≤ 40000000) (q : Q (.int (M.ev ns t)) μ) : wp_law_rule_at [.list (iL ns), .int t] μ Q X := by
  unfold wp_law_rule_at
  simp only [wDef, initE, wSeq, wAsg, wK, wFor, wiSeq, wRev, wV, gt, st, sqD, seqL, sett, Nd.frz, List.map_cons, List.map_nil, List.cons_append, List.nil_append, List.length_cons, List.length_nil, List.replicate_succ, List.replicate_zero, Nat.add_one_sub_one]
  refine ⟨trivial, by rw [List.length_reverse, iL_len]; omega, horner_loop hn ht hb trivial fun x => ?_⟩
  simp only [wDef, initE, wSeq, wNext, wAsg, wAsgG, wDrop, wRet, wRetN, wIfS, wPar, wAug, wSetL, wBreak, wCont, wgN, wgNil, wgCons, wgTup, wiSeq, wiRng1, wiRng2, wiEnum, wFor, wLc, wYes, wV, wK, wOp, wUn, wTup, wLst, wCb, wTst, wNotT, wAndT, wOrT, wIf, wAnd, wOr, wNot, waNil, waCons, waStar, wCall, wMeth, wProp, wFld, wSetF, wMake, wCallI, wRev, wSl, woNone, woSome, wLm, wRz, wRzA, wFz, wCaught, wErrF, wDict0, wLrng, gt, st, sett, one, two, int1, atI0, atI1, atI2, atI3, atI4, ixN20, ixN21, List.map_cons, List.map_nil, List.cons_append, List.nil_append, List.append_nil, List.length_cons, List.length_nil, List.replicate_succ, List.replicate_zero, Nat.add_one_sub_one]
  exact q
end
end DL

set_option Elab.async false
set_option linter.all false
set_option maxRecDepth 100000
set_option maxHeartbeats 4000000
/-! P4: what repr shows. -/
namespace DL
open PySem L2
theorem Sh.up {L k L' k' : Nat} {p : PyData} (h : Sh L k p) (h1 : L ≤ L') (h2 : k ≤ k') : Sh L' k' p := ⟨Nat.le_trans h.len h1, Nat.le_trans h.dep h2, h.can, h.nod⟩
section
variable {μ : Mu} {Q X : QD} {QQ : QR} {d : D}
end
end DL

set_option Elab.async false
set_option linter.all false
set_option maxRecDepth 100000
set_option maxHeartbeats 4000000
/-! P5: the laws' own steps. -/
namespace DL
open PySem L2
def wp_law_is_low : WP := (wDef 1 1 (wRet (wOp false (oIn false) (wOp false oIx (wV 0) (wK (.int 0))) (wTup (waCons (wK (.str "x")) (waCons (wK (.str "y")) waNil))))))
def wp_law_turn : WP := (wDefD 2 7 (wSeq (wAsg 2 (wCall wp_law_pick [] (waCons (wV 0) (waCons (wLst false (waCons (wLst true (waCons (wLst false (waCons (wK (.int 1)) (waCons (wK (.int 0)) waNil))) (waCons (wLst false (waCons (wK (.int 0)) (waCons (wK (.int 1)) waNil))) waNil))) (waCons (wLst true (waCons (wLst false (waCons (wK (.int 0)) (waCons (wUn false oNeg (wK (.int 1))) waNil))) (waCons (wLst false (waCons (wK (.int 1)) (waCons (wK (.int 0)) waNil))) waNil))) (waCons (wLst true (waCons (wLst false (waCons (wK (.int 0)) (waCons (wK (.int 1)) waNil))) (waCons (wLst false (waCons (wK (.int 1)) (waCons (wK (.int 0)) waNil))) waNil))) (waCons (wLst true (waCons (wLst false (waCons (wUn false oNeg (wK (.int 1))) (waCons (wK (.int 0)) waNil))) (waCons (wLst false (waCons (wK (.int 0)) (waCons (wK (.int 1)) waNil))) waNil))) waNil))))) waNil))))
    (wSeq (wFor (wiRng1 (waCons (wCall wp_law_take [] (waCons (wV 0) (waCons (wK (.int 3)) waNil))) waNil)) (wgN 3) (wSeq (wPar 4 5 (waCons (wCall wp_law_number [] (waCons (wV 0) (waCons (wV 1) waNil))) (waCons (wCall wp_law_take [] (waCons (wV 0) (waCons (wK (.int 2)) waNil))) waNil)))
    (wSeq (wAsg 6 (wOp false oIx (wV 2) (wOp false oSub (wK (.int 1)) (wV 5))))
    (wSetL (wLst false (waCons (wOp false oAdd (wOp false oIx (wOp false oIx (wV 2) (wV 5)) (wK (.int 0))) (wOp false oMul (wV 4) (wOp false oIx (wV 6) (wK (.int 0))))) (waCons (wOp false oAdd (wOp false oIx (wOp false oIx (wV 2) (wV 5)) (wK (.int 1))) (wOp false oMul (wV 4) (wOp false oIx (wV 6) (wK (.int 1))))) waNil))) (wV 2) (wV 5)))))
    (wFz 2 (wRet (wTup (waCons (wK (.str "turn")) (waCons (wOp false oIx (wOp false oIx (wV 2) (wK (.int 0))) (wK (.int 0))) (waCons (wOp false oIx (wOp false oIx (wV 2) (wK (.int 0))) (wK (.int 1))) (waCons (wOp false oIx (wOp false oIx (wV 2) (wK (.int 1))) (wK (.int 0))) (waCons (wOp false oIx (wOp false oIx (wV 2) (wK (.int 1))) (wK (.int 1))) waNil)))))))))))
inductive Stp where
  | x (ns : List Int) | y (ns : List Int) | move (s t : Int) | turn (a b c d : Int)
deriving DecidableEq
/-- as the laws write it -/
def Stp.b : Stp → D
  | .x ns => .tup [.str "x", .list (iL ns)]
  | .y ns => .tup [.str "y", .list (iL ns)]
  | .move s t => .tup [.str "move", .int s, .int t]
  | .turn a b c d => .tup [.str "turn", .int a, .int b, .int c, .int d]
/-- as the package has it -/
def Stp.p : Stp → D
  | .x ns => .tup [.str "x", ruleD ns]
  | .y ns => .tup [.str "y", ruleD ns]
  | .move s t => .tup [.str "move", .int s, .int t]
  | .turn a b c d => .tup [.str "turn", .int a, .int b, .int c, .int d]
def Stp.low : Stp → Bool
  | .x _ => true
  | .y _ => true
  | _ => false
def det1 (a b c d : Int) : Prop := a * d - b * c = 1 ∨ a * d - b * c = -1
def Stp.Ok (B : Nat) : Stp → Prop
  | .x ns => M.trim ns = ns ∧ ns.length ≤ 7 ∧ ∀ n ∈ ns, n.natAbs ≤ B
  | .y ns => M.trim ns = ns ∧ ns.length ≤ 7 ∧ ∀ n ∈ ns, n.natAbs ≤ B
  | .move s t => s.natAbs ≤ B ∧ t.natAbs ≤ B
  | .turn a b c d => det1 a b c d ∧ a.natAbs ≤ B ∧ b.natAbs ≤ B ∧ c.natAbs ≤ B ∧ d.natAbs ≤ B
theorem Stp.Ok.up {B B' : Nat} (h : B ≤ B') : ∀ {s : Stp}, s.Ok B → s.Ok B'
  | .x _, ⟨h1, h2, h3⟩ => ⟨h1, h2, fun n hn => Nat.le_trans (h3 n hn) h⟩
  | .y _, ⟨h1, h2, h3⟩ => ⟨h1, h2, fun n hn => Nat.le_trans (h3 n hn) h⟩
  | .move _ _, ⟨h1, h2⟩ => ⟨Nat.le_trans h1 h, Nat.le_trans h2 h⟩
  | .turn _ _ _ _, ⟨h0, h1, h2, h3, h4⟩ => ⟨h0, Nat.le_trans h1 h, Nat.le_trans h2 h, Nat.le_trans h3 h, Nat.le_trans h4 h⟩
section
variable {μ : Mu} {Q X : QD} {d : D} {B : Nat}
theorem ok_is_low {s : Stp} (q : Q (.bool s.low) μ) : wp_law_is_low [s.b] μ Q X := by
  unfold wp_law_is_low
  cases s <;> (simp only [wDef, initE, wSeq, wNext, wAsg, wAsgG, wDrop, wRet, wRetN, wIfS, wPar, wAug, wSetL, wBreak, wCont, wgN, wgNil, wgCons, wgTup, wiSeq, wiRng1, wiRng2, wiEnum, wFor, wLc, wYes, wV, wK, wOp, wUn, wTup, wLst, wCb, wTst, wNotT, wAndT, wOrT, wIf, wAnd, wOr, wNot, waNil, waCons, waStar, wCall, wMeth, wProp, wFld, wSetF, wMake, wCallI, wRev, wSl, woNone, woSome, wLm, wRz, wRzA, wFz, wCaught, wErrF, wDict0, wLrng, gt, st, sett, one, two, int1, atI0, atI1, atI2, atI3, atI4, ixN20, ixN21, List.map_cons, List.map_nil, List.cons_append, List.nil_append, List.append_nil, List.length_cons, List.length_nil, List.replicate_succ, List.replicate_zero, Nat.add_one_sub_one, Stp.b, oIx, sqD, oIn]; exact ⟨trivial, by decide, rfl, rfl, q⟩)
/-- two rows -/
abbrev rows2 (a b c d : Int) : Nd := .list [.list [.int a, .int b], .list [.int c, .int d]]
theorem mulU_small {i j : Int} (hi : i.natAbs ≤ 10 ^ 30) (hj : j.natAbs ≤ 10 ^ 30) : CMulU i j := mulU_of (a := 100) (b := 100) (Nat.lt_of_le_of_lt hi (by decide)) (Nat.lt_of_le_of_lt hj (by decide)) (by decide)
theorem mul_le {i j : Int} {a b : Nat} (hi : i.natAbs ≤ a) (hj : j.natAbs ≤ b) : (i * j).natAbs ≤ a * b := by
  rw [Int.natAbs_mul]
  exact Nat.mul_le_mul hi hj
def capB : Nat → Nat
  | 0 => 1
  | i + 1 => capB i + 300 * capB i
theorem ok_law_turn {g : Int} (h0 : 0 ≤ g) (h1 : g ≤ 300) (q : ∀ a b c d, (Stp.turn a b c d).Ok 100000 → Q (Stp.turn a b c d).b μ) : wp_law_turn [.state, .int g] μ Q X := by
  unfold wp_law_turn wDefD
  simp only [wDef, initE, wSeq, wNext, wAsg, wAsgG, wDrop, wRet, wRetN, wIfS, wPar, wAug, wSetL, wBreak, wCont, wgN, wgNil, wgCons, wgTup, wiSeq, wiRng1, wiRng2, wiEnum, wFor, wLc, wYes, wV, wK, wOp, wUn, wTup, wLst, wCb, wTst, wNotT, wAndT, wOrT, wIf, wAnd, wOr, wNot, waNil, waCons, waStar, wCall, wMeth, wProp, wFld, wSetF, wMake, wCallI, wRev, wSl, woNone, woSome, wLm, wRz, wRzA, wFz, wCaught, wErrF, wDict0, wLrng, gt, st, sett, one, two, int1, atI0, atI1, atI2, atI3, atI4, ixN20, ixN21, List.map_cons, List.map_nil, List.cons_append, List.nil_append, List.append_nil, List.length_cons, List.length_nil, List.replicate_succ, List.replicate_zero, Nat.add_one_sub_one, oNeg]
  refine ⟨trivial, by decide, by decide, by decide, fun p1 n1 => ⟨by decide, by decide, by decide, fun p2 n2 => ⟨by decide, by decide, by decide, fun p3 n3 => ⟨by decide, by decide, by decide, fun p4 n4 => ⟨by decide, ?_⟩⟩⟩⟩⟩
  have e12 : p1 ≠ p2 := fun z => by rw [← z, up_same] at n2; cases n2
  have e13 : p1 ≠ p3 := fun z => by rw [← z, up_ne e12, up_same] at n3; cases n3
  have e23 : p2 ≠ p3 := fun z => by rw [← z, up_same] at n3; cases n3
  have e14 : p1 ≠ p4 := fun z => by rw [← z, up_ne e13, up_ne e12, up_same] at n4; cases n4
  have e24 : p2 ≠ p4 := fun z => by rw [← z, up_ne e23, up_same] at n4; cases n4
  have e34 : p3 ≠ p4 := fun z => by rw [← z, up_same] at n4; cases n4
  have m2 : μ p2 = Option.none := by rw [up_ne (Ne.symm e12)] at n2; exact n2
  have m3 : μ p3 = Option.none := by rw [up_ne (Ne.symm e23), up_ne (Ne.symm e13)] at n3; exact n3
  have m4 : μ p4 = Option.none := by rw [up_ne (Ne.symm e34), up_ne (Ne.symm e24), up_ne (Ne.symm e14)] at n4; exact n4
  simp only [Nd.frz] at n2 n3 n4 ⊢
  generalize hμ : up (up (up (up μ p1 (.list [.list [.int 1, .int 0], .list [.int 0, .int 1]])) p2 (.list [.list [.int 0, .int (-1)], .list [.int 1, .int 0]])) p3 (.list [.list [.int 0, .int 1], .list [.int 1, .int 0]])) p4 (.list [.list [.int (-1), .int 0], .list [.int 0, .int 1]]) = μ4
  have hsub : subMu μ μ4 := by rw [← hμ]; exact ((((subMu.refl μ).put n1).put m2).put m3).put m4
  refine ok_pick rfl (fun z => by cases z) (by simp) fun x hx => ?_
  have hx2 : ∃ p a b c d, x = .cell p ∧ μ4 p = some (rows2 a b c d) ∧ μ p = Option.none ∧ det1 a b c d ∧ a.natAbs ≤ 1 ∧ b.natAbs ≤ 1 ∧ c.natAbs ≤ 1 ∧ d.natAbs ≤ 1 := by
    simp only [List.mem_cons, List.not_mem_nil, or_false] at hx
    rcases hx with rfl | rfl | rfl | rfl
    · exact ⟨p1, 1, 0, 0, 1, rfl, by rw [← hμ, up_ne e14, up_ne e13, up_ne e12, up_same], n1, .inl rfl, by decide, by decide, by decide, by decide⟩
    · exact ⟨p2, 0, -1, 1, 0, rfl, by rw [← hμ, up_ne e24, up_ne e23, up_same], m2, .inl rfl, by decide, by decide, by decide, by decide⟩
    · exact ⟨p3, 0, 1, 1, 0, rfl, by rw [← hμ, up_ne e34, up_same], m3, .inr rfl, by decide, by decide, by decide, by decide⟩
    · exact ⟨p4, -1, 0, 0, 1, rfl, by rw [← hμ, up_same], m4, .inr rfl, by decide, by decide, by decide, by decide⟩
  obtain ⟨p, a, b, c, d, rfl, hp, mp, hd, ha, hb, hc, hdd⟩ := hx2
  refine ok_take (by decide) (by decide) fun i h2 h3 => ⟨⟨by omega, by omega⟩, ?_⟩
  obtain ⟨j, rfl⟩ := Int.eq_ofNat_of_zero_le h2
  refine ⟨by rw [rangeD_len, Int.toNat_natCast]; omega, for_inv (fun i e μ' => (∃ e3 e4 e5 e6, e = [some .state, some (.int g), some (.cell p), e3, e4, e5, e6]) ∧ subMu μ μ' ∧ ∃ a b c d, μ' p = some (rows2 a b c d) ∧ det1 a b c d ∧ a.natAbs ≤ capB i ∧ b.natAbs ≤ capB i ∧ c.natAbs ≤ capB i ∧ d.natAbs ≤ capB i) ⟨⟨_, _, _, _, rfl⟩, hsub, a, b, c, d, hp, hd, ha, hb, hc, hdd⟩ ?_ ?_⟩
  · rintro i x e μ' N hx ⟨⟨e3, e4, e5, e6, rfl⟩, hs, a, b, c, d, hp, hd, ha, hb, hc, hdd⟩ hN
    have hi2 : i < 2 := by
      have := (List.getElem?_eq_some_iff.mp hx).1
      rw [rangeD_len, Int.toNat_natCast] at this
      omega
    have hcap : capB i ≤ 301 := by
      rcases (by omega : i = 0 ∨ i = 1) with rfl | rfl <;> decide
    refine ⟨trivial, ?_⟩
    simp only [wDef, initE, wSeq, wNext, wAsg, wAsgG, wDrop, wRet, wRetN, wIfS, wPar, wAug, wSetL, wBreak, wCont, wgN, wgNil, wgCons, wgTup, wiSeq, wiRng1, wiRng2, wiEnum, wFor, wLc, wYes, wV, wK, wOp, wUn, wTup, wLst, wCb, wTst, wNotT, wAndT, wOrT, wIf, wAnd, wOr, wNot, waNil, waCons, waStar, wCall, wMeth, wProp, wFld, wSetF, wMake, wCallI, wRev, wSl, woNone, woSome, wLm, wRz, wRzA, wFz, wCaught, wErrF, wDict0, wLrng, gt, st, sett, one, two, int1, atI0, atI1, atI2, atI3, atI4, ixN20, ixN21, List.map_cons, List.map_nil, List.cons_append, List.nil_append, List.append_nil, List.length_cons, List.length_nil, List.replicate_succ, List.replicate_zero, Nat.add_one_sub_one]
    refine ok_number h0 (by omega) fun k hk => ok_take (by decide) (by decide) fun sd hs0 hs1 => ?_
    have hk2 : k.natAbs ≤ 300 := by omega
    have sq : sqD μ' (.cell p) = some [.list [.int a, .int b], .list [.int c, .int d]] := by simp [sqD, hp, ndL]
    have mu : ∀ z : Int, z.natAbs ≤ capB i → CMulU k z := fun z hz => mulU_small (Nat.le_trans hk2 (by decide)) (Nat.le_trans hz (Nat.le_trans hcap (by decide)))
    have bd : ∀ u z : Int, u.natAbs ≤ capB i → z.natAbs ≤ capB i → (u + k * z).natAbs ≤ capB (i + 1) := fun u z hu hz => by
      have := mul_le hk2 hz
      have h9 := Int.natAbs_add_le u (k * z)
      rw [capB]
      omega
    have up1 : ∀ u : Int, u.natAbs ≤ capB i → u.natAbs ≤ capB (i + 1) := fun u hu => by rw [capB]; omega
    rcases (by omega : sd = 0 ∨ sd = 1) with rfl | rfl
    · simp only [oSub, oInt2, true_and, wDef, initE, wSeq, wNext, wAsg, wAsgG, wDrop, wRet, wRetN, wIfS, wPar, wAug, wSetL, wBreak, wCont, wgN, wgNil, wgCons, wgTup, wiSeq, wiRng1, wiRng2, wiEnum, wFor, wLc, wYes, wV, wK, wOp, wUn, wTup, wLst, wCb, wTst, wNotT, wAndT, wOrT, wIf, wAnd, wOr, wNot, waNil, waCons, waStar, wCall, wMeth, wProp, wFld, wSetF, wMake, wCallI, wRev, wSl, woNone, woSome, wLm, wRz, wRzA, wFz, wCaught, wErrF, wDict0, wLrng, gt, st, sett, one, two, int1, atI0, atI1, atI2, atI3, atI4, ixN20, ixN21, List.map_cons, List.map_nil, List.cons_append, List.nil_append, List.append_nil, List.length_cons, List.length_nil, List.replicate_succ, List.replicate_zero, Nat.add_one_sub_one, oIx, sqD, hp, ndL, oMul, oAdd, Int.sub_zero, Nd.frz]
      refine ⟨mu c hc, mu d hdd, by decide, ?_⟩
      refine hN _ _ ⟨⟨_, _, _, _, rfl⟩, hs.put mp, a + k * c, b + k * d, c, d, up_same, ?_, bd a c ha hc, bd b d hb hdd, up1 c hc, up1 d hdd⟩
      unfold det1 at hd ⊢
      rw [show (a + k * c) * d - (b + k * d) * c = a * d - b * c by rw [Int.add_mul, Int.add_mul, Int.mul_assoc, Int.mul_assoc, Int.mul_comm d c]; omega]
      exact hd
    · simp only [oSub, oInt2, true_and, wDef, initE, wSeq, wNext, wAsg, wAsgG, wDrop, wRet, wRetN, wIfS, wPar, wAug, wSetL, wBreak, wCont, wgN, wgNil, wgCons, wgTup, wiSeq, wiRng1, wiRng2, wiEnum, wFor, wLc, wYes, wV, wK, wOp, wUn, wTup, wLst, wCb, wTst, wNotT, wAndT, wOrT, wIf, wAnd, wOr, wNot, waNil, waCons, waStar, wCall, wMeth, wProp, wFld, wSetF, wMake, wCallI, wRev, wSl, woNone, woSome, wLm, wRz, wRzA, wFz, wCaught, wErrF, wDict0, wLrng, gt, st, sett, one, two, int1, atI0, atI1, atI2, atI3, atI4, ixN20, ixN21, List.map_cons, List.map_nil, List.cons_append, List.nil_append, List.append_nil, List.length_cons, List.length_nil, List.replicate_succ, List.replicate_zero, Nat.add_one_sub_one, oIx, sqD, hp, ndL, oMul, oAdd, Int.sub_self, Nd.frz]
      refine ⟨mu a ha, mu b hb, by decide, ?_⟩
      refine hN _ _ ⟨⟨_, _, _, _, rfl⟩, hs.put mp, a, b, c + k * a, d + k * b, up_same, ?_, up1 a ha, up1 b hb, bd c a hc ha, bd d b hdd hb⟩
      unfold det1 at hd ⊢
      rw [show a * (d + k * b) - b * (c + k * a) = a * d - b * c by rw [Int.mul_add, Int.mul_add, Int.mul_left_comm a k b, Int.mul_left_comm b k a, Int.mul_comm b a]; omega]
      exact hd
  · rintro e μ' ⟨⟨e3, e4, e5, e6, rfl⟩, hs, a, b, c, d, hp, hd, ha, hb, hc, hdd⟩
    refine ⟨trivial, ?_⟩
    have hcap : capB (rangeD 0 (Int.ofNat j).toNat).length ≤ 100000 := by
      rw [rangeD_len]
      show capB j ≤ 100000
      rcases (by omega : j = 0 ∨ j = 1 ∨ j = 2) with rfl | rfl | rfl <;> decide
    simp only [wDef, initE, wSeq, wNext, wAsg, wAsgG, wDrop, wRet, wRetN, wIfS, wPar, wAug, wSetL, wBreak, wCont, wgN, wgNil, wgCons, wgTup, wiSeq, wiRng1, wiRng2, wiEnum, wFor, wLc, wYes, wV, wK, wOp, wUn, wTup, wLst, wCb, wTst, wNotT, wAndT, wOrT, wIf, wAnd, wOr, wNot, waNil, waCons, waStar, wCall, wMeth, wProp, wFld, wSetF, wMake, wCallI, wRev, wSl, woNone, woSome, wLm, wRz, wRzA, wFz, wCaught, wErrF, wDict0, wLrng, gt, st, sett, one, two, int1, atI0, atI1, atI2, atI3, atI4, ixN20, ixN21, List.map_cons, List.map_nil, List.cons_append, List.nil_append, List.append_nil, List.length_cons, List.length_nil, List.replicate_succ, List.replicate_zero, Nat.add_one_sub_one, hp, oIx, sqD, Nd.frz]
    refine ⟨by decide, μ, fun b nd hb => ?_, q a b c d ⟨hd, Nat.le_trans ha hcap, Nat.le_trans hb hcap, Nat.le_trans hc hcap, Nat.le_trans hdd hcap⟩⟩
    rw [del_ne fun z => by rw [z, mp] at hb; cases hb]
    exact hs b nd hb
end
end DL

set_option Elab.async false
set_option linter.all false
set_option maxRecDepth 100000
set_option maxHeartbeats 4000000
/-! P6: steps drawn by the laws. -/
namespace DL
open PySem L2
def wp_law_step : WP := (wDef 3 4 (wSeq (wAsg 3 (wCall wp_law_pick [] (waCons (wV 0) (waCons (wLst false (waCons (wK (.str "x")) (waCons (wK (.str "x")) (waCons (wK (.str "y")) (waCons (wK (.str "y")) (waCons (wK (.str "turn")) (waCons (wK (.str "move")) waNil))))))) waNil))))
    (wSeq (wIfS (wTst (wOp false oEq (wV 3) (wK (.str "turn")))) (wRet (wCall wp_law_turn [] (waCons (wV 0) (waCons (wCb false cbMin2 (waCons (wV 2) (waCons (wK (.int 300)) waNil))) waNil)))) wNext)
    (wSeq (wIfS (wTst (wOp false oEq (wV 3) (wK (.str "move")))) (wRet (wTup (waCons (wV 3) (waCons (wCall wp_law_number [] (waCons (wV 0) (waCons (wV 2) waNil))) (waCons (wCall wp_law_number [] (waCons (wV 0) (waCons (wV 2) waNil))) waNil))))) wNext)
    (wRet (wTup (waCons (wV 3) (waCons (wCall wp_law_rule [] (waCons (wV 0) (waCons (wCb false cbMin2 (waCons (wK (.int 3)) (waCons (wV 1) waNil))) (waCons (wV 2) waNil)))) waNil))))))))
section
variable {μ : Mu} {Q X : QD} {d : D} {B : Nat}
def Stp.len : Stp → Nat
  | .x ns => ns.length
  | .y ns => ns.length
  | _ => 0
def Stp.deg (s : Stp) : Nat := max 1 (s.len - 1)
def degs : List Stp → Nat
  | [] => 1
  | s :: ss => s.deg * degs ss
theorem degs_snoc (ss : List Stp) (s : Stp) : degs (ss ++ [s]) = degs ss * s.deg := by
  induction ss with
  | nil => simp [degs]
  | cons a ss ih => rw [List.cons_append, degs, ih, degs, Nat.mul_assoc]
theorem ok_law_step {room g : Int} (hr : 0 ≤ room) (h0 : 0 ≤ g) (h1 : g ≤ 1000000) (q : ∀ s : Stp, s.Ok 1000000 → (s.len : Int) ≤ (if room < 3 then room else 3) + 1 → Q s.b μ) : wp_law_step [.state, .int room, .int g] μ Q X := by
  unfold wp_law_step
  simp only [Jbx, initE, Jcx, Jcj, Jbl, Jbm, Jc3, Jcs, Jct, Jca, Jcp, Jbn, Jcz, Jbo, Jbu, Jdd, Jde, Jdc, Jdf, Jdj, Jdh, Jdi, Jdg, Jc6, Jcc, Jd7, Jd6, Jcb, Jcm, Jd5, Jd4, Jcg, Jbs, Jd3, Jcl, Jbk, Jco, Jc9, Jbj, Jcn, Jck, Jd9, Jd8, Jdb, Jbp, Jci, Jcr, Jc5, Jcy, Jch, Jbq, Jcu, Jd0, Jdk, Jdl, Jcd, Jcv, Jcw, Jc8, Jbr, Jc4, Jbz, Jcf, gt, st, Jbc, Jba, Jbb, Jb8, Jbi, Ja5, atI0, atI1, atI2, atI3, atI4, ixN20, ixN21, List.map_cons, List.map_nil, List.cons_append, List.nil_append, List.append_nil, List.length_cons, List.length_nil, List.replicate_succ, List.replicate_zero, Nat.add_one_sub_one, Jda, Jbt, Jc0, Jc2, Jby, Jae, Jag, Jah, Jaf, Jb7, Jaw, Jax, Jak, Jav, Jb4, Jau, Jat, Jan, Jam, Jb2, Jai, Jaj, Jb0, Jb1, Jaq, Jb3, Jar, Jas, Jao, Jap, Jb6, Jb5, Ja7, Ja8, Jac, Jab, Ja0, Ja9, Jaa, Jbg, Jbh, Ja6, Jad, Jbd, Jbf, Jbe, Jb9, Ja2, Ja1, Ja4, Ja3]
  refine ⟨trivial, by decide, ok_pick rfl (fun z => by cases z) (by simp) fun w hw => ?_⟩
  have rule : ∀ t : Str, (∀ ns : List Int, M.trim ns = ns → (ns.length : Int) ≤ (if room < 3 then room else 3) + 1 → (∀ n ∈ ns, n.natAbs ≤ g.natAbs) → Q (.tup [.str t, .list (iL ns)]) μ) →
      cbMin2 [.int 3, .int room] μ (sett false fun x μ1 => wp_law_rule [.state, x, .int g] μ1 (fun x μ1 => [D.str t, x].length ≤ sizeLine ∧ Q (.tup [.str t, x]) μ1) X) X := fun t ht => by
    simp only [cbMin2, two, int1, sett]
    refine ok_law_rule (by split <;> omega) (by split <;> omega) h0 (by omega) fun ns g1 g2 g3 => ⟨by simp [sizeLine_eq], ht ns g1 g2 g3⟩
  simp only [Nd.frz, List.mem_cons, List.not_mem_nil, or_false] at hw
  rcases hw with rfl | rfl | rfl | rfl | rfl | rfl
  all_goals simp only [oEq, eqU, sett]
  · rw [if_neg (by decide), if_neg (by decide)]
    exact rule "x" fun ns g1 g2 g3 => q (.x ns) ⟨g1, by split at g2 <;> omega, fun n hn => by have := g3 n hn; omega⟩ g2
  · rw [if_neg (by decide), if_neg (by decide)]
    exact rule "x" fun ns g1 g2 g3 => q (.x ns) ⟨g1, by split at g2 <;> omega, fun n hn => by have := g3 n hn; omega⟩ g2
  · rw [if_neg (by decide), if_neg (by decide)]
    exact rule "y" fun ns g1 g2 g3 => q (.y ns) ⟨g1, by split at g2 <;> omega, fun n hn => by have := g3 n hn; omega⟩ g2
  · rw [if_neg (by decide), if_neg (by decide)]
    exact rule "y" fun ns g1 g2 g3 => q (.y ns) ⟨g1, by split at g2 <;> omega, fun n hn => by have := g3 n hn; omega⟩ g2
  · rw [if_pos (by decide)]
    refine ok_law_turn (by split <;> omega) (by split <;> omega) fun a b c d h => q _ (h.up (by decide)) ?_
    show ((0 : Nat) : Int) ≤ _
    split <;> omega
  · rw [if_neg (by decide), if_pos (by decide)]
    refine ok_number h0 (by omega) fun i hi => ok_number h0 (by omega) fun j hj => ⟨by simp [sizeLine_eq], q (.move i j) ⟨by omega, by omega⟩ ?_⟩
    show ((0 : Nat) : Int) ≤ _
    split <;> omega
end
end DL

set_option Elab.async false
set_option linter.all false
set_option maxRecDepth 100000
set_option maxHeartbeats 4000000
/-! P7: is_step, of any value. -/
namespace DL
open PySem L2
def wp_is_step : WP := (wDef 1 2 (wSeq (wIfS (wOrT (wNotT (wTst (wCb false cbIsi (waCons (wV 0) (waCons (wK (.ty "tuple")) waNil))))) (wOrT (wTst (wOp false oEq (wCb false cbLen (waCons (wV 0) waNil)) (wK (.int 0)))) (wNotT (wTst (wCb false cbIsi (waCons (wOp false oIx (wV 0) (wK (.int 0))) (waCons (wK (.ty "str")) waNil))))))) (wRet (wK (.bool false))) wNext)
    (wSeq (wIfS (wTst (wOp false (oIn false) (wOp false oIx (wV 0) (wK (.int 0))) (wTup (waCons (wK (.str "x")) (waCons (wK (.str "y")) waNil))))) (wRet (wAnd (wOp false oEq (wCb false cbLen (waCons (wV 0) waNil)) (wK (.int 2))) (wCb false cbIsi (waCons (wOp false oIx (wV 0) (wK (.int 1))) (waCons (wK (.cls "Rule")) waNil))))) wNext)
    (wSeq (wIfS (wNotT (wTst (wCb false cbAll (waCons (wLc false (wiSeq (wSl false oSl (wV 0) (woSome (wK (.int 1))) woNone)) (wgN 1) wYes (wCall wp_is_number [] (waCons (wV 1) waNil)) [1]) waNil)))) (wRet (wK (.bool false))) wNext)
    (wSeq (wIfS (wTst (wOp false oEq (wOp false oIx (wV 0) (wK (.int 0))) (wK (.str "move")))) (wRet (wOp false oEq (wCb false cbLen (waCons (wV 0) waNil)) (wK (.int 3)))) wNext)
    (wSeq (wIfS (wOrT (wTst (wOp false oNe (wOp false oIx (wV 0) (wK (.int 0))) (wK (.str "turn")))) (wTst (wOp false oNe (wCb false cbLen (waCons (wV 0) waNil)) (wK (.int 5))))) (wRet (wK (.bool false))) wNext)
    (wRet (wOp false (oIn false) (wOp false oSub (wOp false oMul (wOp false oIx (wV 0) (wK (.int 1))) (wOp false oIx (wV 0) (wK (.int 4)))) (wOp false oMul (wOp false oIx (wV 0) (wK (.int 2))) (wOp false oIx (wV 0) (wK (.int 3))))) (wTup (waCons (wK (.int 1)) (waCons (wUn false oNeg (wK (.int 1))) waNil)))))))))))
/-- the kind of a thing that is no cell -/
def tyF (d : D) : Option TyD := tyD (fun _ => Option.none) d
theorem tyF_tyD {d : D} {t : TyD} (h : tyF d = some t) (μ : Mu) : tyD μ d = some t := by
  cases d <;> first | exact h | (simp [tyF, tyD, ndTy] at h; done)
def isRuleB (d : D) : Bool := match tyF d with
  | some (.o n) => decide (n = "Rule")
  | _ => false
def detB : List D → Bool
  | [.int a, .int b, .int c, .int d] => decide (a * d - b * c = 1) || decide (a * d - b * c = -1)
  | _ => false
def oneRule : List D → Bool
  | [r] => isRuleB r
  | _ => false
/-- whether a value is a step -/
def stepB : D → Bool
  | .tup (.str w :: rest) => if w = "x" ∨ w = "y" then oneRule rest
    else rest.all numD && (if w = "move" then decide (rest.length = 2) else decide (w = "turn") && detB rest)
  | _ => false
/-- a value of a known kind, its numbers not too great -/
structure Good (d : D) : Prop where
  ty : ∃ t, tyF d = some t
  len : ∀ ds, d = .tup ds → ds.length ≤ 1000
  items : ∀ ds, d = .tup ds → ∀ x ∈ ds, (∃ t, tyF x = some t) ∧ ∀ i, x = .int i → i.natAbs ≤ HUGE
section
variable {μ : Mu} {Q X : QD} {d : D} {B : Nat}
theorem cut_tail (x : D) (rest : List D) : cutD (x :: rest) (some 1) none = rest := by
  unfold cutD
  rw [show (some (1 : Int)) = some ((1 : Nat) : Int) from rfl, HT.sIx_nat, HT.sIx_none, List.length_cons, Nat.min_eq_left (by omega), List.drop_succ_cons, List.drop_zero]
  exact List.take_of_length_le (by omega)
theorem mulU_mid {i j : Int} (hi : i.natAbs ≤ HUGE) (hj : j.natAbs ≤ HUGE) : CMulU i j := mulU_huge hi hj
theorem in_xy (w : Str) : inF (.str w) [.str "x", .str "y"] = decide (w = "x" ∨ w = "y") := by
  have e : ∀ a : Str, eqF (.str a) (.str w) = decide (w = a) := fun a => by
    show (a == w) = _
    rw [Bool.eq_iff_iff, beq_iff_eq, decide_eq_true_iff]
    exact eq_comm
  simp only [inF, List.any_cons, List.any_nil, e, Bool.or_false]
  rw [Bool.eq_iff_iff]
  simp
theorem num_int {x : D} (h : numD x = true) : ∃ i, x = .int i := by
  cases x <;> first | exact ⟨_, rfl⟩ | cases h
theorem isi_tuple {t : TyD} (h : tyF d = some t) : isiD t (.ty "tuple") = some (match d with | .tup _ => true | _ => false) := by
  cases d <;> first | (cases h; rfl) | (simp [tyF, tyD, ndTy] at h; done)
theorem isi_str {t : TyD} (h : tyF d = some t) : isiD t (.ty "str") = some (match d with | .str _ => true | _ => false) := by
  cases d <;> first | (cases h; rfl) | (simp [tyF, tyD, ndTy] at h; done)
theorem isi_rule {t : TyD} (h : tyF d = some t) : isiD t (.cls "Rule") = some (isRuleB d) := by
  unfold isRuleB
  rw [h]
  cases t with
  | b n => rfl
  | o n =>
    show some (subCC n "Rule") = some (decide (n = "Rule"))
    unfold subCC
    rw [show decide (("Rule" : Str) = "CrossError") = false by decide]
    simp
theorem ok_is_step (h : Good d) (q : Q (.bool (stepB d)) μ) : wp_is_step [d] μ Q X := by
  obtain ⟨t, ht⟩ := h.ty
  unfold wp_is_step
  simp only [Jbx, initE, Jcx, Jcj, Jbl, Jbm, Jc3, Jcs, Jct, Jca, Jcp, Jbn, Jcz, Jbo, Jbu, Jdd, Jde, Jdc, Jdf, Jdj, Jdh, Jdi, Jdg, Jc6, Jcc, Jd7, Jd6, Jcb, Jcm, Jd5, Jd4, Jcg, Jbs, Jd3, Jcl, Jbk, Jco, Jc9, Jbj, Jcn, Jck, Jd9, Jd8, Jdb, Jbp, Jci, Jcr, Jc5, Jcy, Jch, Jbq, Jcu, Jd0, Jdk, Jdl, Jcd, Jcv, Jcw, Jc8, Jbr, Jc4, Jbz, Jcf, gt, st, Jbc, Jba, Jbb, Jb8, Jbi, Ja5, atI0, atI1, atI2, atI3, atI4, ixN20, ixN21, List.map_cons, List.map_nil, List.cons_append, List.nil_append, List.append_nil, List.length_cons, List.length_nil, List.replicate_succ, List.replicate_zero, Nat.add_one_sub_one, Jda, Jbt, Jc0, Jc2, Jby, Jae, Jag, Jah, Jaf, Jb7, Jaw, Jax, Jak, Jav, Jb4, Jau, Jat, Jan, Jam, Jb2, Jai, Jaj, Jb0, Jb1, Jaq, Jb3, Jar, Jas, Jao, Jap, Jb6, Jb5, Ja7, Ja8, Jac, Jab, Ja0, Ja9, Jaa, Jbg, Jbh, Ja6, Jad, Jbd, Jbf, Jbe, Jb9, Ja2, Ja1, Ja4, Ja3, cbIsi, two, tyF_tyD ht μ, isi_tuple ht, true_and]
  cases d with
  | tup ds =>
    simp only [Bool.not_true, if_neg Bool.false_ne_true, Jbx, initE, Jcx, Jcj, Jbl, Jbm, Jc3, Jcs, Jct, Jca, Jcp, Jbn, Jcz, Jbo, Jbu, Jdd, Jde, Jdc, Jdf, Jdj, Jdh, Jdi, Jdg, Jc6, Jcc, Jd7, Jd6, Jcb, Jcm, Jd5, Jd4, Jcg, Jbs, Jd3, Jcl, Jbk, Jco, Jc9, Jbj, Jcn, Jck, Jd9, Jd8, Jdb, Jbp, Jci, Jcr, Jc5, Jcy, Jch, Jbq, Jcu, Jd0, Jdk, Jdl, Jcd, Jcv, Jcw, Jc8, Jbr, Jc4, Jbz, Jcf, gt, st, Jbc, Jba, Jbb, Jb8, Jbi, Ja5, atI0, atI1, atI2, atI3, atI4, ixN20, ixN21, List.map_cons, List.map_nil, List.cons_append, List.nil_append, List.append_nil, List.length_cons, List.length_nil, List.replicate_succ, List.replicate_zero, Nat.add_one_sub_one, Jda, Jbt, Jc0, Jc2, Jby, Jae, Jag, Jah, Jaf, Jb7, Jaw, Jax, Jak, Jav, Jb4, Jau, Jat, Jan, Jam, Jb2, Jai, Jaj, Jb0, Jb1, Jaq, Jb3, Jar, Jas, Jao, Jap, Jb6, Jb5, Ja7, Ja8, Jac, Jab, Ja0, Ja9, Jaa, Jbg, Jbh, Ja6, Jad, Jbd, Jbf, Jbe, Jb9, Ja2, Ja1, Ja4, Ja3]
    cases ds with
    | nil =>
      simp only [Jbx, initE, Jcx, Jcj, Jbl, Jbm, Jc3, Jcs, Jct, Jca, Jcp, Jbn, Jcz, Jbo, Jbu, Jdd, Jde, Jdc, Jdf, Jdj, Jdh, Jdi, Jdg, Jc6, Jcc, Jd7, Jd6, Jcb, Jcm, Jd5, Jd4, Jcg, Jbs, Jd3, Jcl, Jbk, Jco, Jc9, Jbj, Jcn, Jck, Jd9, Jd8, Jdb, Jbp, Jci, Jcr, Jc5, Jcy, Jch, Jbq, Jcu, Jd0, Jdk, Jdl, Jcd, Jcv, Jcw, Jc8, Jbr, Jc4, Jbz, Jcf, gt, st, Jbc, Jba, Jbb, Jb8, Jbi, Ja5, atI0, atI1, atI2, atI3, atI4, ixN20, ixN21, List.map_cons, List.map_nil, List.cons_append, List.nil_append, List.append_nil, List.length_cons, List.length_nil, List.replicate_succ, List.replicate_zero, Nat.add_one_sub_one, Jda, Jbt, Jc0, Jc2, Jby, Jae, Jag, Jah, Jaf, Jb7, Jaw, Jax, Jak, Jav, Jb4, Jau, Jat, Jan, Jam, Jb2, Jai, Jaj, Jb0, Jb1, Jaq, Jb3, Jar, Jas, Jao, Jap, Jb6, Jb5, Ja7, Ja8, Jac, Jab, Ja0, Ja9, Jaa, Jbg, Jbh, Ja6, Jad, Jbd, Jbf, Jbe, Jb9, Ja2, Ja1, Ja4, Ja3, List.length_nil]
      rw [if_pos (by decide)]
      exact q
    | cons x rest =>
      obtain ⟨⟨tx, hx⟩, _⟩ := h.items _ rfl x List.mem_cons_self
      simp only [Jbx, initE, Jcx, Jcj, Jbl, Jbm, Jc3, Jcs, Jct, Jca, Jcp, Jbn, Jcz, Jbo, Jbu, Jdd, Jde, Jdc, Jdf, Jdj, Jdh, Jdi, Jdg, Jc6, Jcc, Jd7, Jd6, Jcb, Jcm, Jd5, Jd4, Jcg, Jbs, Jd3, Jcl, Jbk, Jco, Jc9, Jbj, Jcn, Jck, Jd9, Jd8, Jdb, Jbp, Jci, Jcr, Jc5, Jcy, Jch, Jbq, Jcu, Jd0, Jdk, Jdl, Jcd, Jcv, Jcw, Jc8, Jbr, Jc4, Jbz, Jcf, gt, st, Jbc, Jba, Jbb, Jb8, Jbi, Ja5, atI0, atI1, atI2, atI3, atI4, ixN20, ixN21, List.map_cons, List.map_nil, List.cons_append, List.nil_append, List.append_nil, List.length_cons, List.length_nil, List.replicate_succ, List.replicate_zero, Nat.add_one_sub_one, Jda, Jbt, Jc0, Jc2, Jby, Jae, Jag, Jah, Jaf, Jb7, Jaw, Jax, Jak, Jav, Jb4, Jau, Jat, Jan, Jam, Jb2, Jai, Jaj, Jb0, Jb1, Jaq, Jb3, Jar, Jas, Jao, Jap, Jb6, Jb5, Ja7, Ja8, Jac, Jab, Ja0, Ja9, Jaa, Jbg, Jbh, Ja6, Jad, Jbd, Jbf, Jbe, Jb9, Ja2, Ja1, Ja4, Ja3, tyF_tyD hx μ, isi_str hx]
      rw [if_neg (by simp; omega)]
      cases x with
      | str w =>
        simp only [Bool.not_true, if_neg Bool.false_ne_true, Jbx, initE, Jcx, Jcj, Jbl, Jbm, Jc3, Jcs, Jct, Jca, Jcp, Jbn, Jcz, Jbo, Jbu, Jdd, Jde, Jdc, Jdf, Jdj, Jdh, Jdi, Jdg, Jc6, Jcc, Jd7, Jd6, Jcb, Jcm, Jd5, Jd4, Jcg, Jbs, Jd3, Jcl, Jbk, Jco, Jc9, Jbj, Jcn, Jck, Jd9, Jd8, Jdb, Jbp, Jci, Jcr, Jc5, Jcy, Jch, Jbq, Jcu, Jd0, Jdk, Jdl, Jcd, Jcv, Jcw, Jc8, Jbr, Jc4, Jbz, Jcf, gt, st, Jbc, Jba, Jbb, Jb8, Jbi, Ja5, atI0, atI1, atI2, atI3, atI4, ixN20, ixN21, List.map_cons, List.map_nil, List.cons_append, List.nil_append, List.append_nil, List.length_cons, List.length_nil, List.replicate_succ, List.replicate_zero, Nat.add_one_sub_one, Jda, Jbt, Jc0, Jc2, Jby, Jae, Jag, Jah, Jaf, Jb7, Jaw, Jax, Jak, Jav, Jb4, Jau, Jat, Jan, Jam, Jb2, Jai, Jaj, Jb0, Jb1, Jaq, Jb3, Jar, Jas, Jao, Jap, Jb6, Jb5, Ja7, Ja8, Jac, Jab, Ja0, Ja9, Jaa, Jbg, Jbh, Ja6, Jad, Jbd, Jbf, Jbe, Jb9, Ja2, Ja1, Ja4, Ja3]
        have hit : ∀ x ∈ rest, (∃ t, tyF x = some t) ∧ ∀ i, x = .int i → i.natAbs ≤ HUGE := fun x hx => h.items _ rfl x (List.mem_cons_of_mem _ hx)
        have hlen : rest.length + 1 ≤ 1000 := h.len _ rfl
        refine ⟨by decide, rfl, rfl, ?_⟩
        rw [in_xy]
        by_cases hw : w = "x" ∨ w = "y"
        · rw [if_pos (decide_eq_true hw)]
          have hb : stepB (.tup (.str w :: rest)) = oneRule rest := by rw [stepB, if_pos hw]
          rw [hb] at q
          cases rest with
          | nil =>
            rw [if_neg (by simp)]
            exact q
          | cons r rest2 =>
            cases rest2 with
            | nil =>
              obtain ⟨⟨tr, hr⟩, _⟩ := hit r List.mem_cons_self
              rw [if_pos (by simp)]
              simp only [atI1, tyF_tyD hr μ, isi_rule hr]
              exact q
            | cons r2 rest3 =>
              rw [if_neg (by simp; omega)]
              exact q
        · rw [if_neg (by simpa using hw), cut_tail]
          have hb : stepB (.tup (.str w :: rest)) = (rest.all numD && (if w = "move" then decide (rest.length = 2) else decide (w = "turn") && detB rest)) := by rw [stepB, if_neg hw]
          rw [hb] at q
          refine ⟨by rw [sizeLine_eq]; omega, lc_inv (fun i acc μ' => μ' = μ ∧ acc = (rest.take i).map (fun d => D.bool (numD d))) ⟨rfl, rfl⟩ ?_ ?_⟩
          · rintro i x acc μ' N hx ⟨rfl, rfl⟩ hN
            obtain ⟨⟨tx, hx2⟩, _⟩ := hit x (List.mem_of_getElem? hx)
            refine ⟨trivial, ?_⟩
            simp only [Jbx, initE, Jcx, Jcj, Jbl, Jbm, Jc3, Jcs, Jct, Jca, Jcp, Jbn, Jcz, Jbo, Jbu, Jdd, Jde, Jdc, Jdf, Jdj, Jdh, Jdi, Jdg, Jc6, Jcc, Jd7, Jd6, Jcb, Jcm, Jd5, Jd4, Jcg, Jbs, Jd3, Jcl, Jbk, Jco, Jc9, Jbj, Jcn, Jck, Jd9, Jd8, Jdb, Jbp, Jci, Jcr, Jc5, Jcy, Jch, Jbq, Jcu, Jd0, Jdk, Jdl, Jcd, Jcv, Jcw, Jc8, Jbr, Jc4, Jbz, Jcf, gt, st, Jbc, Jba, Jbb, Jb8, Jbi, Ja5, atI0, atI1, atI2, atI3, atI4, ixN20, ixN21, List.map_cons, List.map_nil, List.cons_append, List.nil_append, List.append_nil, List.length_cons, List.length_nil, List.replicate_succ, List.replicate_zero, Nat.add_one_sub_one, Jda, Jbt, Jc0, Jc2, Jby, Jae, Jag, Jah, Jaf, Jb7, Jaw, Jax, Jak, Jav, Jb4, Jau, Jat, Jan, Jam, Jb2, Jai, Jaj, Jb0, Jb1, Jaq, Jb3, Jar, Jas, Jao, Jap, Jb6, Jb5, Ja7, Ja8, Jac, Jab, Ja0, Ja9, Jaa, Jbg, Jbh, Ja6, Jad, Jbd, Jbf, Jbe, Jb9, Ja2, Ja1, Ja4, Ja3, wipeE, if_true]
            refine ok_is_number (tyF_tyD hx2 _) (hN _ _ ⟨rfl, ?_⟩)
            rw [List.take_succ, hx, List.map_append]
            rfl
          · rintro acc μ' ⟨rfl, rfl⟩
            refine ⟨trivial, ?_⟩
            rw [List.take_length]
            have eb : boolsD (rest.map fun d => D.bool (numD d)) = some (rest.map numD) := by
              rw [show (rest.map fun d => D.bool (numD d)) = (rest.map numD).map D.bool by rw [List.map_map]; rfl]
              exact boolsD_map _
            simp only [cbBs, Jb8, seqL, eb, Jbc]
            rw [List.all_map]
            show if (!(rest.all (id ∘ numD))) = true then _ else _
            rw [show (id ∘ numD) = numD from rfl]
            cases ha : rest.all numD with
            | false =>
              rw [ha] at q
              exact q
            | true =>
              rw [ha] at q
              simp only [Bool.not_true, if_neg Bool.false_ne_true, Bool.true_and] at q ⊢
              by_cases hm : w = "move"
              · rw [if_pos (decide_eq_true hm)]
                rw [if_pos hm] at q
                rw [show decide (((rest.length + 1 : Nat) : Int) = 3) = decide (rest.length = 2) by rw [decide_eq_decide]; omega]
                exact q
              · rw [if_neg (by simpa using hm)]
                rw [if_neg hm] at q
                by_cases htn : w = "turn"
                · rw [if_neg (by simp [htn])]
                  rw [decide_eq_true htn, Bool.true_and] at q
                  have hint : ∀ x ∈ rest, ∃ i : Int, x = .int i ∧ i.natAbs ≤ HUGE := fun x hx => by
                    obtain ⟨i, rfl⟩ := num_int (List.all_eq_true.mp ha x hx)
                    exact ⟨i, rfl, (hit _ hx).2 i rfl⟩
                  by_cases hl4 : rest.length = 4
                  · rw [if_neg (by simp; omega)]
                    match rest, hl4, hint, q with
                    | [x1, x2, x3, x4], _, hint, q =>
                      obtain ⟨a, rfl, ha'⟩ := hint x1 (by simp)
                      obtain ⟨b, rfl, hb'⟩ := hint x2 (by simp)
                      obtain ⟨c, rfl, hc'⟩ := hint x3 (by simp)
                      obtain ⟨e, rfl, he'⟩ := hint x4 (by simp)
                      simp only [Jbx, initE, Jcx, Jcj, Jbl, Jbm, Jc3, Jcs, Jct, Jca, Jcp, Jbn, Jcz, Jbo, Jbu, Jdd, Jde, Jdc, Jdf, Jdj, Jdh, Jdi, Jdg, Jc6, Jcc, Jd7, Jd6, Jcb, Jcm, Jd5, Jd4, Jcg, Jbs, Jd3, Jcl, Jbk, Jco, Jc9, Jbj, Jcn, Jck, Jd9, Jd8, Jdb, Jbp, Jci, Jcr, Jc5, Jcy, Jch, Jbq, Jcu, Jd0, Jdk, Jdl, Jcd, Jcv, Jcw, Jc8, Jbr, Jc4, Jbz, Jcf, gt, st, Jbc, Jba, Jbb, Jb8, Jbi, Ja5, atI0, atI1, atI2, atI3, atI4, ixN20, ixN21, List.map_cons, List.map_nil, List.cons_append, List.nil_append, List.append_nil, List.length_cons, List.length_nil, List.replicate_succ, List.replicate_zero, Nat.add_one_sub_one, Jda, Jbt, Jc0, Jc2, Jby, Jae, Jag, Jah, Jaf, Jb7, Jaw, Jax, Jak, Jav, Jb4, Jau, Jat, Jan, Jam, Jb2, Jai, Jaj, Jb0, Jb1, Jaq, Jb3, Jar, Jas, Jao, Jap, Jb6, Jb5, Ja7, Ja8, Jac, Jab, Ja0, Ja9, Jaa, Jbg, Jbh, Ja6, Jad, Jbd, Jbf, Jbe, Jb9, Ja2, Ja1, Ja4, Ja3]
                      refine ⟨mulU_mid ha' he', mulU_mid hb' hc', by decide, rfl, rfl, ?_⟩
                      have ee : inF (.int (a * e - b * c)) [.int 1, .int (-1)] = detB [.int a, .int b, .int c, .int e] := by
                        show ((1 : Int) == a * e - b * c || ((-1 : Int) == a * e - b * c || false)) = (decide (a * e - b * c = 1) || decide (a * e - b * c = -1))
                        rw [Bool.or_false, Bool.eq_iff_iff, Bool.or_eq_true, Bool.or_eq_true, beq_iff_eq, beq_iff_eq, decide_eq_true_iff, decide_eq_true_iff]
                        exact or_congr eq_comm eq_comm
                      rw [ee]
                      exact q
                  · rw [if_pos (by simp; omega)]
                    have e0 : detB rest = false := by
                      unfold detB
                      split
                      · exact absurd rfl hl4
                      · rfl
                    rw [e0] at q
                    exact q
                · rw [if_pos (by simp [htn])]
                  rw [decide_eq_false htn, Bool.false_and] at q
                  rw [if_pos trivial]
                  exact q
      | _ =>
        simp only [Bool.not_false, if_true]
        exact q
  | _ =>
    simp only [Bool.not_false, if_true]
    exact q
end
end DL

set_option Elab.async false
set_option linter.all false
set_option maxRecDepth 100000
set_option maxHeartbeats 4000000
/-! P8: programs made, told, compared. -/
namespace DL
open PySem L2
def wp_Program___init__ : WP := (wDef 2 4 (wSeq (wIfS (wNotT (wTst (wCall wp_is_list [] (waCons (wV 1) waNil)))) (wRzA "BadProgram" "at" (wK .none)) wNext)
    (wSeq (wFor (wiEnum (waCons (wV 1) waNil)) (wgTup 2 (wgCons (wgN 2) (wgCons (wgN 3) wgNil))) (wIfS (wNotT (wTst (wCall wp_is_step [] (waCons (wV 3) waNil)))) (wRzA "BadProgram" "at" (wV 2)) wNext))
    (wSetF "Program" "own_steps" (wV 0) (wCb false cbTup (waCons (wV 1) waNil))))))
/-- a program of any steps -/
def progE (ds : List D) : D := .obj "Program" ["own_steps"] [.tup ds]
def progD (ss : List Stp) : D := progE (ss.map Stp.p)
theorem step_good {s : Stp} {B : Nat} (h : s.Ok B) (hB : B ≤ HUGE) : Good s.p ∧ stepB s.p = true := by
  have hx : ∀ i : Int, i.natAbs ≤ B → i.natAbs ≤ HUGE := fun i hi => Nat.le_trans hi hB
  cases s with
  | x ns =>
    refine ⟨⟨⟨_, rfl⟩, fun ds e => by cases e; simp, fun ds e x hm => ?_⟩, rfl⟩
    cases e
    simp only [List.mem_cons, List.not_mem_nil, or_false] at hm
    rcases hm with rfl | rfl <;> exact ⟨⟨_, rfl⟩, fun i z => by cases z⟩
  | y ns =>
    refine ⟨⟨⟨_, rfl⟩, fun ds e => by cases e; simp, fun ds e x hm => ?_⟩, rfl⟩
    cases e
    simp only [List.mem_cons, List.not_mem_nil, or_false] at hm
    rcases hm with rfl | rfl <;> exact ⟨⟨_, rfl⟩, fun i z => by cases z⟩
  | move a b =>
    refine ⟨⟨⟨_, rfl⟩, fun ds e => by cases e; simp, fun ds e x hm => ?_⟩, rfl⟩
    cases e
    simp only [List.mem_cons, List.not_mem_nil, or_false] at hm
    rcases hm with rfl | rfl | rfl
    · exact ⟨⟨_, rfl⟩, fun i z => by cases z⟩
    · exact ⟨⟨_, rfl⟩, fun i z => by cases z; exact hx _ h.1⟩
    · exact ⟨⟨_, rfl⟩, fun i z => by cases z; exact hx _ h.2⟩
  | turn a b c d =>
    obtain ⟨hd, h1, h2, h3, h4⟩ := h
    refine ⟨⟨⟨_, rfl⟩, fun ds e => by cases e; simp, fun ds e x hm => ?_⟩, ?_⟩
    · cases e
      simp only [List.mem_cons, List.not_mem_nil, or_false] at hm
      rcases hm with rfl | rfl | rfl | rfl | rfl
      · exact ⟨⟨_, rfl⟩, fun i z => by cases z⟩
      · exact ⟨⟨_, rfl⟩, fun i z => by cases z; exact hx _ h1⟩
      · exact ⟨⟨_, rfl⟩, fun i z => by cases z; exact hx _ h2⟩
      · exact ⟨⟨_, rfl⟩, fun i z => by cases z; exact hx _ h3⟩
      · exact ⟨⟨_, rfl⟩, fun i z => by cases z; exact hx _ h4⟩
    · show (true && (decide (a * d - b * c = 1) || decide (a * d - b * c = -1))) = true
      rw [Bool.true_and, Bool.or_eq_true, decide_eq_true_iff, decide_eq_true_iff]
      exact hd
section
variable {μ : Mu} {Q X : QD} {d : D} {B : Nat}
theorem enum_get {ds : List D} {i : Nat} {x : D} (h : (enumD 0 ds)[i]? = some x) : ∃ y, ds[i]? = some y ∧ x = .tup [.int (i : Int), y] := by
  rw [enumD_get] at h
  cases e : ds[i]? with
  | none => rw [e] at h; cases h
  | some n =>
    rw [e] at h
    cases h
    exact ⟨n, rfl, by simp⟩
theorem ok_Program_init {p : Addr} {ds : List D} (h : sqD μ d = some ds) (hs : ∀ ns, d ≠ .script ns) (hp : μ p = Option.none) (hl : ds.length ≤ 2 ^ 20) (hg : ∀ x ∈ ds, Good x)
    (q : (∀ x ∈ ds, stepB x = true) → Q .none (up μ p (.obj "Program" ["own_steps"] [.tup ds])))
    (x : ∀ (i : Nat) y, ds[i]? = some y → stepB y = false → (∀ j z, j < i → ds[j]? = some z → stepB z = true) → X (.err "BadProgram" ["at"] [.int (i : Int)]) (up μ p (.obj "Program" [] []))) : wp_Program___init__ [.cell p, d] (up μ p (.obj "Program" [] [])) Q X := by
  have h1 := sq_up (nd := .obj "Program" [] []) h hp
  obtain ⟨t, h2, h3⟩ := ty_sq h1 hs
  unfold wp_Program___init__
  simp only [Jbx, initE, Jcx, Jcj, Jbl, Jbm, Jc3, Jcs, Jct, Jca, Jcp, Jbn, Jcz, Jbo, Jbu, Jdd, Jde, Jdc, Jdf, Jdj, Jdh, Jdi, Jdg, Jc6, Jcc, Jd7, Jd6, Jcb, Jcm, Jd5, Jd4, Jcg, Jbs, Jd3, Jcl, Jbk, Jco, Jc9, Jbj, Jcn, Jck, Jd9, Jd8, Jdb, Jbp, Jci, Jcr, Jc5, Jcy, Jch, Jbq, Jcu, Jd0, Jdk, Jdl, Jcd, Jcv, Jcw, Jc8, Jbr, Jc4, Jbz, Jcf, gt, st, Jbc, Jba, Jbb, Jb8, Jbi, Ja5, atI0, atI1, atI2, atI3, atI4, ixN20, ixN21, List.map_cons, List.map_nil, List.cons_append, List.nil_append, List.append_nil, List.length_cons, List.length_nil, List.replicate_succ, List.replicate_zero, Nat.add_one_sub_one, Jda, Jbt, Jc0, Jc2, Jby, Jae, Jag, Jah, Jaf, Jb7, Jaw, Jax, Jak, Jav, Jb4, Jau, Jat, Jan, Jam, Jb2, Jai, Jaj, Jb0, Jb1, Jaq, Jb3, Jar, Jas, Jao, Jap, Jb6, Jb5, Ja7, Ja8, Jac, Jab, Ja0, Ja9, Jaa, Jbg, Jbh, Ja6, Jad, Jbd, Jbf, Jbe, Jb9, Ja2, Ja1, Ja4, Ja3]
  refine ⟨trivial, ok_is_list h2 ?_⟩
  rw [h3]
  simp only [Bool.not_true, if_neg Bool.false_ne_true, h1]
  refine ⟨by rw [enumD_len]; omega, for_inv (fun i e μ' => μ' = up μ p (.obj "Program" [] []) ∧ (∃ a b, e = [some (.cell p), some d, a, b]) ∧ ∀ j z, j < i → ds[j]? = some z → stepB z = true) ⟨rfl, ⟨_, _, rfl⟩, fun j z hj => absurd hj (Nat.not_lt_zero j)⟩ ?_ ?_⟩
  · rintro i y e μ' N hx ⟨rfl, ⟨a, b, rfl⟩, hj⟩ hN
    obtain ⟨n, hn, rfl⟩ := enum_get hx
    refine ⟨okS_sq h1, ?_⟩
    simp only [Jbx, initE, Jcx, Jcj, Jbl, Jbm, Jc3, Jcs, Jct, Jca, Jcp, Jbn, Jcz, Jbo, Jbu, Jdd, Jde, Jdc, Jdf, Jdj, Jdh, Jdi, Jdg, Jc6, Jcc, Jd7, Jd6, Jcb, Jcm, Jd5, Jd4, Jcg, Jbs, Jd3, Jcl, Jbk, Jco, Jc9, Jbj, Jcn, Jck, Jd9, Jd8, Jdb, Jbp, Jci, Jcr, Jc5, Jcy, Jch, Jbq, Jcu, Jd0, Jdk, Jdl, Jcd, Jcv, Jcw, Jc8, Jbr, Jc4, Jbz, Jcf, gt, st, Jbc, Jba, Jbb, Jb8, Jbi, Ja5, atI0, atI1, atI2, atI3, atI4, ixN20, ixN21, List.map_cons, List.map_nil, List.cons_append, List.nil_append, List.append_nil, List.length_cons, List.length_nil, List.replicate_succ, List.replicate_zero, Nat.add_one_sub_one, Jda, Jbt, Jc0, Jc2, Jby, Jae, Jag, Jah, Jaf, Jb7, Jaw, Jax, Jak, Jav, Jb4, Jau, Jat, Jan, Jam, Jb2, Jai, Jaj, Jb0, Jb1, Jaq, Jb3, Jar, Jas, Jao, Jap, Jb6, Jb5, Ja7, Ja8, Jac, Jab, Ja0, Ja9, Jaa, Jbg, Jbh, Ja6, Jad, Jbd, Jbf, Jbe, Jb9, Ja2, Ja1, Ja4, Ja3]
    refine ⟨trivial, ok_is_step (hg n (List.mem_of_getElem? hn)) ?_⟩
    cases hb : stepB n with
    | false => exact x i n hn hb hj
    | true =>
      refine hN _ _ ⟨rfl, ⟨_, _, rfl⟩, fun j z hj2 hz => ?_⟩
      by_cases e : j < i
      · exact hj j z e hz
      · have : j = i := by omega
        subst this
        rw [hn] at hz
        cases hz
        exact hb
  · rintro e μ' ⟨rfl, ⟨a, b, rfl⟩, hj⟩
    refine ⟨okS_sq h1, ?_⟩
    rw [enumD_len] at hj
    simp only [Jbx, initE, Jcx, Jcj, Jbl, Jbm, Jc3, Jcs, Jct, Jca, Jcp, Jbn, Jcz, Jbo, Jbu, Jdd, Jde, Jdc, Jdf, Jdj, Jdh, Jdi, Jdg, Jc6, Jcc, Jd7, Jd6, Jcb, Jcm, Jd5, Jd4, Jcg, Jbs, Jd3, Jcl, Jbk, Jco, Jc9, Jbj, Jcn, Jck, Jd9, Jd8, Jdb, Jbp, Jci, Jcr, Jc5, Jcy, Jch, Jbq, Jcu, Jd0, Jdk, Jdl, Jcd, Jcv, Jcw, Jc8, Jbr, Jc4, Jbz, Jcf, gt, st, Jbc, Jba, Jbb, Jb8, Jbi, Ja5, atI0, atI1, atI2, atI3, atI4, ixN20, ixN21, List.map_cons, List.map_nil, List.cons_append, List.nil_append, List.append_nil, List.length_cons, List.length_nil, List.replicate_succ, List.replicate_zero, Nat.add_one_sub_one, Jda, Jbt, Jc0, Jc2, Jby, Jae, Jag, Jah, Jaf, Jb7, Jaw, Jax, Jak, Jav, Jb4, Jau, Jat, Jan, Jam, Jb2, Jai, Jaj, Jb0, Jb1, Jaq, Jb3, Jar, Jas, Jao, Jap, Jb6, Jb5, Ja7, Ja8, Jac, Jab, Ja0, Ja9, Jaa, Jbg, Jbh, Ja6, Jad, Jbd, Jbf, Jbe, Jb9, Ja2, Ja1, Ja4, Ja3, tup_sq h1, up_same, ndO, putN, up_up]
    refine ⟨trivial, by decide, q fun y hy => ?_⟩
    obtain ⟨i, hi⟩ := List.getElem?_of_mem hy
    exact hj i y (List.getElem?_eq_some_iff.mp hi).1 hi
/-- Program(..) of steps -/
theorem mk_Program {Q X : QD} {ds : List D} (h : sqD μ d = some ds) (hs : ∀ ns, d ≠ .script ns) (hl : ds.length ≤ 2 ^ 20) (hg : ∀ x ∈ ds, Good x ∧ stepB x = true) (q : Q (progE ds) μ) (p : Addr) (hp : μ p = Option.none) :
    wp_Program___init__ [.cell p, d] (up μ p (.obj "Program" [] [])) (mkQ false Q p) X := by
  refine ok_Program_init h hs hp hl (fun x hx => (hg x hx).1) (fun _ => mkQ_f hp q) fun i y hy hb => ?_
  have := (hg y (List.mem_of_getElem? hy)).2
  rw [hb] at this
  cases this
theorem mkRule {Q X : QD} {ns : List Int} (h : sqD μ d = some (iL ns)) (hs : ∀ ns, d ≠ .script ns) (hl : ns.length ≤ 2 ^ 20) (q : Q (ruleD (M.trim ns)) μ) (p : Addr) (hp : μ p = Option.none) :
    wp_Rule___init__ [.cell p, d] (up μ p (.obj "Rule" [] [])) (mkQ false Q p) X := ok_Rule_init h hs hp hl (mkQ_f hp q)
end
end DL

set_option Elab.async false
set_option linter.all false
set_option maxRecDepth 100000
set_option maxHeartbeats 4000000
/-! P9: the laws' own ways there and back. -/
namespace DL
open PySem L2
section
variable {μ : Mu} {Q X : QD} {d : D} {B : Nat}
/-! ### the laws' own ways there and back -/
def wp_law_step_of : WP := (wDef 1 1 (wRet (wIf (wTst (wCall wp_law_is_low [] (waCons (wV 0) waNil))) (wTup (waCons (wOp false oIx (wV 0) (wK (.int 0))) (waCons (wMake false "Rule" wp_Rule___init__ [] (waCons (wCb false cbList (waCons (wOp false oIx (wV 0) (wK (.int 1))) waNil)) waNil)) waNil))) (wV 0))))
theorem ok_step_of {s : Stp} (h : s.Ok B) (q : Q s.p μ) : wp_law_step_of [s.b] μ Q X := by
  unfold wp_law_step_of
  simp only [Jbx, initE, Jcx, Jcj, Jbl, Jbm, Jc3, Jcs, Jct, Jca, Jcp, Jbn, Jcz, Jbo, Jbu, Jdd, Jde, Jdc, Jdf, Jdj, Jdh, Jdi, Jdg, Jc6, Jcc, Jd7, Jd6, Jcb, Jcm, Jd5, Jd4, Jcg, Jbs, Jd3, Jcl, Jbk, Jco, Jc9, Jbj, Jcn, Jck, Jd9, Jd8, Jdb, Jbp, Jci, Jcr, Jc5, Jcy, Jch, Jbq, Jcu, Jd0, Jdk, Jdl, Jcd, Jcv, Jcw, Jc8, Jbr, Jc4, Jbz, Jcf, gt, st, Jbc, Jba, Jbb, Jb8, Jbi, Ja5, atI0, atI1, atI2, atI3, atI4, ixN20, ixN21, List.map_cons, List.map_nil, List.cons_append, List.nil_append, List.append_nil, List.length_cons, List.length_nil, List.replicate_succ, List.replicate_zero, Nat.add_one_sub_one, Jda, Jbt, Jc0, Jc2, Jby, Jae, Jag, Jah, Jaf, Jb7, Jaw, Jax, Jak, Jav, Jb4, Jau, Jat, Jan, Jam, Jb2, Jai, Jaj, Jb0, Jb1, Jaq, Jb3, Jar, Jas, Jao, Jap, Jb6, Jb5, Ja7, Ja8, Jac, Jab, Ja0, Ja9, Jaa, Jbg, Jbh, Ja6, Jad, Jbd, Jbf, Jbe, Jb9, Ja2, Ja1, Ja4, Ja3]
  refine ⟨trivial, ok_is_low ?_⟩
  cases s with
  | x ns =>
    simp only [Stp.low, if_true, Stp.b, Jbx, initE, Jcx, Jcj, Jbl, Jbm, Jc3, Jcs, Jct, Jca, Jcp, Jbn, Jcz, Jbo, Jbu, Jdd, Jde, Jdc, Jdf, Jdj, Jdh, Jdi, Jdg, Jc6, Jcc, Jd7, Jd6, Jcb, Jcm, Jd5, Jd4, Jcg, Jbs, Jd3, Jcl, Jbk, Jco, Jc9, Jbj, Jcn, Jck, Jd9, Jd8, Jdb, Jbp, Jci, Jcr, Jc5, Jcy, Jch, Jbq, Jcu, Jd0, Jdk, Jdl, Jcd, Jcv, Jcw, Jc8, Jbr, Jc4, Jbz, Jcf, gt, st, Jbc, Jba, Jbb, Jb8, Jbi, Ja5, atI0, atI1, atI2, atI3, atI4, ixN20, ixN21, List.map_cons, List.map_nil, List.cons_append, List.nil_append, List.append_nil, List.length_cons, List.length_nil, List.replicate_succ, List.replicate_zero, Nat.add_one_sub_one, Jda, Jbt, Jc0, Jc2, Jby, Jae, Jag, Jah, Jaf, Jb7, Jaw, Jax, Jak, Jav, Jb4, Jau, Jat, Jan, Jam, Jb2, Jai, Jaj, Jb0, Jb1, Jaq, Jb3, Jar, Jas, Jao, Jap, Jb6, Jb5, Ja7, Ja8, Jac, Jab, Ja0, Ja9, Jaa, Jbg, Jbh, Ja6, Jad, Jbd, Jbf, Jbe, Jb9, Ja2, Ja1, Ja4, Ja3]
    intro p hp
    refine mkRule (ns := ns) rfl (fun _ z => by cases z) (by have := h.2.1; omega) ?_ p hp
    rw [h.1]
    exact ⟨by simp [sizeLine_eq], q⟩
  | y ns =>
    simp only [Stp.low, if_true, Stp.b, Jbx, initE, Jcx, Jcj, Jbl, Jbm, Jc3, Jcs, Jct, Jca, Jcp, Jbn, Jcz, Jbo, Jbu, Jdd, Jde, Jdc, Jdf, Jdj, Jdh, Jdi, Jdg, Jc6, Jcc, Jd7, Jd6, Jcb, Jcm, Jd5, Jd4, Jcg, Jbs, Jd3, Jcl, Jbk, Jco, Jc9, Jbj, Jcn, Jck, Jd9, Jd8, Jdb, Jbp, Jci, Jcr, Jc5, Jcy, Jch, Jbq, Jcu, Jd0, Jdk, Jdl, Jcd, Jcv, Jcw, Jc8, Jbr, Jc4, Jbz, Jcf, gt, st, Jbc, Jba, Jbb, Jb8, Jbi, Ja5, atI0, atI1, atI2, atI3, atI4, ixN20, ixN21, List.map_cons, List.map_nil, List.cons_append, List.nil_append, List.append_nil, List.length_cons, List.length_nil, List.replicate_succ, List.replicate_zero, Nat.add_one_sub_one, Jda, Jbt, Jc0, Jc2, Jby, Jae, Jag, Jah, Jaf, Jb7, Jaw, Jax, Jak, Jav, Jb4, Jau, Jat, Jan, Jam, Jb2, Jai, Jaj, Jb0, Jb1, Jaq, Jb3, Jar, Jas, Jao, Jap, Jb6, Jb5, Ja7, Ja8, Jac, Jab, Ja0, Ja9, Jaa, Jbg, Jbh, Ja6, Jad, Jbd, Jbf, Jbe, Jb9, Ja2, Ja1, Ja4, Ja3]
    intro p hp
    refine mkRule (ns := ns) rfl (fun _ z => by cases z) (by have := h.2.1; omega) ?_ p hp
    rw [h.1]
    exact ⟨by simp [sizeLine_eq], q⟩
  | move a b => exact q
  | turn a b c d => exact q
theorem map_get {α : Type} {f : α → D} {ss : List α} {i : Nat} {x : D} (h : (ss.map f)[i]? = some x) : ∃ s, ss[i]? = some s ∧ x = f s := by
  rw [List.getElem?_map] at h
  cases e : ss[i]? with
  | none => rw [e] at h; cases h
  | some s => rw [e] at h; cases h; exact ⟨s, rfl, rfl⟩
end
end DL

set_option Elab.async false
set_option linter.all false
set_option maxRecDepth 100000
set_option maxHeartbeats 4000000
/-! P10: == of programs and of steps. -/
namespace DL
open PySem L2
/-- what a Rule holds -/
def ruleP : List D → Bool
  | [.tup ds] => ds.all numD
  | _ => false
theorem ruleP_cases {xs : List D} (h : ruleP xs = true) : ∃ ns, xs = [.tup (iL ns)] := by
  unfold ruleP at h
  split at h
  · rename_i ds
    refine ⟨ds.map fun d => match d with | .int i => i | _ => 0, ?_⟩
    congr 2
    unfold iL
    rw [List.map_map]
    conv => lhs; rw [← List.map_id ds]
    refine List.map_congr_left fun x hx => ?_
    obtain ⟨i, rfl⟩ := num_int (List.all_eq_true.mp h x hx)
    rfl
  · cases h
theorem ruleP_iL (ns : List Int) : ruleP [.tup (iL ns)] = true := by
  show (iL ns).all numD = true
  unfold iL
  rw [List.all_map]
  exact List.all_eq_true.mpr fun _ _ => rfl
theorem eqOs_iL : ∀ ns ms : List Int, eqOs (iL ns) (iL ms) = decide (ns = ms)
  | [], [] => rfl
  | [], _ :: _ => rfl
  | _ :: _, [] => rfl
  | n :: ns, m :: ms => by
    show (eqO (.int n) (.int m) && eqOs (iL ns) (iL ms)) = _
    rw [eqOs_iL ns ms, eqO_flat rfl]
    show ((n == m) && decide (ns = ms)) = _
    rw [Bool.eq_iff_iff, Bool.and_eq_true, beq_iff_eq, decide_eq_true_iff, decide_eq_true_iff, List.cons.injEq]
theorem eqOs_rule (ns ms : List Int) : eqOs [.tup (iL ns)] [.tup (iL ms)] = decide (ns = ms) := by
  rw [eqOs, eqO, eqOs_iL, eqOs, Bool.and_true]
theorem ownE_Rule : ∀ μ xs ys (Q : QD) (E : QD), ruleP xs = true → ruleP ys = true → Q (.bool (eqOs xs ys)) μ → wp_Rule___eq__ [.obj "Rule" ["own_numbers"] xs, .obj "Rule" ["own_numbers"] ys] μ Q E := fun μ xs ys Q E h1 h2 q => by
  obtain ⟨ns, rfl⟩ := ruleP_cases h1
  obtain ⟨ms, rfl⟩ := ruleP_cases h2
  rw [eqOs_rule] at q
  exact ok_Rule_eq q
theorem cmp_ints (n : Str) (fs : List Str) (P : List D → Bool) : ∀ ns ms : List Int, cmpOs n fs P (iL ns) (iL ms) = true
  | [], [] => rfl
  | [], _ :: _ => rfl
  | _ :: _, [] => rfl
  | a :: ns, b :: ms => by
    show (cmpO n fs P (.int a) (.int b) && (!eqO (.int a) (.int b) || cmpOs n fs P (iL ns) (iL ms))) = true
    rw [cmp_ints n fs P ns ms, Bool.or_true, Bool.and_true]
    rfl
theorem ownC_Rule : ∀ xs ys, ruleP xs = true → ruleP ys = true → cmpOs "Rule" ["own_numbers"] ruleP xs ys = true := fun xs ys h1 h2 => by
  obtain ⟨ns, rfl⟩ := ruleP_cases h1
  obtain ⟨ms, rfl⟩ := ruleP_cases h2
  have e : cmpOs "Rule" ["own_numbers"] ruleP [] [] = true := rfl
  rw [cmpOs, cmpO, cmp_ints, e, Bool.or_true]
  rfl
theorem int_eqO (i j : Int) : eqO (.int i) (.int j) = decide (i = j) := by
  rw [eqO_flat rfl]
  show (i == j) = _
  rw [Bool.eq_iff_iff, beq_iff_eq, decide_eq_true_iff]
theorem eqO_word (a b : Str) (xs ys : List D) : eqO (.tup (.str a :: xs)) (.tup (.str b :: ys)) = (decide (a = b) && eqOs xs ys) := by
  rw [eqO, eqOs, eqO_flat rfl]
  congr 1
theorem cmpO_word (n : Str) (fs : List Str) (P : List D → Bool) (a b : Str) (xs ys : List D) : cmpO n fs P (.tup (.str a :: xs)) (.tup (.str b :: ys)) = (!decide (a = b) || cmpOs n fs P xs ys) := by
  have e : eqO (.str a) (.str b) = decide (a = b) := by
    rw [eqO_flat rfl]
    show (a == b) = _
    rw [Bool.eq_iff_iff, beq_iff_eq, decide_eq_true_iff]
  rw [cmpO, cmpOs, e]
  rfl
theorem rule_eqO (ns ms : List Int) : eqO (ruleD ns) (ruleD ms) = decide (ns = ms) := by
  show eqO (.obj _ _ _) (.obj _ _ _) = _
  rw [eqO, eqOs_rule]
theorem one_eqOs (x y : D) : eqOs [x] [y] = eqO x y := by rw [eqOs, eqOs, Bool.and_true]
theorem cons_eqOs (x y : D) (xs ys : List D) : eqOs (x :: xs) (y :: ys) = (eqO x y && eqOs xs ys) := by rw [eqOs]
theorem eqO_step (s t : Stp) : eqO s.p t.p = decide (s = t) := by
  cases s <;> cases t <;> (show eqO (.tup (.str _ :: _)) (.tup (.str _ :: _)) = _; rw [eqO_word])
  case x.x => rw [decide_eq_true rfl, Bool.true_and, one_eqOs, rule_eqO, decide_eq_decide, Stp.x.injEq]
  case y.y => rw [decide_eq_true rfl, Bool.true_and, one_eqOs, rule_eqO, decide_eq_decide, Stp.y.injEq]
  case move.move => rw [decide_eq_true rfl, Bool.true_and, cons_eqOs, one_eqOs, int_eqO, int_eqO, Bool.eq_iff_iff, Bool.and_eq_true, decide_eq_true_iff, decide_eq_true_iff, decide_eq_true_iff, Stp.move.injEq]
  case turn.turn => rw [decide_eq_true rfl, Bool.true_and, cons_eqOs, cons_eqOs, cons_eqOs, one_eqOs, int_eqO, int_eqO, int_eqO, int_eqO, Bool.eq_iff_iff, Bool.and_eq_true, Bool.and_eq_true, Bool.and_eq_true, decide_eq_true_iff, decide_eq_true_iff, decide_eq_true_iff, decide_eq_true_iff, decide_eq_true_iff, Stp.turn.injEq]
  all_goals (rw [decide_eq_false (by decide)]; rfl)
theorem cmpO_step (s t : Stp) : cmpO "Rule" ["own_numbers"] ruleP s.p t.p = true := by
  have rl : ∀ ns ms : List Int, cmpO "Rule" ["own_numbers"] ruleP (ruleD ns) (ruleD ms) = true := fun ns ms => by
    show cmpO _ _ _ (.obj _ _ _) (.obj _ _ _) = _
    rw [cmpO, ruleP_iL, ruleP_iL]
    rfl
  have rl1 : ∀ ns ms : List Int, cmpOs "Rule" ["own_numbers"] ruleP [ruleD ns] [ruleD ms] = true := fun ns ms => by
    have e : cmpOs "Rule" ["own_numbers"] ruleP [] [] = true := rfl
    rw [cmpOs, rl, e, Bool.or_true]
    rfl
  cases s <;> cases t <;> (show cmpO _ _ _ (.tup (.str _ :: _)) (.tup (.str _ :: _)) = _; rw [cmpO_word])
  case x.x => rw [rl1, Bool.or_true]
  case y.y => rw [rl1, Bool.or_true]
  case move.move a b c d => rw [show cmpOs "Rule" ["own_numbers"] ruleP [.int a, .int b] [.int c, .int d] = true from cmp_ints _ _ _ [a, b] [c, d], Bool.or_true]
  case turn.turn a b c d a' b' c' d' => rw [show cmpOs "Rule" ["own_numbers"] ruleP [.int a, .int b, .int c, .int d] [.int a', .int b', .int c', .int d'] = true from cmp_ints _ _ _ [a, b, c, d] [a', b', c', d'], Bool.or_true]
  all_goals (rw [decide_eq_false (by decide)]; rfl)
theorem eqOs_steps : ∀ ss tt : List Stp, eqOs (ss.map Stp.p) (tt.map Stp.p) = decide (ss = tt)
  | [], [] => rfl
  | [], _ :: _ => rfl
  | _ :: _, [] => rfl
  | s :: ss, t :: tt => by
    rw [List.map_cons, List.map_cons, eqOs, eqO_step, eqOs_steps ss tt, Bool.eq_iff_iff, Bool.and_eq_true, decide_eq_true_iff, decide_eq_true_iff, decide_eq_true_iff, List.cons.injEq]
theorem cmpOs_steps : ∀ ss tt : List Stp, cmpOs "Rule" ["own_numbers"] ruleP (ss.map Stp.p) (tt.map Stp.p) = true
  | [], [] => rfl
  | [], _ :: _ => rfl
  | _ :: _, [] => rfl
  | s :: ss, t :: tt => by
    rw [List.map_cons, List.map_cons, cmpOs, cmpO_step, cmpOs_steps ss tt, Bool.or_true]
    rfl
theorem dpOs_ints : ∀ ns : List Int, dpOs (iL ns) = 0
  | [] => rfl
  | n :: ns => by
    show max (dpO (.int n)) (dpOs (iL ns)) = 0
    rw [dpOs_ints ns]
    rfl
theorem dpO_step (s : Stp) : dpO s.p ≤ 3 := by
  have rl : ∀ ns : List Int, dpO (ruleD ns) = 2 := fun ns => by
    show dpO (.obj _ _ _) = _
    rw [dpO, dpOs, dpO, dpOs_ints, dpOs]
    rfl
  cases s <;> simp [Stp.p, dpO, dpOs, rl]
theorem dpOs_steps : ∀ ss : List Stp, dpOs (ss.map Stp.p) ≤ 3
  | [] => Nat.zero_le _
  | s :: ss => Nat.max_le.mpr ⟨dpO_step s, dpOs_steps ss⟩
section
variable {μ : Mu} {Q X : QD} {d : D} {B : Nat}
end
/-! ### == of the laws' own steps -/
end DL

set_option Elab.async false
set_option linter.all false
set_option maxRecDepth 100000
set_option maxHeartbeats 4000000
/-! P11: odd values, slices, padded steps. -/
namespace DL
open PySem L2
section
variable {μ : Mu} {Q X : QD} {d : D} {B : Nat}
/-- a value that is no step, of a known kind -/
structure NoStep (d : D) : Prop where
  good : Good d
  no : stepB d = false
end
end DL

set_option Elab.async false
set_option linter.all false
set_option maxRecDepth 100000
set_option maxHeartbeats 4000000
/-! P12: programs run and undone. -/
namespace DL
open PySem L2
def wp_need_point : WP := (wDef 2 2 (wIfS (wOrT (wNotT (wTst (wCall wp_is_number [] (waCons (wV 0) waNil)))) (wNotT (wTst (wCall wp_is_number [] (waCons (wV 1) waNil))))) (wRz "BadPoint") wNext))
def wp_done : WP := (wDef 3 3 (wSeq (wIfS (wTst (wOp false oEq (wOp false oIx (wV 0) (wK (.int 0))) (wK (.str "x")))) (wRet (wTup (waCons (wOp false oAdd (wV 1) (wCall wp_row_value [] (waCons (wFld "Rule" "own_numbers" (wOp false oIx (wV 0) (wK (.int 1)))) (waCons (wV 2) waNil)))) (waCons (wV 2) waNil)))) wNext)
    (wSeq (wIfS (wTst (wOp false oEq (wOp false oIx (wV 0) (wK (.int 0))) (wK (.str "y")))) (wRet (wTup (waCons (wV 1) (waCons (wOp false oAdd (wV 2) (wCall wp_row_value [] (waCons (wFld "Rule" "own_numbers" (wOp false oIx (wV 0) (wK (.int 1)))) (waCons (wV 1) waNil)))) waNil)))) wNext)
    (wSeq (wIfS (wTst (wOp false oEq (wOp false oIx (wV 0) (wK (.int 0))) (wK (.str "move")))) (wRet (wTup (waCons (wOp false oAdd (wV 1) (wOp false oIx (wV 0) (wK (.int 1)))) (waCons (wOp false oAdd (wV 2) (wOp false oIx (wV 0) (wK (.int 2)))) waNil)))) wNext)
    (wRet (wTup (waCons (wOp false oAdd (wOp false oMul (wOp false oIx (wV 0) (wK (.int 1))) (wV 1)) (wOp false oMul (wOp false oIx (wV 0) (wK (.int 2))) (wV 2))) (waCons (wOp false oAdd (wOp false oMul (wOp false oIx (wV 0) (wK (.int 3))) (wV 1)) (wOp false oMul (wOp false oIx (wV 0) (wK (.int 4))) (wV 2))) waNil))))))))
def wp_Program___call__ : WP := (wDef 3 4 (wSeq (wDrop (wCall wp_need_point [] (waCons (wV 1) (waCons (wV 2) waNil))))
    (wSeq (wFor (wiSeq (wFld "Program" "own_steps" (wV 0))) (wgN 3) (wAsgG (wgTup 2 (wgCons (wgN 1) (wgCons (wgN 2) wgNil))) (wCall wp_done [] (waCons (wV 3) (waCons (wV 1) (waCons (wV 2) waNil))))))
    (wRet (wTup (waCons (wV 1) (waCons (wV 2) waNil)))))))
def wp_law_step_done : WP := (wDef 3 3 (wSeq (wIfS (wTst (wCall wp_law_is_low [] (waCons (wV 0) waNil))) (wRet (wIf (wTst (wOp false oEq (wOp false oIx (wV 0) (wK (.int 0))) (wK (.str "x")))) (wTup (waCons (wOp false oAdd (wV 1) (wCall wp_law_rule_at [] (waCons (wOp false oIx (wV 0) (wK (.int 1))) (waCons (wV 2) waNil)))) (waCons (wV 2) waNil))) (wTup (waCons (wV 1) (waCons (wOp false oAdd (wV 2) (wCall wp_law_rule_at [] (waCons (wOp false oIx (wV 0) (wK (.int 1))) (waCons (wV 1) waNil)))) waNil))))) wNext)
    (wSeq (wIfS (wTst (wOp false oEq (wOp false oIx (wV 0) (wK (.int 0))) (wK (.str "move")))) (wRet (wTup (waCons (wOp false oAdd (wV 1) (wOp false oIx (wV 0) (wK (.int 1)))) (waCons (wOp false oAdd (wV 2) (wOp false oIx (wV 0) (wK (.int 2)))) waNil)))) wNext)
    (wRet (wTup (waCons (wOp false oAdd (wOp false oMul (wOp false oIx (wV 0) (wK (.int 1))) (wV 1)) (wOp false oMul (wOp false oIx (wV 0) (wK (.int 2))) (wV 2))) (waCons (wOp false oAdd (wOp false oMul (wOp false oIx (wV 0) (wK (.int 3))) (wV 1)) (wOp false oMul (wOp false oIx (wV 0) (wK (.int 4))) (wV 2))) waNil)))))))
/-- what a step does -/
def Stp.act : Stp → Int × Int → Int × Int
  | .x ns, (u, v) => (u + M.ev ns v, v)
  | .y ns, (u, v) => (u, v + M.ev ns u)
  | .move s t, (u, v) => (u + s, v + t)
  | .turn a b c d, (u, v) => (a * u + b * v, c * u + d * v)
def acts : List Stp → Int × Int → Int × Int
  | [], p => p
  | s :: ss, p => acts ss (s.act p)
def bits (C : Nat) : List Stp → Nat → Nat
  | [], b => b
  | s :: ss, b => bits C ss (s.deg * b + (C + 4))
def Fit (p : Int × Int) (b : Nat) : Prop := p.1.natAbs < 2 ^ b ∧ p.2.natAbs < 2 ^ b
theorem degs_pos : ∀ ss : List Stp, 1 ≤ degs ss
  | [] => Nat.le_refl _
  | s :: ss => by
    have := degs_pos ss
    have h : 1 ≤ s.deg := Nat.le_max_left _ _
    show 1 ≤ s.deg * degs ss
    exact Nat.mul_le_mul h this
theorem bits_le (C : Nat) : ∀ (ss : List Stp) (b : Nat), bits C ss b ≤ degs ss * (b + (C + 4) * ss.length)
  | [], b => by simp [bits, degs]
  | s :: ss, b => by
    have h := bits_le C ss (s.deg * b + (C + 4))
    have hd : 1 ≤ s.deg := Nat.le_max_left _ _
    rw [bits]
    refine Nat.le_trans h ?_
    show degs ss * (s.deg * b + (C + 4) + (C + 4) * ss.length) ≤ s.deg * degs ss * (b + (C + 4) * (ss.length + 1))
    rw [Nat.mul_comm s.deg (degs ss), Nat.mul_assoc]
    refine Nat.mul_le_mul_left _ ?_
    rw [Nat.mul_add s.deg b]
    have := Nat.mul_le_mul_right ((C + 4) * (ss.length + 1)) hd
    have e : (C + 4) * (ss.length + 1) = (C + 4) + (C + 4) * ss.length := by rw [Nat.mul_add, Nat.mul_one, Nat.add_comm]
    omega
theorem ev_fit {b C : Nat} {t : Int} (hb : 0 < b) (ht : t.natAbs < 2 ^ b) : ∀ {ns : List Int}, (∀ n ∈ ns, n.natAbs ≤ 2 ^ C) → (M.ev ns t).natAbs ≤ ns.length * (2 ^ C * 2 ^ (b * (ns.length - 1)))
  | [], _ => by simp [M.ev]
  | n :: ns, h => by
    have ih := ev_fit hb ht (ns := ns) fun m hm => h m (List.mem_cons_of_mem _ hm)
    have hn := h n List.mem_cons_self
    have e : M.ev (n :: ns) t = n + t * M.ev ns t := by rfl
    have h1 := Int.natAbs_add_le n (t * M.ev ns t)
    rw [Int.natAbs_mul] at h1
    have h2 : t.natAbs * (M.ev ns t).natAbs ≤ 2 ^ b * (ns.length * (2 ^ C * 2 ^ (b * (ns.length - 1)))) := Nat.mul_le_mul (Nat.le_of_lt ht) ih
    rw [e]
    cases ns with
    | nil =>
      simp [M.ev]
      exact hn
    | cons m r =>
      simp only [List.length_cons, Nat.add_sub_cancel] at h2 ⊢
      have e2 : 2 ^ b * ((r.length + 1) * (2 ^ C * 2 ^ (b * r.length))) = (r.length + 1) * (2 ^ C * 2 ^ (b * (r.length + 1))) := by
        rw [Nat.mul_add b, Nat.mul_one, Nat.pow_add]
        simp only [Nat.mul_comm, Nat.mul_left_comm, Nat.mul_assoc]
      rw [e2] at h2
      have h3 : 2 ^ C ≤ 2 ^ C * 2 ^ (b * (r.length + 1)) := Nat.le_mul_of_pos_right _ (Nat.two_pow_pos _)
      have h4 : (r.length + 1 + 1) * (2 ^ C * 2 ^ (b * (r.length + 1))) = (r.length + 1) * (2 ^ C * 2 ^ (b * (r.length + 1))) + 2 ^ C * 2 ^ (b * (r.length + 1)) := by rw [Nat.add_mul (r.length + 1) 1, Nat.one_mul]
      omega
theorem low_fit {b C : Nat} {ns : List Int} {u v : Int} (hb : 1 ≤ b) (hl : ns.length ≤ 7) (hn : ∀ n ∈ ns, n.natAbs ≤ 2 ^ C) (hu : u.natAbs < 2 ^ b) (hv : v.natAbs < 2 ^ b) : (u + M.ev ns v).natAbs < 2 ^ (max 1 (ns.length - 1) * b + (C + 4)) := by
  have h1 := ev_fit (by omega) hv hn
  have h2 := Int.natAbs_add_le u (M.ev ns v)
  have h3 : b * (ns.length - 1) ≤ max 1 (ns.length - 1) * b := by
    rw [Nat.mul_comm b]
    exact Nat.mul_le_mul_right _ (Nat.le_max_right _ _)
  have h4 : b ≤ max 1 (ns.length - 1) * b := by
    have := Nat.mul_le_mul_right b (Nat.le_max_left 1 (ns.length - 1))
    omega
  have h5 : 2 ^ (b * (ns.length - 1)) ≤ 2 ^ (max 1 (ns.length - 1) * b) := Nat.pow_le_pow_right (by decide) h3
  have h6 : 2 ^ b ≤ 2 ^ (max 1 (ns.length - 1) * b) := Nat.pow_le_pow_right (by decide) h4
  have e : 2 ^ (max 1 (ns.length - 1) * b + (C + 4)) = 16 * (2 ^ C * 2 ^ (max 1 (ns.length - 1) * b)) := by
    rw [Nat.pow_add, Nat.pow_add, show 2 ^ 4 = 16 from rfl, Nat.mul_comm, Nat.mul_comm (2 ^ C) 16, Nat.mul_assoc]
  rw [e]
  generalize 2 ^ (max 1 (ns.length - 1) * b) = P at *
  have h7 : ns.length * (2 ^ C * 2 ^ (b * (ns.length - 1))) ≤ 7 * (2 ^ C * P) := Nat.mul_le_mul hl (Nat.mul_le_mul_left _ h5)
  have h8 : P ≤ 2 ^ C * P := Nat.le_mul_of_pos_left _ (Nat.two_pow_pos _)
  omega
theorem act_fit {b C : Nat} {s : Stp} {p : Int × Int} (hb : 1 ≤ b) (hs : s.Ok (2 ^ C)) (h : Fit p b) : Fit (s.act p) (s.deg * b + (C + 4)) := by
  obtain ⟨u, v⟩ := p
  obtain ⟨hu, hv⟩ := h
  have hd : 1 ≤ s.deg := Nat.le_max_left _ _
  have hd2 : b ≤ s.deg * b := by
    have := Nat.mul_le_mul_right b hd
    omega
  have up : ∀ {i : Int}, i.natAbs < 2 ^ b → i.natAbs < 2 ^ (s.deg * b + (C + 4)) := fun h => Nat.lt_of_lt_of_le h (Nat.pow_le_pow_right (by decide) (by omega))
  have ee : 2 ^ (b + (C + 4)) = 16 * (2 ^ C * 2 ^ b) := by
    rw [Nat.pow_add, Nat.pow_add, show 2 ^ 4 = 16 from rfl, Nat.mul_comm, Nat.mul_comm (2 ^ C) 16, Nat.mul_assoc]
  have hp1 : 2 ^ b ≤ 2 ^ C * 2 ^ b := Nat.le_mul_of_pos_left _ (Nat.two_pow_pos _)
  have hp2 : 2 ^ C ≤ 2 ^ C * 2 ^ b := Nat.le_mul_of_pos_right _ (Nat.two_pow_pos _)
  cases s with
  | x ns => exact ⟨low_fit hb hs.2.1 hs.2.2 hu hv, up hv⟩
  | y ns => exact ⟨up hu, low_fit hb hs.2.1 hs.2.2 hv hu⟩
  | move s t =>
    have e : (Stp.move s t).deg = 1 := rfl
    have s1 := hs.1
    have s2 := hs.2
    have a1 := Int.natAbs_add_le u s
    have a2 := Int.natAbs_add_le v t
    rw [e, Nat.one_mul]
    constructor <;> (rw [ee]; simp only [Stp.act] at *; omega)
  | turn a b' c d =>
    have e : (Stp.turn a b' c d).deg = 1 := rfl
    obtain ⟨_, s1, s2, s3, s4⟩ := hs
    have m : ∀ {i j : Int}, i.natAbs ≤ 2 ^ C → j.natAbs < 2 ^ b → (i * j).natAbs ≤ 2 ^ C * 2 ^ b := fun h1 h2 => mul_le h1 (Nat.le_of_lt h2)
    have a1 := Int.natAbs_add_le (a * u) (b' * v)
    have a2 := Int.natAbs_add_le (c * u) (d * v)
    have m1 := m s1 hu
    have m2 := m s2 hv
    have m3 := m s3 hu
    have m4 := m s4 hv
    rw [e, Nat.one_mul]
    constructor <;> (rw [ee]; simp only [Stp.act] at *; omega)
section
variable {μ : Mu} {Q X : QD} {d : D} {B : Nat}
theorem row_fit {b C : Nat} {ns : List Int} (hb : C + 1 ≤ b) (hn : ∀ n ∈ ns, n.natAbs ≤ 2 ^ C) : ∀ n ∈ ns, n.natAbs < 2 ^ b := fun n h => Nat.lt_of_le_of_lt (hn n h) (Nat.pow_lt_pow_right (by decide) (by omega))
theorem big_le {b c n m : Nat} (hb : b ≤ c) (hn : n ≤ m) (h : (c + 1) * m + c ≤ 40000000) : (b + 1) * n + b ≤ 40000000 := by
  have : (b + 1) * n ≤ (c + 1) * m := Nat.mul_le_mul (by omega) hn
  omega
theorem big_two {c m : Nat} (hm : 2 ≤ m) (h : (c + 1) * m + c ≤ 40000000) : c ≤ 16000000 := by
  have : (c + 1) * 2 ≤ (c + 1) * m := Nat.mul_le_mul_left _ hm
  omega
theorem turn_mul {b C : Nat} {i j : Int} (hC : C + 1 ≤ b) (hb : b ≤ 16000000) (hi : i.natAbs ≤ 2 ^ C) (hj : j.natAbs < 2 ^ b) : CMulU i j := mulU_of (a := C + 1) (b := b) (Nat.lt_of_le_of_lt hi (Nat.pow_lt_pow_right (by decide) (by omega))) hj (by omega)
theorem ok_done {b C : Nat} {s : Stp} {u v : Int} (hb : C + 1 ≤ b) (hb3 : (b + 1) * s.len + b ≤ 40000000) (hb2 : b ≤ 16000000) (hs : s.Ok (2 ^ C)) (hu : u.natAbs < 2 ^ b) (hv : v.natAbs < 2 ^ b) (q : Q (.tup [.int (s.act (u, v)).1, .int (s.act (u, v)).2]) μ) : wp_done [s.p, .int u, .int v] μ Q X := by
  unfold wp_done
  cases s with
  | x ns =>
    simp only [Jbx, initE, Jcx, Jcj, Jbl, Jbm, Jc3, Jcs, Jct, Jca, Jcp, Jbn, Jcz, Jbo, Jbu, Jdd, Jde, Jdc, Jdf, Jdj, Jdh, Jdi, Jdg, Jc6, Jcc, Jd7, Jd6, Jcb, Jcm, Jd5, Jd4, Jcg, Jbs, Jd3, Jcl, Jbk, Jco, Jc9, Jbj, Jcn, Jck, Jd9, Jd8, Jdb, Jbp, Jci, Jcr, Jc5, Jcy, Jch, Jbq, Jcu, Jd0, Jdk, Jdl, Jcd, Jcv, Jcw, Jc8, Jbr, Jc4, Jbz, Jcf, gt, st, Jbc, Jba, Jbb, Jb8, Jbi, Ja5, atI0, atI1, atI2, atI3, atI4, ixN20, ixN21, List.map_cons, List.map_nil, List.cons_append, List.nil_append, List.append_nil, List.length_cons, List.length_nil, List.replicate_succ, List.replicate_zero, Nat.add_one_sub_one, Jda, Jbt, Jc0, Jc2, Jby, Jae, Jag, Jah, Jaf, Jb7, Jaw, Jax, Jak, Jav, Jb4, Jau, Jat, Jan, Jam, Jb2, Jai, Jaj, Jb0, Jb1, Jaq, Jb3, Jar, Jas, Jao, Jap, Jb6, Jb5, Ja7, Ja8, Jac, Jab, Ja0, Ja9, Jaa, Jbg, Jbh, Ja6, Jad, Jbd, Jbf, Jbe, Jb9, Ja2, Ja1, Ja4, Ja3, Jay, Jaz, decide_true, decide_false, Bool.not_true, Bool.not_false, Bool.false_eq_true, if_true, if_false, true_and, Stp.p, ruleD, asObj, fldD]
    refine ok_row_value (b := b) (row_fit hb hs.2.2) hv (by have := hs.2.1; omega) hb3 ?_
    simp only [Jbx, initE, Jcx, Jcj, Jbl, Jbm, Jc3, Jcs, Jct, Jca, Jcp, Jbn, Jcz, Jbo, Jbu, Jdd, Jde, Jdc, Jdf, Jdj, Jdh, Jdi, Jdg, Jc6, Jcc, Jd7, Jd6, Jcb, Jcm, Jd5, Jd4, Jcg, Jbs, Jd3, Jcl, Jbk, Jco, Jc9, Jbj, Jcn, Jck, Jd9, Jd8, Jdb, Jbp, Jci, Jcr, Jc5, Jcy, Jch, Jbq, Jcu, Jd0, Jdk, Jdl, Jcd, Jcv, Jcw, Jc8, Jbr, Jc4, Jbz, Jcf, gt, st, Jbc, Jba, Jbb, Jb8, Jbi, Ja5, atI0, atI1, atI2, atI3, atI4, ixN20, ixN21, List.map_cons, List.map_nil, List.cons_append, List.nil_append, List.append_nil, List.length_cons, List.length_nil, List.replicate_succ, List.replicate_zero, Nat.add_one_sub_one, Jda, Jbt, Jc0, Jc2, Jby, Jae, Jag, Jah, Jaf, Jb7, Jaw, Jax, Jak, Jav, Jb4, Jau, Jat, Jan, Jam, Jb2, Jai, Jaj, Jb0, Jb1, Jaq, Jb3, Jar, Jas, Jao, Jap, Jb6, Jb5, Ja7, Ja8, Jac, Jab, Ja0, Ja9, Jaa, Jbg, Jbh, Ja6, Jad, Jbd, Jbf, Jbe, Jb9, Ja2, Ja1, Ja4, Ja3, Jay, Jaz, decide_true, decide_false, Bool.not_true, Bool.not_false, Bool.false_eq_true, if_true, if_false, true_and]
    exact ⟨by simp [sizeLine_eq], q⟩
  | y ns =>
    simp only [Jbx, initE, Jcx, Jcj, Jbl, Jbm, Jc3, Jcs, Jct, Jca, Jcp, Jbn, Jcz, Jbo, Jbu, Jdd, Jde, Jdc, Jdf, Jdj, Jdh, Jdi, Jdg, Jc6, Jcc, Jd7, Jd6, Jcb, Jcm, Jd5, Jd4, Jcg, Jbs, Jd3, Jcl, Jbk, Jco, Jc9, Jbj, Jcn, Jck, Jd9, Jd8, Jdb, Jbp, Jci, Jcr, Jc5, Jcy, Jch, Jbq, Jcu, Jd0, Jdk, Jdl, Jcd, Jcv, Jcw, Jc8, Jbr, Jc4, Jbz, Jcf, gt, st, Jbc, Jba, Jbb, Jb8, Jbi, Ja5, atI0, atI1, atI2, atI3, atI4, ixN20, ixN21, List.map_cons, List.map_nil, List.cons_append, List.nil_append, List.append_nil, List.length_cons, List.length_nil, List.replicate_succ, List.replicate_zero, Nat.add_one_sub_one, Jda, Jbt, Jc0, Jc2, Jby, Jae, Jag, Jah, Jaf, Jb7, Jaw, Jax, Jak, Jav, Jb4, Jau, Jat, Jan, Jam, Jb2, Jai, Jaj, Jb0, Jb1, Jaq, Jb3, Jar, Jas, Jao, Jap, Jb6, Jb5, Ja7, Ja8, Jac, Jab, Ja0, Ja9, Jaa, Jbg, Jbh, Ja6, Jad, Jbd, Jbf, Jbe, Jb9, Ja2, Ja1, Ja4, Ja3, Jay, Jaz, decide_true, decide_false, Bool.not_true, Bool.not_false, Bool.false_eq_true, if_true, if_false, true_and, Stp.p, ruleD, asObj, fldD]
    rw [if_neg (by decide)]
    refine ok_row_value (b := b) (row_fit hb hs.2.2) hu (by have := hs.2.1; omega) hb3 ?_
    simp only [Jbx, initE, Jcx, Jcj, Jbl, Jbm, Jc3, Jcs, Jct, Jca, Jcp, Jbn, Jcz, Jbo, Jbu, Jdd, Jde, Jdc, Jdf, Jdj, Jdh, Jdi, Jdg, Jc6, Jcc, Jd7, Jd6, Jcb, Jcm, Jd5, Jd4, Jcg, Jbs, Jd3, Jcl, Jbk, Jco, Jc9, Jbj, Jcn, Jck, Jd9, Jd8, Jdb, Jbp, Jci, Jcr, Jc5, Jcy, Jch, Jbq, Jcu, Jd0, Jdk, Jdl, Jcd, Jcv, Jcw, Jc8, Jbr, Jc4, Jbz, Jcf, gt, st, Jbc, Jba, Jbb, Jb8, Jbi, Ja5, atI0, atI1, atI2, atI3, atI4, ixN20, ixN21, List.map_cons, List.map_nil, List.cons_append, List.nil_append, List.append_nil, List.length_cons, List.length_nil, List.replicate_succ, List.replicate_zero, Nat.add_one_sub_one, Jda, Jbt, Jc0, Jc2, Jby, Jae, Jag, Jah, Jaf, Jb7, Jaw, Jax, Jak, Jav, Jb4, Jau, Jat, Jan, Jam, Jb2, Jai, Jaj, Jb0, Jb1, Jaq, Jb3, Jar, Jas, Jao, Jap, Jb6, Jb5, Ja7, Ja8, Jac, Jab, Ja0, Ja9, Jaa, Jbg, Jbh, Ja6, Jad, Jbd, Jbf, Jbe, Jb9, Ja2, Ja1, Ja4, Ja3, Jay, Jaz, decide_true, decide_false, Bool.not_true, Bool.not_false, Bool.false_eq_true, if_true, if_false, true_and]
    exact ⟨by simp [sizeLine_eq], q⟩
  | move s t =>
    simp only [Jbx, initE, Jcx, Jcj, Jbl, Jbm, Jc3, Jcs, Jct, Jca, Jcp, Jbn, Jcz, Jbo, Jbu, Jdd, Jde, Jdc, Jdf, Jdj, Jdh, Jdi, Jdg, Jc6, Jcc, Jd7, Jd6, Jcb, Jcm, Jd5, Jd4, Jcg, Jbs, Jd3, Jcl, Jbk, Jco, Jc9, Jbj, Jcn, Jck, Jd9, Jd8, Jdb, Jbp, Jci, Jcr, Jc5, Jcy, Jch, Jbq, Jcu, Jd0, Jdk, Jdl, Jcd, Jcv, Jcw, Jc8, Jbr, Jc4, Jbz, Jcf, gt, st, Jbc, Jba, Jbb, Jb8, Jbi, Ja5, atI0, atI1, atI2, atI3, atI4, ixN20, ixN21, List.map_cons, List.map_nil, List.cons_append, List.nil_append, List.append_nil, List.length_cons, List.length_nil, List.replicate_succ, List.replicate_zero, Nat.add_one_sub_one, Jda, Jbt, Jc0, Jc2, Jby, Jae, Jag, Jah, Jaf, Jb7, Jaw, Jax, Jak, Jav, Jb4, Jau, Jat, Jan, Jam, Jb2, Jai, Jaj, Jb0, Jb1, Jaq, Jb3, Jar, Jas, Jao, Jap, Jb6, Jb5, Ja7, Ja8, Jac, Jab, Ja0, Ja9, Jaa, Jbg, Jbh, Ja6, Jad, Jbd, Jbf, Jbe, Jb9, Ja2, Ja1, Ja4, Ja3, Jay, Jaz, decide_true, decide_false, Bool.not_true, Bool.not_false, Bool.false_eq_true, if_true, if_false, true_and, Stp.p]
    exact ⟨by simp [sizeLine_eq], q⟩
  | turn a b' c d =>
    obtain ⟨_, s1, s2, s3, s4⟩ := hs
    simp only [Jbx, initE, Jcx, Jcj, Jbl, Jbm, Jc3, Jcs, Jct, Jca, Jcp, Jbn, Jcz, Jbo, Jbu, Jdd, Jde, Jdc, Jdf, Jdj, Jdh, Jdi, Jdg, Jc6, Jcc, Jd7, Jd6, Jcb, Jcm, Jd5, Jd4, Jcg, Jbs, Jd3, Jcl, Jbk, Jco, Jc9, Jbj, Jcn, Jck, Jd9, Jd8, Jdb, Jbp, Jci, Jcr, Jc5, Jcy, Jch, Jbq, Jcu, Jd0, Jdk, Jdl, Jcd, Jcv, Jcw, Jc8, Jbr, Jc4, Jbz, Jcf, gt, st, Jbc, Jba, Jbb, Jb8, Jbi, Ja5, atI0, atI1, atI2, atI3, atI4, ixN20, ixN21, List.map_cons, List.map_nil, List.cons_append, List.nil_append, List.append_nil, List.length_cons, List.length_nil, List.replicate_succ, List.replicate_zero, Nat.add_one_sub_one, Jda, Jbt, Jc0, Jc2, Jby, Jae, Jag, Jah, Jaf, Jb7, Jaw, Jax, Jak, Jav, Jb4, Jau, Jat, Jan, Jam, Jb2, Jai, Jaj, Jb0, Jb1, Jaq, Jb3, Jar, Jas, Jao, Jap, Jb6, Jb5, Ja7, Ja8, Jac, Jab, Ja0, Ja9, Jaa, Jbg, Jbh, Ja6, Jad, Jbd, Jbf, Jbe, Jb9, Ja2, Ja1, Ja4, Ja3, Jay, Jaz, decide_true, decide_false, Bool.not_true, Bool.not_false, Bool.false_eq_true, if_true, if_false, true_and, Stp.p]
    rw [if_neg (by decide), if_neg (by decide), if_neg (by decide)]
    exact ⟨turn_mul hb hb2 s1 hu, turn_mul hb hb2 s2 hv, turn_mul hb hb2 s3 hu, turn_mul hb hb2 s4 hv, by simp [sizeLine_eq], q⟩
theorem ok_step_done {b C : Nat} {s : Stp} {u v : Int} (hb : C + 1 ≤ b) (hb3 : (b + 1) * s.len + b ≤ 40000000) (hb2 : b ≤ 16000000) (hs : s.Ok (2 ^ C)) (hu : u.natAbs < 2 ^ b) (hv : v.natAbs < 2 ^ b) (q : Q (.tup [.int (s.act (u, v)).1, .int (s.act (u, v)).2]) μ) : wp_law_step_done [s.b, .int u, .int v] μ Q X := by
  unfold wp_law_step_done
  simp only [Jbx, initE, Jcx, Jcj, Jbl, Jbm, Jc3, Jcs, Jct, Jca, Jcp, Jbn, Jcz, Jbo, Jbu, Jdd, Jde, Jdc, Jdf, Jdj, Jdh, Jdi, Jdg, Jc6, Jcc, Jd7, Jd6, Jcb, Jcm, Jd5, Jd4, Jcg, Jbs, Jd3, Jcl, Jbk, Jco, Jc9, Jbj, Jcn, Jck, Jd9, Jd8, Jdb, Jbp, Jci, Jcr, Jc5, Jcy, Jch, Jbq, Jcu, Jd0, Jdk, Jdl, Jcd, Jcv, Jcw, Jc8, Jbr, Jc4, Jbz, Jcf, gt, st, Jbc, Jba, Jbb, Jb8, Jbi, Ja5, atI0, atI1, atI2, atI3, atI4, ixN20, ixN21, List.map_cons, List.map_nil, List.cons_append, List.nil_append, List.append_nil, List.length_cons, List.length_nil, List.replicate_succ, List.replicate_zero, Nat.add_one_sub_one, Jda, Jbt, Jc0, Jc2, Jby, Jae, Jag, Jah, Jaf, Jb7, Jaw, Jax, Jak, Jav, Jb4, Jau, Jat, Jan, Jam, Jb2, Jai, Jaj, Jb0, Jb1, Jaq, Jb3, Jar, Jas, Jao, Jap, Jb6, Jb5, Ja7, Ja8, Jac, Jab, Ja0, Ja9, Jaa, Jbg, Jbh, Ja6, Jad, Jbd, Jbf, Jbe, Jb9, Ja2, Ja1, Ja4, Ja3, Jay, Jaz, decide_true, decide_false, Bool.not_true, Bool.not_false, Bool.false_eq_true, if_true, if_false, true_and]
  refine ok_is_low ?_
  cases s with
  | x ns =>
    simp only [Jbx, initE, Jcx, Jcj, Jbl, Jbm, Jc3, Jcs, Jct, Jca, Jcp, Jbn, Jcz, Jbo, Jbu, Jdd, Jde, Jdc, Jdf, Jdj, Jdh, Jdi, Jdg, Jc6, Jcc, Jd7, Jd6, Jcb, Jcm, Jd5, Jd4, Jcg, Jbs, Jd3, Jcl, Jbk, Jco, Jc9, Jbj, Jcn, Jck, Jd9, Jd8, Jdb, Jbp, Jci, Jcr, Jc5, Jcy, Jch, Jbq, Jcu, Jd0, Jdk, Jdl, Jcd, Jcv, Jcw, Jc8, Jbr, Jc4, Jbz, Jcf, gt, st, Jbc, Jba, Jbb, Jb8, Jbi, Ja5, atI0, atI1, atI2, atI3, atI4, ixN20, ixN21, List.map_cons, List.map_nil, List.cons_append, List.nil_append, List.append_nil, List.length_cons, List.length_nil, List.replicate_succ, List.replicate_zero, Nat.add_one_sub_one, Jda, Jbt, Jc0, Jc2, Jby, Jae, Jag, Jah, Jaf, Jb7, Jaw, Jax, Jak, Jav, Jb4, Jau, Jat, Jan, Jam, Jb2, Jai, Jaj, Jb0, Jb1, Jaq, Jb3, Jar, Jas, Jao, Jap, Jb6, Jb5, Ja7, Ja8, Jac, Jab, Ja0, Ja9, Jaa, Jbg, Jbh, Ja6, Jad, Jbd, Jbf, Jbe, Jb9, Ja2, Ja1, Ja4, Ja3, Jay, Jaz, decide_true, decide_false, Bool.not_true, Bool.not_false, Bool.false_eq_true, if_true, if_false, true_and, Stp.b, Stp.low]
    refine ok_rule_at (b := b) (row_fit hb hs.2.2) hv (by have := hs.2.1; omega) hb3 ?_
    simp only [Jbx, initE, Jcx, Jcj, Jbl, Jbm, Jc3, Jcs, Jct, Jca, Jcp, Jbn, Jcz, Jbo, Jbu, Jdd, Jde, Jdc, Jdf, Jdj, Jdh, Jdi, Jdg, Jc6, Jcc, Jd7, Jd6, Jcb, Jcm, Jd5, Jd4, Jcg, Jbs, Jd3, Jcl, Jbk, Jco, Jc9, Jbj, Jcn, Jck, Jd9, Jd8, Jdb, Jbp, Jci, Jcr, Jc5, Jcy, Jch, Jbq, Jcu, Jd0, Jdk, Jdl, Jcd, Jcv, Jcw, Jc8, Jbr, Jc4, Jbz, Jcf, gt, st, Jbc, Jba, Jbb, Jb8, Jbi, Ja5, atI0, atI1, atI2, atI3, atI4, ixN20, ixN21, List.map_cons, List.map_nil, List.cons_append, List.nil_append, List.append_nil, List.length_cons, List.length_nil, List.replicate_succ, List.replicate_zero, Nat.add_one_sub_one, Jda, Jbt, Jc0, Jc2, Jby, Jae, Jag, Jah, Jaf, Jb7, Jaw, Jax, Jak, Jav, Jb4, Jau, Jat, Jan, Jam, Jb2, Jai, Jaj, Jb0, Jb1, Jaq, Jb3, Jar, Jas, Jao, Jap, Jb6, Jb5, Ja7, Ja8, Jac, Jab, Ja0, Ja9, Jaa, Jbg, Jbh, Ja6, Jad, Jbd, Jbf, Jbe, Jb9, Ja2, Ja1, Ja4, Ja3, Jay, Jaz, decide_true, decide_false, Bool.not_true, Bool.not_false, Bool.false_eq_true, if_true, if_false, true_and]
    exact ⟨by simp [sizeLine_eq], q⟩
  | y ns =>
    simp only [Jbx, initE, Jcx, Jcj, Jbl, Jbm, Jc3, Jcs, Jct, Jca, Jcp, Jbn, Jcz, Jbo, Jbu, Jdd, Jde, Jdc, Jdf, Jdj, Jdh, Jdi, Jdg, Jc6, Jcc, Jd7, Jd6, Jcb, Jcm, Jd5, Jd4, Jcg, Jbs, Jd3, Jcl, Jbk, Jco, Jc9, Jbj, Jcn, Jck, Jd9, Jd8, Jdb, Jbp, Jci, Jcr, Jc5, Jcy, Jch, Jbq, Jcu, Jd0, Jdk, Jdl, Jcd, Jcv, Jcw, Jc8, Jbr, Jc4, Jbz, Jcf, gt, st, Jbc, Jba, Jbb, Jb8, Jbi, Ja5, atI0, atI1, atI2, atI3, atI4, ixN20, ixN21, List.map_cons, List.map_nil, List.cons_append, List.nil_append, List.append_nil, List.length_cons, List.length_nil, List.replicate_succ, List.replicate_zero, Nat.add_one_sub_one, Jda, Jbt, Jc0, Jc2, Jby, Jae, Jag, Jah, Jaf, Jb7, Jaw, Jax, Jak, Jav, Jb4, Jau, Jat, Jan, Jam, Jb2, Jai, Jaj, Jb0, Jb1, Jaq, Jb3, Jar, Jas, Jao, Jap, Jb6, Jb5, Ja7, Ja8, Jac, Jab, Ja0, Ja9, Jaa, Jbg, Jbh, Ja6, Jad, Jbd, Jbf, Jbe, Jb9, Ja2, Ja1, Ja4, Ja3, Jay, Jaz, decide_true, decide_false, Bool.not_true, Bool.not_false, Bool.false_eq_true, if_true, if_false, true_and, Stp.b, Stp.low]
    rw [if_neg (by decide)]
    refine ok_rule_at (b := b) (row_fit hb hs.2.2) hu (by have := hs.2.1; omega) hb3 ?_
    simp only [Jbx, initE, Jcx, Jcj, Jbl, Jbm, Jc3, Jcs, Jct, Jca, Jcp, Jbn, Jcz, Jbo, Jbu, Jdd, Jde, Jdc, Jdf, Jdj, Jdh, Jdi, Jdg, Jc6, Jcc, Jd7, Jd6, Jcb, Jcm, Jd5, Jd4, Jcg, Jbs, Jd3, Jcl, Jbk, Jco, Jc9, Jbj, Jcn, Jck, Jd9, Jd8, Jdb, Jbp, Jci, Jcr, Jc5, Jcy, Jch, Jbq, Jcu, Jd0, Jdk, Jdl, Jcd, Jcv, Jcw, Jc8, Jbr, Jc4, Jbz, Jcf, gt, st, Jbc, Jba, Jbb, Jb8, Jbi, Ja5, atI0, atI1, atI2, atI3, atI4, ixN20, ixN21, List.map_cons, List.map_nil, List.cons_append, List.nil_append, List.append_nil, List.length_cons, List.length_nil, List.replicate_succ, List.replicate_zero, Nat.add_one_sub_one, Jda, Jbt, Jc0, Jc2, Jby, Jae, Jag, Jah, Jaf, Jb7, Jaw, Jax, Jak, Jav, Jb4, Jau, Jat, Jan, Jam, Jb2, Jai, Jaj, Jb0, Jb1, Jaq, Jb3, Jar, Jas, Jao, Jap, Jb6, Jb5, Ja7, Ja8, Jac, Jab, Ja0, Ja9, Jaa, Jbg, Jbh, Ja6, Jad, Jbd, Jbf, Jbe, Jb9, Ja2, Ja1, Ja4, Ja3, Jay, Jaz, decide_true, decide_false, Bool.not_true, Bool.not_false, Bool.false_eq_true, if_true, if_false, true_and]
    exact ⟨by simp [sizeLine_eq], q⟩
  | move s t =>
    simp only [Jbx, initE, Jcx, Jcj, Jbl, Jbm, Jc3, Jcs, Jct, Jca, Jcp, Jbn, Jcz, Jbo, Jbu, Jdd, Jde, Jdc, Jdf, Jdj, Jdh, Jdi, Jdg, Jc6, Jcc, Jd7, Jd6, Jcb, Jcm, Jd5, Jd4, Jcg, Jbs, Jd3, Jcl, Jbk, Jco, Jc9, Jbj, Jcn, Jck, Jd9, Jd8, Jdb, Jbp, Jci, Jcr, Jc5, Jcy, Jch, Jbq, Jcu, Jd0, Jdk, Jdl, Jcd, Jcv, Jcw, Jc8, Jbr, Jc4, Jbz, Jcf, gt, st, Jbc, Jba, Jbb, Jb8, Jbi, Ja5, atI0, atI1, atI2, atI3, atI4, ixN20, ixN21, List.map_cons, List.map_nil, List.cons_append, List.nil_append, List.append_nil, List.length_cons, List.length_nil, List.replicate_succ, List.replicate_zero, Nat.add_one_sub_one, Jda, Jbt, Jc0, Jc2, Jby, Jae, Jag, Jah, Jaf, Jb7, Jaw, Jax, Jak, Jav, Jb4, Jau, Jat, Jan, Jam, Jb2, Jai, Jaj, Jb0, Jb1, Jaq, Jb3, Jar, Jas, Jao, Jap, Jb6, Jb5, Ja7, Ja8, Jac, Jab, Ja0, Ja9, Jaa, Jbg, Jbh, Ja6, Jad, Jbd, Jbf, Jbe, Jb9, Ja2, Ja1, Ja4, Ja3, Jay, Jaz, decide_true, decide_false, Bool.not_true, Bool.not_false, Bool.false_eq_true, if_true, if_false, true_and, Stp.b, Stp.low]
    exact ⟨by simp [sizeLine_eq], q⟩
  | turn a b' c d =>
    obtain ⟨_, s1, s2, s3, s4⟩ := hs
    simp only [Jbx, initE, Jcx, Jcj, Jbl, Jbm, Jc3, Jcs, Jct, Jca, Jcp, Jbn, Jcz, Jbo, Jbu, Jdd, Jde, Jdc, Jdf, Jdj, Jdh, Jdi, Jdg, Jc6, Jcc, Jd7, Jd6, Jcb, Jcm, Jd5, Jd4, Jcg, Jbs, Jd3, Jcl, Jbk, Jco, Jc9, Jbj, Jcn, Jck, Jd9, Jd8, Jdb, Jbp, Jci, Jcr, Jc5, Jcy, Jch, Jbq, Jcu, Jd0, Jdk, Jdl, Jcd, Jcv, Jcw, Jc8, Jbr, Jc4, Jbz, Jcf, gt, st, Jbc, Jba, Jbb, Jb8, Jbi, Ja5, atI0, atI1, atI2, atI3, atI4, ixN20, ixN21, List.map_cons, List.map_nil, List.cons_append, List.nil_append, List.append_nil, List.length_cons, List.length_nil, List.replicate_succ, List.replicate_zero, Nat.add_one_sub_one, Jda, Jbt, Jc0, Jc2, Jby, Jae, Jag, Jah, Jaf, Jb7, Jaw, Jax, Jak, Jav, Jb4, Jau, Jat, Jan, Jam, Jb2, Jai, Jaj, Jb0, Jb1, Jaq, Jb3, Jar, Jas, Jao, Jap, Jb6, Jb5, Ja7, Ja8, Jac, Jab, Ja0, Ja9, Jaa, Jbg, Jbh, Ja6, Jad, Jbd, Jbf, Jbe, Jb9, Ja2, Ja1, Ja4, Ja3, Jay, Jaz, decide_true, decide_false, Bool.not_true, Bool.not_false, Bool.false_eq_true, if_true, if_false, true_and, Stp.b, Stp.low]
    rw [if_neg (by decide)]
    exact ⟨turn_mul hb hb2 s1 hu, turn_mul hb hb2 s2 hv, turn_mul hb hb2 s3 hu, turn_mul hb hb2 s4 hv, by simp [sizeLine_eq], q⟩
theorem acts_take : ∀ (ss : List Stp) (i : Nat) (s : Stp) (p : Int × Int), ss[i]? = some s → acts (ss.take (i + 1)) p = s.act (acts (ss.take i) p)
  | [], i, s, p, h => by cases h
  | t :: ss, 0, s, p, h => by
    cases h
    simp [acts]
  | t :: ss, i + 1, s, p, h => by
    have := acts_take ss i s (t.act p) (by simpa using h)
    simpa [acts] using this
theorem bits_mono (C : Nat) : ∀ (ss : List Stp) (b : Nat), b ≤ bits C ss b
  | [], b => Nat.le_refl _
  | s :: ss, b => by
    have hd : 1 ≤ s.deg := Nat.le_max_left _ _
    have h1 := Nat.mul_le_mul_right b hd
    have := bits_mono C ss (s.deg * b + (C + 4))
    rw [bits]
    omega
theorem bits_app (C : Nat) : ∀ (ss tt : List Stp) (b : Nat), bits C (ss ++ tt) b = bits C tt (bits C ss b)
  | [], tt, b => rfl
  | s :: ss, tt, b => bits_app C ss tt _
theorem bits_take (C : Nat) (ss : List Stp) (i b : Nat) : bits C (ss.take i) b ≤ bits C ss b := by
  have := bits_app C (ss.take i) (ss.drop i) b
  rw [List.take_append_drop] at this
  rw [this]
  exact bits_mono _ _ _
theorem acts_fit {C : Nat} : ∀ (ss : List Stp) (b : Nat) (p : Int × Int), 1 ≤ b → (∀ s ∈ ss, s.Ok (2 ^ C)) → Fit p b → Fit (acts ss p) (bits C ss b)
  | [], b, p, _, _, h => h
  | s :: ss, b, p, hb, hs, h => acts_fit ss _ _ (by omega) (fun t ht => hs t (List.mem_cons_of_mem _ ht)) (act_fit hb (hs s List.mem_cons_self) h)
theorem ok_Program_call {b C : Nat} {ss : List Stp} {u v : Int} (hb : C + 1 ≤ b) {m : Nat} (hm : ∀ s ∈ ss, s.len ≤ m) (hm2 : 2 ≤ m) (hb2 : (bits C ss b + 1) * m + bits C ss b ≤ 40000000) (hl : ss.length ≤ 1000) (hs : ∀ s ∈ ss, s.Ok (2 ^ C)) (hu : u.natAbs < 2 ^ b) (hv : v.natAbs < 2 ^ b) (q : Q (.tup [.int (acts ss (u, v)).1, .int (acts ss (u, v)).2]) μ) : wp_Program___call__ [progD ss, .int u, .int v] μ Q X := by
  unfold wp_Program___call__ wp_need_point
  simp only [Jbx, initE, Jcx, Jcj, Jbl, Jbm, Jc3, Jcs, Jct, Jca, Jcp, Jbn, Jcz, Jbo, Jbu, Jdd, Jde, Jdc, Jdf, Jdj, Jdh, Jdi, Jdg, Jc6, Jcc, Jd7, Jd6, Jcb, Jcm, Jd5, Jd4, Jcg, Jbs, Jd3, Jcl, Jbk, Jco, Jc9, Jbj, Jcn, Jck, Jd9, Jd8, Jdb, Jbp, Jci, Jcr, Jc5, Jcy, Jch, Jbq, Jcu, Jd0, Jdk, Jdl, Jcd, Jcv, Jcw, Jc8, Jbr, Jc4, Jbz, Jcf, gt, st, Jbc, Jba, Jbb, Jb8, Jbi, Ja5, atI0, atI1, atI2, atI3, atI4, ixN20, ixN21, List.map_cons, List.map_nil, List.cons_append, List.nil_append, List.append_nil, List.length_cons, List.length_nil, List.replicate_succ, List.replicate_zero, Nat.add_one_sub_one, Jda, Jbt, Jc0, Jc2, Jby, Jae, Jag, Jah, Jaf, Jb7, Jaw, Jax, Jak, Jav, Jb4, Jau, Jat, Jan, Jam, Jb2, Jai, Jaj, Jb0, Jb1, Jaq, Jb3, Jar, Jas, Jao, Jap, Jb6, Jb5, Ja7, Ja8, Jac, Jab, Ja0, Ja9, Jaa, Jbg, Jbh, Ja6, Jad, Jbd, Jbf, Jbe, Jb9, Ja2, Ja1, Ja4, Ja3, Jay, Jaz, decide_true, decide_false, Bool.not_true, Bool.not_false, Bool.false_eq_true, if_true, if_false, true_and]
  refine ok_is_number (t := .b "int") rfl ?_
  simp only [Jbx, initE, Jcx, Jcj, Jbl, Jbm, Jc3, Jcs, Jct, Jca, Jcp, Jbn, Jcz, Jbo, Jbu, Jdd, Jde, Jdc, Jdf, Jdj, Jdh, Jdi, Jdg, Jc6, Jcc, Jd7, Jd6, Jcb, Jcm, Jd5, Jd4, Jcg, Jbs, Jd3, Jcl, Jbk, Jco, Jc9, Jbj, Jcn, Jck, Jd9, Jd8, Jdb, Jbp, Jci, Jcr, Jc5, Jcy, Jch, Jbq, Jcu, Jd0, Jdk, Jdl, Jcd, Jcv, Jcw, Jc8, Jbr, Jc4, Jbz, Jcf, gt, st, Jbc, Jba, Jbb, Jb8, Jbi, Ja5, atI0, atI1, atI2, atI3, atI4, ixN20, ixN21, List.map_cons, List.map_nil, List.cons_append, List.nil_append, List.append_nil, List.length_cons, List.length_nil, List.replicate_succ, List.replicate_zero, Nat.add_one_sub_one, Jda, Jbt, Jc0, Jc2, Jby, Jae, Jag, Jah, Jaf, Jb7, Jaw, Jax, Jak, Jav, Jb4, Jau, Jat, Jan, Jam, Jb2, Jai, Jaj, Jb0, Jb1, Jaq, Jb3, Jar, Jas, Jao, Jap, Jb6, Jb5, Ja7, Ja8, Jac, Jab, Ja0, Ja9, Jaa, Jbg, Jbh, Ja6, Jad, Jbd, Jbf, Jbe, Jb9, Ja2, Ja1, Ja4, Ja3, Jay, Jaz, decide_true, decide_false, Bool.not_true, Bool.not_false, Bool.false_eq_true, if_true, if_false, true_and, numD]
  refine ok_is_number (t := .b "int") rfl ?_
  simp only [Jbx, initE, Jcx, Jcj, Jbl, Jbm, Jc3, Jcs, Jct, Jca, Jcp, Jbn, Jcz, Jbo, Jbu, Jdd, Jde, Jdc, Jdf, Jdj, Jdh, Jdi, Jdg, Jc6, Jcc, Jd7, Jd6, Jcb, Jcm, Jd5, Jd4, Jcg, Jbs, Jd3, Jcl, Jbk, Jco, Jc9, Jbj, Jcn, Jck, Jd9, Jd8, Jdb, Jbp, Jci, Jcr, Jc5, Jcy, Jch, Jbq, Jcu, Jd0, Jdk, Jdl, Jcd, Jcv, Jcw, Jc8, Jbr, Jc4, Jbz, Jcf, gt, st, Jbc, Jba, Jbb, Jb8, Jbi, Ja5, atI0, atI1, atI2, atI3, atI4, ixN20, ixN21, List.map_cons, List.map_nil, List.cons_append, List.nil_append, List.append_nil, List.length_cons, List.length_nil, List.replicate_succ, List.replicate_zero, Nat.add_one_sub_one, Jda, Jbt, Jc0, Jc2, Jby, Jae, Jag, Jah, Jaf, Jb7, Jaw, Jax, Jak, Jav, Jb4, Jau, Jat, Jan, Jam, Jb2, Jai, Jaj, Jb0, Jb1, Jaq, Jb3, Jar, Jas, Jao, Jap, Jb6, Jb5, Ja7, Ja8, Jac, Jab, Ja0, Ja9, Jaa, Jbg, Jbh, Ja6, Jad, Jbd, Jbf, Jbe, Jb9, Ja2, Ja1, Ja4, Ja3, Jay, Jaz, decide_true, decide_false, Bool.not_true, Bool.not_false, Bool.false_eq_true, if_true, if_false, true_and, numD, progD, progE, asObj, fldD]
  refine ⟨by rw [List.length_map]; omega, for_inv (fun i e μ' => μ' = μ ∧ ∃ x, e = [some (progD ss), some (.int (acts (ss.take i) (u, v)).1), some (.int (acts (ss.take i) (u, v)).2), x]) ⟨rfl, _, rfl⟩ ?_ ?_⟩
  · rintro i x e μ' N hx ⟨rfl, y, rfl⟩ hN
    obtain ⟨s, h1, rfl⟩ := map_get hx
    have hf := acts_fit (ss.take i) b (u, v) (by omega) (fun t ht => hs t (List.mem_of_mem_take ht)) ⟨hu, hv⟩
    have hmo := bits_mono C (ss.take i) b
    have ht := bits_take C ss i b
    have h4 := big_two hm2 hb2
    refine ⟨trivial, ?_⟩
    simp only [Jbx, initE, Jcx, Jcj, Jbl, Jbm, Jc3, Jcs, Jct, Jca, Jcp, Jbn, Jcz, Jbo, Jbu, Jdd, Jde, Jdc, Jdf, Jdj, Jdh, Jdi, Jdg, Jc6, Jcc, Jd7, Jd6, Jcb, Jcm, Jd5, Jd4, Jcg, Jbs, Jd3, Jcl, Jbk, Jco, Jc9, Jbj, Jcn, Jck, Jd9, Jd8, Jdb, Jbp, Jci, Jcr, Jc5, Jcy, Jch, Jbq, Jcu, Jd0, Jdk, Jdl, Jcd, Jcv, Jcw, Jc8, Jbr, Jc4, Jbz, Jcf, gt, st, Jbc, Jba, Jbb, Jb8, Jbi, Ja5, atI0, atI1, atI2, atI3, atI4, ixN20, ixN21, List.map_cons, List.map_nil, List.cons_append, List.nil_append, List.append_nil, List.length_cons, List.length_nil, List.replicate_succ, List.replicate_zero, Nat.add_one_sub_one, Jda, Jbt, Jc0, Jc2, Jby, Jae, Jag, Jah, Jaf, Jb7, Jaw, Jax, Jak, Jav, Jb4, Jau, Jat, Jan, Jam, Jb2, Jai, Jaj, Jb0, Jb1, Jaq, Jb3, Jar, Jas, Jao, Jap, Jb6, Jb5, Ja7, Ja8, Jac, Jab, Ja0, Ja9, Jaa, Jbg, Jbh, Ja6, Jad, Jbd, Jbf, Jbe, Jb9, Ja2, Ja1, Ja4, Ja3, Jay, Jaz, decide_true, decide_false, Bool.not_true, Bool.not_false, Bool.false_eq_true, if_true, if_false, true_and]
    refine ok_done (b := bits C (ss.take i) b) (by omega) (big_le ht (hm s (List.mem_of_getElem? h1)) hb2) (by omega) (hs s (List.mem_of_getElem? h1)) hf.1 hf.2 ?_
    simp only [Jbx, initE, Jcx, Jcj, Jbl, Jbm, Jc3, Jcs, Jct, Jca, Jcp, Jbn, Jcz, Jbo, Jbu, Jdd, Jde, Jdc, Jdf, Jdj, Jdh, Jdi, Jdg, Jc6, Jcc, Jd7, Jd6, Jcb, Jcm, Jd5, Jd4, Jcg, Jbs, Jd3, Jcl, Jbk, Jco, Jc9, Jbj, Jcn, Jck, Jd9, Jd8, Jdb, Jbp, Jci, Jcr, Jc5, Jcy, Jch, Jbq, Jcu, Jd0, Jdk, Jdl, Jcd, Jcv, Jcw, Jc8, Jbr, Jc4, Jbz, Jcf, gt, st, Jbc, Jba, Jbb, Jb8, Jbi, Ja5, atI0, atI1, atI2, atI3, atI4, ixN20, ixN21, List.map_cons, List.map_nil, List.cons_append, List.nil_append, List.append_nil, List.length_cons, List.length_nil, List.replicate_succ, List.replicate_zero, Nat.add_one_sub_one, Jda, Jbt, Jc0, Jc2, Jby, Jae, Jag, Jah, Jaf, Jb7, Jaw, Jax, Jak, Jav, Jb4, Jau, Jat, Jan, Jam, Jb2, Jai, Jaj, Jb0, Jb1, Jaq, Jb3, Jar, Jas, Jao, Jap, Jb6, Jb5, Ja7, Ja8, Jac, Jab, Ja0, Ja9, Jaa, Jbg, Jbh, Ja6, Jad, Jbd, Jbf, Jbe, Jb9, Ja2, Ja1, Ja4, Ja3, Jay, Jaz, decide_true, decide_false, Bool.not_true, Bool.not_false, Bool.false_eq_true, if_true, if_false, true_and]
    refine hN _ _ ⟨rfl, some s.p, ?_⟩
    rw [acts_take ss i s _ h1]
  · rintro e μ' ⟨rfl, y, rfl⟩
    refine ⟨trivial, ?_⟩
    simp only [Jbx, initE, Jcx, Jcj, Jbl, Jbm, Jc3, Jcs, Jct, Jca, Jcp, Jbn, Jcz, Jbo, Jbu, Jdd, Jde, Jdc, Jdf, Jdj, Jdh, Jdi, Jdg, Jc6, Jcc, Jd7, Jd6, Jcb, Jcm, Jd5, Jd4, Jcg, Jbs, Jd3, Jcl, Jbk, Jco, Jc9, Jbj, Jcn, Jck, Jd9, Jd8, Jdb, Jbp, Jci, Jcr, Jc5, Jcy, Jch, Jbq, Jcu, Jd0, Jdk, Jdl, Jcd, Jcv, Jcw, Jc8, Jbr, Jc4, Jbz, Jcf, gt, st, Jbc, Jba, Jbb, Jb8, Jbi, Ja5, atI0, atI1, atI2, atI3, atI4, ixN20, ixN21, List.map_cons, List.map_nil, List.cons_append, List.nil_append, List.append_nil, List.length_cons, List.length_nil, List.replicate_succ, List.replicate_zero, Nat.add_one_sub_one, Jda, Jbt, Jc0, Jc2, Jby, Jae, Jag, Jah, Jaf, Jb7, Jaw, Jax, Jak, Jav, Jb4, Jau, Jat, Jan, Jam, Jb2, Jai, Jaj, Jb0, Jb1, Jaq, Jb3, Jar, Jas, Jao, Jap, Jb6, Jb5, Ja7, Ja8, Jac, Jab, Ja0, Ja9, Jaa, Jbg, Jbh, Ja6, Jad, Jbd, Jbf, Jbe, Jb9, Ja2, Ja1, Ja4, Ja3, Jay, Jaz, decide_true, decide_false, Bool.not_true, Bool.not_false, Bool.false_eq_true, if_true, if_false, true_and, List.length_map, List.take_length]
    exact ⟨by simp [sizeLine_eq], q⟩
/-! ### back -/
def Stp.inv : Stp → Stp
  | .x ns => .x (ns.map fun n => 0 - n)
  | .y ns => .y (ns.map fun n => 0 - n)
  | .move s t => .move (0 - s) (0 - t)
  | .turn a b c d => .turn ((a * d - b * c) * d) (0 - (a * d - b * c) * b) (0 - (a * d - b * c) * c) ((a * d - b * c) * a)
end
end DL

set_option Elab.async false
set_option linter.all false
set_option maxRecDepth 100000
set_option maxHeartbeats 4000000
/-! P13: programs undone, joined, repeated. -/
namespace DL
open PySem L2
section
variable {μ : Mu} {Q X : QD} {d : D} {B : Nat}
/-- a program run backwards -/
def back (ss : List Stp) : List Stp := ss.reverse.map Stp.inv
/-- so many passes -/
def many (ss : List Stp) (n : Nat) : List Stp := (List.replicate n ss).flatten
end
end DL

set_option Elab.async false
set_option linter.all false
set_option maxRecDepth 100000
set_option maxHeartbeats 4000000
/-! B0: benches, and the laws' models of them. -/
namespace DL
open PySem L2
/-! ### equations of the later wishes -/
def dgB (k : Str) (x : D) (μ : Mu) (Q : QD) : Prop := match x with
  | .cell p => (match ndK (μ p) with
    | some (ks, ds) => (match getK (Sum.inr k) ks ds with
      | some d => Q d μ
      | Option.none => False)
    | Option.none => False)
  | _ => False
theorem Jbv (k : Str) (o : WE) (e : EnvD) (μ : Mu) (Q : QD) (X : QD) : wDGet k o e μ Q X = o e μ (fun x μ1 => dgB k x μ1 Q) X := propext Iff.rfl
def dpF (k : Str) (d x : D) (μ : Mu) (K : Mu → Prop) : Prop := match x with
  | .cell p => (match ndK (μ p) with
    | some (ks, ds) => (Sum.inr k) ∈ ks ∧ ks.length < 1000 ∧ K (up μ p (.dk ks (setK (Sum.inr k) d ks ds)))
    | Option.none => False)
  | _ => False
theorem Jbw (k : Str) (o v : WE) (e : EnvD) (μ : Mu) (E : WEnds) : wDPut k o v e μ E = v e μ (fun d μ1 => o e μ1 (fun x μ2 => dpF k d x μ2 fun μ3 => E.nx e μ3) fun d μ1 => E.xp d e μ1) (fun d μ1 => E.xp d e μ1) := propext Iff.rfl
theorem Jc1 (m : Bool) (k1 k2 k3 : Str) (a b d : WE) (e : EnvD) (μ : Mu) (Q X : QD) : wDisp3 m k1 k2 k3 a b d e μ Q X = a e μ (fun x μ1 => b e μ1 (fun y μ2 => d e μ2 (fun z μ3 => sett m Q (.n (.dk [Sum.inr k1, Sum.inr k2, Sum.inr k3] [x, y, z])) μ3) X) X) X := propext Iff.rfl
def frF (Q : QD) (d : D) (μ : Mu) : Prop := match d with
  | .cell b => (match μ b with
    | some nd => Q nd.frz (del μ b)
    | Option.none => False)
  | d => Q d μ
theorem Jc7 (w : WE) (e : EnvD) (μ : Mu) (Q X : QD) : wFr w e μ Q X = w e μ (frF Q) X := by
  refine propext (Iff.of_eq ?_)
  unfold wFr
  congr 1
theorem frF_up {Q : QD} {μ : Mu} {p : Addr} {nd : Nd} (hp : μ p = Option.none) (q : Q nd.frz μ) : frF Q (.cell p) (up μ p nd) := by
  unfold frF
  simp only [up_same, del_up hp]
  exact q
theorem mkQ_t {Q : QD} {p : Addr} {μ : Mu} {nd : Nd} (hp : μ p = Option.none) (q : ∀ p', μ p' = Option.none → Q (.cell p') (up μ p' nd)) : mkQ true Q p .none (up μ p nd) := by
  refine ⟨rfl, ?_⟩
  rw [up_same, del_up hp]
  exact q
/-! ### benches -/
def ptD (p : Int × Int) : D := .tup [.int p.1, .int p.2]
/-- the steps with the points behind them -/
def ptsS (b : Int × Int) : List Stp → List (Stp × (Int × Int))
  | [] => []
  | s :: ss => (s, s.act b) :: ptsS (s.act b) ss
def enP (e : Stp × (Int × Int)) : D := .tup [e.1.p, ptD e.2]
def enB (e : Stp × (Int × Int)) : D := .tup [e.1.b, ptD e.2]
def doneD (b : Int × Int) (ss : List Stp) : D := .tup ((ptsS b ss).map enP)
def pastD (b : Int × Int) (ss : List Stp) : D := .list ((ptsS b ss).map enB)
abbrev benF : List Str := ["own_begun", "done", "held"]
def benN (b : Int × Int) (ss : List Stp) (h : D) : Nd := .obj "Bench" benF [ptD b, doneD b ss, h]
abbrev modK : List Key := [Sum.inr "begun", Sum.inr "past", Sum.inr "room"]
def modN (b : Int × Int) (ss : List Stp) (r : Int) : Nd := .dk modK [ptD b, pastD b ss, .int r]
theorem ptsS_snoc : ∀ (b : Int × Int) (ss : List Stp) (s : Stp), ptsS b (ss ++ [s]) = ptsS b ss ++ [(s, s.act (acts ss b))]
  | b, [], s => rfl
  | b, t :: ss, s => by
    rw [List.cons_append, ptsS, ptsS_snoc, ptsS]
    rfl
theorem ptsS_len : ∀ (b : Int × Int) (ss : List Stp), (ptsS b ss).length = ss.length
  | b, [] => rfl
  | b, t :: ss => by rw [ptsS, List.length_cons, List.length_cons, ptsS_len]
theorem ptsS_fst : ∀ (b : Int × Int) (ss : List Stp), (ptsS b ss).map (·.1) = ss
  | b, [] => rfl
  | b, t :: ss => by rw [ptsS, List.map_cons, ptsS_fst]
theorem f_begun (a b c : D) : fldD "own_begun" benF [a, b, c] = some a := rfl
theorem f_done (a b c : D) : fldD "done" benF [a, b, c] = some b := rfl
theorem f_held (a b c : D) : fldD "held" benF [a, b, c] = some c := rfl
theorem p_done (a b c d : D) : putN "done" d benF [a, b, c] = (benF, [a, d, c]) := rfl
theorem p_held (a b c d : D) : putN "held" d benF [a, b, c] = (benF, [a, b, d]) := rfl
theorem p_a (d : D) : putN "own_begun" d [] [] = ((["own_begun"] : List Str), [d]) := rfl
theorem p_b (a d : D) : putN "done" d ["own_begun"] [a] = ((["own_begun", "done"] : List Str), [a, d]) := rfl
theorem p_c (a b d : D) : putN "held" d ["own_begun", "done"] [a, b] = (benF, [a, b, d]) := rfl
theorem at_end (l : List D) (x : D) : atI (l ++ [x]) (-1) = some x := by
  have e : ixN (l ++ [x]).length (-1) = some l.length := by
    rw [List.length_append]
    unfold ixN
    rw [if_neg (by decide), if_pos (by simp; omega)]
    congr 1
    simp
    omega
  unfold atI
  rw [e]
  simp
theorem snoc_cases (ss : List Stp) : ss = [] ∨ ∃ tt s, ss = tt ++ [s] := by
  rcases List.eq_nil_or_concat ss with h | ⟨tt, s, h⟩
  · exact .inl h
  · exact .inr ⟨tt, s, by rw [h]; exact List.concat_eq_append⟩
theorem acts_end (ss : List Stp) (s : Stp) (p : Int × Int) : acts (ss ++ [s]) p = s.act (acts ss p) := by
  induction ss generalizing p with
  | nil => rfl
  | cons t ss ih => exact ih _
def wp_Bench___init__ : WP := (wDef 3 3 (wSeq (wDrop (wCall wp_need_point [] (waCons (wV 1) (waCons (wV 2) waNil))))
    (wSeq (wSetF "Bench" "own_begun" (wV 0) (wTup (waCons (wV 1) (waCons (wV 2) waNil))))
    (wSeq (wSetF "Bench" "done" (wV 0) (wTup waNil))
    (wSetF "Bench" "held" (wV 0) (wK .none))))))
def wp_Bench_point : WP := (wDef 1 1 (wRet (wIf (wTst (wOp false oNe0 (wFld "Bench" "done" (wV 0)) (wTup waNil))) (wOp false oIx (wOp false oIx (wFld "Bench" "done" (wV 0)) (wUn false oNeg (wK (.int 1)))) (wK (.int 1))) (wFld "Bench" "own_begun" (wV 0)))))
def wp_Bench_begun : WP := (wDef 1 1 (wRet (wFld "Bench" "own_begun" (wV 0))))
def wp_Bench_log : WP := (wDef 1 3 (wRet (wLc true (wiSeq (wFld "Bench" "done" (wV 0))) (wgTup 2 (wgCons (wgN 1) (wgCons (wgN 2) wgNil))) wYes (wV 1) [1, 2])))
def wp_Bench_do : WP := (wDef 2 5 (wSeq (wIfS (wNotT (wTst (wCall wp_is_step [] (waCons (wV 1) waNil)))) (wRzA "BadDeed" "deed" (wV 1)) wNext)
    (wSeq (wAsgG (wgTup 2 (wgCons (wgN 2) (wgCons (wgN 3) wgNil))) (wProp "Bench" "point" wp_Bench_point (wV 0)))
    (wSeq (wAsg 4 (wCallI "Program" wp_Program___call__ (wMake false "Program" wp_Program___init__ [] (waCons (wLst false (waCons (wV 1) waNil)) waNil)) (waCons (wV 2) (waCons (wV 3) waNil))))
    (wSeq (wSetF "Bench" "done" (wV 0) (wTup (waStar (wFld "Bench" "done" (wV 0)) (waCons (wTup (waCons (wV 1) (waCons (wV 4) waNil))) waNil))))
    (wRet (wV 4)))))))
section
variable {μ : Mu} {Q X : QD} {QQ : QR} {d : D} {p q : Addr} {b : Int × Int} {ss : List Stp} {h : D} {r : Int}
theorem ben_ndO (hp : μ p = some (benN b ss h)) : ndO (μ p) = some (("Bench" : Str), benF, [ptD b, doneD b ss, h]) := by
  rw [hp]
  rfl
theorem ben_obj (hp : μ p = some (benN b ss h)) : asObj μ (.cell p) = some (("Bench" : Str), benF, [ptD b, doneD b ss, h]) := ben_ndO hp
theorem ben_is {m : Str} {P : Prop} (hp : μ p = some (benN b ss h)) (hm : m ∉ benF) : isOf "Bench" m μ (.cell p) P = P := by
  unfold isOf
  rw [ben_obj hp]
  exact propext ⟨fun h => h.2.2, fun h => ⟨rfl, hm, h⟩⟩
theorem get_begun (hp : μ p = some (modN b ss r)) : dgB "begun" (.cell p) μ Q = Q (ptD b) μ := by
  unfold dgB
  dsimp only
  rw [hp]
  rfl
theorem get_past (hp : μ p = some (modN b ss r)) : dgB "past" (.cell p) μ Q = Q (pastD b ss) μ := by
  unfold dgB
  dsimp only
  rw [hp]
  rfl
theorem get_room (hp : μ p = some (modN b ss r)) : dgB "room" (.cell p) μ Q = Q (.int r) μ := by
  unfold dgB
  dsimp only
  rw [hp]
  rfl
theorem put_room {K : Mu → Prop} {i : Int} (hp : μ p = some (modN b ss r)) (k : K (up μ p (modN b ss i))) : dpF "room" (.int i) (.cell p) μ K := by
  unfold dpF
  dsimp only
  rw [hp]
  exact ⟨by simp, by decide, k⟩
theorem put_past {K : Mu → Prop} {tt : List Stp} (hp : μ p = some (modN b ss r)) (k : K (up μ p (modN b tt r))) : dpF "past" (pastD b tt) (.cell p) μ K := by
  unfold dpF
  dsimp only
  rw [hp]
  exact ⟨by simp, by decide, k⟩
theorem ok_need_point {u v : Int} (q : Q .none μ) : wp_need_point [.int u, .int v] μ Q X := by
  unfold wp_need_point
  simp only [Jbx, initE, Jcx, Jcj, Jbl, Jbm, Jc3, Jcs, Jct, Jca, Jcp, Jbn, Jcz, Jbo, Jbu, Jdd, Jde, Jdc, Jdf, Jdj, Jdh, Jdi, Jdg, Jc6, Jcc, Jd7, Jd6, Jcb, Jcm, Jd5, Jd4, Jcg, Jbs, Jd3, Jcl, Jbk, Jco, Jc9, Jbj, Jcn, Jck, Jd9, Jd8, Jdb, Jbp, Jci, Jcr, Jc5, Jcy, Jch, Jbq, Jcu, Jd0, Jdk, Jdl, Jcd, Jcv, Jcw, Jc8, Jbr, Jc4, Jbz, Jcf, gt, st, Jbc, Jba, Jbb, Jb8, Jbi, Ja5, atI0, atI1, atI2, atI3, atI4, ixN20, ixN21, List.map_cons, List.map_nil, List.cons_append, List.nil_append, List.append_nil, List.length_cons, List.length_nil, List.replicate_succ, List.replicate_zero, Nat.add_one_sub_one, Jda, Jbt, Jc0, Jc2, Jby, Jae, Jag, Jah, Jaf, Jb7, Jaw, Jax, Jak, Jav, Jb4, Jau, Jat, Jan, Jam, Jb2, Jai, Jaj, Jb0, Jb1, Jaq, Jb3, Jar, Jas, Jao, Jap, Jb6, Jb5, Ja7, Ja8, Jac, Jab, Ja0, Ja9, Jaa, Jbg, Jbh, Ja6, Jad, Jbd, Jbf, Jbe, Jb9, Ja2, Ja1, Ja4, Ja3, Jay, Jaz, decide_true, decide_false, Bool.not_true, Bool.not_false, Bool.false_eq_true, if_true, if_false, true_and]
  refine ok_is_number (t := .b "int") rfl ?_
  simp only [Jbx, initE, Jcx, Jcj, Jbl, Jbm, Jc3, Jcs, Jct, Jca, Jcp, Jbn, Jcz, Jbo, Jbu, Jdd, Jde, Jdc, Jdf, Jdj, Jdh, Jdi, Jdg, Jc6, Jcc, Jd7, Jd6, Jcb, Jcm, Jd5, Jd4, Jcg, Jbs, Jd3, Jcl, Jbk, Jco, Jc9, Jbj, Jcn, Jck, Jd9, Jd8, Jdb, Jbp, Jci, Jcr, Jc5, Jcy, Jch, Jbq, Jcu, Jd0, Jdk, Jdl, Jcd, Jcv, Jcw, Jc8, Jbr, Jc4, Jbz, Jcf, gt, st, Jbc, Jba, Jbb, Jb8, Jbi, Ja5, atI0, atI1, atI2, atI3, atI4, ixN20, ixN21, List.map_cons, List.map_nil, List.cons_append, List.nil_append, List.append_nil, List.length_cons, List.length_nil, List.replicate_succ, List.replicate_zero, Nat.add_one_sub_one, Jda, Jbt, Jc0, Jc2, Jby, Jae, Jag, Jah, Jaf, Jb7, Jaw, Jax, Jak, Jav, Jb4, Jau, Jat, Jan, Jam, Jb2, Jai, Jaj, Jb0, Jb1, Jaq, Jb3, Jar, Jas, Jao, Jap, Jb6, Jb5, Ja7, Ja8, Jac, Jab, Ja0, Ja9, Jaa, Jbg, Jbh, Ja6, Jad, Jbd, Jbf, Jbe, Jb9, Ja2, Ja1, Ja4, Ja3, Jay, Jaz, decide_true, decide_false, Bool.not_true, Bool.not_false, Bool.false_eq_true, if_true, if_false, true_and, numD]
  refine ok_is_number (t := .b "int") rfl ?_
  simp only [Jbx, initE, Jcx, Jcj, Jbl, Jbm, Jc3, Jcs, Jct, Jca, Jcp, Jbn, Jcz, Jbo, Jbu, Jdd, Jde, Jdc, Jdf, Jdj, Jdh, Jdi, Jdg, Jc6, Jcc, Jd7, Jd6, Jcb, Jcm, Jd5, Jd4, Jcg, Jbs, Jd3, Jcl, Jbk, Jco, Jc9, Jbj, Jcn, Jck, Jd9, Jd8, Jdb, Jbp, Jci, Jcr, Jc5, Jcy, Jch, Jbq, Jcu, Jd0, Jdk, Jdl, Jcd, Jcv, Jcw, Jc8, Jbr, Jc4, Jbz, Jcf, gt, st, Jbc, Jba, Jbb, Jb8, Jbi, Ja5, atI0, atI1, atI2, atI3, atI4, ixN20, ixN21, List.map_cons, List.map_nil, List.cons_append, List.nil_append, List.append_nil, List.length_cons, List.length_nil, List.replicate_succ, List.replicate_zero, Nat.add_one_sub_one, Jda, Jbt, Jc0, Jc2, Jby, Jae, Jag, Jah, Jaf, Jb7, Jaw, Jax, Jak, Jav, Jb4, Jau, Jat, Jan, Jam, Jb2, Jai, Jaj, Jb0, Jb1, Jaq, Jb3, Jar, Jas, Jao, Jap, Jb6, Jb5, Ja7, Ja8, Jac, Jab, Ja0, Ja9, Jaa, Jbg, Jbh, Ja6, Jad, Jbd, Jbf, Jbe, Jb9, Ja2, Ja1, Ja4, Ja3, Jay, Jaz, decide_true, decide_false, Bool.not_true, Bool.not_false, Bool.false_eq_true, if_true, if_false, true_and, numD]
  exact q
theorem ok_Bench_init {u v : Int} (hp : μ p = Option.none) (k : Q .none (up μ p (benN (u, v) [] .none))) : wp_Bench___init__ [.cell p, .int u, .int v] (up μ p (.obj "Bench" [] [])) Q X := by
  unfold wp_Bench___init__
  simp only [Jbx, initE, Jcx, Jcj, Jbl, Jbm, Jc3, Jcs, Jct, Jca, Jcp, Jbn, Jcz, Jbo, Jbu, Jdd, Jde, Jdc, Jdf, Jdj, Jdh, Jdi, Jdg, Jc6, Jcc, Jd7, Jd6, Jcb, Jcm, Jd5, Jd4, Jcg, Jbs, Jd3, Jcl, Jbk, Jco, Jc9, Jbj, Jcn, Jck, Jd9, Jd8, Jdb, Jbp, Jci, Jcr, Jc5, Jcy, Jch, Jbq, Jcu, Jd0, Jdk, Jdl, Jcd, Jcv, Jcw, Jc8, Jbr, Jc4, Jbz, Jcf, gt, st, Jbc, Jba, Jbb, Jb8, Jbi, Ja5, atI0, atI1, atI2, atI3, atI4, ixN20, ixN21, List.map_cons, List.map_nil, List.cons_append, List.nil_append, List.append_nil, List.length_cons, List.length_nil, List.replicate_succ, List.replicate_zero, Nat.add_one_sub_one, Jda, Jbt, Jc0, Jc2, Jby, Jae, Jag, Jah, Jaf, Jb7, Jaw, Jax, Jak, Jav, Jb4, Jau, Jat, Jan, Jam, Jb2, Jai, Jaj, Jb0, Jb1, Jaq, Jb3, Jar, Jas, Jao, Jap, Jb6, Jb5, Ja7, Ja8, Jac, Jab, Ja0, Ja9, Jaa, Jbg, Jbh, Ja6, Jad, Jbd, Jbf, Jbe, Jb9, Ja2, Ja1, Ja4, Ja3, Jay, Jaz, decide_true, decide_false, Bool.not_true, Bool.not_false, Bool.false_eq_true, if_true, if_false, true_and]
  refine ok_need_point ?_
  simp only [up_same, ndO, up_up, p_a, p_b, p_c, true_and]
  exact ⟨by simp [sizeLine_eq], by decide, by simp [sizeLine_eq], by decide, by decide, k⟩
theorem mk_Bench {u v : Int} (k : ∀ p', μ p' = Option.none → Q (.cell p') (up μ p' (benN (u, v) [] .none))) (p : Addr) (hp : μ p = Option.none) : wp_Bench___init__ [.cell p, .int u, .int v] (up μ p (.obj "Bench" [] [])) (mkQ true Q p) X := ok_Bench_init hp (mkQ_t hp k)
theorem ok_Bench_point (hp : μ p = some (benN b ss h)) (k : Q (ptD (acts ss b)) μ) : wp_Bench_point [.cell p] μ Q X := by
  unfold wp_Bench_point
  simp only [Jbx, initE, Jcx, Jcj, Jbl, Jbm, Jc3, Jcs, Jct, Jca, Jcp, Jbn, Jcz, Jbo, Jbu, Jdd, Jde, Jdc, Jdf, Jdj, Jdh, Jdi, Jdg, Jc6, Jcc, Jd7, Jd6, Jcb, Jcm, Jd5, Jd4, Jcg, Jbs, Jd3, Jcl, Jbk, Jco, Jc9, Jbj, Jcn, Jck, Jd9, Jd8, Jdb, Jbp, Jci, Jcr, Jc5, Jcy, Jch, Jbq, Jcu, Jd0, Jdk, Jdl, Jcd, Jcv, Jcw, Jc8, Jbr, Jc4, Jbz, Jcf, gt, st, Jbc, Jba, Jbb, Jb8, Jbi, Ja5, atI0, atI1, atI2, atI3, atI4, ixN20, ixN21, List.map_cons, List.map_nil, List.cons_append, List.nil_append, List.append_nil, List.length_cons, List.length_nil, List.replicate_succ, List.replicate_zero, Nat.add_one_sub_one, Jda, Jbt, Jc0, Jc2, Jby, Jae, Jag, Jah, Jaf, Jb7, Jaw, Jax, Jak, Jav, Jb4, Jau, Jat, Jan, Jam, Jb2, Jai, Jaj, Jb0, Jb1, Jaq, Jb3, Jar, Jas, Jao, Jap, Jb6, Jb5, Ja7, Ja8, Jac, Jab, Ja0, Ja9, Jaa, Jbg, Jbh, Ja6, Jad, Jbd, Jbf, Jbe, Jb9, Ja2, Ja1, Ja4, Ja3, Jay, Jaz, decide_true, decide_false, Bool.not_true, Bool.not_false, Bool.false_eq_true, if_true, if_false, true_and, ben_obj hp, f_done, f_begun, doneD]
  rcases snoc_cases ss with rfl | ⟨tt, s, rfl⟩
  · simp only [ptsS, List.map_nil, List.isEmpty_nil, Bool.not_true, if_neg Bool.false_ne_true]
    exact ⟨Nat.zero_le _, k⟩
  · rw [acts_end] at k
    rw [ptsS_snoc, List.map_append]
    refine ⟨Nat.zero_le _, ?_⟩
    rw [if_pos (by simp)]
    simp only [List.map_cons, List.map_nil, at_end, enP, Jbx, initE, Jcx, Jcj, Jbl, Jbm, Jc3, Jcs, Jct, Jca, Jcp, Jbn, Jcz, Jbo, Jbu, Jdd, Jde, Jdc, Jdf, Jdj, Jdh, Jdi, Jdg, Jc6, Jcc, Jd7, Jd6, Jcb, Jcm, Jd5, Jd4, Jcg, Jbs, Jd3, Jcl, Jbk, Jco, Jc9, Jbj, Jcn, Jck, Jd9, Jd8, Jdb, Jbp, Jci, Jcr, Jc5, Jcy, Jch, Jbq, Jcu, Jd0, Jdk, Jdl, Jcd, Jcv, Jcw, Jc8, Jbr, Jc4, Jbz, Jcf, gt, st, Jbc, Jba, Jbb, Jb8, Jbi, Ja5, atI0, atI1, atI2, atI3, atI4, ixN20, ixN21, List.map_cons, List.map_nil, List.cons_append, List.nil_append, List.append_nil, List.length_cons, List.length_nil, List.replicate_succ, List.replicate_zero, Nat.add_one_sub_one, Jda, Jbt, Jc0, Jc2, Jby, Jae, Jag, Jah, Jaf, Jb7, Jaw, Jax, Jak, Jav, Jb4, Jau, Jat, Jan, Jam, Jb2, Jai, Jaj, Jb0, Jb1, Jaq, Jb3, Jar, Jas, Jao, Jap, Jb6, Jb5, Ja7, Ja8, Jac, Jab, Ja0, Ja9, Jaa, Jbg, Jbh, Ja6, Jad, Jbd, Jbf, Jbe, Jb9, Ja2, Ja1, Ja4, Ja3, Jay, Jaz, decide_true, decide_false, Bool.not_true, Bool.not_false, Bool.false_eq_true, if_true, if_false, true_and]
    exact k
theorem ok_Bench_begun (hp : μ p = some (benN b ss h)) (k : Q (ptD b) μ) : wp_Bench_begun [.cell p] μ Q X := by
  unfold wp_Bench_begun
  simp only [Jbx, initE, Jcx, Jcj, Jbl, Jbm, Jc3, Jcs, Jct, Jca, Jcp, Jbn, Jcz, Jbo, Jbu, Jdd, Jde, Jdc, Jdf, Jdj, Jdh, Jdi, Jdg, Jc6, Jcc, Jd7, Jd6, Jcb, Jcm, Jd5, Jd4, Jcg, Jbs, Jd3, Jcl, Jbk, Jco, Jc9, Jbj, Jcn, Jck, Jd9, Jd8, Jdb, Jbp, Jci, Jcr, Jc5, Jcy, Jch, Jbq, Jcu, Jd0, Jdk, Jdl, Jcd, Jcv, Jcw, Jc8, Jbr, Jc4, Jbz, Jcf, gt, st, Jbc, Jba, Jbb, Jb8, Jbi, Ja5, atI0, atI1, atI2, atI3, atI4, ixN20, ixN21, List.map_cons, List.map_nil, List.cons_append, List.nil_append, List.append_nil, List.length_cons, List.length_nil, List.replicate_succ, List.replicate_zero, Nat.add_one_sub_one, Jda, Jbt, Jc0, Jc2, Jby, Jae, Jag, Jah, Jaf, Jb7, Jaw, Jax, Jak, Jav, Jb4, Jau, Jat, Jan, Jam, Jb2, Jai, Jaj, Jb0, Jb1, Jaq, Jb3, Jar, Jas, Jao, Jap, Jb6, Jb5, Ja7, Ja8, Jac, Jab, Ja0, Ja9, Jaa, Jbg, Jbh, Ja6, Jad, Jbd, Jbf, Jbe, Jb9, Ja2, Ja1, Ja4, Ja3, Jay, Jaz, decide_true, decide_false, Bool.not_true, Bool.not_false, Bool.false_eq_true, if_true, if_false, true_and, ben_obj hp, f_begun]
  exact k
theorem ok_Bench_log (hp : μ p = some (benN b ss h)) (hl : ss.length ≤ 1000) (k : ∀ p', μ p' = Option.none → Q (.cell p') (up μ p' (.list (ss.map Stp.p)))) : wp_Bench_log [.cell p] μ Q X := by
  unfold wp_Bench_log
  simp only [Jbx, initE, Jcx, Jcj, Jbl, Jbm, Jc3, Jcs, Jct, Jca, Jcp, Jbn, Jcz, Jbo, Jbu, Jdd, Jde, Jdc, Jdf, Jdj, Jdh, Jdi, Jdg, Jc6, Jcc, Jd7, Jd6, Jcb, Jcm, Jd5, Jd4, Jcg, Jbs, Jd3, Jcl, Jbk, Jco, Jc9, Jbj, Jcn, Jck, Jd9, Jd8, Jdb, Jbp, Jci, Jcr, Jc5, Jcy, Jch, Jbq, Jcu, Jd0, Jdk, Jdl, Jcd, Jcv, Jcw, Jc8, Jbr, Jc4, Jbz, Jcf, gt, st, Jbc, Jba, Jbb, Jb8, Jbi, Ja5, atI0, atI1, atI2, atI3, atI4, ixN20, ixN21, List.map_cons, List.map_nil, List.cons_append, List.nil_append, List.append_nil, List.length_cons, List.length_nil, List.replicate_succ, List.replicate_zero, Nat.add_one_sub_one, Jda, Jbt, Jc0, Jc2, Jby, Jae, Jag, Jah, Jaf, Jb7, Jaw, Jax, Jak, Jav, Jb4, Jau, Jat, Jan, Jam, Jb2, Jai, Jaj, Jb0, Jb1, Jaq, Jb3, Jar, Jas, Jao, Jap, Jb6, Jb5, Ja7, Ja8, Jac, Jab, Ja0, Ja9, Jaa, Jbg, Jbh, Ja6, Jad, Jbd, Jbf, Jbe, Jb9, Ja2, Ja1, Ja4, Ja3, Jay, Jaz, decide_true, decide_false, Bool.not_true, Bool.not_false, Bool.false_eq_true, if_true, if_false, true_and, ben_obj hp, f_done, doneD]
  refine ⟨by rw [List.length_map, ptsS_len, sizeLine_eq]; omega, lc_inv (fun i acc μ' => μ' = μ ∧ acc = (ss.take i).map Stp.p) ⟨rfl, rfl⟩ ?_ ?_⟩
  · rintro i x acc μ' N hx ⟨rfl, rfl⟩ hN
    obtain ⟨e, he, rfl⟩ := map_get hx
    refine ⟨trivial, ?_⟩
    simp only [Jbx, initE, Jcx, Jcj, Jbl, Jbm, Jc3, Jcs, Jct, Jca, Jcp, Jbn, Jcz, Jbo, Jbu, Jdd, Jde, Jdc, Jdf, Jdj, Jdh, Jdi, Jdg, Jc6, Jcc, Jd7, Jd6, Jcb, Jcm, Jd5, Jd4, Jcg, Jbs, Jd3, Jcl, Jbk, Jco, Jc9, Jbj, Jcn, Jck, Jd9, Jd8, Jdb, Jbp, Jci, Jcr, Jc5, Jcy, Jch, Jbq, Jcu, Jd0, Jdk, Jdl, Jcd, Jcv, Jcw, Jc8, Jbr, Jc4, Jbz, Jcf, gt, st, Jbc, Jba, Jbb, Jb8, Jbi, Ja5, atI0, atI1, atI2, atI3, atI4, ixN20, ixN21, List.map_cons, List.map_nil, List.cons_append, List.nil_append, List.append_nil, List.length_cons, List.length_nil, List.replicate_succ, List.replicate_zero, Nat.add_one_sub_one, Jda, Jbt, Jc0, Jc2, Jby, Jae, Jag, Jah, Jaf, Jb7, Jaw, Jax, Jak, Jav, Jb4, Jau, Jat, Jan, Jam, Jb2, Jai, Jaj, Jb0, Jb1, Jaq, Jb3, Jar, Jas, Jao, Jap, Jb6, Jb5, Ja7, Ja8, Jac, Jab, Ja0, Ja9, Jaa, Jbg, Jbh, Ja6, Jad, Jbd, Jbf, Jbe, Jb9, Ja2, Ja1, Ja4, Ja3, Jay, Jaz, decide_true, decide_false, Bool.not_true, Bool.not_false, Bool.false_eq_true, if_true, if_false, true_and, enP, wipeE]
    refine hN _ _ ⟨rfl, ?_⟩
    have h2 : ss[i]? = some e.1 := by
      have := congrArg (fun l => l[i]?) (ptsS_fst b ss)
      simp only [List.getElem?_map, he, Option.map_some] at this
      exact this.symm
    rw [List.take_succ, h2, List.map_append]
    rfl
  · rintro acc μ' ⟨rfl, rfl⟩
    refine ⟨trivial, ?_⟩
    rw [List.length_map, ptsS_len, List.take_length]
    exact k
end
end DL

set_option Elab.async false
set_option linter.all false
set_option maxRecDepth 100000
set_option maxHeartbeats 4000000
/-! R0: repr of data with great numbers. -/
namespace DL
open PySem L2
theorem shB_int {i : Int} (h : i.natAbs < 2 ^ 12900) : ShB 4301 0 (.int i) := by
  have h10 : i.natAbs < 10 ^ 4300 := Nat.lt_of_lt_of_le h PyProof.Rows.pow_lo
  have e := int_text_length_le10 (k := 4300) (by decide) h10
  refine ⟨?_, Nat.zero_le _, ?_⟩
  · rw [PyData.shown_int, PySem.ofString_length]
    exact e
  · rw [PyData.big]
    refine decide_eq_true ?_
    by_cases h0 : i.natAbs = 0
    · rw [h0]; decide
    · exact (Nat.log2_lt h0).mpr h
theorem ShB.up {L k L' k' : Nat} {p : PyData} (h : ShB L k p) (h1 : L ≤ L') (h2 : k ≤ k') : ShB L' k' p := ⟨Nat.le_trans h.len h1, Nat.le_trans h.dep h2, h.can⟩
theorem bigAll_sum {L k : Nat} : ∀ {ps : List PyData}, (∀ p ∈ ps, ShB L k p) → ((PyData.shownAll ps).map (·.length)).sum ≤ L * ps.length ∧ PyData.depthAll ps ≤ k ∧ PyData.bigAll ps = true
  | [], _ => ⟨Nat.zero_le _, Nat.zero_le _, rfl⟩
  | p :: ps, h => by
    obtain ⟨h1, h2, h3⟩ := bigAll_sum (ps := ps) fun q hq => h q (List.mem_cons_of_mem _ hq)
    have hp := h p List.mem_cons_self
    refine ⟨?_, ?_, ?_⟩
    · rw [PyData.shownAll_cons, List.map_cons, List.sum_cons, List.length_cons, Nat.mul_succ]
      have := hp.len
      omega
    · rw [PyData.depthAll]
      exact Nat.max_le.mpr ⟨hp.dep, h2⟩
    · rw [PyData.bigAll, hp.can, h3]
      rfl
theorem shB_list {L k m : Nat} {ps : List PyData} (h : ∀ p ∈ ps, ShB L k p) (hm : ps.length ≤ m) : ShB ((L + 2) * m + 3) (k + 1) (.list ps) := by
  obtain ⟨h1, h2, h3⟩ := bigAll_sum h
  refine ⟨?_, ?_, ?_⟩
  · have e := listText_len_le (PyData.shownAll ps)
    rw [PyData.shownAll_length] at e
    rw [PyData.shown]
    have : (L + 2) * ps.length ≤ (L + 2) * m := Nat.mul_le_mul_left _ hm
    rw [Nat.add_mul] at this
    omega
  · rw [PyData.depth]; omega
  · rw [PyData.big]; exact h3
theorem shB_tup {L k m : Nat} {ps : List PyData} (h : ∀ p ∈ ps, ShB L k p) (hm : ps.length ≤ m) : ShB ((L + 2) * m + 3) (k + 1) (.tuple ps) := by
  obtain ⟨h1, h2, h3⟩ := bigAll_sum h
  refine ⟨?_, ?_, ?_⟩
  · have e := tupleText_len_le (PyData.shownAll ps)
    rw [PyData.shownAll_length] at e
    rw [PyData.shown]
    have : (L + 2) * ps.length ≤ (L + 2) * m := Nat.mul_le_mul_left _ hm
    rw [Nat.add_mul] at this
    omega
  · rw [PyData.depth]; omega
  · rw [PyData.big]; exact h3
theorem shB_all2 {L k : Nat} {a b : PyData} (h1 : ShB L k a) (h2 : ShB L k b) : ∀ p ∈ [a, b], ShB L k p := fun p hp => by
  rcases List.mem_cons.mp hp with rfl | hp
  · exact h1
  · rcases List.mem_cons.mp hp with rfl | hp
    · exact h2
    · cases hp
theorem shB_pt {u v : Int} (hu : u.natAbs < 2 ^ 12900) (hv : v.natAbs < 2 ^ 12900) : ShB 8609 1 (pd (.tup [.int u, .int v])) := by
  rw [pd, pds, pds, pds, pd, pd]
  exact shB_tup (m := 2) (shB_all2 (shB_int hu) (shB_int hv)) (Nat.le_refl _)
theorem shB_two {u v u' v' : Int} (hu : u.natAbs < 2 ^ 12900) (hv : v.natAbs < 2 ^ 12900) (hu' : u'.natAbs < 2 ^ 12900) (hv' : v'.natAbs < 2 ^ 12900) : ShB 17225 2 (pd (.list [.tup [.int u, .int v], .tup [.int u', .int v']])) := by
  have e : pd (.list [.tup [.int u, .int v], .tup [.int u', .int v']]) = .list [pd (.tup [.int u, .int v]), pd (.tup [.int u', .int v'])] := by rw [pd, pds, pds, pds]
  rw [e]
  exact shB_list (m := 2) (shB_all2 (shB_pt hu hv) (shB_pt hu' hv')) (Nat.le_refl _)
section
variable {μ : Mu} {QQ : QR} {X : QD}
theorem ok_reprB {L k : Nat} {d : D} (hd : drf μ d = d) (hp : plainD d = true) (sh : ShB L k (pd d)) (hL : L ≤ 16000000) (hk : k ≤ 60) (q : QQ (.v (.str (pd d).shown)) μ) : cbReprB [d] μ QQ X := by
  show plainD (drf μ d) = true ∧ ShB sizeLine 60 (pd (drf μ d)) ∧ QQ (.v (.str (pd (drf μ d)).shown)) μ
  rw [hd]
  exact ⟨hp, sh.up (Nat.le_trans hL (by rw [sizeLine_eq]; decide)) hk, q⟩
theorem ok_reprPt {u v : Int} (hu : u.natAbs < 2 ^ 12900) (hv : v.natAbs < 2 ^ 12900) (q : QQ (.v (.str (pd (.tup [.int u, .int v])).shown)) μ) : cbReprB [.tup [.int u, .int v]] μ QQ X := ok_reprB rfl rfl (shB_pt hu hv) (by decide) (by decide) q
theorem ok_reprTwo {u v u' v' : Int} (hu : u.natAbs < 2 ^ 12900) (hv : v.natAbs < 2 ^ 12900) (hu' : u'.natAbs < 2 ^ 12900) (hv' : v'.natAbs < 2 ^ 12900) (q : QQ (.v (.str (pd (.list [.tup [.int u, .int v], .tup [.int u', .int v']])).shown)) μ) : cbReprB [.list [.tup [.int u, .int v], .tup [.int u', .int v']]] μ QQ X := ok_reprB rfl rfl (shB_two hu hv hu' hv') (by decide) (by decide) q
theorem fit_up {p : Int × Int} {b c : Nat} (h : Fit p b) (hc : b ≤ c) : Fit p c := ⟨Nat.lt_of_lt_of_le h.1 (Nat.pow_le_pow_right (by decide) hc), Nat.lt_of_lt_of_le h.2 (Nat.pow_le_pow_right (by decide) hc)⟩
end
end DL

set_option Elab.async false
set_option linter.all false
set_option maxRecDepth 100000
set_option maxHeartbeats 4000000
/-! B1m: B1 for 21 steps: steps done on benches; == of benches; the laws' models led beside. -/
namespace DL
open PySem L2
def wp_law_bench_drawn : WP := (wDef 1 3 (wSeq (wAsg 1 (wCall wp_law_pick [] (waCons (wV 0) (waCons (wLst false (waCons (wK (.int 3)) (waCons (wK (.int 100)) (waCons (wOp false oPow (wK (.int 10)) (wK (.int 11))) waNil)))) waNil))))
    (wSeq (wAsg 2 (wTup (waCons (wCall wp_law_number [] (waCons (wV 0) (waCons (wV 1) waNil))) (waCons (wCall wp_law_number [] (waCons (wV 0) (waCons (wV 1) waNil))) waNil))))
    (wRet (wTup (waCons (wMake true "Bench" wp_Bench___init__ [] (waCons (wOp false oIx (wV 2) (wK (.int 0))) (waCons (wOp false oIx (wV 2) (wK (.int 1))) waNil))) (waCons (wDisp3 true "begun" "past" "room" (wV 2) (wLst false waNil) (wK (.int 27))) waNil)))))))
def wp_law_now : WP := (wDef 1 1 (wRet (wIf (wTst (wOp false oNe0 (wDGet "past" (wV 0)) (wLst false waNil))) (wOp false oIx (wOp false oIx (wDGet "past" (wV 0)) (wUn false oNeg (wK (.int 1)))) (wK (.int 1))) (wDGet "begun" (wV 0)))))
def wp_law_bench_shows : WP := (wDef 2 4 (wSeq (wIfS (wTst (wOp false oNe (wCb false cbReprB (waCons (wLst false (waCons (wProp "Bench" "point" wp_Bench_point (wV 0)) (waCons (wProp "Bench" "begun" wp_Bench_begun (wV 0)) waNil))) waNil)) (wCb false cbReprB (waCons (wLst false (waCons (wCall wp_law_now [] (waCons (wV 1) waNil)) (waCons (wDGet "begun" (wV 1)) waNil))) waNil)))) (wRet (wK (.bool false))) wNext)
    (wRet (wOp false (oEqR "Rule" ["own_numbers"] ruleP) (wFr (wProp "Bench" "log" wp_Bench_log (wV 0))) (wLc false (wiSeq (wDGet "past" (wV 1))) (wgTup 2 (wgCons (wgN 2) (wgCons (wgN 3) wgNil))) wYes (wCall wp_law_step_of [] (waCons (wV 2) waNil)) [2, 3])))))
def wp_law_bench_step : WP := (wDef 2 3 (wSeq (wAsg 2 (wCall wp_law_step [] (waCons (wV 0) (waCons (wDGet "room" (wV 1)) (waCons (wCall wp_law_pick [] (waCons (wV 0) (waCons (wLst false (waCons (wK (.int 3)) (waCons (wOp false oPow (wK (.int 10)) (wK (.int 6))) waNil))) waNil))) waNil)))))
    (wSeq (wIfS (wTst (wCall wp_law_is_low [] (waCons (wV 2) waNil))) (wDPut "room" (wV 1) (wOp false oFdiv (wDGet "room" (wV 1)) (wCb false cbMax2 (waCons (wK (.int 1)) (waCons (wOp false oSub (wCb false cbLen (waCons (wOp false oIx (wV 2) (wK (.int 1))) waNil)) (wK (.int 1))) waNil))))) wNext)
    (wRet (wV 2)))))
def wp_law_done : WP := (wDef 3 7 (wSeq (wAsgG (wgTup 2 (wgCons (wgN 3) (wgCons (wgN 4) wgNil))) (wCall wp_law_now [] (waCons (wV 1) waNil)))
    (wSeq (wAsg 5 (wCall wp_law_step_done [] (waCons (wV 2) (waCons (wV 3) (waCons (wV 4) waNil)))))
    (wSeq (wAsg 6 (wMeth "Bench" "do" wp_Bench_do [] (wV 0) (waCons (wCall wp_law_step_of [] (waCons (wV 2) waNil)) waNil)))
    (wSeq (wDPut "past" (wV 1) (wOp false oAdd (wDGet "past" (wV 1)) (wLst false (waCons (wTup (waCons (wV 2) (waCons (wV 5) waNil))) waNil))))
    (wRet (wAnd (wOp false oEq (wCb false cbReprB (waCons (wV 6) waNil)) (wCb false cbReprB (waCons (wV 5) waNil))) (wCall wp_law_bench_shows [] (waCons (wV 0) (waCons (wV 1) waNil))))))))))
section
variable {μ : Mu} {Q X : QD} {QQ : QR} {d : D} {p q : Addr} {b : Int × Int} {ss : List Stp} {h : D} {r : Int} {s : Stp}
theorem up_idB {nd : Nd} (hp : μ p = some nd) : up μ p nd = μ := by
  funext a
  by_cases e : a = p
  · subst e
    rw [up_same, hp]
  · rw [up_ne e]
theorem prog_one {Q : QD} {C : Nat} (hs : s.Ok (2 ^ C)) (hC : 2 ^ C ≤ HUGE) (k : Q (progD [s]) μ) (p' : Addr) (hp' : μ p' = Option.none) : wp_Program___init__ [.cell p', .list [s.p]] (up μ p' (.obj "Program" [] [])) (mkQ false Q p') X :=
  mk_Program (ds := [s.p]) rfl (fun _ z => by cases z) (by simp) (fun x hx => by
    rw [List.mem_singleton.mp hx]
    exact step_good hs hC) k p' hp'
theorem ok_Bench_do {C c m : Nat} (hp : μ p = some (benN b ss h)) (hl : ss.length ≤ 1000) (hs : s.Ok (2 ^ C)) (hC : C + 1 ≤ c) (hm : s.len ≤ m) (hm2 : 2 ≤ m) (hc : (s.deg * c + (C + 4) + 1) * m + (s.deg * c + (C + 4)) ≤ 40000000) (hf : Fit (acts ss b) c)
    (k : Q (ptD (acts (ss ++ [s]) b)) (up μ p (benN b (ss ++ [s]) h))) : wp_Bench_do [.cell p, s.p] μ Q X := by
  have hc4 := big_two hm2 hc
  have hC2 : 2 ^ C ≤ HUGE := pow_huge (by omega)
  rw [acts_end] at k
  unfold wp_Bench_do
  simp only [Jbx, initE, Jcx, Jcj, Jbl, Jbm, Jc3, Jcs, Jct, Jca, Jcp, Jbn, Jcz, Jbo, Jbu, Jdd, Jde, Jdc, Jdf, Jdj, Jdh, Jdi, Jdg, Jc6, Jcc, Jd7, Jd6, Jcb, Jcm, Jd5, Jd4, Jcg, Jbs, Jd3, Jcl, Jbk, Jco, Jc9, Jbj, Jcn, Jck, Jd9, Jd8, Jdb, Jbp, Jci, Jcr, Jc5, Jcy, Jch, Jbq, Jcu, Jd0, Jdk, Jdl, Jcd, Jcv, Jcw, Jc8, Jbr, Jc4, Jbz, Jcf, gt, st, Jbc, Jba, Jbb, Jb8, Jbi, Ja5, atI0, atI1, atI2, atI3, atI4, ixN20, ixN21, List.map_cons, List.map_nil, List.cons_append, List.nil_append, List.append_nil, List.length_cons, List.length_nil, List.replicate_succ, List.replicate_zero, Nat.add_one_sub_one, Jda, Jbt, Jc0, Jc2, Jby, Jae, Jag, Jah, Jaf, Jb7, Jaw, Jax, Jak, Jav, Jb4, Jau, Jat, Jan, Jam, Jb2, Jai, Jaj, Jb0, Jb1, Jaq, Jb3, Jar, Jas, Jao, Jap, Jb6, Jb5, Ja7, Ja8, Jac, Jab, Ja0, Ja9, Jaa, Jbg, Jbh, Ja6, Jad, Jbd, Jbf, Jbe, Jb9, Ja2, Ja1, Ja4, Ja3, Jay, Jaz, decide_true, decide_false, Bool.not_true, Bool.not_false, Bool.false_eq_true, if_true, if_false, true_and]
  refine ok_is_step (step_good hs hC2).1 ?_
  rw [(step_good hs hC2).2]
  simp only [Jbx, initE, Jcx, Jcj, Jbl, Jbm, Jc3, Jcs, Jct, Jca, Jcp, Jbn, Jcz, Jbo, Jbu, Jdd, Jde, Jdc, Jdf, Jdj, Jdh, Jdi, Jdg, Jc6, Jcc, Jd7, Jd6, Jcb, Jcm, Jd5, Jd4, Jcg, Jbs, Jd3, Jcl, Jbk, Jco, Jc9, Jbj, Jcn, Jck, Jd9, Jd8, Jdb, Jbp, Jci, Jcr, Jc5, Jcy, Jch, Jbq, Jcu, Jd0, Jdk, Jdl, Jcd, Jcv, Jcw, Jc8, Jbr, Jc4, Jbz, Jcf, gt, st, Jbc, Jba, Jbb, Jb8, Jbi, Ja5, atI0, atI1, atI2, atI3, atI4, ixN20, ixN21, List.map_cons, List.map_nil, List.cons_append, List.nil_append, List.append_nil, List.length_cons, List.length_nil, List.replicate_succ, List.replicate_zero, Nat.add_one_sub_one, Jda, Jbt, Jc0, Jc2, Jby, Jae, Jag, Jah, Jaf, Jb7, Jaw, Jax, Jak, Jav, Jb4, Jau, Jat, Jan, Jam, Jb2, Jai, Jaj, Jb0, Jb1, Jaq, Jb3, Jar, Jas, Jao, Jap, Jb6, Jb5, Ja7, Ja8, Jac, Jab, Ja0, Ja9, Jaa, Jbg, Jbh, Ja6, Jad, Jbd, Jbf, Jbe, Jb9, Ja2, Ja1, Ja4, Ja3, Jay, Jaz, decide_true, decide_false, Bool.not_true, Bool.not_false, Bool.false_eq_true, if_true, if_false, true_and]
  rw [ben_is hp (by decide)]
  refine ok_Bench_point hp ?_
  simp only [ptD, Jbx, initE, Jcx, Jcj, Jbl, Jbm, Jc3, Jcs, Jct, Jca, Jcp, Jbn, Jcz, Jbo, Jbu, Jdd, Jde, Jdc, Jdf, Jdj, Jdh, Jdi, Jdg, Jc6, Jcc, Jd7, Jd6, Jcb, Jcm, Jd5, Jd4, Jcg, Jbs, Jd3, Jcl, Jbk, Jco, Jc9, Jbj, Jcn, Jck, Jd9, Jd8, Jdb, Jbp, Jci, Jcr, Jc5, Jcy, Jch, Jbq, Jcu, Jd0, Jdk, Jdl, Jcd, Jcv, Jcw, Jc8, Jbr, Jc4, Jbz, Jcf, gt, st, Jbc, Jba, Jbb, Jb8, Jbi, Ja5, atI0, atI1, atI2, atI3, atI4, ixN20, ixN21, List.map_cons, List.map_nil, List.cons_append, List.nil_append, List.append_nil, List.length_cons, List.length_nil, List.replicate_succ, List.replicate_zero, Nat.add_one_sub_one, Jda, Jbt, Jc0, Jc2, Jby, Jae, Jag, Jah, Jaf, Jb7, Jaw, Jax, Jak, Jav, Jb4, Jau, Jat, Jan, Jam, Jb2, Jai, Jaj, Jb0, Jb1, Jaq, Jb3, Jar, Jas, Jao, Jap, Jb6, Jb5, Ja7, Ja8, Jac, Jab, Ja0, Ja9, Jaa, Jbg, Jbh, Ja6, Jad, Jbd, Jbf, Jbe, Jb9, Ja2, Ja1, Ja4, Ja3, Jay, Jaz, decide_true, decide_false, Bool.not_true, Bool.not_false, Bool.false_eq_true, if_true, if_false, true_and]
  refine ⟨by simp [sizeLine_eq], prog_one hs hC2 ?_⟩
  refine ⟨rfl, rfl, ok_Program_call (b := c) (ss := [s]) hC (fun t ht => by rw [List.mem_singleton.mp ht]; exact hm) hm2 hc (by simp) (fun t ht => by rw [List.mem_singleton.mp ht]; exact hs) hf.1 hf.2 ?_⟩
  simp only [Jbx, initE, Jcx, Jcj, Jbl, Jbm, Jc3, Jcs, Jct, Jca, Jcp, Jbn, Jcz, Jbo, Jbu, Jdd, Jde, Jdc, Jdf, Jdj, Jdh, Jdi, Jdg, Jc6, Jcc, Jd7, Jd6, Jcb, Jcm, Jd5, Jd4, Jcg, Jbs, Jd3, Jcl, Jbk, Jco, Jc9, Jbj, Jcn, Jck, Jd9, Jd8, Jdb, Jbp, Jci, Jcr, Jc5, Jcy, Jch, Jbq, Jcu, Jd0, Jdk, Jdl, Jcd, Jcv, Jcw, Jc8, Jbr, Jc4, Jbz, Jcf, gt, st, Jbc, Jba, Jbb, Jb8, Jbi, Ja5, atI0, atI1, atI2, atI3, atI4, ixN20, ixN21, List.map_cons, List.map_nil, List.cons_append, List.nil_append, List.append_nil, List.length_cons, List.length_nil, List.replicate_succ, List.replicate_zero, Nat.add_one_sub_one, Jda, Jbt, Jc0, Jc2, Jby, Jae, Jag, Jah, Jaf, Jb7, Jaw, Jax, Jak, Jav, Jb4, Jau, Jat, Jan, Jam, Jb2, Jai, Jaj, Jb0, Jb1, Jaq, Jb3, Jar, Jas, Jao, Jap, Jb6, Jb5, Ja7, Ja8, Jac, Jab, Ja0, Ja9, Jaa, Jbg, Jbh, Ja6, Jad, Jbd, Jbf, Jbe, Jb9, Ja2, Ja1, Ja4, Ja3, Jay, Jaz, decide_true, decide_false, Bool.not_true, Bool.not_false, Bool.false_eq_true, if_true, if_false, true_and, ben_obj hp, f_done, doneD, ben_ndO hp, p_done]
  refine ⟨by simp [sizeLine_eq], by rw [List.length_append, List.length_map, ptsS_len, sizeLine_eq]; simp; omega, by decide, ?_⟩
  have e : List.map enP (ptsS b ss) ++ [D.tup [s.p, D.tup [D.int (acts [s] ((acts ss b).1, (acts ss b).2)).1, D.int (acts [s] ((acts ss b).1, (acts ss b).2)).2]]] = (ptsS b (ss ++ [s])).map enP := by
    rw [ptsS_snoc, List.map_append]
    rfl
  rw [e]
  exact k
theorem no_Bench_do (hp : μ p = some (benN b ss h)) (hg : Good d) (hs : stepB d = false) (x : X (.err "BadDeed" ["deed"] [d]) μ) : wp_Bench_do [.cell p, d] μ Q X := by
  unfold wp_Bench_do
  simp only [Jbx, initE, Jcx, Jcj, Jbl, Jbm, Jc3, Jcs, Jct, Jca, Jcp, Jbn, Jcz, Jbo, Jbu, Jdd, Jde, Jdc, Jdf, Jdj, Jdh, Jdi, Jdg, Jc6, Jcc, Jd7, Jd6, Jcb, Jcm, Jd5, Jd4, Jcg, Jbs, Jd3, Jcl, Jbk, Jco, Jc9, Jbj, Jcn, Jck, Jd9, Jd8, Jdb, Jbp, Jci, Jcr, Jc5, Jcy, Jch, Jbq, Jcu, Jd0, Jdk, Jdl, Jcd, Jcv, Jcw, Jc8, Jbr, Jc4, Jbz, Jcf, gt, st, Jbc, Jba, Jbb, Jb8, Jbi, Ja5, atI0, atI1, atI2, atI3, atI4, ixN20, ixN21, List.map_cons, List.map_nil, List.cons_append, List.nil_append, List.append_nil, List.length_cons, List.length_nil, List.replicate_succ, List.replicate_zero, Nat.add_one_sub_one, Jda, Jbt, Jc0, Jc2, Jby, Jae, Jag, Jah, Jaf, Jb7, Jaw, Jax, Jak, Jav, Jb4, Jau, Jat, Jan, Jam, Jb2, Jai, Jaj, Jb0, Jb1, Jaq, Jb3, Jar, Jas, Jao, Jap, Jb6, Jb5, Ja7, Ja8, Jac, Jab, Ja0, Ja9, Jaa, Jbg, Jbh, Ja6, Jad, Jbd, Jbf, Jbe, Jb9, Ja2, Ja1, Ja4, Ja3, Jay, Jaz, decide_true, decide_false, Bool.not_true, Bool.not_false, Bool.false_eq_true, if_true, if_false, true_and]
  refine ok_is_step hg ?_
  rw [hs]
  simp only [Jbx, initE, Jcx, Jcj, Jbl, Jbm, Jc3, Jcs, Jct, Jca, Jcp, Jbn, Jcz, Jbo, Jbu, Jdd, Jde, Jdc, Jdf, Jdj, Jdh, Jdi, Jdg, Jc6, Jcc, Jd7, Jd6, Jcb, Jcm, Jd5, Jd4, Jcg, Jbs, Jd3, Jcl, Jbk, Jco, Jc9, Jbj, Jcn, Jck, Jd9, Jd8, Jdb, Jbp, Jci, Jcr, Jc5, Jcy, Jch, Jbq, Jcu, Jd0, Jdk, Jdl, Jcd, Jcv, Jcw, Jc8, Jbr, Jc4, Jbz, Jcf, gt, st, Jbc, Jba, Jbb, Jb8, Jbi, Ja5, atI0, atI1, atI2, atI3, atI4, ixN20, ixN21, List.map_cons, List.map_nil, List.cons_append, List.nil_append, List.append_nil, List.length_cons, List.length_nil, List.replicate_succ, List.replicate_zero, Nat.add_one_sub_one, Jda, Jbt, Jc0, Jc2, Jby, Jae, Jag, Jah, Jaf, Jb7, Jaw, Jax, Jak, Jav, Jb4, Jau, Jat, Jan, Jam, Jb2, Jai, Jaj, Jb0, Jb1, Jaq, Jb3, Jar, Jas, Jao, Jap, Jb6, Jb5, Ja7, Ja8, Jac, Jab, Ja0, Ja9, Jaa, Jbg, Jbh, Ja6, Jad, Jbd, Jbf, Jbe, Jb9, Ja2, Ja1, Ja4, Ja3, Jay, Jaz, decide_true, decide_false, Bool.not_true, Bool.not_false, Bool.false_eq_true, if_true, if_false, true_and]
  exact x
theorem eqR_steps (ss tt : List Stp) (q : QQ (.v (.bool (decide (ss = tt)))) μ) : oEqR "Rule" ["own_numbers"] ruleP (.list (ss.map Stp.p)) (.list (tt.map Stp.p)) μ QQ X := by
  refine ⟨rfl, ?_, ?_, ?_⟩
  · rw [cmpO]; exact cmpOs_steps ss tt
  · rw [dpO]; have := dpOs_steps ss; omega
  · rw [eqO, eqOs_steps]
    exact q
theorem ok_law_now (hq : μ q = some (modN b ss r)) (k : Q (ptD (acts ss b)) μ) : wp_law_now [.cell q] μ Q X := by
  unfold wp_law_now
  simp only [Jbx, initE, Jcx, Jcj, Jbl, Jbm, Jc3, Jcs, Jct, Jca, Jcp, Jbn, Jcz, Jbo, Jbu, Jdd, Jde, Jdc, Jdf, Jdj, Jdh, Jdi, Jdg, Jc6, Jcc, Jd7, Jd6, Jcb, Jcm, Jd5, Jd4, Jcg, Jbs, Jd3, Jcl, Jbk, Jco, Jc9, Jbj, Jcn, Jck, Jd9, Jd8, Jdb, Jbp, Jci, Jcr, Jc5, Jcy, Jch, Jbq, Jcu, Jd0, Jdk, Jdl, Jcd, Jcv, Jcw, Jc8, Jbr, Jc4, Jbz, Jcf, gt, st, Jbc, Jba, Jbb, Jb8, Jbi, Ja5, atI0, atI1, atI2, atI3, atI4, ixN20, ixN21, List.map_cons, List.map_nil, List.cons_append, List.nil_append, List.append_nil, List.length_cons, List.length_nil, List.replicate_succ, List.replicate_zero, Nat.add_one_sub_one, Jda, Jbt, Jc0, Jc2, Jby, Jae, Jag, Jah, Jaf, Jb7, Jaw, Jax, Jak, Jav, Jb4, Jau, Jat, Jan, Jam, Jb2, Jai, Jaj, Jb0, Jb1, Jaq, Jb3, Jar, Jas, Jao, Jap, Jb6, Jb5, Ja7, Ja8, Jac, Jab, Ja0, Ja9, Jaa, Jbg, Jbh, Ja6, Jad, Jbd, Jbf, Jbe, Jb9, Ja2, Ja1, Ja4, Ja3, Jay, Jaz, decide_true, decide_false, Bool.not_true, Bool.not_false, Bool.false_eq_true, if_true, if_false, true_and, Jbv, get_past hq, get_begun hq]
  unfold pastD
  rcases snoc_cases ss with rfl | ⟨tt, s, rfl⟩
  · simp only [ptsS, List.map_nil, Jbx, initE, Jcx, Jcj, Jbl, Jbm, Jc3, Jcs, Jct, Jca, Jcp, Jbn, Jcz, Jbo, Jbu, Jdd, Jde, Jdc, Jdf, Jdj, Jdh, Jdi, Jdg, Jc6, Jcc, Jd7, Jd6, Jcb, Jcm, Jd5, Jd4, Jcg, Jbs, Jd3, Jcl, Jbk, Jco, Jc9, Jbj, Jcn, Jck, Jd9, Jd8, Jdb, Jbp, Jci, Jcr, Jc5, Jcy, Jch, Jbq, Jcu, Jd0, Jdk, Jdl, Jcd, Jcv, Jcw, Jc8, Jbr, Jc4, Jbz, Jcf, gt, st, Jbc, Jba, Jbb, Jb8, Jbi, Ja5, atI0, atI1, atI2, atI3, atI4, ixN20, ixN21, List.map_cons, List.map_nil, List.cons_append, List.nil_append, List.append_nil, List.length_cons, List.length_nil, List.replicate_succ, List.replicate_zero, Nat.add_one_sub_one, Jda, Jbt, Jc0, Jc2, Jby, Jae, Jag, Jah, Jaf, Jb7, Jaw, Jax, Jak, Jav, Jb4, Jau, Jat, Jan, Jam, Jb2, Jai, Jaj, Jb0, Jb1, Jaq, Jb3, Jar, Jas, Jao, Jap, Jb6, Jb5, Ja7, Ja8, Jac, Jab, Ja0, Ja9, Jaa, Jbg, Jbh, Ja6, Jad, Jbd, Jbf, Jbe, Jb9, Ja2, Ja1, Ja4, Ja3, Jay, Jaz, decide_true, decide_false, Bool.not_true, Bool.not_false, Bool.false_eq_true, if_true, if_false, true_and, List.isEmpty_nil]
    rw [get_begun hq]
    exact ⟨Nat.zero_le _, k⟩
  · rw [acts_end] at k
    rw [ptsS_snoc, List.map_append]
    refine ⟨Nat.zero_le _, ?_⟩
    rw [Jay]
    simp only [Jbx, initE, Jcx, Jcj, Jbl, Jbm, Jc3, Jcs, Jct, Jca, Jcp, Jbn, Jcz, Jbo, Jbu, Jdd, Jde, Jdc, Jdf, Jdj, Jdh, Jdi, Jdg, Jc6, Jcc, Jd7, Jd6, Jcb, Jcm, Jd5, Jd4, Jcg, Jbs, Jd3, Jcl, Jbk, Jco, Jc9, Jbj, Jcn, Jck, Jd9, Jd8, Jdb, Jbp, Jci, Jcr, Jc5, Jcy, Jch, Jbq, Jcu, Jd0, Jdk, Jdl, Jcd, Jcv, Jcw, Jc8, Jbr, Jc4, Jbz, Jcf, gt, st, Jbc, Jba, Jbb, Jb8, Jbi, Ja5, atI0, atI1, atI2, atI3, atI4, ixN20, ixN21, List.map_cons, List.map_nil, List.cons_append, List.nil_append, List.append_nil, List.length_cons, List.length_nil, List.replicate_succ, List.replicate_zero, Nat.add_one_sub_one, Jda, Jbt, Jc0, Jc2, Jby, Jae, Jag, Jah, Jaf, Jb7, Jaw, Jax, Jak, Jav, Jb4, Jau, Jat, Jan, Jam, Jb2, Jai, Jaj, Jb0, Jb1, Jaq, Jb3, Jar, Jas, Jao, Jap, Jb6, Jb5, Ja7, Ja8, Jac, Jab, Ja0, Ja9, Jaa, Jbg, Jbh, Ja6, Jad, Jbd, Jbf, Jbe, Jb9, Ja2, Ja1, Ja4, Ja3, Jay, Jaz, decide_true, decide_false, Bool.not_true, Bool.not_false, Bool.false_eq_true, if_true, if_false, true_and]
    rw [if_pos (by simp), get_past hq]
    unfold pastD
    rw [ptsS_snoc, List.map_append]
    simp only [List.map_cons, List.map_nil, at_end, enB, Jbx, initE, Jcx, Jcj, Jbl, Jbm, Jc3, Jcs, Jct, Jca, Jcp, Jbn, Jcz, Jbo, Jbu, Jdd, Jde, Jdc, Jdf, Jdj, Jdh, Jdi, Jdg, Jc6, Jcc, Jd7, Jd6, Jcb, Jcm, Jd5, Jd4, Jcg, Jbs, Jd3, Jcl, Jbk, Jco, Jc9, Jbj, Jcn, Jck, Jd9, Jd8, Jdb, Jbp, Jci, Jcr, Jc5, Jcy, Jch, Jbq, Jcu, Jd0, Jdk, Jdl, Jcd, Jcv, Jcw, Jc8, Jbr, Jc4, Jbz, Jcf, gt, st, Jbc, Jba, Jbb, Jb8, Jbi, Ja5, atI0, atI1, atI2, atI3, atI4, ixN20, ixN21, List.map_cons, List.map_nil, List.cons_append, List.nil_append, List.append_nil, List.length_cons, List.length_nil, List.replicate_succ, List.replicate_zero, Nat.add_one_sub_one, Jda, Jbt, Jc0, Jc2, Jby, Jae, Jag, Jah, Jaf, Jb7, Jaw, Jax, Jak, Jav, Jb4, Jau, Jat, Jan, Jam, Jb2, Jai, Jaj, Jb0, Jb1, Jaq, Jb3, Jar, Jas, Jao, Jap, Jb6, Jb5, Ja7, Ja8, Jac, Jab, Ja0, Ja9, Jaa, Jbg, Jbh, Ja6, Jad, Jbd, Jbf, Jbe, Jb9, Ja2, Ja1, Ja4, Ja3, Jay, Jaz, decide_true, decide_false, Bool.not_true, Bool.not_false, Bool.false_eq_true, if_true, if_false, true_and]
    exact k
/-- the sizes of a bench's row, perhaps behind another row -/
structure Szs (n : Nat) (b : Int × Int) (ss : List Stp) (r : Int) : Prop where
  h : ∃ b0 pre, b0.1.natAbs ≤ 10 ^ 11 ∧ b0.2.natAbs ≤ 10 ^ 11 ∧ pre.length + ss.length ≤ n ∧ b = acts pre b0 ∧ (∀ s ∈ pre, s.Ok 1000000 ∧ s.len ≤ 4) ∧ (degs pre : Int) * ((degs ss : Int) * r) ≤ 27
  ok : ∀ s ∈ ss, s.Ok 1000000 ∧ s.len ≤ 4
  pos : 1 ≤ r
theorem ok20 (h : s.Ok 1000000) : s.Ok (2 ^ 20) := h.up (by decide)
theorem degs_appS : ∀ (a b : List Stp), degs (a ++ b) = degs a * degs b
  | [], b => by simp [degs]
  | s :: a, b => by rw [List.cons_append, degs, degs, degs_appS a b, Nat.mul_assoc]
theorem acts_appS : ∀ (ss tt : List Stp) (p : Int × Int), acts (ss ++ tt) p = acts tt (acts ss p)
  | [], _, _ => rfl
  | s :: ss, tt, p => acts_appS ss tt (s.act p)
theorem Szs.len {n : Nat} (z : Szs n b ss r) : ss.length ≤ n := by
  obtain ⟨b0, pre, _, _, h, _⟩ := z.h
  omega
theorem degs_posS : ∀ ss : List Stp, 1 ≤ degs ss
  | [] => Nat.le_refl _
  | s :: ss => by
    have h1 : 1 ≤ s.deg := Nat.le_max_left _ _
    have h2 := degs_posS ss
    rw [degs]
    exact Nat.mul_pos h1 h2
theorem Szs.ds {n : Nat} (z : Szs n b ss r) : (degs ss : Int) * r ≤ 27 := by
  obtain ⟨b0, pre, _, _, _, _, _, h⟩ := z.h
  have h1 := degs_posS pre
  have h2 := degs_posS ss
  have h3 : (0 : Int) ≤ (degs ss : Int) * r := Int.mul_nonneg (by omega) (by have := z.pos; omega)
  have h4 : (1 : Int) * ((degs ss : Int) * r) ≤ (degs pre : Int) * ((degs ss : Int) * r) := Int.mul_le_mul_of_nonneg_right (by omega) h3
  omega
theorem Szs.fits {n : Nat} (z : Szs n b ss r) : ∃ c, 37 ≤ c ∧ c ≤ 27 * (37 + 24 * n) ∧ Fit (acts ss b) c := by
  obtain ⟨b0, pre, b1, b2, hl, rfl, hp, hd⟩ := z.h
  have e : degs (pre ++ ss) ≤ 27 := by
    rw [degs_appS]
    have h3 : ((degs pre * degs ss : Nat) : Int) * 1 ≤ ((degs pre * degs ss : Nat) : Int) * r := Int.mul_le_mul_of_nonneg_left z.pos (by omega)
    rw [Int.natCast_mul] at h3
    rw [← Int.mul_assoc] at hd
    have h4 : ((degs pre * degs ss : Nat) : Int) = (degs pre : Int) * (degs ss : Int) := Int.natCast_mul _ _
    omega
  refine ⟨bits 20 (pre ++ ss) 37, bits_mono _ _ _, ?_, ?_⟩
  · refine Nat.le_trans (bits_le 20 _ 37) (Nat.mul_le_mul e ?_)
    rw [List.length_append]
    omega
  · rw [← acts_appS]
    refine acts_fit _ _ _ (by decide) (fun s hs => ?_) ⟨Nat.lt_of_le_of_lt b1 (by decide), Nat.lt_of_le_of_lt b2 (by decide)⟩
    rcases List.mem_append.mp hs with q | q
    · exact ok20 (hp s q).1
    · exact ok20 (z.ok s q).1
theorem Szs.init0 {n : Nat} (z : Szs n b ss r) : Szs n b [] 1 := by
  have hd := z.ds
  obtain ⟨b0, pre, b1, b2, hl, rfl, hp, h⟩ := z.h
  refine ⟨⟨b0, pre, b1, b2, by simp; omega, rfl, hp, ?_⟩, (fun _ z => by cases z), by decide⟩
  have h1 : (1 : Int) ≤ (degs ss : Int) * r := by
    have h5 := degs_posS ss
    have h6 : (1 : Int) * r ≤ (degs ss : Int) * r := Int.mul_le_mul_of_nonneg_right (by omega) (by have := z.pos; omega)
    have := z.pos
    omega
  have h2 : (degs pre : Int) * 1 ≤ (degs pre : Int) * ((degs ss : Int) * r) := Int.mul_le_mul_of_nonneg_left h1 (by omega)
  have h3 : (degs ([] : List Stp) : Int) = 1 := rfl
  rw [h3]
  omega
/-! ### up to 21 steps -/
theorem lin_ev {ns : List Int} {x : Int} {c : Nat} (h : ∀ n ∈ ns, n.natAbs ≤ 1000000) (hl : ns.length ≤ 2) (hx : x.natAbs < 2 ^ c) : (M.ev ns x).natAbs ≤ 1000000 * 2 ^ c := by
  have h1 : 1 ≤ 2 ^ c := Nat.one_le_two_pow
  match ns, hl with
  | [], _ => simp [M.ev]
  | [n], _ =>
    have h2 := h n (by simp)
    have e : M.ev [n] x = n := by simp [M.ev]
    rw [e]
    omega
  | [n, m], _ =>
    have h2 := h n (by simp)
    have h3 := h m (by simp)
    have e : M.ev [n, m] x = n + x * m := by simp [M.ev]
    have h4 : (x * m).natAbs ≤ (2 ^ c - 1) * 1000000 := by
      rw [Int.natAbs_mul]
      exact Nat.mul_le_mul (by omega) h3
    rw [e]
    omega
theorem lin_fit {c : Nat} {x : Int × Int} (hs : s.Ok 1000000) (hd : s.deg = 1) (hf : Fit x c) : Fit (s.act x) (c + 21) := by
  have e : 2 ^ (c + 21) = 2 ^ c * 2097152 := by rw [Nat.pow_add]
  have h1 : 1 ≤ 2 ^ c := Nat.one_le_two_pow
  have low : ∀ ns : List Int, s.len = ns.length → ns.length ≤ 2 := fun ns hn => by
    unfold Stp.deg at hd
    omega
  obtain ⟨u, v⟩ := x
  obtain ⟨hu, hv⟩ := hf
  unfold Fit
  rw [e]
  cases s with
  | x ns =>
    have h2 := lin_ev hs.2.2 (low ns rfl) hv
    simp only [Stp.act] at *
    omega
  | y ns =>
    have h2 := lin_ev hs.2.2 (low ns rfl) hu
    simp only [Stp.act] at *
    omega
  | move a b =>
    obtain ⟨h2, h3⟩ := hs
    simp only [Stp.act] at *
    omega
  | turn a b d f =>
    obtain ⟨_, h2, h3, h4, h5⟩ := hs
    simp only [Stp.act] at *
    have m : ∀ {i j : Int}, i.natAbs ≤ 1000000 → j.natAbs < 2 ^ c → (i * j).natAbs ≤ 1000000 * (2 ^ c - 1) := fun {i j} hi hj => by
      rw [Int.natAbs_mul]
      exact Nat.mul_le_mul hi (by omega)
    have := m h2 hu
    have := m h3 hv
    have := m h4 hu
    have := m h5 hv
    omega
theorem acts_fit2 : ∀ (ss : List Stp) (D m c : Nat) (x : Int × Int), 1 ≤ D → 1 ≤ c → c ≤ D * (28 + 21 * m) + 9 → Fit x c → (∀ s ∈ ss, s.Ok 1000000 ∧ s.len ≤ 4) → ∃ c', c' ≤ D * degs ss * (28 + 21 * (m + ss.length)) + 9 ∧ Fit (acts ss x) c'
  | [], D, m, c, x, hD, h1, hc, hf, hs => ⟨c, by rw [degs, Nat.mul_one]; exact hc, hf⟩
  | s :: ss, D, m, c, x, hD, h1, hc, hf, hs => by
    have hk := hs s (by simp)
    have hd : 1 ≤ s.deg := Nat.le_max_left _ _
    have more : ∃ c1, 1 ≤ c1 ∧ c1 ≤ D * s.deg * (28 + 21 * (m + 1)) + 9 ∧ Fit (s.act x) c1 := by
      by_cases e : s.deg = 1
      · refine ⟨c + 21, by omega, ?_, lin_fit hk.1 e hf⟩
        rw [e, Nat.mul_one]
        have : D * (28 + 21 * (m + 1)) = D * (28 + 21 * m) + 21 * D := by rw [show 28 + 21 * (m + 1) = (28 + 21 * m) + 21 by omega, Nat.mul_add, Nat.mul_comm D 21]
        omega
      · refine ⟨s.deg * c + (20 + 4), by omega, ?_, act_fit h1 (hk.1.up (by decide)) hf⟩
        have h2 : s.deg * c ≤ s.deg * (D * (28 + 21 * m) + 9) := Nat.mul_le_mul_left _ hc
        have h3 : s.deg * (D * (28 + 21 * m) + 9) = D * s.deg * (28 + 21 * m) + 9 * s.deg := by
          rw [Nat.mul_add, Nat.mul_comm s.deg 9, ← Nat.mul_assoc, Nat.mul_comm s.deg D]
        have h4 : D * s.deg * (28 + 21 * (m + 1)) = D * s.deg * (28 + 21 * m) + 21 * (D * s.deg) := by
          rw [show 28 + 21 * (m + 1) = (28 + 21 * m) + 21 by omega, Nat.mul_add, Nat.mul_comm (D * s.deg) 21]
        have h5 : s.deg ≤ D * s.deg := Nat.le_mul_of_pos_left _ hD
        omega
    obtain ⟨c1, k1, k2, k3⟩ := more
    obtain ⟨c', h2, h3⟩ := acts_fit2 ss (D * s.deg) (m + 1) c1 (s.act x) (Nat.mul_pos hD hd) k1 k2 k3 (fun t ht => hs t (List.mem_cons_of_mem _ ht))
    refine ⟨c', ?_, h3⟩
    rw [degs, List.length_cons, ← Nat.mul_assoc, show m + (ss.length + 1) = m + 1 + ss.length by omega]
    exact h2
theorem Szs.big {n : Nat} (z : Szs n b ss r) (hn : n ≤ 21) : Fit (acts ss b) 12900 := by
  obtain ⟨b0, pre, b1, b2, hl, rfl, hp, hd⟩ := z.h
  have e : degs (pre ++ ss) ≤ 27 := by
    rw [degs_appS]
    have h3 : ((degs pre * degs ss : Nat) : Int) * 1 ≤ ((degs pre * degs ss : Nat) : Int) * r := Int.mul_le_mul_of_nonneg_left z.pos (by omega)
    rw [Int.natCast_mul] at h3
    rw [← Int.mul_assoc] at hd
    have h4 : ((degs pre * degs ss : Nat) : Int) = (degs pre : Int) * (degs ss : Int) := Int.natCast_mul _ _
    omega
  obtain ⟨c', h2, h3⟩ := acts_fit2 (pre ++ ss) 1 0 37 b0 (by decide) (by decide) (by decide) ⟨Nat.lt_of_le_of_lt b1 (by decide), Nat.lt_of_le_of_lt b2 (by decide)⟩ (fun s hs => by
    rcases List.mem_append.mp hs with q | q
    · exact hp s q
    · exact z.ok s q)
  rw [acts_appS] at h3
  refine fit_up h3 (Nat.le_trans h2 ?_)
  rw [Nat.one_mul, Nat.zero_add]
  have h5 : degs (pre ++ ss) * (28 + 21 * (pre ++ ss).length) ≤ 27 * (28 + 21 * 21) := Nat.mul_le_mul e (by rw [List.length_append]; omega)
  omega
theorem Szs.big0 {n : Nat} (z : Szs n b ss r) (hn : n ≤ 21) : Fit b 12900 := z.init0.big hn
theorem Szs.first {b0 : Int × Int} (h1 : b0.1.natAbs ≤ 10 ^ 11) (h2 : b0.2.natAbs ≤ 10 ^ 11) : Szs 0 b0 [] 27 := ⟨⟨b0, [], h1, h2, Nat.le_refl _, rfl, (fun _ z => by cases z), by decide⟩, (fun _ z => by cases z), by decide⟩
theorem ok_bench_shows {n : Nat} (z : Szs n b ss r) (hn : n ≤ 21) (hf : Fit (acts ss b) 12900) (hp : μ p = some (benN b ss h)) (hq : μ q = some (modN b ss r)) (k : Q (.bool true) μ) : wp_law_bench_shows [.cell p, .cell q] μ Q X := by
  have hf0 := z.big0 hn
  have hl := z.len
  unfold wp_law_bench_shows
  simp only [Jbx, initE, Jcx, Jcj, Jbl, Jbm, Jc3, Jcs, Jct, Jca, Jcp, Jbn, Jcz, Jbo, Jbu, Jdd, Jde, Jdc, Jdf, Jdj, Jdh, Jdi, Jdg, Jc6, Jcc, Jd7, Jd6, Jcb, Jcm, Jd5, Jd4, Jcg, Jbs, Jd3, Jcl, Jbk, Jco, Jc9, Jbj, Jcn, Jck, Jd9, Jd8, Jdb, Jbp, Jci, Jcr, Jc5, Jcy, Jch, Jbq, Jcu, Jd0, Jdk, Jdl, Jcd, Jcv, Jcw, Jc8, Jbr, Jc4, Jbz, Jcf, gt, st, Jbc, Jba, Jbb, Jb8, Jbi, Ja5, atI0, atI1, atI2, atI3, atI4, ixN20, ixN21, List.map_cons, List.map_nil, List.cons_append, List.nil_append, List.append_nil, List.length_cons, List.length_nil, List.replicate_succ, List.replicate_zero, Nat.add_one_sub_one, Jda, Jbt, Jc0, Jc2, Jby, Jae, Jag, Jah, Jaf, Jb7, Jaw, Jax, Jak, Jav, Jb4, Jau, Jat, Jan, Jam, Jb2, Jai, Jaj, Jb0, Jb1, Jaq, Jb3, Jar, Jas, Jao, Jap, Jb6, Jb5, Ja7, Ja8, Jac, Jab, Ja0, Ja9, Jaa, Jbg, Jbh, Ja6, Jad, Jbd, Jbf, Jbe, Jb9, Ja2, Ja1, Ja4, Ja3, Jay, Jaz, decide_true, decide_false, Bool.not_true, Bool.not_false, Bool.false_eq_true, if_true, if_false, true_and, Jbv, Jc7]
  rw [ben_is hp (by decide)]
  refine ok_Bench_point hp ?_
  rw [ben_is hp (by decide)]
  refine ok_Bench_begun hp ⟨by simp [sizeLine_eq], ?_⟩
  refine ok_reprTwo hf.1 hf.2 hf0.1 hf0.2 ?_
  simp only [Jbx, initE, Jcx, Jcj, Jbl, Jbm, Jc3, Jcs, Jct, Jca, Jcp, Jbn, Jcz, Jbo, Jbu, Jdd, Jde, Jdc, Jdf, Jdj, Jdh, Jdi, Jdg, Jc6, Jcc, Jd7, Jd6, Jcb, Jcm, Jd5, Jd4, Jcg, Jbs, Jd3, Jcl, Jbk, Jco, Jc9, Jbj, Jcn, Jck, Jd9, Jd8, Jdb, Jbp, Jci, Jcr, Jc5, Jcy, Jch, Jbq, Jcu, Jd0, Jdk, Jdl, Jcd, Jcv, Jcw, Jc8, Jbr, Jc4, Jbz, Jcf, gt, st, Jbc, Jba, Jbb, Jb8, Jbi, Ja5, atI0, atI1, atI2, atI3, atI4, ixN20, ixN21, List.map_cons, List.map_nil, List.cons_append, List.nil_append, List.append_nil, List.length_cons, List.length_nil, List.replicate_succ, List.replicate_zero, Nat.add_one_sub_one, Jda, Jbt, Jc0, Jc2, Jby, Jae, Jag, Jah, Jaf, Jb7, Jaw, Jax, Jak, Jav, Jb4, Jau, Jat, Jan, Jam, Jb2, Jai, Jaj, Jb0, Jb1, Jaq, Jb3, Jar, Jas, Jao, Jap, Jb6, Jb5, Ja7, Ja8, Jac, Jab, Ja0, Ja9, Jaa, Jbg, Jbh, Ja6, Jad, Jbd, Jbf, Jbe, Jb9, Ja2, Ja1, Ja4, Ja3, Jay, Jaz, decide_true, decide_false, Bool.not_true, Bool.not_false, Bool.false_eq_true, if_true, if_false, true_and]
  refine ok_law_now hq ?_
  rw [get_begun hq]
  refine ⟨by simp [sizeLine_eq], ok_reprTwo hf.1 hf.2 hf0.1 hf0.2 ?_⟩
  simp only [Jbx, initE, Jcx, Jcj, Jbl, Jbm, Jc3, Jcs, Jct, Jca, Jcp, Jbn, Jcz, Jbo, Jbu, Jdd, Jde, Jdc, Jdf, Jdj, Jdh, Jdi, Jdg, Jc6, Jcc, Jd7, Jd6, Jcb, Jcm, Jd5, Jd4, Jcg, Jbs, Jd3, Jcl, Jbk, Jco, Jc9, Jbj, Jcn, Jck, Jd9, Jd8, Jdb, Jbp, Jci, Jcr, Jc5, Jcy, Jch, Jbq, Jcu, Jd0, Jdk, Jdl, Jcd, Jcv, Jcw, Jc8, Jbr, Jc4, Jbz, Jcf, gt, st, Jbc, Jba, Jbb, Jb8, Jbi, Ja5, atI0, atI1, atI2, atI3, atI4, ixN20, ixN21, List.map_cons, List.map_nil, List.cons_append, List.nil_append, List.append_nil, List.length_cons, List.length_nil, List.replicate_succ, List.replicate_zero, Nat.add_one_sub_one, Jda, Jbt, Jc0, Jc2, Jby, Jae, Jag, Jah, Jaf, Jb7, Jaw, Jax, Jak, Jav, Jb4, Jau, Jat, Jan, Jam, Jb2, Jai, Jaj, Jb0, Jb1, Jaq, Jb3, Jar, Jas, Jao, Jap, Jb6, Jb5, Ja7, Ja8, Jac, Jab, Ja0, Ja9, Jaa, Jbg, Jbh, Ja6, Jad, Jbd, Jbf, Jbe, Jb9, Ja2, Ja1, Ja4, Ja3, Jay, Jaz, decide_true, decide_false, Bool.not_true, Bool.not_false, Bool.false_eq_true, if_true, if_false, true_and, Jb1]
  rw [ben_is hp (by decide)]
  refine ok_Bench_log hp (by omega) fun p1 hp1 => frF_up hp1 ?_
  rw [get_past hq]
  unfold pastD
  simp only [Jbx, initE, Jcx, Jcj, Jbl, Jbm, Jc3, Jcs, Jct, Jca, Jcp, Jbn, Jcz, Jbo, Jbu, Jdd, Jde, Jdc, Jdf, Jdj, Jdh, Jdi, Jdg, Jc6, Jcc, Jd7, Jd6, Jcb, Jcm, Jd5, Jd4, Jcg, Jbs, Jd3, Jcl, Jbk, Jco, Jc9, Jbj, Jcn, Jck, Jd9, Jd8, Jdb, Jbp, Jci, Jcr, Jc5, Jcy, Jch, Jbq, Jcu, Jd0, Jdk, Jdl, Jcd, Jcv, Jcw, Jc8, Jbr, Jc4, Jbz, Jcf, gt, st, Jbc, Jba, Jbb, Jb8, Jbi, Ja5, atI0, atI1, atI2, atI3, atI4, ixN20, ixN21, List.map_cons, List.map_nil, List.cons_append, List.nil_append, List.append_nil, List.length_cons, List.length_nil, List.replicate_succ, List.replicate_zero, Nat.add_one_sub_one, Jda, Jbt, Jc0, Jc2, Jby, Jae, Jag, Jah, Jaf, Jb7, Jaw, Jax, Jak, Jav, Jb4, Jau, Jat, Jan, Jam, Jb2, Jai, Jaj, Jb0, Jb1, Jaq, Jb3, Jar, Jas, Jao, Jap, Jb6, Jb5, Ja7, Ja8, Jac, Jab, Ja0, Ja9, Jaa, Jbg, Jbh, Ja6, Jad, Jbd, Jbf, Jbe, Jb9, Ja2, Ja1, Ja4, Ja3, Jay, Jaz, decide_true, decide_false, Bool.not_true, Bool.not_false, Bool.false_eq_true, if_true, if_false, true_and, Nd.frz]
  refine ⟨by rw [List.length_map, ptsS_len, sizeLine_eq]; omega, lc_inv (fun i acc μ' => μ' = μ ∧ acc = (ss.take i).map Stp.p) ⟨rfl, rfl⟩ ?_ ?_⟩
  · rintro i x acc μ' N hx ⟨rfl, rfl⟩ hN
    obtain ⟨e, he, rfl⟩ := map_get hx
    have h2 : ss[i]? = some e.1 := by
      have := congrArg (fun l => l[i]?) (ptsS_fst b ss)
      simp only [List.getElem?_map, he, Option.map_some] at this
      exact this.symm
    refine ⟨trivial, ?_⟩
    simp only [Jbx, initE, Jcx, Jcj, Jbl, Jbm, Jc3, Jcs, Jct, Jca, Jcp, Jbn, Jcz, Jbo, Jbu, Jdd, Jde, Jdc, Jdf, Jdj, Jdh, Jdi, Jdg, Jc6, Jcc, Jd7, Jd6, Jcb, Jcm, Jd5, Jd4, Jcg, Jbs, Jd3, Jcl, Jbk, Jco, Jc9, Jbj, Jcn, Jck, Jd9, Jd8, Jdb, Jbp, Jci, Jcr, Jc5, Jcy, Jch, Jbq, Jcu, Jd0, Jdk, Jdl, Jcd, Jcv, Jcw, Jc8, Jbr, Jc4, Jbz, Jcf, gt, st, Jbc, Jba, Jbb, Jb8, Jbi, Ja5, atI0, atI1, atI2, atI3, atI4, ixN20, ixN21, List.map_cons, List.map_nil, List.cons_append, List.nil_append, List.append_nil, List.length_cons, List.length_nil, List.replicate_succ, List.replicate_zero, Nat.add_one_sub_one, Jda, Jbt, Jc0, Jc2, Jby, Jae, Jag, Jah, Jaf, Jb7, Jaw, Jax, Jak, Jav, Jb4, Jau, Jat, Jan, Jam, Jb2, Jai, Jaj, Jb0, Jb1, Jaq, Jb3, Jar, Jas, Jao, Jap, Jb6, Jb5, Ja7, Ja8, Jac, Jab, Ja0, Ja9, Jaa, Jbg, Jbh, Ja6, Jad, Jbd, Jbf, Jbe, Jb9, Ja2, Ja1, Ja4, Ja3, Jay, Jaz, decide_true, decide_false, Bool.not_true, Bool.not_false, Bool.false_eq_true, if_true, if_false, true_and, enB, wipeE]
    refine ok_step_of (z.ok e.1 (List.mem_of_getElem? h2)).1 (hN _ _ ⟨rfl, ?_⟩)
    rw [List.take_succ, h2, List.map_append]
    rfl
  · rintro acc μ' ⟨rfl, rfl⟩
    refine ⟨trivial, ?_⟩
    rw [List.length_map, ptsS_len, List.take_length]
    refine eqR_steps ss ss ?_
    rw [decide_eq_true rfl]
    exact k
end
end DL

set_option Elab.async false
set_option linter.all false
set_option maxRecDepth 100000
set_option maxHeartbeats 4000000
/-! B2m: benches drawn, steps drawn for them, steps done beside the model. -/
namespace DL
open PySem L2
section
variable {μ : Mu} {Q X : QD} {QQ : QR} {d : D} {p q : Addr} {b : Int × Int} {ss : List Stp} {h : D} {r : Int} {s : Stp}
theorem powB6 : CPowW 10 6 := ⟨by decide, by decide +kernel⟩
theorem tenB6 : (10 : Int) ^ (6 : Int).toNat = 1000000 := by decide +kernel
theorem powB11 : CPowW 10 11 := ⟨by decide, by decide +kernel⟩
theorem tenB11 : (10 : Int) ^ (11 : Int).toNat = 100000000000 := by decide +kernel
theorem ben_ne_mod {b2 : Int × Int} {tt : List Stp} (hp : μ p = some (benN b ss h)) (hq : μ q = some (modN b2 tt r)) : p ≠ q := fun z => by
  rw [z, hq] at hp
  cases hp
theorem ok_bench_drawn (k : ∀ b p q, μ p = Option.none → μ q = Option.none → q ≠ p → b.1.natAbs ≤ 10 ^ 11 → b.2.natAbs ≤ 10 ^ 11 → Q (.tup [.cell p, .cell q]) (up (up μ p (benN b [] .none)) q (modN b [] 27))) : wp_law_bench_drawn [.state] μ Q X := by
  unfold wp_law_bench_drawn
  simp only [Jbx, initE, Jcx, Jcj, Jbl, Jbm, Jc3, Jcs, Jct, Jca, Jcp, Jbn, Jcz, Jbo, Jbu, Jdd, Jde, Jdc, Jdf, Jdj, Jdh, Jdi, Jdg, Jc6, Jcc, Jd7, Jd6, Jcb, Jcm, Jd5, Jd4, Jcg, Jbs, Jd3, Jcl, Jbk, Jco, Jc9, Jbj, Jcn, Jck, Jd9, Jd8, Jdb, Jbp, Jci, Jcr, Jc5, Jcy, Jch, Jbq, Jcu, Jd0, Jdk, Jdl, Jcd, Jcv, Jcw, Jc8, Jbr, Jc4, Jbz, Jcf, gt, st, Jbc, Jba, Jbb, Jb8, Jbi, Ja5, atI0, atI1, atI2, atI3, atI4, ixN20, ixN21, List.map_cons, List.map_nil, List.cons_append, List.nil_append, List.append_nil, List.length_cons, List.length_nil, List.replicate_succ, List.replicate_zero, Nat.add_one_sub_one, Jda, Jbt, Jc0, Jc2, Jby, Jae, Jag, Jah, Jaf, Jb7, Jaw, Jax, Jak, Jav, Jb4, Jau, Jat, Jan, Jam, Jb2, Jai, Jaj, Jb0, Jb1, Jaq, Jb3, Jar, Jas, Jao, Jap, Jb6, Jb5, Ja7, Ja8, Jac, Jab, Ja0, Ja9, Jaa, Jbg, Jbh, Ja6, Jad, Jbd, Jbf, Jbe, Jb9, Ja2, Ja1, Ja4, Ja3, Jay, Jaz, decide_true, decide_false, Bool.not_true, Bool.not_false, Bool.false_eq_true, if_true, if_false, true_and, tenB11]
  refine ⟨powB11, by simp [sizeLine_eq], ok_pick rfl (fun z => by cases z) (by simp) fun g hg => ?_⟩
  have hg2 : ∃ i : Int, g = .int i ∧ 0 ≤ i ∧ i ≤ 100000000000 := by
    simp only [List.mem_cons, List.not_mem_nil, or_false] at hg
    rcases hg with rfl | rfl | rfl
    · exact ⟨3, rfl, by decide, by decide⟩
    · exact ⟨100, rfl, by decide, by decide⟩
    · exact ⟨100000000000, rfl, by decide, by decide⟩
  obtain ⟨i, rfl, g0, g1⟩ := hg2
  refine ok_number g0 (by omega) fun u hu => ok_number g0 (by omega) fun v hv => ⟨by simp [sizeLine_eq], ?_⟩
  intro p hp
  refine mk_Bench (fun p' hp' => ?_) p hp
  simp only [Jc1, Jbx, initE, Jcx, Jcj, Jbl, Jbm, Jc3, Jcs, Jct, Jca, Jcp, Jbn, Jcz, Jbo, Jbu, Jdd, Jde, Jdc, Jdf, Jdj, Jdh, Jdi, Jdg, Jc6, Jcc, Jd7, Jd6, Jcb, Jcm, Jd5, Jd4, Jcg, Jbs, Jd3, Jcl, Jbk, Jco, Jc9, Jbj, Jcn, Jck, Jd9, Jd8, Jdb, Jbp, Jci, Jcr, Jc5, Jcy, Jch, Jbq, Jcu, Jd0, Jdk, Jdl, Jcd, Jcv, Jcw, Jc8, Jbr, Jc4, Jbz, Jcf, gt, st, Jbc, Jba, Jbb, Jb8, Jbi, Ja5, atI0, atI1, atI2, atI3, atI4, ixN20, ixN21, List.map_cons, List.map_nil, List.cons_append, List.nil_append, List.append_nil, List.length_cons, List.length_nil, List.replicate_succ, List.replicate_zero, Nat.add_one_sub_one, Jda, Jbt, Jc0, Jc2, Jby, Jae, Jag, Jah, Jaf, Jb7, Jaw, Jax, Jak, Jav, Jb4, Jau, Jat, Jan, Jam, Jb2, Jai, Jaj, Jb0, Jb1, Jaq, Jb3, Jar, Jas, Jao, Jap, Jb6, Jb5, Ja7, Ja8, Jac, Jab, Ja0, Ja9, Jaa, Jbg, Jbh, Ja6, Jad, Jbd, Jbf, Jbe, Jb9, Ja2, Ja1, Ja4, Ja3, Jay, Jaz, decide_true, decide_false, Bool.not_true, Bool.not_false, Bool.false_eq_true, if_true, if_false, true_and]
  refine ⟨by simp [sizeLine_eq], fun q hq => ⟨by simp [sizeLine_eq], ?_⟩⟩
  have ne : q ≠ p' := fun z => by
    rw [z, up_same] at hq
    cases hq
  rw [up_ne ne] at hq
  exact k (u, v) p' q hp' hq ne (by simp only; omega) (by simp only; omega)
theorem ok_bench_step (hq : μ q = some (modN b ss r)) (hr : 1 ≤ r) (hr2 : r ≤ 27) (k : ∀ (s : Stp) (r' : Int), s.Ok 1000000 → s.len ≤ 4 → 1 ≤ r' → (s.deg : Int) * r' ≤ r → Q s.b (up μ q (modN b ss r'))) : wp_law_bench_step [.state, .cell q] μ Q X := by
  unfold wp_law_bench_step
  simp only [Jbx, initE, Jcx, Jcj, Jbl, Jbm, Jc3, Jcs, Jct, Jca, Jcp, Jbn, Jcz, Jbo, Jbu, Jdd, Jde, Jdc, Jdf, Jdj, Jdh, Jdi, Jdg, Jc6, Jcc, Jd7, Jd6, Jcb, Jcm, Jd5, Jd4, Jcg, Jbs, Jd3, Jcl, Jbk, Jco, Jc9, Jbj, Jcn, Jck, Jd9, Jd8, Jdb, Jbp, Jci, Jcr, Jc5, Jcy, Jch, Jbq, Jcu, Jd0, Jdk, Jdl, Jcd, Jcv, Jcw, Jc8, Jbr, Jc4, Jbz, Jcf, gt, st, Jbc, Jba, Jbb, Jb8, Jbi, Ja5, atI0, atI1, atI2, atI3, atI4, ixN20, ixN21, List.map_cons, List.map_nil, List.cons_append, List.nil_append, List.append_nil, List.length_cons, List.length_nil, List.replicate_succ, List.replicate_zero, Nat.add_one_sub_one, Jda, Jbt, Jc0, Jc2, Jby, Jae, Jag, Jah, Jaf, Jb7, Jaw, Jax, Jak, Jav, Jb4, Jau, Jat, Jan, Jam, Jb2, Jai, Jaj, Jb0, Jb1, Jaq, Jb3, Jar, Jas, Jao, Jap, Jb6, Jb5, Ja7, Ja8, Jac, Jab, Ja0, Ja9, Jaa, Jbg, Jbh, Ja6, Jad, Jbd, Jbf, Jbe, Jb9, Ja2, Ja1, Ja4, Ja3, Jay, Jaz, decide_true, decide_false, Bool.not_true, Bool.not_false, Bool.false_eq_true, if_true, if_false, true_and, Jbv, Jbw, get_room hq, tenB6]
  refine ⟨powB6, by simp [sizeLine_eq], ok_pick rfl (fun z => by cases z) (by simp) fun g hg => ?_⟩
  have hg2 : ∃ i : Int, g = .int i ∧ 0 ≤ i ∧ i ≤ 1000000 := by
    simp only [List.mem_cons, List.not_mem_nil, or_false] at hg
    rcases hg with rfl | rfl
    · exact ⟨3, rfl, by decide, by decide⟩
    · exact ⟨1000000, rfl, by decide, by decide⟩
  obtain ⟨i, rfl, g0, g1⟩ := hg2
  refine ok_law_step (by omega) g0 g1 fun s hs1 hs2 => ?_
  have h4 : s.len ≤ 4 := by split at hs2 <;> omega
  have same : s.deg = 1 → Q s.b μ := fun e => by
    have := k s r hs1 h4 hr (by rw [e]; show ((1 : Nat) : Int) * r ≤ r; omega)
    rw [up_idB hq] at this
    exact this
  have low : ∀ ns : List Int, s.len = ns.length → CDivW r (if ((ns.length : Int) - 1) > 1 then ((ns.length : Int) - 1) else 1) ∧ Q s.b (up μ q (modN b ss (r / (if ((ns.length : Int) - 1) > 1 then ((ns.length : Int) - 1) else 1)))) := fun ns hn => by
    have hdg : (if ((ns.length : Int) - 1) > 1 then ((ns.length : Int) - 1) else 1) = (s.deg : Int) := by
      unfold Stp.deg
      rw [hn]
      split <;> omega
    have hpos : (1 : Int) ≤ (s.deg : Int) := by unfold Stp.deg; omega
    have hle : (s.deg : Int) ≤ r := by
      unfold Stp.deg
      split at hs2 <;> omega
    have hd4 : s.deg ≤ 4 := by unfold Stp.deg; omega
    rw [hdg]
    refine ⟨wide_div (b := 10) (by omega) (by omega) (by decide) (by decide), k s _ hs1 h4 ?_ ?_⟩
    · exact (Int.le_ediv_iff_mul_le (by omega)).mpr (by omega)
    · exact Int.mul_ediv_self_le (by omega)
  refine ok_is_low ?_
  cases s with
  | x ns =>
    obtain ⟨l1, l2⟩ := low ns rfl
    simp only [Jbx, initE, Jcx, Jcj, Jbl, Jbm, Jc3, Jcs, Jct, Jca, Jcp, Jbn, Jcz, Jbo, Jbu, Jdd, Jde, Jdc, Jdf, Jdj, Jdh, Jdi, Jdg, Jc6, Jcc, Jd7, Jd6, Jcb, Jcm, Jd5, Jd4, Jcg, Jbs, Jd3, Jcl, Jbk, Jco, Jc9, Jbj, Jcn, Jck, Jd9, Jd8, Jdb, Jbp, Jci, Jcr, Jc5, Jcy, Jch, Jbq, Jcu, Jd0, Jdk, Jdl, Jcd, Jcv, Jcw, Jc8, Jbr, Jc4, Jbz, Jcf, gt, st, Jbc, Jba, Jbb, Jb8, Jbi, Ja5, atI0, atI1, atI2, atI3, atI4, ixN20, ixN21, List.map_cons, List.map_nil, List.cons_append, List.nil_append, List.append_nil, List.length_cons, List.length_nil, List.replicate_succ, List.replicate_zero, Nat.add_one_sub_one, Jda, Jbt, Jc0, Jc2, Jby, Jae, Jag, Jah, Jaf, Jb7, Jaw, Jax, Jak, Jav, Jb4, Jau, Jat, Jan, Jam, Jb2, Jai, Jaj, Jb0, Jb1, Jaq, Jb3, Jar, Jas, Jao, Jap, Jb6, Jb5, Ja7, Ja8, Jac, Jab, Ja0, Ja9, Jaa, Jbg, Jbh, Ja6, Jad, Jbd, Jbf, Jbe, Jb9, Ja2, Ja1, Ja4, Ja3, Jay, Jaz, decide_true, decide_false, Bool.not_true, Bool.not_false, Bool.false_eq_true, if_true, if_false, true_and, Stp.low, Stp.b, iL_len]
    rw [get_room hq]
    simp only [Jbx, initE, Jcx, Jcj, Jbl, Jbm, Jc3, Jcs, Jct, Jca, Jcp, Jbn, Jcz, Jbo, Jbu, Jdd, Jde, Jdc, Jdf, Jdj, Jdh, Jdi, Jdg, Jc6, Jcc, Jd7, Jd6, Jcb, Jcm, Jd5, Jd4, Jcg, Jbs, Jd3, Jcl, Jbk, Jco, Jc9, Jbj, Jcn, Jck, Jd9, Jd8, Jdb, Jbp, Jci, Jcr, Jc5, Jcy, Jch, Jbq, Jcu, Jd0, Jdk, Jdl, Jcd, Jcv, Jcw, Jc8, Jbr, Jc4, Jbz, Jcf, gt, st, Jbc, Jba, Jbb, Jb8, Jbi, Ja5, atI0, atI1, atI2, atI3, atI4, ixN20, ixN21, List.map_cons, List.map_nil, List.cons_append, List.nil_append, List.append_nil, List.length_cons, List.length_nil, List.replicate_succ, List.replicate_zero, Nat.add_one_sub_one, Jda, Jbt, Jc0, Jc2, Jby, Jae, Jag, Jah, Jaf, Jb7, Jaw, Jax, Jak, Jav, Jb4, Jau, Jat, Jan, Jam, Jb2, Jai, Jaj, Jb0, Jb1, Jaq, Jb3, Jar, Jas, Jao, Jap, Jb6, Jb5, Ja7, Ja8, Jac, Jab, Ja0, Ja9, Jaa, Jbg, Jbh, Ja6, Jad, Jbd, Jbf, Jbe, Jb9, Ja2, Ja1, Ja4, Ja3, Jay, Jaz, decide_true, decide_false, Bool.not_true, Bool.not_false, Bool.false_eq_true, if_true, if_false, true_and]
    exact ⟨l1, put_room hq l2⟩
  | y ns =>
    obtain ⟨l1, l2⟩ := low ns rfl
    simp only [Jbx, initE, Jcx, Jcj, Jbl, Jbm, Jc3, Jcs, Jct, Jca, Jcp, Jbn, Jcz, Jbo, Jbu, Jdd, Jde, Jdc, Jdf, Jdj, Jdh, Jdi, Jdg, Jc6, Jcc, Jd7, Jd6, Jcb, Jcm, Jd5, Jd4, Jcg, Jbs, Jd3, Jcl, Jbk, Jco, Jc9, Jbj, Jcn, Jck, Jd9, Jd8, Jdb, Jbp, Jci, Jcr, Jc5, Jcy, Jch, Jbq, Jcu, Jd0, Jdk, Jdl, Jcd, Jcv, Jcw, Jc8, Jbr, Jc4, Jbz, Jcf, gt, st, Jbc, Jba, Jbb, Jb8, Jbi, Ja5, atI0, atI1, atI2, atI3, atI4, ixN20, ixN21, List.map_cons, List.map_nil, List.cons_append, List.nil_append, List.append_nil, List.length_cons, List.length_nil, List.replicate_succ, List.replicate_zero, Nat.add_one_sub_one, Jda, Jbt, Jc0, Jc2, Jby, Jae, Jag, Jah, Jaf, Jb7, Jaw, Jax, Jak, Jav, Jb4, Jau, Jat, Jan, Jam, Jb2, Jai, Jaj, Jb0, Jb1, Jaq, Jb3, Jar, Jas, Jao, Jap, Jb6, Jb5, Ja7, Ja8, Jac, Jab, Ja0, Ja9, Jaa, Jbg, Jbh, Ja6, Jad, Jbd, Jbf, Jbe, Jb9, Ja2, Ja1, Ja4, Ja3, Jay, Jaz, decide_true, decide_false, Bool.not_true, Bool.not_false, Bool.false_eq_true, if_true, if_false, true_and, Stp.low, Stp.b, iL_len]
    rw [get_room hq]
    simp only [Jbx, initE, Jcx, Jcj, Jbl, Jbm, Jc3, Jcs, Jct, Jca, Jcp, Jbn, Jcz, Jbo, Jbu, Jdd, Jde, Jdc, Jdf, Jdj, Jdh, Jdi, Jdg, Jc6, Jcc, Jd7, Jd6, Jcb, Jcm, Jd5, Jd4, Jcg, Jbs, Jd3, Jcl, Jbk, Jco, Jc9, Jbj, Jcn, Jck, Jd9, Jd8, Jdb, Jbp, Jci, Jcr, Jc5, Jcy, Jch, Jbq, Jcu, Jd0, Jdk, Jdl, Jcd, Jcv, Jcw, Jc8, Jbr, Jc4, Jbz, Jcf, gt, st, Jbc, Jba, Jbb, Jb8, Jbi, Ja5, atI0, atI1, atI2, atI3, atI4, ixN20, ixN21, List.map_cons, List.map_nil, List.cons_append, List.nil_append, List.append_nil, List.length_cons, List.length_nil, List.replicate_succ, List.replicate_zero, Nat.add_one_sub_one, Jda, Jbt, Jc0, Jc2, Jby, Jae, Jag, Jah, Jaf, Jb7, Jaw, Jax, Jak, Jav, Jb4, Jau, Jat, Jan, Jam, Jb2, Jai, Jaj, Jb0, Jb1, Jaq, Jb3, Jar, Jas, Jao, Jap, Jb6, Jb5, Ja7, Ja8, Jac, Jab, Ja0, Ja9, Jaa, Jbg, Jbh, Ja6, Jad, Jbd, Jbf, Jbe, Jb9, Ja2, Ja1, Ja4, Ja3, Jay, Jaz, decide_true, decide_false, Bool.not_true, Bool.not_false, Bool.false_eq_true, if_true, if_false, true_and]
    exact ⟨l1, put_room hq l2⟩
  | move a c =>
    simp only [Jbx, initE, Jcx, Jcj, Jbl, Jbm, Jc3, Jcs, Jct, Jca, Jcp, Jbn, Jcz, Jbo, Jbu, Jdd, Jde, Jdc, Jdf, Jdj, Jdh, Jdi, Jdg, Jc6, Jcc, Jd7, Jd6, Jcb, Jcm, Jd5, Jd4, Jcg, Jbs, Jd3, Jcl, Jbk, Jco, Jc9, Jbj, Jcn, Jck, Jd9, Jd8, Jdb, Jbp, Jci, Jcr, Jc5, Jcy, Jch, Jbq, Jcu, Jd0, Jdk, Jdl, Jcd, Jcv, Jcw, Jc8, Jbr, Jc4, Jbz, Jcf, gt, st, Jbc, Jba, Jbb, Jb8, Jbi, Ja5, atI0, atI1, atI2, atI3, atI4, ixN20, ixN21, List.map_cons, List.map_nil, List.cons_append, List.nil_append, List.append_nil, List.length_cons, List.length_nil, List.replicate_succ, List.replicate_zero, Nat.add_one_sub_one, Jda, Jbt, Jc0, Jc2, Jby, Jae, Jag, Jah, Jaf, Jb7, Jaw, Jax, Jak, Jav, Jb4, Jau, Jat, Jan, Jam, Jb2, Jai, Jaj, Jb0, Jb1, Jaq, Jb3, Jar, Jas, Jao, Jap, Jb6, Jb5, Ja7, Ja8, Jac, Jab, Ja0, Ja9, Jaa, Jbg, Jbh, Ja6, Jad, Jbd, Jbf, Jbe, Jb9, Ja2, Ja1, Ja4, Ja3, Jay, Jaz, decide_true, decide_false, Bool.not_true, Bool.not_false, Bool.false_eq_true, if_true, if_false, true_and, Stp.low, if_neg Bool.false_ne_true]
    exact same rfl
  | turn a c e f =>
    simp only [Jbx, initE, Jcx, Jcj, Jbl, Jbm, Jc3, Jcs, Jct, Jca, Jcp, Jbn, Jcz, Jbo, Jbu, Jdd, Jde, Jdc, Jdf, Jdj, Jdh, Jdi, Jdg, Jc6, Jcc, Jd7, Jd6, Jcb, Jcm, Jd5, Jd4, Jcg, Jbs, Jd3, Jcl, Jbk, Jco, Jc9, Jbj, Jcn, Jck, Jd9, Jd8, Jdb, Jbp, Jci, Jcr, Jc5, Jcy, Jch, Jbq, Jcu, Jd0, Jdk, Jdl, Jcd, Jcv, Jcw, Jc8, Jbr, Jc4, Jbz, Jcf, gt, st, Jbc, Jba, Jbb, Jb8, Jbi, Ja5, atI0, atI1, atI2, atI3, atI4, ixN20, ixN21, List.map_cons, List.map_nil, List.cons_append, List.nil_append, List.append_nil, List.length_cons, List.length_nil, List.replicate_succ, List.replicate_zero, Nat.add_one_sub_one, Jda, Jbt, Jc0, Jc2, Jby, Jae, Jag, Jah, Jaf, Jb7, Jaw, Jax, Jak, Jav, Jb4, Jau, Jat, Jan, Jam, Jb2, Jai, Jaj, Jb0, Jb1, Jaq, Jb3, Jar, Jas, Jao, Jap, Jb6, Jb5, Ja7, Ja8, Jac, Jab, Ja0, Ja9, Jaa, Jbg, Jbh, Ja6, Jad, Jbd, Jbf, Jbe, Jb9, Ja2, Ja1, Ja4, Ja3, Jay, Jaz, decide_true, decide_false, Bool.not_true, Bool.not_false, Bool.false_eq_true, if_true, if_false, true_and, Stp.low, if_neg Bool.false_ne_true]
    exact same rfl
theorem past_add (b : Int × Int) (ss : List Stp) (s : Stp) : Nd.frz (.list ((ptsS b ss).map enB ++ [.tup [s.b, .tup [.int (s.act ((acts ss b).1, (acts ss b).2)).1, .int (s.act ((acts ss b).1, (acts ss b).2)).2]]])) = pastD b (ss ++ [s]) := by
  unfold pastD
  rw [ptsS_snoc, List.map_append]
  rfl
theorem Szs.next {n : Nat} (z : Szs n b (ss ++ [s]) r) : s.Ok 1000000 ∧ s.len ≤ 4 ∧ s.deg ≤ 3 := by
  have := z.ok s (by simp)
  exact ⟨this.1, this.2, by unfold Stp.deg; omega⟩
theorem Szs.init {n : Nat} (z : Szs n b (ss ++ [s]) r) : Szs n b ss r := by
  obtain ⟨b0, pre, b1, b2, hl, e, hp, h1⟩ := z.h
  rw [List.length_append] at hl
  refine ⟨⟨b0, pre, b1, b2, by omega, e, hp, Int.le_trans (Int.mul_le_mul_of_nonneg_left ?_ (by omega)) h1⟩, fun t ht => z.ok t (List.mem_append_left _ ht), z.pos⟩
  rw [degs_snoc]
  have h2 : 1 ≤ s.deg := Nat.le_max_left _ _
  exact Int.mul_le_mul_of_nonneg_right (Int.ofNat_le.mpr (Nat.le_mul_of_pos_right _ h2)) (by have := z.pos; omega)
theorem Szs.add {n : Nat} {r' : Int} (z : Szs n b ss r) (h1 : s.Ok 1000000) (h2 : s.len ≤ 4) (h3 : 1 ≤ r') (h4 : (s.deg : Int) * r' ≤ r) : Szs (n + 1) b (ss ++ [s]) r' := by
  obtain ⟨b0, pre, b1, b2, hl, e, hp, hd⟩ := z.h
  refine ⟨⟨b0, pre, b1, b2, by rw [List.length_append]; simp; omega, e, hp, Int.le_trans (Int.mul_le_mul_of_nonneg_left ?_ (by omega)) hd⟩, fun t ht => ?_, h3⟩
  · rw [degs_snoc, Int.natCast_mul, Int.mul_assoc]
    exact Int.mul_le_mul_of_nonneg_left h4 (by omega)
  · rcases List.mem_append.mp ht with e | e
    · exact z.ok t e
    · rw [List.mem_singleton.mp e]
      exact ⟨h1, h2⟩
/-- a row behind a row -/
theorem Szs.behind {n : Nat} (z : Szs n b ss r) : Szs n (acts ss b) [] 1 := by
  have hps := z.pos
  obtain ⟨b0, pre, b1, b2, hl, e, hp, hd⟩ := z.h
  subst e
  refine ⟨⟨b0, pre ++ ss, b1, b2, by rw [List.length_append]; simpa using hl, (acts_appS _ _ _).symm, fun t ht => ?_, ?_⟩, (fun _ z => by cases z), by decide⟩
  · rcases List.mem_append.mp ht with e | e
    · exact hp t e
    · exact z.ok t e
  · rw [degs_appS, Int.natCast_mul]
    have h3 : (degs ([] : List Stp) : Int) = 1 := rfl
    have h4 : (degs ss : Int) * 1 ≤ (degs ss : Int) * r := Int.mul_le_mul_of_nonneg_left hps (by omega)
    have h5 : (degs pre : Int) * ((degs ss : Int) * 1) ≤ (degs pre : Int) * ((degs ss : Int) * r) := Int.mul_le_mul_of_nonneg_left h4 (by omega)
    rw [h3]
    rw [Int.mul_one] at h5
    omega
/-- a step is done on a bench -/
theorem Szs.do_ {n : Nat} (z : Szs n b (ss ++ [s]) r) (hn : n ≤ 100) (hp : μ p = some (benN b ss h)) (k : Q (ptD (acts (ss ++ [s]) b)) (up μ p (benN b (ss ++ [s]) h))) : wp_Bench_do [.cell p, s.p] μ Q X := by
  obtain ⟨h1, h2, h3⟩ := z.next
  obtain ⟨c, c1, c2, hf⟩ := z.init.fits
  have hl := z.init.len
  refine ok_Bench_do (C := 20) (c := c) (m := 4) hp (by omega) (ok20 h1) (by omega) h2 (by decide) ?_ hf k
  have e : s.deg * c ≤ 3 * (27 * (37 + 24 * 100)) := Nat.mul_le_mul h3 (by omega)
  omega
theorem Szs.due {n : Nat} (z : Szs n b (ss ++ [s]) r) (hn : n ≤ 100) (k : Q (.tup [.int (s.act ((acts ss b).1, (acts ss b).2)).1, .int (s.act ((acts ss b).1, (acts ss b).2)).2]) μ) : wp_law_step_done [s.b, .int (acts ss b).1, .int (acts ss b).2] μ Q X := by
  obtain ⟨h1, h2, h3⟩ := z.next
  obtain ⟨c, c1, c2, hf⟩ := z.init.fits
  refine ok_step_done (C := 20) (b := c) (by omega) ?_ (by omega) (ok20 h1) hf.1 hf.2 k
  have e : (c + 1) * s.len ≤ (27 * (37 + 24 * 100) + 1) * 4 := Nat.mul_le_mul (by omega) h2
  omega
theorem ok_law_done {n : Nat} (z : Szs n b (ss ++ [s]) r) (hn : n ≤ 21) (hf : Fit (acts (ss ++ [s]) b) 12900) (hp : μ p = some (benN b ss h)) (hq : μ q = some (modN b ss r)) (k : Q (.bool true) (up (up μ p (benN b (ss ++ [s]) h)) q (modN b (ss ++ [s]) r))) : wp_law_done [.cell p, .cell q, s.b] μ Q X := by
  have ne := ben_ne_mod hp hq
  have hq2 : up μ p (benN b (ss ++ [s]) h) q = some (modN b ss r) := by rw [up_ne (Ne.symm ne)]; exact hq
  have hp3 : up (up μ p (benN b (ss ++ [s]) h)) q (modN b (ss ++ [s]) r) p = some (benN b (ss ++ [s]) h) := by rw [up_ne ne, up_same]
  obtain ⟨h1, h2, h3⟩ := z.next
  have hl := z.len
  unfold wp_law_done
  simp only [Jbx, initE, Jcx, Jcj, Jbl, Jbm, Jc3, Jcs, Jct, Jca, Jcp, Jbn, Jcz, Jbo, Jbu, Jdd, Jde, Jdc, Jdf, Jdj, Jdh, Jdi, Jdg, Jc6, Jcc, Jd7, Jd6, Jcb, Jcm, Jd5, Jd4, Jcg, Jbs, Jd3, Jcl, Jbk, Jco, Jc9, Jbj, Jcn, Jck, Jd9, Jd8, Jdb, Jbp, Jci, Jcr, Jc5, Jcy, Jch, Jbq, Jcu, Jd0, Jdk, Jdl, Jcd, Jcv, Jcw, Jc8, Jbr, Jc4, Jbz, Jcf, gt, st, Jbc, Jba, Jbb, Jb8, Jbi, Ja5, atI0, atI1, atI2, atI3, atI4, ixN20, ixN21, List.map_cons, List.map_nil, List.cons_append, List.nil_append, List.append_nil, List.length_cons, List.length_nil, List.replicate_succ, List.replicate_zero, Nat.add_one_sub_one, Jda, Jbt, Jc0, Jc2, Jby, Jae, Jag, Jah, Jaf, Jb7, Jaw, Jax, Jak, Jav, Jb4, Jau, Jat, Jan, Jam, Jb2, Jai, Jaj, Jb0, Jb1, Jaq, Jb3, Jar, Jas, Jao, Jap, Jb6, Jb5, Ja7, Ja8, Jac, Jab, Ja0, Ja9, Jaa, Jbg, Jbh, Ja6, Jad, Jbd, Jbf, Jbe, Jb9, Ja2, Ja1, Ja4, Ja3, Jay, Jaz, decide_true, decide_false, Bool.not_true, Bool.not_false, Bool.false_eq_true, if_true, if_false, true_and, Jbv, Jbw]
  refine ok_law_now hq ?_
  simp only [ptD, Jbx, initE, Jcx, Jcj, Jbl, Jbm, Jc3, Jcs, Jct, Jca, Jcp, Jbn, Jcz, Jbo, Jbu, Jdd, Jde, Jdc, Jdf, Jdj, Jdh, Jdi, Jdg, Jc6, Jcc, Jd7, Jd6, Jcb, Jcm, Jd5, Jd4, Jcg, Jbs, Jd3, Jcl, Jbk, Jco, Jc9, Jbj, Jcn, Jck, Jd9, Jd8, Jdb, Jbp, Jci, Jcr, Jc5, Jcy, Jch, Jbq, Jcu, Jd0, Jdk, Jdl, Jcd, Jcv, Jcw, Jc8, Jbr, Jc4, Jbz, Jcf, gt, st, Jbc, Jba, Jbb, Jb8, Jbi, Ja5, atI0, atI1, atI2, atI3, atI4, ixN20, ixN21, List.map_cons, List.map_nil, List.cons_append, List.nil_append, List.append_nil, List.length_cons, List.length_nil, List.replicate_succ, List.replicate_zero, Nat.add_one_sub_one, Jda, Jbt, Jc0, Jc2, Jby, Jae, Jag, Jah, Jaf, Jb7, Jaw, Jax, Jak, Jav, Jb4, Jau, Jat, Jan, Jam, Jb2, Jai, Jaj, Jb0, Jb1, Jaq, Jb3, Jar, Jas, Jao, Jap, Jb6, Jb5, Ja7, Ja8, Jac, Jab, Ja0, Ja9, Jaa, Jbg, Jbh, Ja6, Jad, Jbd, Jbf, Jbe, Jb9, Ja2, Ja1, Ja4, Ja3, Jay, Jaz, decide_true, decide_false, Bool.not_true, Bool.not_false, Bool.false_eq_true, if_true, if_false, true_and]
  refine z.due (by omega) ?_
  rw [ben_is hp (by decide)]
  refine ok_step_of h1 (z.do_ (by omega) hp ?_)
  rw [get_past hq2]
  rw [List.length_append] at hl
  refine ⟨by simp [sizeLine_eq], by simp [sizeLine_eq], ?_⟩
  have e0 : pastD b ss = .list ((ptsS b ss).map enB) := rfl
  rw [e0, Jaf]
  refine ⟨by rw [List.length_map, ptsS_len, sizeLine_eq]; simp; omega, ?_⟩
  rw [Jba, past_add]
  refine put_past hq2 ?_
  have e1 : acts (ss ++ [s]) b = s.act ((acts ss b).1, (acts ss b).2) := acts_end ss s b
  rw [← e1]
  refine ok_reprPt hf.1 hf.2 ?_
  simp only [Jbx, initE, Jcx, Jcj, Jbl, Jbm, Jc3, Jcs, Jct, Jca, Jcp, Jbn, Jcz, Jbo, Jbu, Jdd, Jde, Jdc, Jdf, Jdj, Jdh, Jdi, Jdg, Jc6, Jcc, Jd7, Jd6, Jcb, Jcm, Jd5, Jd4, Jcg, Jbs, Jd3, Jcl, Jbk, Jco, Jc9, Jbj, Jcn, Jck, Jd9, Jd8, Jdb, Jbp, Jci, Jcr, Jc5, Jcy, Jch, Jbq, Jcu, Jd0, Jdk, Jdl, Jcd, Jcv, Jcw, Jc8, Jbr, Jc4, Jbz, Jcf, gt, st, Jbc, Jba, Jbb, Jb8, Jbi, Ja5, atI0, atI1, atI2, atI3, atI4, ixN20, ixN21, List.map_cons, List.map_nil, List.cons_append, List.nil_append, List.append_nil, List.length_cons, List.length_nil, List.replicate_succ, List.replicate_zero, Nat.add_one_sub_one, Jda, Jbt, Jc0, Jc2, Jby, Jae, Jag, Jah, Jaf, Jb7, Jaw, Jax, Jak, Jav, Jb4, Jau, Jat, Jan, Jam, Jb2, Jai, Jaj, Jb0, Jb1, Jaq, Jb3, Jar, Jas, Jao, Jap, Jb6, Jb5, Ja7, Ja8, Jac, Jab, Ja0, Ja9, Jaa, Jbg, Jbh, Ja6, Jad, Jbd, Jbf, Jbe, Jb9, Ja2, Ja1, Ja4, Ja3, Jay, Jaz, decide_true, decide_false, Bool.not_true, Bool.not_false, Bool.false_eq_true, if_true, if_false, true_and]
  refine ok_reprPt hf.1 hf.2 ?_
  simp only [Jbx, initE, Jcx, Jcj, Jbl, Jbm, Jc3, Jcs, Jct, Jca, Jcp, Jbn, Jcz, Jbo, Jbu, Jdd, Jde, Jdc, Jdf, Jdj, Jdh, Jdi, Jdg, Jc6, Jcc, Jd7, Jd6, Jcb, Jcm, Jd5, Jd4, Jcg, Jbs, Jd3, Jcl, Jbk, Jco, Jc9, Jbj, Jcn, Jck, Jd9, Jd8, Jdb, Jbp, Jci, Jcr, Jc5, Jcy, Jch, Jbq, Jcu, Jd0, Jdk, Jdl, Jcd, Jcv, Jcw, Jc8, Jbr, Jc4, Jbz, Jcf, gt, st, Jbc, Jba, Jbb, Jb8, Jbi, Ja5, atI0, atI1, atI2, atI3, atI4, ixN20, ixN21, List.map_cons, List.map_nil, List.cons_append, List.nil_append, List.append_nil, List.length_cons, List.length_nil, List.replicate_succ, List.replicate_zero, Nat.add_one_sub_one, Jda, Jbt, Jc0, Jc2, Jby, Jae, Jag, Jah, Jaf, Jb7, Jaw, Jax, Jak, Jav, Jb4, Jau, Jat, Jan, Jam, Jb2, Jai, Jaj, Jb0, Jb1, Jaq, Jb3, Jar, Jas, Jao, Jap, Jb6, Jb5, Ja7, Ja8, Jac, Jab, Ja0, Ja9, Jaa, Jbg, Jbh, Ja6, Jad, Jbd, Jbf, Jbe, Jb9, Ja2, Ja1, Ja4, Ja3, Jay, Jaz, decide_true, decide_false, Bool.not_true, Bool.not_false, Bool.false_eq_true, if_true, if_false, true_and]
  refine ok_bench_shows z (by omega) hf hp3 up_same k
end
end DL

set_option Elab.async false
set_option linter.all false
set_option maxRecDepth 100000
set_option maxHeartbeats 4000000
/-! B3m: undos, copies; rows of steps and undos. -/
namespace DL
open PySem L2
def wp_Bench_undo : WP := (wDef 1 1 (wSeq (wIfS (wTst (wOp false (oEqR "Rule" ["own_numbers"] ruleP) (wFld "Bench" "done" (wV 0)) (wTup waNil))) (wRz "NothingLeft") wNext)
    (wSeq (wSetF "Bench" "done" (wV 0) (wSl false oSl (wFld "Bench" "done" (wV 0)) woNone (woSome (wUn false oNeg (wK (.int 1))))))
    (wRet (wProp "Bench" "point" wp_Bench_point (wV 0))))))
def wp_law_undone : WP := (wDef 2 3 (wSeq (wIfS (wTst (wOp false (oEqR "Rule" ["own_numbers"] ruleP) (wDGet "past" (wV 1)) (wLst false waNil))) (wRet (wAnd (wCb false cbIsi (waCons (wCaught ["CrossError", "BadRule", "BadPower", "BadProgram", "BadPoint", "BadDeed", "NothingLeft"] (wMeth "Bench" "undo" wp_Bench_undo [] (wV 0) waNil)) (waCons (wK (.cls "NothingLeft")) waNil))) (wCall wp_law_bench_shows [] (waCons (wV 0) (waCons (wV 1) waNil))))) wNext)
    (wSeq (wDPut "past" (wV 1) (wSl false oSl (wDGet "past" (wV 1)) woNone (woSome (wUn false oNeg (wK (.int 1))))))
    (wSeq (wAsg 2 (wMeth "Bench" "undo" wp_Bench_undo [] (wV 0) waNil))
    (wRet (wAnd (wOp false oEq (wCb false cbReprB (waCons (wV 2) waNil)) (wCb false cbReprB (waCons (wCall wp_law_now [] (waCons (wV 1) waNil)) waNil))) (wCall wp_law_bench_shows [] (waCons (wV 0) (waCons (wV 1) waNil)))))))))
def wp_law_some_done : WP := (wDef 4 5 (wSeq (wFor (wiRng1 (waCons (wV 3) waNil)) (wgN 4) (wIfS (wOrT (wTst (wOp false oEq (wCall wp_law_take [] (waCons (wV 0) (waCons (wK (.int 4)) waNil))) (wK (.int 0)))) (wTst (wOp false oGt (wCb false cbLen (waCons (wDGet "past" (wV 2)) waNil)) (wK (.int 20))))) (wIfS (wNotT (wTst (wCall wp_law_undone [] (waCons (wV 1) (waCons (wV 2) waNil))))) (wRet (wK (.bool false))) wNext) (wIfS (wNotT (wTst (wCall wp_law_done [] (waCons (wV 1) (waCons (wV 2) (waCons (wCall wp_law_bench_step [] (waCons (wV 0) (waCons (wV 2) waNil))) waNil)))))) (wRet (wK (.bool false))) wNext)))
    (wRet (wK (.bool true)))))
theorem cut_last1 (ds : List D) (x : D) : cutD (ds ++ [x]) none (some (-1)) = ds := by
  unfold cutD
  rw [HT.sIx_none]
  have e : HT.sIx (ds ++ [x]).length (ds ++ [x]).length (some (-1)) = ds.length := by
    rw [List.length_append, show [x].length = 1 from rfl]
    unfold HT.sIx
    simp
    try omega
  rw [e]
  simp
section
variable {μ : Mu} {Q X : QD} {QQ : QR} {d : D} {p q : Addr} {b : Int × Int} {ss : List Stp} {h : D} {r : Int} {s : Stp} {n : Nat}
theorem dp_pt (a : Int × Int) : dpO (ptD a) = 1 := by simp [ptD, dpO, dpOs]
theorem dp_done : ∀ l : List (Stp × (Int × Int)), dpOs (l.map enP) ≤ 4
  | [] => Nat.zero_le _
  | e :: l => by
    have h1 := dpO_step e.1
    have h2 := dp_done l
    have h3 := dp_pt e.2
    rw [List.map_cons, dpOs, enP, dpO, dpOs, dpOs, dpOs, h3]
    omega
theorem dpO_stepB (s : Stp) : dpO s.b ≤ 3 := by
  cases s <;> simp [Stp.b, dpO, dpOs, dpOs_ints]
theorem dp_past : ∀ l : List (Stp × (Int × Int)), dpOs (l.map enB) ≤ 4
  | [] => Nat.zero_le _
  | e :: l => by
    have h1 := dpO_stepB e.1
    have h2 := dp_past l
    have h3 := dp_pt e.2
    rw [List.map_cons, dpOs, enB, dpO, dpOs, dpOs, dpOs, h3]
    omega
theorem cmp_nil {n : Str} {fs : List Str} {P : List D → Bool} (l : List D) : cmpOs n fs P l [] = true := by cases l <;> rfl
theorem eqOs_nil (l : List D) : eqOs l [] = l.isEmpty := by cases l <;> rfl
theorem eq0_done (k : QQ (.v (.bool ss.isEmpty)) μ) : oEqR "Rule" ["own_numbers"] ruleP (doneD b ss) (.tup []) μ QQ X := by
  unfold doneD
  refine ⟨rfl, ?_, ?_, ?_⟩
  · rw [cmpO]; exact cmp_nil _
  · rw [dpO]; have := dp_done (ptsS b ss); omega
  · rw [eqO, eqOs_nil]
    cases ss <;> exact k
theorem eq0_past (k : QQ (.v (.bool ss.isEmpty)) μ) : oEqR "Rule" ["own_numbers"] ruleP (pastD b ss) (.list []) μ QQ X := by
  unfold pastD
  refine ⟨rfl, ?_, ?_, ?_⟩
  · rw [cmpO]; exact cmp_nil _
  · rw [dpO]; have := dp_past (ptsS b ss); omega
  · rw [eqO, eqOs_nil]
    cases ss <;> exact k
theorem ok_Bench_undo (hp : μ p = some (benN b (ss ++ [s]) h)) (k : Q (ptD (acts ss b)) (up μ p (benN b ss h))) : wp_Bench_undo [.cell p] μ Q X := by
  unfold wp_Bench_undo
  simp only [Jbx, initE, Jcx, Jcj, Jbl, Jbm, Jc3, Jcs, Jct, Jca, Jcp, Jbn, Jcz, Jbo, Jbu, Jdd, Jde, Jdc, Jdf, Jdj, Jdh, Jdi, Jdg, Jc6, Jcc, Jd7, Jd6, Jcb, Jcm, Jd5, Jd4, Jcg, Jbs, Jd3, Jcl, Jbk, Jco, Jc9, Jbj, Jcn, Jck, Jd9, Jd8, Jdb, Jbp, Jci, Jcr, Jc5, Jcy, Jch, Jbq, Jcu, Jd0, Jdk, Jdl, Jcd, Jcv, Jcw, Jc8, Jbr, Jc4, Jbz, Jcf, gt, st, Jbc, Jba, Jbb, Jb8, Jbi, Ja5, atI0, atI1, atI2, atI3, atI4, ixN20, ixN21, List.map_cons, List.map_nil, List.cons_append, List.nil_append, List.append_nil, List.length_cons, List.length_nil, List.replicate_succ, List.replicate_zero, Nat.add_one_sub_one, Jda, Jbt, Jc0, Jc2, Jby, Jae, Jag, Jah, Jaf, Jb7, Jaw, Jax, Jak, Jav, Jb4, Jau, Jat, Jan, Jam, Jb2, Jai, Jaj, Jb0, Jb1, Jaq, Jb3, Jar, Jas, Jao, Jap, Jb6, Jb5, Ja7, Ja8, Jac, Jab, Ja0, Ja9, Jaa, Jbg, Jbh, Ja6, Jad, Jbd, Jbf, Jbe, Jb9, Ja2, Ja1, Ja4, Ja3, Jay, Jaz, decide_true, decide_false, Bool.not_true, Bool.not_false, Bool.false_eq_true, if_true, if_false, true_and, ben_obj hp, f_done]
  refine ⟨Nat.zero_le _, eq0_done ?_⟩
  rw [show (ss ++ [s]).isEmpty = false by simp]
  simp only [Jbx, initE, Jcx, Jcj, Jbl, Jbm, Jc3, Jcs, Jct, Jca, Jcp, Jbn, Jcz, Jbo, Jbu, Jdd, Jde, Jdc, Jdf, Jdj, Jdh, Jdi, Jdg, Jc6, Jcc, Jd7, Jd6, Jcb, Jcm, Jd5, Jd4, Jcg, Jbs, Jd3, Jcl, Jbk, Jco, Jc9, Jbj, Jcn, Jck, Jd9, Jd8, Jdb, Jbp, Jci, Jcr, Jc5, Jcy, Jch, Jbq, Jcu, Jd0, Jdk, Jdl, Jcd, Jcv, Jcw, Jc8, Jbr, Jc4, Jbz, Jcf, gt, st, Jbc, Jba, Jbb, Jb8, Jbi, Ja5, atI0, atI1, atI2, atI3, atI4, ixN20, ixN21, List.map_cons, List.map_nil, List.cons_append, List.nil_append, List.append_nil, List.length_cons, List.length_nil, List.replicate_succ, List.replicate_zero, Nat.add_one_sub_one, Jda, Jbt, Jc0, Jc2, Jby, Jae, Jag, Jah, Jaf, Jb7, Jaw, Jax, Jak, Jav, Jb4, Jau, Jat, Jan, Jam, Jb2, Jai, Jaj, Jb0, Jb1, Jaq, Jb3, Jar, Jas, Jao, Jap, Jb6, Jb5, Ja7, Ja8, Jac, Jab, Ja0, Ja9, Jaa, Jbg, Jbh, Ja6, Jad, Jbd, Jbf, Jbe, Jb9, Ja2, Ja1, Ja4, Ja3, Jay, Jaz, decide_true, decide_false, Bool.not_true, Bool.not_false, Bool.false_eq_true, if_true, if_false, true_and]
  rw [ben_obj hp]
  simp only [Jbx, initE, Jcx, Jcj, Jbl, Jbm, Jc3, Jcs, Jct, Jca, Jcp, Jbn, Jcz, Jbo, Jbu, Jdd, Jde, Jdc, Jdf, Jdj, Jdh, Jdi, Jdg, Jc6, Jcc, Jd7, Jd6, Jcb, Jcm, Jd5, Jd4, Jcg, Jbs, Jd3, Jcl, Jbk, Jco, Jc9, Jbj, Jcn, Jck, Jd9, Jd8, Jdb, Jbp, Jci, Jcr, Jc5, Jcy, Jch, Jbq, Jcu, Jd0, Jdk, Jdl, Jcd, Jcv, Jcw, Jc8, Jbr, Jc4, Jbz, Jcf, gt, st, Jbc, Jba, Jbb, Jb8, Jbi, Ja5, atI0, atI1, atI2, atI3, atI4, ixN20, ixN21, List.map_cons, List.map_nil, List.cons_append, List.nil_append, List.append_nil, List.length_cons, List.length_nil, List.replicate_succ, List.replicate_zero, Nat.add_one_sub_one, Jda, Jbt, Jc0, Jc2, Jby, Jae, Jag, Jah, Jaf, Jb7, Jaw, Jax, Jak, Jav, Jb4, Jau, Jat, Jan, Jam, Jb2, Jai, Jaj, Jb0, Jb1, Jaq, Jb3, Jar, Jas, Jao, Jap, Jb6, Jb5, Ja7, Ja8, Jac, Jab, Ja0, Ja9, Jaa, Jbg, Jbh, Ja6, Jad, Jbd, Jbf, Jbe, Jb9, Ja2, Ja1, Ja4, Ja3, Jay, Jaz, decide_true, decide_false, Bool.not_true, Bool.not_false, Bool.false_eq_true, if_true, if_false, true_and, f_done]
  unfold doneD
  rw [ptsS_snoc, List.map_append]
  simp only [Jbx, initE, Jcx, Jcj, Jbl, Jbm, Jc3, Jcs, Jct, Jca, Jcp, Jbn, Jcz, Jbo, Jbu, Jdd, Jde, Jdc, Jdf, Jdj, Jdh, Jdi, Jdg, Jc6, Jcc, Jd7, Jd6, Jcb, Jcm, Jd5, Jd4, Jcg, Jbs, Jd3, Jcl, Jbk, Jco, Jc9, Jbj, Jcn, Jck, Jd9, Jd8, Jdb, Jbp, Jci, Jcr, Jc5, Jcy, Jch, Jbq, Jcu, Jd0, Jdk, Jdl, Jcd, Jcv, Jcw, Jc8, Jbr, Jc4, Jbz, Jcf, gt, st, Jbc, Jba, Jbb, Jb8, Jbi, Ja5, atI0, atI1, atI2, atI3, atI4, ixN20, ixN21, List.map_cons, List.map_nil, List.cons_append, List.nil_append, List.append_nil, List.length_cons, List.length_nil, List.replicate_succ, List.replicate_zero, Nat.add_one_sub_one, Jda, Jbt, Jc0, Jc2, Jby, Jae, Jag, Jah, Jaf, Jb7, Jaw, Jax, Jak, Jav, Jb4, Jau, Jat, Jan, Jam, Jb2, Jai, Jaj, Jb0, Jb1, Jaq, Jb3, Jar, Jas, Jao, Jap, Jb6, Jb5, Ja7, Ja8, Jac, Jab, Ja0, Ja9, Jaa, Jbg, Jbh, Ja6, Jad, Jbd, Jbf, Jbe, Jb9, Ja2, Ja1, Ja4, Ja3, Jay, Jaz, decide_true, decide_false, Bool.not_true, Bool.not_false, Bool.false_eq_true, if_true, if_false, true_and, List.map_cons, List.map_nil, cut_last1, ben_ndO hp, p_done]
  refine ⟨by decide, ?_⟩
  have e : up μ p (.obj "Bench" benF [ptD b, .tup (List.map enP (ptsS b ss)), h]) = up μ p (benN b ss h) := rfl
  rw [e, ben_is (up_same) (by decide)]
  exact ok_Bench_point up_same k
theorem no_Bench_undo (hp : μ p = some (benN b [] h)) (x : X (.err "NothingLeft" [] []) μ) : wp_Bench_undo [.cell p] μ Q X := by
  unfold wp_Bench_undo
  simp only [Jbx, initE, Jcx, Jcj, Jbl, Jbm, Jc3, Jcs, Jct, Jca, Jcp, Jbn, Jcz, Jbo, Jbu, Jdd, Jde, Jdc, Jdf, Jdj, Jdh, Jdi, Jdg, Jc6, Jcc, Jd7, Jd6, Jcb, Jcm, Jd5, Jd4, Jcg, Jbs, Jd3, Jcl, Jbk, Jco, Jc9, Jbj, Jcn, Jck, Jd9, Jd8, Jdb, Jbp, Jci, Jcr, Jc5, Jcy, Jch, Jbq, Jcu, Jd0, Jdk, Jdl, Jcd, Jcv, Jcw, Jc8, Jbr, Jc4, Jbz, Jcf, gt, st, Jbc, Jba, Jbb, Jb8, Jbi, Ja5, atI0, atI1, atI2, atI3, atI4, ixN20, ixN21, List.map_cons, List.map_nil, List.cons_append, List.nil_append, List.append_nil, List.length_cons, List.length_nil, List.replicate_succ, List.replicate_zero, Nat.add_one_sub_one, Jda, Jbt, Jc0, Jc2, Jby, Jae, Jag, Jah, Jaf, Jb7, Jaw, Jax, Jak, Jav, Jb4, Jau, Jat, Jan, Jam, Jb2, Jai, Jaj, Jb0, Jb1, Jaq, Jb3, Jar, Jas, Jao, Jap, Jb6, Jb5, Ja7, Ja8, Jac, Jab, Ja0, Ja9, Jaa, Jbg, Jbh, Ja6, Jad, Jbd, Jbf, Jbe, Jb9, Ja2, Ja1, Ja4, Ja3, Jay, Jaz, decide_true, decide_false, Bool.not_true, Bool.not_false, Bool.false_eq_true, if_true, if_false, true_and, ben_obj hp, f_done]
  refine ⟨Nat.zero_le _, eq0_done ?_⟩
  simp only [Jbx, initE, Jcx, Jcj, Jbl, Jbm, Jc3, Jcs, Jct, Jca, Jcp, Jbn, Jcz, Jbo, Jbu, Jdd, Jde, Jdc, Jdf, Jdj, Jdh, Jdi, Jdg, Jc6, Jcc, Jd7, Jd6, Jcb, Jcm, Jd5, Jd4, Jcg, Jbs, Jd3, Jcl, Jbk, Jco, Jc9, Jbj, Jcn, Jck, Jd9, Jd8, Jdb, Jbp, Jci, Jcr, Jc5, Jcy, Jch, Jbq, Jcu, Jd0, Jdk, Jdl, Jcd, Jcv, Jcw, Jc8, Jbr, Jc4, Jbz, Jcf, gt, st, Jbc, Jba, Jbb, Jb8, Jbi, Ja5, atI0, atI1, atI2, atI3, atI4, ixN20, ixN21, List.map_cons, List.map_nil, List.cons_append, List.nil_append, List.append_nil, List.length_cons, List.length_nil, List.replicate_succ, List.replicate_zero, Nat.add_one_sub_one, Jda, Jbt, Jc0, Jc2, Jby, Jae, Jag, Jah, Jaf, Jb7, Jaw, Jax, Jak, Jav, Jb4, Jau, Jat, Jan, Jam, Jb2, Jai, Jaj, Jb0, Jb1, Jaq, Jb3, Jar, Jas, Jao, Jap, Jb6, Jb5, Ja7, Ja8, Jac, Jab, Ja0, Ja9, Jaa, Jbg, Jbh, Ja6, Jad, Jbd, Jbf, Jbe, Jb9, Ja2, Ja1, Ja4, Ja3, Jay, Jaz, decide_true, decide_false, Bool.not_true, Bool.not_false, Bool.false_eq_true, if_true, if_false, true_and, List.isEmpty_nil]
  exact x
/-- a bench and its model -/
structure Bm (μ : Mu) (p q : Addr) (n : Nat) (b : Int × Int) (ss : List Stp) (r : Int) : Prop where
  p : ∃ h, μ p = some (benN b ss h)
  q : μ q = some (modN b ss r)
  z : Szs n b ss r
theorem Szs.more {m : Nat} (z : Szs n b ss r) (h : n ≤ m) : Szs m b ss r := by
  obtain ⟨b0, pre, b1, b2, hl, q⟩ := z.h
  exact ⟨⟨b0, pre, b1, b2, by omega, q⟩, z.ok, z.pos⟩
theorem isi_left : isiD (.o "NothingLeft") (.cls "NothingLeft") = some true := by decide
theorem ok_law_undone0 (z : Szs n b [] r) (hn : n ≤ 21) (hp : μ p = some (benN b [] h)) (hq : μ q = some (modN b [] r)) (k : Q (.bool true) μ) : wp_law_undone [.cell p, .cell q] μ Q X := by
  unfold wp_law_undone
  simp only [Jbx, initE, Jcx, Jcj, Jbl, Jbm, Jc3, Jcs, Jct, Jca, Jcp, Jbn, Jcz, Jbo, Jbu, Jdd, Jde, Jdc, Jdf, Jdj, Jdh, Jdi, Jdg, Jc6, Jcc, Jd7, Jd6, Jcb, Jcm, Jd5, Jd4, Jcg, Jbs, Jd3, Jcl, Jbk, Jco, Jc9, Jbj, Jcn, Jck, Jd9, Jd8, Jdb, Jbp, Jci, Jcr, Jc5, Jcy, Jch, Jbq, Jcu, Jd0, Jdk, Jdl, Jcd, Jcv, Jcw, Jc8, Jbr, Jc4, Jbz, Jcf, gt, st, Jbc, Jba, Jbb, Jb8, Jbi, Ja5, atI0, atI1, atI2, atI3, atI4, ixN20, ixN21, List.map_cons, List.map_nil, List.cons_append, List.nil_append, List.append_nil, List.length_cons, List.length_nil, List.replicate_succ, List.replicate_zero, Nat.add_one_sub_one, Jda, Jbt, Jc0, Jc2, Jby, Jae, Jag, Jah, Jaf, Jb7, Jaw, Jax, Jak, Jav, Jb4, Jau, Jat, Jan, Jam, Jb2, Jai, Jaj, Jb0, Jb1, Jaq, Jb3, Jar, Jas, Jao, Jap, Jb6, Jb5, Ja7, Ja8, Jac, Jab, Ja0, Ja9, Jaa, Jbg, Jbh, Ja6, Jad, Jbd, Jbf, Jbe, Jb9, Ja2, Ja1, Ja4, Ja3, Jay, Jaz, decide_true, decide_false, Bool.not_true, Bool.not_false, Bool.false_eq_true, if_true, if_false, true_and, Jbv, Jbw, get_past hq]
  refine ⟨Nat.zero_le _, eq0_past ?_⟩
  simp only [Jbx, initE, Jcx, Jcj, Jbl, Jbm, Jc3, Jcs, Jct, Jca, Jcp, Jbn, Jcz, Jbo, Jbu, Jdd, Jde, Jdc, Jdf, Jdj, Jdh, Jdi, Jdg, Jc6, Jcc, Jd7, Jd6, Jcb, Jcm, Jd5, Jd4, Jcg, Jbs, Jd3, Jcl, Jbk, Jco, Jc9, Jbj, Jcn, Jck, Jd9, Jd8, Jdb, Jbp, Jci, Jcr, Jc5, Jcy, Jch, Jbq, Jcu, Jd0, Jdk, Jdl, Jcd, Jcv, Jcw, Jc8, Jbr, Jc4, Jbz, Jcf, gt, st, Jbc, Jba, Jbb, Jb8, Jbi, Ja5, atI0, atI1, atI2, atI3, atI4, ixN20, ixN21, List.map_cons, List.map_nil, List.cons_append, List.nil_append, List.append_nil, List.length_cons, List.length_nil, List.replicate_succ, List.replicate_zero, Nat.add_one_sub_one, Jda, Jbt, Jc0, Jc2, Jby, Jae, Jag, Jah, Jaf, Jb7, Jaw, Jax, Jak, Jav, Jb4, Jau, Jat, Jan, Jam, Jb2, Jai, Jaj, Jb0, Jb1, Jaq, Jb3, Jar, Jas, Jao, Jap, Jb6, Jb5, Ja7, Ja8, Jac, Jab, Ja0, Ja9, Jaa, Jbg, Jbh, Ja6, Jad, Jbd, Jbf, Jbe, Jb9, Ja2, Ja1, Ja4, Ja3, Jay, Jaz, decide_true, decide_false, Bool.not_true, Bool.not_false, Bool.false_eq_true, if_true, if_false, true_and, List.isEmpty_nil]
  rw [ben_is hp (by decide)]
  refine no_Bench_undo hp ⟨by decide, ?_⟩
  simp only [cbIsi, two, tyD, isi_left, Jbx, initE, Jcx, Jcj, Jbl, Jbm, Jc3, Jcs, Jct, Jca, Jcp, Jbn, Jcz, Jbo, Jbu, Jdd, Jde, Jdc, Jdf, Jdj, Jdh, Jdi, Jdg, Jc6, Jcc, Jd7, Jd6, Jcb, Jcm, Jd5, Jd4, Jcg, Jbs, Jd3, Jcl, Jbk, Jco, Jc9, Jbj, Jcn, Jck, Jd9, Jd8, Jdb, Jbp, Jci, Jcr, Jc5, Jcy, Jch, Jbq, Jcu, Jd0, Jdk, Jdl, Jcd, Jcv, Jcw, Jc8, Jbr, Jc4, Jbz, Jcf, gt, st, Jbc, Jba, Jbb, Jb8, Jbi, Ja5, atI0, atI1, atI2, atI3, atI4, ixN20, ixN21, List.map_cons, List.map_nil, List.cons_append, List.nil_append, List.append_nil, List.length_cons, List.length_nil, List.replicate_succ, List.replicate_zero, Nat.add_one_sub_one, Jda, Jbt, Jc0, Jc2, Jby, Jae, Jag, Jah, Jaf, Jb7, Jaw, Jax, Jak, Jav, Jb4, Jau, Jat, Jan, Jam, Jb2, Jai, Jaj, Jb0, Jb1, Jaq, Jb3, Jar, Jas, Jao, Jap, Jb6, Jb5, Ja7, Ja8, Jac, Jab, Ja0, Ja9, Jaa, Jbg, Jbh, Ja6, Jad, Jbd, Jbf, Jbe, Jb9, Ja2, Ja1, Ja4, Ja3, Jay, Jaz, decide_true, decide_false, Bool.not_true, Bool.not_false, Bool.false_eq_true, if_true, if_false, true_and]
  exact ok_bench_shows z hn (z.big hn) hp hq k
theorem ok_law_undone1 (z : Szs n b (ss ++ [s]) r) (hn : n ≤ 21) (hf : Fit (acts ss b) 12900) (hp : μ p = some (benN b (ss ++ [s]) h)) (hq : μ q = some (modN b (ss ++ [s]) r)) (k : Q (.bool true) (up (up μ q (modN b ss r)) p (benN b ss h))) : wp_law_undone [.cell p, .cell q] μ Q X := by
  have ne := ben_ne_mod hp hq
  unfold wp_law_undone
  simp only [Jbx, initE, Jcx, Jcj, Jbl, Jbm, Jc3, Jcs, Jct, Jca, Jcp, Jbn, Jcz, Jbo, Jbu, Jdd, Jde, Jdc, Jdf, Jdj, Jdh, Jdi, Jdg, Jc6, Jcc, Jd7, Jd6, Jcb, Jcm, Jd5, Jd4, Jcg, Jbs, Jd3, Jcl, Jbk, Jco, Jc9, Jbj, Jcn, Jck, Jd9, Jd8, Jdb, Jbp, Jci, Jcr, Jc5, Jcy, Jch, Jbq, Jcu, Jd0, Jdk, Jdl, Jcd, Jcv, Jcw, Jc8, Jbr, Jc4, Jbz, Jcf, gt, st, Jbc, Jba, Jbb, Jb8, Jbi, Ja5, atI0, atI1, atI2, atI3, atI4, ixN20, ixN21, List.map_cons, List.map_nil, List.cons_append, List.nil_append, List.append_nil, List.length_cons, List.length_nil, List.replicate_succ, List.replicate_zero, Nat.add_one_sub_one, Jda, Jbt, Jc0, Jc2, Jby, Jae, Jag, Jah, Jaf, Jb7, Jaw, Jax, Jak, Jav, Jb4, Jau, Jat, Jan, Jam, Jb2, Jai, Jaj, Jb0, Jb1, Jaq, Jb3, Jar, Jas, Jao, Jap, Jb6, Jb5, Ja7, Ja8, Jac, Jab, Ja0, Ja9, Jaa, Jbg, Jbh, Ja6, Jad, Jbd, Jbf, Jbe, Jb9, Ja2, Ja1, Ja4, Ja3, Jay, Jaz, decide_true, decide_false, Bool.not_true, Bool.not_false, Bool.false_eq_true, if_true, if_false, true_and, Jbv, Jbw, get_past hq]
  refine ⟨Nat.zero_le _, eq0_past ?_⟩
  rw [show (ss ++ [s]).isEmpty = false by simp]
  simp only [Jbx, initE, Jcx, Jcj, Jbl, Jbm, Jc3, Jcs, Jct, Jca, Jcp, Jbn, Jcz, Jbo, Jbu, Jdd, Jde, Jdc, Jdf, Jdj, Jdh, Jdi, Jdg, Jc6, Jcc, Jd7, Jd6, Jcb, Jcm, Jd5, Jd4, Jcg, Jbs, Jd3, Jcl, Jbk, Jco, Jc9, Jbj, Jcn, Jck, Jd9, Jd8, Jdb, Jbp, Jci, Jcr, Jc5, Jcy, Jch, Jbq, Jcu, Jd0, Jdk, Jdl, Jcd, Jcv, Jcw, Jc8, Jbr, Jc4, Jbz, Jcf, gt, st, Jbc, Jba, Jbb, Jb8, Jbi, Ja5, atI0, atI1, atI2, atI3, atI4, ixN20, ixN21, List.map_cons, List.map_nil, List.cons_append, List.nil_append, List.append_nil, List.length_cons, List.length_nil, List.replicate_succ, List.replicate_zero, Nat.add_one_sub_one, Jda, Jbt, Jc0, Jc2, Jby, Jae, Jag, Jah, Jaf, Jb7, Jaw, Jax, Jak, Jav, Jb4, Jau, Jat, Jan, Jam, Jb2, Jai, Jaj, Jb0, Jb1, Jaq, Jb3, Jar, Jas, Jao, Jap, Jb6, Jb5, Ja7, Ja8, Jac, Jab, Ja0, Ja9, Jaa, Jbg, Jbh, Ja6, Jad, Jbd, Jbf, Jbe, Jb9, Ja2, Ja1, Ja4, Ja3, Jay, Jaz, decide_true, decide_false, Bool.not_true, Bool.not_false, Bool.false_eq_true, if_true, if_false, true_and]
  rw [get_past hq]
  have e0 : pastD b (ss ++ [s]) = .list ((ptsS b ss).map enB ++ [enB (s, s.act (acts ss b))]) := by
    unfold pastD
    rw [ptsS_snoc, List.map_append]
    rfl
  rw [e0]
  simp only [Jbx, initE, Jcx, Jcj, Jbl, Jbm, Jc3, Jcs, Jct, Jca, Jcp, Jbn, Jcz, Jbo, Jbu, Jdd, Jde, Jdc, Jdf, Jdj, Jdh, Jdi, Jdg, Jc6, Jcc, Jd7, Jd6, Jcb, Jcm, Jd5, Jd4, Jcg, Jbs, Jd3, Jcl, Jbk, Jco, Jc9, Jbj, Jcn, Jck, Jd9, Jd8, Jdb, Jbp, Jci, Jcr, Jc5, Jcy, Jch, Jbq, Jcu, Jd0, Jdk, Jdl, Jcd, Jcv, Jcw, Jc8, Jbr, Jc4, Jbz, Jcf, gt, st, Jbc, Jba, Jbb, Jb8, Jbi, Ja5, atI0, atI1, atI2, atI3, atI4, ixN20, ixN21, List.map_cons, List.map_nil, List.cons_append, List.nil_append, List.append_nil, List.length_cons, List.length_nil, List.replicate_succ, List.replicate_zero, Nat.add_one_sub_one, Jda, Jbt, Jc0, Jc2, Jby, Jae, Jag, Jah, Jaf, Jb7, Jaw, Jax, Jak, Jav, Jb4, Jau, Jat, Jan, Jam, Jb2, Jai, Jaj, Jb0, Jb1, Jaq, Jb3, Jar, Jas, Jao, Jap, Jb6, Jb5, Ja7, Ja8, Jac, Jab, Ja0, Ja9, Jaa, Jbg, Jbh, Ja6, Jad, Jbd, Jbf, Jbe, Jb9, Ja2, Ja1, Ja4, Ja3, Jay, Jaz, decide_true, decide_false, Bool.not_true, Bool.not_false, Bool.false_eq_true, if_true, if_false, true_and, cut_last1]
  have e1 : D.list ((ptsS b ss).map enB) = pastD b ss := rfl
  rw [e1]
  refine put_past hq ?_
  have hp2 : up μ q (modN b ss r) p = some (benN b (ss ++ [s]) h) := by rw [up_ne ne]; exact hp
  have hq3 : up (up μ q (modN b ss r)) p (benN b ss h) q = some (modN b ss r) := by rw [up_ne (Ne.symm ne), up_same]
  rw [ben_is hp2 (by decide)]
  refine ok_Bench_undo hp2 ?_
  refine ok_reprPt hf.1 hf.2 ?_
  simp only [Jbx, initE, Jcx, Jcj, Jbl, Jbm, Jc3, Jcs, Jct, Jca, Jcp, Jbn, Jcz, Jbo, Jbu, Jdd, Jde, Jdc, Jdf, Jdj, Jdh, Jdi, Jdg, Jc6, Jcc, Jd7, Jd6, Jcb, Jcm, Jd5, Jd4, Jcg, Jbs, Jd3, Jcl, Jbk, Jco, Jc9, Jbj, Jcn, Jck, Jd9, Jd8, Jdb, Jbp, Jci, Jcr, Jc5, Jcy, Jch, Jbq, Jcu, Jd0, Jdk, Jdl, Jcd, Jcv, Jcw, Jc8, Jbr, Jc4, Jbz, Jcf, gt, st, Jbc, Jba, Jbb, Jb8, Jbi, Ja5, atI0, atI1, atI2, atI3, atI4, ixN20, ixN21, List.map_cons, List.map_nil, List.cons_append, List.nil_append, List.append_nil, List.length_cons, List.length_nil, List.replicate_succ, List.replicate_zero, Nat.add_one_sub_one, Jda, Jbt, Jc0, Jc2, Jby, Jae, Jag, Jah, Jaf, Jb7, Jaw, Jax, Jak, Jav, Jb4, Jau, Jat, Jan, Jam, Jb2, Jai, Jaj, Jb0, Jb1, Jaq, Jb3, Jar, Jas, Jao, Jap, Jb6, Jb5, Ja7, Ja8, Jac, Jab, Ja0, Ja9, Jaa, Jbg, Jbh, Ja6, Jad, Jbd, Jbf, Jbe, Jb9, Ja2, Ja1, Ja4, Ja3, Jay, Jaz, decide_true, decide_false, Bool.not_true, Bool.not_false, Bool.false_eq_true, if_true, if_false, true_and]
  refine ok_law_now hq3 (ok_reprPt hf.1 hf.2 ?_)
  simp only [Jbx, initE, Jcx, Jcj, Jbl, Jbm, Jc3, Jcs, Jct, Jca, Jcp, Jbn, Jcz, Jbo, Jbu, Jdd, Jde, Jdc, Jdf, Jdj, Jdh, Jdi, Jdg, Jc6, Jcc, Jd7, Jd6, Jcb, Jcm, Jd5, Jd4, Jcg, Jbs, Jd3, Jcl, Jbk, Jco, Jc9, Jbj, Jcn, Jck, Jd9, Jd8, Jdb, Jbp, Jci, Jcr, Jc5, Jcy, Jch, Jbq, Jcu, Jd0, Jdk, Jdl, Jcd, Jcv, Jcw, Jc8, Jbr, Jc4, Jbz, Jcf, gt, st, Jbc, Jba, Jbb, Jb8, Jbi, Ja5, atI0, atI1, atI2, atI3, atI4, ixN20, ixN21, List.map_cons, List.map_nil, List.cons_append, List.nil_append, List.append_nil, List.length_cons, List.length_nil, List.replicate_succ, List.replicate_zero, Nat.add_one_sub_one, Jda, Jbt, Jc0, Jc2, Jby, Jae, Jag, Jah, Jaf, Jb7, Jaw, Jax, Jak, Jav, Jb4, Jau, Jat, Jan, Jam, Jb2, Jai, Jaj, Jb0, Jb1, Jaq, Jb3, Jar, Jas, Jao, Jap, Jb6, Jb5, Ja7, Ja8, Jac, Jab, Ja0, Ja9, Jaa, Jbg, Jbh, Ja6, Jad, Jbd, Jbf, Jbe, Jb9, Ja2, Ja1, Ja4, Ja3, Jay, Jaz, decide_true, decide_false, Bool.not_true, Bool.not_false, Bool.false_eq_true, if_true, if_false, true_and]
  exact ok_bench_shows z.init hn hf up_same hq3 k
theorem degs_app3 : ∀ (a b : List Stp), degs (a ++ b) = degs a * degs b
  | [], b => by simp [degs]
  | s :: a, b => by rw [List.cons_append, degs, degs, degs_app3 a b, Nat.mul_assoc]
/-- all else stays -/
def Fr (p q : Addr) (μ μ' : Mu) : Prop := ∀ a nd, a ≠ p → a ≠ q → μ a = some nd → μ' a = some nd
theorem Fr.refl (p q : Addr) (μ : Mu) : Fr p q μ μ := fun _ _ _ _ h => h
theorem Szs.r27 (z : Szs n b ss r) : r ≤ 27 := by
  have := z.ds
  have := degs_pos ss
  have h3 : (1 : Int) * r ≤ (degs ss : Int) * r := Int.mul_le_mul_of_nonneg_right (by omega) (by have := z.pos; omega)
  omega
theorem len_past : cbLen [pastD b ss] μ QQ X = QQ (.v (.int ss.length)) μ := by
  unfold pastD
  rw [len_sq (d := .list _) rfl, List.length_map, ptsS_len]
theorem Szs.pre (z : Szs n b ss r) (i : Nat) : Szs n b (ss.take i) r := by
  obtain ⟨b0, pre, b1, b2, hl, e, hp, h1⟩ := z.h
  refine ⟨⟨b0, pre, b1, b2, by rw [List.length_take]; omega, e, hp, Int.le_trans (Int.mul_le_mul_of_nonneg_left (Int.mul_le_mul_of_nonneg_right (Int.ofNat_le.mpr ?_) (by have := z.pos; omega)) (by omega)) h1⟩, fun t ht => z.ok t (List.mem_of_mem_take ht), z.pos⟩
  have e := degs_app3 (ss.take i) (ss.drop i)
  rw [List.take_append_drop] at e
  rw [e]
  exact Nat.le_mul_of_pos_right _ (degs_pos _)
end
end DL

set_option Elab.async false
set_option linter.all false
set_option maxRecDepth 100000
set_option maxHeartbeats 4000000
/-! A98: methods, own calls and static methods called by names: o.m(k = v, ..), o(k = v, ..), C.m(k = v, ..). -/
namespace DL
open PySem PySem.Spec PyProof.Rows L2
variable [Gds]
section
variable {X : Cx} {c : Ctx} {W : WX} {k kf ka ko : Nat} {f : Addr} {fd : FuncData} {ps ks : List Str} {s : WP} {js : List Nat} {x m : Str} {p pos apos : Pos} {o : Expr} {kws : List Keyword} {wr : WA} {wo : WE}
end
end DL

set_option Elab.async false
set_option linter.all false
set_option maxRecDepth 100000
set_option maxHeartbeats 4000000
/-! A99: with o: return work(o), where nothing raises; o.tried(work = lambda b: ..). -/
namespace DL
open PySem PySem.Spec PyProof.Rows L2
variable [Gds]
open LamX (lamCx lamEnv LamS GivesTo CodeO ExtN Tabs TabB tLam)
/-! ### with o: return e -/
section
variable {X : Cx}
end
/-! ### a lambda of one parameter, made -/
section
variable {X : Cx} {pins : List (Addr × Obj)} {σ : L2.St} {H : Hp} {s : Shared}
theorem among_pre {pos : Pos} {cv : Value} (l m : List Value) (h : TriplesOk l) (hc : codeAmong pos l = some cv) : codeAmong pos (l ++ m) = some cv := by
  fun_induction TriplesOk l with
  | case1 =>
    simp [codeAmong] at hc
  | case2 a t b u x rest ih =>
    simp only [List.cons_append, codeAmong] at hc ⊢
    split at hc
    · rename_i q
      rw [if_pos q]
      exact hc
    · rename_i q
      rw [if_neg q]
      exact ih h hc
  | case3 l h1 h2 => exact h.elim
/-- the made lambda, and where its code object is told -/
theorem lam_make3 {T : List (Addr × Str)} {c P : Addr} {params : Arguments} {body : Expr} {scope : Scope} {pos : Pos} {E : Value → Shared → Prop} {Q : Value → Shared → Prop} (J : Inv X pins σ H s) (TB : TabB X.base X.mg c P) (hcode : X.env.code = .ref c)
    (hm : (P, X.env.qual ++ "<lambda>") ∈ T) (hu : ∀ p ∈ T, p.1 = P → p.2 = X.env.qual ++ "<lambda>") (hT : Tabs T H) (hdef : defaultsOf params X.env = ([], [])) (hfree : ∀ y ∈ scope.names, y.2 = .free → ∃ c, X.env.cells.lookup y.1 = some c)
    (h : ∀ (f c' : Addr) (pm ctv : Value) (qs : Array Value) (H1 : Hp) (s' : Shared), Inv X pins σ H1 s' → ExtN H H1 → Tabs T H1 → H1 P = some (.tbl qs) → TriplesOk qs.toList → codeAmong pos qs.toList = some (.ref c') →
      s'.heap.get? f = some (PySem.W.kla_obj "<lambda>" (X.env.qual ++ "<lambda>") params body scope (cloFrom X.env.cells scope.names []) pm c' ctv) → H1 f = none → f ∉ frs X.stack → Q (.ref f) s') :
    wpAny (model X.prog X.w) X.A (eval (.Lambda params body scope pos) X.env) Q E s := by
  obtain ⟨ps, hP, ht, ha⟩ := hT _ hm
  have bP : s.heap.BuiltinsAt X.mg P := TB.bm.keeps J.bk
  have hP' : s.heap.get? P = some { cls := .none, data := .fields ps } := J.hok P _ hP
  have nofr : ∀ f, s.heap.objs.size ≤ f → f ∉ frs X.stack := fun f hf z => by
    rcases List.mem_cons.mp (J.stkSub _ z) with e | e
    · have h1 := J.lt
      rw [← e] at h1
      exact absurd hf (Nat.not_le.mpr h1)
    · exact J.nofs hf e
  refine PySem.W.kla_eval hdef ?_
  cases hc : codeAmong pos ps.toList with
  | some cv =>
    obtain ⟨c', rfl, hco⟩ := ha pos cv hc
    refine PySem.W.kla_makeFunctionHit (mg := X.mg) (c := c) (P := P) (ps := ps) (closure_ok hfree) J.ok.glob (J.mod.glob.keeps J.bk) hcode (TB.code.keeps J.bk) hP' ht hc bP fun ctv h' tk hx hsz => ?_
    exact h h'.objs.size c' ((X.mg "__name__").getD .none) ctv ps H _ (J.kept fun b o e => Heap.get?_push_of_some _ (hx b o e)) (ExtN.refl H) hT hP ht hc (Heap.get?_push_size _ rfl) (J.hok.fresh hsz) (nofr _ hsz)
  | none =>
    refine PySem.W.kla_makeFunction (mg := X.mg) (c := c) (P := P) (ps := ps) (closure_ok hfree) J.ok.glob (J.mod.glob.keeps J.bk) hcode (TB.code.keeps J.bk) hP' ht hc TB.gP bP fun c' ctv h' tk hx hge hlt hrec htb => ?_
    obtain ⟨c2, oc, vs, t, e2, hoc, hd, hv⟩ := hrec
    obtain rfl : c' = c2 := by cases e2; rfl
    have hsz : s.heap.objs.size ≤ h'.objs.size := Nat.le_trans hge (Nat.le_of_lt hlt)
    have nC : H c' = none := J.hok.fresh hge
    have I1 := LamX.inv_table (t' := tk) (more := #[rawInt pos.line, rawInt pos.col, .ref c']) (h' := h'.push (PySem.W.kla_obj "<lambda>" (X.env.qual ++ "<lambda>") params body scope (cloFrom X.env.cells scope.names []) ((X.mg "__name__").getD .none) c' ctv)) J hP
      (fun b o hb e => Heap.get?_push_of_some _ (hx b o hb e)) (Heap.get?_push_of_some _ htb) hge ⟨oc, vs, t, Heap.get?_push_of_some _ hoc, hd, hv⟩
    have hE : ExtN H (upd (upd H P (.tbl (ps ++ #[rawInt pos.line, rawInt pos.col, .ref c']))) c' (CodeO c' (X.env.qual ++ "<lambda>"))) := fun b o e n => by
      rw [upd_ne (ne_of_none e nC), upd_ne (fun z => n ps (Option.some.inj (e.symm.trans (by rw [z]; exact hP))))]
      exact e
    have eL : (ps ++ #[rawInt pos.line, rawInt pos.col, .ref c']).toList = ps.toList ++ [rawInt pos.line, rawInt pos.col, .ref c'] := by simp
    have hP1 : upd (upd H P (.tbl (ps ++ #[rawInt pos.line, rawInt pos.col, .ref c']))) c' (CodeO c' (X.env.qual ++ "<lambda>")) P = some (.tbl (ps ++ #[rawInt pos.line, rawInt pos.col, .ref c'])) := by
      rw [upd_ne (ne_of_none hP nC), upd_same]
    refine h h'.objs.size c' ((X.mg "__name__").getD .none) ctv _ _ _ I1 hE (fun p hp => ?_) hP1 (by rw [eL]; exact PySem.TriplesOk_snoc _ _ _ _ ht) (by rw [eL]; exact codeAmong_snoc _ ht hc) (Heap.get?_push_size _ rfl) ?_ (nofr _ hsz)
    · by_cases hb : p.1 = P
      · rw [hu p hp hb, hb]
        refine ⟨_, hP1, by rw [eL]; exact PySem.TriplesOk_snoc _ _ _ _ ht, fun p' cv hcv => ?_⟩
        rw [eL] at hcv
        rcases LamX.among_app _ ht hcv with z | z
        · obtain ⟨c0, e1, e2⟩ := ha p' cv z
          exact ⟨c0, e1, hE _ _ e2 LamX.codeO_ne⟩
        · exact ⟨c', z, upd_same⟩
      · obtain ⟨qs, a1, a2, a3⟩ := hT p hp
        refine ⟨qs, by rw [upd_ne (ne_of_none a1 nC), upd_ne hb]; exact a1, a2, fun p' cv hcv => ?_⟩
        obtain ⟨c0, e1, e2⟩ := a3 p' cv hcv
        exact ⟨c0, e1, hE _ _ e2 LamX.codeO_ne⟩
    · have n1 : h'.objs.size ≠ c' := Nat.ne_of_gt hlt
      have n2 : h'.objs.size ≠ P := Nat.ne_of_gt (Nat.lt_of_lt_of_le (Heap.lt_size hP') hsz)
      rw [upd_ne n1, upd_ne n2]
      exact J.hok.fresh hsz
end
end DL

set_option Elab.async false
set_option linter.all false
set_option maxRecDepth 100000
set_option maxHeartbeats 4000000
/-! A100: o.tried(work = lambda b: ..) where nothing raises. -/
namespace DL
open PySem PySem.Spec PyProof.Rows L2
variable [Gds]
open LamX (ExtN Tabs TabB)
theorem spw_mono {c : Ctx} {s : WP} {k : Nat} {vs : List V} {H : Hp} {Q Q' : VK} {E : XK} (h : SpW c s k vs H Q E) (i : ∀ v H', Q v H' → Q' v H') : SpW c s k vs H Q' E := by
  obtain ⟨S, F, n, I, μ, ds, Qd, Xd, h1, h2, h3, h4, q, x⟩ := h
  exact ⟨S, F, n, I, μ, ds, Qd, Xd, h1, h2, h3, h4, fun d μ' v I' H' p s w r => i _ _ (q d μ' v I' H' p s w r), x⟩
section
variable {X : Cx} {c : Ctx} {W : WX} {ko ke kl kx : Nat} {se sx : WP} {wl wo : WE}
end
end DL

set_option Elab.async false
set_option linter.all false
set_option maxRecDepth 100000
set_option maxHeartbeats 4000000
namespace DL
open PySem PySem.Spec PyProof.Rows L2
variable [Gds]
section
variable {prog : Program} {w : World} {A : Around} {E : Value → Shared → Prop} {s : Shared} {env : Env} {K : PySem.W.Frag} {x C fe fx : Addr} {ox : Obj} {od : Option Obj} {pos : Pos}
/-- with's end, when an error left its body -/
def WithOn (prog : Program) (w : World) (A : Around) (E : Value → Shared → Prop) (fx x : Addr) (env : Env) (Q : Flow → Shared → Prop) (e : Value) (s : Shared) : Prop :=
  wpAny (model prog w) A (typeOf e) (fun t s7 => wpAny (model prog w) A (tracebackOf e) (fun tb s8 => e ≠ byPass ∧ codeAny (model prog w) (A.mark (some e)) (.call (.ref fx) ⟨[.ref x, t, e, tb], []⟩) (fun r s9 => match r with
    | .ok (.ret v) => v = .none ∧ wpAny (model prog w) A (passOn "with" e env : Sem Flow) Q E s9
    | _ => False) s8) E s7) E s
theorem kw_coreX {bdy : Sem Flow} {Q : Flow → Shared → Prop} (X : K.In s.heap) (I : PySem.W.InstAt s.heap x ox C od) (he : PySem.W.findIn K (.ref C) "__enter__" = some (some (.ref fe))) (hfe : PySem.W.isFn K (.ref fe) = true) (hx : PySem.W.findIn K (.ref C) "__exit__" = some (some (.ref fx))) (hfx : PySem.W.isFn K (.ref fx) = true)
    (h : wpAny (model prog w) A (call (.ref fe) [.ref x]) (fun v s₂ => wpAny (model prog w) A bdy (fun f s₄ => wpAny (model prog w) A (call (.ref fx) [.ref x, .none, .none, .none]) (fun _ s₅ => Q f s₅) E s₄) (fun e s4 => wpAny (model prog w) A (noteFrame e env) (fun _ s5 => wpAny (model prog w) A (setFlight e none) (fun _ s6 => WithOn prog w A E fx x env Q e s6) E s5) E s4) s₂) E s) :
    wpAny (model prog w) A (withItem false pos env (pure (.ref x)) none bdy) Q E s := by
  obtain ⟨cd, hcd, ae⟩ := PySem.W.kw_along he
  obtain ⟨cd', hcd', ax⟩ := PySem.W.kw_along hx
  cases hcd.symm.trans hcd'
  obtain ⟨hh, g, d, tt, os⟩ := s
  have L1 : PySem.W.Looks (model prog w) hh (specialOnItsLine (.ref x) "__enter__") (some (.ref fe), cd.mro) := PySem.W.kw_special X I hcd ae
  have L2 : PySem.W.Looks (model prog w) hh (specialOnItsLine (.ref x) "__exit__") (some (.ref fx), cd.mro) := PySem.W.kw_special X I hcd ax
  have L3 : PySem.W.Looks (model prog w) hh (bindSpecial (.ref fe) (.ref x)) (.ref fe, [.ref x]) := PySem.W.bind_fn X _ (beq_iff_eq.mp hfe)
  have L4 : PySem.W.Looks (model prog w) hh (bindSpecial (.ref fx) (.ref x)) (.ref fx, [.ref x]) := PySem.W.bind_fn X _ (beq_iff_eq.mp hfx)
  have L5 : PySem.W.Looks (model prog w) hh (aMethodOfAnotherBuiltinTypeStops (.ref fe) cd.mro) () := PySem.W.Looks.of_pure rfl
  have L6 : PySem.W.Looks (model prog w) hh (aMethodOfAnotherBuiltinTypeStops (.ref fx) cd.mro) () := PySem.W.Looks.of_pure rfl
  unfold withItem
  refine wpAny_bind (wpAny_pure ?_)
  refine wpAny_bind (wpAny_standAt ?_)
  simp only [Bool.false_eq_true, if_false]
  kw_lk
  refine wpAny_mono h (fun v s₂ h₂ => ?_) fun _ _ z => z
  kw_lk
  refine wpAny_attempt (PySem.W.kw_held ?_)
  show wpAny _ _ bdy _ _ _
  refine wpAny_mono h₂ (fun f s₄ h₄ => ?_) fun e s4 h4 => ?_
  · kw_lk
    refine wpAny_mono h₄ (fun _ s₅ h₅ => ?_) fun _ _ z => z
    kw_lk
    exact h₅
  · refine wpAny_bind (wpAny_mono h4 (fun _ s5 h5 => wpAny_bind (wpAny_mono h5 (fun _ s6 h6 => wpAny_bind (wpAny_standAt (wpAny_holding ?_))) fun _ _ z => z)) fun _ _ z => z)
    unfold WithOn at h6
    refine wpAny_bind (wpAny_mono h6 (fun t s7 h7 => wpAny_bind (wpAny_mono h7 (fun tb s8 ⟨hnb, h8⟩ => wpAny_bind ?_) fun _ _ z => z)) fun _ _ z => z)
    unfold withItem.marked
    refine wpAny_bind (wpAny_run (codeAny_mono h8 (fun r s9 z => ?_)) fun q => hnb (Option.some.inj q))
    match r, z with
    | .ok (.ret v), ⟨e9, z⟩ =>
      subst e9
      exact wpAny_pure (wpAny_bind (wpAny_pure (wpAny_bind (wpAny_pure z))))
    | .ok .next, z => exact z.elim
    | .ok .brk, z => exact z.elim
    | .ok .cont, z => exact z.elim
    | .error _, z => exact z.elim
end
section
variable {P : Program} {w : PySem.World} {K : PySem.W.Frag} {mg : Str → Option Value} {base : Heap}
/-- a def runs while an error is handled, of which it knows no more than that it stands -/
theorem hot_runs {CX : CXT} {f : Addr} {nm qual : Str} {ps N : List Str} {pg : Arguments} {bg : List Stmt} {sg : Scope} {dvg : List V} {kwg : List (Str × V)} {fd : FuncData} {A : Around} {outer : List Env} {s : Shared} {H : Hp} {p : Addr × Obj} {us : List Value} {vs : List V} {Q : VK} {E : XK}
    (F : FunD K nm qual pg bg sg dvg kwg f fd) (Sg : FnScope N ps sg) (bi : Binds K fd ps []) (dp : A.depth < recursionLimit) (pin : L2H.PinOk outer H s p) (e0 : Env0 P w K mg base A outer s H) (rv : Vals vs us) (hl : vs.length = ps.length)
    (hb : ∀ cdv : Value, ∃ t, PSs (L2H.cxH CX P w K mg base N qual sg f cdv A outer s H E p) bg t ∧ t { nx := fun _ H' => Q .non H', rt := Q } (L2.start N vs) H) :
    codeAny (model P w) A (.call (.ref f) ⟨us, []⟩) (CR CX outer P w H s Q E) s := by
  obtain ⟨oc, od, dV, kV, doc, pm, an, cdv, ct, osl, rfl, lk, hcd, _, _⟩ := F.ex
  have kin : K.In s.heap := e0.mod.kin.keeps fun b o z => (e0.bs b o z).1
  have free : s.heap.NoLimit := e0.mod.nolimit.keeps fun b o z => (e0.bs b o z).1
  have kinds : ∀ y ∈ ps.zip us, sg.names.lookup y.1 = some .local ∨ (sg.names.lookup y.1 = some .cell ∧ ((cellsFrom (s.heap.objs.size + 1) sg.names []).lookup y.1).isSome = true) := by
    rintro ⟨y, v⟩ hy
    rcases Sg.par y (List.of_mem_zip hy).1 with q | q
    · exact .inl q
    · exact .inr ⟨q, PySem.W.cellsFrom_some _ _ _ (.inl q)⟩
  obtain ⟨t, ht, hq⟩ := hb cdv
  have bb := bi s us kin (by rw [List.append_nil, ← rv.length]; exact hl)
  rw [List.append_nil] at bb
  refine codeAny_call_function dp (kin _ _ lk) rfl Sg.co Sg.gen rfl (PySem.W.codeRec_of kin hcd) (bb _ _ _ _ ?_)
  refine wpAny_newFunctionEnv_cells Sg.kind kinds fun env he s1 x => ?_
  subst he
  have J : Inv (L2H.cxH CX P w K mg base N qual sg f cdv A outer s H E p) [] (L2.start N vs) H s1 := L2H.inv_startH Sg pin e0 hl rv x
  refine ⟨free.keeps x.toInCall.keep, codeAny_func (wpAny_mono (ht.run [] s1 _ H _ J hq) (fun fl s2 h2 => ?_) fun _ _ z => z)⟩
  match fl, h2 with
  | .ret u, ⟨v, _, H', J2, r2, q⟩ => exact ⟨v, H', J2.os, J2.bare, J2.base, J2.hok, r2, q⟩
  | .next, ⟨_, H', J2, q⟩ => exact ⟨.non, H', J2.os, J2.bare, J2.base, J2.hok, rfl, q⟩
  | .brk, ⟨_, _, _, q⟩ => exact False.elim q
  | .cont, ⟨_, _, _, q⟩ => exact False.elim q
end

section
variable {X : Cx} {pins : List (Addr × Obj)} {σ : L2.St} {H : Hp} {g x : Addr} {sp : L2.Sp} {Wo : WX} {u : Value} {sx : Shared} {D : Ends}
/-- what a def promises while an error is handled -/
def HotSp (X : Cx) (g : Addr) (sp : L2.Sp) : Prop := ∀ (A : Around) (l : List Env) (s : Shared) (G : Hp) (p : Addr × Obj) (us : List Value) (vs : List V) (Q : VK), A.depth < recursionLimit → L2H.PinOk l G s p → Env0 X.prog X.w X.K X.mg X.base A l s G → Vals vs us → sp vs G Q (fun _ _ _ => False) →
  codeAny (model X.prog X.w) A (.call (.ref g) ⟨us, []⟩) (CR C8.CX0 l X.prog X.w G s Q C8.E0) s
/-- what is wished of an error that leaves with's body: __exit__ runs, and on it goes -/
def wLeft (sp : L2.Sp) (x : Addr) (Wo : WX) : WX := fun cls d σ G => ∀ vk a vt, RelV vk cls → G a = none → (vt = .non ∨ ∃ T, vt = .ref T ∧ G T = none) → sp [.ref x, vk, .ref a, vt] G (fun v G2 => v = .non ∧ Wo cls d σ G2) fun _ _ _ => False
/-- the class of an error, as a value -/
def clsV : Value → V
  | .ref a => .ref a
  | .type n => .ty n
  | _ => .non
def IsCls (v : Value) : Prop := RelV (clsV v) v
theorem with_left (e1 : X.stack = X.env :: X.outer) (e2 : X.env.frame = some X.env.locals) (e3 : X.ex = []) (ok : X.Ok) (tk : Takes X Wo) (dp : X.A.depth < recursionLimit) (hot : HotSp X g sp)
    (air : XE (X.tr (X.pn ++ pins) (fun e t => wpAny (model X.prog X.w) X.A (noteFrame e X.env) (fun _ t2 => wpAny (model X.prog X.w) X.A (setFlight e none) (fun _ t3 => WithOn X.prog X.w X.A X.xe g x X.env (SP X pins D) e t3) X.xe t2) X.xe t)) (fun cls d σ G => IsCls cls ∧ wLeft sp x Wo cls d σ G) u sx) :
    wpAny (model X.prog X.w) X.A (noteFrame u X.env) (fun _ t2 => wpAny (model X.prog X.w) X.A (setFlight u none) (fun _ t3 => WithOn X.prog X.w X.A X.xe g x X.env (SP X pins D) u t3) X.xe t2) X.xe sx := by
  have allf : X.A.frames = some (X.env :: X.outer) := by rw [ok.frames, e1]
  obtain ⟨a, B, sI, pn1, σ1, G1, cls, d, rfl, I0, gnd, upI, sky, fa1, os1, ag1, isc, wl⟩ := air
  have I1 : Inv X pins σ1 G1 sI := I0.ofTry ok
  have sky1 : Sky B (X.env :: X.outer) a (Zc cls d) X.env.locals sx.heap := by
    rw [← e1]
    exact sky
  refine Sky.land Zc.steady allf e2 sky1 fun h3 fly up3 => ?_
  have I3 : Inv X pins σ1 G1 { sx with heap := h3 } := I1.landed gnd fly.1 (upI.trans up3) os1 ag1
  obtain ⟨q1, q2, q3, oe, vs, T, oT, ts, ga3, za, da, va1, bT, neT, gT3, dT, ft3⟩ := id fly
  have fT1 : G1 T = none := (I1.inGround gnd).gone bT
  have out : ∀ (b : Addr) (o : Obj) (w : Array Value), h3.get? b = some o → o.data = .fields w → b ∉ frs (X.env :: X.outer) := fun b o w hb hw hm => by
    obtain ⟨_, o2, hb2, hno⟩ := q3.mem hm
    rw [hb] at hb2
    cases hb2
    exact hno _ hw
  have atL : X.env.locals ∈ frs (X.env :: X.outer) := List.mem_filterMap.mpr ⟨X.env, List.mem_cons_self, e2⟩
  have inO : ∀ b ∈ X.fs, b ∈ frs (X.env :: X.outer) := fun b hb => by
    obtain ⟨v, hv, z⟩ := List.mem_filterMap.mp hb
    exact List.mem_filterMap.mpr ⟨v, List.mem_cons_of_mem _ hv, z⟩
  have oa := out a oe vs ga3 da
  have oT' := out T oT ts gT3 dT
  have pinned : ∀ {b : Addr} {o : Obj} {w : Array Value}, h3.get? b = some o → o.data = .fields w → G1 b = none → b ∉ frs (X.env :: X.outer) → h3.get? b = some o ∧ G1 b = none ∧ b ≠ X.env.locals ∧ b ∉ X.fs ∧ ∀ v, o.data ≠ .cell v := fun {b o w} h1 h2 h3 h4 =>
    ⟨h1, h3, fun z => h4 (z ▸ atL), fun z => h4 (inO b z), fun v z => by rw [h2] at z; cases z⟩
  have S3 : Inv (X.suite a ((a, oe) :: (T, oT) :: (X.pn ++ pins))) [] σ1 G1 { sx with heap := h3 } :=
    ⟨I3.ok.suite _ _, I3.os, I3.bare, I3.base, I3.loc, I3.cell, I3.free, I3.freeC, fun p hp => by
      rw [List.append_nil] at hp
      rcases List.mem_cons.mp hp with rfl | hp
      · exact pinned ga3 da fa1 oa
      rcases List.mem_cons.mp hp with rfl | hp
      · exact pinned gT3 dT fT1 oT'
      · exact I3.pin p hp, I3.hok, I3.len⟩
  unfold WithOn
  refine wpAny_typeOf_ref ga3 ?_
  rw [za.1]
  -- the traceback
  have tb : ∀ {R : Value → Shared → Prop}, (∀ vt w, RelV vt w → (vt = .non ∨ vt = .ref T) → R w { sx with heap := h3 }) → wpAny (model X.prog X.w) X.A (tracebackOf (.ref a)) R X.xe { sx with heap := h3 } := fun {R} hR => by
    have lt : 1 < ts.size := by
      have := (Array.getElem?_eq_some_iff.mp ft3).1
      omega
    unfold tracebackOf
    refine wpAny_bind (wpAny_field ga3 da va1 (wpAny_bind (wpAny_field gT3 dT (Array.getElem?_eq_some_iff.mpr ⟨lt, rfl⟩) ?_)))
    split
    · exact wpAny_pure (hR .non _ rfl (.inl rfl))
    · exact wpAny_pure (hR (.ref T) _ rfl (.inr rfl))
  refine tb fun vt w rw' hvt => ⟨ref_ne_byPass a, ?_⟩
  have spH := wl (clsV cls) a vt isc fa1 (hvt.imp id fun z => ⟨T, z, fT1⟩)
  have pa := S3.pin (a, oe) (List.mem_append_left _ List.mem_cons_self)
  have pin : L2H.PinOk (X.suite a ((a, oe) :: (T, oT) :: (X.pn ++ pins))).stack G1 { sx with heap := h3 } (a, oe) := ⟨pa.1, pa.2.1, fun hx => (List.mem_cons.mp (S3.stkSub a hx)).elim pa.2.2.1 pa.2.2.2.1, pa.2.2.2.2⟩
  refine codeAny_mono (hot (X.A.mark (some (.ref a))) X.stack _ G1 (a, oe) [.ref x, cls, .ref a, w] [.ref x, clsV cls, .ref a, vt] _ dp pin S3.env0 (.cons rfl (.cons isc (.cons rfl (.cons rw' .nil)))) spH) fun r t9 z => ?_
  match r, z with
  | .error e, z => exact (show False from z).elim
  | .ok .next, z => exact False.elim z
  | .ok .brk, z => exact False.elim z
  | .ok .cont, z => exact False.elim z
  | .ok (.ret v), z =>
    obtain ⟨v9, G9, S9, r9, rfl, q9⟩ := S3.after z
    refine ⟨r9, ?_⟩
    have I9 : Inv X pins σ1 G9 t9 := ⟨ok, S9.os, S9.bare, S9.base, S9.loc, S9.cell, S9.free, S9.freeC, fun p hp => S9.pin p (List.mem_append_left _ (List.mem_cons_of_mem _ (List.mem_cons_of_mem _ hp))), S9.hok, S9.len⟩
    obtain ⟨ga9, fa9, _⟩ := S9.pin (a, oe) (List.mem_append_left _ List.mem_cons_self)
    obtain ⟨gT9, fT9, _⟩ := S9.pin (T, oT) (List.mem_append_left _ (List.mem_cons_of_mem _ List.mem_cons_self))
    -- what stood ahead is none of the error's two things
    have two : ∀ b o, sI.heap.get? b = some o → ¬ (b = a ∨ b = T) := fun b o hb z => by
      by_cases hm : b ∈ frs X.stack
      · rw [e1] at hm
        rcases z with rfl | rfl
        · exact oa hm
        · exact oT' hm
      · have := gnd b o hb hm
        rcases z with rfl | rfl
        · rw [q2] at this
          cases this
        · rw [bT] at this
          cases this
    have far : ∀ b o, sI.heap.get? b = some o → b ≠ a ∧ b ≠ T := fun b o hb => ⟨fun z => two b o hb (.inl z), fun z => two b o hb (.inr z)⟩
    obtain ⟨Y, y1, y2⟩ := restrict t9.heap fun b => decide (b ≠ a ∧ b ≠ T)
    have yOf : ∀ b o, b ≠ a → b ≠ T → t9.heap.get? b = some o → Y.get? b = some o := fun b o h1 h2 hb => (y1 b (decide_eq_true ⟨h1, h2⟩)).trans hb
    have yIn : ∀ b o, Y.get? b = some o → t9.heap.get? b = some o ∧ b ≠ a ∧ b ≠ T := fun b o hb => by
      by_cases h : b ≠ a ∧ b ≠ T
      · exact ⟨(y1 b (decide_eq_true h)).symm.trans hb, h⟩
      · rw [y2 b (decide_eq_false h)] at hb
        cases hb
    have IY : Inv X pins σ1 G9 { t9 with heap := Y } := I9.less (fun b o hb => (yIn b o hb).1) yOf ⟨oe, vs, ga9, da⟩ ⟨oT, ts, gT9, dT⟩ fa9 fT9 (fun b o hb => by
      obtain ⟨o2, hb2⟩ := I1.base.there b o hb (by rw [e3]; exact List.not_mem_nil)
      exact far b o2 hb2) fun p hp => far p.1 p.2 (I1.pin p hp).1
    have gone : ∀ b, ¬ (b ≠ a ∧ b ≠ T) → (PySem.W.hideAll Y (frs X.stack)).get? b = none := fun b h => by
      cases q : (PySem.W.hideAll Y (frs X.stack)).get? b with
      | none => rfl
      | some o => exact absurd (yIn b o (PySem.W.of_hideAll _ q)).2 h
    have fly9 : HandSPX.FlyingZ (PySem.W.hideAll Y (frs X.stack)) (X.env :: X.outer) a (Zc cls d) t9.heap := by
      refine ⟨fun b o hb => (yIn b o (PySem.W.of_hideAll _ hb)).1, gone a fun z => z.1 rfl, ?_, oe, vs, T, oT, ts, ga9, za, da, va1, gone T fun z => z.2 rfl, neT, gT9, dT, ft3⟩
      rw [← e1]
      exact funFrames_none I9.stack fun b hb => PySem.W.hideAll_none _ hb
    have on : wpAny (model X.prog X.w) X.A (setFlight (.ref a) X.env.frame) (fun _ t => wpAny (model X.prog X.w) X.A (throw (.ref a) : Sem Flow) (SP X pins D) X.xe t) X.xe t9 := by
      rw [e2]
      refine HandSPX.setFlight_upZ fly9 fun h7 held up7 => wpAny_throw (tk _ _ ⟨a, _, { t9 with heap := Y }, pins, σ1, G9, cls, d, rfl, IY, fun b o hb hm => PySem.W.hideAll_get _ hb hm, (Heap.UpToSlots.of_keeps fun b o hb => (yIn b o hb).1).trans up7, .inr (.inr ?_), fa9, rfl, I9.bare, q9⟩)
      rw [e1] at held ⊢
      exact held
    unfold PySem.passOn
    refine wpAny_bind (wpAny_field ga9 da va1 ?_)
    rw [if_neg (by simp)]
    first
      | exact wpAny_bind (wpAny_pure (wpAny_bind on))
      | exact wpAny_bind on
end

section
variable {X : Cx}
/-- with a: return e, where e may raise -/
def tWithX (C : Addr) (i : Nat) (spe spx : L2.Sp) (te : WX → TE) (Wo : WX) : TS := fun D σ H => ∃ x dx fs, σ[i]? = some (some (.ref x)) ∧ H x = some (.ins C dx fs) ∧ spe [.ref x] H (fun _ H1 => te (fun cls d σ' G => IsCls cls ∧ wLeft spx x Wo cls d σ' G) σ H1 (fun v H2 => spx [.ref x, .non, .non, .non] H2 (fun _ H3 => D.rt v H3) fun _ _ _ => False)) fun _ _ _ => False
theorem ps_withX {C fe fx : Addr} {i ke kx : Nat} {a : Str} {fde fdx : FuncData} {pse psx : List Str} {spe spx : L2.Sp} {ex : Expr} {te : WX → TE} {Wo : WX} {p0 rp wp : Pos} (e1 : X.stack = X.env :: X.outer) (e2 : X.env.frame = some X.env.locals) (e3 : X.ex = []) (tk : Takes X Wo)
    (Fe : FnW X.prog X.w X.K X.mg X.base ke fe fde pse spe) (Fx : FnW X.prog X.w X.K X.mg X.base kx fx fdx psx spx) (hot : HotSp X fx spx)
    (be : Binds X.K fde pse []) (bx : Binds X.K fdx psx []) (me : Meth X.K C "__enter__" fe) (mx : Meth X.K C "__exit__" fx) (gd : Gds.ok X.A) (re : Room ke X.A) (rx : Room kx X.A)
    (hN : X.N[i]? = some a) (hv : Vis X.env.scope a) (hex : ∀ (W : WX) (pn : List (Addr × Obj)) (xe : Value → Shared → Prop), Takes (X.tr pn xe) W → PE (X.tr pn xe) ex (te W)) (hd : (a == ("__debug__" : Str)) = false := by decide) (hcd : (a == ("__classdict__" : Str)) = false := by decide) :
    PS X (.With [⟨.Name a p0, none⟩] [.Return (some ex) rp] wp) (tWithX C i spe spx te Wo) := by
  refine ⟨fun pins s σ H D J ⟨x, dx, fs, q1, q2, h⟩ => ?_⟩
  have ok := J.ok
  refine PySem.W.kw_exec0 (thn ((pe_var (pos := p0) (i := i) hN hv hd hcd).run pins s σ H (fun v H1 => v = .ref x ∧ H1 = H) J ⟨.ref x, q1, rfl, rfl⟩) fun u t1 ⟨v, H1, J1, r1, ev, eH⟩ => ?_)
  subst ev
  rw [eH] at J1
  obtain rfl : u = Value.ref x := r1
  obtain ⟨mA, O, _⟩ := ins_get J1.hok q2
  obtain ⟨od, Jx, _⟩ := O.look
  unfold PySem.W.KwIn
  refine kw_coreX J1.kIn Jx me.at_ me.fn mx.at_ mx.fn ?_
  refine wpAny_mono (run_fnW (us := [.ref x]) (vs := [.ref x]) (dvs := []) (W := fun _ _ _ _ => False) Fe gd re be .nil LamX.takes0 J1 (.cons rfl .nil) h) (fun v2 s2 ⟨w2, H2, J2, r2, q2⟩ => ?_) (fun _ _ z => z)
  refine wpAny_mono ((pss_one (ps_ret (pos := rp) (hex _ (X.pn ++ pins) (fun e t => wpAny (model X.prog X.w) X.A (noteFrame e X.env) (fun _ t2 => wpAny (model X.prog X.w) X.A (setFlight e none) (fun _ t3 => WithOn X.prog X.w X.A X.xe fx x X.env (SP X pins D) e t3) X.xe t2) X.xe t) fun u sx air => ?_))).run [] s2 σ H2 { nx := fun _ _ => False, rt := fun v H2 => spx [.ref x, .non, .non, .non] H2 (fun _ H3 => D.rt v H3) fun _ _ _ => False, bk := fun _ _ => False, ct := fun _ _ => False } (J2.toTry _) q2) (fun fl s3 q3 => ?_) fun e s3 q3 => q3
  · exact with_left e1 e2 e3 ok tk re.depth hot air
  match fl, q3 with
  | .next, q3 => exact (q3.elim fun _ z => z.elim fun _ z => z.2).elim
  | .brk, q3 => exact (q3.elim fun _ z => z.elim fun _ z => z.2).elim
  | .cont, q3 => exact (q3.elim fun _ z => z.elim fun _ z => z.2).elim
  | .ret u3, q3 =>
    obtain ⟨v3, σ3, H3, J3, r3, q3⟩ := q3
    refine wpAny_mono (run_fnW (us := [.ref x, .none, .none, .none]) (vs := [.ref x, .non, .non, .non]) (dvs := []) (W := fun _ _ _ _ => False) Fx gd rx bx .nil LamX.takes0 (J3.ofTry ok) (.cons rfl (.cons rfl (.cons rfl (.cons rfl .nil)))) q3) (fun v4 s4 ⟨w4, H4, J4, r4, q4⟩ => ?_) (fun _ _ z => z)
    exact ⟨v3, σ3, H4, J4, r3, q4⟩
end
end DL

set_option Elab.async false
set_option linter.all false
set_option maxRecDepth 100000
set_option maxHeartbeats 4000000
/-! A102: o.tried(lambda b: ..), o.tried(f), where the work may raise. -/
namespace DL
open PySem PySem.Spec PyProof.Rows L2
variable [Gds]
open LamX (lamCx lamEnv ExtN Tabs TabB CodeO)
/-! ### a lambda of one parameter and captured names -/
structure Lam1S (sc scope : Scope) (b : Str) : Prop where
  kind : scope.kind = .function
  co : scope.isCoroutine = false
  gen : scope.isGenerator = false
  par : scope.names.lookup b = some .local
  own : ∀ y ∈ scope.names, y.2 ≠ .cell ∧ (y.2 = .local → y.1 = b)
  free : ∀ y ∈ scope.names, y.2 = .free → sc.names.lookup y.1 = some .cell ∨ sc.names.lookup y.1 = some .free
def lam1B (sc scope : Scope) (b : Str) : Bool :=
  decide (scope.kind = .function) && !scope.isCoroutine && !scope.isGenerator && decide (scope.names.lookup b = some .local) && scope.names.all fun y => decide (y.2 ≠ .cell) && (decide (y.2 ≠ .local) || decide (y.1 = b)) && (decide (y.2 ≠ .free) || decide (sc.names.lookup y.1 = some .cell) || decide (sc.names.lookup y.1 = some .free))
theorem lam1_by {sc scope : Scope} {b : Str} (h : lam1B sc scope b = true) : Lam1S sc scope b := by
  unfold lam1B at h
  simp only [Bool.and_eq_true, Bool.not_eq_true', decide_eq_true_eq, List.all_eq_true] at h
  obtain ⟨⟨⟨⟨k1, k2⟩, k3⟩, k4⟩, k5⟩ := h
  refine ⟨k1, k2, k3, k4, fun y hy => ⟨(k5 y hy).1.1, fun e => ?_⟩, fun y hy e => ?_⟩
  · have := (k5 y hy).1.2
    simp only [Bool.or_eq_true, decide_eq_true_eq] at this
    exact this.resolve_left fun z => z e
  · have := (k5 y hy).2
    simp only [Bool.or_eq_true, decide_eq_true_eq] at this
    rcases this with (z | z) | z
    · exact absurd e z
    · exact .inl z
    · exact .inr z
/-- the context of such a lambda's body: its own name first, then those of the frame around -/
def lam1Cx (X : Cx) (A : Around) (outer : List Env) (s : Shared) (H : Hp) (E : XK) (scope : Scope) (f c' : Addr) (b : Str) : Cx := { lamCx X A outer s H E scope f c' with N := b :: X.N }
section
variable {X : Cx} {pins : List (Addr × Obj)} {σ : L2.St} {H HZ : Hp} {s s1 : Shared}
theorem lam1_start {A : Around} {outer : List Env} {E : XK} {scope : Scope} {b : Str} {f c' : Addr} {h₁ : Heap} {tk : Nat} {v : V} {u : Value} (I : Inv X pins σ H s) (L : Lam1S X.env.scope scope b) (hb : b ∉ X.N) (ru : RelV v u) (e0 : Env0 X.prog X.w X.K X.mg X.base A outer s1 HZ) (hd : A.handled = none)
    (un : Un (frs X.stack) [] H HZ s.heap s1.heap) (hns : h₁.Ns s1.heap.objs.size fun y => [(b, u)].reverse.lookup y) (kp : ∀ b o, s1.heap.get? b = some o → h₁.get? b = some o) :
    Inv (lam1Cx X A outer s1 HZ E scope f c' b) [] (some v :: σ) HZ { s1 with heap := h₁, toks := tk } := by
  -- the captured cells are those of the frame around
  have same : ∀ {y c}, (cloFrom X.env.cells scope.names []).lookup y = some c → X.env.cells.lookup y = some c := fun {y c} e => by
    rcases cloFrom_mem (PySem.mem_of_lookup e) with z | ⟨z1, z2⟩
    · cases z
    · have : ∃ c, X.env.cells.lookup y = some c := (L.free _ z1 rfl).elim (fun k => I.ok.has _ (.inl k)) fun k => I.ok.has _ (.inr k)
      obtain ⟨c1, h1⟩ := this
      have e2 : c = c1 := by
        rw [z2, h1] <;> rfl
      exact e2 ▸ h1
  have find : ∀ {y}, scope.names.lookup y = some .free → ∃ c, (cloFrom X.env.cells scope.names []).lookup y = some c := fun {y} hl => mem_lookup (cloFrom_has (cells := X.env.cells) (acc := []) (PySem.mem_of_lookup hl))
  have still : ∀ {c : Addr} {w : Option Value}, H c = none → s.heap.IsCell c w → h₁.IsCell c w := fun {c w} n ⟨o, ho, hw⟩ => by
    obtain ⟨sl, q⟩ := un.any ho n (by simp)
    exact ⟨_, kp _ _ q, hw⟩
  have noX : ∀ d : Addr, d ∉ (lam1Cx X A outer s1 HZ E scope f c' b).ex := fun d z => absurd (show d ∈ ([] : List Addr) from z) (by simp)
  refine ⟨⟨e0.mod, L.kind, rfl, rfl, Nat.le_refl _, fun y z c h1 h2 => I.ok.inj y z c (same h1) (same h2), fun y hy => ?_, fun y c z _ => Bool.noConfusion (show false = true from z), fun _ => hd, Around.frames_deeper e0.frames, .inr ⟨rfl, rfl⟩, fun d z => absurd z (noX d), e0.bs, e0.bsz, fun d _ _ => noX d,
      fun d z => absurd z (noX d), e0.funs, e0.frf⟩,
    rfl, e0.bare, Un.kept kp, ⟨_, hns, fun i y w h1 h2 h3 => ?_⟩, fun y c e => ?_, e0.hok.fresh (Nat.le_refl _), fun y c e => ?_, fun q hq => absurd (show q ∈ ([] : List (Addr × Obj)) ++ [] from hq) (by simp), e0.hok.kept kp, by
      show σ.length + 1 = X.N.length + 1
      rw [I.len]⟩
  · have hy : scope.names.lookup y = some .cell ∨ scope.names.lookup y = some .free := hy
    exact hy.elim (fun k => absurd rfl (L.own _ (PySem.mem_of_lookup k)).1) find
  · have h3 : Vis scope y := h3
    match i with
    | 0 =>
      have h1 : some b = some y := h1
      have h2 : some (some v) = some (some w) := h2
      cases h1
      cases h2
      exact ⟨u, ru, .inl ⟨L.par, by simp⟩⟩
    | i + 1 =>
      have h1 : X.N[i]? = some y := by simpa [lam1Cx] using h1
      have h2 : σ[i]? = some (some w) := by simpa using h2
      have ny : y ≠ b := fun z => hb (z ▸ List.mem_of_getElem? h1)
      rcases h3 with k | k | k
      · exact absurd ((L.own _ (PySem.mem_of_lookup k)).2 rfl) ny
      · exact absurd rfl (L.own _ (PySem.mem_of_lookup k)).1
      · obtain ⟨m, _, at_⟩ := I.loc
        have wf := L.free _ (PySem.mem_of_lookup k) rfl
        obtain ⟨w2, r, q⟩ := at_ i y w h1 h2 (wf.elim (fun k => .inr (.inl k)) fun k => .inr (.inr k))
        obtain ⟨c2, g2⟩ := find k
        refine ⟨w2, r, .inr ⟨.inr k, c2, g2, ?_⟩⟩
        rcases q with ⟨k2, _⟩ | ⟨_, c3, g3, z⟩
        · have k2 : X.env.scope.names.lookup y = some .local := k2
          rcases wf with k3 | k3 <;> rw [show X.env.scope.names.lookup y = _ from k3] at k2 <;> cases k2
        · rw [same g2] at g3
          cases g3
          exact still (I.freeC y _ (same g2)) z
  · obtain ⟨w, z⟩ := I.cell y c (same e)
    exact ⟨w, still (I.freeC y c (same e)) z⟩
  · obtain ⟨w, o, ho, hw⟩ := I.cell y c (same e)
    exact un.free c o ho (I.freeC y c (same e)) (by simp)

/-- a(o), in the def that got the lambda a: o a variable -/
theorem act1X {T : List (Addr × Str)} {CXg : CXT} {Eg : XK} {W : WX} {Ng : List Str} {qg : Str} {sg : Scope} {g f c' P : Addr} {cdg pm ctv : Value} {params : Arguments} {body : Expr} {scope : Scope} {k i j : Nat} {a b o : Str} {tb : XK → TE} {p1 p2 p3 lp : Pos} {qs : Array Value} {pn : List (Addr × Obj)} {xe : Value → Shared → Prop}
    (gd : Gds.ok X.A) (I : Inv X pins σ H s) (L : Lam1S X.env.scope scope b) (hbN : b ∉ X.N) (hP : H P = some (.tbl qs)) (hq3 : TriplesOk qs.toList) (hqs : codeAmong lp qs.toList = some (.ref c')) (hmT : (P, X.env.qual ++ "<lambda>") ∈ T)
    (hf : s.heap.get? f = some (PySem.W.kla_obj "<lambda>" (X.env.qual ++ "<lambda>") params body scope (cloFrom X.env.cells scope.names []) pm c' ctv)) (hfn : H f = none) (hfr : f ∉ frs X.stack)
    (bi : ∀ u : Value, bindArgs (PySem.W.kla_fn "<lambda>" (X.env.qual ++ "<lambda>") params body scope (cloFrom X.env.cells scope.names []) pm (.ref c') ctv) ⟨[u], []⟩ = pure [(b, u)])
    (tk : Takes ((cxOf CXg X.prog X.w X.K X.mg X.base Ng qg sg g cdg X.A X.stack s H Eg).tr pn xe) W) (room : Room (k + 1) (X.A.deeper (envOfC qg sg s.heap.objs.size g cdg)))
    (hb : ∀ (A : Around) (outer : List Env) (s : Shared) (H : Hp) (E : XK), Gds.ok (A.deeper (lamEnv X scope s.heap.objs.size f c')) → Room k (A.deeper (lamEnv X scope s.heap.objs.size f c')) → PE (lam1Cx X A outer s H E scope f c' b) body (tb E))
    (hN : Ng[i]? = some a) (hv : Vis sg a) (hN2 : Ng[j]? = some o) (hv2 : Vis sg o) (hd : (a == ("__debug__" : Str)) = false := by decide) (hcd : (a == ("__classdict__" : Str)) = false := by decide) (hd2 : (o == ("__debug__" : Str)) = false := by decide) (hcd2 : (o == ("__classdict__" : Str)) = false := by decide) :
    PE ((cxOf CXg X.prog X.w X.K X.mg X.base Ng qg sg g cdg X.A X.stack s H Eg).tr pn xe) (.Call (.Name a p1) [.Name o p3] [] p2)
      (fun σZ HZ Q => σZ[i]? = some (some (.ref f)) ∧ Tabs T HZ ∧ ∃ v, σZ[j]? = some (some v) ∧ tb (fun cls d H' => W cls d σZ H') (some v :: σ) HZ Q) := by
  refine ⟨fun pinsZ sZ σZ HZ Q JZ ⟨e1, e2, v, e3, e4⟩ => ?_⟩
  refine wpAny_Call_Name_kw (thn ((pe_var (pos := p1) (i := i) hN hv hd hcd).run pinsZ sZ σZ HZ (fun v H1 => v = .ref f ∧ H1 = HZ) JZ ⟨.ref f, e1, rfl, rfl⟩) fun u t1 ⟨v1, H1, J1, r1, ev, eH⟩ => ?_)
  subst ev
  rw [eH] at J1
  obtain rfl : u = Value.ref f := r1
  have here : ∀ {t2 : Shared} (J2 : Inv ((cxOf CXg X.prog X.w X.K X.mg X.base Ng qg sg g cdg X.A X.stack s H Eg).tr pn xe) pinsZ σZ HZ t2), t2.heap.get? f = some (PySem.W.kla_obj "<lambda>" (X.env.qual ++ "<lambda>") params body scope (cloFrom X.env.cells scope.names []) pm c' ctv) := fun J2 => J2.base.keep f _ hf hfn hfr (fun z => nomatch (show f ∈ ([] : List Addr) from z))
  refine PySem.W.callWith_F ⟨_, _, _, _, here J1⟩ ?_
  show wpAny _ _ (spliced ((false, eval (.Name o p3) (envOfC qg sg s.heap.objs.size g cdg)) :: backTo p2 (starEach [] (envOfC qg sg s.heap.objs.size g cdg)))) _ _ _
  refine Calls.spliced_cons (thn ((pe_var (pos := p3) (i := j) hN2 hv2 hd2 hcd2).run pinsZ t1 σZ HZ (fun w H1 => w = v ∧ H1 = HZ) J1 ⟨v, e3, rfl, rfl⟩) fun u2 t2 ⟨v2, H2, J2, r2, ev2, eH2⟩ => Calls.spliced_nil ⟨⟨_, _, _, _, here (eH2 ▸ J2)⟩, ?_⟩)
  subst ev2
  rw [eH2] at J2
  have hf2 := here J2
  have un : Un (frs X.stack) [] H HZ s.heap t2.heap := J2.base
  obtain ⟨more, hP2⟩ := J2.base.tbls P qs hP
  obtain ⟨qs2, hP3, _, ha⟩ := e2 _ hmT
  obtain rfl : qs2 = qs ++ more := by
    have z := hP3.symm.trans hP2
    injection z with z
    injection z
  obtain ⟨c0, ec0, hco⟩ := ha lp (.ref c') (by rw [Array.toList_append]; exact among_pre _ _ hq3 hqs)
  obtain rfl : c' = c0 := by cases ec0; rfl
  obtain ⟨⟨oc, vs, t, hoc, hdc, hvc⟩, _, _⟩ := J2.hok c' _ hco
  have runs : codeAny (model X.prog X.w) (X.A.deeper (envOfC qg sg s.heap.objs.size g cdg)) (.call (.ref f) ⟨[u2], []⟩) (CR (L2.CX X.prog X.w) (envOfC qg sg s.heap.objs.size g cdg :: X.stack) X.prog X.w HZ t2 Q (fun cls d H' => W cls d σZ H')) t2 := by
    refine PySem.W.kla_callFunE room.depth hf2 rfl L.co L.gen rfl ⟨c', oc, vs, t, rfl, hoc, hdc, hvc⟩ ?_
    rw [bi]
    refine wpAny_pure (wpAny_newFunctionEnv (fun y hy => (L.own y hy).1) (fun y hy => by rw [List.mem_singleton.mp hy]; exact L.par) (fun h₁ hns hsb => ⟨J2.nolimit.fresh _ hsb, ?_⟩) L.kind)
    show codeAny _ _ (.expr body (lamEnv X scope t2.heap.objs.size f c')) _ _
    have J3 : Inv (lam1Cx X (X.A.deeper (envOfC qg sg s.heap.objs.size g cdg)) (envOfC qg sg s.heap.objs.size g cdg :: X.stack) t2 HZ (fun cls d H' => W cls d σZ H') scope f c' b) [] (some v2 :: σ) HZ { t2 with heap := h₁, toks := t2.toks + [(b, u2)].length } :=
      lam1_start I L hbN r2 J2.env0 room.hd un hns fun b o e => hsb.extBut b o (Nat.ne_of_lt (Heap.lt_size e)) (Heap.get?_push_of_some _ e)
    refine PySem.W.kla_codeExpr (wpAny_mono ((hb (X.A.deeper (envOfC qg sg s.heap.objs.size g cdg)) _ t2 HZ _ (Gds.deeper (Gds.deeper gd)) (room.deeper _)).run [] _ _ HZ Q J3 e4) (fun v s' ⟨w', H', J', rv, q⟩ => ⟨w', H', J'.os, J'.bare, J'.base, J'.hok, rv, q⟩) fun e s' hq => hq)
  refine wpAny_call (codeAny_mono runs fun res t3 hq => ?_)
  match res, hq with
  | .error e, hq => exact tk e t3 (XE.of_call J2 (fun _ _ _ z => z) hq)
  | .ok (.ret u), hq => exact J2.after hq
  | .ok .next, hq => exact False.elim hq
  | .ok .brk, hq => exact False.elim hq
  | .ok .cont, hq => exact False.elim hq

end
/-! ### over data -/
/-- what an error is an instance of -/
def kindD : D → D
  | .err m _ _ => .cls m
  | .ty m => .ty m
  | _ => .none
/-- an error leaves with's body: __exit__ runs, and on it goes -/
def wLeftD (sx : WP) (x : D) (X : QD) : QD := fun d μ => ∀ a t, μ a = Option.none → (t = D.none ∨ ∃ b, t = .cell b ∧ μ b = Option.none) → sx [x, kindD d, .cell a, t] μ (fun r μ1 => r = .none ∧ X d μ1) fun _ _ => False
/-- o.tried(work), where work may raise: work's wish, in the environment with o ahead -/
def wTriedX (n : Str) (se sx : WP) (wl wo : WE) : WE := fun e μ Q X => wo e μ (fun x μ1 => isOf n "tried" μ1 x (se [x] μ1 (fun _ μ2 => wl (some x :: e) μ2 (fun d μ3 => sx [x, .none, .none, .none] μ3 (fun _ μ4 => Q d μ4) fun _ _ => False) (wLeftD sx x X)) fun _ _ => False)) X
theorem Jd1 (n : Str) (se sx : WP) (wl wo : WE) (e : EnvD) (μ : Mu) (Q X : QD) : wTriedX n se sx wl wo e μ Q X = wo e μ (fun x μ1 => isOf n "tried" μ1 x (se [x] μ1 (fun _ μ2 => wl (some x :: e) μ2 (fun d μ3 => sx [x, .none, .none, .none] μ3 (fun _ μ4 => Q d μ4) fun _ _ => False) (wLeftD sx x X)) fun _ _ => False)) X := propext Iff.rfl
section
variable {X : Cx} {c : Ctx} {W : WX} {ko ke kl kx : Nat} {se sx : WP} {wl wo : WE} {σ : L2.St}
theorem left_of {S : Option SA} {F I : Hp} {n : Nat} {a0 : Addr} {x : D} {Xd : QD} {kW : Nat} (hl : n + kx ≤ kW) (hm : kW ≤ LIM) (rx : Rep c S I x (.ref a0)) (q : XV c W S F kW I σ Xd) (σ' : L2.St) : XV c (fun cls d _ G => IsCls cls ∧ wLeft (SpW c sx kx) a0 (fun cls d _ G => W cls d σ G) cls d σ G) S F n I σ' (wLeftD sx x Xd) := fun d μ' cls dx I' G pa sm w er => by
  have run : ∀ (vk : V) (a : Addr) (vt : V), Rep c S I' (kindD d) vk → G a = none → (vt = .non ∨ ∃ T, vt = .ref T ∧ G T = none) → SpW c sx kx [.ref a0, vk, .ref a, vt] G (fun v G2 => v = .non ∧ W cls dx σ G2) fun _ _ _ => False := fun vk a vt rk na nt => by
    have end_ : ∀ (t : D), Rep c S I' t vt → (t = D.none ∨ ∃ b, t = .cell b ∧ μ' b = Option.none) → SpW c sx kx [.ref a0, vk, .ref a, vt] G (fun v G2 => v = .non ∧ W cls dx σ G2) fun _ _ _ => False := fun t rt ht =>
      ⟨S, F, n, I', μ', [x, kindD d, .cell a, t], _, _, by omega, w, .cons (rx.mono sm) (.cons rk (.cons .cell (.cons rt .nil))), pa a t (w.fresh na).2 ht, fun r μ4 v I4 H4 ⟨z1, z2⟩ s4 w4 r4 => by
        subst z1
        cases r4
        exact ⟨rfl, q d μ4 cls dx I4 H4 z2 (sm.trans s4) (w4.up hl) (er.mono s4)⟩, fun _ _ _ _ _ _ z => z.elim⟩
    rcases nt with rfl | ⟨T, rfl, nT⟩
    · exact end_ .none .none (.inl rfl)
    · exact end_ (.cell T) .cell (.inr ⟨T, rfl, (w.fresh nT).2⟩)
  rcases er with ⟨m, fs, ds, xs, rfl, rfl, ef, rs, hm⟩ | ⟨m, rfl, rfl, hm⟩
  · refine ⟨rfl, fun vk a vt rv na nt => ?_⟩
    obtain rfl : vk = .ref (c.cl m) := by
      cases vk <;> first | (cases rv; done) | (cases rv; rfl) | (obtain ⟨_, z⟩ := rv; cases z)
    exact run _ a vt (.cls (List.mem_append_right _ hm)) na nt
  · refine ⟨rfl, fun vk a vt rv na nt => ?_⟩
    obtain rfl : vk = .ty m := by
      cases vk <;> first | (cases rv; done) | (cases rv; rfl) | (obtain ⟨_, z⟩ := rv; cases z)
    refine run _ a vt (.ty ?_) na nt
    simp only [exNames, List.mem_cons, List.not_mem_nil, or_false] at hm
    rcases hm with rfl | rfl <;> decide
theorem ld_triedX {n : Str} {H : Hp} {Q : VK} (h : ldE c W (ko + (ke + (kl + kx))) (wTriedX n se sx wl wo) σ H Q) : ldE c W ko wo σ H fun x H1 => ∃ a dx fs, x = .ref a ∧ H1 a = some (.ins (c.cl n) dx fs) ∧ fs.lookup ("tried" : Str) = none ∧ Tabs c.tb H1 ∧
    ∀ H2, ExtN H1 H2 → Tabs c.tb H2 → H2 a = some (.ins (c.cl n) dx fs) ∧ SpW c se ke [.ref a] H2 (fun _ H3 => Tabs c.tb H3 ∧ ldE c (fun cls d _ G => IsCls cls ∧ wLeft (SpW c sx kx) a (fun cls d _ G => W cls d σ G) cls d σ G) kl wl (some (.ref a) :: σ) H3 fun v H4 => SpW c sx kx [.ref a, .non, .non, .non] H4 (fun _ H5 => Q v H5) fun _ _ _ => False) fun _ _ _ => False := by
  obtain ⟨S, F, nn, I, μ, e, Qd, Xd, hl, he, hw, h, q, x⟩ := h
  refine ⟨S, F, nn, I, μ, e, _, Xd, by omega, he, hw, h, fun d μ1 v I1 H1 pa s1 w1 ra => ?_, x.mono (by omega) (Same.refl I)⟩
  obtain ⟨fs, ds, e1, e2, pa⟩ := isOf_cases pa
  obtain ⟨a, dx, xs, rfl, h1, r1, l1⟩ := asObj_rep w1 ra e1
  obtain ⟨s, rfl, hT⟩ := w1.z
  refine ⟨a, dx, _, rfl, h1, fld_none e2, by rw [← hT]; exact (w1.s s rfl).1.1, fun H2 eN t2 => ⟨eN a _ h1 (fun ps z => by cases z), ?_⟩⟩
  have w2 := w1.extN eN (by rw [hT]; exact t2)
  refine ⟨some s, F, nn + ko, I1, μ1, [d], _, _, by omega, w2, .cons ra .nil, pa, fun d3 μ3 v3 I3 H3 p3 s3 w3 r3 => ⟨by rw [← hT]; exact (w3.s s rfl).1.1, ?_⟩, fun _ _ _ _ _ _ z => z.elim⟩
  refine ⟨some s, F, nn + ko + ke, I3, μ3, some d :: e, _, _, by omega, .yes (ra.mono s3) ((he.mono s1).mono s3), w3, p3, fun d4 μ4 v4 I4 H4 p4 s4 w4 r4 => ?_, left_of (kW := nn + (ko + (ke + (kl + kx)))) (by omega) hl (ra.mono s3) (x.mono (by omega) (s1.trans s3)) _⟩
  exact ⟨some s, F, nn + ko + ke + kl, I4, μ4, [d, .none, .none, .none], _, fun _ _ => False, by omega, w4, .cons ((ra.mono s3).mono s4) (.cons .none (.cons .none (.cons .none .nil))), p4, fun d5 μ5 v5 I5 H5 p5 s5 w5 r5 => q d4 μ5 v4 I5 H5 p5 (s1.trans (s3.trans (s4.trans s5))) (w5.up (by omega)) (r4.mono s5), fun _ _ _ _ _ _ z => z.elim⟩
end
section
variable {X : Cx} {c : Ctx} {W : WX} {ko ke kl kx : Nat} {se sx : WP} {wl wo : WE}
/-- a def's promise while an error is handled, of its body's wish -/
theorem hot_of {nm qual : Str} {ps N : List Str} {pg : Arguments} {bg : List Stmt} {sg : Scope} {dvg : List V} {kwg : List (Str × V)} {fd : FuncData} {f : Addr} {n kb k : Nat} {b : WS} (F : FunD X.K nm qual pg bg sg dvg kwg f fd) (Sg : FnScope N ps sg) (bi : Binds X.K fd ps []) (hn : n = ps.length) (hk : kb ≤ k)
    (hb : ∀ (cdv : Value) (A : Around) (l : List Env) (s : Shared) (H : Hp) (p : Addr × Obj), GSs (L2H.cxH C8.CX0 X.prog X.w X.K X.mg X.base N qual sg f cdv A l s H C8.E0 p) c W0 kb bg b) : HotSp X f (SpW c (wDef n N.length b) k) := fun A l s G p us vs Q dp pin e0 rv h =>
  hot_runs F Sg bi dp pin e0 rv (SpW.len hn h) fun cdv => ⟨_, hb cdv A l s G p, run_wDef h hk⟩
theorem tried_run {qg : Str} {pg : Arguments} {sg : Scope} {dvg : List V} {kwg : List (Str × V)} {fdg fde fdx : FuncData} {pse psx : List Str} {g fe fx C a f : Addr} {fs : List (Str × V)} {ke' kx' km : Nat} {q0 q1 q2 q3 q4 q5 : Pos} {spe spx : L2.Sp} {te : WX → TE} {pins : List (Addr × Obj)} {σ : L2.St} {H : Hp} {s : Shared} {Q : VK} {args : Args}
    (J : Inv X pins σ H s) (tk : Takes X W) (gd : Gds.ok X.A) (room : Room (km + 1) X.A) (hke : ke' ≤ km) (hkx : kx' ≤ km)
    (Fg : FunD X.K "tried" qg pg [.With [⟨.Name "self" q0, none⟩] [.Return (some (.Call (.Name "work" q1) [.Name "self" q2] [] q3)) q4] q5] sg dvg kwg g fdg) (hbg : BindsTo s fdg args (List.zip (["self", "work"] : List Str) [Value.ref a, Value.ref f])) (Sg : FnScope ["self", "work"] ["self", "work"] sg) (hv0 : Vis sg "self")
    (Fe : FnW X.prog X.w X.K X.mg X.base ke' fe fde pse spe) (Fx : FnW X.prog X.w X.K X.mg X.base kx' fx fdx psx spx) (hot : HotSp X fx spx) (be : Binds X.K fde pse []) (bx : Binds X.K fdx psx []) (me : Meth X.K C "__enter__" fe) (mx : Meth X.K C "__exit__" fx)
    (act : ∀ (cdv : Value) (W1 : WX) (pn : List (Addr × Obj)) (xe : Value → Shared → Prop), Room km (X.A.deeper (envOfC qg sg s.heap.objs.size g cdv)) → Takes ((cxOf (L2.CX X.prog X.w) X.prog X.w X.K X.mg X.base ["self", "work"] qg sg g cdv X.A X.stack s H fun cls d G => W cls d σ G).tr pn xe) W1 →
      PE ((cxOf (L2.CX X.prog X.w) X.prog X.w X.K X.mg X.base ["self", "work"] qg sg g cdv X.A X.stack s H fun cls d G => W cls d σ G).tr pn xe) (.Call (.Name "work" q1) [.Name "self" q2] [] q3) (te W1))
    (ha : ∃ dx, H a = some (.ins C dx fs)) (h : spe [.ref a] H (fun _ H1 => te (fun cls d σ' G => IsCls cls ∧ wLeft spx a (fun cls d _ G => W cls d σ G) cls d σ' G) [some (.ref a), some (.ref f)] H1 fun v H2 => spx [.ref a, .non, .non, .non] H2 (fun _ H3 => Q v H3) fun _ _ _ => False) fun _ _ _ => False) :
    codeAny (model X.prog X.w) X.A (.call (.ref g) args) (CR (L2.CX X.prog X.w) X.stack X.prog X.w H s Q fun cls d G => W cls d σ G) s := by
  obtain ⟨dx, ha⟩ := ha
  obtain ⟨oc, od, dV, kV, doc, pm, an, cdv, ct, osl, rfl, lk, hcg, _, _⟩ := Fg.ex
  refine LamX.run_ofS (N := ["self", "work"]) (ps := ["self", "work"]) (us := [.ref a, .ref f]) (vs := [.ref a, .ref f]) lk hcg Sg room J.env0 hbg (.cons rfl (.cons rfl .nil)) rfl fun room' => ?_
  refine ⟨_, pss_one (ps_withX (X := cxOf (L2.CX X.prog X.w) X.prog X.w X.K X.mg X.base ["self", "work"] qg sg g cdv X.A X.stack s H fun cls d G => W cls d σ G) (i := 0) (Wo := fun cls d _ G => W cls d σ G) rfl rfl rfl (takes_of rfl rfl rfl rfl) Fe Fx hot be bx me mx (Gds.deeper gd) (room'.mono hke) (room'.mono hkx) rfl hv0 (act cdv · · · room')), ?_⟩
  exact ⟨a, dx, fs, rfl, ha, h⟩
theorem Lam1S.has {scope : Scope} {b : Str} (L : Lam1S X.env.scope scope b) (ok : X.Ok) : ∀ y ∈ scope.names, y.2 = .free → ∃ c, X.env.cells.lookup y.1 = some c := fun y hy e => (L.free y hy e).elim (fun k => ok.has _ (.inl k)) fun k => ok.has _ (.inr k)
/-- o.tried(lambda b: ..) -/
theorem g_triedL {n b qg : Str} {pl : Sem Bool} {o body : Expr} {apos lpos pos q0 q1 q2 q3 q4 q5 : Pos} {g fe fx cc P : Addr} {pg params : Arguments} {sg scope : Scope} {dvg : List V} {kwg : List (Str × V)} {fdg fde fdx : FuncData} {pse psx : List Str} {ke' kx' kl' km : Nat}
    (ho : GE X c W ko o wo) (hcl : Cls X.K (c.cl n)) (hm : Meth X.K (c.cl n) "tried" g) (tk : Takes X W)
    (Fg : FunD X.K "tried" qg pg [.With [⟨.Name "self" q0, none⟩] [.Return (some (.Call (.Name "work" q1) [.Name "self" q2] [] q3)) q4] q5] sg dvg kwg g fdg) (hbg : Binds X.K fdg ["self", "work"] []) (Sg : FnScope ["self", "work"] ["self", "work"] sg) (hv0 : Vis sg "self") (hv1 : Vis sg "work")
    (Fe : FnW X.prog X.w X.K X.mg X.base ke' fe fde pse (SpW c se ke)) (Fx : FnW X.prog X.w X.K X.mg X.base kx' fx fdx psx (SpW c sx kx)) (hot : HotSp X fx (SpW c sx kx)) (be : Binds X.K fde pse []) (bx : Binds X.K fdx psx []) (me : Meth X.K (c.cl n) "__enter__" fe) (mx : Meth X.K (c.cl n) "__exit__" fx) (gd : Gds.ok X.A)
    (TB : TabB X.base X.mg cc P) (hcode : X.env.code = .ref cc) (hmT : (P, X.env.qual ++ "<lambda>") ∈ c.tb) (hu : ∀ p ∈ c.tb, p.1 = P → p.2 = X.env.qual ++ "<lambda>") (room : Room (km + 1) X.A) (hke : ke' ≤ km) (hkx : kx' ≤ km) (hkl : kl' + 1 ≤ km)
    (L : Lam1S X.env.scope scope b) (hbN : b ∉ X.N) (hdef : defaultsOf params X.env = ([], []))
    (bi : ∀ (q : Str) (cl : List (Str × Addr)) (pm cv ctv u : Value), bindArgs (PySem.W.kla_fn "<lambda>" q params body scope cl pm cv ctv) ⟨[u], []⟩ = pure [(b, u)])
    (hb : ∀ (A : Around) (outer : List Env) (s : Shared) (H : Hp) (E : XK) (f c' : Addr), Gds.ok (A.deeper (lamEnv X scope s.heap.objs.size f c')) → Room kl' (A.deeper (lamEnv X scope s.heap.objs.size f c')) → GE (lam1Cx X A outer s H E scope f c' b) c (fun cls d _ G => E cls d G) kl body wl)
    (ht : eval (.Call (.Attribute o "tried" apos) [.Lambda params body scope lpos] [] pos) X.env = (do
      let ov ← eval o X.env
      standAt apos.atName
      let (f, first) ← holding [ov] (getMethod ov "tried" pl)
      callWith pos f first (backTo pos (starEach [.Lambda params body scope lpos] X.env)) (backToKw pos (keywordEach [] X.env))) := by rfl) :
    GE X c W (ko + (ke + (kl + kx))) (.Call (.Attribute o "tried" apos) [.Lambda params body scope lpos] [] pos) (wTriedX n se sx wl wo) := by
  refine ⟨fun pins s σ H Q J h => ?_⟩
  refine PySem.W.methodCall_KW (pl := pl) (thn (ho.run pins s σ H _ J (ld_triedX h)) fun u s1 ⟨x, H1, I1, rx, a, dx, fs, ex, ea, l, hT, q⟩ => ?_) ht
  subst ex
  obtain rfl : u = Value.ref a := rx
  refine getmeth_ok I1 ea hcl hm l ?_
  refine PySem.W.callWith_K (first := [.ref a]) (h₀ := X.base) I1.ok.mod.kin hm.kp ?_ (by rfl) (by rfl)
  show wpAny _ _ (spliced ((false, eval (.Lambda params body scope lpos) X.env) :: backTo pos (starEach [] X.env))) _ _ _
  refine Calls.spliced_cons (lam_make3 I1 TB hcode hmT hu hT hdef (L.has I1.ok) fun f c' pm' ctv qs H2 s2 J2 eN T2 hP ht3 hq hf hfn hfr => Calls.spliced_nil ⟨J2.kIn, ?_⟩)
  obtain ⟨ha2, q2⟩ := q H2 eN T2
  refine wpAny_call (codeAny_mono (tried_run (f := f) J2 tk gd room hke hkx Fg (by have := hbg s2 [.ref a, .ref f] J2.kIn rfl; exact this) Sg hv0 Fe Fx hot be bx me mx
    (te := fun W1 σZ HZ Q => σZ[1]? = some (some (.ref f)) ∧ Tabs c.tb HZ ∧ ∃ v, σZ[0]? = some (some v) ∧ ldE c (fun cls d _ G => W1 cls d σZ G) kl wl (some v :: σ) HZ Q)
    (fun cdv W1 pn xe room' tk1 => act1X (T := c.tb) (i := 1) (j := 0) gd J2 L hbN hP ht3 hq hmT hf hfn hfr (fun u => bi _ _ _ _ _ u) tk1 (room'.mono hkl) (fun A outer s H E gd2 room2 => hb A outer s H E f c' gd2 room2) rfl hv1 rfl hv0) ⟨dx, ha2⟩
    (spw_mono q2 fun v H3 ⟨t3, z⟩ => ⟨rfl, t3, .ref a, rfl, z⟩)) fun res s3 hr => ?_)
  match res, hr with
  | .error e, hr => exact tk e s3 (XE.of_call J2 (fun _ _ _ z => z) hr)
  | .ok (.ret u), hr => exact J2.after hr
  | .ok .next, hr => exact False.elim hr
  | .ok .brk, hr => exact False.elim hr
  | .ok .cont, hr => exact False.elim hr
end
end DL

set_option Elab.async false
set_option linter.all false
set_option maxRecDepth 100000
set_option maxHeartbeats 4000000
/-! A103: {}[s], which raises; try with clauses for errors of built-in and own classes. -/
namespace DL
open PySem PySem.Spec PyProof.Rows L2
variable [Gds]
section
variable {X : Cx} {c : Ctx} {W : WX} {k : Nat}
/-- {}[s]: a KeyError -/
def wLost : WE := fun _ μ _ X => X (.ty "KeyError") μ
theorem Jce (e : EnvD) (μ : Mu) (Q X : QD) : wLost e μ Q X = X (.ty "KeyError") μ := propext Iff.rfl
theorem g_lost {s : Str} {j : Nat} {p p2 pos : Pos} (hc : X.calm = true) (hu : X.A.units + 1 < cLine) (tk : Takes X W) : GE X c W 0 (.Subscript (.Dict [] [] p) (.Constant (.str s) j p2) pos) wLost := L2.PE.imp (pe_dgetX hc hu tk pe_dnewK pe_str (by intro _ _; rfl)) fun σ H Q h => by
  obtain ⟨S, F, nn, I, μ, e, Qd, Xd, hl, he, hw, h, q, x⟩ := h
  exact fun p hp => ⟨p, none, rfl, DGet.k (k := Sum.inr s) upd_same, (fun _ z => by cases z), fun _ d => x _ μ _ d I _ h (Same.refl I) (hw.frame hp) (.inr ⟨_, rfl, rfl, by decide⟩)⟩
/-! ### try with clauses -/
/-- whether a clause takes an error -/
def hitD : D → D → Option Bool
  | .ty m, .ty k => some (decide (m = k))
  | .ty _, .cls _ => some false
  | .err _ _ _, .ty _ => some false
  | .err m _ _, .cls k => some (subCC m k)
  | _, _ => Option.none
def wHs : List (D × WS) → D → EnvD → Mu → WEnds → Prop
  | [], _, _, _, _ => False
  | (k, w) :: r, d, e, μ, E => match hitD d k with
    | some true => w e μ E
    | some false => wHs r d e μ E
    | Option.none => False
/-- try: b, except k: w, .. -/
def wTryH (hs : List (D × WS)) (b : WS) : WS := fun e μ E => b e μ { nx := E.nx, rt := E.rt, bk := E.bk, ct := E.ct, xp := fun d e1 μ1 => wHs hs d e1 μ1 { nx := E.nx, rt := E.rt, bk := E.bk, ct := E.ct, xp := fun _ _ _ => False } }
theorem Jd2 (hs : List (D × WS)) (b : WS) (e : EnvD) (μ : Mu) (E : WEnds) : wTryH hs b e μ E = b e μ { nx := E.nx, rt := E.rt, bk := E.bk, ct := E.ct, xp := fun d e1 μ1 => wHs hs d e1 μ1 { nx := E.nx, rt := E.rt, bk := E.bk, ct := E.ct, xp := fun _ _ _ => False } } := propext Iff.rfl
/-- the class of a clause -/
def Hit (c : Ctx) (K : PySem.W.Frag) (k : D) (cv : Value) : Prop := ∀ (S : Option SA) (I : Hp) (d : D) (cls : Value) (dx : Option Addr), ErrAt c S I d cls dx → ∃ b, hitD d k = some b ∧ PySem.W.exmOne K cls cv = some b
theorem hit_own {n : Str} (h1 : ∀ m ∈ c.es, PySem.W.exmOne c.K (.ref (c.cl m)) (.ref (c.cl n)) = some (subCC m n)) (h2 : ∀ m ∈ exNames, PySem.W.exmOne c.K (.type m) (.ref (c.cl n)) = some false) : Hit c c.K (.cls n) (.ref (c.cl n)) := fun S I d cls dx er => by
  rcases er with ⟨m, fs, ds, xs, rfl, rfl, _, _, hm⟩ | ⟨m, rfl, rfl, hm⟩
  · exact ⟨_, rfl, h1 m hm⟩
  · exact ⟨_, rfl, h2 m hm⟩
theorem hit_built {n : String} (hn : n ∈ exNames) (h1 : ∀ m ∈ c.es, PySem.W.exmOne c.K (.ref (c.cl m)) (.type n) = some false) : Hit c c.K (.ty n) (.type n) := fun S I d cls dx er => by
  rcases er with ⟨m, fs, ds, xs, rfl, rfl, _, _, hm⟩ | ⟨m, rfl, rfl, hm⟩
  · exact ⟨_, rfl, h1 m hm⟩
  · refine ⟨_, rfl, ?_⟩
    simp only [exNames, List.mem_cons, List.not_mem_nil, or_false] at hm hn
    rcases hm with rfl | rfl <;> rcases hn with rfl | rfl <;> first | rfl | kernel_rfl
inductive HdsD (X : Cx) (c : Ctx) : List ExceptHandler → List (D × WS) → Prop
  | nil : HdsD X c [] []
  | cons {x : Str} {cv : Value} {k : D} {w : WS} {b0 : Stmt} {su : List Stmt} {np pos' : Pos} {hds : List ExceptHandler} {l : List (D × WS)} (hc : Names X x cv) (ht : Hit c X.K k cv) (hs : ∀ (a : Addr) (pn : List (Addr × Obj)), GSs (X.suite a pn) c W0 0 (b0 :: su) w) (r : HdsD X c hds l) :
      HdsD X c (.ExceptHandler (some (.Name x np)) none (b0 :: su) pos' :: hds) ((k, w) :: l)
theorem HdsD.low {hds : List ExceptHandler} {l : List (D × WS)} (h : HdsD X c hds l) : ∃ lv : List (Value × (Addr → Value → Option Addr → TS)), HdsOk X hds lv ∧
    ∀ (Wo : WX) (Z : Ends) (S : Option SA) (F : Hp) (n : Nat) (I : Hp) (μ : Mu) (e : EnvD) (E : WEnds) (d : D) (cls : Value) (dx : Option Addr) (σ : L2.St) (H : Hp), n ≤ LIM → EnvR c S I e σ → Wd c S F n I μ H → ErrAt c S I d cls dx → (∀ d e μ, ¬ E.xp d e μ) → EV c W0 S F n I E Z → wHs l d e μ E → wMany X.K Wo Z lv cls dx σ H := by
  induction h with
  | nil => exact ⟨[], .nil, by
    intro Wo Z S F n I μ e E d cls dx σ H _ _ _ _ _ _ z
    exact False.elim z⟩
  | @cons x cv k w b0 su np pos' hds l hc ht hs r ih =>
    obtain ⟨lv, h1, h2⟩ := ih
    refine ⟨(cv, fun _ _ _ => ldS c W0 0 w) :: lv, .cons hc (fun a oe cls d pn _ _ => hs a _) h1, fun Wo Z S F n I μ e E d cls dx σ H hl he hw er nx ev h => ?_⟩
    obtain ⟨b, e1, e2⟩ := ht S I d cls dx er
    refine ⟨b, e2, fun hb a na => ?_, fun hb => ?_⟩
    · subst hb
      unfold wHs at h
      rw [e1] at h
      exact ⟨S, F, n, I, μ, e, E, hl, he, hw, h, ev⟩
    · subst hb
      unfold wHs at h
      rw [e1] at h
      exact h2 Wo Z S F n I μ e E d cls dx σ H hl he hw er nx ev h
theorem g_tryH {body : List Stmt} {h0 : ExceptHandler} {hds : List ExceptHandler} {l : List (D × WS)} {w : WS} {pos : Pos} (tk : Takes X W) (hh : HdsD X c (h0 :: hds) l)
    (hb : ∀ (W1 : WX) (pn : List (Addr × Obj)) (xe : Value → Shared → Prop), Takes (X.tr pn xe) W1 → PassesOwn (model X.prog X.w) X.A X.env xe → GSs (X.tr pn xe) c W1 k body w) (hs : X.stack = X.env :: X.outer := by rfl) (hfr : X.env.frame = some X.env.locals := by rfl) : GS X c W k (.Try body (h0 :: hds) [] [] pos) (wTryH l w) := by
  obtain ⟨lv, h1, h2⟩ := hh.low
  refine L2.PS.imp (ps_try_many (X := X) (tb := fun W1 => ldS c W1 k w) hs hfr tk hb h1) fun D σ H h => ?_
  obtain ⟨S, F, n, I, μ, e, E, hl, he, hw, h, q⟩ := h
  refine ⟨S, F, n, I, μ, e, _, hl, he, hw, h, q.nx, q.rt, q.bk, q.ct, fun d e' μ' cls dx σ' I' H' pa sm r w' er => ?_⟩
  refine h2 W D S F (n + k) I' μ' e' { nx := E.nx, rt := E.rt, bk := E.bk, ct := E.ct, xp := fun _ _ _ => False } d cls dx σ' H' hl r w' er (fun _ _ _ z => z) ⟨?_, ?_, ?_, ?_, fun _ _ _ _ _ _ _ _ z => False.elim z⟩ pa
  · exact fun e2 μ2 σ2 I2 H2 p2 s2 r2 w2 => q.nx e2 μ2 σ2 I2 H2 p2 (sm.trans s2) r2 w2
  · exact fun d2 μ2 v2 I2 H2 p2 s2 w2 r2 => q.rt d2 μ2 v2 I2 H2 p2 (sm.trans s2) w2 r2
  · exact fun e2 μ2 σ2 I2 H2 p2 s2 r2 w2 => q.bk e2 μ2 σ2 I2 H2 p2 (sm.trans s2) r2 w2
  · exact fun e2 μ2 σ2 I2 H2 p2 s2 r2 w2 => q.ct e2 μ2 σ2 I2 H2 p2 (sm.trans s2) r2 w2
end
end DL

set_option Elab.async false
set_option linter.all false
set_option maxRecDepth 100000
set_option maxHeartbeats 400000
/-! B4m: blocks of benches. -/
namespace DL
open PySem L2
def wp_Held___init__ : WP := (wDef 3 3 (wSeq (wSetF "Held" "had" (wV 0) (wV 1))
    (wSetF "Held" "around" (wV 0) (wV 2))))
def wp_Bench___enter__ : WP := (wDef 1 1 (wSeq (wSetF "Bench" "held" (wV 0) (wMake false "Held" wp_Held___init__ [] (waCons (wFld "Bench" "done" (wV 0)) (waCons (wFld "Bench" "held" (wV 0)) waNil))))
    (wRet (wV 0))))
def wp_Bench___exit__ : WP := (wDef 4 4 (wSeq (wIfS (wTst (wOp false oNotN (wV 1) (wK .none))) (wSetF "Bench" "done" (wV 0) (wFld "Held" "had" (wFld "Bench" "held" (wV 0)))) wNext)
    (wSetF "Bench" "held" (wV 0) (wFld "Held" "around" (wFld "Bench" "held" (wV 0))))))
abbrev helF : List Str := ["had", "around"]
def heldD (d h : D) : D := .obj "Held" helF [d, h]
section
variable {μ : Mu} {Q X : QD} {QQ : QR} {p : Addr} {b : Int × Int} {ss tt : List Stp} {h kd e t : D}
theorem mk_Held {d : D} (p0 : Addr) (hp : μ p0 = Option.none) (k : Q (heldD d h) μ) : wp_Held___init__ [.cell p0, d, h] (up μ p0 (.obj "Held" [] [])) (mkQ false Q p0) X := by
  unfold wp_Held___init__
  simp only [Jbx, initE, Jcx, Jcj, Jbl, Jbm, Jc3, Jcs, Jct, Jca, Jcp, Jbn, Jcz, Jbo, Jbu, Jdd, Jde, Jdc, Jdf, Jdj, Jdh, Jdi, Jdg, Jc6, Jcc, Jd7, Jd6, Jcb, Jcm, Jd5, Jd4, Jcg, Jbs, Jd3, Jcl, Jbk, Jco, Jc9, Jbj, Jcn, Jck, Jd9, Jd8, Jdb, Jbp, Jci, Jcr, Jc5, Jcy, Jch, Jbq, Jcu, Jd0, Jdk, Jdl, Jcd, Jcv, Jcw, Jc8, Jbr, Jc4, Jbz, Jcf, gt, st, Jbc, Jba, Jbb, Jb8, Jbi, Ja5, atI0, atI1, atI2, atI3, atI4, ixN20, ixN21, List.map_cons, List.map_nil, List.cons_append, List.nil_append, List.append_nil, List.length_cons, List.length_nil, List.replicate_succ, List.replicate_zero, Nat.add_one_sub_one, Jda, Jbt, Jc0, Jc2, Jby, Jae, Jag, Jah, Jaf, Jb7, Jaw, Jax, Jak, Jav, Jb4, Jau, Jat, Jan, Jam, Jb2, Jai, Jaj, Jb0, Jb1, Jaq, Jb3, Jar, Jas, Jao, Jap, Jb6, Jb5, Ja7, Ja8, Jac, Jab, Ja0, Ja9, Jaa, Jbg, Jbh, Ja6, Jad, Jbd, Jbf, Jbe, Jb9, Ja2, Ja1, Ja4, Ja3, Jay, Jaz, decide_true, decide_false, Bool.not_true, Bool.not_false, Bool.false_eq_true, if_true, if_false, true_and, up_same, ndO, up_up]
  exact ⟨by simp [putN], by simp [putN], mkQ_f hp k⟩
theorem ok_enter (hp : μ p = some (benN b ss h)) (k : Q (.cell p) (up μ p (benN b ss (heldD (doneD b ss) h)))) : wp_Bench___enter__ [.cell p] μ Q X := by
  unfold wp_Bench___enter__
  simp only [Jbx, initE, Jcx, Jcj, Jbl, Jbm, Jc3, Jcs, Jct, Jca, Jcp, Jbn, Jcz, Jbo, Jbu, Jdd, Jde, Jdc, Jdf, Jdj, Jdh, Jdi, Jdg, Jc6, Jcc, Jd7, Jd6, Jcb, Jcm, Jd5, Jd4, Jcg, Jbs, Jd3, Jcl, Jbk, Jco, Jc9, Jbj, Jcn, Jck, Jd9, Jd8, Jdb, Jbp, Jci, Jcr, Jc5, Jcy, Jch, Jbq, Jcu, Jd0, Jdk, Jdl, Jcd, Jcv, Jcw, Jc8, Jbr, Jc4, Jbz, Jcf, gt, st, Jbc, Jba, Jbb, Jb8, Jbi, Ja5, atI0, atI1, atI2, atI3, atI4, ixN20, ixN21, List.map_cons, List.map_nil, List.cons_append, List.nil_append, List.append_nil, List.length_cons, List.length_nil, List.replicate_succ, List.replicate_zero, Nat.add_one_sub_one, Jda, Jbt, Jc0, Jc2, Jby, Jae, Jag, Jah, Jaf, Jb7, Jaw, Jax, Jak, Jav, Jb4, Jau, Jat, Jan, Jam, Jb2, Jai, Jaj, Jb0, Jb1, Jaq, Jb3, Jar, Jas, Jao, Jap, Jb6, Jb5, Ja7, Ja8, Jac, Jab, Ja0, Ja9, Jaa, Jbg, Jbh, Ja6, Jad, Jbd, Jbf, Jbe, Jb9, Ja2, Ja1, Ja4, Ja3, Jay, Jaz, decide_true, decide_false, Bool.not_true, Bool.not_false, Bool.false_eq_true, if_true, if_false, true_and, ben_obj hp, f_done, f_held]
  intro p0 hp0
  refine mk_Held p0 hp0 ?_
  simp only [ben_ndO hp, p_held]
  exact ⟨trivial, by decide, k⟩
theorem o_held {d : D} : asObj μ (heldD d h) = some (("Held" : Str), helF, [d, h]) := rfl
theorem f_had (d h : D) : fldD "had" helF [d, h] = some d := rfl
theorem f_around (d h : D) : fldD "around" helF [d, h] = some h := rfl
theorem ok_exit {d : D} (hp : μ p = some (benN b ss (heldD d h))) (k : Q .none (up μ p (benN b ss h))) : wp_Bench___exit__ [.cell p, .none, .none, .none] μ Q X := by
  unfold wp_Bench___exit__
  simp only [Jbx, initE, Jcx, Jcj, Jbl, Jbm, Jc3, Jcs, Jct, Jca, Jcp, Jbn, Jcz, Jbo, Jbu, Jdd, Jde, Jdc, Jdf, Jdj, Jdh, Jdi, Jdg, Jc6, Jcc, Jd7, Jd6, Jcb, Jcm, Jd5, Jd4, Jcg, Jbs, Jd3, Jcl, Jbk, Jco, Jc9, Jbj, Jcn, Jck, Jd9, Jd8, Jdb, Jbp, Jci, Jcr, Jc5, Jcy, Jch, Jbq, Jcu, Jd0, Jdk, Jdl, Jcd, Jcv, Jcw, Jc8, Jbr, Jc4, Jbz, Jcf, gt, st, Jbc, Jba, Jbb, Jb8, Jbi, Ja5, atI0, atI1, atI2, atI3, atI4, ixN20, ixN21, List.map_cons, List.map_nil, List.cons_append, List.nil_append, List.append_nil, List.length_cons, List.length_nil, List.replicate_succ, List.replicate_zero, Nat.add_one_sub_one, Jda, Jbt, Jc0, Jc2, Jby, Jae, Jag, Jah, Jaf, Jb7, Jaw, Jax, Jak, Jav, Jb4, Jau, Jat, Jan, Jam, Jb2, Jai, Jaj, Jb0, Jb1, Jaq, Jb3, Jar, Jas, Jao, Jap, Jb6, Jb5, Ja7, Ja8, Jac, Jab, Ja0, Ja9, Jaa, Jbg, Jbh, Ja6, Jad, Jbd, Jbf, Jbe, Jb9, Ja2, Ja1, Ja4, Ja3, Jay, Jaz, decide_true, decide_false, Bool.not_true, Bool.not_false, Bool.false_eq_true, if_true, if_false, true_and, isNone, ben_obj hp, f_held, o_held, f_around, ben_ndO hp, p_held]
  exact ⟨by decide, k⟩
theorem ok_exitX (hk : isNone kd = false) (hp : μ p = some (benN b ss (heldD (doneD b tt) h))) (k : Q .none (up μ p (benN b tt h))) : wp_Bench___exit__ [.cell p, kd, e, t] μ Q X := by
  have up1 : up μ p (.obj "Bench" benF [ptD b, doneD b tt, heldD (doneD b tt) h]) p = some (benN b tt (heldD (doneD b tt) h)) := up_same
  unfold wp_Bench___exit__
  simp only [Jbx, initE, Jcx, Jcj, Jbl, Jbm, Jc3, Jcs, Jct, Jca, Jcp, Jbn, Jcz, Jbo, Jbu, Jdd, Jde, Jdc, Jdf, Jdj, Jdh, Jdi, Jdg, Jc6, Jcc, Jd7, Jd6, Jcb, Jcm, Jd5, Jd4, Jcg, Jbs, Jd3, Jcl, Jbk, Jco, Jc9, Jbj, Jcn, Jck, Jd9, Jd8, Jdb, Jbp, Jci, Jcr, Jc5, Jcy, Jch, Jbq, Jcu, Jd0, Jdk, Jdl, Jcd, Jcv, Jcw, Jc8, Jbr, Jc4, Jbz, Jcf, gt, st, Jbc, Jba, Jbb, Jb8, Jbi, Ja5, atI0, atI1, atI2, atI3, atI4, ixN20, ixN21, List.map_cons, List.map_nil, List.cons_append, List.nil_append, List.append_nil, List.length_cons, List.length_nil, List.replicate_succ, List.replicate_zero, Nat.add_one_sub_one, Jda, Jbt, Jc0, Jc2, Jby, Jae, Jag, Jah, Jaf, Jb7, Jaw, Jax, Jak, Jav, Jb4, Jau, Jat, Jan, Jam, Jb2, Jai, Jaj, Jb0, Jb1, Jaq, Jb3, Jar, Jas, Jao, Jap, Jb6, Jb5, Ja7, Ja8, Jac, Jab, Ja0, Ja9, Jaa, Jbg, Jbh, Ja6, Jad, Jbd, Jbf, Jbe, Jb9, Ja2, Ja1, Ja4, Ja3, Jay, Jaz, decide_true, decide_false, Bool.not_true, Bool.not_false, Bool.false_eq_true, if_true, if_false, true_and, hk, ben_obj hp, f_held, o_held, f_had, f_around, ben_ndO hp, p_done, ben_obj up1, ben_ndO up1, p_held, up_up]
  exact ⟨by decide, by decide, k⟩
end
end DL

set_option Elab.async false
set_option linter.all false
set_option maxRecDepth 100000
set_option maxHeartbeats 4000000
/-! A106: i // 0, which raises. -/
namespace DL
open PySem PySem.Spec PyProof.Rows L2
variable [Gds]
/-- i // 0: a ZeroDivisionError -/
def oFdivN : WOp := fun x y μ _ X => match x with
  | .int _ => (match y with
    | .int j => j = 0 ∧ X (.ty "ZeroDivisionError") μ
    | _ => False)
  | _ => False
theorem Jal (i j : Int) (μ : Mu) (Q : QR) (X : QD) : oFdivN (.int i) (.int j) μ Q X = (j = 0 ∧ X (.ty "ZeroDivisionError") μ) := propext Iff.rfl
section
variable {X : Cx} {c : Ctx} {W : WX}
theorem w_fdivN (hc : X.calm = true) (tk : Takes X W) : Op2 X c W 0 (binaryOp .FloorDiv) oFdivN := fun pins s σ H x y v u Q I rx ry z => by
  obtain ⟨S, F, n, J, μ, dx, dy, Qd, Xd, hl, w, ra, rb, h, q, xx⟩ := z
  cases ra <;> try exact h.elim
  cases rb <;> try exact h.elim
  obtain ⟨rfl, h⟩ := h
  obtain ⟨t, rfl⟩ := rx
  obtain ⟨t', rfl⟩ := ry
  exact PySem.AutoIntOps.floordiv_0 (by decide) ⟨I.ok.hd hc, fun h' tk' e hx => takes_new (t' := tk') tk I hx fun d => xx _ μ _ d J _ h (Same.refl J) w (.inr ⟨_, rfl, rfl, by decide⟩)⟩
end
end DL

set_option Elab.async false
set_option linter.all false
set_option maxRecDepth 100000
set_option maxHeartbeats 4000000
/-! A29: dicts with tuple keys: {}, d[k], d.get(k, x), d[k] = v. -/
namespace DL
open PySem PyProof.Rows L2
section
variable {c : Ctx} {S : Option SA} {F : Hp} {n : Nat} {I H : Hp} {μ : Mu}
end
/-! ### wishes -/
section
variable {X : Cx} {c : Ctx} {W : WX} {k ka kb kc ko kf : Nat} {a b d o v : Expr} {wa wb wd wo wv wk : WE} {m : Bool} {pos pos' apos cpos : Pos}
end
end DL

set_option Elab.async false
set_option linter.all false
set_option maxRecDepth 100000
set_option maxHeartbeats 4000000
/-! A30: dicts with tuple keys are walked: by keys, by items. -/
namespace L2
open PySem PySem.Spec PyProof.Rows
section
variable {P : Program} {w : World} {K : PySem.W.Frag} {tg : Expr} {d : Addr} {o : Obj} {es : Array DictEntry} {ep : Nat}
end
section
variable {X : Cx} {tg e : Expr} {td : TE} {apos cpos : Pos}
end
end L2
namespace DL
open PySem PyProof.Rows L2
section
variable {c : Ctx} {S : Option SA} {F : Hp} {n : Nat} {I H : Hp} {μ : Mu} {a : Addr} {u : HO}
end
section
variable {X : Cx} {c : Ctx} {W : WX} {k : Nat} {a tg : Expr} {wa : WE} {apos cpos : Pos}
end
end DL

set_option Elab.async false
set_option linter.all false
set_option maxRecDepth 100000
set_option maxHeartbeats 4000000
/-! A31: try, of which no exception is asked; names of whole numbers and texts. -/
namespace DL
open PySem PyProof.Rows L2
section
variable {X : Cx} {c : Ctx} {W : WX} {k : Nat} {x s : Str} {i : Int} {pos : Pos}
end
section
variable {X : Cx} {c : Ctx} {W : WX} {k : Nat} {a b d tg : Expr} {wr : WA} {pos : Pos}
end
end DL

set_option Elab.async false
set_option linter.all false
set_option maxRecDepth 100000
set_option maxHeartbeats 4000000
/-! A32: sorted(d), the keys pairs of whole numbers. -/
namespace L2
open PySem PySem.Spec PyProof.Rows
section
variable {prog : Program} {w : World} {A : Around} {E : Value → Shared → Prop} {s : Shared} {d : Addr} {o : Obj} {es : Array DictEntry} {ep : Nat}
end
section
variable {X : Cx}
end
end L2
namespace DL
open PySem PyProof.Rows L2
section
variable {X : Cx} {c : Ctx} {S : Option SA} {F : Hp} {n : Nat} {I H : Hp} {μ : Mu}
end
end DL

set_option Elab.async false
set_option linter.all false
set_option maxRecDepth 100000
set_option maxHeartbeats 4000000
/-! A33: {k: v for .. in .. if ..}, the keys tuples. -/
namespace L2
open PySem PySem.Spec PyProof.Rows
section
variable {X : Cx}
end
end L2
namespace DL
open PySem PyProof.Rows L2
section
variable {X : Cx} {c : Ctx} {W : WX} {k ka kb kc kt kk kv : Nat} {m : Bool} {js : List Nat} {g : WG} {wi : WI} {wt : WT} {wa wb : WE} {vs : List Nat}
end
end DL

set_option Elab.async false
set_option linter.all false
set_option maxRecDepth 100000
set_option maxHeartbeats 4000000
/-! A34: dict(d), dict(list of pairs), the keys pairs of small whole numbers. -/
namespace L2
open PySem PySem.Spec PyProof.Rows
/-! ### the hashes of small pairs are apart -/
end L2
namespace L2
open PySem PySem.Spec PyProof.Rows
end L2

set_option Elab.async false
set_option linter.all false
set_option maxRecDepth 100000
set_option maxHeartbeats 4000000
/-! A35: dict(d), dict(list of pairs), the keys tuples. -/
namespace L2
open PySem PySem.Spec PyProof.Rows
section
variable {X : Cx}
end
end L2

set_option Elab.async false
set_option linter.all false
set_option maxRecDepth 100000
set_option maxHeartbeats 4000000
/-! A36: max(.., default=..), sum, max of a list; dict(..). -/
namespace L2
open PySem PySem.Spec PyProof.Rows
section
variable {prog : Program} {w : World} {A : Around} {E : Value → Shared → Prop} {s : Shared} {l : Addr} {its : List Value} {ns : List Int}
end
section
variable {X : Cx}
end
end L2
namespace DL
open PySem PyProof.Rows L2
section
variable {X : Cx} {c : Ctx} {W : WX} {ka kb : Nat} {wa wb : WA}
end
end DL

set_option Elab.async false
set_option linter.all false
set_option maxRecDepth 100000
set_option maxHeartbeats 4000000
/-! A37: == of dicts with tuple keys. -/
namespace L2
open PySem PySem.Spec PyProof.Rows
section
variable {prog : Program} {w : World} {K : Type} [DecidableEq K] {kind : HeapKind prog w K} {A : Around} {Er : Value → Shared → Prop} {s : Shared} {d1 d2 : Addr} {l1 l2 : List (K × Addr × Value)} {eqv : K × Addr × Value → Bool}
/-- a dict's object, its entries, that they are l -/
structure Laid (kind : HeapKind prog w K) (h : Heap) (d : Addr) (l : List (K × Addr × Value)) (o : Obj) (es : Array DictEntry) (ep : Nat) : Prop where
  at_ : h.get? d = some o
  dat : o.data = .dict es ep
  ents : es.toList = l.map (entryOfKey kind)
  keys : ∀ x ∈ l, kind.is h x.1 x.2.1
  nodup : (l.map (·.1)).Nodup
end
/-! ### by values: whole numbers -/
section
variable {X : Cx}
end
end L2

set_option Elab.async false
set_option linter.all false
set_option maxRecDepth 100000
set_option maxHeartbeats 4000000
/-! A38: == and != of dicts with tuple keys and whole numbers, as wishes. -/
namespace DL
open PySem PyProof.Rows L2
section
variable {X : Cx} {c : Ctx} {W : WX}
end
end DL

set_option Elab.async false
set_option linter.all false
set_option maxRecDepth 100000
set_option maxHeartbeats 4000000
/-! A39: repr of lists that hold dicts with tuple keys. -/
namespace PySem
section
variable {prog : Program} {w : World} {h₀ : Heap} {A : Around} {E : Value → Shared → Prop} {s : Shared}
end
end PySem

set_option Elab.async false
set_option linter.all false
set_option maxRecDepth 100000
set_option maxHeartbeats 4000000
/-! A40: repr([..]) of lists that hold dicts of whole numbers with tuple keys, as a wish. -/
namespace DL
open PySem PyProof.Rows L2
def kp : Key → PyData
  | .inl i => .int i
  | .inr x => .str x
section
variable {X : Cx} {pins : List (Addr × Obj)} {σ : L2.St} {H : Hp} {s : Shared}
end
section
variable {X : Cx} {c : Ctx}
end
end DL

set_option Elab.async false
set_option linter.all false
set_option maxRecDepth 100000
set_option maxHeartbeats 4000000
/-! A41: list(d), the keys tuples. -/
namespace DL
open PySem PyProof.Rows L2
section
variable {X : Cx} {c : Ctx} {S : Option SA} {F : Hp} {n : Nat} {H : Hp} {μ : Mu}
end
end DL

set_option Elab.async false
set_option linter.all false
set_option maxRecDepth 100000
set_option maxHeartbeats 4000000
/-! A42: == and != of lists and tuples whose items are dicts with tuple keys and whole numbers. -/
namespace DL
open PySem PyProof.Rows L2
/-! ### items that are compared by some test -/
/-! ### two dicts -/
section
variable {X : Cx} {c : Ctx} {W : WX} {m : Nat} {S : Option SA} {F : Hp} {μ : Mu}
section
variable {Ok : Around → Prop} {E : D → D → Bool} {xs ys : List D} {I : Hp} {vs us : List V} {its its2 : List Value} {pins : List (Addr × Obj)} {σ : L2.St}
end
section
variable {Ok : Around → Prop} {E : D → D → Bool} {xs ys : List D} {I H : Hp} {pins : List (Addr × Obj)} {σ : L2.St} {s : Shared} {A : Around} {a b : Addr}
end
/-! ### as wishes -/
end
end DL

set_option Elab.async false
set_option linter.all false
set_option maxRecDepth 100000
set_option maxHeartbeats 4000000
/-! A43: zip of two lists. -/
namespace DL
open PySem PyProof.Rows L2
section
variable {X : Cx} {c : Ctx} {W : WX} {k ka kb : Nat} {a b tg : Expr} {wa : WE} {pos p : Pos} {es : List Expr} {wr : WA} {m : Bool}
end
end DL

set_option Elab.async false
set_option linter.all false
set_option maxRecDepth 100000
set_option maxHeartbeats 4000000
/-! A44: == of lists and tuples of instances whose own == is told by some test. -/
namespace DL
open PySem PyProof.Rows L2
variable [Gds]
/-- the own == of instances: a def that tells E of the fields -/
structure OwnI (X : Cx) (c : Ctx) (k : Nat) (n : Str) (fs : List Str) (P : List D → Prop) (E : List D → List D → Bool) : Prop where
  ex : ∃ (f : Addr) (fd : FuncData) (ps : List Str) (s : WP), FnW X.prog X.w X.K X.mg X.base k f fd ps (SpW c s 0) ∧ Binds X.K fd ps [] ∧ PySem.W.notFirst X.K (c.cl n) (.ref (c.cl n)) = true ∧ Spl X.K (c.cl n) "__eq__" f ∧
    ∀ μ xs ys (Q : QD) (Z : QD), P xs → P ys → Q (.bool (E xs ys)) μ → s [.obj n fs xs, .obj n fs ys] μ Q Z
section
variable {X : Cx} {c : Ctx} {W : WX} {m k : Nat} {S : Option SA} {F : Hp} {μ : Mu} {n : Str} {fs : List Str} {P : List D → Prop} {E : List D → List D → Bool}
/-! ### as wishes -/
end
end DL

set_option Elab.async false
set_option linter.all false
set_option maxRecDepth 100000
set_option maxHeartbeats 4000000
/-! A45: a, b, c = x, y, z. -/
namespace DL
open PySem PyProof.Rows L2
def wPar3 (i j l : Nat) (a : WA) : WS := fun e μ E => a e μ (fun ds μ1 => match ds with
  | [x, y, z] => E.nx (st (st (st e i (some x)) j (some y)) l (some z)) μ1
  | _ => False) fun d μ1 => E.xp d e μ1
theorem Jcq (i j l : Nat) (a : WA) (e : EnvD) (μ : Mu) (E : WEnds) : wPar3 i j l a e μ E = a e μ (fun ds μ1 => match ds with
  | [x, y, z] => E.nx (st (st (st e i (some x)) j (some y)) l (some z)) μ1
  | _ => False) fun d μ1 => E.xp d e μ1 := propext Iff.rfl
section
variable {X : Cx} {c : Ctx} {W : WX} {k i j l : Nat} {s : Stmt} {wr : WA}
theorem g_par3N {hp : PS X s (tPar3 i j l (ldA c W k wr))} : GS X c W k s (wPar3 i j l wr) := L2.PS.imp hp fun K σ H h => by
  obtain ⟨S, F, n, I, μ, e, E, hl, he, hw, h, q⟩ := h
  refine ⟨S, F, n, I, μ, e, _, _, hl, he, hw, h, fun ds μ1 vs I1 H1 p s1 u1 r1 => ?_, q.x he⟩
  rcases r1 with _ | ⟨r1, _ | ⟨r2, _ | ⟨r3, _ | _⟩⟩⟩
  · exact False.elim p
  · exact False.elim p
  · exact False.elim p
  · exact ⟨_, _, _, rfl, q.nx _ μ1 _ I1 H1 p s1 ((((he.mono s1).put r1 i).put r2 j).put r3 l) u1⟩
  · exact False.elim p
end
end DL

set_option Elab.async false
set_option linter.all false
set_option maxRecDepth 100000
set_option maxHeartbeats 4000000
/-! A69: list(d.values()), the keys tuples. -/
namespace L2
open PySem PySem.Spec PyProof.Rows
section
variable {X : Cx} {o : Expr} {p pos apos mpos : Pos} {td : TE}
end
end L2
namespace DL
open PySem PyProof.Rows L2
section
variable {X : Cx} {c : Ctx} {W : WX} {k : Nat} {o : Expr} {wa : WE} {m : Bool} {p pos apos mpos : Pos}
end
end DL

set_option Elab.async false
set_option linter.all false
set_option maxRecDepth 100000
set_option maxHeartbeats 4000000
/-! A70: what a run does to generators that it does not wake. A program can look at a sleeping generator's place only, not at what it would do; so a run in whose beginning all sleeping generators are stuck is, step by step, a run of the true state, and leaves them as they are. -/
namespace DL
open PySem
open Sem (wp)
def stuck : Resume → Sem PySem.Fin := fun _ => .unsupported ""
def NoGen : GenState → Prop
  | .suspended _ _ _ _ fs _ => splitAtGen fs = none
  | _ => True
inductive VR : GenState → GenState → Prop
  | same {x : GenState} (h : NoGen x) : VR x x
  | veiled (k : Resume → Sem PySem.Fin) (l : List Value) (c : Code) (p : Pos) (fs : List Frame) (cl : Bool) : VR (.suspended k l c p fs cl) (.suspended stuck l c p fs cl)
abbrev Gens := Array GenState
/-- the true table and the veiled one -/
structure VG (G P : Gens) : Prop where
  size : G.size = P.size
  at_ : ∀ (i : Nat) (x y : GenState), G[i]? = some x → P[i]? = some y → VR x y
def IsStuck (x : GenState) : Prop := ∃ l c p fs cl, x = .suspended stuck l c p fs cl
/-- what is stuck stays, and so does the true one -/
def Kp (G G' P P' : Gens) : Prop := ∀ (i : Nat) (y : GenState), P[i]? = some y → IsStuck y → P'[i]? = some y ∧ G'[i]? = G[i]?
theorem Kp.trans {G G1 G2 P P1 P2 : Gens} (a : Kp G G1 P P1) (b : Kp G1 G2 P1 P2) : Kp G G2 P P2 := fun i y h s => by
  obtain ⟨h1, h2⟩ := a i y h s
  obtain ⟨h3, h4⟩ := b i y h1 s
  exact ⟨h3, h4.trans h2⟩
section
variable {G P : Gens} {g i : Nat} {x y : GenState}
theorem VG.push (v : VG G P) (h : VR x y) : VG (G.push x) (P.push y) := by
  refine ⟨by rw [Array.size_push, Array.size_push, v.size], fun i a b ha hb => ?_⟩
  rw [Array.getElem?_push] at ha hb
  rw [v.size] at ha
  split at ha
  · rename_i e
    rw [if_pos e] at hb
    cases ha
    cases hb
    exact h
  · rename_i e
    rw [if_neg e] at hb
    exact v.at_ i a b ha hb
theorem Kp.push (s : G.size = P.size) (x z : GenState) : Kp G (G.push x) P (P.push z) := fun i w hw _ => by
  obtain ⟨hi, _⟩ := Array.getElem?_eq_some_iff.mp hw
  rw [Array.getElem?_push_lt hi, Array.getElem?_push_lt (by rw [s]; exact hi), ← Array.getElem?_eq_getElem, ← Array.getElem?_eq_getElem]
  exact ⟨hw, rfl⟩
end
def EndOk : End → Prop
  | .susp _ _ _ _ _ _ fs => splitAtGen fs = none
  | _ => True
theorem EndOk.st {e : End} (h : EndOk e) : NoGen e.genState := by
  cases e with
  | ret r => trivial
  | susp v g l k c p fs => exact h
end DL

set_option Elab.async false
set_option linter.all false
set_option maxRecDepth 100000
set_option maxHeartbeats 4000000
/-! A54: for within a generator def. -/
namespace DL
open PySem PySem.Spec PyProof.Rows L2 GenW
section
variable {X : Cx}
end
end DL

set_option Elab.async false
set_option linter.all false
set_option maxRecDepth 100000
set_option maxHeartbeats 4000000
/-! A55: generator defs over data: what they hand out, list(g(..)). -/
namespace DL
open PySem PySem.Spec PyProof.Rows L2
/-- what is wanted behind a statement of a generator; the list: what is out so far -/
structure WGE where
  nx : List D → EnvD → Mu → Prop
  rt : List D → D → Mu → Prop
  bk : List D → EnvD → Mu → Prop
  ct : List D → EnvD → Mu → Prop
  xp : D → EnvD → Mu → Prop
abbrev WY := List D → EnvD → Mu → WGE → Prop
/-- a generator def -/
abbrev WPY := List D → Mu → (List D → Mu → Prop) → QD → Prop
def WGE.at (E : WGE) (ds : List D) : WEnds := { nx := E.nx ds, rt := E.rt ds, bk := E.bk ds, ct := E.ct ds, xp := E.xp }
/-! ### readings -/
structure EVY (c : Ctx) (W : WX) (S : Option SA) (F : Hp) (n : Nat) (I : Hp) (E : WGE) (K : GEnds) : Prop where
  nx : ∀ ds e' μ' ys σ' I' H', E.nx ds e' μ' → Same I I' → EnvR c S I' e' σ' → Reps c S I' ds ys → Wd c S F n I' μ' H' → K.nx ys σ' H'
  rt : ∀ ds d μ' ys v I' H', E.rt ds d μ' → Same I I' → Reps c S I' ds ys → Wd c S F n I' μ' H' → Rep c S I' d v → K.rt ys v H'
  bk : ∀ ds e' μ' ys σ' I' H', E.bk ds e' μ' → Same I I' → EnvR c S I' e' σ' → Reps c S I' ds ys → Wd c S F n I' μ' H' → K.bk ys σ' H'
  ct : ∀ ds e' μ' ys σ' I' H', E.ct ds e' μ' → Same I I' → EnvR c S I' e' σ' → Reps c S I' ds ys → Wd c S F n I' μ' H' → K.ct ys σ' H'
  xp : ∀ d e' μ' cls dx σ' I' H', E.xp d e' μ' → Same I I' → EnvR c S I' e' σ' → Wd c S F n I' μ' H' → ErrAt c S I' d cls dx → W cls dx σ' H'
section
variable {c : Ctx} {W : WX} {S : Option SA} {F F' : Hp} {n n' : Nat} {I I' : Hp} {E : WGE} {K : GEnds}
theorem EVY.mono (h : EVY c W S F n I E K) (l : n' ≤ n) (s : Same I I') : EVY c W S F n' I' E K :=
  ⟨fun ds e' μ' ys σ' I2 H' p s2 r q w => h.nx ds e' μ' ys σ' I2 H' p (s.trans s2) r q (w.up l), fun ds d μ' ys v I2 H' p s2 q w r => h.rt ds d μ' ys v I2 H' p (s.trans s2) q (w.up l) r, fun ds e' μ' ys σ' I2 H' p s2 r q w => h.bk ds e' μ' ys σ' I2 H' p (s.trans s2) r q (w.up l),
    fun ds e' μ' ys σ' I2 H' p s2 r q w => h.ct ds e' μ' ys σ' I2 H' p (s.trans s2) r q (w.up l), fun d e' μ' cls dx σ' I2 H' p s2 r w er => h.xp d e' μ' cls dx σ' I2 H' p (s.trans s2) r (w.up l) er⟩
theorem EVY.x {e : EnvD} {σ : L2.St} (h : EVY c W S F n I E K) (he : EnvR c S I e σ) : XV c W S F n I σ fun d μ1 => E.xp d e μ1 := fun d μ' cls dx I2 H' p s w er => h.xp d e μ' cls dx σ I2 H' p s (he.mono s) w er
theorem EVY.ev {ds : List D} {ys : List V} (h : EVY c W S F n I E K) (r : Reps c S I ds ys) : EV c W S F n I (E.at ds) (K.at ys) :=
  ⟨fun e' μ' σ' I2 H' p s re w => h.nx ds e' μ' ys σ' I2 H' p s re (r.mono s) w, fun d μ' v I2 H' p s w rv => h.rt ds d μ' ys v I2 H' p s (r.mono s) w rv, fun e' μ' σ' I2 H' p s re w => h.bk ds e' μ' ys σ' I2 H' p s re (r.mono s) w,
    fun e' μ' σ' I2 H' p s re w => h.ct ds e' μ' ys σ' I2 H' p s re (r.mono s) w, fun d e' μ' cls dx σ' I2 H' p s re w er => h.xp d e' μ' cls dx σ' I2 H' p s re w er⟩
end
section
variable {X : Cx} {c : Ctx} {W : WX} {k ka kb kk : Nat} {s : Stmt} {ss : List Stmt} {w : WS} {w1 w2 : WY} {a : Expr} {wa : WE} {pos yp : Pos}
end
/-! ### a generator def's promise -/
section
variable {P : Program} {w : PySem.World} {K : PySem.W.Frag} {mg : Str → Option Value} {base : Heap} {c : Ctx} {f : Addr} {fd : FuncData} {ps : List Str}
end
section
variable {X : Cx} {c : Ctx} {E : XK} {k kf ka : Nat} {f : Addr} {fd : FuncData} {ps : List Str} {s : WPY} {a : Expr} {es : List Expr} {wr : WA} {x : Str} {m : Bool} {p p' pos pos' : Pos}
end
end DL

set_option Elab.async false
set_option linter.all false
set_option maxRecDepth 100000
set_option maxHeartbeats 4000000
/-! A62: while within generators; where a text stands in a list of texts. -/
namespace DL
open PySem PyProof.Rows L2
section
variable {X : Cx} {c : Ctx} {W : WX} {kt kk : Nat} {a : Expr} {wt : WT} {w1 : WY} {pos : Pos}
end
section
variable {X : Cx} {c : Ctx}
end
end DL

set_option Elab.async false
set_option linter.all false
set_option maxRecDepth 100000
set_option maxHeartbeats 4000000
/-! A71: a generator that is woken: the context of the piece of its run that begins now. -/
namespace DL
open PySem PySem.Spec PyProof.Rows L2
section
variable {h : Heap} {n : Nat} {b : Addr} {o : Obj} {H : Hp} {u : HO}
end
section
variable {P : Program} {w : PySem.World} {K : PySem.W.Frag} {mg : Str → Option Value} {base : Heap} {N ps : List Str} {qual : Str} {sc : Scope} {f : Addr} {cd : Value} {A : Around} {outer : List Env} {s : Shared} {H : Hp} {E : XK} {pn : List (Addr × Obj)} {σ : L2.St} {L : Nat}
/-- what must hold of its frame -/
def LocG (N : List Str) (qual : Str) (sc : Scope) (f : Addr) (cd : Value) (L : Nat) (σ : L2.St) (h : Heap) : Prop :=
  ∃ m, h.Ns L m ∧ ∀ (i : Nat) (x : Str) (v : V), N[i]? = some x → σ[i]? = some (some v) → Vis sc x → ∃ u, RelV v u ∧ Look (envOfC qual sc L f cd) h m x u
end
end DL

set_option Elab.async false
set_option linter.all false
set_option maxRecDepth 100000
set_option maxHeartbeats 4000000
/-! A72: one piece of a generator's run, told by its end alone. -/
namespace DL
open PySem PySem.Spec PyProof.Rows
section
variable {M : Model} {A : Around} {Φ : End → Shared → Prop} {c c' : Code} {fs : List Frame} {s : Shared}
end
end DL

set_option Elab.async false
set_option linter.all false
set_option maxRecDepth 100000
set_option maxHeartbeats 4000000
/-! A73: statements of a generator's body, by the end of the piece. -/
namespace DL
open PySem PySem.Spec PyProof.Rows
section
variable {prog : Program} {w : PySem.World} {A : Around} {Φ : End → Shared → Prop} {c : Code} {fs : List Frame} {s : Shared} {env : Env} {K : Flow → Sem PySem.Fin} {J : Value → Sem PySem.Fin} {gd : Bool → Bool} {lv : List Value → List Value}
end
end DL

set_option Elab.async false
set_option linter.all false
set_option maxRecDepth 100000
set_option maxHeartbeats 4000000
/-! A74: a generator def whose body is some statements and a loop with one yield: what each piece of its run hands out. -/
namespace DL
open PySem PySem.Spec PyProof.Rows L2 GenW
def never : XK := fun _ _ _ => False
/-- a generator def's body: statements, then a loop with one yield -/
structure GBody where
  pre : List Stmt
  test : Expr
  b1 : List Stmt
  e : Expr
  b2 : List Stmt
  yp : Pos
  ypos : Pos
  wpos : Pos
def GBody.turn (B : GBody) : List Stmt := B.b1 ++ .Expr (.Yield (some B.e) B.yp) B.ypos :: B.b2
def GBody.all (B : GBody) : List Stmt := B.pre ++ [.While B.test B.turn [] B.wpos]
/-- what its pieces do -/
structure GRead where
  pre : TS
  test : TT
  b1 : TS
  e : TE
  b2 : TS
section
variable {P : Program} {w : PySem.World} {K : PySem.W.Frag} {mg : Str → Option Value} {base : Heap} {N : List Str} {qual : Str} {sc : Scope} {f : Addr} {cd : Value} {A : Around} {outer : List Env} {pn : List (Addr × Obj)} {L : Nat} {B : GBody} {T : GRead}
structure Reads (P : Program) (w : PySem.World) (K : PySem.W.Frag) (mg : Str → Option Value) (base : Heap) (N : List Str) (qual : Str) (sc : Scope) (f : Addr) (cd : Value) (A : Around) (outer : List Env) (pn : List (Addr × Obj)) (L : Nat) (B : GBody) (T : GRead) : Prop where
  pre : ∀ s0 H0, s0.heap.objs.size = L → PSs (gcxOf P w K mg base N qual sc f cd A outer s0 H0 never pn) B.pre T.pre
  test : ∀ s0 H0, s0.heap.objs.size = L → PT (gcxOf P w K mg base N qual sc f cd A outer s0 H0 never pn) B.test T.test
  b1 : ∀ s0 H0, s0.heap.objs.size = L → PSs (gcxOf P w K mg base N qual sc f cd A outer s0 H0 never pn) B.b1 T.b1
  e : ∀ s0 H0, s0.heap.objs.size = L → PE (gcxOf P w K mg base N qual sc f cd A outer s0 H0 never pn) B.e T.e
  b2 : ∀ s0 H0, s0.heap.objs.size = L → PSs (gcxOf P w K mg base N qual sc f cd A outer s0 H0 never pn) B.b2 T.b2
  co : sc.isCoroutine = false
  ia : interactive (envOfC qual sc L f cd) = false
/-- what is wanted at the loop's head: of the next thing handed out, of the end -/
def GRead.head (T : GRead) (Y : V → L2.St → Hp → Prop) (Z : Hp → Prop) : L2.St → Hp → Prop := fun σ H => T.test σ H fun b H1 => if b = true then T.b1 { nx := fun σ2 H2 => T.e σ2 H2 fun x H3 => Y x σ2 H3, rt := fun _ _ => False } σ H1 else Z H1
def GRead.start (T : GRead) (Y : V → L2.St → Hp → Prop) (Z : Hp → Prop) : L2.St → Hp → Prop := T.pre { nx := T.head Y Z, rt := fun _ _ => False }
end
end DL

set_option Elab.async false
set_option linter.all false
set_option maxRecDepth 100000
set_option maxHeartbeats 4000000
/-! A75: the pieces of such a generator's run. -/
namespace DL
open PySem PySem.Spec PyProof.Rows L2 GenW
section
variable {P : Program} {w : PySem.World} {K : PySem.W.Frag} {mg : Str → Option Value} {base : Heap} {N : List Str} {qual : Str} {sc : Scope} {f : Addr} {cd : Value} {A : Around} {outer : List Env} {pn : List (Addr × Obj)} {L : Nat} {B : GBody} {T : GRead}
end
end DL

set_option Elab.async false
set_option linter.all false
set_option maxRecDepth 100000
set_option maxHeartbeats 4000000
/-! A76: next of such a generator. -/
namespace DL
open PySem PySem.Spec PyProof.Rows L2 GenW
end DL

set_option Elab.async false
set_option linter.all false
set_option maxRecDepth 100000
set_option maxHeartbeats 4000000
/-! A77: judgements whose run leaves a sleeping generator as it is; how a generator is made. -/
namespace DL
open PySem PySem.Spec PyProof.Rows L2 GenW
theorem VR.bare {x y : GenState} (h : VR x y) : x.bare = y.bare := by cases h <;> rfl
theorem VG.bareG {G P : Gens} (v : VG G P) (h : AllBare P) : AllBare G := fun x hx => by
  obtain ⟨i, hi, e⟩ := Array.mem_iff_getElem.mp hx
  have hi2 : i < P.size := by rw [← v.size]; exact hi
  have r := v.at_ i x P[i] (by rw [Array.getElem?_eq_getElem hi, e]) (Array.getElem?_eq_getElem hi2)
  rw [r.bare]
  exact h _ (Array.getElem_mem hi2)
section
variable {M : Model} {A : Around} {s : Shared} {g : Nat} {k : Resume → Sem PySem.Fin} {l : List Value} {c : Code} {p : Pos} {fs : List Frame} {cl : Bool}
end
section
variable {X : Cx} {pins : List (Addr × Obj)} {σ : L2.St} {H : Hp} {s : Shared}
theorem Inv.gens {G : Gens} (I : Inv X pins σ H s) (h : AllBare G) : Inv X pins σ H { s with gens := G } := ⟨I.ok, I.os, h, I.base, I.loc, I.cell, I.free, I.freeC, I.pin, I.hok, I.len⟩
theorem SP.gens {D : Ends} {f : Flow} {P : Gens} (v : VG s.gens P) (h : SP X pins D f { s with gens := P }) : SP X pins D f s := by
  have back : ∀ {σ H}, Inv X pins σ H { s with gens := P } → Inv X pins σ H s := fun I => Inv.gens (s := { s with gens := P }) (G := s.gens) I (v.bareG I.bare)
  cases f with
  | next => obtain ⟨σ, H, I, q⟩ := h; exact ⟨σ, H, back I, q⟩
  | brk => obtain ⟨σ, H, I, q⟩ := h; exact ⟨σ, H, back I, q⟩
  | cont => obtain ⟨σ, H, I, q⟩ := h; exact ⟨σ, H, back I, q⟩
  | ret u => obtain ⟨v', σ, H, I, r, q⟩ := h; exact ⟨v', σ, H, back I, r, q⟩
end
section
variable {P : Program} {w : PySem.World} {K : PySem.W.Frag} {mg : Str → Option Value} {base : Heap} {CX0 : CXT} {N : List Str} {qual : Str} {sc : Scope} {f : Addr} {cd : Value} {A : Around} {outer : List Env} {s : Shared} {H : Hp} {E : XK}
end
end DL

set_option Elab.async false
set_option linter.all false
set_option maxRecDepth 100000
set_option maxHeartbeats 4000000
/-! A78: how a generator is made; how it stands between two pieces. -/
namespace DL
open PySem PySem.Spec PyProof.Rows L2 GenW
section
variable {P : Program} {w : PySem.World} {K : PySem.W.Frag} {mg : Str → Option Value} {base : Heap} {N ps : List Str} {qual : Str} {sc : Scope} {f : Addr} {cd : Value} {L : Nat} {σ : L2.St} {h h' : Heap}
theorem LocG.at (nc : cellsFrom (L + 1) sc.names [] = []) (e : ∀ o, h.get? L = some o → h'.get? L = some o) (q : LocG N qual sc f cd L σ h) : LocG N qual sc f cd L σ h' := by
  obtain ⟨m, ⟨o, es, ep, ho, hd, r⟩, q⟩ := q
  refine ⟨m, ⟨o, es, ep, e o ho, hd, r⟩, fun i x v h1 h2 h3 => ?_⟩
  obtain ⟨u, ru, lk⟩ := q i x v h1 h2 h3
  refine ⟨u, ru, ?_⟩
  rcases lk with lk | ⟨_, c, hc, _⟩
  · exact .inl lk
  · have hc2 : (cellsFrom (L + 1) sc.names []).lookup x = some c := hc
    rw [nc] at hc2
    cases hc2
/-- a generator that has not begun -/
structure Made (N : List Str) (qual : Str) (sc : Scope) (f : Addr) (cd : Value) (bd : List Stmt) (σ : L2.St) (s s' : Shared) (a : Addr) (go : Obj) : Prop where
  lo : s.heap.objs.size < a
  hi : a < s'.heap.objs.size
  at_ : s'.heap.get? a = some go
  cls : go.cls = .type "generator"
  data : ∃ nm qn, go.data = .fields #[.int s.gens.size 0, nm, qn]
  slots : go.slots = #[]
  gens : s'.gens = s.gens.push (.fresh (.func bd (envOfC qual sc s.heap.objs.size f cd)))
  os : s'.os = s.os
  keep : ∀ b o, s.heap.get? b = some o → s'.heap.get? b = some o
  loc : LocG N qual sc f cd s.heap.objs.size σ s'.heap
end
end DL

set_option Elab.async false
set_option linter.all false
set_option maxRecDepth 100000
set_option maxHeartbeats 4000000
/-! A79: a generator and its consumer, turn by turn. -/
namespace DL
open PySem PySem.Spec PyProof.Rows L2 GenW
/-- what is so since the generator was made -/
structure Sits (X : Cx) (pins : List (Addr × Obj)) (L a : Addr) (g : Nat) (go : Obj) : Prop where
  s0 : X.s_0.heap.objs.size ≤ L
  loc : X.env.locals < L
  cell : ∀ x c, X.env.cells.lookup x = some c → c < L
  pin : ∀ p ∈ X.pn ++ pins, p.1 < L
  fr : ∀ b ∈ frs X.stack, b < L
  base : X.base.objs.size ≤ L
  la : L < a
  cls : go.cls = .type "generator"
  data : ∃ nm qn, go.data = .fields #[.int g 0, nm, qn]
  slots : go.slots = #[]
section
variable {X : Cx} {pins : List (Addr × Obj)} {L a : Addr} {g : Nat} {go obj : Obj} {N ps : List Str} {qual : Str} {sc : Scope} {f : Addr} {cd : Value} {σ σg : L2.St} {H HW : Hp} {s sW : Shared}
end
end DL

set_option Elab.async false
set_option linter.all false
set_option maxRecDepth 100000
set_option maxHeartbeats 4000000
/-! A80: for over a generator. -/
namespace DL
open PySem PySem.Spec PyProof.Rows L2 GenW
section
variable {X : Cx} {B : GBody} {T : GRead} {N ps : List Str} {nm qual : Str} {pa : Arguments} {sc : Scope} {dvs : List V} {kws : List (Str × V)} {f : Addr} {fd : FuncData} {ds : List Value} {tg : Expr} {g : TG} {body : List Stmt} {tb : TS} {e : Expr} {es : List Expr} {t : TA} {p pos pos' : Pos}
end
end DL

set_option Elab.async false
set_option linter.all false
set_option maxRecDepth 100000
set_option maxHeartbeats 4000000
/-! A81: the for statement over a generator's call. -/
namespace DL
open PySem PySem.Spec PyProof.Rows L2 GenW
section
variable {X : Cx} {B : GBody} {T : GRead} {N ps : List Str} {nm qual : Str} {pa : Arguments} {sc : Scope} {dvs : List V} {kws : List (Str × V)} {f : Addr} {fd : FuncData} {ds : List Value} {tg : Expr} {g : TG} {body : List Stmt} {tb : TS} {e : Expr} {es : List Expr} {t : TA} {p pos pos' : Pos}
end
end DL

set_option Elab.async false
set_option linter.all false
set_option maxRecDepth 100000
set_option maxHeartbeats 4000000
/-! A82: for over a generator, as a wish: the generator's wishes and the body's wish by turns. -/
namespace DL
open PySem PySem.Spec PyProof.Rows L2 GenW
/-- the wishes of a generator def's pieces; n its parameters, N its names -/
structure WGen where
  n : Nat
  N : Nat
  pre : WS
  t : WT
  b1 : WS
  e : WE
  b2 : WS
section
variable {c : Ctx} {W : WX} {S : Option SA} {F : Hp} {G : WGen} {g : WG} {js : List Nat} {b : WS} {E : WEnds} {K : Ends} {r : EnvD → EnvD → Mu → Prop} {Wn : L2.St → L2.St → Hp → Prop} {kp kt k1 ke k2 kb n : Nat} {I : Hp} {μ : Mu} {H : Hp} {eg e : EnvD} {σg σ : L2.St}
end
section
variable {X : Cx} {c : Ctx} {W : WX} {B : GBody} {G : WGen} {N ps : List Str} {nm qual : Str} {pa : Arguments} {sc : Scope} {kws : List (Str × V)} {f : Addr} {fd : FuncData} {tg : Expr} {g : WG} {js : List Nat} {body : List Stmt} {b : WS} {e : Expr} {es : List Expr} {wr : WA} {p pos pos' : Pos} {ka kp kt k1 ke k2 kb : Nat}
end
end DL

set_option Elab.async false
set_option linter.all false
set_option maxRecDepth 100000
set_option maxHeartbeats 4000000
/-! A83: what a printed derivation needs of for over a generator; a statement that is never reached. -/
namespace DL
open PySem PySem.Spec PyProof.Rows L2 GenW
instance : Inhabited GBody := ⟨⟨[], .Name "x" default, [], .Name "x" default, [], default, default, default⟩⟩
def wDead : WS := fun _ _ _ => False
theorem g_dead {X : Cx} {c : Ctx} {W : WX} {s : Stmt} : GS X c W 0 s wDead := ⟨fun pins s σ H D I h => by
  obtain ⟨_, _, _, _, _, _, _, _, _, _, z, _⟩ := h
  exact z.elim⟩
section
variable {X : Cx} {c : Ctx} {W : WX} {k k' : Nat} {ex : Expr}
end
end DL

set_option Elab.async false
set_option linter.all false
set_option maxRecDepth 100000
set_option maxHeartbeats 400000
/-! K63a: the wishes of the law k63. -/
namespace DL
open PySem L2
def wp_law_end : WP := (wDef 2 2 (wSeq (wIfS (wTst (wOp false oEq (wV 1) (wK (.int 1)))) (wDrop (wMeth "Bench" "do" wp_Bench_do [] (wV 0) (waCons (wTup (waCons (wK (.str "turn")) (waCons (wK (.int 2)) (waCons (wK (.int 0)) (waCons (wK (.int 0)) (waCons (wK (.int 1)) waNil)))))) waNil))) wNext)
    (wSeq (wIfS (wTst (wOp false oEq (wV 1) (wK (.int 2)))) (wRet wLost) wNext)
    (wSeq (wIfS (wTst (wOp false oEq (wV 1) (wK (.int 3)))) (wRet (wOp false oFdivN (wK (.int 1)) (wK (.int 0)))) wNext)
    (wRet (wK (.str "well")))))))
def wp_law_job__r0 : WP := (wDef 4 5 (wSeq (wFor (wiRng1 (waCons (wOp false oIx (wV 3) (wK (.int 0))) waNil)) (wgN 4) (wSeq (wIfS (wNotT (wTst (wCall wp_law_some_done [] (waCons (wV 0) (waCons (wV 1) (waCons (wV 2) (waCons (wOp false oAdd (wK (.int 1)) (wCall wp_law_take [] (waCons (wV 0) (waCons (wK (.int 3)) waNil)))) waNil))))))) (wRet (wK (.str "wrong"))) wNext)
    (wIfS (wAndT (wTst (wOp false oGt (wOp false oIx (wV 3) (wK (.int 2))) (wK (.int 0)))) (wTst (wOp false oEq (wCall wp_law_take [] (waCons (wV 0) (waCons (wK (.int 3)) waNil))) (wK (.int 0))))) wDead wNext)))
    (wRet (wCall wp_law_end [] (waCons (wV 1) (waCons (wOp false oIx (wV 3) (wK (.int 1))) waNil))))))
def wp_law_block__r0_0 : WS := (wAsg 4 (wLst false (waCons (wCall wp_law_take [] (waCons (wV 0) (waCons (wK (.int 4)) waNil))) (waCons (wCall wp_law_pick [] (waCons (wV 0) (waCons (wLst false (waCons (wK (.int 0)) (waCons (wK (.int 0)) (waCons (wK (.int 1)) (waCons (wK (.int 2)) (waCons (wK (.int 3)) waNil)))))) waNil))) (waCons (wV 3) (waCons (wCall wp_law_take [] (waCons (wV 0) (waCons (wK (.int 2)) waNil))) waNil))))))
def wp_law_block__r0_1 : WS := (wPar3 5 6 7 (waCons (wDGet "past" (wV 2)) (waCons (wK (.str "none")) (waCons (wK (.str "none")) waNil))))
def wp_law_block__r0_2 : WS := (wTryH [((.cls "BadDeed"), (wAsg 7 (wK (.str "deed")))), ((.ty "KeyError"), (wAsg 7 (wK (.str "key")))), ((.ty "ZeroDivisionError"), (wAsg 7 (wK (.str "zero"))))] (wIfS (wTst (wOp false oEq (wOp false oIx (wV 4) (wK (.int 3))) (wK (.int 0)))) (wAsg 6 (wTriedX "Bench" wp_Bench___enter__ wp_Bench___exit__ (wCall wp_law_job__r0 [] (waCons (wV 1) (waCons (wV 0) (waCons (wV 3) (waCons (wV 5) waNil))))) (wV 1))) (wAsg 6 (wTriedX "Bench" wp_Bench___enter__ wp_Bench___exit__ (wCall wp_law_job__r0 [] (waCons (wV 1) (waCons (wV 2) (waCons (wV 3) (waCons (wV 5) waNil))))) (wV 1)))))
def wp_law_block__r0_3 : WS := (wIfS (wOrT (wTst (wOp false oEq (wV 6) (wK (.str "wrong")))) (wTst (wOp false oNe (wV 7) (wOp false oIx (wLst false (waCons (wK (.str "none")) (waCons (wK (.str "deed")) (waCons (wK (.str "key")) (waCons (wK (.str "zero")) waNil))))) (wOp false oIx (wV 4) (wK (.int 1))))))) (wRet (wK (.str "wrong"))) wNext)
def wp_law_block__r0_4 : WS := (wIfS (wTst (wOp false oNe (wV 7) (wK (.str "none")))) (wDPut "past" (wV 2) (wV 5)) wNext)
def wp_law_block__r0_5 : WS := (wRet (wIf (wAndT (wTst (wOp false oEq (wV 6) (wOp false oIx (wLst false (waCons (wK (.str "well")) (waCons (wK (.str "none")) waNil))) (wCb false cbInt (waCons (wOp false oNe (wV 7) (wK (.str "none"))) waNil))))) (wTst (wCall wp_law_bench_shows [] (waCons (wV 1) (waCons (wV 2) waNil))))) (wK (.str "right")) (wK (.str "wrong"))))
def wp_law_block__r0 : WP := wDef 4 8 (wSeq wp_law_block__r0_0 (wSeq wp_law_block__r0_1 (wSeq wp_law_block__r0_2 (wSeq wp_law_block__r0_3 (wSeq wp_law_block__r0_4 wp_law_block__r0_5)))))
def wp_law_job__r1 : WP := (wDef 4 5 (wSeq (wFor (wiRng1 (waCons (wOp false oIx (wV 3) (wK (.int 0))) waNil)) (wgN 4) (wSeq (wIfS (wNotT (wTst (wCall wp_law_some_done [] (waCons (wV 0) (waCons (wV 1) (waCons (wV 2) (waCons (wOp false oAdd (wK (.int 1)) (wCall wp_law_take [] (waCons (wV 0) (waCons (wK (.int 3)) waNil)))) waNil))))))) (wRet (wK (.str "wrong"))) wNext)
    (wIfS (wAndT (wTst (wOp false oGt (wOp false oIx (wV 3) (wK (.int 2))) (wK (.int 0)))) (wTst (wOp false oEq (wCall wp_law_take [] (waCons (wV 0) (waCons (wK (.int 3)) waNil))) (wK (.int 0))))) (wIfS (wTst (wOp false oEq (wCall wp_law_block__r0 [] (waCons (wV 0) (waCons (wV 1) (waCons (wV 2) (waCons (wOp false oSub (wOp false oIx (wV 3) (wK (.int 2))) (wK (.int 1))) waNil))))) (wK (.str "wrong")))) (wRet (wK (.str "wrong"))) wNext) wNext)))
    (wRet (wCall wp_law_end [] (waCons (wV 1) (waCons (wOp false oIx (wV 3) (wK (.int 1))) waNil))))))
def wp_law_block__r1_0 : WS := (wAsg 4 (wLst false (waCons (wCall wp_law_take [] (waCons (wV 0) (waCons (wK (.int 4)) waNil))) (waCons (wCall wp_law_pick [] (waCons (wV 0) (waCons (wLst false (waCons (wK (.int 0)) (waCons (wK (.int 0)) (waCons (wK (.int 1)) (waCons (wK (.int 2)) (waCons (wK (.int 3)) waNil)))))) waNil))) (waCons (wV 3) (waCons (wCall wp_law_take [] (waCons (wV 0) (waCons (wK (.int 2)) waNil))) waNil))))))
def wp_law_block__r1_1 : WS := (wPar3 5 6 7 (waCons (wDGet "past" (wV 2)) (waCons (wK (.str "none")) (waCons (wK (.str "none")) waNil))))
def wp_law_block__r1_2 : WS := (wTryH [((.cls "BadDeed"), (wAsg 7 (wK (.str "deed")))), ((.ty "KeyError"), (wAsg 7 (wK (.str "key")))), ((.ty "ZeroDivisionError"), (wAsg 7 (wK (.str "zero"))))] (wIfS (wTst (wOp false oEq (wOp false oIx (wV 4) (wK (.int 3))) (wK (.int 0)))) (wAsg 6 (wTriedX "Bench" wp_Bench___enter__ wp_Bench___exit__ (wCall wp_law_job__r1 [] (waCons (wV 1) (waCons (wV 0) (waCons (wV 3) (waCons (wV 5) waNil))))) (wV 1))) (wAsg 6 (wTriedX "Bench" wp_Bench___enter__ wp_Bench___exit__ (wCall wp_law_job__r1 [] (waCons (wV 1) (waCons (wV 2) (waCons (wV 3) (waCons (wV 5) waNil))))) (wV 1)))))
def wp_law_block__r1_3 : WS := (wIfS (wOrT (wTst (wOp false oEq (wV 6) (wK (.str "wrong")))) (wTst (wOp false oNe (wV 7) (wOp false oIx (wLst false (waCons (wK (.str "none")) (waCons (wK (.str "deed")) (waCons (wK (.str "key")) (waCons (wK (.str "zero")) waNil))))) (wOp false oIx (wV 4) (wK (.int 1))))))) (wRet (wK (.str "wrong"))) wNext)
def wp_law_block__r1_4 : WS := (wIfS (wTst (wOp false oNe (wV 7) (wK (.str "none")))) (wDPut "past" (wV 2) (wV 5)) wNext)
def wp_law_block__r1_5 : WS := (wRet (wIf (wAndT (wTst (wOp false oEq (wV 6) (wOp false oIx (wLst false (waCons (wK (.str "well")) (waCons (wK (.str "none")) waNil))) (wCb false cbInt (waCons (wOp false oNe (wV 7) (wK (.str "none"))) waNil))))) (wTst (wCall wp_law_bench_shows [] (waCons (wV 1) (waCons (wV 2) waNil))))) (wK (.str "right")) (wK (.str "wrong"))))
def wp_law_block__r1 : WP := wDef 4 8 (wSeq wp_law_block__r1_0 (wSeq wp_law_block__r1_1 (wSeq wp_law_block__r1_2 (wSeq wp_law_block__r1_3 (wSeq wp_law_block__r1_4 wp_law_block__r1_5)))))
def wp_law_job__r2 : WP := (wDef 4 5 (wSeq (wFor (wiRng1 (waCons (wOp false oIx (wV 3) (wK (.int 0))) waNil)) (wgN 4) (wSeq (wIfS (wNotT (wTst (wCall wp_law_some_done [] (waCons (wV 0) (waCons (wV 1) (waCons (wV 2) (waCons (wOp false oAdd (wK (.int 1)) (wCall wp_law_take [] (waCons (wV 0) (waCons (wK (.int 3)) waNil)))) waNil))))))) (wRet (wK (.str "wrong"))) wNext)
    (wIfS (wAndT (wTst (wOp false oGt (wOp false oIx (wV 3) (wK (.int 2))) (wK (.int 0)))) (wTst (wOp false oEq (wCall wp_law_take [] (waCons (wV 0) (waCons (wK (.int 3)) waNil))) (wK (.int 0))))) (wIfS (wTst (wOp false oEq (wCall wp_law_block__r1 [] (waCons (wV 0) (waCons (wV 1) (waCons (wV 2) (waCons (wOp false oSub (wOp false oIx (wV 3) (wK (.int 2))) (wK (.int 1))) waNil))))) (wK (.str "wrong")))) (wRet (wK (.str "wrong"))) wNext) wNext)))
    (wRet (wCall wp_law_end [] (waCons (wV 1) (waCons (wOp false oIx (wV 3) (wK (.int 1))) waNil))))))
def wp_law_block__r2_0 : WS := (wAsg 4 (wLst false (waCons (wCall wp_law_take [] (waCons (wV 0) (waCons (wK (.int 4)) waNil))) (waCons (wCall wp_law_pick [] (waCons (wV 0) (waCons (wLst false (waCons (wK (.int 0)) (waCons (wK (.int 0)) (waCons (wK (.int 1)) (waCons (wK (.int 2)) (waCons (wK (.int 3)) waNil)))))) waNil))) (waCons (wV 3) (waCons (wCall wp_law_take [] (waCons (wV 0) (waCons (wK (.int 2)) waNil))) waNil))))))
def wp_law_block__r2_1 : WS := (wPar3 5 6 7 (waCons (wDGet "past" (wV 2)) (waCons (wK (.str "none")) (waCons (wK (.str "none")) waNil))))
def wp_law_block__r2_2 : WS := (wTryH [((.cls "BadDeed"), (wAsg 7 (wK (.str "deed")))), ((.ty "KeyError"), (wAsg 7 (wK (.str "key")))), ((.ty "ZeroDivisionError"), (wAsg 7 (wK (.str "zero"))))] (wIfS (wTst (wOp false oEq (wOp false oIx (wV 4) (wK (.int 3))) (wK (.int 0)))) (wAsg 6 (wTriedX "Bench" wp_Bench___enter__ wp_Bench___exit__ (wCall wp_law_job__r2 [] (waCons (wV 1) (waCons (wV 0) (waCons (wV 3) (waCons (wV 5) waNil))))) (wV 1))) (wAsg 6 (wTriedX "Bench" wp_Bench___enter__ wp_Bench___exit__ (wCall wp_law_job__r2 [] (waCons (wV 1) (waCons (wV 2) (waCons (wV 3) (waCons (wV 5) waNil))))) (wV 1)))))
def wp_law_block__r2_3 : WS := (wIfS (wOrT (wTst (wOp false oEq (wV 6) (wK (.str "wrong")))) (wTst (wOp false oNe (wV 7) (wOp false oIx (wLst false (waCons (wK (.str "none")) (waCons (wK (.str "deed")) (waCons (wK (.str "key")) (waCons (wK (.str "zero")) waNil))))) (wOp false oIx (wV 4) (wK (.int 1))))))) (wRet (wK (.str "wrong"))) wNext)
def wp_law_block__r2_4 : WS := (wIfS (wTst (wOp false oNe (wV 7) (wK (.str "none")))) (wDPut "past" (wV 2) (wV 5)) wNext)
def wp_law_block__r2_5 : WS := (wRet (wIf (wAndT (wTst (wOp false oEq (wV 6) (wOp false oIx (wLst false (waCons (wK (.str "well")) (waCons (wK (.str "none")) waNil))) (wCb false cbInt (waCons (wOp false oNe (wV 7) (wK (.str "none"))) waNil))))) (wTst (wCall wp_law_bench_shows [] (waCons (wV 1) (waCons (wV 2) waNil))))) (wK (.str "right")) (wK (.str "wrong"))))
def wp_law_block__r2 : WP := wDef 4 8 (wSeq wp_law_block__r2_0 (wSeq wp_law_block__r2_1 (wSeq wp_law_block__r2_2 (wSeq wp_law_block__r2_3 (wSeq wp_law_block__r2_4 wp_law_block__r2_5)))))
def ws_0_0 : WS := (wAsgG (wgTup 2 (wgCons (wgN 3) (wgCons (wgN 4) wgNil))) (wCall wp_law_bench_drawn [] (waCons (wV 1) waNil)))
def wi_0_1_0 : WS := (wIfS (wNotT (wTst (wCall wp_law_some_done [] (waCons (wV 1) (waCons (wV 3) (waCons (wV 4) (waCons (wCall wp_law_take [] (waCons (wV 1) (waCons (wK (.int 4)) waNil))) waNil))))))) (wRet (wK (.bool false))) wNext)
def wi_0_1_1 : WS := (wIfS (wTst (wOp false oNe (wCall wp_law_block__r2 [] (waCons (wV 1) (waCons (wV 3) (waCons (wV 4) (waCons (wCall wp_law_take [] (waCons (wV 1) (waCons (wK (.int 3)) waNil))) waNil))))) (wK (.str "right")))) (wRet (wK (.bool false))) wNext)
def wb_0_1 : WS := (wSeq wi_0_1_0 wi_0_1_1)
def ws_0_1 : WS := wFor (wiRng1 (waCons (wK (.int 4)) waNil)) (wgN 5) wb_0_1
def ws_0_2 : WS := (wWhile (wTst (wOp false oNe0 (wDGet "past" (wV 4)) (wLst false waNil))) (wIfS (wNotT (wTst (wCall wp_law_undone [] (waCons (wV 3) (waCons (wV 4) waNil))))) (wRet (wK (.bool false))) wNext))
def ws_0_3 : WS := (wIfS (wNotT (wTst (wCall wp_law_undone [] (waCons (wV 3) (waCons (wV 4) waNil))))) (wRet (wK (.bool false))) wNext)
def wb_0 : WS := (wSeq ws_0_0 (wSeq ws_0_1 (wSeq ws_0_2 ws_0_3)))
def ws_0 : WS := wFor (wiRng1 (waCons (wOp false oAdd (wK (.int 3)) (wCb false cbMin2 (waCons (wCb false cbLen (waCons (wV 0) waNil)) (waCons (wK (.int 6)) waNil)))) waNil)) (wgN 2) wb_0
def ws_1 : WS := (wRet (wK (.bool true)))
def wr_law : WS := (wSeq ws_0 ws_1)
end DL

set_option Elab.async false
set_option linter.all false
set_option maxRecDepth 100000
set_option maxHeartbeats 400000
/-! K63: the law k63, plainly. -/
namespace DL
open PySem L2
def jobW (bd : WS) : WP := (wDef 4 5 (wSeq (wFor (wiRng1 (waCons (wOp false oIx (wV 3) (wK (.int 0))) waNil)) (wgN 4) (wSeq (wIfS (wNotT (wTst (wCall wp_law_some_done [] (waCons (wV 0) (waCons (wV 1) (waCons (wV 2) (waCons (wOp false oAdd (wK (.int 1)) (wCall wp_law_take [] (waCons (wV 0) (waCons (wK (.int 3)) waNil)))) waNil))))))) (wRet (wK (.str "wrong"))) wNext)
    (wIfS (wAndT (wTst (wOp false oGt (wOp false oIx (wV 3) (wK (.int 2))) (wK (.int 0)))) (wTst (wOp false oEq (wCall wp_law_take [] (waCons (wV 0) (waCons (wK (.int 3)) waNil))) (wK (.int 0))))) bd wNext)))
    (wRet (wCall wp_law_end [] (waCons (wV 1) (waCons (wOp false oIx (wV 3) (wK (.int 1))) waNil))))))
def inW (B : WP) : WS := (wIfS (wTst (wOp false oEq (wCall B [] (waCons (wV 0) (waCons (wV 1) (waCons (wV 2) (waCons (wOp false oSub (wOp false oIx (wV 3) (wK (.int 2))) (wK (.int 1))) waNil))))) (wK (.str "wrong")))) (wRet (wK (.str "wrong"))) wNext)
def tryW (J : WP) : WS := (wTryH [((.cls "BadDeed"), (wAsg 7 (wK (.str "deed")))), ((.ty "KeyError"), (wAsg 7 (wK (.str "key")))), ((.ty "ZeroDivisionError"), (wAsg 7 (wK (.str "zero"))))] (wIfS (wTst (wOp false oEq (wOp false oIx (wV 4) (wK (.int 3))) (wK (.int 0)))) (wAsg 6 (wTriedX "Bench" wp_Bench___enter__ wp_Bench___exit__ (wCall J [] (waCons (wV 1) (waCons (wV 0) (waCons (wV 3) (waCons (wV 5) waNil))))) (wV 1))) (wAsg 6 (wTriedX "Bench" wp_Bench___enter__ wp_Bench___exit__ (wCall J [] (waCons (wV 1) (waCons (wV 2) (waCons (wV 3) (waCons (wV 5) waNil))))) (wV 1)))))
def blkW (J : WP) : WP := wDef 4 8 (wSeq wp_law_block__r0_0 (wSeq wp_law_block__r0_1 (wSeq (tryW J) (wSeq wp_law_block__r0_3 (wSeq wp_law_block__r0_4 wp_law_block__r0_5)))))
theorem job_0 : wp_law_job__r0 = jobW wDead := rfl
theorem job_1 : wp_law_job__r1 = jobW (inW wp_law_block__r0) := rfl
theorem job_2 : wp_law_job__r2 = jobW (inW wp_law_block__r1) := rfl
theorem blk_0 : wp_law_block__r0 = blkW wp_law_job__r0 := rfl
theorem blk_1 : wp_law_block__r1 = blkW wp_law_job__r1 := rfl
theorem blk_2 : wp_law_block__r2 = blkW wp_law_job__r2 := rfl
/-- a bench, its model, and what is held around it; at most 21 steps stand -/
structure Bh (μ : Mu) (p q : Addr) (b : Int × Int) (ss : List Stp) (r : Int) (h : D) : Prop where
  p : μ p = some (benN b ss h)
  q : μ q = some (modN b ss r)
  b1 : b.1.natAbs ≤ 10 ^ 11
  b2 : b.2.natAbs ≤ 10 ^ 11
  len : ss.length ≤ 21
  ok : ∀ s ∈ ss, s.Ok 1000000 ∧ s.len ≤ 4
  dg : (degs ss : Int) * r ≤ 27
  pos : 1 ≤ r
section
variable {μ : Mu} {Q X : QD} {QQ : QR} {E : WEnds} {p q : Addr} {b : Int × Int} {ss tt : List Stp} {h : D} {r r' : Int} {n : Nat} {s : Stp}
theorem Bh.z (B : Bh μ p q b ss r h) : Szs ss.length b ss r := ⟨⟨b, [], B.b1, B.b2, by simp, rfl, (fun _ z => by cases z), by
  rw [show ((degs ([] : List Stp) : Nat) : Int) = 1 from rfl, Int.one_mul]
  exact B.dg⟩, B.ok, B.pos⟩
theorem Bh.ne (B : Bh μ p q b ss r h) : p ≠ q := ben_ne_mod B.p B.q
theorem Bh.of {μ' : Mu} {h' : D} (B : Bh μ p q b ss r h) (h1 : μ' p = some (benN b tt h')) (h2 : μ' q = some (modN b tt r')) (z : Szs n b tt r') (hd : (degs tt : Int) * r' ≤ 27) (hl : tt.length ≤ 21) : Bh μ' p q b tt r' h' := ⟨h1, h2, B.b1, B.b2, hl, z.ok, hd, z.pos⟩
theorem Bh.shows (B : Bh μ p q b ss r h) (k : Q (.bool true) μ) : wp_law_bench_shows [.cell p, .cell q] μ Q X := ok_bench_shows B.z B.len (B.z.big B.len) B.p B.q k
theorem Bh.undone (B : Bh μ p q b ss r h) (k : ∀ μ' ss', ss'.length = ss.length - 1 → Bh μ' p q b ss' r h → Q (.bool true) μ') : wp_law_undone [.cell p, .cell q] μ Q X := by
  have ne := B.ne
  rcases snoc_cases ss with rfl | ⟨tt, s, rfl⟩
  · exact ok_law_undone0 B.z (by decide) B.p B.q (k _ _ rfl B)
  · have hl := B.len
    refine ok_law_undone1 B.z B.len (B.z.init.big B.len) B.p B.q (k _ tt (by simp) ?_)
    exact B.of up_same (by rw [up_ne (Ne.symm ne), up_same]) B.z.init B.z.init.ds (by rw [List.length_append] at hl; omega)
theorem Bh.some_done {m : Nat} (hm : m ≤ 4) (B : Bh μ p q b ss r h) (k : ∀ μ' ss' r', r' ≤ r → Bh μ' p q b ss' r' h → Q (.bool true) μ') : wp_law_some_done [.state, .cell p, .cell q, .int (m : Int)] μ Q X := by
  unfold wp_law_some_done
  simp only [Jbx, initE, Jcx, Jcj, Jbl, Jbm, Jc3, Jcs, Jct, Jca, Jcp, Jbn, Jcz, Jbo, Jbu, Jdd, Jde, Jdc, Jdf, Jdj, Jdh, Jdi, Jdg, Jc6, Jcc, Jd7, Jd6, Jcb, Jcm, Jd5, Jd4, Jcg, Jbs, Jd3, Jcl, Jbk, Jco, Jc9, Jbj, Jcn, Jck, Jd9, Jd8, Jdb, Jbp, Jci, Jcr, Jc5, Jcy, Jch, Jbq, Jcu, Jd0, Jdk, Jdl, Jcd, Jcv, Jcw, Jc8, Jbr, Jc4, Jbz, Jcf, gt, st, Jbc, Jba, Jbb, Jb8, Jbi, Ja5, atI0, atI1, atI2, atI3, atI4, ixN20, ixN21, List.map_cons, List.map_nil, List.cons_append, List.nil_append, List.append_nil, List.length_cons, List.length_nil, List.replicate_succ, List.replicate_zero, Nat.add_one_sub_one, Jda, Jbt, Jc0, Jc2, Jby, Jae, Jag, Jah, Jaf, Jb7, Jaw, Jax, Jak, Jav, Jb4, Jau, Jat, Jan, Jam, Jb2, Jai, Jaj, Jb0, Jb1, Jaq, Jb3, Jar, Jas, Jao, Jap, Jb6, Jb5, Ja7, Ja8, Jac, Jab, Ja0, Ja9, Jaa, Jbg, Jbh, Ja6, Jad, Jbd, Jbf, Jbe, Jb9, Ja2, Ja1, Ja4, Ja3, Jay, Jaz, decide_true, decide_false, Bool.not_true, Bool.not_false, Bool.false_eq_true, if_true, if_false, true_and]
  refine ⟨⟨by omega, by omega⟩, by rw [rangeD_len, Int.toNat_natCast]; omega, for_inv (fun i e μ' => (∃ e4, e = [some .state, some (.cell p), some (.cell q), some (.int (m : Int)), e4]) ∧ ∃ ss' r', r' ≤ r ∧ Bh μ' p q b ss' r' h) ⟨⟨_, rfl⟩, ss, r, Int.le_refl _, B⟩ ?_ ?_⟩
  · rintro i x e μ' N hx ⟨⟨e4, rfl⟩, ss', r', hr, B'⟩ hN
    refine ⟨trivial, ?_⟩
    simp only [Jbx, initE, Jcx, Jcj, Jbl, Jbm, Jc3, Jcs, Jct, Jca, Jcp, Jbn, Jcz, Jbo, Jbu, Jdd, Jde, Jdc, Jdf, Jdj, Jdh, Jdi, Jdg, Jc6, Jcc, Jd7, Jd6, Jcb, Jcm, Jd5, Jd4, Jcg, Jbs, Jd3, Jcl, Jbk, Jco, Jc9, Jbj, Jcn, Jck, Jd9, Jd8, Jdb, Jbp, Jci, Jcr, Jc5, Jcy, Jch, Jbq, Jcu, Jd0, Jdk, Jdl, Jcd, Jcv, Jcw, Jc8, Jbr, Jc4, Jbz, Jcf, gt, st, Jbc, Jba, Jbb, Jb8, Jbi, Ja5, atI0, atI1, atI2, atI3, atI4, ixN20, ixN21, List.map_cons, List.map_nil, List.cons_append, List.nil_append, List.append_nil, List.length_cons, List.length_nil, List.replicate_succ, List.replicate_zero, Nat.add_one_sub_one, Jda, Jbt, Jc0, Jc2, Jby, Jae, Jag, Jah, Jaf, Jb7, Jaw, Jax, Jak, Jav, Jb4, Jau, Jat, Jan, Jam, Jb2, Jai, Jaj, Jb0, Jb1, Jaq, Jb3, Jar, Jas, Jao, Jap, Jb6, Jb5, Ja7, Ja8, Jac, Jab, Ja0, Ja9, Jaa, Jbg, Jbh, Ja6, Jad, Jbd, Jbf, Jbe, Jb9, Ja2, Ja1, Ja4, Ja3, Jay, Jaz, decide_true, decide_false, Bool.not_true, Bool.not_false, Bool.false_eq_true, if_true, if_false, true_and, Jbv]
    refine ok_take (by decide) (by decide) fun j j1 j2 => ?_
    by_cases hj : j = 0
    · subst hj
      simp only [Jbx, initE, Jcx, Jcj, Jbl, Jbm, Jc3, Jcs, Jct, Jca, Jcp, Jbn, Jcz, Jbo, Jbu, Jdd, Jde, Jdc, Jdf, Jdj, Jdh, Jdi, Jdg, Jc6, Jcc, Jd7, Jd6, Jcb, Jcm, Jd5, Jd4, Jcg, Jbs, Jd3, Jcl, Jbk, Jco, Jc9, Jbj, Jcn, Jck, Jd9, Jd8, Jdb, Jbp, Jci, Jcr, Jc5, Jcy, Jch, Jbq, Jcu, Jd0, Jdk, Jdl, Jcd, Jcv, Jcw, Jc8, Jbr, Jc4, Jbz, Jcf, gt, st, Jbc, Jba, Jbb, Jb8, Jbi, Ja5, atI0, atI1, atI2, atI3, atI4, ixN20, ixN21, List.map_cons, List.map_nil, List.cons_append, List.nil_append, List.append_nil, List.length_cons, List.length_nil, List.replicate_succ, List.replicate_zero, Nat.add_one_sub_one, Jda, Jbt, Jc0, Jc2, Jby, Jae, Jag, Jah, Jaf, Jb7, Jaw, Jax, Jak, Jav, Jb4, Jau, Jat, Jan, Jam, Jb2, Jai, Jaj, Jb0, Jb1, Jaq, Jb3, Jar, Jas, Jao, Jap, Jb6, Jb5, Ja7, Ja8, Jac, Jab, Ja0, Ja9, Jaa, Jbg, Jbh, Ja6, Jad, Jbd, Jbf, Jbe, Jb9, Ja2, Ja1, Ja4, Ja3, Jay, Jaz, decide_true, decide_false, Bool.not_true, Bool.not_false, Bool.false_eq_true, if_true, if_false, true_and]
      refine B'.undone fun μ2 s2 _ B2 => ?_
      simp only [Jbx, initE, Jcx, Jcj, Jbl, Jbm, Jc3, Jcs, Jct, Jca, Jcp, Jbn, Jcz, Jbo, Jbu, Jdd, Jde, Jdc, Jdf, Jdj, Jdh, Jdi, Jdg, Jc6, Jcc, Jd7, Jd6, Jcb, Jcm, Jd5, Jd4, Jcg, Jbs, Jd3, Jcl, Jbk, Jco, Jc9, Jbj, Jcn, Jck, Jd9, Jd8, Jdb, Jbp, Jci, Jcr, Jc5, Jcy, Jch, Jbq, Jcu, Jd0, Jdk, Jdl, Jcd, Jcv, Jcw, Jc8, Jbr, Jc4, Jbz, Jcf, gt, st, Jbc, Jba, Jbb, Jb8, Jbi, Ja5, atI0, atI1, atI2, atI3, atI4, ixN20, ixN21, List.map_cons, List.map_nil, List.cons_append, List.nil_append, List.append_nil, List.length_cons, List.length_nil, List.replicate_succ, List.replicate_zero, Nat.add_one_sub_one, Jda, Jbt, Jc0, Jc2, Jby, Jae, Jag, Jah, Jaf, Jb7, Jaw, Jax, Jak, Jav, Jb4, Jau, Jat, Jan, Jam, Jb2, Jai, Jaj, Jb0, Jb1, Jaq, Jb3, Jar, Jas, Jao, Jap, Jb6, Jb5, Ja7, Ja8, Jac, Jab, Ja0, Ja9, Jaa, Jbg, Jbh, Ja6, Jad, Jbd, Jbf, Jbe, Jb9, Ja2, Ja1, Ja4, Ja3, Jay, Jaz, decide_true, decide_false, Bool.not_true, Bool.not_false, Bool.false_eq_true, if_true, if_false, true_and]
      exact hN _ _ ⟨⟨_, rfl⟩, s2, r', hr, B2⟩
    · simp only [Jbx, initE, Jcx, Jcj, Jbl, Jbm, Jc3, Jcs, Jct, Jca, Jcp, Jbn, Jcz, Jbo, Jbu, Jdd, Jde, Jdc, Jdf, Jdj, Jdh, Jdi, Jdg, Jc6, Jcc, Jd7, Jd6, Jcb, Jcm, Jd5, Jd4, Jcg, Jbs, Jd3, Jcl, Jbk, Jco, Jc9, Jbj, Jcn, Jck, Jd9, Jd8, Jdb, Jbp, Jci, Jcr, Jc5, Jcy, Jch, Jbq, Jcu, Jd0, Jdk, Jdl, Jcd, Jcv, Jcw, Jc8, Jbr, Jc4, Jbz, Jcf, gt, st, Jbc, Jba, Jbb, Jb8, Jbi, Ja5, atI0, atI1, atI2, atI3, atI4, ixN20, ixN21, List.map_cons, List.map_nil, List.cons_append, List.nil_append, List.append_nil, List.length_cons, List.length_nil, List.replicate_succ, List.replicate_zero, Nat.add_one_sub_one, Jda, Jbt, Jc0, Jc2, Jby, Jae, Jag, Jah, Jaf, Jb7, Jaw, Jax, Jak, Jav, Jb4, Jau, Jat, Jan, Jam, Jb2, Jai, Jaj, Jb0, Jb1, Jaq, Jb3, Jar, Jas, Jao, Jap, Jb6, Jb5, Ja7, Ja8, Jac, Jab, Ja0, Ja9, Jaa, Jbg, Jbh, Ja6, Jad, Jbd, Jbf, Jbe, Jb9, Ja2, Ja1, Ja4, Ja3, Jay, Jaz, decide_true, decide_false, Bool.not_true, Bool.not_false, Bool.false_eq_true, if_true, if_false, true_and, decide_eq_false hj]
      rw [get_past B'.q, len_past]
      simp only [Jbx, initE, Jcx, Jcj, Jbl, Jbm, Jc3, Jcs, Jct, Jca, Jcp, Jbn, Jcz, Jbo, Jbu, Jdd, Jde, Jdc, Jdf, Jdj, Jdh, Jdi, Jdg, Jc6, Jcc, Jd7, Jd6, Jcb, Jcm, Jd5, Jd4, Jcg, Jbs, Jd3, Jcl, Jbk, Jco, Jc9, Jbj, Jcn, Jck, Jd9, Jd8, Jdb, Jbp, Jci, Jcr, Jc5, Jcy, Jch, Jbq, Jcu, Jd0, Jdk, Jdl, Jcd, Jcv, Jcw, Jc8, Jbr, Jc4, Jbz, Jcf, gt, st, Jbc, Jba, Jbb, Jb8, Jbi, Ja5, atI0, atI1, atI2, atI3, atI4, ixN20, ixN21, List.map_cons, List.map_nil, List.cons_append, List.nil_append, List.append_nil, List.length_cons, List.length_nil, List.replicate_succ, List.replicate_zero, Nat.add_one_sub_one, Jda, Jbt, Jc0, Jc2, Jby, Jae, Jag, Jah, Jaf, Jb7, Jaw, Jax, Jak, Jav, Jb4, Jau, Jat, Jan, Jam, Jb2, Jai, Jaj, Jb0, Jb1, Jaq, Jb3, Jar, Jas, Jao, Jap, Jb6, Jb5, Ja7, Ja8, Jac, Jab, Ja0, Ja9, Jaa, Jbg, Jbh, Ja6, Jad, Jbd, Jbf, Jbe, Jb9, Ja2, Ja1, Ja4, Ja3, Jay, Jaz, decide_true, decide_false, Bool.not_true, Bool.not_false, Bool.false_eq_true, if_true, if_false, true_and]
      by_cases hl : ss'.length ≤ 20
      · rw [if_neg (by simp; omega)]
        refine ok_bench_step B'.q B'.pos B'.z.r27 fun s r2 h1 h2 h3 h4 => ?_
        have ne := B'.ne
        have zz := B'.z.add h1 h2 h3 h4
        have hp2 : up μ' q (modN b ss' r2) p = some (benN b ss' h) := by rw [up_ne ne]; exact B'.p
        have le2 : r2 ≤ r' := by
          have : (1 : Int) ≤ (s.deg : Int) := by unfold Stp.deg; omega
          have : (1 : Int) * r2 ≤ (s.deg : Int) * r2 := Int.mul_le_mul_of_nonneg_right this (by omega)
          omega
        refine ok_law_done zz (by omega) (zz.big (by omega)) hp2 up_same ?_
        simp only [Jbx, initE, Jcx, Jcj, Jbl, Jbm, Jc3, Jcs, Jct, Jca, Jcp, Jbn, Jcz, Jbo, Jbu, Jdd, Jde, Jdc, Jdf, Jdj, Jdh, Jdi, Jdg, Jc6, Jcc, Jd7, Jd6, Jcb, Jcm, Jd5, Jd4, Jcg, Jbs, Jd3, Jcl, Jbk, Jco, Jc9, Jbj, Jcn, Jck, Jd9, Jd8, Jdb, Jbp, Jci, Jcr, Jc5, Jcy, Jch, Jbq, Jcu, Jd0, Jdk, Jdl, Jcd, Jcv, Jcw, Jc8, Jbr, Jc4, Jbz, Jcf, gt, st, Jbc, Jba, Jbb, Jb8, Jbi, Ja5, atI0, atI1, atI2, atI3, atI4, ixN20, ixN21, List.map_cons, List.map_nil, List.cons_append, List.nil_append, List.append_nil, List.length_cons, List.length_nil, List.replicate_succ, List.replicate_zero, Nat.add_one_sub_one, Jda, Jbt, Jc0, Jc2, Jby, Jae, Jag, Jah, Jaf, Jb7, Jaw, Jax, Jak, Jav, Jb4, Jau, Jat, Jan, Jam, Jb2, Jai, Jaj, Jb0, Jb1, Jaq, Jb3, Jar, Jas, Jao, Jap, Jb6, Jb5, Ja7, Ja8, Jac, Jab, Ja0, Ja9, Jaa, Jbg, Jbh, Ja6, Jad, Jbd, Jbf, Jbe, Jb9, Ja2, Ja1, Ja4, Ja3, Jay, Jaz, decide_true, decide_false, Bool.not_true, Bool.not_false, Bool.false_eq_true, if_true, if_false, true_and]
        exact hN _ _ ⟨⟨_, rfl⟩, ss' ++ [s], r2, Int.le_trans le2 hr, B'.of (by rw [up_ne ne, up_same]) up_same zz zz.ds (by rw [List.length_append]; simp; omega)⟩
      · rw [if_pos (by simp; omega)]
        refine B'.undone fun μ2 s2 _ B2 => ?_
        simp only [Jbx, initE, Jcx, Jcj, Jbl, Jbm, Jc3, Jcs, Jct, Jca, Jcp, Jbn, Jcz, Jbo, Jbu, Jdd, Jde, Jdc, Jdf, Jdj, Jdh, Jdi, Jdg, Jc6, Jcc, Jd7, Jd6, Jcb, Jcm, Jd5, Jd4, Jcg, Jbs, Jd3, Jcl, Jbk, Jco, Jc9, Jbj, Jcn, Jck, Jd9, Jd8, Jdb, Jbp, Jci, Jcr, Jc5, Jcy, Jch, Jbq, Jcu, Jd0, Jdk, Jdl, Jcd, Jcv, Jcw, Jc8, Jbr, Jc4, Jbz, Jcf, gt, st, Jbc, Jba, Jbb, Jb8, Jbi, Ja5, atI0, atI1, atI2, atI3, atI4, ixN20, ixN21, List.map_cons, List.map_nil, List.cons_append, List.nil_append, List.append_nil, List.length_cons, List.length_nil, List.replicate_succ, List.replicate_zero, Nat.add_one_sub_one, Jda, Jbt, Jc0, Jc2, Jby, Jae, Jag, Jah, Jaf, Jb7, Jaw, Jax, Jak, Jav, Jb4, Jau, Jat, Jan, Jam, Jb2, Jai, Jaj, Jb0, Jb1, Jaq, Jb3, Jar, Jas, Jao, Jap, Jb6, Jb5, Ja7, Ja8, Jac, Jab, Ja0, Ja9, Jaa, Jbg, Jbh, Ja6, Jad, Jbd, Jbf, Jbe, Jb9, Ja2, Ja1, Ja4, Ja3, Jay, Jaz, decide_true, decide_false, Bool.not_true, Bool.not_false, Bool.false_eq_true, if_true, if_false, true_and]
        exact hN _ _ ⟨⟨_, rfl⟩, s2, r', hr, B2⟩
  · rintro e μ' ⟨⟨e4, rfl⟩, ss', r', hr, B'⟩
    refine ⟨trivial, ?_⟩
    simp only [Jbx, initE, Jcx, Jcj, Jbl, Jbm, Jc3, Jcs, Jct, Jca, Jcp, Jbn, Jcz, Jbo, Jbu, Jdd, Jde, Jdc, Jdf, Jdj, Jdh, Jdi, Jdg, Jc6, Jcc, Jd7, Jd6, Jcb, Jcm, Jd5, Jd4, Jcg, Jbs, Jd3, Jcl, Jbk, Jco, Jc9, Jbj, Jcn, Jck, Jd9, Jd8, Jdb, Jbp, Jci, Jcr, Jc5, Jcy, Jch, Jbq, Jcu, Jd0, Jdk, Jdl, Jcd, Jcv, Jcw, Jc8, Jbr, Jc4, Jbz, Jcf, gt, st, Jbc, Jba, Jbb, Jb8, Jbi, Ja5, atI0, atI1, atI2, atI3, atI4, ixN20, ixN21, List.map_cons, List.map_nil, List.cons_append, List.nil_append, List.append_nil, List.length_cons, List.length_nil, List.replicate_succ, List.replicate_zero, Nat.add_one_sub_one, Jda, Jbt, Jc0, Jc2, Jby, Jae, Jag, Jah, Jaf, Jb7, Jaw, Jax, Jak, Jav, Jb4, Jau, Jat, Jan, Jam, Jb2, Jai, Jaj, Jb0, Jb1, Jaq, Jb3, Jar, Jas, Jao, Jap, Jb6, Jb5, Ja7, Ja8, Jac, Jab, Ja0, Ja9, Jaa, Jbg, Jbh, Ja6, Jad, Jbd, Jbf, Jbe, Jb9, Ja2, Ja1, Ja4, Ja3, Jay, Jaz, decide_true, decide_false, Bool.not_true, Bool.not_false, Bool.false_eq_true, if_true, if_false, true_and]
    exact k _ _ _ hr B'
/-! ### the work's end -/
abbrev badT : D := .tup [.str "turn", .int 2, .int 0, .int 0, .int 1]
def EndW (g : Int) (μ : Mu) (Q X : QD) : Prop := (g = 0 → Q (.str "well") μ) ∧ (g = 1 → X (.err "BadDeed" ["deed"] [badT]) μ) ∧ (g = 2 → X (.ty "KeyError") μ) ∧ (g = 3 → X (.ty "ZeroDivisionError") μ)
theorem end_ok {g : Int} (hp : μ p = some (benN b ss h)) (g0 : 0 ≤ g) (g3 : g ≤ 3) (k : EndW g μ Q X) : wp_law_end [.cell p, .int g] μ Q X := by
  obtain ⟨k0, k1, k2, k3⟩ := k
  have hg : g = 0 ∨ g = 1 ∨ g = 2 ∨ g = 3 := by omega
  unfold wp_law_end
  rcases hg with rfl | rfl | rfl | rfl
  · simp only [Jbx, initE, Jcx, Jcj, Jbl, Jbm, Jc3, Jcs, Jct, Jca, Jcp, Jbn, Jcz, Jbo, Jbu, Jdd, Jde, Jdc, Jdf, Jdj, Jdh, Jdi, Jdg, Jc6, Jcc, Jd7, Jd6, Jcb, Jcm, Jd5, Jd4, Jcg, Jbs, Jd3, Jcl, Jbk, Jco, Jc9, Jbj, Jcn, Jck, Jd9, Jd8, Jdb, Jbp, Jci, Jcr, Jc5, Jcy, Jch, Jbq, Jcu, Jd0, Jdk, Jdl, Jcd, Jcv, Jcw, Jc8, Jbr, Jc4, Jbz, Jcf, gt, st, Jbc, Jba, Jbb, Jb8, Jbi, Ja5, atI0, atI1, atI2, atI3, atI4, ixN20, ixN21, List.map_cons, List.map_nil, List.cons_append, List.nil_append, List.append_nil, List.length_cons, List.length_nil, List.replicate_succ, List.replicate_zero, Nat.add_one_sub_one, Jda, Jbt, Jc0, Jc2, Jby, Jae, Jag, Jah, Jaf, Jb7, Jaw, Jax, Jak, Jav, Jb4, Jau, Jat, Jan, Jam, Jb2, Jai, Jaj, Jb0, Jb1, Jaq, Jb3, Jar, Jas, Jao, Jap, Jb6, Jb5, Ja7, Ja8, Jac, Jab, Ja0, Ja9, Jaa, Jbg, Jbh, Ja6, Jad, Jbd, Jbf, Jbe, Jb9, Ja2, Ja1, Ja4, Ja3, Jay, Jaz, decide_true, decide_false, Bool.not_true, Bool.not_false, Bool.false_eq_true, if_true, if_false, true_and]
    exact k0 rfl
  · simp only [Jbx, initE, Jcx, Jcj, Jbl, Jbm, Jc3, Jcs, Jct, Jca, Jcp, Jbn, Jcz, Jbo, Jbu, Jdd, Jde, Jdc, Jdf, Jdj, Jdh, Jdi, Jdg, Jc6, Jcc, Jd7, Jd6, Jcb, Jcm, Jd5, Jd4, Jcg, Jbs, Jd3, Jcl, Jbk, Jco, Jc9, Jbj, Jcn, Jck, Jd9, Jd8, Jdb, Jbp, Jci, Jcr, Jc5, Jcy, Jch, Jbq, Jcu, Jd0, Jdk, Jdl, Jcd, Jcv, Jcw, Jc8, Jbr, Jc4, Jbz, Jcf, gt, st, Jbc, Jba, Jbb, Jb8, Jbi, Ja5, atI0, atI1, atI2, atI3, atI4, ixN20, ixN21, List.map_cons, List.map_nil, List.cons_append, List.nil_append, List.append_nil, List.length_cons, List.length_nil, List.replicate_succ, List.replicate_zero, Nat.add_one_sub_one, Jda, Jbt, Jc0, Jc2, Jby, Jae, Jag, Jah, Jaf, Jb7, Jaw, Jax, Jak, Jav, Jb4, Jau, Jat, Jan, Jam, Jb2, Jai, Jaj, Jb0, Jb1, Jaq, Jb3, Jar, Jas, Jao, Jap, Jb6, Jb5, Ja7, Ja8, Jac, Jab, Ja0, Ja9, Jaa, Jbg, Jbh, Ja6, Jad, Jbd, Jbf, Jbe, Jb9, Ja2, Ja1, Ja4, Ja3, Jay, Jaz, decide_true, decide_false, Bool.not_true, Bool.not_false, Bool.false_eq_true, if_true, if_false, true_and]
    rw [ben_is hp (by decide)]
    refine ⟨by decide, no_Bench_do hp ?_ (by decide) (k1 rfl)⟩
    refine ⟨⟨_, rfl⟩, fun ds e => ?_, fun ds e x hx => ?_⟩
    · cases e
      decide
    · cases e
      simp only [List.mem_cons, List.not_mem_nil, or_false] at hx
      rcases hx with rfl | rfl | rfl | rfl | rfl
      · exact ⟨⟨_, rfl⟩, fun i e => by cases e⟩
      all_goals exact ⟨⟨_, rfl⟩, fun i e => by cases e; exact Nat.le_trans (show _ ≤ 2 ^ 1 by decide) (Nat.pow_le_pow_right (by decide) (by decide))⟩
  · simp only [Jbx, initE, Jcx, Jcj, Jbl, Jbm, Jc3, Jcs, Jct, Jca, Jcp, Jbn, Jcz, Jbo, Jbu, Jdd, Jde, Jdc, Jdf, Jdj, Jdh, Jdi, Jdg, Jc6, Jcc, Jd7, Jd6, Jcb, Jcm, Jd5, Jd4, Jcg, Jbs, Jd3, Jcl, Jbk, Jco, Jc9, Jbj, Jcn, Jck, Jd9, Jd8, Jdb, Jbp, Jci, Jcr, Jc5, Jcy, Jch, Jbq, Jcu, Jd0, Jdk, Jdl, Jcd, Jcv, Jcw, Jc8, Jbr, Jc4, Jbz, Jcf, gt, st, Jbc, Jba, Jbb, Jb8, Jbi, Ja5, atI0, atI1, atI2, atI3, atI4, ixN20, ixN21, List.map_cons, List.map_nil, List.cons_append, List.nil_append, List.append_nil, List.length_cons, List.length_nil, List.replicate_succ, List.replicate_zero, Nat.add_one_sub_one, Jda, Jbt, Jc0, Jc2, Jby, Jae, Jag, Jah, Jaf, Jb7, Jaw, Jax, Jak, Jav, Jb4, Jau, Jat, Jan, Jam, Jb2, Jai, Jaj, Jb0, Jb1, Jaq, Jb3, Jar, Jas, Jao, Jap, Jb6, Jb5, Ja7, Ja8, Jac, Jab, Ja0, Ja9, Jaa, Jbg, Jbh, Ja6, Jad, Jbd, Jbf, Jbe, Jb9, Ja2, Ja1, Ja4, Ja3, Jay, Jaz, decide_true, decide_false, Bool.not_true, Bool.not_false, Bool.false_eq_true, if_true, if_false, true_and, Jce]
    exact k2 rfl
  · simp only [Jbx, initE, Jcx, Jcj, Jbl, Jbm, Jc3, Jcs, Jct, Jca, Jcp, Jbn, Jcz, Jbo, Jbu, Jdd, Jde, Jdc, Jdf, Jdj, Jdh, Jdi, Jdg, Jc6, Jcc, Jd7, Jd6, Jcb, Jcm, Jd5, Jd4, Jcg, Jbs, Jd3, Jcl, Jbk, Jco, Jc9, Jbj, Jcn, Jck, Jd9, Jd8, Jdb, Jbp, Jci, Jcr, Jc5, Jcy, Jch, Jbq, Jcu, Jd0, Jdk, Jdl, Jcd, Jcv, Jcw, Jc8, Jbr, Jc4, Jbz, Jcf, gt, st, Jbc, Jba, Jbb, Jb8, Jbi, Ja5, atI0, atI1, atI2, atI3, atI4, ixN20, ixN21, List.map_cons, List.map_nil, List.cons_append, List.nil_append, List.append_nil, List.length_cons, List.length_nil, List.replicate_succ, List.replicate_zero, Nat.add_one_sub_one, Jda, Jbt, Jc0, Jc2, Jby, Jae, Jag, Jah, Jaf, Jb7, Jaw, Jax, Jak, Jav, Jb4, Jau, Jat, Jan, Jam, Jb2, Jai, Jaj, Jb0, Jb1, Jaq, Jb3, Jar, Jas, Jao, Jap, Jb6, Jb5, Ja7, Ja8, Jac, Jab, Ja0, Ja9, Jaa, Jbg, Jbh, Ja6, Jad, Jbd, Jbf, Jbe, Jb9, Ja2, Ja1, Ja4, Ja3, Jay, Jaz, decide_true, decide_false, Bool.not_true, Bool.not_false, Bool.false_eq_true, if_true, if_false, true_and, Jal]
    exact k3 rfl
/-! ### jobs and blocks -/
abbrev gdD (g0 g1 g2 g3 : Int) : D := .list [.int g0, .int g1, .int g2, .int g3]
def JobOk (lv : Int) (J : WP) : Prop := ∀ {μ : Mu} {p q : Addr} {b : Int × Int} {ss : List Stp} {r : Int} {h : D} {g0 g1 g2 g3 : Int} {Q X : QD}, Bh μ p q b ss r h → 0 ≤ g0 → g0 < 4 → 0 ≤ g1 → g1 ≤ 3 → 0 ≤ g2 → g2 ≤ lv → (∀ μ' ss' r', r' ≤ r → Bh μ' p q b ss' r' h → EndW g1 μ' Q X) → J [.state, .cell p, .cell q, gdD g0 g1 g2 g3] μ Q X
def BlkOk (lv : Int) (B : WP) : Prop := ∀ {μ : Mu} {p q : Addr} {b : Int × Int} {ss : List Stp} {r : Int} {h : D} {g : Int} {Q X : QD}, Bh μ p q b ss r h → 0 ≤ g → g ≤ lv → (∀ μ' ss' r', r' ≤ r → Bh μ' p q b ss' r' h → Q (.str "right") μ') → B [.state, .cell p, .cell q, .int g] μ Q X
theorem job_ok {bd : WS} {lv : Int} (hb : ∀ {μ : Mu} {p q : Addr} {b : Int × Int} {ss : List Stp} {r : Int} {h : D} {g0 g1 g2 g3 : Int} {e4 : Option D} {E : WEnds}, Bh μ p q b ss r h → 0 < g2 → g2 ≤ lv → (∀ μ' ss' r', r' ≤ r → Bh μ' p q b ss' r' h → E.nx [some .state, some (.cell p), some (.cell q), some (gdD g0 g1 g2 g3), e4] μ') → bd [some .state, some (.cell p), some (.cell q), some (gdD g0 g1 g2 g3), e4] μ E) : JobOk lv (jobW bd) := by
  intro μ p q b ss r h g0 g1 g2 g3 Q X B a1 a2 a3 a4 a5 a6 k
  obtain ⟨m, rfl⟩ := Int.eq_ofNat_of_zero_le a1
  unfold jobW
  have at0 : atI [D.int (m : Int), .int g1, .int g2, .int g3] 0 = some (.int (m : Int)) := rfl
  have at1 : atI [D.int (m : Int), .int g1, .int g2, .int g3] 1 = some (.int g1) := rfl
  have at2 : atI [D.int (m : Int), .int g1, .int g2, .int g3] 2 = some (.int g2) := rfl
  simp only [Jbx, initE, Jcx, Jcj, Jbl, Jbm, Jc3, Jcs, Jct, Jca, Jcp, Jbn, Jcz, Jbo, Jbu, Jdd, Jde, Jdc, Jdf, Jdj, Jdh, Jdi, Jdg, Jc6, Jcc, Jd7, Jd6, Jcb, Jcm, Jd5, Jd4, Jcg, Jbs, Jd3, Jcl, Jbk, Jco, Jc9, Jbj, Jcn, Jck, Jd9, Jd8, Jdb, Jbp, Jci, Jcr, Jc5, Jcy, Jch, Jbq, Jcu, Jd0, Jdk, Jdl, Jcd, Jcv, Jcw, Jc8, Jbr, Jc4, Jbz, Jcf, gt, st, Jbc, Jba, Jbb, Jb8, Jbi, Ja5, atI0, atI1, atI2, atI3, atI4, ixN20, ixN21, List.map_cons, List.map_nil, List.cons_append, List.nil_append, List.append_nil, List.length_cons, List.length_nil, List.replicate_succ, List.replicate_zero, Nat.add_one_sub_one, Jda, Jbt, Jc0, Jc2, Jby, Jae, Jag, Jah, Jaf, Jb7, Jaw, Jax, Jak, Jav, Jb4, Jau, Jat, Jan, Jam, Jb2, Jai, Jaj, Jb0, Jb1, Jaq, Jb3, Jar, Jas, Jao, Jap, Jb6, Jb5, Ja7, Ja8, Jac, Jab, Ja0, Ja9, Jaa, Jbg, Jbh, Ja6, Jad, Jbd, Jbf, Jbe, Jb9, Ja2, Ja1, Ja4, Ja3, Jay, Jaz, decide_true, decide_false, Bool.not_true, Bool.not_false, Bool.false_eq_true, if_true, if_false, true_and, gdD, at0, at1, at2]
  refine ⟨⟨by omega, by omega⟩, by rw [rangeD_len, Int.toNat_natCast]; omega, for_inv (fun i e μ' => (∃ e4, e = [some .state, some (.cell p), some (.cell q), some (gdD m g1 g2 g3), e4]) ∧ ∃ ss' r', r' ≤ r ∧ Bh μ' p q b ss' r' h) ⟨⟨_, rfl⟩, ss, r, Int.le_refl _, B⟩ ?_ ?_⟩
  · rintro i x e μ' N hx ⟨⟨e4, rfl⟩, ss', r', hr, B'⟩ hN
    refine ⟨trivial, ?_⟩
    simp only [Jbx, initE, Jcx, Jcj, Jbl, Jbm, Jc3, Jcs, Jct, Jca, Jcp, Jbn, Jcz, Jbo, Jbu, Jdd, Jde, Jdc, Jdf, Jdj, Jdh, Jdi, Jdg, Jc6, Jcc, Jd7, Jd6, Jcb, Jcm, Jd5, Jd4, Jcg, Jbs, Jd3, Jcl, Jbk, Jco, Jc9, Jbj, Jcn, Jck, Jd9, Jd8, Jdb, Jbp, Jci, Jcr, Jc5, Jcy, Jch, Jbq, Jcu, Jd0, Jdk, Jdl, Jcd, Jcv, Jcw, Jc8, Jbr, Jc4, Jbz, Jcf, gt, st, Jbc, Jba, Jbb, Jb8, Jbi, Ja5, atI0, atI1, atI2, atI3, atI4, ixN20, ixN21, List.map_cons, List.map_nil, List.cons_append, List.nil_append, List.append_nil, List.length_cons, List.length_nil, List.replicate_succ, List.replicate_zero, Nat.add_one_sub_one, Jda, Jbt, Jc0, Jc2, Jby, Jae, Jag, Jah, Jaf, Jb7, Jaw, Jax, Jak, Jav, Jb4, Jau, Jat, Jan, Jam, Jb2, Jai, Jaj, Jb0, Jb1, Jaq, Jb3, Jar, Jas, Jao, Jap, Jb6, Jb5, Ja7, Ja8, Jac, Jab, Ja0, Ja9, Jaa, Jbg, Jbh, Ja6, Jad, Jbd, Jbf, Jbe, Jb9, Ja2, Ja1, Ja4, Ja3, Jay, Jaz, decide_true, decide_false, Bool.not_true, Bool.not_false, Bool.false_eq_true, if_true, if_false, true_and, gdD, at0, at1, at2]
    refine ok_take (by decide) (by decide) fun j j1 j2 => ?_
    obtain ⟨t, rfl⟩ := Int.eq_ofNat_of_zero_le j1
    have e1 : (1 : Int) + (t : Int) = ((1 + t : Nat) : Int) := by omega
    simp only [Jbx, initE, Jcx, Jcj, Jbl, Jbm, Jc3, Jcs, Jct, Jca, Jcp, Jbn, Jcz, Jbo, Jbu, Jdd, Jde, Jdc, Jdf, Jdj, Jdh, Jdi, Jdg, Jc6, Jcc, Jd7, Jd6, Jcb, Jcm, Jd5, Jd4, Jcg, Jbs, Jd3, Jcl, Jbk, Jco, Jc9, Jbj, Jcn, Jck, Jd9, Jd8, Jdb, Jbp, Jci, Jcr, Jc5, Jcy, Jch, Jbq, Jcu, Jd0, Jdk, Jdl, Jcd, Jcv, Jcw, Jc8, Jbr, Jc4, Jbz, Jcf, gt, st, Jbc, Jba, Jbb, Jb8, Jbi, Ja5, atI0, atI1, atI2, atI3, atI4, ixN20, ixN21, List.map_cons, List.map_nil, List.cons_append, List.nil_append, List.append_nil, List.length_cons, List.length_nil, List.replicate_succ, List.replicate_zero, Nat.add_one_sub_one, Jda, Jbt, Jc0, Jc2, Jby, Jae, Jag, Jah, Jaf, Jb7, Jaw, Jax, Jak, Jav, Jb4, Jau, Jat, Jan, Jam, Jb2, Jai, Jaj, Jb0, Jb1, Jaq, Jb3, Jar, Jas, Jao, Jap, Jb6, Jb5, Ja7, Ja8, Jac, Jab, Ja0, Ja9, Jaa, Jbg, Jbh, Ja6, Jad, Jbd, Jbf, Jbe, Jb9, Ja2, Ja1, Ja4, Ja3, Jay, Jaz, decide_true, decide_false, Bool.not_true, Bool.not_false, Bool.false_eq_true, if_true, if_false, true_and]
    rw [e1]
    refine B'.some_done (by omega) fun μ2 s2 r2 hr2 B2 => ?_
    simp only [Jbx, initE, Jcx, Jcj, Jbl, Jbm, Jc3, Jcs, Jct, Jca, Jcp, Jbn, Jcz, Jbo, Jbu, Jdd, Jde, Jdc, Jdf, Jdj, Jdh, Jdi, Jdg, Jc6, Jcc, Jd7, Jd6, Jcb, Jcm, Jd5, Jd4, Jcg, Jbs, Jd3, Jcl, Jbk, Jco, Jc9, Jbj, Jcn, Jck, Jd9, Jd8, Jdb, Jbp, Jci, Jcr, Jc5, Jcy, Jch, Jbq, Jcu, Jd0, Jdk, Jdl, Jcd, Jcv, Jcw, Jc8, Jbr, Jc4, Jbz, Jcf, gt, st, Jbc, Jba, Jbb, Jb8, Jbi, Ja5, atI0, atI1, atI2, atI3, atI4, ixN20, ixN21, List.map_cons, List.map_nil, List.cons_append, List.nil_append, List.append_nil, List.length_cons, List.length_nil, List.replicate_succ, List.replicate_zero, Nat.add_one_sub_one, Jda, Jbt, Jc0, Jc2, Jby, Jae, Jag, Jah, Jaf, Jb7, Jaw, Jax, Jak, Jav, Jb4, Jau, Jat, Jan, Jam, Jb2, Jai, Jaj, Jb0, Jb1, Jaq, Jb3, Jar, Jas, Jao, Jap, Jb6, Jb5, Ja7, Ja8, Jac, Jab, Ja0, Ja9, Jaa, Jbg, Jbh, Ja6, Jad, Jbd, Jbf, Jbe, Jb9, Ja2, Ja1, Ja4, Ja3, Jay, Jaz, decide_true, decide_false, Bool.not_true, Bool.not_false, Bool.false_eq_true, if_true, if_false, true_and]
    by_cases hg : g2 > 0
    · simp only [Jbx, initE, Jcx, Jcj, Jbl, Jbm, Jc3, Jcs, Jct, Jca, Jcp, Jbn, Jcz, Jbo, Jbu, Jdd, Jde, Jdc, Jdf, Jdj, Jdh, Jdi, Jdg, Jc6, Jcc, Jd7, Jd6, Jcb, Jcm, Jd5, Jd4, Jcg, Jbs, Jd3, Jcl, Jbk, Jco, Jc9, Jbj, Jcn, Jck, Jd9, Jd8, Jdb, Jbp, Jci, Jcr, Jc5, Jcy, Jch, Jbq, Jcu, Jd0, Jdk, Jdl, Jcd, Jcv, Jcw, Jc8, Jbr, Jc4, Jbz, Jcf, gt, st, Jbc, Jba, Jbb, Jb8, Jbi, Ja5, atI0, atI1, atI2, atI3, atI4, ixN20, ixN21, List.map_cons, List.map_nil, List.cons_append, List.nil_append, List.append_nil, List.length_cons, List.length_nil, List.replicate_succ, List.replicate_zero, Nat.add_one_sub_one, Jda, Jbt, Jc0, Jc2, Jby, Jae, Jag, Jah, Jaf, Jb7, Jaw, Jax, Jak, Jav, Jb4, Jau, Jat, Jan, Jam, Jb2, Jai, Jaj, Jb0, Jb1, Jaq, Jb3, Jar, Jas, Jao, Jap, Jb6, Jb5, Ja7, Ja8, Jac, Jab, Ja0, Ja9, Jaa, Jbg, Jbh, Ja6, Jad, Jbd, Jbf, Jbe, Jb9, Ja2, Ja1, Ja4, Ja3, Jay, Jaz, decide_true, decide_false, Bool.not_true, Bool.not_false, Bool.false_eq_true, if_true, if_false, true_and, decide_eq_true hg]
      refine ok_take (by decide) (by decide) fun j3 j4 j5 => ?_
      by_cases hj : j3 = 0
      · subst hj
        simp only [Jbx, initE, Jcx, Jcj, Jbl, Jbm, Jc3, Jcs, Jct, Jca, Jcp, Jbn, Jcz, Jbo, Jbu, Jdd, Jde, Jdc, Jdf, Jdj, Jdh, Jdi, Jdg, Jc6, Jcc, Jd7, Jd6, Jcb, Jcm, Jd5, Jd4, Jcg, Jbs, Jd3, Jcl, Jbk, Jco, Jc9, Jbj, Jcn, Jck, Jd9, Jd8, Jdb, Jbp, Jci, Jcr, Jc5, Jcy, Jch, Jbq, Jcu, Jd0, Jdk, Jdl, Jcd, Jcv, Jcw, Jc8, Jbr, Jc4, Jbz, Jcf, gt, st, Jbc, Jba, Jbb, Jb8, Jbi, Ja5, atI0, atI1, atI2, atI3, atI4, ixN20, ixN21, List.map_cons, List.map_nil, List.cons_append, List.nil_append, List.append_nil, List.length_cons, List.length_nil, List.replicate_succ, List.replicate_zero, Nat.add_one_sub_one, Jda, Jbt, Jc0, Jc2, Jby, Jae, Jag, Jah, Jaf, Jb7, Jaw, Jax, Jak, Jav, Jb4, Jau, Jat, Jan, Jam, Jb2, Jai, Jaj, Jb0, Jb1, Jaq, Jb3, Jar, Jas, Jao, Jap, Jb6, Jb5, Ja7, Ja8, Jac, Jab, Ja0, Ja9, Jaa, Jbg, Jbh, Ja6, Jad, Jbd, Jbf, Jbe, Jb9, Ja2, Ja1, Ja4, Ja3, Jay, Jaz, decide_true, decide_false, Bool.not_true, Bool.not_false, Bool.false_eq_true, if_true, if_false, true_and]
        exact hb B2 hg a6 fun μ3 s3 r3 hr3 B3 => hN _ _ ⟨⟨_, rfl⟩, s3, r3, Int.le_trans hr3 (Int.le_trans hr2 hr), B3⟩
      · simp only [Jbx, initE, Jcx, Jcj, Jbl, Jbm, Jc3, Jcs, Jct, Jca, Jcp, Jbn, Jcz, Jbo, Jbu, Jdd, Jde, Jdc, Jdf, Jdj, Jdh, Jdi, Jdg, Jc6, Jcc, Jd7, Jd6, Jcb, Jcm, Jd5, Jd4, Jcg, Jbs, Jd3, Jcl, Jbk, Jco, Jc9, Jbj, Jcn, Jck, Jd9, Jd8, Jdb, Jbp, Jci, Jcr, Jc5, Jcy, Jch, Jbq, Jcu, Jd0, Jdk, Jdl, Jcd, Jcv, Jcw, Jc8, Jbr, Jc4, Jbz, Jcf, gt, st, Jbc, Jba, Jbb, Jb8, Jbi, Ja5, atI0, atI1, atI2, atI3, atI4, ixN20, ixN21, List.map_cons, List.map_nil, List.cons_append, List.nil_append, List.append_nil, List.length_cons, List.length_nil, List.replicate_succ, List.replicate_zero, Nat.add_one_sub_one, Jda, Jbt, Jc0, Jc2, Jby, Jae, Jag, Jah, Jaf, Jb7, Jaw, Jax, Jak, Jav, Jb4, Jau, Jat, Jan, Jam, Jb2, Jai, Jaj, Jb0, Jb1, Jaq, Jb3, Jar, Jas, Jao, Jap, Jb6, Jb5, Ja7, Ja8, Jac, Jab, Ja0, Ja9, Jaa, Jbg, Jbh, Ja6, Jad, Jbd, Jbf, Jbe, Jb9, Ja2, Ja1, Ja4, Ja3, Jay, Jaz, decide_true, decide_false, Bool.not_true, Bool.not_false, Bool.false_eq_true, if_true, if_false, true_and, decide_eq_false hj]
        exact hN _ _ ⟨⟨_, rfl⟩, s2, r2, Int.le_trans hr2 hr, B2⟩
    · simp only [Jbx, initE, Jcx, Jcj, Jbl, Jbm, Jc3, Jcs, Jct, Jca, Jcp, Jbn, Jcz, Jbo, Jbu, Jdd, Jde, Jdc, Jdf, Jdj, Jdh, Jdi, Jdg, Jc6, Jcc, Jd7, Jd6, Jcb, Jcm, Jd5, Jd4, Jcg, Jbs, Jd3, Jcl, Jbk, Jco, Jc9, Jbj, Jcn, Jck, Jd9, Jd8, Jdb, Jbp, Jci, Jcr, Jc5, Jcy, Jch, Jbq, Jcu, Jd0, Jdk, Jdl, Jcd, Jcv, Jcw, Jc8, Jbr, Jc4, Jbz, Jcf, gt, st, Jbc, Jba, Jbb, Jb8, Jbi, Ja5, atI0, atI1, atI2, atI3, atI4, ixN20, ixN21, List.map_cons, List.map_nil, List.cons_append, List.nil_append, List.append_nil, List.length_cons, List.length_nil, List.replicate_succ, List.replicate_zero, Nat.add_one_sub_one, Jda, Jbt, Jc0, Jc2, Jby, Jae, Jag, Jah, Jaf, Jb7, Jaw, Jax, Jak, Jav, Jb4, Jau, Jat, Jan, Jam, Jb2, Jai, Jaj, Jb0, Jb1, Jaq, Jb3, Jar, Jas, Jao, Jap, Jb6, Jb5, Ja7, Ja8, Jac, Jab, Ja0, Ja9, Jaa, Jbg, Jbh, Ja6, Jad, Jbd, Jbf, Jbe, Jb9, Ja2, Ja1, Ja4, Ja3, Jay, Jaz, decide_true, decide_false, Bool.not_true, Bool.not_false, Bool.false_eq_true, if_true, if_false, true_and, decide_eq_false hg]
      exact hN _ _ ⟨⟨_, rfl⟩, s2, r2, Int.le_trans hr2 hr, B2⟩
  · rintro e μ' ⟨⟨e4, rfl⟩, ss', r', hr, B'⟩
    refine ⟨trivial, ?_⟩
    simp only [Jbx, initE, Jcx, Jcj, Jbl, Jbm, Jc3, Jcs, Jct, Jca, Jcp, Jbn, Jcz, Jbo, Jbu, Jdd, Jde, Jdc, Jdf, Jdj, Jdh, Jdi, Jdg, Jc6, Jcc, Jd7, Jd6, Jcb, Jcm, Jd5, Jd4, Jcg, Jbs, Jd3, Jcl, Jbk, Jco, Jc9, Jbj, Jcn, Jck, Jd9, Jd8, Jdb, Jbp, Jci, Jcr, Jc5, Jcy, Jch, Jbq, Jcu, Jd0, Jdk, Jdl, Jcd, Jcv, Jcw, Jc8, Jbr, Jc4, Jbz, Jcf, gt, st, Jbc, Jba, Jbb, Jb8, Jbi, Ja5, atI0, atI1, atI2, atI3, atI4, ixN20, ixN21, List.map_cons, List.map_nil, List.cons_append, List.nil_append, List.append_nil, List.length_cons, List.length_nil, List.replicate_succ, List.replicate_zero, Nat.add_one_sub_one, Jda, Jbt, Jc0, Jc2, Jby, Jae, Jag, Jah, Jaf, Jb7, Jaw, Jax, Jak, Jav, Jb4, Jau, Jat, Jan, Jam, Jb2, Jai, Jaj, Jb0, Jb1, Jaq, Jb3, Jar, Jas, Jao, Jap, Jb6, Jb5, Ja7, Ja8, Jac, Jab, Ja0, Ja9, Jaa, Jbg, Jbh, Ja6, Jad, Jbd, Jbf, Jbe, Jb9, Ja2, Ja1, Ja4, Ja3, Jay, Jaz, decide_true, decide_false, Bool.not_true, Bool.not_false, Bool.false_eq_true, if_true, if_false, true_and, gdD, at0, at1, at2]
    exact end_ok B'.p a3 a4 (k _ _ _ hr B')
/-! ### a block -/
abbrev eb (p q : Addr) (g : Int) (a4 a5 a6 a7 : Option D) : EnvD := [some .state, some (.cell p), some (.cell q), some (.int g), a4, a5, a6, a7]
def nameW (g : Int) : Str := if g = 1 then "deed" else if g = 2 then "key" else "zero"
variable {a4 a5 a6 a7 : Option D} {g g0 g1 g2 g3 : Int}
theorem t0_ok (k : ∀ g0 g1 g3, 0 ≤ g0 → g0 < 4 → 0 ≤ g1 → g1 ≤ 3 → E.nx (eb p q g (some (gdD g0 g1 g g3)) a5 a6 a7) μ) : wp_law_block__r0_0 (eb p q g a4 a5 a6 a7) μ E := by
  unfold wp_law_block__r0_0
  simp only [Jbx, initE, Jcx, Jcj, Jbl, Jbm, Jc3, Jcs, Jct, Jca, Jcp, Jbn, Jcz, Jbo, Jbu, Jdd, Jde, Jdc, Jdf, Jdj, Jdh, Jdi, Jdg, Jc6, Jcc, Jd7, Jd6, Jcb, Jcm, Jd5, Jd4, Jcg, Jbs, Jd3, Jcl, Jbk, Jco, Jc9, Jbj, Jcn, Jck, Jd9, Jd8, Jdb, Jbp, Jci, Jcr, Jc5, Jcy, Jch, Jbq, Jcu, Jd0, Jdk, Jdl, Jcd, Jcv, Jcw, Jc8, Jbr, Jc4, Jbz, Jcf, gt, st, Jbc, Jba, Jbb, Jb8, Jbi, Ja5, atI0, atI1, atI2, atI3, atI4, ixN20, ixN21, List.map_cons, List.map_nil, List.cons_append, List.nil_append, List.append_nil, List.length_cons, List.length_nil, List.replicate_succ, List.replicate_zero, Nat.add_one_sub_one, Jda, Jbt, Jc0, Jc2, Jby, Jae, Jag, Jah, Jaf, Jb7, Jaw, Jax, Jak, Jav, Jb4, Jau, Jat, Jan, Jam, Jb2, Jai, Jaj, Jb0, Jb1, Jaq, Jb3, Jar, Jas, Jao, Jap, Jb6, Jb5, Ja7, Ja8, Jac, Jab, Ja0, Ja9, Jaa, Jbg, Jbh, Ja6, Jad, Jbd, Jbf, Jbe, Jb9, Ja2, Ja1, Ja4, Ja3, Jay, Jaz, decide_true, decide_false, Bool.not_true, Bool.not_false, Bool.false_eq_true, if_true, if_false, true_and]
  refine ok_take (by decide) (by decide) fun i i0 i4 => ?_
  refine ⟨by simp [sizeLine_eq], ok_pick rfl (fun z => by cases z) (by simp) fun w hw => ?_⟩
  have hw2 : ∃ g1 : Int, w = .int g1 ∧ 0 ≤ g1 ∧ g1 ≤ 3 := by
    simp only [List.mem_cons, List.not_mem_nil, or_false] at hw
    rcases hw with rfl | rfl | rfl | rfl | rfl
    · exact ⟨0, rfl, by decide, by decide⟩
    · exact ⟨0, rfl, by decide, by decide⟩
    · exact ⟨1, rfl, by decide, by decide⟩
    · exact ⟨2, rfl, by decide, by decide⟩
    · exact ⟨3, rfl, by decide, by decide⟩
  obtain ⟨g1, rfl, w0, w3⟩ := hw2
  refine ok_take (by decide) (by decide) fun j j0 j2 => ⟨by simp [sizeLine_eq], ?_⟩
  exact k i g1 j i0 i4 w0 w3
theorem t1_ok (hq : μ q = some (modN b ss r)) (k : E.nx (eb p q g a4 (some (pastD b ss)) (some (.str "none")) (some (.str "none"))) μ) : wp_law_block__r0_1 (eb p q g a4 a5 a6 a7) μ E := by
  unfold wp_law_block__r0_1
  simp only [Jbx, initE, Jcx, Jcj, Jbl, Jbm, Jc3, Jcs, Jct, Jca, Jcp, Jbn, Jcz, Jbo, Jbu, Jdd, Jde, Jdc, Jdf, Jdj, Jdh, Jdi, Jdg, Jc6, Jcc, Jd7, Jd6, Jcb, Jcm, Jd5, Jd4, Jcg, Jbs, Jd3, Jcl, Jbk, Jco, Jc9, Jbj, Jcn, Jck, Jd9, Jd8, Jdb, Jbp, Jci, Jcr, Jc5, Jcy, Jch, Jbq, Jcu, Jd0, Jdk, Jdl, Jcd, Jcv, Jcw, Jc8, Jbr, Jc4, Jbz, Jcf, gt, st, Jbc, Jba, Jbb, Jb8, Jbi, Ja5, atI0, atI1, atI2, atI3, atI4, ixN20, ixN21, List.map_cons, List.map_nil, List.cons_append, List.nil_append, List.append_nil, List.length_cons, List.length_nil, List.replicate_succ, List.replicate_zero, Nat.add_one_sub_one, Jda, Jbt, Jc0, Jc2, Jby, Jae, Jag, Jah, Jaf, Jb7, Jaw, Jax, Jak, Jav, Jb4, Jau, Jat, Jan, Jam, Jb2, Jai, Jaj, Jb0, Jb1, Jaq, Jb3, Jar, Jas, Jao, Jap, Jb6, Jb5, Ja7, Ja8, Jac, Jab, Ja0, Ja9, Jaa, Jbg, Jbh, Ja6, Jad, Jbd, Jbf, Jbe, Jb9, Ja2, Ja1, Ja4, Ja3, Jay, Jaz, decide_true, decide_false, Bool.not_true, Bool.not_false, Bool.false_eq_true, if_true, if_false, true_and, Jbv, Jcq]
  rw [get_past hq]
  exact k
theorem tried_ok {J : WP} {lv : Int} (hJ : JobOk lv J) (B : Bh μ p q b ss r h) (b1 : 0 ≤ g0) (b2 : g0 < 4) (b3 : 0 ≤ g1) (b4 : g1 ≤ 3) (b5 : 0 ≤ g) (b6 : g ≤ lv)
    (k0 : g1 = 0 → ∀ μ' ss' r', r' ≤ r → Bh μ' p q b ss' r' h → Q (.str "well") μ')
    (k1 : ∀ d, (g1 = 1 ∧ d = .err "BadDeed" ["deed"] [badT] ∨ g1 = 2 ∧ d = .ty "KeyError" ∨ g1 = 3 ∧ d = .ty "ZeroDivisionError") → ∀ μ' ss' r', r' ≤ r → 1 ≤ r' → μ' p = some (benN b ss h) → μ' q = some (modN b ss' r') → X d μ') :
    wp_Bench___enter__ [.cell p] μ (fun _ μ2 => J [.state, .cell p, .cell q, gdD g0 g1 g g3] μ2 (fun d μ3 => wp_Bench___exit__ [.cell p, .none, .none, .none] μ3 (fun _ μ4 => Q d μ4) fun _ _ => False) (wLeftD wp_Bench___exit__ (.cell p) X)) fun _ _ => False := by
  have ne := B.ne
  refine ok_enter B.p ?_
  refine hJ (B.of up_same (by rw [up_ne (Ne.symm ne), B.q]) B.z B.dg B.len) b1 b2 b3 b4 b5 b6 fun μ' ss' r' hr B' => ?_
  have left : ∀ d, isNone (kindD d) = false → (∀ μ' ss' r', r' ≤ r → 1 ≤ r' → μ' p = some (benN b ss h) → μ' q = some (modN b ss' r') → X d μ') → wLeftD wp_Bench___exit__ (.cell p) X d μ' := fun d hd kx => by
    unfold wLeftD
    intro a t ha ht
    refine ok_exitX hd B'.p ⟨rfl, ?_⟩
    exact kx _ ss' r' hr B'.pos up_same (by rw [up_ne (Ne.symm ne), B'.q])
  refine ⟨fun e => ok_exit B'.p (k0 e _ ss' r' hr (B'.of up_same (by rw [up_ne (Ne.symm ne), B'.q]) B'.z B'.dg B'.len)), fun e => left _ rfl (k1 _ (.inl ⟨e, rfl⟩)), fun e => left _ rfl (k1 _ (.inr (.inl ⟨e, rfl⟩))), fun e => left _ rfl (k1 _ (.inr (.inr ⟨e, rfl⟩)))⟩
theorem t2_ok {J : WP} {lv : Int} (hJ : JobOk lv J) (B : Bh μ p q b ss r h) (b1 : 0 ≤ g0) (b2 : g0 < 4) (b3 : 0 ≤ g1) (b4 : g1 ≤ 3) (b5 : 0 ≤ g) (b6 : g ≤ lv)
    (k0 : g1 = 0 → ∀ μ' ss' r', r' ≤ r → Bh μ' p q b ss' r' h → E.nx (eb p q g (some (gdD g0 g1 g g3)) a5 (some (.str "well")) (some (.str "none"))) μ')
    (k1 : 1 ≤ g1 → ∀ μ' ss' r', r' ≤ r → 1 ≤ r' → μ' p = some (benN b ss h) → μ' q = some (modN b ss' r') → E.nx (eb p q g (some (gdD g0 g1 g g3)) a5 (some (.str "none")) (some (.str (nameW g1)))) μ') :
    tryW J (eb p q g (some (gdD g0 g1 g g3)) a5 (some (.str "none")) (some (.str "none"))) μ E := by
  unfold tryW
  have at3 : atI [D.int g0, .int g1, .int g, .int g3] 3 = some (.int g3) := rfl
  have hs : ∀ d, (g1 = 1 ∧ d = .err "BadDeed" ["deed"] [badT] ∨ g1 = 2 ∧ d = .ty "KeyError" ∨ g1 = 3 ∧ d = .ty "ZeroDivisionError") → ∀ μ' ss' r', r' ≤ r → 1 ≤ r' → μ' p = some (benN b ss h) → μ' q = some (modN b ss' r') → wHs [((.cls "BadDeed"), (wAsg 7 (wK (.str "deed")))), ((.ty "KeyError"), (wAsg 7 (wK (.str "key")))), ((.ty "ZeroDivisionError"), (wAsg 7 (wK (.str "zero"))))] d (eb p q g (some (gdD g0 g1 g g3)) a5 (some (.str "none")) (some (.str "none"))) μ' { nx := E.nx, rt := E.rt, bk := E.bk, ct := E.ct, xp := fun _ _ _ => False } := by
    intro d hd μ' ss' r' h1 h2 h3 h4
    have kk := k1 (by omega) μ' ss' r' h1 h2 h3 h4
    rcases hd with ⟨rfl, rfl⟩ | ⟨rfl, rfl⟩ | ⟨rfl, rfl⟩
    · show wAsg 7 (wK (.str "deed")) _ μ' _
      simp only [Jbx, initE, Jcx, Jcj, Jbl, Jbm, Jc3, Jcs, Jct, Jca, Jcp, Jbn, Jcz, Jbo, Jbu, Jdd, Jde, Jdc, Jdf, Jdj, Jdh, Jdi, Jdg, Jc6, Jcc, Jd7, Jd6, Jcb, Jcm, Jd5, Jd4, Jcg, Jbs, Jd3, Jcl, Jbk, Jco, Jc9, Jbj, Jcn, Jck, Jd9, Jd8, Jdb, Jbp, Jci, Jcr, Jc5, Jcy, Jch, Jbq, Jcu, Jd0, Jdk, Jdl, Jcd, Jcv, Jcw, Jc8, Jbr, Jc4, Jbz, Jcf, gt, st, Jbc, Jba, Jbb, Jb8, Jbi, Ja5, atI0, atI1, atI2, atI3, atI4, ixN20, ixN21, List.map_cons, List.map_nil, List.cons_append, List.nil_append, List.append_nil, List.length_cons, List.length_nil, List.replicate_succ, List.replicate_zero, Nat.add_one_sub_one, Jda, Jbt, Jc0, Jc2, Jby, Jae, Jag, Jah, Jaf, Jb7, Jaw, Jax, Jak, Jav, Jb4, Jau, Jat, Jan, Jam, Jb2, Jai, Jaj, Jb0, Jb1, Jaq, Jb3, Jar, Jas, Jao, Jap, Jb6, Jb5, Ja7, Ja8, Jac, Jab, Ja0, Ja9, Jaa, Jbg, Jbh, Ja6, Jad, Jbd, Jbf, Jbe, Jb9, Ja2, Ja1, Ja4, Ja3, Jay, Jaz, decide_true, decide_false, Bool.not_true, Bool.not_false, Bool.false_eq_true, if_true, if_false, true_and]
      exact kk
    · show wAsg 7 (wK (.str "key")) _ μ' _
      simp only [Jbx, initE, Jcx, Jcj, Jbl, Jbm, Jc3, Jcs, Jct, Jca, Jcp, Jbn, Jcz, Jbo, Jbu, Jdd, Jde, Jdc, Jdf, Jdj, Jdh, Jdi, Jdg, Jc6, Jcc, Jd7, Jd6, Jcb, Jcm, Jd5, Jd4, Jcg, Jbs, Jd3, Jcl, Jbk, Jco, Jc9, Jbj, Jcn, Jck, Jd9, Jd8, Jdb, Jbp, Jci, Jcr, Jc5, Jcy, Jch, Jbq, Jcu, Jd0, Jdk, Jdl, Jcd, Jcv, Jcw, Jc8, Jbr, Jc4, Jbz, Jcf, gt, st, Jbc, Jba, Jbb, Jb8, Jbi, Ja5, atI0, atI1, atI2, atI3, atI4, ixN20, ixN21, List.map_cons, List.map_nil, List.cons_append, List.nil_append, List.append_nil, List.length_cons, List.length_nil, List.replicate_succ, List.replicate_zero, Nat.add_one_sub_one, Jda, Jbt, Jc0, Jc2, Jby, Jae, Jag, Jah, Jaf, Jb7, Jaw, Jax, Jak, Jav, Jb4, Jau, Jat, Jan, Jam, Jb2, Jai, Jaj, Jb0, Jb1, Jaq, Jb3, Jar, Jas, Jao, Jap, Jb6, Jb5, Ja7, Ja8, Jac, Jab, Ja0, Ja9, Jaa, Jbg, Jbh, Ja6, Jad, Jbd, Jbf, Jbe, Jb9, Ja2, Ja1, Ja4, Ja3, Jay, Jaz, decide_true, decide_false, Bool.not_true, Bool.not_false, Bool.false_eq_true, if_true, if_false, true_and]
      exact kk
    · show wAsg 7 (wK (.str "zero")) _ μ' _
      simp only [Jbx, initE, Jcx, Jcj, Jbl, Jbm, Jc3, Jcs, Jct, Jca, Jcp, Jbn, Jcz, Jbo, Jbu, Jdd, Jde, Jdc, Jdf, Jdj, Jdh, Jdi, Jdg, Jc6, Jcc, Jd7, Jd6, Jcb, Jcm, Jd5, Jd4, Jcg, Jbs, Jd3, Jcl, Jbk, Jco, Jc9, Jbj, Jcn, Jck, Jd9, Jd8, Jdb, Jbp, Jci, Jcr, Jc5, Jcy, Jch, Jbq, Jcu, Jd0, Jdk, Jdl, Jcd, Jcv, Jcw, Jc8, Jbr, Jc4, Jbz, Jcf, gt, st, Jbc, Jba, Jbb, Jb8, Jbi, Ja5, atI0, atI1, atI2, atI3, atI4, ixN20, ixN21, List.map_cons, List.map_nil, List.cons_append, List.nil_append, List.append_nil, List.length_cons, List.length_nil, List.replicate_succ, List.replicate_zero, Nat.add_one_sub_one, Jda, Jbt, Jc0, Jc2, Jby, Jae, Jag, Jah, Jaf, Jb7, Jaw, Jax, Jak, Jav, Jb4, Jau, Jat, Jan, Jam, Jb2, Jai, Jaj, Jb0, Jb1, Jaq, Jb3, Jar, Jas, Jao, Jap, Jb6, Jb5, Ja7, Ja8, Jac, Jab, Ja0, Ja9, Jaa, Jbg, Jbh, Ja6, Jad, Jbd, Jbf, Jbe, Jb9, Ja2, Ja1, Ja4, Ja3, Jay, Jaz, decide_true, decide_false, Bool.not_true, Bool.not_false, Bool.false_eq_true, if_true, if_false, true_and]
      exact kk
  simp only [Jbx, initE, Jcx, Jcj, Jbl, Jbm, Jc3, Jcs, Jct, Jca, Jcp, Jbn, Jcz, Jbo, Jbu, Jdd, Jde, Jdc, Jdf, Jdj, Jdh, Jdi, Jdg, Jc6, Jcc, Jd7, Jd6, Jcb, Jcm, Jd5, Jd4, Jcg, Jbs, Jd3, Jcl, Jbk, Jco, Jc9, Jbj, Jcn, Jck, Jd9, Jd8, Jdb, Jbp, Jci, Jcr, Jc5, Jcy, Jch, Jbq, Jcu, Jd0, Jdk, Jdl, Jcd, Jcv, Jcw, Jc8, Jbr, Jc4, Jbz, Jcf, gt, st, Jbc, Jba, Jbb, Jb8, Jbi, Ja5, atI0, atI1, atI2, atI3, atI4, ixN20, ixN21, List.map_cons, List.map_nil, List.cons_append, List.nil_append, List.append_nil, List.length_cons, List.length_nil, List.replicate_succ, List.replicate_zero, Nat.add_one_sub_one, Jda, Jbt, Jc0, Jc2, Jby, Jae, Jag, Jah, Jaf, Jb7, Jaw, Jax, Jak, Jav, Jb4, Jau, Jat, Jan, Jam, Jb2, Jai, Jaj, Jb0, Jb1, Jaq, Jb3, Jar, Jas, Jao, Jap, Jb6, Jb5, Ja7, Ja8, Jac, Jab, Ja0, Ja9, Jaa, Jbg, Jbh, Ja6, Jad, Jbd, Jbf, Jbe, Jb9, Ja2, Ja1, Ja4, Ja3, Jay, Jaz, decide_true, decide_false, Bool.not_true, Bool.not_false, Bool.false_eq_true, if_true, if_false, true_and, gdD, at3, Jd2, Jd1]
  rw [ben_is B.p (by decide)]
  by_cases e3 : g3 = 0
  · subst e3
    simp only [Jbx, initE, Jcx, Jcj, Jbl, Jbm, Jc3, Jcs, Jct, Jca, Jcp, Jbn, Jcz, Jbo, Jbu, Jdd, Jde, Jdc, Jdf, Jdj, Jdh, Jdi, Jdg, Jc6, Jcc, Jd7, Jd6, Jcb, Jcm, Jd5, Jd4, Jcg, Jbs, Jd3, Jcl, Jbk, Jco, Jc9, Jbj, Jcn, Jck, Jd9, Jd8, Jdb, Jbp, Jci, Jcr, Jc5, Jcy, Jch, Jbq, Jcu, Jd0, Jdk, Jdl, Jcd, Jcv, Jcw, Jc8, Jbr, Jc4, Jbz, Jcf, gt, st, Jbc, Jba, Jbb, Jb8, Jbi, Ja5, atI0, atI1, atI2, atI3, atI4, ixN20, ixN21, List.map_cons, List.map_nil, List.cons_append, List.nil_append, List.append_nil, List.length_cons, List.length_nil, List.replicate_succ, List.replicate_zero, Nat.add_one_sub_one, Jda, Jbt, Jc0, Jc2, Jby, Jae, Jag, Jah, Jaf, Jb7, Jaw, Jax, Jak, Jav, Jb4, Jau, Jat, Jan, Jam, Jb2, Jai, Jaj, Jb0, Jb1, Jaq, Jb3, Jar, Jas, Jao, Jap, Jb6, Jb5, Ja7, Ja8, Jac, Jab, Ja0, Ja9, Jaa, Jbg, Jbh, Ja6, Jad, Jbd, Jbf, Jbe, Jb9, Ja2, Ja1, Ja4, Ja3, Jay, Jaz, decide_true, decide_false, Bool.not_true, Bool.not_false, Bool.false_eq_true, if_true, if_false, true_and]
    exact tried_ok (g3 := 0) hJ B b1 b2 b3 b4 b5 b6 k0 hs
  · simp only [Jbx, initE, Jcx, Jcj, Jbl, Jbm, Jc3, Jcs, Jct, Jca, Jcp, Jbn, Jcz, Jbo, Jbu, Jdd, Jde, Jdc, Jdf, Jdj, Jdh, Jdi, Jdg, Jc6, Jcc, Jd7, Jd6, Jcb, Jcm, Jd5, Jd4, Jcg, Jbs, Jd3, Jcl, Jbk, Jco, Jc9, Jbj, Jcn, Jck, Jd9, Jd8, Jdb, Jbp, Jci, Jcr, Jc5, Jcy, Jch, Jbq, Jcu, Jd0, Jdk, Jdl, Jcd, Jcv, Jcw, Jc8, Jbr, Jc4, Jbz, Jcf, gt, st, Jbc, Jba, Jbb, Jb8, Jbi, Ja5, atI0, atI1, atI2, atI3, atI4, ixN20, ixN21, List.map_cons, List.map_nil, List.cons_append, List.nil_append, List.append_nil, List.length_cons, List.length_nil, List.replicate_succ, List.replicate_zero, Nat.add_one_sub_one, Jda, Jbt, Jc0, Jc2, Jby, Jae, Jag, Jah, Jaf, Jb7, Jaw, Jax, Jak, Jav, Jb4, Jau, Jat, Jan, Jam, Jb2, Jai, Jaj, Jb0, Jb1, Jaq, Jb3, Jar, Jas, Jao, Jap, Jb6, Jb5, Ja7, Ja8, Jac, Jab, Ja0, Ja9, Jaa, Jbg, Jbh, Ja6, Jad, Jbd, Jbf, Jbe, Jb9, Ja2, Ja1, Ja4, Ja3, Jay, Jaz, decide_true, decide_false, Bool.not_true, Bool.not_false, Bool.false_eq_true, if_true, if_false, true_and, decide_eq_false e3]
    exact tried_ok (g3 := g3) hJ B b1 b2 b3 b4 b5 b6 k0 hs
theorem t3_ok (x3 : g1 = 0 ∧ a6 = some (.str "well") ∧ a7 = some (.str "none") ∨ 1 ≤ g1 ∧ g1 ≤ 3 ∧ a6 = some (.str "none") ∧ a7 = some (.str (nameW g1))) (k : E.nx (eb p q g (some (gdD g0 g1 g g3)) a5 a6 a7) μ) : wp_law_block__r0_3 (eb p q g (some (gdD g0 g1 g g3)) a5 a6 a7) μ E := by
  unfold wp_law_block__r0_3
  have hg : g1 = 0 ∨ g1 = 1 ∨ g1 = 2 ∨ g1 = 3 := by omega
  have at1 : atI [D.int g0, .int g1, .int g, .int g3] 1 = some (.int g1) := rfl
  have n0 : atI [D.str "none", .str "deed", .str "key", .str "zero"] 0 = some (.str "none") := rfl
  have n1 : atI [D.str "none", .str "deed", .str "key", .str "zero"] 1 = some (.str "deed") := rfl
  have n2 : atI [D.str "none", .str "deed", .str "key", .str "zero"] 2 = some (.str "key") := rfl
  have n3 : atI [D.str "none", .str "deed", .str "key", .str "zero"] 3 = some (.str "zero") := rfl
  rcases hg with rfl | rfl | rfl | rfl
  · rcases x3 with ⟨_, rfl, rfl⟩ | ⟨z, _⟩
    · simp only [Jbx, initE, Jcx, Jcj, Jbl, Jbm, Jc3, Jcs, Jct, Jca, Jcp, Jbn, Jcz, Jbo, Jbu, Jdd, Jde, Jdc, Jdf, Jdj, Jdh, Jdi, Jdg, Jc6, Jcc, Jd7, Jd6, Jcb, Jcm, Jd5, Jd4, Jcg, Jbs, Jd3, Jcl, Jbk, Jco, Jc9, Jbj, Jcn, Jck, Jd9, Jd8, Jdb, Jbp, Jci, Jcr, Jc5, Jcy, Jch, Jbq, Jcu, Jd0, Jdk, Jdl, Jcd, Jcv, Jcw, Jc8, Jbr, Jc4, Jbz, Jcf, gt, st, Jbc, Jba, Jbb, Jb8, Jbi, Ja5, atI0, atI1, atI2, atI3, atI4, ixN20, ixN21, List.map_cons, List.map_nil, List.cons_append, List.nil_append, List.append_nil, List.length_cons, List.length_nil, List.replicate_succ, List.replicate_zero, Nat.add_one_sub_one, Jda, Jbt, Jc0, Jc2, Jby, Jae, Jag, Jah, Jaf, Jb7, Jaw, Jax, Jak, Jav, Jb4, Jau, Jat, Jan, Jam, Jb2, Jai, Jaj, Jb0, Jb1, Jaq, Jb3, Jar, Jas, Jao, Jap, Jb6, Jb5, Ja7, Ja8, Jac, Jab, Ja0, Ja9, Jaa, Jbg, Jbh, Ja6, Jad, Jbd, Jbf, Jbe, Jb9, Ja2, Ja1, Ja4, Ja3, Jay, Jaz, decide_true, decide_false, Bool.not_true, Bool.not_false, Bool.false_eq_true, if_true, if_false, true_and, gdD, at1, n0]
      exact ⟨by simp [sizeLine_eq], k⟩
    · omega
  all_goals
    rcases x3 with ⟨z, _⟩ | ⟨_, _, rfl, rfl⟩
    · omega
    · simp only [Jbx, initE, Jcx, Jcj, Jbl, Jbm, Jc3, Jcs, Jct, Jca, Jcp, Jbn, Jcz, Jbo, Jbu, Jdd, Jde, Jdc, Jdf, Jdj, Jdh, Jdi, Jdg, Jc6, Jcc, Jd7, Jd6, Jcb, Jcm, Jd5, Jd4, Jcg, Jbs, Jd3, Jcl, Jbk, Jco, Jc9, Jbj, Jcn, Jck, Jd9, Jd8, Jdb, Jbp, Jci, Jcr, Jc5, Jcy, Jch, Jbq, Jcu, Jd0, Jdk, Jdl, Jcd, Jcv, Jcw, Jc8, Jbr, Jc4, Jbz, Jcf, gt, st, Jbc, Jba, Jbb, Jb8, Jbi, Ja5, atI0, atI1, atI2, atI3, atI4, ixN20, ixN21, List.map_cons, List.map_nil, List.cons_append, List.nil_append, List.append_nil, List.length_cons, List.length_nil, List.replicate_succ, List.replicate_zero, Nat.add_one_sub_one, Jda, Jbt, Jc0, Jc2, Jby, Jae, Jag, Jah, Jaf, Jb7, Jaw, Jax, Jak, Jav, Jb4, Jau, Jat, Jan, Jam, Jb2, Jai, Jaj, Jb0, Jb1, Jaq, Jb3, Jar, Jas, Jao, Jap, Jb6, Jb5, Ja7, Ja8, Jac, Jab, Ja0, Ja9, Jaa, Jbg, Jbh, Ja6, Jad, Jbd, Jbf, Jbe, Jb9, Ja2, Ja1, Ja4, Ja3, Jay, Jaz, decide_true, decide_false, Bool.not_true, Bool.not_false, Bool.false_eq_true, if_true, if_false, true_and, gdD, at1, n1, n2, n3]
      exact ⟨by simp [sizeLine_eq], k⟩
theorem t4_none (k : E.nx (eb p q g a4 a5 a6 (some (.str "none"))) μ) : wp_law_block__r0_4 (eb p q g a4 a5 a6 (some (.str "none"))) μ E := by
  unfold wp_law_block__r0_4
  simp only [Jbx, initE, Jcx, Jcj, Jbl, Jbm, Jc3, Jcs, Jct, Jca, Jcp, Jbn, Jcz, Jbo, Jbu, Jdd, Jde, Jdc, Jdf, Jdj, Jdh, Jdi, Jdg, Jc6, Jcc, Jd7, Jd6, Jcb, Jcm, Jd5, Jd4, Jcg, Jbs, Jd3, Jcl, Jbk, Jco, Jc9, Jbj, Jcn, Jck, Jd9, Jd8, Jdb, Jbp, Jci, Jcr, Jc5, Jcy, Jch, Jbq, Jcu, Jd0, Jdk, Jdl, Jcd, Jcv, Jcw, Jc8, Jbr, Jc4, Jbz, Jcf, gt, st, Jbc, Jba, Jbb, Jb8, Jbi, Ja5, atI0, atI1, atI2, atI3, atI4, ixN20, ixN21, List.map_cons, List.map_nil, List.cons_append, List.nil_append, List.append_nil, List.length_cons, List.length_nil, List.replicate_succ, List.replicate_zero, Nat.add_one_sub_one, Jda, Jbt, Jc0, Jc2, Jby, Jae, Jag, Jah, Jaf, Jb7, Jaw, Jax, Jak, Jav, Jb4, Jau, Jat, Jan, Jam, Jb2, Jai, Jaj, Jb0, Jb1, Jaq, Jb3, Jar, Jas, Jao, Jap, Jb6, Jb5, Ja7, Ja8, Jac, Jab, Ja0, Ja9, Jaa, Jbg, Jbh, Ja6, Jad, Jbd, Jbf, Jbe, Jb9, Ja2, Ja1, Ja4, Ja3, Jay, Jaz, decide_true, decide_false, Bool.not_true, Bool.not_false, Bool.false_eq_true, if_true, if_false, true_and]
  exact k
theorem t4_err {w : Str} (hw : w ≠ "none") (hq : μ q = some (modN b tt r)) (k : E.nx (eb p q g a4 (some (pastD b ss)) a6 (some (.str w))) (up μ q (modN b ss r))) : wp_law_block__r0_4 (eb p q g a4 (some (pastD b ss)) a6 (some (.str w))) μ E := by
  unfold wp_law_block__r0_4
  simp only [Jbx, initE, Jcx, Jcj, Jbl, Jbm, Jc3, Jcs, Jct, Jca, Jcp, Jbn, Jcz, Jbo, Jbu, Jdd, Jde, Jdc, Jdf, Jdj, Jdh, Jdi, Jdg, Jc6, Jcc, Jd7, Jd6, Jcb, Jcm, Jd5, Jd4, Jcg, Jbs, Jd3, Jcl, Jbk, Jco, Jc9, Jbj, Jcn, Jck, Jd9, Jd8, Jdb, Jbp, Jci, Jcr, Jc5, Jcy, Jch, Jbq, Jcu, Jd0, Jdk, Jdl, Jcd, Jcv, Jcw, Jc8, Jbr, Jc4, Jbz, Jcf, gt, st, Jbc, Jba, Jbb, Jb8, Jbi, Ja5, atI0, atI1, atI2, atI3, atI4, ixN20, ixN21, List.map_cons, List.map_nil, List.cons_append, List.nil_append, List.append_nil, List.length_cons, List.length_nil, List.replicate_succ, List.replicate_zero, Nat.add_one_sub_one, Jda, Jbt, Jc0, Jc2, Jby, Jae, Jag, Jah, Jaf, Jb7, Jaw, Jax, Jak, Jav, Jb4, Jau, Jat, Jan, Jam, Jb2, Jai, Jaj, Jb0, Jb1, Jaq, Jb3, Jar, Jas, Jao, Jap, Jb6, Jb5, Ja7, Ja8, Jac, Jab, Ja0, Ja9, Jaa, Jbg, Jbh, Ja6, Jad, Jbd, Jbf, Jbe, Jb9, Ja2, Ja1, Ja4, Ja3, Jay, Jaz, decide_true, decide_false, Bool.not_true, Bool.not_false, Bool.false_eq_true, if_true, if_false, true_and, Jbw, decide_eq_false hw]
  exact put_past hq k
theorem t5_well (B : Bh μ p q b ss r h) (k : E.rt (.str "right") μ) : wp_law_block__r0_5 (eb p q g a4 a5 (some (.str "well")) (some (.str "none"))) μ E := by
  unfold wp_law_block__r0_5
  simp only [Jbx, initE, Jcx, Jcj, Jbl, Jbm, Jc3, Jcs, Jct, Jca, Jcp, Jbn, Jcz, Jbo, Jbu, Jdd, Jde, Jdc, Jdf, Jdj, Jdh, Jdi, Jdg, Jc6, Jcc, Jd7, Jd6, Jcb, Jcm, Jd5, Jd4, Jcg, Jbs, Jd3, Jcl, Jbk, Jco, Jc9, Jbj, Jcn, Jck, Jd9, Jd8, Jdb, Jbp, Jci, Jcr, Jc5, Jcy, Jch, Jbq, Jcu, Jd0, Jdk, Jdl, Jcd, Jcv, Jcw, Jc8, Jbr, Jc4, Jbz, Jcf, gt, st, Jbc, Jba, Jbb, Jb8, Jbi, Ja5, atI0, atI1, atI2, atI3, atI4, ixN20, ixN21, List.map_cons, List.map_nil, List.cons_append, List.nil_append, List.append_nil, List.length_cons, List.length_nil, List.replicate_succ, List.replicate_zero, Nat.add_one_sub_one, Jda, Jbt, Jc0, Jc2, Jby, Jae, Jag, Jah, Jaf, Jb7, Jaw, Jax, Jak, Jav, Jb4, Jau, Jat, Jan, Jam, Jb2, Jai, Jaj, Jb0, Jb1, Jaq, Jb3, Jar, Jas, Jao, Jap, Jb6, Jb5, Ja7, Ja8, Jac, Jab, Ja0, Ja9, Jaa, Jbg, Jbh, Ja6, Jad, Jbd, Jbf, Jbe, Jb9, Ja2, Ja1, Ja4, Ja3, Jay, Jaz, decide_true, decide_false, Bool.not_true, Bool.not_false, Bool.false_eq_true, if_true, if_false, true_and]
  refine ⟨by simp [sizeLine_eq], ?_⟩
  exact B.shows k
theorem t5_err {w : Str} (hw : w ≠ "none") (B : Bh μ p q b ss r h) (k : E.rt (.str "right") μ) : wp_law_block__r0_5 (eb p q g a4 a5 (some (.str "none")) (some (.str w))) μ E := by
  unfold wp_law_block__r0_5
  simp only [Jbx, initE, Jcx, Jcj, Jbl, Jbm, Jc3, Jcs, Jct, Jca, Jcp, Jbn, Jcz, Jbo, Jbu, Jdd, Jde, Jdc, Jdf, Jdj, Jdh, Jdi, Jdg, Jc6, Jcc, Jd7, Jd6, Jcb, Jcm, Jd5, Jd4, Jcg, Jbs, Jd3, Jcl, Jbk, Jco, Jc9, Jbj, Jcn, Jck, Jd9, Jd8, Jdb, Jbp, Jci, Jcr, Jc5, Jcy, Jch, Jbq, Jcu, Jd0, Jdk, Jdl, Jcd, Jcv, Jcw, Jc8, Jbr, Jc4, Jbz, Jcf, gt, st, Jbc, Jba, Jbb, Jb8, Jbi, Ja5, atI0, atI1, atI2, atI3, atI4, ixN20, ixN21, List.map_cons, List.map_nil, List.cons_append, List.nil_append, List.append_nil, List.length_cons, List.length_nil, List.replicate_succ, List.replicate_zero, Nat.add_one_sub_one, Jda, Jbt, Jc0, Jc2, Jby, Jae, Jag, Jah, Jaf, Jb7, Jaw, Jax, Jak, Jav, Jb4, Jau, Jat, Jan, Jam, Jb2, Jai, Jaj, Jb0, Jb1, Jaq, Jb3, Jar, Jas, Jao, Jap, Jb6, Jb5, Ja7, Ja8, Jac, Jab, Ja0, Ja9, Jaa, Jbg, Jbh, Ja6, Jad, Jbd, Jbf, Jbe, Jb9, Ja2, Ja1, Ja4, Ja3, Jay, Jaz, decide_true, decide_false, Bool.not_true, Bool.not_false, Bool.false_eq_true, if_true, if_false, true_and, decide_eq_false hw]
  refine ⟨by simp [sizeLine_eq], ?_⟩
  exact B.shows k
theorem name_ne (g : Int) : nameW g ≠ "none" := by
  unfold nameW
  split
  · decide
  · split <;> decide
def allW (J : WP) : WS := wSeq wp_law_block__r0_0 (wSeq wp_law_block__r0_1 (wSeq (tryW J) (wSeq wp_law_block__r0_3 (wSeq wp_law_block__r0_4 wp_law_block__r0_5))))
theorem blkall_ok {J : WP} {lv : Int} (hJ : JobOk lv J) (B : Bh μ p q b ss r h) (b5 : 0 ≤ g) (b6 : g ≤ lv) (k : ∀ μ' ss' r', r' ≤ r → Bh μ' p q b ss' r' h → E.rt (.str "right") μ') : allW J (eb p q g a4 a5 a6 a7) μ E := by
  have ne := B.ne
  unfold allW
  simp only [Jcx]
  refine t0_ok fun g0 g1 g3 b1 b2 b3 b4 => ?_
  dsimp only
  refine t1_ok B.q ?_
  dsimp only
  refine t2_ok hJ B b1 b2 b3 b4 b5 b6 (fun e μ' ss' r' hr B' => ?_) fun e μ' ss' r' hr hp1 h1 h2 => ?_
  · dsimp only
    refine t3_ok (.inl ⟨e, rfl, rfl⟩) ?_
    dsimp only
    refine t4_none ?_
    dsimp only
    exact t5_well B' (k _ _ _ hr B')
  · dsimp only
    refine t3_ok (.inr ⟨e, b4, rfl, rfl⟩) ?_
    dsimp only
    refine t4_err (name_ne g1) h2 ?_
    dsimp only
    have z : (degs ss : Int) * r' ≤ 27 := Int.le_trans (Int.mul_le_mul_of_nonneg_left hr (by omega)) B.dg
    have B' : Bh (up μ' q (modN b ss r')) p q b ss r' h := ⟨by rw [up_ne ne, h1], up_same, B.b1, B.b2, B.len, B.ok, z, hp1⟩
    exact t5_err (name_ne g1) B' (k _ _ _ hr B')
theorem blk_ok {J : WP} {lv : Int} (hJ : JobOk lv J) : BlkOk lv (blkW J) := fun B b5 b6 k => ⟨rfl, blkall_ok hJ B b5 b6 k⟩
theorem in_ok {lv : Int} {W : WP} (hB : BlkOk (lv - 1) W) {e4 : Option D} (B : Bh μ p q b ss r h) (h1 : 0 < g2) (h2 : g2 ≤ lv) (k : ∀ μ' ss' r', r' ≤ r → Bh μ' p q b ss' r' h → E.nx [some .state, some (.cell p), some (.cell q), some (gdD g0 g1 g2 g3), e4] μ') : inW W [some .state, some (.cell p), some (.cell q), some (gdD g0 g1 g2 g3), e4] μ E := by
  unfold inW
  have at2 : atI [D.int g0, .int g1, .int g2, .int g3] 2 = some (.int g2) := rfl
  simp only [Jbx, initE, Jcx, Jcj, Jbl, Jbm, Jc3, Jcs, Jct, Jca, Jcp, Jbn, Jcz, Jbo, Jbu, Jdd, Jde, Jdc, Jdf, Jdj, Jdh, Jdi, Jdg, Jc6, Jcc, Jd7, Jd6, Jcb, Jcm, Jd5, Jd4, Jcg, Jbs, Jd3, Jcl, Jbk, Jco, Jc9, Jbj, Jcn, Jck, Jd9, Jd8, Jdb, Jbp, Jci, Jcr, Jc5, Jcy, Jch, Jbq, Jcu, Jd0, Jdk, Jdl, Jcd, Jcv, Jcw, Jc8, Jbr, Jc4, Jbz, Jcf, gt, st, Jbc, Jba, Jbb, Jb8, Jbi, Ja5, atI0, atI1, atI2, atI3, atI4, ixN20, ixN21, List.map_cons, List.map_nil, List.cons_append, List.nil_append, List.append_nil, List.length_cons, List.length_nil, List.replicate_succ, List.replicate_zero, Nat.add_one_sub_one, Jda, Jbt, Jc0, Jc2, Jby, Jae, Jag, Jah, Jaf, Jb7, Jaw, Jax, Jak, Jav, Jb4, Jau, Jat, Jan, Jam, Jb2, Jai, Jaj, Jb0, Jb1, Jaq, Jb3, Jar, Jas, Jao, Jap, Jb6, Jb5, Ja7, Ja8, Jac, Jab, Ja0, Ja9, Jaa, Jbg, Jbh, Ja6, Jad, Jbd, Jbf, Jbe, Jb9, Ja2, Ja1, Ja4, Ja3, Jay, Jaz, decide_true, decide_false, Bool.not_true, Bool.not_false, Bool.false_eq_true, if_true, if_false, true_and, gdD, at2]
  refine hB B (by omega) (by omega) fun μ' ss' r' hr B' => ?_
  simp only [Jbx, initE, Jcx, Jcj, Jbl, Jbm, Jc3, Jcs, Jct, Jca, Jcp, Jbn, Jcz, Jbo, Jbu, Jdd, Jde, Jdc, Jdf, Jdj, Jdh, Jdi, Jdg, Jc6, Jcc, Jd7, Jd6, Jcb, Jcm, Jd5, Jd4, Jcg, Jbs, Jd3, Jcl, Jbk, Jco, Jc9, Jbj, Jcn, Jck, Jd9, Jd8, Jdb, Jbp, Jci, Jcr, Jc5, Jcy, Jch, Jbq, Jcu, Jd0, Jdk, Jdl, Jcd, Jcv, Jcw, Jc8, Jbr, Jc4, Jbz, Jcf, gt, st, Jbc, Jba, Jbb, Jb8, Jbi, Ja5, atI0, atI1, atI2, atI3, atI4, ixN20, ixN21, List.map_cons, List.map_nil, List.cons_append, List.nil_append, List.append_nil, List.length_cons, List.length_nil, List.replicate_succ, List.replicate_zero, Nat.add_one_sub_one, Jda, Jbt, Jc0, Jc2, Jby, Jae, Jag, Jah, Jaf, Jb7, Jaw, Jax, Jak, Jav, Jb4, Jau, Jat, Jan, Jam, Jb2, Jai, Jaj, Jb0, Jb1, Jaq, Jb3, Jar, Jas, Jao, Jap, Jb6, Jb5, Ja7, Ja8, Jac, Jab, Ja0, Ja9, Jaa, Jbg, Jbh, Ja6, Jad, Jbd, Jbf, Jbe, Jb9, Ja2, Ja1, Ja4, Ja3, Jay, Jaz, decide_true, decide_false, Bool.not_true, Bool.not_false, Bool.false_eq_true, if_true, if_false, true_and]
  exact k _ _ _ hr B'
theorem jobs_0 : JobOk 0 wp_law_job__r0 := by
  rw [job_0]
  exact job_ok fun _ h1 h2 _ => by omega
theorem blks_0 : BlkOk 0 wp_law_block__r0 := by
  rw [blk_0]
  exact blk_ok jobs_0
theorem jobs_1 : JobOk 1 wp_law_job__r1 := by
  rw [job_1]
  exact job_ok fun B h1 h2 k => in_ok (lv := 1) blks_0 B h1 h2 k
theorem blks_1 : BlkOk 1 wp_law_block__r1 := by
  rw [blk_1]
  exact blk_ok jobs_1
theorem jobs_2 : JobOk 2 wp_law_job__r2 := by
  rw [job_2]
  exact job_ok fun B h1 h2 k => in_ok (lv := 2) blks_1 B h1 h2 k
theorem blks_2 : BlkOk 2 wp_law_block__r2 := by
  rw [blk_2]
  exact blk_ok jobs_2
/-! ### the law -/
abbrev ev (sc : List Int) (a2 : Option D) (p q : Addr) (a5 : Option D) : EnvD := [some (.script sc), some .state, a2, some (.cell p), some (.cell q), a5]
variable {sc : List Int} {a2 a3 : Option D}
theorem s0_ok (k : ∀ b p q μ', Bh μ' p q b [] 27 .none → E.nx (ev sc a2 p q a5) μ') : ws_0_0 [some (.script sc), some .state, a2, a3, a4, a5] μ E := by
  unfold ws_0_0
  simp only [Jbx, initE, Jcx, Jcj, Jbl, Jbm, Jc3, Jcs, Jct, Jca, Jcp, Jbn, Jcz, Jbo, Jbu, Jdd, Jde, Jdc, Jdf, Jdj, Jdh, Jdi, Jdg, Jc6, Jcc, Jd7, Jd6, Jcb, Jcm, Jd5, Jd4, Jcg, Jbs, Jd3, Jcl, Jbk, Jco, Jc9, Jbj, Jcn, Jck, Jd9, Jd8, Jdb, Jbp, Jci, Jcr, Jc5, Jcy, Jch, Jbq, Jcu, Jd0, Jdk, Jdl, Jcd, Jcv, Jcw, Jc8, Jbr, Jc4, Jbz, Jcf, gt, st, Jbc, Jba, Jbb, Jb8, Jbi, Ja5, atI0, atI1, atI2, atI3, atI4, ixN20, ixN21, List.map_cons, List.map_nil, List.cons_append, List.nil_append, List.append_nil, List.length_cons, List.length_nil, List.replicate_succ, List.replicate_zero, Nat.add_one_sub_one, Jda, Jbt, Jc0, Jc2, Jby, Jae, Jag, Jah, Jaf, Jb7, Jaw, Jax, Jak, Jav, Jb4, Jau, Jat, Jan, Jam, Jb2, Jai, Jaj, Jb0, Jb1, Jaq, Jb3, Jar, Jas, Jao, Jap, Jb6, Jb5, Ja7, Ja8, Jac, Jab, Ja0, Ja9, Jaa, Jbg, Jbh, Ja6, Jad, Jbd, Jbf, Jbe, Jb9, Ja2, Ja1, Ja4, Ja3, Jay, Jaz, decide_true, decide_false, Bool.not_true, Bool.not_false, Bool.false_eq_true, if_true, if_false, true_and]
  refine ok_bench_drawn fun b p q hp hq hn h1 h2 => ?_
  simp only [Jbx, initE, Jcx, Jcj, Jbl, Jbm, Jc3, Jcs, Jct, Jca, Jcp, Jbn, Jcz, Jbo, Jbu, Jdd, Jde, Jdc, Jdf, Jdj, Jdh, Jdi, Jdg, Jc6, Jcc, Jd7, Jd6, Jcb, Jcm, Jd5, Jd4, Jcg, Jbs, Jd3, Jcl, Jbk, Jco, Jc9, Jbj, Jcn, Jck, Jd9, Jd8, Jdb, Jbp, Jci, Jcr, Jc5, Jcy, Jch, Jbq, Jcu, Jd0, Jdk, Jdl, Jcd, Jcv, Jcw, Jc8, Jbr, Jc4, Jbz, Jcf, gt, st, Jbc, Jba, Jbb, Jb8, Jbi, Ja5, atI0, atI1, atI2, atI3, atI4, ixN20, ixN21, List.map_cons, List.map_nil, List.cons_append, List.nil_append, List.append_nil, List.length_cons, List.length_nil, List.replicate_succ, List.replicate_zero, Nat.add_one_sub_one, Jda, Jbt, Jc0, Jc2, Jby, Jae, Jag, Jah, Jaf, Jb7, Jaw, Jax, Jak, Jav, Jb4, Jau, Jat, Jan, Jam, Jb2, Jai, Jaj, Jb0, Jb1, Jaq, Jb3, Jar, Jas, Jao, Jap, Jb6, Jb5, Ja7, Ja8, Jac, Jab, Ja0, Ja9, Jaa, Jbg, Jbh, Ja6, Jad, Jbd, Jbf, Jbe, Jb9, Ja2, Ja1, Ja4, Ja3, Jay, Jaz, decide_true, decide_false, Bool.not_true, Bool.not_false, Bool.false_eq_true, if_true, if_false, true_and]
  exact k b p q _ ⟨by rw [up_ne (Ne.symm hn), up_same], up_same, h1, h2, by simp, (fun _ z => by cases z), by simp [degs], by decide⟩
theorem i0_ok (B : Bh μ p q b ss r h) (k : ∀ μ' ss' r', r' ≤ r → Bh μ' p q b ss' r' h → E.nx (ev sc a2 p q a5) μ') : wi_0_1_0 (ev sc a2 p q a5) μ E := by
  unfold wi_0_1_0
  simp only [Jbx, initE, Jcx, Jcj, Jbl, Jbm, Jc3, Jcs, Jct, Jca, Jcp, Jbn, Jcz, Jbo, Jbu, Jdd, Jde, Jdc, Jdf, Jdj, Jdh, Jdi, Jdg, Jc6, Jcc, Jd7, Jd6, Jcb, Jcm, Jd5, Jd4, Jcg, Jbs, Jd3, Jcl, Jbk, Jco, Jc9, Jbj, Jcn, Jck, Jd9, Jd8, Jdb, Jbp, Jci, Jcr, Jc5, Jcy, Jch, Jbq, Jcu, Jd0, Jdk, Jdl, Jcd, Jcv, Jcw, Jc8, Jbr, Jc4, Jbz, Jcf, gt, st, Jbc, Jba, Jbb, Jb8, Jbi, Ja5, atI0, atI1, atI2, atI3, atI4, ixN20, ixN21, List.map_cons, List.map_nil, List.cons_append, List.nil_append, List.append_nil, List.length_cons, List.length_nil, List.replicate_succ, List.replicate_zero, Nat.add_one_sub_one, Jda, Jbt, Jc0, Jc2, Jby, Jae, Jag, Jah, Jaf, Jb7, Jaw, Jax, Jak, Jav, Jb4, Jau, Jat, Jan, Jam, Jb2, Jai, Jaj, Jb0, Jb1, Jaq, Jb3, Jar, Jas, Jao, Jap, Jb6, Jb5, Ja7, Ja8, Jac, Jab, Ja0, Ja9, Jaa, Jbg, Jbh, Ja6, Jad, Jbd, Jbf, Jbe, Jb9, Ja2, Ja1, Ja4, Ja3, Jay, Jaz, decide_true, decide_false, Bool.not_true, Bool.not_false, Bool.false_eq_true, if_true, if_false, true_and]
  refine ok_take (by decide) (by decide) fun i i0 i4 => ?_
  obtain ⟨j, rfl⟩ := Int.eq_ofNat_of_zero_le i0
  refine B.some_done (by omega) fun μ' ss' r' hr B' => ?_
  simp only [Jbx, initE, Jcx, Jcj, Jbl, Jbm, Jc3, Jcs, Jct, Jca, Jcp, Jbn, Jcz, Jbo, Jbu, Jdd, Jde, Jdc, Jdf, Jdj, Jdh, Jdi, Jdg, Jc6, Jcc, Jd7, Jd6, Jcb, Jcm, Jd5, Jd4, Jcg, Jbs, Jd3, Jcl, Jbk, Jco, Jc9, Jbj, Jcn, Jck, Jd9, Jd8, Jdb, Jbp, Jci, Jcr, Jc5, Jcy, Jch, Jbq, Jcu, Jd0, Jdk, Jdl, Jcd, Jcv, Jcw, Jc8, Jbr, Jc4, Jbz, Jcf, gt, st, Jbc, Jba, Jbb, Jb8, Jbi, Ja5, atI0, atI1, atI2, atI3, atI4, ixN20, ixN21, List.map_cons, List.map_nil, List.cons_append, List.nil_append, List.append_nil, List.length_cons, List.length_nil, List.replicate_succ, List.replicate_zero, Nat.add_one_sub_one, Jda, Jbt, Jc0, Jc2, Jby, Jae, Jag, Jah, Jaf, Jb7, Jaw, Jax, Jak, Jav, Jb4, Jau, Jat, Jan, Jam, Jb2, Jai, Jaj, Jb0, Jb1, Jaq, Jb3, Jar, Jas, Jao, Jap, Jb6, Jb5, Ja7, Ja8, Jac, Jab, Ja0, Ja9, Jaa, Jbg, Jbh, Ja6, Jad, Jbd, Jbf, Jbe, Jb9, Ja2, Ja1, Ja4, Ja3, Jay, Jaz, decide_true, decide_false, Bool.not_true, Bool.not_false, Bool.false_eq_true, if_true, if_false, true_and]
  exact k _ _ _ hr B'
theorem i1_ok (B : Bh μ p q b ss r h) (k : ∀ μ' ss' r', r' ≤ r → Bh μ' p q b ss' r' h → E.nx (ev sc a2 p q a5) μ') : wi_0_1_1 (ev sc a2 p q a5) μ E := by
  unfold wi_0_1_1
  simp only [Jbx, initE, Jcx, Jcj, Jbl, Jbm, Jc3, Jcs, Jct, Jca, Jcp, Jbn, Jcz, Jbo, Jbu, Jdd, Jde, Jdc, Jdf, Jdj, Jdh, Jdi, Jdg, Jc6, Jcc, Jd7, Jd6, Jcb, Jcm, Jd5, Jd4, Jcg, Jbs, Jd3, Jcl, Jbk, Jco, Jc9, Jbj, Jcn, Jck, Jd9, Jd8, Jdb, Jbp, Jci, Jcr, Jc5, Jcy, Jch, Jbq, Jcu, Jd0, Jdk, Jdl, Jcd, Jcv, Jcw, Jc8, Jbr, Jc4, Jbz, Jcf, gt, st, Jbc, Jba, Jbb, Jb8, Jbi, Ja5, atI0, atI1, atI2, atI3, atI4, ixN20, ixN21, List.map_cons, List.map_nil, List.cons_append, List.nil_append, List.append_nil, List.length_cons, List.length_nil, List.replicate_succ, List.replicate_zero, Nat.add_one_sub_one, Jda, Jbt, Jc0, Jc2, Jby, Jae, Jag, Jah, Jaf, Jb7, Jaw, Jax, Jak, Jav, Jb4, Jau, Jat, Jan, Jam, Jb2, Jai, Jaj, Jb0, Jb1, Jaq, Jb3, Jar, Jas, Jao, Jap, Jb6, Jb5, Ja7, Ja8, Jac, Jab, Ja0, Ja9, Jaa, Jbg, Jbh, Ja6, Jad, Jbd, Jbf, Jbe, Jb9, Ja2, Ja1, Ja4, Ja3, Jay, Jaz, decide_true, decide_false, Bool.not_true, Bool.not_false, Bool.false_eq_true, if_true, if_false, true_and]
  refine ok_take (by decide) (by decide) fun i i0 i4 => ?_
  refine blks_2 B i0 (by omega) fun μ' ss' r' hr B' => ?_
  simp only [Jbx, initE, Jcx, Jcj, Jbl, Jbm, Jc3, Jcs, Jct, Jca, Jcp, Jbn, Jcz, Jbo, Jbu, Jdd, Jde, Jdc, Jdf, Jdj, Jdh, Jdi, Jdg, Jc6, Jcc, Jd7, Jd6, Jcb, Jcm, Jd5, Jd4, Jcg, Jbs, Jd3, Jcl, Jbk, Jco, Jc9, Jbj, Jcn, Jck, Jd9, Jd8, Jdb, Jbp, Jci, Jcr, Jc5, Jcy, Jch, Jbq, Jcu, Jd0, Jdk, Jdl, Jcd, Jcv, Jcw, Jc8, Jbr, Jc4, Jbz, Jcf, gt, st, Jbc, Jba, Jbb, Jb8, Jbi, Ja5, atI0, atI1, atI2, atI3, atI4, ixN20, ixN21, List.map_cons, List.map_nil, List.cons_append, List.nil_append, List.append_nil, List.length_cons, List.length_nil, List.replicate_succ, List.replicate_zero, Nat.add_one_sub_one, Jda, Jbt, Jc0, Jc2, Jby, Jae, Jag, Jah, Jaf, Jb7, Jaw, Jax, Jak, Jav, Jb4, Jau, Jat, Jan, Jam, Jb2, Jai, Jaj, Jb0, Jb1, Jaq, Jb3, Jar, Jas, Jao, Jap, Jb6, Jb5, Ja7, Ja8, Jac, Jab, Ja0, Ja9, Jaa, Jbg, Jbh, Ja6, Jad, Jbd, Jbf, Jbe, Jb9, Ja2, Ja1, Ja4, Ja3, Jay, Jaz, decide_true, decide_false, Bool.not_true, Bool.not_false, Bool.false_eq_true, if_true, if_false, true_and]
  exact k _ _ _ hr B'
theorem s1_ok (B : Bh μ p q b ss r h) (k : ∀ a5 μ' ss' r', Bh μ' p q b ss' r' h → E.nx (ev sc a2 p q a5) μ') : ws_0_1 (ev sc a2 p q a5) μ E := by
  unfold ws_0_1
  simp only [Jbx, initE, Jcx, Jcj, Jbl, Jbm, Jc3, Jcs, Jct, Jca, Jcp, Jbn, Jcz, Jbo, Jbu, Jdd, Jde, Jdc, Jdf, Jdj, Jdh, Jdi, Jdg, Jc6, Jcc, Jd7, Jd6, Jcb, Jcm, Jd5, Jd4, Jcg, Jbs, Jd3, Jcl, Jbk, Jco, Jc9, Jbj, Jcn, Jck, Jd9, Jd8, Jdb, Jbp, Jci, Jcr, Jc5, Jcy, Jch, Jbq, Jcu, Jd0, Jdk, Jdl, Jcd, Jcv, Jcw, Jc8, Jbr, Jc4, Jbz, Jcf, gt, st, Jbc, Jba, Jbb, Jb8, Jbi, Ja5, atI0, atI1, atI2, atI3, atI4, ixN20, ixN21, List.map_cons, List.map_nil, List.cons_append, List.nil_append, List.append_nil, List.length_cons, List.length_nil, List.replicate_succ, List.replicate_zero, Nat.add_one_sub_one, Jda, Jbt, Jc0, Jc2, Jby, Jae, Jag, Jah, Jaf, Jb7, Jaw, Jax, Jak, Jav, Jb4, Jau, Jat, Jan, Jam, Jb2, Jai, Jaj, Jb0, Jb1, Jaq, Jb3, Jar, Jas, Jao, Jap, Jb6, Jb5, Ja7, Ja8, Jac, Jab, Ja0, Ja9, Jaa, Jbg, Jbh, Ja6, Jad, Jbd, Jbf, Jbe, Jb9, Ja2, Ja1, Ja4, Ja3]
  refine ⟨⟨by decide, by decide⟩, by rw [rangeD_len]; decide, for_inv (fun i e μ' => (∃ a5, e = ev sc a2 p q a5) ∧ ∃ ss' r', Bh μ' p q b ss' r' h) ⟨⟨_, rfl⟩, ss, r, B⟩ ?_ ?_⟩
  · rintro i x e μ' N hx ⟨⟨a5, rfl⟩, ss', r', B'⟩ hN
    refine ⟨trivial, ?_⟩
    simp only [Jdd]
    show wb_0_1 (ev sc a2 p q (some x)) μ' _
    unfold wb_0_1
    simp only [Jcx]
    refine i0_ok B' fun μ2 s2 r2 _ B2 => ?_
    dsimp only
    exact i1_ok B2 fun μ3 s3 r3 _ B3 => hN _ _ ⟨⟨_, rfl⟩, s3, r3, B3⟩
  · rintro e μ' ⟨⟨a5, rfl⟩, ss', r', B'⟩
    exact ⟨trivial, k _ _ _ _ B'⟩
theorem s2_ok (B : Bh μ p q b ss r h) (k : ∀ μ', Bh μ' p q b [] r h → E.nx (ev sc a2 p q a5) μ') : ws_0_2 (ev sc a2 p q a5) μ E := by
  have hl := B.len
  unfold ws_0_2
  refine ⟨22, by decide, while_inv (fun k e μ' => e = ev sc a2 p q a5 ∧ ∃ ss', Bh μ' p q b ss' r h ∧ k = ss'.length) ?_ _ ss.length _ _ (by omega) ⟨rfl, ss, B, rfl⟩⟩
  rintro i e μ' N ⟨rfl, ss', B', rfl⟩ hN
  simp only [Jbx, initE, Jcx, Jcj, Jbl, Jbm, Jc3, Jcs, Jct, Jca, Jcp, Jbn, Jcz, Jbo, Jbu, Jdd, Jde, Jdc, Jdf, Jdj, Jdh, Jdi, Jdg, Jc6, Jcc, Jd7, Jd6, Jcb, Jcm, Jd5, Jd4, Jcg, Jbs, Jd3, Jcl, Jbk, Jco, Jc9, Jbj, Jcn, Jck, Jd9, Jd8, Jdb, Jbp, Jci, Jcr, Jc5, Jcy, Jch, Jbq, Jcu, Jd0, Jdk, Jdl, Jcd, Jcv, Jcw, Jc8, Jbr, Jc4, Jbz, Jcf, gt, st, Jbc, Jba, Jbb, Jb8, Jbi, Ja5, atI0, atI1, atI2, atI3, atI4, ixN20, ixN21, List.map_cons, List.map_nil, List.cons_append, List.nil_append, List.append_nil, List.length_cons, List.length_nil, List.replicate_succ, List.replicate_zero, Nat.add_one_sub_one, Jda, Jbt, Jc0, Jc2, Jby, Jae, Jag, Jah, Jaf, Jb7, Jaw, Jax, Jak, Jav, Jb4, Jau, Jat, Jan, Jam, Jb2, Jai, Jaj, Jb0, Jb1, Jaq, Jb3, Jar, Jas, Jao, Jap, Jb6, Jb5, Ja7, Ja8, Jac, Jab, Ja0, Ja9, Jaa, Jbg, Jbh, Ja6, Jad, Jbd, Jbf, Jbe, Jb9, Ja2, Ja1, Ja4, Ja3, Jay, Jaz, decide_true, decide_false, Bool.not_true, Bool.not_false, Bool.false_eq_true, if_true, if_false, true_and, Jbv]
  rw [get_past B'.q]
  unfold pastD
  refine ⟨Nat.zero_le _, ?_⟩
  rw [Jay]
  cases ss' with
  | nil =>
    simp only [Jbx, initE, Jcx, Jcj, Jbl, Jbm, Jc3, Jcs, Jct, Jca, Jcp, Jbn, Jcz, Jbo, Jbu, Jdd, Jde, Jdc, Jdf, Jdj, Jdh, Jdi, Jdg, Jc6, Jcc, Jd7, Jd6, Jcb, Jcm, Jd5, Jd4, Jcg, Jbs, Jd3, Jcl, Jbk, Jco, Jc9, Jbj, Jcn, Jck, Jd9, Jd8, Jdb, Jbp, Jci, Jcr, Jc5, Jcy, Jch, Jbq, Jcu, Jd0, Jdk, Jdl, Jcd, Jcv, Jcw, Jc8, Jbr, Jc4, Jbz, Jcf, gt, st, Jbc, Jba, Jbb, Jb8, Jbi, Ja5, atI0, atI1, atI2, atI3, atI4, ixN20, ixN21, List.map_cons, List.map_nil, List.cons_append, List.nil_append, List.append_nil, List.length_cons, List.length_nil, List.replicate_succ, List.replicate_zero, Nat.add_one_sub_one, Jda, Jbt, Jc0, Jc2, Jby, Jae, Jag, Jah, Jaf, Jb7, Jaw, Jax, Jak, Jav, Jb4, Jau, Jat, Jan, Jam, Jb2, Jai, Jaj, Jb0, Jb1, Jaq, Jb3, Jar, Jas, Jao, Jap, Jb6, Jb5, Ja7, Ja8, Jac, Jab, Ja0, Ja9, Jaa, Jbg, Jbh, Ja6, Jad, Jbd, Jbf, Jbe, Jb9, Ja2, Ja1, Ja4, Ja3, Jay, Jaz, decide_true, decide_false, Bool.not_true, Bool.not_false, Bool.false_eq_true, if_true, if_false, true_and, ptsS, List.map_nil, List.isEmpty_nil]
    exact k _ B'
  | cons s tt =>
    simp only [Jbx, initE, Jcx, Jcj, Jbl, Jbm, Jc3, Jcs, Jct, Jca, Jcp, Jbn, Jcz, Jbo, Jbu, Jdd, Jde, Jdc, Jdf, Jdj, Jdh, Jdi, Jdg, Jc6, Jcc, Jd7, Jd6, Jcb, Jcm, Jd5, Jd4, Jcg, Jbs, Jd3, Jcl, Jbk, Jco, Jc9, Jbj, Jcn, Jck, Jd9, Jd8, Jdb, Jbp, Jci, Jcr, Jc5, Jcy, Jch, Jbq, Jcu, Jd0, Jdk, Jdl, Jcd, Jcv, Jcw, Jc8, Jbr, Jc4, Jbz, Jcf, gt, st, Jbc, Jba, Jbb, Jb8, Jbi, Ja5, atI0, atI1, atI2, atI3, atI4, ixN20, ixN21, List.map_cons, List.map_nil, List.cons_append, List.nil_append, List.append_nil, List.length_cons, List.length_nil, List.replicate_succ, List.replicate_zero, Nat.add_one_sub_one, Jda, Jbt, Jc0, Jc2, Jby, Jae, Jag, Jah, Jaf, Jb7, Jaw, Jax, Jak, Jav, Jb4, Jau, Jat, Jan, Jam, Jb2, Jai, Jaj, Jb0, Jb1, Jaq, Jb3, Jar, Jas, Jao, Jap, Jb6, Jb5, Ja7, Ja8, Jac, Jab, Ja0, Ja9, Jaa, Jbg, Jbh, Ja6, Jad, Jbd, Jbf, Jbe, Jb9, Ja2, Ja1, Ja4, Ja3, Jay, Jaz, decide_true, decide_false, Bool.not_true, Bool.not_false, Bool.false_eq_true, if_true, if_false, true_and, ptsS, List.map_cons, List.isEmpty_cons]
    refine B'.undone fun μ2 s2 l2 B2 => ?_
    simp only [Jbx, initE, Jcx, Jcj, Jbl, Jbm, Jc3, Jcs, Jct, Jca, Jcp, Jbn, Jcz, Jbo, Jbu, Jdd, Jde, Jdc, Jdf, Jdj, Jdh, Jdi, Jdg, Jc6, Jcc, Jd7, Jd6, Jcb, Jcm, Jd5, Jd4, Jcg, Jbs, Jd3, Jcl, Jbk, Jco, Jc9, Jbj, Jcn, Jck, Jd9, Jd8, Jdb, Jbp, Jci, Jcr, Jc5, Jcy, Jch, Jbq, Jcu, Jd0, Jdk, Jdl, Jcd, Jcv, Jcw, Jc8, Jbr, Jc4, Jbz, Jcf, gt, st, Jbc, Jba, Jbb, Jb8, Jbi, Ja5, atI0, atI1, atI2, atI3, atI4, ixN20, ixN21, List.map_cons, List.map_nil, List.cons_append, List.nil_append, List.append_nil, List.length_cons, List.length_nil, List.replicate_succ, List.replicate_zero, Nat.add_one_sub_one, Jda, Jbt, Jc0, Jc2, Jby, Jae, Jag, Jah, Jaf, Jb7, Jaw, Jax, Jak, Jav, Jb4, Jau, Jat, Jan, Jam, Jb2, Jai, Jaj, Jb0, Jb1, Jaq, Jb3, Jar, Jas, Jao, Jap, Jb6, Jb5, Ja7, Ja8, Jac, Jab, Ja0, Ja9, Jaa, Jbg, Jbh, Ja6, Jad, Jbd, Jbf, Jbe, Jb9, Ja2, Ja1, Ja4, Ja3, Jay, Jaz, decide_true, decide_false, Bool.not_true, Bool.not_false, Bool.false_eq_true, if_true, if_false, true_and]
    exact hN s2.length _ _ (by rw [l2]; simp) ⟨rfl, s2, B2, rfl⟩
theorem s3_ok (B : Bh μ p q b ss r h) (k : ∀ μ', E.nx (ev sc a2 p q a5) μ') : ws_0_3 (ev sc a2 p q a5) μ E := by
  unfold ws_0_3
  simp only [Jbx, initE, Jcx, Jcj, Jbl, Jbm, Jc3, Jcs, Jct, Jca, Jcp, Jbn, Jcz, Jbo, Jbu, Jdd, Jde, Jdc, Jdf, Jdj, Jdh, Jdi, Jdg, Jc6, Jcc, Jd7, Jd6, Jcb, Jcm, Jd5, Jd4, Jcg, Jbs, Jd3, Jcl, Jbk, Jco, Jc9, Jbj, Jcn, Jck, Jd9, Jd8, Jdb, Jbp, Jci, Jcr, Jc5, Jcy, Jch, Jbq, Jcu, Jd0, Jdk, Jdl, Jcd, Jcv, Jcw, Jc8, Jbr, Jc4, Jbz, Jcf, gt, st, Jbc, Jba, Jbb, Jb8, Jbi, Ja5, atI0, atI1, atI2, atI3, atI4, ixN20, ixN21, List.map_cons, List.map_nil, List.cons_append, List.nil_append, List.append_nil, List.length_cons, List.length_nil, List.replicate_succ, List.replicate_zero, Nat.add_one_sub_one, Jda, Jbt, Jc0, Jc2, Jby, Jae, Jag, Jah, Jaf, Jb7, Jaw, Jax, Jak, Jav, Jb4, Jau, Jat, Jan, Jam, Jb2, Jai, Jaj, Jb0, Jb1, Jaq, Jb3, Jar, Jas, Jao, Jap, Jb6, Jb5, Ja7, Ja8, Jac, Jab, Ja0, Ja9, Jaa, Jbg, Jbh, Ja6, Jad, Jbd, Jbf, Jbe, Jb9, Ja2, Ja1, Ja4, Ja3, Jay, Jaz, decide_true, decide_false, Bool.not_true, Bool.not_false, Bool.false_eq_true, if_true, if_false, true_and]
  refine B.undone fun μ2 s2 l2 B2 => ?_
  simp only [Jbx, initE, Jcx, Jcj, Jbl, Jbm, Jc3, Jcs, Jct, Jca, Jcp, Jbn, Jcz, Jbo, Jbu, Jdd, Jde, Jdc, Jdf, Jdj, Jdh, Jdi, Jdg, Jc6, Jcc, Jd7, Jd6, Jcb, Jcm, Jd5, Jd4, Jcg, Jbs, Jd3, Jcl, Jbk, Jco, Jc9, Jbj, Jcn, Jck, Jd9, Jd8, Jdb, Jbp, Jci, Jcr, Jc5, Jcy, Jch, Jbq, Jcu, Jd0, Jdk, Jdl, Jcd, Jcv, Jcw, Jc8, Jbr, Jc4, Jbz, Jcf, gt, st, Jbc, Jba, Jbb, Jb8, Jbi, Ja5, atI0, atI1, atI2, atI3, atI4, ixN20, ixN21, List.map_cons, List.map_nil, List.cons_append, List.nil_append, List.append_nil, List.length_cons, List.length_nil, List.replicate_succ, List.replicate_zero, Nat.add_one_sub_one, Jda, Jbt, Jc0, Jc2, Jby, Jae, Jag, Jah, Jaf, Jb7, Jaw, Jax, Jak, Jav, Jb4, Jau, Jat, Jan, Jam, Jb2, Jai, Jaj, Jb0, Jb1, Jaq, Jb3, Jar, Jas, Jao, Jap, Jb6, Jb5, Ja7, Ja8, Jac, Jab, Ja0, Ja9, Jaa, Jbg, Jbh, Ja6, Jad, Jbd, Jbf, Jbe, Jb9, Ja2, Ja1, Ja4, Ja3, Jay, Jaz, decide_true, decide_false, Bool.not_true, Bool.not_false, Bool.false_eq_true, if_true, if_false, true_and]
  exact k _
theorem turn_ok (k : ∀ a3 a4 a5 μ', E.nx [some (.script sc), some .state, a2, a3, a4, a5] μ') : wb_0 [some (.script sc), some .state, a2, a3, a4, a5] μ E := by
  unfold wb_0
  simp only [Jcx]
  refine s0_ok fun b p q μ1 B => ?_
  dsimp only
  refine s1_ok B fun a5 μ2 ss' r' B2 => ?_
  dsimp only
  refine s2_ok B2 fun μ3 B3 => ?_
  dsimp only
  exact s3_ok B3 fun μ4 => k _ _ _ _
theorem law_ok : ∀ ns : List Int, ns.length ≤ 63 → wr_law (some (.script ns) :: some .state :: List.replicate (6 - 2) Option.none) (fun _ => Option.none) lawEnds := by
  intro sc hl
  unfold wr_law ws_0
  have el : cbLen [.script sc] = fun μ Q _ => Q (.v (.int sc.length)) μ := by
    funext μ Q X
    simp [cbLen, one, sqD, iL_len]
  simp only [Jbx, initE, Jcx, Jcj, Jbl, Jbm, Jc3, Jcs, Jct, Jca, Jcp, Jbn, Jcz, Jbo, Jbu, Jdd, Jde, Jdc, Jdf, Jdj, Jdh, Jdi, Jdg, Jc6, Jcc, Jd7, Jd6, Jcb, Jcm, Jd5, Jd4, Jcg, Jbs, Jd3, Jcl, Jbk, Jco, Jc9, Jbj, Jcn, Jck, Jd9, Jd8, Jdb, Jbp, Jci, Jcr, Jc5, Jcy, Jch, Jbq, Jcu, Jd0, Jdk, Jdl, Jcd, Jcv, Jcw, Jc8, Jbr, Jc4, Jbz, Jcf, gt, st, Jbc, Jba, Jbb, Jb8, Jbi, Ja5, atI0, atI1, atI2, atI3, atI4, ixN20, ixN21, List.map_cons, List.map_nil, List.cons_append, List.nil_append, List.append_nil, List.length_cons, List.length_nil, List.replicate_succ, List.replicate_zero, Nat.add_one_sub_one, Jda, Jbt, Jc0, Jc2, Jby, Jae, Jag, Jah, Jaf, Jb7, Jaw, Jax, Jak, Jav, Jb4, Jau, Jat, Jan, Jam, Jb2, Jai, Jaj, Jb0, Jb1, Jaq, Jb3, Jar, Jas, Jao, Jap, Jb6, Jb5, Ja7, Ja8, Jac, Jab, Ja0, Ja9, Jaa, Jbg, Jbh, Ja6, Jad, Jbd, Jbf, Jbe, Jb9, Ja2, Ja1, Ja4, Ja3, el]
  refine ⟨⟨by split <;> omega, by split <;> omega⟩, by rw [rangeD_len]; split <;> omega, ?_⟩
  refine for_inv (fun i e μ' => ∃ a2 a3 a4 a5 : Option D, e = [some (.script sc), some .state, a2, a3, a4, a5]) ⟨_, _, _, _, rfl⟩ ?_ ?_
  · rintro i x e μ' N hx ⟨a2, a3, a4, a5, rfl⟩ hN
    refine ⟨trivial, ?_⟩
    simp only [Jdd]
    show wb_0 [some (.script sc), some .state, some x, a3, a4, a5] μ' _
    exact turn_ok fun a3 a4 a5 μ2 => hN _ _ ⟨_, _, _, _, rfl⟩
  · rintro e μ' ⟨a2, a3, a4, a5, rfl⟩
    refine ⟨trivial, ?_⟩
    unfold ws_1
    simp only [Jbx, initE, Jcx, Jcj, Jbl, Jbm, Jc3, Jcs, Jct, Jca, Jcp, Jbn, Jcz, Jbo, Jbu, Jdd, Jde, Jdc, Jdf, Jdj, Jdh, Jdi, Jdg, Jc6, Jcc, Jd7, Jd6, Jcb, Jcm, Jd5, Jd4, Jcg, Jbs, Jd3, Jcl, Jbk, Jco, Jc9, Jbj, Jcn, Jck, Jd9, Jd8, Jdb, Jbp, Jci, Jcr, Jc5, Jcy, Jch, Jbq, Jcu, Jd0, Jdk, Jdl, Jcd, Jcv, Jcw, Jc8, Jbr, Jc4, Jbz, Jcf, gt, st, Jbc, Jba, Jbb, Jb8, Jbi, Ja5, atI0, atI1, atI2, atI3, atI4, ixN20, ixN21, List.map_cons, List.map_nil, List.cons_append, List.nil_append, List.append_nil, List.length_cons, List.length_nil, List.replicate_succ, List.replicate_zero, Nat.add_one_sub_one, Jda, Jbt, Jc0, Jc2, Jby, Jae, Jag, Jah, Jaf, Jb7, Jaw, Jax, Jak, Jav, Jb4, Jau, Jat, Jan, Jam, Jb2, Jai, Jaj, Jb0, Jb1, Jaq, Jb3, Jar, Jas, Jao, Jap, Jb6, Jb5, Ja7, Ja8, Jac, Jab, Ja0, Ja9, Jaa, Jbg, Jbh, Ja6, Jad, Jbd, Jbf, Jbe, Jb9, Ja2, Ja1, Ja4, Ja3]
    rfl
end
end DL

set_option Elab.async false
set_option linter.all false
set_option maxRecDepth 100000
set_option maxHeartbeats 0
set_option exponentiation.threshold 100000
namespace KLaw
open PySem PySem.Spec PyProof.Rows L2 DL
theorem n_Bench : ("Bench" : Str) ∈ nsL := by decide
theorem n_Held : ("Held" : Str) ∈ nsL := by decide
theorem n_Program : ("Program" : Str) ∈ nsL := by decide
theorem n_Rule : ("Rule" : Str) ∈ nsL := by decide
theorem e_BadRule : ("BadRule" : Str) ∈ esL := by decide
theorem e_BadProgram : ("BadProgram" : Str) ∈ esL := by decide
theorem e_BadPoint : ("BadPoint" : Str) ∈ esL := by decide
theorem e_BadDeed : ("BadDeed" : Str) ∈ esL := by decide
theorem e_NothingLeft : ("NothingLeft" : Str) ∈ esL := by decide
theorem i_Rule : ("Rule" : Str) ∈ nsL ++ esL := by decide
theorem i_NothingLeft : ("NothingLeft" : Str) ∈ nsL ++ esL := by decide
abbrev N_law_mixed : List Str := ["_law_state", "_law_turn_here", "_law_found", "_law_prime", "_law_blend", "_law_cell"]
theorem sc_law_mixed : FnScope N_law_mixed ["_law_state"] (defScope (topS 36)) := ⟨rfl, rfl, rfl, by decide +kernel, rfl, by decide +kernel, by decide +kernel⟩
abbrev N_law_take : List Str := ["_law_state", "_law_size", "_law_found"]
theorem sc_law_take : FnScope N_law_take ["_law_state", "_law_size"] (defScope (topS 37)) := ⟨rfl, rfl, rfl, by decide +kernel, rfl, by decide +kernel, by decide +kernel⟩
abbrev N_law_pick : List Str := ["_law_state", "_law_some"]
theorem sc_law_pick : FnScope N_law_pick ["_law_state", "_law_some"] (defScope (topS 38)) := ⟨rfl, rfl, rfl, by decide +kernel, rfl, by decide +kernel, by decide +kernel⟩
abbrev N_law_number : List Str := ["_law_state", "_law_great", "_law_size"]
theorem sc_law_number : FnScope N_law_number ["_law_state", "_law_great"] (defScope (topS 39)) := ⟨rfl, rfl, rfl, by decide +kernel, rfl, by decide +kernel, by decide +kernel⟩
abbrev N_is_number : List Str := ["thing"]
theorem sc_is_number : FnScope N_is_number ["thing"] (defScope (topS 10)) := ⟨rfl, rfl, rfl, by decide +kernel, rfl, by decide +kernel, by decide +kernel⟩
abbrev N_need_point : List Str := ["x", "y"]
theorem sc_need_point : FnScope N_need_point ["x", "y"] (defScope (topS 19)) := ⟨rfl, rfl, rfl, by decide +kernel, rfl, by decide +kernel, by decide +kernel⟩
abbrev N_Bench___init__ : List Str := ["self", "x", "y"]
theorem sc_Bench___init__ : FnScope N_Bench___init__ ["self", "x", "y"] (defScope (inClass (topS 27) 0)) := ⟨rfl, rfl, rfl, by decide +kernel, rfl, by decide +kernel, by decide +kernel⟩
abbrev N_law_bench_drawn : List Str := ["_law_state", "_law_great", "_law_begun_here"]
theorem sc_law_bench_drawn : FnScope N_law_bench_drawn ["_law_state"] (defScope (topS 29)) := ⟨rfl, rfl, rfl, by decide +kernel, rfl, by decide +kernel, by decide +kernel⟩
abbrev N_Rule___eq__ : List Str := ["self", "other"]
theorem sc_Rule___eq__ : FnScope N_Rule___eq__ ["self", "other"] (defScope (inClass (topS 14) 12)) := ⟨rfl, rfl, rfl, by decide +kernel, rfl, by decide +kernel, by decide +kernel⟩
abbrev N_Bench_point : List Str := ["self"]
theorem sc_Bench_point : FnScope N_Bench_point ["self"] (defScope (inClass (topS 27) 2)) := ⟨rfl, rfl, rfl, by decide +kernel, rfl, by decide +kernel, by decide +kernel⟩
abbrev N_Bench_undo : List Str := ["self"]
theorem sc_Bench_undo : FnScope N_Bench_undo ["self"] (defScope (inClass (topS 27) 6)) := ⟨rfl, rfl, rfl, by decide +kernel, rfl, by decide +kernel, by decide +kernel⟩
abbrev N_Bench_begun : List Str := ["self"]
theorem sc_Bench_begun : FnScope N_Bench_begun ["self"] (defScope (inClass (topS 27) 1)) := ⟨rfl, rfl, rfl, by decide +kernel, rfl, by decide +kernel, by decide +kernel⟩
abbrev N_law_now : List Str := ["_law_model"]
theorem sc_law_now : FnScope N_law_now ["_law_model"] (defScope (topS 30)) := ⟨rfl, rfl, rfl, by decide +kernel, rfl, by decide +kernel, by decide +kernel⟩
abbrev N_Bench_log : List Str := ["self", "step", "point"]
theorem sc_Bench_log : FnScope N_Bench_log ["self"] (defScope (inClass (topS 27) 3)) := ⟨rfl, rfl, rfl, by decide +kernel, rfl, by decide +kernel, by decide +kernel⟩
abbrev N_law_is_low : List Str := ["_law_step_here"]
theorem sc_law_is_low : FnScope N_law_is_low ["_law_step_here"] (defScope (topS 43)) := ⟨rfl, rfl, rfl, by decide +kernel, rfl, by decide +kernel, by decide +kernel⟩
abbrev N_is_list : List Str := ["thing"]
theorem sc_is_list : FnScope N_is_list ["thing"] (defScope (topS 12)) := ⟨rfl, rfl, rfl, by decide +kernel, rfl, by decide +kernel, by decide +kernel⟩
abbrev N_without_end : List Str := ["numbers", "many"]
theorem sc_without_end : FnScope N_without_end ["numbers"] (defScope (topS 13)) := ⟨rfl, rfl, rfl, by decide +kernel, rfl, by decide +kernel, by decide +kernel⟩
abbrev N_Rule___init__ : List Str := ["self", "coefficients", "at", "number"]
theorem sc_Rule___init__ : FnScope N_Rule___init__ ["self", "coefficients"] (defScope (inClass (topS 14) 0)) := ⟨rfl, rfl, rfl, by decide +kernel, rfl, by decide +kernel, by decide +kernel⟩
abbrev N_law_step_of : List Str := ["_law_step_here"]
theorem sc_law_step_of : FnScope N_law_step_of ["_law_step_here"] (defScope (topS 47)) := ⟨rfl, rfl, rfl, by decide +kernel, rfl, by decide +kernel, by decide +kernel⟩
abbrev N_law_bench_shows : List Str := ["_law_built", "_law_model", "_law_step_here", "_law_point_here"]
theorem sc_law_bench_shows : FnScope N_law_bench_shows ["_law_built", "_law_model"] (defScope (topS 31)) := ⟨rfl, rfl, rfl, by decide +kernel, rfl, by decide +kernel, by decide +kernel⟩
abbrev N_law_undone : List Str := ["_law_built", "_law_model", "_law_told"]
theorem sc_law_undone : FnScope N_law_undone ["_law_built", "_law_model"] (defScope (topS 34)) := ⟨rfl, rfl, rfl, by decide +kernel, rfl, by decide +kernel, by decide +kernel⟩
abbrev N_law_turn : List Str := ["_law_state", "_law_great", "_law_rows", "_law_lap", "_law_many", "_law_side", "_law_mate"]
theorem sc_law_turn : FnScope N_law_turn ["_law_state", "_law_great"] (defScope (topS 45)) := ⟨rfl, rfl, rfl, by decide +kernel, rfl, by decide +kernel, by decide +kernel⟩
abbrev N_law_trimmed : List Str := ["_law_row", "_law_left"]
theorem sc_law_trimmed : FnScope N_law_trimmed ["_law_row"] (defScope (topS 40)) := ⟨rfl, rfl, rfl, by decide +kernel, rfl, by decide +kernel, by decide +kernel⟩
abbrev N_law_rule : List Str := ["_law_state", "_law_most", "_law_great", "_law_place"]
theorem sc_law_rule : FnScope N_law_rule ["_law_state", "_law_most", "_law_great"] (defScope (topS 41)) := ⟨rfl, rfl, rfl, by decide +kernel, rfl, by decide +kernel, by decide +kernel⟩
abbrev N_law_step : List Str := ["_law_state", "_law_room", "_law_great", "_law_word"]
theorem sc_law_step : FnScope N_law_step ["_law_state", "_law_room", "_law_great"] (defScope (topS 46)) := ⟨rfl, rfl, rfl, by decide +kernel, rfl, by decide +kernel, by decide +kernel⟩
abbrev N_law_bench_step : List Str := ["_law_state", "_law_model", "_law_step_here"]
theorem sc_law_bench_step : FnScope N_law_bench_step ["_law_state", "_law_model"] (defScope (topS 32)) := ⟨rfl, rfl, rfl, by decide +kernel, rfl, by decide +kernel, by decide +kernel⟩
abbrev N_law_rule_at : List Str := ["_law_row", "_law_t", "_law_found", "_law_worth"]
theorem sc_law_rule_at : FnScope N_law_rule_at ["_law_row", "_law_t"] (defScope (topS 42)) := ⟨rfl, rfl, rfl, by decide +kernel, rfl, by decide +kernel, by decide +kernel⟩
abbrev N_law_step_done : List Str := ["_law_step_here", "_law_x", "_law_y"]
theorem sc_law_step_done : FnScope N_law_step_done ["_law_step_here", "_law_x", "_law_y"] (defScope (topS 44)) := ⟨rfl, rfl, rfl, by decide +kernel, rfl, by decide +kernel, by decide +kernel⟩
abbrev N_is_step : List Str := ["thing", "number"]
theorem sc_is_step : FnScope N_is_step ["thing"] (defScope (topS 21)) := ⟨rfl, rfl, rfl, by decide +kernel, rfl, by decide +kernel, by decide +kernel⟩
abbrev N_Program___init__ : List Str := ["self", "steps", "at", "step"]
theorem sc_Program___init__ : FnScope N_Program___init__ ["self", "steps"] (defScope (inClass (topS 24) 0)) := ⟨rfl, rfl, rfl, by decide +kernel, rfl, by decide +kernel, by decide +kernel⟩
abbrev N_row_value : List Str := ["numbers", "t", "found", "number"]
theorem sc_row_value : FnScope N_row_value ["numbers", "t"] (defScope (topS 15)) := ⟨rfl, rfl, rfl, by decide +kernel, rfl, by decide +kernel, by decide +kernel⟩
abbrev N_done : List Str := ["step", "x", "y"]
theorem sc_done : FnScope N_done ["step", "x", "y"] (defScope (topS 22)) := ⟨rfl, rfl, rfl, by decide +kernel, rfl, by decide +kernel, by decide +kernel⟩
abbrev N_Program___call__ : List Str := ["self", "x", "y", "step"]
theorem sc_Program___call__ : FnScope N_Program___call__ ["self", "x", "y"] (defScope (inClass (topS 24) 3)) := ⟨rfl, rfl, rfl, by decide +kernel, rfl, by decide +kernel, by decide +kernel⟩
abbrev N_Bench_do : List Str := ["self", "step", "x", "y", "later"]
theorem sc_Bench_do : FnScope N_Bench_do ["self", "step"] (defScope (inClass (topS 27) 4)) := ⟨rfl, rfl, rfl, by decide +kernel, rfl, by decide +kernel, by decide +kernel⟩
abbrev N_law_done : List Str := ["_law_built", "_law_model", "_law_step_here", "_law_here", "_law_there", "_law_due", "_law_told"]
theorem sc_law_done : FnScope N_law_done ["_law_built", "_law_model", "_law_step_here"] (defScope (topS 33)) := ⟨rfl, rfl, rfl, by decide +kernel, rfl, by decide +kernel, by decide +kernel⟩
abbrev N_law_some_done : List Str := ["_law_state", "_law_built", "_law_model", "_law_many", "_law_lap"]
theorem sc_law_some_done : FnScope N_law_some_done ["_law_state", "_law_built", "_law_model", "_law_many"] (defScope (topS 49)) := ⟨rfl, rfl, rfl, by decide +kernel, rfl, by decide +kernel, by decide +kernel⟩
abbrev N_law_end : List Str := ["_law_built", "_law_way"]
theorem sc_law_end : FnScope N_law_end ["_law_built", "_law_way"] (defScope (topS 50)) := ⟨rfl, rfl, rfl, by decide +kernel, rfl, by decide +kernel, by decide +kernel⟩
abbrev N_law_job__r0 : List Str := ["_law_state", "_law_built", "_law_model", "_law_guide", "_law_lap"]
theorem sc_law_job__r0 : FnScope N_law_job__r0 ["_law_state", "_law_built", "_law_model", "_law_guide"] (defScope (topS 51)) := ⟨rfl, rfl, rfl, by decide +kernel, rfl, by decide +kernel, by decide +kernel⟩
abbrev N_Held___init__ : List Str := ["self", "had", "around"]
theorem sc_Held___init__ : FnScope N_Held___init__ ["self", "had", "around"] (defScope (inClass (topS 26) 0)) := ⟨rfl, rfl, rfl, by decide +kernel, rfl, by decide +kernel, by decide +kernel⟩
abbrev N_Bench___enter__ : List Str := ["self"]
theorem sc_Bench___enter__ : FnScope N_Bench___enter__ ["self"] (defScope (inClass (topS 27) 7)) := ⟨rfl, rfl, rfl, by decide +kernel, rfl, by decide +kernel, by decide +kernel⟩
abbrev N_Bench___exit__ : List Str := ["self", "kind", "value", "trace"]
theorem sc_Bench___exit__ : FnScope N_Bench___exit__ ["self", "kind", "value", "trace"] (defScope (inClass (topS 27) 8)) := ⟨rfl, rfl, rfl, by decide +kernel, rfl, by decide +kernel, by decide +kernel⟩
abbrev N_law_block__r0 : List Str := ["_law_state", "_law_built", "_law_model", "_law_deep", "_law_guide", "_law_past", "_law_found", "_law_caught_here"]
theorem sc_law_block__r0 : FnScope N_law_block__r0 ["_law_state", "_law_built", "_law_model", "_law_deep"] (defScope (topS 52)) := ⟨rfl, rfl, rfl, by decide +kernel, rfl, by decide +kernel, by decide +kernel⟩
abbrev N_law_job__r1 : List Str := ["_law_state", "_law_built", "_law_model", "_law_guide", "_law_lap"]
theorem sc_law_job__r1 : FnScope N_law_job__r1 ["_law_state", "_law_built", "_law_model", "_law_guide"] (defScope (topS 51)) := ⟨rfl, rfl, rfl, by decide +kernel, rfl, by decide +kernel, by decide +kernel⟩
abbrev N_law_block__r1 : List Str := ["_law_state", "_law_built", "_law_model", "_law_deep", "_law_guide", "_law_past", "_law_found", "_law_caught_here"]
theorem sc_law_block__r1 : FnScope N_law_block__r1 ["_law_state", "_law_built", "_law_model", "_law_deep"] (defScope (topS 52)) := ⟨rfl, rfl, rfl, by decide +kernel, rfl, by decide +kernel, by decide +kernel⟩
abbrev N_law_job__r2 : List Str := ["_law_state", "_law_built", "_law_model", "_law_guide", "_law_lap"]
theorem sc_law_job__r2 : FnScope N_law_job__r2 ["_law_state", "_law_built", "_law_model", "_law_guide"] (defScope (topS 51)) := ⟨rfl, rfl, rfl, by decide +kernel, rfl, by decide +kernel, by decide +kernel⟩
abbrev N_law_block__r2 : List Str := ["_law_state", "_law_built", "_law_model", "_law_deep", "_law_guide", "_law_past", "_law_found", "_law_caught_here"]
theorem sc_law_block__r2 : FnScope N_law_block__r2 ["_law_state", "_law_built", "_law_model", "_law_deep"] (defScope (topS 52)) := ⟨rfl, rfl, rfl, by decide +kernel, rfl, by decide +kernel, by decide +kernel⟩
abbrev N_law_begun : List Str := ["_law_script", "_law_wide", "_law_cell"]
theorem sc_law_begun : FnScope N_law_begun ["_law_script"] (defScope (topS 35)) := ⟨rfl, rfl, rfl, by decide +kernel, rfl, by decide +kernel, by decide +kernel⟩
abbrev N_law : List Str := ["_law_script", "_law_state", "_law_turn_here", "_law_built", "_law_model", "_law_lap"]
theorem sc_law : FnScope N_law ["_law_script"] (defScope (topS 53)) := ⟨rfl, rfl, rfl, by decide +kernel, rfl, by decide +kernel, by decide +kernel⟩
abbrev N_BadDeed___init__ : List Str := ["self", "deed"]
theorem sc_BadDeed___init__ : FnScope N_BadDeed___init__ ["self", "deed"] (defScope (inClass (topS 7) 0)) := ⟨rfl, rfl, rfl, by decide +kernel, rfl, by decide +kernel, by decide +kernel⟩
abbrev N_BadProgram___init__ : List Str := ["self", "at"]
theorem sc_BadProgram___init__ : FnScope N_BadProgram___init__ ["self", "at"] (defScope (inClass (topS 5) 0)) := ⟨rfl, rfl, rfl, by decide +kernel, rfl, by decide +kernel, by decide +kernel⟩
abbrev N_BadRule___init__ : List Str := ["self", "at"]
theorem sc_BadRule___init__ : FnScope N_BadRule___init__ ["self", "at"] (defScope (inClass (topS 3) 0)) := ⟨rfl, rfl, rfl, by decide +kernel, rfl, by decide +kernel, by decide +kernel⟩
abbrev N_law_caught : List Str := ["_law_work_here", "_law_caught_here", "error"]
theorem sc_law_caught : FnScope N_law_caught ["_law_work_here"] (defScope (topS 48)) := ⟨rfl, rfl, rfl, by decide +kernel, rfl, by decide +kernel, by decide +kernel⟩
abbrev N_Bench_tried : List Str := ["self", "work"]
theorem sc_Bench_tried : FnScope N_Bench_tried ["self", "work"] (defScope (inClass (topS 27) 9)) := ⟨rfl, rfl, rfl, by decide +kernel, rfl, by decide +kernel, by decide +kernel⟩
structure Tx (K : PySem.W.Frag) (mg : Str → Option Value) : Prop where
  g_BadDeed : mg "BadDeed" = some (.ref (He.ga K "BadDeed"))
  g_BadPoint : mg "BadPoint" = some (.ref (He.ga K "BadPoint"))
  g_BadProgram : mg "BadProgram" = some (.ref (He.ga K "BadProgram"))
  g_BadRule : mg "BadRule" = some (.ref (He.ga K "BadRule"))
  g_Bench : mg "Bench" = some (.ref (He.ga K "Bench"))
  g_CrossError : mg "CrossError" = some (.ref (He.ga K "CrossError"))
  g_Held : mg "Held" = some (.ref (He.ga K "Held"))
  g_NothingLeft : mg "NothingLeft" = some (.ref (He.ga K "NothingLeft"))
  g_Program : mg "Program" = some (.ref (He.ga K "Program"))
  g_Rule : mg "Rule" = some (.ref (He.ga K "Rule"))
  g__law_begun : mg "_law_begun" = some (.ref (He.ga K "_law_begun"))
  g__law_bench_drawn : mg "_law_bench_drawn" = some (.ref (He.ga K "_law_bench_drawn"))
  g__law_bench_shows : mg "_law_bench_shows" = some (.ref (He.ga K "_law_bench_shows"))
  g__law_bench_step : mg "_law_bench_step" = some (.ref (He.ga K "_law_bench_step"))
  g__law_block : mg "_law_block" = some (.ref (He.ga K "_law_block"))
  g__law_caught : mg "_law_caught" = some (.ref (He.ga K "_law_caught"))
  g__law_done : mg "_law_done" = some (.ref (He.ga K "_law_done"))
  g__law_end : mg "_law_end" = some (.ref (He.ga K "_law_end"))
  g__law_is_low : mg "_law_is_low" = some (.ref (He.ga K "_law_is_low"))
  g__law_job : mg "_law_job" = some (.ref (He.ga K "_law_job"))
  g__law_mixed : mg "_law_mixed" = some (.ref (He.ga K "_law_mixed"))
  g__law_now : mg "_law_now" = some (.ref (He.ga K "_law_now"))
  g__law_number : mg "_law_number" = some (.ref (He.ga K "_law_number"))
  g__law_pick : mg "_law_pick" = some (.ref (He.ga K "_law_pick"))
  g__law_rule : mg "_law_rule" = some (.ref (He.ga K "_law_rule"))
  g__law_rule_at : mg "_law_rule_at" = some (.ref (He.ga K "_law_rule_at"))
  g__law_some_done : mg "_law_some_done" = some (.ref (He.ga K "_law_some_done"))
  g__law_step : mg "_law_step" = some (.ref (He.ga K "_law_step"))
  g__law_step_done : mg "_law_step_done" = some (.ref (He.ga K "_law_step_done"))
  g__law_step_of : mg "_law_step_of" = some (.ref (He.ga K "_law_step_of"))
  g__law_take : mg "_law_take" = some (.ref (He.ga K "_law_take"))
  g__law_trimmed : mg "_law_trimmed" = some (.ref (He.ga K "_law_trimmed"))
  g__law_turn : mg "_law_turn" = some (.ref (He.ga K "_law_turn"))
  g__law_undone : mg "_law_undone" = some (.ref (He.ga K "_law_undone"))
  g_done : mg "done" = some (.ref (He.ga K "done"))
  g_is_list : mg "is_list" = some (.ref (He.ga K "is_list"))
  g_is_number : mg "is_number" = some (.ref (He.ga K "is_number"))
  g_is_step : mg "is_step" = some (.ref (He.ga K "is_step"))
  g_need_point : mg "need_point" = some (.ref (He.ga K "need_point"))
  g_row_value : mg "row_value" = some (.ref (He.ga K "row_value"))
  g_without_end : mg "without_end" = some (.ref (He.ga K "without_end"))
  g_law : mg "law" = some (.ref (He.ga K "law"))
  n_KeyError : mg "KeyError" = none
  n_ZeroDivisionError : mg "ZeroDivisionError" = none
  n_abs : mg "abs" = none
  n_all : mg "all" = none
  n_bool : mg "bool" = none
  n_enumerate : mg "enumerate" = none
  n_int : mg "int" = none
  n_isinstance : mg "isinstance" = none
  n_len : mg "len" = none
  n_list : mg "list" = none
  n_max : mg "max" = none
  n_min : mg "min" = none
  n_range : mg "range" = none
  n_repr : mg "repr" = none
  n_str : mg "str" = none
  n_tuple : mg "tuple" = none
  ctx : CtxOk (cx K)
  hes : ∀ n ∈ esL, PySem.W.exmOne K (.ref (He.ga K n)) (.ref (He.ga K "CrossError")) = some true
  kp_caught : PySem.W.keepIn K (.ref (He.ga K "_law_caught")) = true
  co_Program : StX.CallO K (He.ga K "Program") (He.ma K (He.ga K "Program") "__call__")
  cl_Bench : Cls K (He.ga K "Bench")
  cl_Held : Cls K (He.ga K "Held")
  cl_Program : Cls K (He.ga K "Program")
  cl_Rule : Cls K (He.ga K "Rule")
  dg : PySem.W.nsIn K cStatics "sys.int_max_str_digits" = some none
  er_BadDeed : ErI K (He.ga K "BadDeed") (He.ma K (He.ga K "BadDeed") "__init__") "deed"
  er_BadProgram : ErI K (He.ga K "BadProgram") (He.ma K (He.ga K "BadProgram") "__init__") "at"
  er_BadRule : ErI K (He.ga K "BadRule") (He.ma K (He.ga K "BadRule") "__init__") "at"
  er_BadPoint : ErN K (He.ga K "BadPoint")
  er_NothingLeft : ErN K (He.ga K "NothingLeft")
  xk_KeyError : ∀ n ∈ esL, PySem.W.exmOne K (.ref (He.ga K n)) (.type "KeyError") = some false
  xk_ZeroDivisionError : ∀ n ∈ esL, PySem.W.exmOne K (.ref (He.ga K n)) (.type "ZeroDivisionError") = some false
  xo_BadDeed : ∀ n ∈ esL, PySem.W.exmOne K (.ref (He.ga K n)) (.ref (He.ga K "BadDeed")) = some (subCC n "BadDeed")
  xb_BadDeed : ∀ n ∈ exNames, PySem.W.exmOne K (.type n) (.ref (He.ga K "BadDeed")) = some false
  me_Bench___enter__ : Meth K (He.ga K "Bench") "__enter__" (He.ma K (He.ga K "Bench") "__enter__")
  me_Bench___exit__ : Meth K (He.ga K "Bench") "__exit__" (He.ma K (He.ga K "Bench") "__exit__")
  me_Bench_do : Meth K (He.ga K "Bench") "do" (He.ma K (He.ga K "Bench") "do")
  me_Bench_tried : Meth K (He.ga K "Bench") "tried" (He.ma K (He.ga K "Bench") "tried")
  me_Bench_undo : Meth K (He.ga K "Bench") "undo" (He.ma K (He.ga K "Bench") "undo")
  mk_Bench : Mk K (He.ga K "Bench") (He.ma K (He.ga K "Bench") "__init__")
  mk_Held : Mk K (He.ga K "Held") (He.ma K (He.ga K "Held") "__init__")
  mk_Program : Mk K (He.ga K "Program") (He.ma K (He.ga K "Program") "__init__")
  mk_Rule : Mk K (He.ga K "Rule") (He.ma K (He.ga K "Rule") "__init__")
  na_Bench_done : NoAttr K (He.ga K "Bench") "done"
  na_Bench_held : NoAttr K (He.ga K "Bench") "held"
  na_Bench_own_begun : NoAttr K (He.ga K "Bench") "own_begun"
  na_Held_around : NoAttr K (He.ga K "Held") "around"
  na_Held_had : NoAttr K (He.ga K "Held") "had"
  na_Program_own_steps : NoAttr K (He.ga K "Program") "own_steps"
  na_Rule_own_numbers : NoAttr K (He.ga K "Rule") "own_numbers"
  nf_Rule : PySem.W.notFirst K (He.ga K "Rule") (.ref (He.ga K "Rule")) = true
  prop_Bench_begun : PropOf K (He.ga K "Bench") "begun" (He.ma K (He.ga K "Bench") "begun") (recAt K "property" (He.ma K (He.ga K "Bench") "begun"))
  prop_Bench_log : PropOf K (He.ga K "Bench") "log" (He.ma K (He.ga K "Bench") "log") (recAt K "property" (He.ma K (He.ga K "Bench") "log"))
  prop_Bench_point : PropOf K (He.ga K "Bench") "point" (He.ma K (He.ga K "Bench") "point") (recAt K "property" (He.ma K (He.ga K "Bench") "point"))
  spl_Rule_eq : Spl K (He.ga K "Rule") "__eq__" (He.ma K (He.ga K "Rule") "__eq__")
  cr_CE : ClX.CRead K (He.ga K "CrossError") (.type "type")
  vi_CE : PySem.W.findCls K (.ref (He.ga K "CrossError")) (.type "type") "__init__" = some (.val (.builtin "ValueError.__init__"))
  tbn : ((cx K).tb.map (·.1)).Nodup
  f_law_mixed : ∃ fd, FunD K "_law_mixed" "_law_mixed" (defArgs (topS 36)) (defBody (topS 36)) (defScope (topS 36)) (d_law_mixed.dvs K) [] (He.ga K "_law_mixed") fd
  f_law_take : ∃ fd, FunD K "_law_take" "_law_take" (defArgs (topS 37)) (defBody (topS 37)) (defScope (topS 37)) (d_law_take.dvs K) [] (He.ga K "_law_take") fd
  f_law_pick : ∃ fd, FunD K "_law_pick" "_law_pick" (defArgs (topS 38)) (defBody (topS 38)) (defScope (topS 38)) (d_law_pick.dvs K) [] (He.ga K "_law_pick") fd
  f_law_number : ∃ fd, FunD K "_law_number" "_law_number" (defArgs (topS 39)) (defBody (topS 39)) (defScope (topS 39)) (d_law_number.dvs K) [] (He.ga K "_law_number") fd
  f_is_number : ∃ fd, FunD K "is_number" "is_number" (defArgs (topS 10)) (defBody (topS 10)) (defScope (topS 10)) (d_is_number.dvs K) [] (He.ga K "is_number") fd
  f_need_point : ∃ fd, FunD K "need_point" "need_point" (defArgs (topS 19)) (defBody (topS 19)) (defScope (topS 19)) (d_need_point.dvs K) [] (He.ga K "need_point") fd
  f_Bench___init__ : ∃ fd, FunD K "__init__" "Bench.__init__" (defArgs (inClass (topS 27) 0)) (defBody (inClass (topS 27) 0)) (defScope (inClass (topS 27) 0)) (d_Bench___init__.dvs K) [] (He.ma K (He.ga K "Bench") "__init__") fd
  f_law_bench_drawn : ∃ fd, FunD K "_law_bench_drawn" "_law_bench_drawn" (defArgs (topS 29)) (defBody (topS 29)) (defScope (topS 29)) (d_law_bench_drawn.dvs K) [] (He.ga K "_law_bench_drawn") fd
  f_Rule___eq__ : ∃ fd, FunD K "__eq__" "Rule.__eq__" (defArgs (inClass (topS 14) 12)) (defBody (inClass (topS 14) 12)) (defScope (inClass (topS 14) 12)) (d_Rule___eq__.dvs K) [] (He.ma K (He.ga K "Rule") "__eq__") fd
  f_Bench_point : ∃ fd, FunD K "point" "Bench.point" (defArgs (inClass (topS 27) 2)) (defBody (inClass (topS 27) 2)) (defScope (inClass (topS 27) 2)) (d_Bench_point.dvs K) [] (recAt K "property" (He.ma K (He.ga K "Bench") "point")) fd
  f_Bench_undo : ∃ fd, FunD K "undo" "Bench.undo" (defArgs (inClass (topS 27) 6)) (defBody (inClass (topS 27) 6)) (defScope (inClass (topS 27) 6)) (d_Bench_undo.dvs K) [] (He.ma K (He.ga K "Bench") "undo") fd
  f_Bench_begun : ∃ fd, FunD K "begun" "Bench.begun" (defArgs (inClass (topS 27) 1)) (defBody (inClass (topS 27) 1)) (defScope (inClass (topS 27) 1)) (d_Bench_begun.dvs K) [] (recAt K "property" (He.ma K (He.ga K "Bench") "begun")) fd
  f_law_now : ∃ fd, FunD K "_law_now" "_law_now" (defArgs (topS 30)) (defBody (topS 30)) (defScope (topS 30)) (d_law_now.dvs K) [] (He.ga K "_law_now") fd
  f_Bench_log : ∃ fd, FunD K "log" "Bench.log" (defArgs (inClass (topS 27) 3)) (defBody (inClass (topS 27) 3)) (defScope (inClass (topS 27) 3)) (d_Bench_log.dvs K) [] (recAt K "property" (He.ma K (He.ga K "Bench") "log")) fd
  f_law_is_low : ∃ fd, FunD K "_law_is_low" "_law_is_low" (defArgs (topS 43)) (defBody (topS 43)) (defScope (topS 43)) (d_law_is_low.dvs K) [] (He.ga K "_law_is_low") fd
  f_is_list : ∃ fd, FunD K "is_list" "is_list" (defArgs (topS 12)) (defBody (topS 12)) (defScope (topS 12)) (d_is_list.dvs K) [] (He.ga K "is_list") fd
  f_without_end : ∃ fd, FunD K "without_end" "without_end" (defArgs (topS 13)) (defBody (topS 13)) (defScope (topS 13)) (d_without_end.dvs K) [] (He.ga K "without_end") fd
  f_Rule___init__ : ∃ fd, FunD K "__init__" "Rule.__init__" (defArgs (inClass (topS 14) 0)) (defBody (inClass (topS 14) 0)) (defScope (inClass (topS 14) 0)) (d_Rule___init__.dvs K) [] (He.ma K (He.ga K "Rule") "__init__") fd
  f_law_step_of : ∃ fd, FunD K "_law_step_of" "_law_step_of" (defArgs (topS 47)) (defBody (topS 47)) (defScope (topS 47)) (d_law_step_of.dvs K) [] (He.ga K "_law_step_of") fd
  f_law_bench_shows : ∃ fd, FunD K "_law_bench_shows" "_law_bench_shows" (defArgs (topS 31)) (defBody (topS 31)) (defScope (topS 31)) (d_law_bench_shows.dvs K) [] (He.ga K "_law_bench_shows") fd
  f_law_undone : ∃ fd, FunD K "_law_undone" "_law_undone" (defArgs (topS 34)) (defBody (topS 34)) (defScope (topS 34)) (d_law_undone.dvs K) [] (He.ga K "_law_undone") fd
  f_law_turn : ∃ fd, FunD K "_law_turn" "_law_turn" (defArgs (topS 45)) (defBody (topS 45)) (defScope (topS 45)) (d_law_turn.dvs K) [] (He.ga K "_law_turn") fd
  f_law_trimmed : ∃ fd, FunD K "_law_trimmed" "_law_trimmed" (defArgs (topS 40)) (defBody (topS 40)) (defScope (topS 40)) (d_law_trimmed.dvs K) [] (He.ga K "_law_trimmed") fd
  f_law_rule : ∃ fd, FunD K "_law_rule" "_law_rule" (defArgs (topS 41)) (defBody (topS 41)) (defScope (topS 41)) (d_law_rule.dvs K) [] (He.ga K "_law_rule") fd
  f_law_step : ∃ fd, FunD K "_law_step" "_law_step" (defArgs (topS 46)) (defBody (topS 46)) (defScope (topS 46)) (d_law_step.dvs K) [] (He.ga K "_law_step") fd
  f_law_bench_step : ∃ fd, FunD K "_law_bench_step" "_law_bench_step" (defArgs (topS 32)) (defBody (topS 32)) (defScope (topS 32)) (d_law_bench_step.dvs K) [] (He.ga K "_law_bench_step") fd
  f_law_rule_at : ∃ fd, FunD K "_law_rule_at" "_law_rule_at" (defArgs (topS 42)) (defBody (topS 42)) (defScope (topS 42)) (d_law_rule_at.dvs K) [] (He.ga K "_law_rule_at") fd
  f_law_step_done : ∃ fd, FunD K "_law_step_done" "_law_step_done" (defArgs (topS 44)) (defBody (topS 44)) (defScope (topS 44)) (d_law_step_done.dvs K) [] (He.ga K "_law_step_done") fd
  f_is_step : ∃ fd, FunD K "is_step" "is_step" (defArgs (topS 21)) (defBody (topS 21)) (defScope (topS 21)) (d_is_step.dvs K) [] (He.ga K "is_step") fd
  f_Program___init__ : ∃ fd, FunD K "__init__" "Program.__init__" (defArgs (inClass (topS 24) 0)) (defBody (inClass (topS 24) 0)) (defScope (inClass (topS 24) 0)) (d_Program___init__.dvs K) [] (He.ma K (He.ga K "Program") "__init__") fd
  f_row_value : ∃ fd, FunD K "row_value" "row_value" (defArgs (topS 15)) (defBody (topS 15)) (defScope (topS 15)) (d_row_value.dvs K) [] (He.ga K "row_value") fd
  f_done : ∃ fd, FunD K "done" "done" (defArgs (topS 22)) (defBody (topS 22)) (defScope (topS 22)) (d_done.dvs K) [] (He.ga K "done") fd
  f_Program___call__ : ∃ fd, FunD K "__call__" "Program.__call__" (defArgs (inClass (topS 24) 3)) (defBody (inClass (topS 24) 3)) (defScope (inClass (topS 24) 3)) (d_Program___call__.dvs K) [] (He.ma K (He.ga K "Program") "__call__") fd
  f_Bench_do : ∃ fd, FunD K "do" "Bench.do" (defArgs (inClass (topS 27) 4)) (defBody (inClass (topS 27) 4)) (defScope (inClass (topS 27) 4)) (d_Bench_do.dvs K) [] (He.ma K (He.ga K "Bench") "do") fd
  f_law_done : ∃ fd, FunD K "_law_done" "_law_done" (defArgs (topS 33)) (defBody (topS 33)) (defScope (topS 33)) (d_law_done.dvs K) [] (He.ga K "_law_done") fd
  f_law_some_done : ∃ fd, FunD K "_law_some_done" "_law_some_done" (defArgs (topS 49)) (defBody (topS 49)) (defScope (topS 49)) (d_law_some_done.dvs K) [] (He.ga K "_law_some_done") fd
  f_law_end : ∃ fd, FunD K "_law_end" "_law_end" (defArgs (topS 50)) (defBody (topS 50)) (defScope (topS 50)) (d_law_end.dvs K) [] (He.ga K "_law_end") fd
  f_law_job__r0 : ∃ fd, FunD K "_law_job" "_law_job" (defArgs (topS 51)) (defBody (topS 51)) (defScope (topS 51)) (d_law_job__r0.dvs K) [] (He.ga K "_law_job") fd
  f_Held___init__ : ∃ fd, FunD K "__init__" "Held.__init__" (defArgs (inClass (topS 26) 0)) (defBody (inClass (topS 26) 0)) (defScope (inClass (topS 26) 0)) (d_Held___init__.dvs K) [] (He.ma K (He.ga K "Held") "__init__") fd
  f_Bench___enter__ : ∃ fd, FunD K "__enter__" "Bench.__enter__" (defArgs (inClass (topS 27) 7)) (defBody (inClass (topS 27) 7)) (defScope (inClass (topS 27) 7)) (d_Bench___enter__.dvs K) [] (He.ma K (He.ga K "Bench") "__enter__") fd
  f_Bench___exit__ : ∃ fd, FunD K "__exit__" "Bench.__exit__" (defArgs (inClass (topS 27) 8)) (defBody (inClass (topS 27) 8)) (defScope (inClass (topS 27) 8)) (d_Bench___exit__.dvs K) [] (He.ma K (He.ga K "Bench") "__exit__") fd
  f_law_block__r0 : ∃ fd, FunD K "_law_block" "_law_block" (defArgs (topS 52)) (defBody (topS 52)) (defScope (topS 52)) (d_law_block__r0.dvs K) [] (He.ga K "_law_block") fd
  f_law_job__r1 : ∃ fd, FunD K "_law_job" "_law_job" (defArgs (topS 51)) (defBody (topS 51)) (defScope (topS 51)) (d_law_job__r1.dvs K) [] (He.ga K "_law_job") fd
  f_law_block__r1 : ∃ fd, FunD K "_law_block" "_law_block" (defArgs (topS 52)) (defBody (topS 52)) (defScope (topS 52)) (d_law_block__r1.dvs K) [] (He.ga K "_law_block") fd
  f_law_job__r2 : ∃ fd, FunD K "_law_job" "_law_job" (defArgs (topS 51)) (defBody (topS 51)) (defScope (topS 51)) (d_law_job__r2.dvs K) [] (He.ga K "_law_job") fd
  f_law_block__r2 : ∃ fd, FunD K "_law_block" "_law_block" (defArgs (topS 52)) (defBody (topS 52)) (defScope (topS 52)) (d_law_block__r2.dvs K) [] (He.ga K "_law_block") fd
  f_law_begun : ∃ fd, FunD K "_law_begun" "_law_begun" (defArgs (topS 35)) (defBody (topS 35)) (defScope (topS 35)) (d_law_begun.dvs K) [] (He.ga K "_law_begun") fd
  f_law : ∃ fd, FunD K "law" "law" (defArgs (topS 53)) (defBody (topS 53)) (defScope (topS 53)) (d_law.dvs K) [] (He.ga K "law") fd
  f_BadDeed___init__ : ∃ fd, FunD K "__init__" "BadDeed.__init__" (defArgs (inClass (topS 7) 0)) (defBody (inClass (topS 7) 0)) (defScope (inClass (topS 7) 0)) (d_BadDeed___init__.dvs K) [] (He.ma K (He.ga K "BadDeed") "__init__") fd
  f_BadProgram___init__ : ∃ fd, FunD K "__init__" "BadProgram.__init__" (defArgs (inClass (topS 5) 0)) (defBody (inClass (topS 5) 0)) (defScope (inClass (topS 5) 0)) (d_BadProgram___init__.dvs K) [] (He.ma K (He.ga K "BadProgram") "__init__") fd
  f_BadRule___init__ : ∃ fd, FunD K "__init__" "BadRule.__init__" (defArgs (inClass (topS 3) 0)) (defBody (inClass (topS 3) 0)) (defScope (inClass (topS 3) 0)) (d_BadRule___init__.dvs K) [] (He.ma K (He.ga K "BadRule") "__init__") fd
  f_law_caught : ∃ fd, FunD K "_law_caught" "_law_caught" (defArgs (topS 48)) (defBody (topS 48)) (defScope (topS 48)) (d_law_caught.dvs K) [] (He.ga K "_law_caught") fd
  f_Bench_tried : ∃ fd, FunD K "tried" "Bench.tried" (defArgs (inClass (topS 27) 9)) (defBody (inClass (topS 27) 9)) (defScope (inClass (topS 27) 9)) (d_Bench_tried.dvs K) [] (He.ma K (He.ga K "Bench") "tried") fd
theorem tx {K : PySem.W.Frag} {h : Heap} {mg : Str → Option Value} (X : K.In h) (G : h.Ns mainGlobals mg) (c : SaysX bs fn K) : Tx K mg where
  g_BadDeed := He.glo_ok X G (c.fact 0)
  g_BadPoint := He.glo_ok X G (c.fact 1)
  g_BadProgram := He.glo_ok X G (c.fact 2)
  g_BadRule := He.glo_ok X G (c.fact 3)
  g_Bench := He.glo_ok X G (c.fact 4)
  g_CrossError := He.glo_ok X G (c.fact 5)
  g_Held := He.glo_ok X G (c.fact 6)
  g_NothingLeft := He.glo_ok X G (c.fact 7)
  g_Program := He.glo_ok X G (c.fact 8)
  g_Rule := He.glo_ok X G (c.fact 9)
  g__law_begun := He.glo_ok X G (c.fact 10)
  g__law_bench_drawn := He.glo_ok X G (c.fact 11)
  g__law_bench_shows := He.glo_ok X G (c.fact 12)
  g__law_bench_step := He.glo_ok X G (c.fact 13)
  g__law_block := He.glo_ok X G (c.fact 14)
  g__law_caught := He.glo_ok X G (c.fact 15)
  g__law_done := He.glo_ok X G (c.fact 16)
  g__law_end := He.glo_ok X G (c.fact 17)
  g__law_is_low := He.glo_ok X G (c.fact 18)
  g__law_job := He.glo_ok X G (c.fact 19)
  g__law_mixed := He.glo_ok X G (c.fact 20)
  g__law_now := He.glo_ok X G (c.fact 21)
  g__law_number := He.glo_ok X G (c.fact 22)
  g__law_pick := He.glo_ok X G (c.fact 23)
  g__law_rule := He.glo_ok X G (c.fact 24)
  g__law_rule_at := He.glo_ok X G (c.fact 25)
  g__law_some_done := He.glo_ok X G (c.fact 26)
  g__law_step := He.glo_ok X G (c.fact 27)
  g__law_step_done := He.glo_ok X G (c.fact 28)
  g__law_step_of := He.glo_ok X G (c.fact 29)
  g__law_take := He.glo_ok X G (c.fact 30)
  g__law_trimmed := He.glo_ok X G (c.fact 31)
  g__law_turn := He.glo_ok X G (c.fact 32)
  g__law_undone := He.glo_ok X G (c.fact 33)
  g_done := He.glo_ok X G (c.fact 34)
  g_is_list := He.glo_ok X G (c.fact 35)
  g_is_number := He.glo_ok X G (c.fact 36)
  g_is_step := He.glo_ok X G (c.fact 37)
  g_need_point := He.glo_ok X G (c.fact 38)
  g_row_value := He.glo_ok X G (c.fact 39)
  g_without_end := He.glo_ok X G (c.fact 40)
  g_law := He.glo_ok X G (c.fact 41)
  n_KeyError := He.free_ok X G (c.fact 42)
  n_ZeroDivisionError := He.free_ok X G (c.fact 43)
  n_abs := He.free_ok X G (c.fact 44)
  n_all := He.free_ok X G (c.fact 45)
  n_bool := He.free_ok X G (c.fact 46)
  n_enumerate := He.free_ok X G (c.fact 47)
  n_int := He.free_ok X G (c.fact 48)
  n_isinstance := He.free_ok X G (c.fact 49)
  n_len := He.free_ok X G (c.fact 50)
  n_list := He.free_ok X G (c.fact 51)
  n_max := He.free_ok X G (c.fact 52)
  n_min := He.free_ok X G (c.fact 53)
  n_range := He.free_ok X G (c.fact 54)
  n_repr := He.free_ok X G (c.fact 55)
  n_str := He.free_ok X G (c.fact 56)
  n_tuple := He.free_ok X G (c.fact 57)
  ctx := ctxB_ok (c.fact 58)
  hes := all_ok (c.fact 59) fun _ h => of_decide_eq_true h
  kp_caught := c.fact 60
  co_Program := callB_ok (c.fact 61)
  cl_Bench := He.cls_ok (c.fact 62)
  cl_Held := He.cls_ok (c.fact 63)
  cl_Program := He.cls_ok (c.fact 64)
  cl_Rule := He.cls_ok (c.fact 65)
  dg := noneB_ok (c.fact 66)
  er_BadDeed := eriB_ok (c.fact 67)
  er_BadProgram := eriB_ok (c.fact 68)
  er_BadRule := eriB_ok (c.fact 69)
  er_BadPoint := erB_ok (c.fact 70)
  er_NothingLeft := erB_ok (c.fact 71)
  xk_KeyError := all_ok (c.fact 72) fun _ h => of_decide_eq_true h
  xk_ZeroDivisionError := all_ok (c.fact 73) fun _ h => of_decide_eq_true h
  xo_BadDeed := all_ok (c.fact 74) fun _ h => of_decide_eq_true h
  xb_BadDeed := all_ok (c.fact 75) fun _ h => of_decide_eq_true h
  me_Bench___enter__ := He.meth_ok (c.fact 76)
  me_Bench___exit__ := He.meth_ok (c.fact 77)
  me_Bench_do := He.meth_ok (c.fact 78)
  me_Bench_tried := He.meth_ok (c.fact 79)
  me_Bench_undo := He.meth_ok (c.fact 80)
  mk_Bench := He.mkr_ok (c.fact 81)
  mk_Held := He.mkr_ok (c.fact 82)
  mk_Program := He.mkr_ok (c.fact 83)
  mk_Rule := He.mkr_ok (c.fact 84)
  na_Bench_done := He.noat_ok (c.fact 85)
  na_Bench_held := He.noat_ok (c.fact 86)
  na_Bench_own_begun := He.noat_ok (c.fact 87)
  na_Held_around := He.noat_ok (c.fact 88)
  na_Held_had := He.noat_ok (c.fact 89)
  na_Program_own_steps := He.noat_ok (c.fact 90)
  na_Rule_own_numbers := He.noat_ok (c.fact 91)
  nf_Rule := c.fact 92
  prop_Bench_begun := propB_ok (c.fact 93)
  prop_Bench_log := propB_ok (c.fact 94)
  prop_Bench_point := propB_ok (c.fact 95)
  spl_Rule_eq := splB_ok (c.fact 96)
  cr_CE := creadB_ok (c.fact 97)
  vi_CE := vInit_ok (c.fact 98)
  tbn := of_decide_eq_true (c.fact 99)
  f_law_mixed := c.def_ 0 (d := d_law_mixed)
  f_law_take := c.def_ 1 (d := d_law_take)
  f_law_pick := c.def_ 2 (d := d_law_pick)
  f_law_number := c.def_ 3 (d := d_law_number)
  f_is_number := c.def_ 4 (d := d_is_number)
  f_need_point := c.def_ 5 (d := d_need_point)
  f_Bench___init__ := c.def_ 6 (d := d_Bench___init__)
  f_law_bench_drawn := c.def_ 7 (d := d_law_bench_drawn)
  f_Rule___eq__ := c.def_ 8 (d := d_Rule___eq__)
  f_Bench_point := c.def_ 9 (d := d_Bench_point)
  f_Bench_undo := c.def_ 10 (d := d_Bench_undo)
  f_Bench_begun := c.def_ 11 (d := d_Bench_begun)
  f_law_now := c.def_ 12 (d := d_law_now)
  f_Bench_log := c.def_ 13 (d := d_Bench_log)
  f_law_is_low := c.def_ 14 (d := d_law_is_low)
  f_is_list := c.def_ 15 (d := d_is_list)
  f_without_end := c.def_ 16 (d := d_without_end)
  f_Rule___init__ := c.def_ 17 (d := d_Rule___init__)
  f_law_step_of := c.def_ 18 (d := d_law_step_of)
  f_law_bench_shows := c.def_ 19 (d := d_law_bench_shows)
  f_law_undone := c.def_ 20 (d := d_law_undone)
  f_law_turn := c.def_ 21 (d := d_law_turn)
  f_law_trimmed := c.def_ 22 (d := d_law_trimmed)
  f_law_rule := c.def_ 23 (d := d_law_rule)
  f_law_step := c.def_ 24 (d := d_law_step)
  f_law_bench_step := c.def_ 25 (d := d_law_bench_step)
  f_law_rule_at := c.def_ 26 (d := d_law_rule_at)
  f_law_step_done := c.def_ 27 (d := d_law_step_done)
  f_is_step := c.def_ 28 (d := d_is_step)
  f_Program___init__ := c.def_ 29 (d := d_Program___init__)
  f_row_value := c.def_ 30 (d := d_row_value)
  f_done := c.def_ 31 (d := d_done)
  f_Program___call__ := c.def_ 32 (d := d_Program___call__)
  f_Bench_do := c.def_ 33 (d := d_Bench_do)
  f_law_done := c.def_ 34 (d := d_law_done)
  f_law_some_done := c.def_ 35 (d := d_law_some_done)
  f_law_end := c.def_ 36 (d := d_law_end)
  f_law_job__r0 := c.def_ 37 (d := d_law_job__r0)
  f_Held___init__ := c.def_ 38 (d := d_Held___init__)
  f_Bench___enter__ := c.def_ 39 (d := d_Bench___enter__)
  f_Bench___exit__ := c.def_ 40 (d := d_Bench___exit__)
  f_law_block__r0 := c.def_ 41 (d := d_law_block__r0)
  f_law_job__r1 := c.def_ 42 (d := d_law_job__r1)
  f_law_block__r1 := c.def_ 43 (d := d_law_block__r1)
  f_law_job__r2 := c.def_ 44 (d := d_law_job__r2)
  f_law_block__r2 := c.def_ 45 (d := d_law_block__r2)
  f_law_begun := c.def_ 46 (d := d_law_begun)
  f_law := c.def_ 47 (d := d_law)
  f_BadDeed___init__ := c.def_ 48 (d := d_BadDeed___init__)
  f_BadProgram___init__ := c.def_ 49 (d := d_BadProgram___init__)
  f_BadRule___init__ := c.def_ 50 (d := d_BadRule___init__)
  f_law_caught := c.def_ 51 (d := d_law_caught)
  f_Bench_tried := c.def_ 52 (d := d_Bench_tried)
abbrev TbB (K : PySem.W.Frag) (base : Heap) (mg : Str → Option Value) : Prop := ∀ f ∈ tf, LamX.TabB base mg (codeAt K (f K)) (tabAt K (f K))
abbrev LL_law_undone : Nat := 10
theorem tm_law_undone : (fun K => (He.ga K "_law_undone")) ∈ tf := List.mem_cons_self
theorem tbm_law_undone {K : PySem.W.Frag} : (tabAt K (He.ga K "_law_undone"), ("_law_undone" : Str) ++ ".<locals>." ++ "<lambda>") ∈ (cx K).tb := List.mem_cons_self
theorem tbu_law_undone {K : PySem.W.Frag} {mg : Str → Option Value} (T : Tx K mg) : ∀ p ∈ (cx K).tb, p.1 = tabAt K (He.ga K "_law_undone") → p.2 = ("_law_undone" : Str) ++ ".<locals>." ++ "<lambda>" := by
  exact tb_uniq T.tbn tbm_law_undone
abbrev LL_law_block__r0 : Nat := 15
abbrev LT_law_block__r0 : Nat := 16
theorem tm_law_block__r0 : (fun K => (He.ga K "_law_block")) ∈ tf := (List.mem_cons_of_mem _ List.mem_cons_self)
theorem tbm_law_block__r0 {K : PySem.W.Frag} : (tabAt K (He.ga K "_law_block"), ("_law_block" : Str) ++ ".<locals>." ++ "<lambda>") ∈ (cx K).tb := (List.mem_cons_of_mem _ List.mem_cons_self)
theorem tbu_law_block__r0 {K : PySem.W.Frag} {mg : Str → Option Value} (T : Tx K mg) : ∀ p ∈ (cx K).tb, p.1 = tabAt K (He.ga K "_law_block") → p.2 = ("_law_block" : Str) ++ ".<locals>." ++ "<lambda>" := by
  exact tb_uniq T.tbn tbm_law_block__r0
abbrev LL_law_block__r1 : Nat := 19
abbrev LT_law_block__r1 : Nat := 20
theorem tm_law_block__r1 : (fun K => (He.ga K "_law_block")) ∈ tf := (List.mem_cons_of_mem _ List.mem_cons_self)
theorem tbm_law_block__r1 {K : PySem.W.Frag} : (tabAt K (He.ga K "_law_block"), ("_law_block" : Str) ++ ".<locals>." ++ "<lambda>") ∈ (cx K).tb := (List.mem_cons_of_mem _ List.mem_cons_self)
theorem tbu_law_block__r1 {K : PySem.W.Frag} {mg : Str → Option Value} (T : Tx K mg) : ∀ p ∈ (cx K).tb, p.1 = tabAt K (He.ga K "_law_block") → p.2 = ("_law_block" : Str) ++ ".<locals>." ++ "<lambda>" := by
  exact tb_uniq T.tbn tbm_law_block__r1
abbrev LL_law_block__r2 : Nat := 23
abbrev LT_law_block__r2 : Nat := 24
theorem tm_law_block__r2 : (fun K => (He.ga K "_law_block")) ∈ tf := (List.mem_cons_of_mem _ List.mem_cons_self)
theorem tbm_law_block__r2 {K : PySem.W.Frag} : (tabAt K (He.ga K "_law_block"), ("_law_block" : Str) ++ ".<locals>." ++ "<lambda>") ∈ (cx K).tb := (List.mem_cons_of_mem _ List.mem_cons_self)
theorem tbu_law_block__r2 {K : PySem.W.Frag} {mg : Str → Option Value} (T : Tx K mg) : ∀ p ∈ (cx K).tb, p.1 = tabAt K (He.ga K "_law_block") → p.2 = ("_law_block" : Str) ++ ".<locals>." ++ "<lambda>" := by
  exact tb_uniq T.tbn tbm_law_block__r2
section
variable {P : Program} {w : PySem.World} {K : PySem.W.Frag} {mg : Str → Option Value} {base : Heap}
theorem nN {c : DL.Ctx} (S : Option SA) (I : Hp) : Reps c S I [] [] := .nil
theorem oR {α : Type} {a : α} {q : Prop} : a = a ∨ q := Or.inl rfl
theorem gsL {X : Cx} {E : XK} {kb k : Nat} {bd : List Stmt} {v : WS} (h : GSs X (cx K) (fun cls d _ H => E cls d H) k bd v) (hk : k ≤ kb := by decide +kernel) : GSs X (cx K) (fun cls d _ H => E cls d H) kb bd v := gs_le h hk
theorem rwD {c : DL.Ctx} {n : Nat} {b : WS} {k : Nat} {vs : List V} {H : Hp} {Q : VK} {Ex : XK} (N : List Str) (h : SpW c (wDef n N.length b) k vs H Q Ex) : ldS c (fun cls d _ H => Ex cls d H) k b { nx := fun _ H' => Q .non H', rt := Q } (L2.start N vs) H := run_wDef h (Nat.le_refl _)
theorem fnD [Gds] {k : Nat} {f : Addr} {fd : FuncData} {ps : List Str} {sp : Sp} {x q : Str} {pa : Arguments} {bd : List Stmt} {sc : Scope} {dvs : List V} {kws : List (Str × V)} {N : List Str} (F : FunD K x q pa bd sc dvs kws f fd) (Sc : FnScope N ps sc)
    (hb : ∀ (A : Around) (o : List Env) (s : Shared) (H : Hp) (vs : List V) (Q : VK) (E : XK), Gds.ok (A.deeper (envOfC q sc s.heap.objs.size f (.ref (codeAt K f)))) → Room k (A.deeper (envOfC q sc s.heap.objs.size f (.ref (codeAt K f)))) → sp vs H Q E →
      ∃ t, PSs (cxOf (L2.CX P w) P w K mg base N q sc f (.ref (codeAt K f)) A o s H E) bd t ∧ t { nx := fun _ H' => Q .non H', rt := Q } (start N vs) H) (hl : ∀ vs H Q E, sp vs H Q E → vs.length = ps.length := by exact fun vs H Q E h => SpW.len rfl h) : FnW P w K mg base (k + 1) f fd ps sp := fnW_of F Sc hl hb
theorem tkC {N : List Str} {q : Str} {sc : Scope} {f : Addr} {cd : Value} {A : Around} {o : List Env} {s : Shared} {H : Hp} {E : XK} : Takes (cxOf (L2.CX P w) P w K mg base N q sc f cd A o s H E) (fun cls d _ H => E cls d H) := takes_of rfl rfl rfl rfl
theorem okW_of [Gds] {c : DL.Ctx} {x q : Str} {pa : Arguments} {bd : List Stmt} {sc : Scope} {ps : List Str} {f : Addr} {k kf : Nat} {s : WP} (h : ∃ fd, FunD c.K x q pa bd sc [] [] f fd) (g : ∀ {fd : FuncData}, FunD c.K x q pa bd sc [] [] f fd → FnW P w c.K mg base k f fd ps (SpW c s kf))
    (b : ∀ {fd : FuncData}, FunD c.K x q pa bd sc [] [] f fd → Binds c.K fd ps []) : OkW P w c mg base k f ps s kf [] := by
  obtain ⟨fd, F⟩ := h
  exact ⟨fd, g F, b F, F.kp, ⟨[], .nil, b F⟩⟩
theorem ok_BadDeed___init__ (T : Tx K mg) : ∃ fd, FnOk P w K mg base C8.CX0 1 (He.ma K (He.ga K "BadDeed") "__init__") fd ["self", "deed"] (sp_ei K "deed") ∧ Binds K fd ["self", "deed"] [] := by
  obtain ⟨fd, F⟩ := T.f_BadDeed___init__
  exact ⟨fd, einit_of F sc_BadDeed___init__ T.g_CrossError rfl rfl rfl T.cr_CE T.vi_CE, F.bindsN fun _ _ _ _ _ _ us hl => match us, hl with | [_, _], _ => rfl⟩
theorem ok_BadProgram___init__ (T : Tx K mg) : ∃ fd, FnOk P w K mg base C8.CX0 1 (He.ma K (He.ga K "BadProgram") "__init__") fd ["self", "at"] (sp_ei K "at") ∧ Binds K fd ["self", "at"] [] := by
  obtain ⟨fd, F⟩ := T.f_BadProgram___init__
  exact ⟨fd, einit_of F sc_BadProgram___init__ T.g_CrossError rfl rfl rfl T.cr_CE T.vi_CE, F.bindsN fun _ _ _ _ _ _ us hl => match us, hl with | [_, _], _ => rfl⟩
theorem ok_BadRule___init__ (T : Tx K mg) : ∃ fd, FnOk P w K mg base C8.CX0 1 (He.ma K (He.ga K "BadRule") "__init__") fd ["self", "at"] (sp_ei K "at") ∧ Binds K fd ["self", "at"] [] := by
  obtain ⟨fd, F⟩ := T.f_BadRule___init__
  exact ⟨fd, einit_of F sc_BadRule___init__ T.g_CrossError rfl rfl rfl T.cr_CE T.vi_CE, F.bindsN fun _ _ _ _ _ _ us hl => match us, hl with | [_, _], _ => rfl⟩
theorem sc__caught : FnScope N_law_caught ["_law_work_here"] (defScope (topS 48)) := sc_law_caught
variable (T : Tx K mg) (TB : TbB K base mg)
include T TB
theorem ok_law_mixed : OkW P w (cx K) mg base 1 (He.ga K "_law_mixed") ["_law_state"] wp_law_mixed (1) (d_law_mixed.dvs K) := by
  obtain ⟨fd, F⟩ := T.f_law_mixed
  have nd := sc_law_mixed.nd
  have hb : Binds K fd ["_law_state"] [] := F.bindsN fun _ _ _ _ _ _ us hl => match us, hl with | [_], _ => rfl
  refine ⟨fd, fnW_of F sc_law_mixed (fun vs H Q E h => len_mixed h) (fun A outer s H vs Q E gd hr h => ⟨rd_law_mixed (cx K), PSs.nox ?_, run_mixed rfl h⟩), hb, F.kp, ⟨[], .nil, hb⟩⟩
  exact (pss_cons (ps_par (i := 1) (j := 2) (by rfl) nd rfl rfl (by decide) rfl rfl (pa_cons (pe_op op_add (pe_dget (hu_of hr) (pv 0) pe_str (fun _ _ => rfl)) pe_int) (pa_cons pe_int pa_nil)) (by rfl))
      (pss_cons (ps_dput (hu_of hr) (pv 0) pe_str (pv 1) rfl)
      (pss_cons (ps_for PassesOwn.never rfl (pi_list (pe_lst (pa_cons pe_int (pa_cons pe_int (pa_cons pe_int (pa_cons pe_int pa_nil)))))) (pg_name (i := 3) nd rfl (Or.inl rfl)) (pss_cons (ps_set (i := 4) nd rfl (Or.inl rfl) (pe_op op_add (pe_op op_mul pe_int (pv 1)) (pe_op op_fdiv (pv 3) pe_int)))
      (pss_cons (ps_for PassesOwn.never rfl (pi_list (pe_dget (hu_of hr) (pv 0) pe_str (fun _ _ => rfl))) (pg_name (i := 5) nd rfl (Or.inl rfl)) (pss_one (ps_set (i := 4) nd rfl (Or.inl rfl) (pe_op op_mod (pe_callTy call_intG (by rfl) T.n_int (by decide +kernel) (pa_cons (pe_op op_add (pe_op op_add (pe_op op_mul (pv 4) pe_int) (pv 5)) (pv 1)) pa_nil)) (pv 3)))))
      (pss_one (ps_set (i := 2) nd rfl (Or.inl rfl) (pe_op op_add (pe_op op_mul (pv 2) pe_int) (pe_op op_mod (pe_callTy call_intG (by rfl) T.n_int (by decide +kernel) (pa_cons (pe_op op_pow27 (pv 4) pe_int) pa_nil)) (pv 3))))))))
      (pss_one (ps_ret (pv 2))))))
theorem ok_law_take : OkW P w (cx K) mg base 2 (He.ga K "_law_take") ["_law_state", "_law_size"] wp_law_take (1) (d_law_take.dvs K) := by
  obtain ⟨fd, F⟩ := T.f_law_take
  obtain ⟨_, G_law_mixed, b_law_mixed, k_law_mixed, _, v_law_mixed, c_law_mixed⟩ := ok_law_mixed (P := P) (w := w) T TB
  have nd := sc_law_take.nd
  have hb : Binds K fd ["_law_state", "_law_size"] [] := F.bindsN fun _ _ _ _ _ _ us hl => match us, hl with | [_, _], _ => rfl
  refine ⟨fd, fnW_of F sc_law_take (fun vs H Q E h => len_take h) (fun A outer s H vs Q E gd hr h => ⟨rd_law_take (cx K), PSs.nox ?_, run_take rfl h⟩), hb, F.kp, ⟨[], .nil, hb⟩⟩
  exact (pss_cons (ps_if (pt_cmpR op_eq (pe_dget (hu_of hr) (pv 0) pe_str (fun _ _ => rfl)) pe_int (nomark _)) (pss_one (ps_dput (hu_of hr) (pv 0) pe_str (pe_ifExp (pt_cmpR (op_neD hr.units) (pe_dget (hu_of hr) (pv 0) pe_str (fun _ _ => rfl)) (pe_lst pa_nil) (nomark _)) (pe_bm PySem.F.plainAttrs_list PySem.F.slot_list_pop PySem.F.type_list_pop mt_popAt (pe_dget (hu_of hr) (pv 0) pe_str (fun _ _ => rfl)) (pa_cons pe_int pa_nil)) (pe_callW0 G_law_mixed gd (hr.mono (by decide)) rfl T.g__law_mixed k_law_mixed b_law_mixed (pa_cons (pv 0) pa_nil))) rfl)) pss_nil)
      (pss_cons (ps_set (i := 2) nd rfl (Or.inl rfl) (pe_op op_mod (pe_callTy call_intG (by rfl) T.n_int (by decide +kernel) (pa_cons (pe_dget (hu_of hr) (pv 0) pe_str (fun _ _ => rfl)) pa_nil)) (pv 1)))
      (pss_cons (ps_dput (hu_of hr) (pv 0) pe_str (pe_op op_fdivW (pe_dget (hu_of hr) (pv 0) pe_str (fun _ _ => rfl)) (pv 1)) rfl)
      (pss_one (ps_ret (pv 2))))))
theorem okF_law_pick {fd : FuncData} (F : FunD K "_law_pick" "_law_pick" (defArgs (topS 38)) (defBody (topS 38)) (defScope (topS 38)) (d_law_pick.dvs K) [] (He.ga K "_law_pick") fd) : FnW P w K mg base 3 (He.ga K "_law_pick") fd ["_law_state", "_law_some"] (SpW (cx K) wp_law_pick (1)) := by
  obtain ⟨_, G_law_take, b_law_take, k_law_take, _, v_law_take, c_law_take⟩ := ok_law_take (P := P) (w := w) T TB
  have nd := sc_law_pick.nd
  refine fnD F sc_law_pick fun A outer s H vs Q E gd hr h => ?_
  exact ⟨_, gsL (E := E) (kb := 1) (gs_one (g_ret (g_ix (g_var (pv 1)) (g_call G_law_take gd (hr.mono (by decide)) rfl T.g__law_take k_law_take b_law_take .nil nN tkC (ga_cons (g_var (pv 0)) (ga_cons (g_cb w_len (by rfl) T.n_len PySem.boot_len (ga_cons (g_var (pv 1)) ga_nil)) ga_nil)))))), rwD N_law_pick h⟩
theorem ok_law_pick : OkW P w (cx K) mg base 3 (He.ga K "_law_pick") ["_law_state", "_law_some"] wp_law_pick (1) (d_law_pick.dvs K) := okW_of (c := cx K) T.f_law_pick (okF_law_pick T TB) fun F => F.bindsN fun _ _ _ _ _ _ us hl => match us, hl with | [_, _], _ => rfl
theorem okF_law_number {fd : FuncData} (F : FunD K "_law_number" "_law_number" (defArgs (topS 39)) (defBody (topS 39)) (defScope (topS 39)) (d_law_number.dvs K) [] (He.ga K "_law_number") fd) : FnW P w K mg base 4 (He.ga K "_law_number") fd ["_law_state", "_law_great"] (SpW (cx K) wp_law_number (2 ^ 2)) := by
  obtain ⟨_, G_law_pick, b_law_pick, k_law_pick, _, v_law_pick, c_law_pick⟩ := ok_law_pick (P := P) (w := w) T TB
  obtain ⟨_, G_law_take, b_law_take, k_law_take, _, v_law_take, c_law_take⟩ := ok_law_take (P := P) (w := w) T TB
  have nd := sc_law_number.nd
  refine fnD F sc_law_number fun A outer s H vs Q E gd hr h => ?_
  exact ⟨_, gsL (E := E) (kb := 2 ^ 2) (gs_cons (g_set (i := 2) nd rfl oR (g_call G_law_pick gd (hr.mono (by decide)) rfl T.g__law_pick k_law_pick b_law_pick .nil nN tkC (ga_cons (g_var (pv 0)) (ga_cons (g_lst (ga_cons g_int (ga_cons g_int (ga_cons g_int (ga_cons g_int (ga_cons g_int (ga_cons (g_call G_law_take gd (hr.mono (by decide)) rfl T.g__law_take k_law_take b_law_take .nil nN tkC (ga_cons (g_var (pv 0)) (ga_cons (g_op w_add (g_var (pv 1)) g_int) ga_nil))) ga_nil))))))) ga_nil))))
      (gs_one (g_ret (g_call G_law_pick gd (hr.mono (by decide)) rfl T.g__law_pick k_law_pick b_law_pick .nil nN tkC (ga_cons (g_var (pv 0)) (ga_cons (g_lst (ga_cons (g_cb w_min2 (by rfl) T.n_min (by decide +kernel) (ga_cons (g_var (pv 2)) (ga_cons (g_var (pv 1)) ga_nil))) (ga_cons (g_op w_sub g_int (g_cb w_min2 (by rfl) T.n_min (by decide +kernel) (ga_cons (g_var (pv 2)) (ga_cons (g_var (pv 1)) ga_nil)))) ga_nil))) ga_nil)))))), rwD N_law_number h⟩
theorem ok_law_number : OkW P w (cx K) mg base 4 (He.ga K "_law_number") ["_law_state", "_law_great"] wp_law_number (2 ^ 2) (d_law_number.dvs K) := okW_of (c := cx K) T.f_law_number (okF_law_number T TB) fun F => F.bindsN fun _ _ _ _ _ _ us hl => match us, hl with | [_, _], _ => rfl
theorem okF_is_number {fd : FuncData} (F : FunD K "is_number" "is_number" (defArgs (topS 10)) (defBody (topS 10)) (defScope (topS 10)) (d_is_number.dvs K) [] (He.ga K "is_number") fd) : FnW P w K mg base 1 (He.ga K "is_number") fd ["thing"] (SpW (cx K) wp_is_number (0)) := by
  have nd := sc_is_number.nd
  refine fnD F sc_is_number fun A outer s H vs Q E gd hr h => ?_
  exact ⟨_, gsL (E := E) (kb := 0) (gs_one (g_ret (g_and (g_cb (w_isi T.ctx) (by rfl) T.n_isinstance (by decide +kernel) (ga_cons (g_var (pv 0)) (ga_cons (g_ty (pe_bltn (by rfl) T.n_int (by decide +kernel) rfl)) ga_nil))) (g_one (g_not (g_cb (w_isi T.ctx) (by rfl) T.n_isinstance (by decide +kernel) (ga_cons (g_var (pv 0)) (ga_cons (g_ty (pe_bltn (by rfl) T.n_bool (by decide +kernel) rfl)) ga_nil)))))))), rwD N_is_number h⟩
theorem ok_is_number : OkW P w (cx K) mg base 1 (He.ga K "is_number") ["thing"] wp_is_number (0) (d_is_number.dvs K) := okW_of (c := cx K) T.f_is_number (okF_is_number T TB) fun F => F.bindsN fun _ _ _ _ _ _ us hl => match us, hl with | [_], _ => rfl
theorem okF_need_point {fd : FuncData} (F : FunD K "need_point" "need_point" (defArgs (topS 19)) (defBody (topS 19)) (defScope (topS 19)) (d_need_point.dvs K) [] (He.ga K "need_point") fd) : FnW P w K mg base 2 (He.ga K "need_point") fd ["x", "y"] (SpW (cx K) wp_need_point (0)) := by
  obtain ⟨_, G_is_number, b_is_number, k_is_number, _, v_is_number, c_is_number⟩ := ok_is_number (P := P) (w := w) T TB
  have nd := sc_need_point.nd
  refine fnD F sc_need_point fun A outer s H vs Q E gd hr h => ?_
  exact ⟨_, gsL (E := E) (kb := 0) (gs_one (g_ifS (g_pt (g_wor (g_tnot (g_tval (g_call G_is_number gd (hr.mono (by decide)) rfl T.g_is_number k_is_number b_is_number .nil nN tkC (ga_cons (g_var (pv 0)) ga_nil)))) (g_wor1 (g_tnot (g_tval (g_call G_is_number gd (hr.mono (by decide)) rfl T.g_is_number k_is_number b_is_number .nil nN tkC (ga_cons (g_var (pv 1)) ga_nil))))))) (gs_one (g_rz (n := "BadPoint") rfl tkC PySem.F.excBase_ValueError T.er_BadPoint.q T.g_BadPoint T.er_BadPoint.kp (raises_own T.er_BadPoint.be T.er_BadPoint.ty) rfl e_BadPoint)) gs_nil)), rwD N_need_point h⟩
theorem ok_need_point : OkW P w (cx K) mg base 2 (He.ga K "need_point") ["x", "y"] wp_need_point (0) (d_need_point.dvs K) := okW_of (c := cx K) T.f_need_point (okF_need_point T TB) fun F => F.bindsN fun _ _ _ _ _ _ us hl => match us, hl with | [_, _], _ => rfl
theorem okF_Bench___init__ {fd : FuncData} (F : FunD K "__init__" "Bench.__init__" (defArgs (inClass (topS 27) 0)) (defBody (inClass (topS 27) 0)) (defScope (inClass (topS 27) 0)) (d_Bench___init__.dvs K) [] (He.ma K (He.ga K "Bench") "__init__") fd) : FnW P w K mg base 3 (He.ma K (He.ga K "Bench") "__init__") fd ["self", "x", "y"] (SpW (cx K) wp_Bench___init__ (0)) := by
  obtain ⟨_, G_need_point, b_need_point, k_need_point, _, v_need_point, c_need_point⟩ := ok_need_point (P := P) (w := w) T TB
  have nd := sc_Bench___init__.nd
  refine fnD F sc_Bench___init__ fun A outer s H vs Q E gd hr h => ?_
  exact ⟨_, gsL (E := E) (kb := 0) (gs_cons (g_drop (g_call G_need_point gd (hr.mono (by decide)) rfl T.g_need_point k_need_point b_need_point .nil nN tkC (ga_cons (g_var (pv 1)) (ga_cons (g_var (pv 2)) ga_nil))))
      (gs_cons (g_setF (n := "Bench") (g_var (pv 0)) (g_tup (ga_cons (g_var (pv 1)) (ga_cons (g_var (pv 2)) ga_nil))) T.cl_Bench T.na_Bench_own_begun)
      (gs_cons (g_setF (n := "Bench") (g_var (pv 0)) (g_tup ga_nil) T.cl_Bench T.na_Bench_done)
      (gs_one (g_setF (n := "Bench") (g_var (pv 0)) g_non T.cl_Bench T.na_Bench_held))))), rwD N_Bench___init__ h⟩
theorem ok_Bench___init__ : OkW P w (cx K) mg base 3 (He.ma K (He.ga K "Bench") "__init__") ["self", "x", "y"] wp_Bench___init__ (0) (d_Bench___init__.dvs K) := okW_of (c := cx K) T.f_Bench___init__ (okF_Bench___init__ T TB) fun F => F.bindsN fun _ _ _ _ _ _ us hl => match us, hl with | [_, _, _], _ => rfl
theorem okF_law_bench_drawn {fd : FuncData} (F : FunD K "_law_bench_drawn" "_law_bench_drawn" (defArgs (topS 29)) (defBody (topS 29)) (defScope (topS 29)) (d_law_bench_drawn.dvs K) [] (He.ga K "_law_bench_drawn") fd) : FnW P w K mg base 5 (He.ga K "_law_bench_drawn") fd ["_law_state"] (SpW (cx K) wp_law_bench_drawn (2 ^ 4)) := by
  obtain ⟨_, G_Bench___init__, b_Bench___init__, k_Bench___init__, _, v_Bench___init__, c_Bench___init__⟩ := ok_Bench___init__ (P := P) (w := w) T TB
  obtain ⟨_, G_law_number, b_law_number, k_law_number, _, v_law_number, c_law_number⟩ := ok_law_number (P := P) (w := w) T TB
  obtain ⟨_, G_law_pick, b_law_pick, k_law_pick, _, v_law_pick, c_law_pick⟩ := ok_law_pick (P := P) (w := w) T TB
  have nd := sc_law_bench_drawn.nd
  refine fnD F sc_law_bench_drawn fun A outer s H vs Q E gd hr h => ?_
  exact ⟨_, gsL (E := E) (kb := 2 ^ 4) (gs_cons (g_set (i := 1) nd rfl oR (g_call G_law_pick gd (hr.mono (by decide)) rfl T.g__law_pick k_law_pick b_law_pick .nil nN tkC (ga_cons (g_var (pv 0)) (ga_cons (g_lst (ga_cons g_int (ga_cons g_int (ga_cons (g_op w_pow g_int g_int) ga_nil)))) ga_nil))))
      (gs_cons (g_set (i := 2) nd rfl oR (g_tup (ga_cons (g_call G_law_number gd (hr.mono (by decide)) rfl T.g__law_number k_law_number b_law_number .nil nN tkC (ga_cons (g_var (pv 0)) (ga_cons (g_var (pv 1)) ga_nil))) (ga_cons (g_call G_law_number gd (hr.mono (by decide)) rfl T.g__law_number k_law_number b_law_number .nil nN tkC (ga_cons (g_var (pv 0)) (ga_cons (g_var (pv 1)) ga_nil))) ga_nil))))
      (gs_one (g_ret (g_tup (ga_cons (g_make (n := "Bench") T.mk_Bench G_Bench___init__ gd (hr.mono (by decide)) rfl T.g_Bench b_Bench___init__ .nil nN tkC (ga_cons (g_ix (g_var (pv 2)) g_int) (ga_cons (g_ix (g_var (pv 2)) g_int) ga_nil)) n_Bench) (ga_cons (g_disp3 (by decide) (by decide) (by decide) (g_var (pv 2)) (g_lst ga_nil) g_int) ga_nil))))))), rwD N_law_bench_drawn h⟩
theorem ok_law_bench_drawn : OkW P w (cx K) mg base 5 (He.ga K "_law_bench_drawn") ["_law_state"] wp_law_bench_drawn (2 ^ 4) (d_law_bench_drawn.dvs K) := okW_of (c := cx K) T.f_law_bench_drawn (okF_law_bench_drawn T TB) fun F => F.bindsN fun _ _ _ _ _ _ us hl => match us, hl with | [_], _ => rfl
theorem okF_Rule___eq__ {fd : FuncData} (F : FunD K "__eq__" "Rule.__eq__" (defArgs (inClass (topS 14) 12)) (defBody (inClass (topS 14) 12)) (defScope (inClass (topS 14) 12)) (d_Rule___eq__.dvs K) [] (He.ma K (He.ga K "Rule") "__eq__") fd) : FnW P w K mg base 1 (He.ma K (He.ga K "Rule") "__eq__") fd ["self", "other"] (SpW (cx K) wp_Rule___eq__ (0)) := by
  have nd := sc_Rule___eq__.nd
  refine fnD F sc_Rule___eq__ fun A outer s H vs Q E gd hr h => ?_
  exact ⟨_, gsL (E := E) (kb := 0) (gs_one (g_ret (g_and (g_cb (w_isi T.ctx) (by rfl) T.n_isinstance (by decide +kernel) (ga_cons (g_var (pv 1)) (ga_cons (g_cls (pe_glob rfl T.g_Rule rfl) i_Rule) ga_nil))) (g_one (g_cmp (w_eq hr.units) (g_fld (n := "Rule") (g_var (pv 0)) T.cl_Rule T.na_Rule_own_numbers) (g_fld (n := "Rule") (g_var (pv 1)) T.cl_Rule T.na_Rule_own_numbers) (nomark _)))))), rwD N_Rule___eq__ h⟩
theorem ok_Rule___eq__ : OkW P w (cx K) mg base 1 (He.ma K (He.ga K "Rule") "__eq__") ["self", "other"] wp_Rule___eq__ (0) (d_Rule___eq__.dvs K) := okW_of (c := cx K) T.f_Rule___eq__ (okF_Rule___eq__ T TB) fun F => F.bindsN fun _ _ _ _ _ _ us hl => match us, hl with | [_, _], _ => rfl
theorem okF_Bench_point {fd : FuncData} (F : FunD K "point" "Bench.point" (defArgs (inClass (topS 27) 2)) (defBody (inClass (topS 27) 2)) (defScope (inClass (topS 27) 2)) (d_Bench_point.dvs K) [] (recAt K "property" (He.ma K (He.ga K "Bench") "point")) fd) : FnW P w K mg base 1 (recAt K "property" (He.ma K (He.ga K "Bench") "point")) fd ["self"] (SpW (cx K) wp_Bench_point (0)) := by
  have nd := sc_Bench_point.nd
  refine fnD F sc_Bench_point fun A outer s H vs Q E gd hr h => ?_
  exact ⟨_, gsL (E := E) (kb := 0) (gs_one (g_ret (g_if (g_tcmp (w_ne0 hr.units0) (g_fld (n := "Bench") (g_var (pv 0)) T.cl_Bench T.na_Bench_done) (g_tup ga_nil) (nomark _)) (g_ix (g_ix (g_fld (n := "Bench") (g_var (pv 0)) T.cl_Bench T.na_Bench_done) (g_un w_neg g_int)) g_int) (g_fld (n := "Bench") (g_var (pv 0)) T.cl_Bench T.na_Bench_own_begun)))), rwD N_Bench_point h⟩
theorem ok_Bench_point : OkW P w (cx K) mg base 1 (recAt K "property" (He.ma K (He.ga K "Bench") "point")) ["self"] wp_Bench_point (0) (d_Bench_point.dvs K) := okW_of (c := cx K) T.f_Bench_point (okF_Bench_point T TB) fun F => F.bindsN fun _ _ _ _ _ _ us hl => match us, hl with | [_], _ => rfl
theorem okF_Bench_undo {fd : FuncData} (F : FunD K "undo" "Bench.undo" (defArgs (inClass (topS 27) 6)) (defBody (inClass (topS 27) 6)) (defScope (inClass (topS 27) 6)) (d_Bench_undo.dvs K) [] (He.ma K (He.ga K "Bench") "undo") fd) : FnW P w K mg base 10 (He.ma K (He.ga K "Bench") "undo") fd ["self"] (SpW (cx K) wp_Bench_undo (0)) := by
  obtain ⟨_, G_Bench_point, b_Bench_point, k_Bench_point, _, v_Bench_point, c_Bench_point⟩ := ok_Bench_point (P := P) (w := w) T TB
  obtain ⟨_, G_Rule___eq__, b_Rule___eq__, k_Rule___eq__, _, v_Rule___eq__, c_Rule___eq__⟩ := ok_Rule___eq__ (P := P) (w := w) T TB
  have nd := sc_Bench_undo.nd
  refine fnD F sc_Bench_undo fun A outer s H vs Q E gd hr h => ?_
  exact ⟨_, gsL (E := E) (kb := 0) (gs_cons (g_ifS (g_tcmp (w_eqR ⟨⟨_, _, _, _, G_Rule___eq__, b_Rule___eq__, T.nf_Rule, T.spl_Rule_eq, ownE_Rule⟩, ownC_Rule⟩ gd (hr.mono (by decide))) (g_fld (n := "Bench") (g_var (pv 0)) T.cl_Bench T.na_Bench_done) (g_tup ga_nil) (nomark _)) (gs_one (g_rz (n := "NothingLeft") rfl tkC PySem.F.excBase_ValueError T.er_NothingLeft.q T.g_NothingLeft T.er_NothingLeft.kp (raises_own T.er_NothingLeft.be T.er_NothingLeft.ty) rfl e_NothingLeft)) gs_nil)
      (gs_cons (g_setF (n := "Bench") (g_var (pv 0)) (g_sl w_sl (g_fld (n := "Bench") (g_var (pv 0)) T.cl_Bench T.na_Bench_done) go_none (go_some (g_un w_neg g_int))) T.cl_Bench T.na_Bench_done)
      (gs_one (g_ret (g_prop (n := "Bench") (g_var (pv 0)) T.cl_Bench T.prop_Bench_point G_Bench_point gd (hr.mono (by decide)) b_Bench_point))))), rwD N_Bench_undo h⟩
theorem ok_Bench_undo : OkW P w (cx K) mg base 10 (He.ma K (He.ga K "Bench") "undo") ["self"] wp_Bench_undo (0) (d_Bench_undo.dvs K) := okW_of (c := cx K) T.f_Bench_undo (okF_Bench_undo T TB) fun F => F.bindsN fun _ _ _ _ _ _ us hl => match us, hl with | [_], _ => rfl
theorem okF_Bench_begun {fd : FuncData} (F : FunD K "begun" "Bench.begun" (defArgs (inClass (topS 27) 1)) (defBody (inClass (topS 27) 1)) (defScope (inClass (topS 27) 1)) (d_Bench_begun.dvs K) [] (recAt K "property" (He.ma K (He.ga K "Bench") "begun")) fd) : FnW P w K mg base 1 (recAt K "property" (He.ma K (He.ga K "Bench") "begun")) fd ["self"] (SpW (cx K) wp_Bench_begun (0)) := by
  have nd := sc_Bench_begun.nd
  refine fnD F sc_Bench_begun fun A outer s H vs Q E gd hr h => ?_
  exact ⟨_, gsL (E := E) (kb := 0) (gs_one (g_ret (g_fld (n := "Bench") (g_var (pv 0)) T.cl_Bench T.na_Bench_own_begun))), rwD N_Bench_begun h⟩
theorem ok_Bench_begun : OkW P w (cx K) mg base 1 (recAt K "property" (He.ma K (He.ga K "Bench") "begun")) ["self"] wp_Bench_begun (0) (d_Bench_begun.dvs K) := okW_of (c := cx K) T.f_Bench_begun (okF_Bench_begun T TB) fun F => F.bindsN fun _ _ _ _ _ _ us hl => match us, hl with | [_], _ => rfl
theorem okF_law_now {fd : FuncData} (F : FunD K "_law_now" "_law_now" (defArgs (topS 30)) (defBody (topS 30)) (defScope (topS 30)) (d_law_now.dvs K) [] (He.ga K "_law_now") fd) : FnW P w K mg base 1 (He.ga K "_law_now") fd ["_law_model"] (SpW (cx K) wp_law_now (0)) := by
  have nd := sc_law_now.nd
  refine fnD F sc_law_now fun A outer s H vs Q E gd hr h => ?_
  exact ⟨_, gsL (E := E) (kb := 0) (gs_one (g_ret (g_if (g_tcmp (w_ne0 hr.units0) (g_dget (units1 hr.units) (g_var (pv 0))) (g_lst ga_nil) (nomark _)) (g_ix (g_ix (g_dget (units1 hr.units) (g_var (pv 0))) (g_un w_neg g_int)) g_int) (g_dget (units1 hr.units) (g_var (pv 0)))))), rwD N_law_now h⟩
theorem ok_law_now : OkW P w (cx K) mg base 1 (He.ga K "_law_now") ["_law_model"] wp_law_now (0) (d_law_now.dvs K) := okW_of (c := cx K) T.f_law_now (okF_law_now T TB) fun F => F.bindsN fun _ _ _ _ _ _ us hl => match us, hl with | [_], _ => rfl
theorem okF_Bench_log {fd : FuncData} (F : FunD K "log" "Bench.log" (defArgs (inClass (topS 27) 3)) (defBody (inClass (topS 27) 3)) (defScope (inClass (topS 27) 3)) (d_Bench_log.dvs K) [] (recAt K "property" (He.ma K (He.ga K "Bench") "log")) fd) : FnW P w K mg base 1 (recAt K "property" (He.ma K (He.ga K "Bench") "log")) fd ["self"] (SpW (cx K) wp_Bench_log (0)) := by
  have nd := sc_Bench_log.nd
  refine fnD F sc_Bench_log fun A outer s H vs Q E gd hr h => ?_
  exact ⟨_, gsL (E := E) (kb := 0) (gs_one (g_ret (g_lc (own := [("step", 1), ("point", 2)]) nd (gi_seq (g_fld (n := "Bench") (g_var (pv 0)) T.cl_Bench T.na_Bench_done)) (blkOk_by (own := [("step", 1), ("point", 2)]) (N := N_Bench_log) (sc := defScope (inClass (topS 27) 3)) (by decide +kernel)) (fun _ _ _ _ _ => (gg_tup (ggs_cons (gg_name (i := 1) nd rfl oR) (ggs_cons (gg_name (i := 2) nd rfl oR) ggs_nil)))) (fun _ _ _ _ _ => gt_yes) (fun _ _ _ _ _ => (g_var (pv 1)))))), rwD N_Bench_log h⟩
theorem ok_Bench_log : OkW P w (cx K) mg base 1 (recAt K "property" (He.ma K (He.ga K "Bench") "log")) ["self"] wp_Bench_log (0) (d_Bench_log.dvs K) := okW_of (c := cx K) T.f_Bench_log (okF_Bench_log T TB) fun F => F.bindsN fun _ _ _ _ _ _ us hl => match us, hl with | [_], _ => rfl
theorem okF_law_is_low {fd : FuncData} (F : FunD K "_law_is_low" "_law_is_low" (defArgs (topS 43)) (defBody (topS 43)) (defScope (topS 43)) (d_law_is_low.dvs K) [] (He.ga K "_law_is_low") fd) : FnW P w K mg base 1 (He.ga K "_law_is_low") fd ["_law_step_here"] (SpW (cx K) wp_law_is_low (0)) := by
  have nd := sc_law_is_low.nd
  refine fnD F sc_law_is_low fun A outer s H vs Q E gd hr h => ?_
  exact ⟨_, gsL (E := E) (kb := 0) (gs_one (g_ret (g_cmp w_in (g_ix (g_var (pv 0)) g_int) (g_tup (ga_cons g_str (ga_cons g_str ga_nil))) (by rfl)))), rwD N_law_is_low h⟩
theorem ok_law_is_low : OkW P w (cx K) mg base 1 (He.ga K "_law_is_low") ["_law_step_here"] wp_law_is_low (0) (d_law_is_low.dvs K) := okW_of (c := cx K) T.f_law_is_low (okF_law_is_low T TB) fun F => F.bindsN fun _ _ _ _ _ _ us hl => match us, hl with | [_], _ => rfl
theorem okF_is_list {fd : FuncData} (F : FunD K "is_list" "is_list" (defArgs (topS 12)) (defBody (topS 12)) (defScope (topS 12)) (d_is_list.dvs K) [] (He.ga K "is_list") fd) : FnW P w K mg base 1 (He.ga K "is_list") fd ["thing"] (SpW (cx K) wp_is_list (0)) := by
  have nd := sc_is_list.nd
  refine fnD F sc_is_list fun A outer s H vs Q E gd hr h => ?_
  exact ⟨_, gsL (E := E) (kb := 0) (gs_one (g_ret (g_cb (w_isi T.ctx) (by rfl) T.n_isinstance (by decide +kernel) (ga_cons (g_var (pv 0)) (ga_cons (g_tup (ga_cons (g_ty (pe_bltn (by rfl) T.n_list (by decide +kernel) rfl)) (ga_cons (g_ty (pe_bltn (by rfl) T.n_tuple (by decide +kernel) rfl)) ga_nil))) ga_nil))))), rwD N_is_list h⟩
theorem ok_is_list : OkW P w (cx K) mg base 1 (He.ga K "is_list") ["thing"] wp_is_list (0) (d_is_list.dvs K) := okW_of (c := cx K) T.f_is_list (okF_is_list T TB) fun F => F.bindsN fun _ _ _ _ _ _ us hl => match us, hl with | [_], _ => rfl
theorem okF_without_end {fd : FuncData} (F : FunD K "without_end" "without_end" (defArgs (topS 13)) (defBody (topS 13)) (defScope (topS 13)) (d_without_end.dvs K) [] (He.ga K "without_end") fd) : FnW P w K mg base 1 (He.ga K "without_end") fd ["numbers"] (SpW (cx K) wp_without_end (0)) := by
  have nd := sc_without_end.nd
  refine fnD F sc_without_end fun A outer s H vs Q E gd hr h => ?_
  exact ⟨_, gsL (E := E) (kb := 0) (gs_cons (g_set (i := 1) nd rfl oR (g_cb w_len (by rfl) T.n_len PySem.boot_len (ga_cons (g_var (pv 0)) ga_nil)))
      (gs_cons (g_while (passes_of rfl) (g_pt (g_wand (g_tcmp w_gt (g_var (pv 1)) g_int (nomark _)) (g_wand1 (g_tcmp (w_eq hr.units) (g_ix (g_var (pv 0)) (g_op w_sub (g_var (pv 1)) g_int)) g_int (nomark _))))) (gs_one (g_aug (i := 1) nd rfl oR g_int ip_sub)))
      (gs_one (g_ret (g_cty w_tuple (by rfl) T.n_tuple (by decide +kernel) (ga_cons (g_sl w_sl (g_var (pv 0)) go_none (go_some (g_var (pv 1)))) ga_nil)))))), rwD N_without_end h⟩
theorem ok_without_end : OkW P w (cx K) mg base 1 (He.ga K "without_end") ["numbers"] wp_without_end (0) (d_without_end.dvs K) := okW_of (c := cx K) T.f_without_end (okF_without_end T TB) fun F => F.bindsN fun _ _ _ _ _ _ us hl => match us, hl with | [_], _ => rfl
theorem okF_Rule___init__ {fd : FuncData} (F : FunD K "__init__" "Rule.__init__" (defArgs (inClass (topS 14) 0)) (defBody (inClass (topS 14) 0)) (defScope (inClass (topS 14) 0)) (d_Rule___init__.dvs K) [] (He.ma K (He.ga K "Rule") "__init__") fd) : FnW P w K mg base 3 (He.ma K (He.ga K "Rule") "__init__") fd ["self", "coefficients"] (SpW (cx K) wp_Rule___init__ (0)) := by
  obtain ⟨_, G_is_list, b_is_list, k_is_list, _, v_is_list, c_is_list⟩ := ok_is_list (P := P) (w := w) T TB
  obtain ⟨_, G_is_number, b_is_number, k_is_number, _, v_is_number, c_is_number⟩ := ok_is_number (P := P) (w := w) T TB
  obtain ⟨_, G_without_end, b_without_end, k_without_end, _, v_without_end, c_without_end⟩ := ok_without_end (P := P) (w := w) T TB
  obtain ⟨_, GE_BadRule, bE_BadRule⟩ := ok_BadRule___init__ (P := P) (w := w) (base := base) T
  have nd := sc_Rule___init__.nd
  refine fnD F sc_Rule___init__ fun A outer s H vs Q E gd hr h => ?_
  exact ⟨_, gsL (E := E) (kb := 0) (gs_cons (g_ifS (g_tnot (g_tval (g_call G_is_list gd (hr.mono (by decide)) rfl T.g_is_list k_is_list b_is_list .nil nN tkC (ga_cons (g_var (pv 1)) ga_nil)))) (gs_one (g_rzA (n := "BadRule") rfl tkC T.er_BadRule.t T.er_BadRule.ini T.er_BadRule.fn T.er_BadRule.nof GE_BadRule (hr.mono (by decide)) bE_BadRule rfl T.g_BadRule g_non e_BadRule)) gs_nil)
      (gs_cons (g_for (passes_of rfl) (gi_enum (by rfl) T.n_enumerate (ga_cons (g_var (pv 1)) ga_nil)) (gg_tup (ggs_cons (gg_name (i := 2) nd rfl oR) (ggs_cons (gg_name (i := 3) nd rfl oR) ggs_nil))) (gs_one (g_ifS (g_tnot (g_tval (g_call G_is_number gd (hr.mono (by decide)) rfl T.g_is_number k_is_number b_is_number .nil nN tkC (ga_cons (g_var (pv 3)) ga_nil)))) (gs_one (g_rzA (n := "BadRule") rfl tkC T.er_BadRule.t T.er_BadRule.ini T.er_BadRule.fn T.er_BadRule.nof GE_BadRule (hr.mono (by decide)) bE_BadRule rfl T.g_BadRule (g_var (pv 2)) e_BadRule)) gs_nil)))
      (gs_one (g_setF (n := "Rule") (g_var (pv 0)) (g_call G_without_end gd (hr.mono (by decide)) rfl T.g_without_end k_without_end b_without_end .nil nN tkC (ga_cons (g_var (pv 1)) ga_nil)) T.cl_Rule T.na_Rule_own_numbers)))), rwD N_Rule___init__ h⟩
theorem ok_Rule___init__ : OkW P w (cx K) mg base 3 (He.ma K (He.ga K "Rule") "__init__") ["self", "coefficients"] wp_Rule___init__ (0) (d_Rule___init__.dvs K) := by
  obtain ⟨fd, F⟩ := T.f_Rule___init__
  have hb : Binds K fd ["self", "coefficients"] [] := by
    obtain ⟨ds, r, b⟩ := FunD.binds1 (ps := ["self", "coefficients"]) F 2 1 (by intro z; cases z) rfl fun _ _ _ _ _ _ _ us its hl hi => match us, its, hl, hi with | [_, _], [_], _, _ => ⟨_, rfl, rfl⟩
    cases r
    exact b
  have hc : ∃ ds, Vals (d_Rule___init__.dvs K) ds ∧ Binds K fd ["self", "coefficients"] ds := by
    obtain ⟨ds, r, b⟩ := FunD.binds1 (ps := ["self", "coefficients"]) F 1 0 (by intro z; cases z) rfl fun _ _ _ _ _ _ _ us its hl hi => match us, its, hl, hi with | [_], [_], _, _ => ⟨_, rfl, rfl⟩
    exact ⟨ds, r, b⟩
  exact ⟨fd, okF_Rule___init__ T TB F, hb, F.kp, hc⟩
theorem okF_law_step_of {fd : FuncData} (F : FunD K "_law_step_of" "_law_step_of" (defArgs (topS 47)) (defBody (topS 47)) (defScope (topS 47)) (d_law_step_of.dvs K) [] (He.ga K "_law_step_of") fd) : FnW P w K mg base 5 (He.ga K "_law_step_of") fd ["_law_step_here"] (SpW (cx K) wp_law_step_of (0)) := by
  obtain ⟨_, G_Rule___init__, b_Rule___init__, k_Rule___init__, _, v_Rule___init__, c_Rule___init__⟩ := ok_Rule___init__ (P := P) (w := w) T TB
  obtain ⟨_, G_law_is_low, b_law_is_low, k_law_is_low, _, v_law_is_low, c_law_is_low⟩ := ok_law_is_low (P := P) (w := w) T TB
  have nd := sc_law_step_of.nd
  refine fnD F sc_law_step_of fun A outer s H vs Q E gd hr h => ?_
  exact ⟨_, gsL (E := E) (kb := 0) (gs_one (g_ret (g_if (g_tval (g_call G_law_is_low gd (hr.mono (by decide)) rfl T.g__law_is_low k_law_is_low b_law_is_low .nil nN tkC (ga_cons (g_var (pv 0)) ga_nil))) (g_tup (ga_cons (g_ix (g_var (pv 0)) g_int) (ga_cons (g_make (n := "Rule") T.mk_Rule G_Rule___init__ gd (hr.mono (by decide)) rfl T.g_Rule b_Rule___init__ .nil nN tkC (ga_cons (g_cty w_list (by rfl) T.n_list (by decide +kernel) (ga_cons (g_ix (g_var (pv 0)) g_int) ga_nil)) ga_nil) n_Rule) ga_nil))) (g_var (pv 0))))), rwD N_law_step_of h⟩
theorem ok_law_step_of : OkW P w (cx K) mg base 5 (He.ga K "_law_step_of") ["_law_step_here"] wp_law_step_of (0) (d_law_step_of.dvs K) := okW_of (c := cx K) T.f_law_step_of (okF_law_step_of T TB) fun F => F.bindsN fun _ _ _ _ _ _ us hl => match us, hl with | [_], _ => rfl
theorem okF_law_bench_shows {fd : FuncData} (F : FunD K "_law_bench_shows" "_law_bench_shows" (defArgs (topS 31)) (defBody (topS 31)) (defScope (topS 31)) (d_law_bench_shows.dvs K) [] (He.ga K "_law_bench_shows") fd) : FnW P w K mg base 10 (He.ga K "_law_bench_shows") fd ["_law_built", "_law_model"] (SpW (cx K) wp_law_bench_shows (0)) := by
  obtain ⟨_, G_Bench_begun, b_Bench_begun, k_Bench_begun, _, v_Bench_begun, c_Bench_begun⟩ := ok_Bench_begun (P := P) (w := w) T TB
  obtain ⟨_, G_Bench_log, b_Bench_log, k_Bench_log, _, v_Bench_log, c_Bench_log⟩ := ok_Bench_log (P := P) (w := w) T TB
  obtain ⟨_, G_Bench_point, b_Bench_point, k_Bench_point, _, v_Bench_point, c_Bench_point⟩ := ok_Bench_point (P := P) (w := w) T TB
  obtain ⟨_, G_Rule___eq__, b_Rule___eq__, k_Rule___eq__, _, v_Rule___eq__, c_Rule___eq__⟩ := ok_Rule___eq__ (P := P) (w := w) T TB
  obtain ⟨_, G_law_now, b_law_now, k_law_now, _, v_law_now, c_law_now⟩ := ok_law_now (P := P) (w := w) T TB
  obtain ⟨_, G_law_step_of, b_law_step_of, k_law_step_of, _, v_law_step_of, c_law_step_of⟩ := ok_law_step_of (P := P) (w := w) T TB
  have nd := sc_law_bench_shows.nd
  refine fnD F sc_law_bench_shows fun A outer s H vs Q E gd hr h => ?_
  exact ⟨_, gsL (E := E) (kb := 0) (gs_cons (g_ifS (g_tcmp (w_ne hr.units) (g_cb (w_reprB T.dg gd hr.units) (by rfl) T.n_repr (by decide +kernel) (ga_cons (g_lst (ga_cons (g_prop (n := "Bench") (g_var (pv 0)) T.cl_Bench T.prop_Bench_point G_Bench_point gd (hr.mono (by decide)) b_Bench_point) (ga_cons (g_prop (n := "Bench") (g_var (pv 0)) T.cl_Bench T.prop_Bench_begun G_Bench_begun gd (hr.mono (by decide)) b_Bench_begun) ga_nil))) ga_nil)) (g_cb (w_reprB T.dg gd hr.units) (by rfl) T.n_repr (by decide +kernel) (ga_cons (g_lst (ga_cons (g_call G_law_now gd (hr.mono (by decide)) rfl T.g__law_now k_law_now b_law_now .nil nN tkC (ga_cons (g_var (pv 1)) ga_nil)) (ga_cons (g_dget (units1 hr.units) (g_var (pv 1))) ga_nil))) ga_nil)) (nomark _)) (gs_one (g_ret g_bl)) gs_nil)
      (gs_one (g_ret (g_cmp (w_eqR ⟨⟨_, _, _, _, G_Rule___eq__, b_Rule___eq__, T.nf_Rule, T.spl_Rule_eq, ownE_Rule⟩, ownC_Rule⟩ gd (hr.mono (by decide))) (g_fr (g_prop (n := "Bench") (g_var (pv 0)) T.cl_Bench T.prop_Bench_log G_Bench_log gd (hr.mono (by decide)) b_Bench_log)) (g_lc (own := [("_law_step_here", 2), ("_law_point_here", 3)]) nd (gi_seq (g_dget (units1 hr.units) (g_var (pv 1)))) (blkOk_by (own := [("_law_step_here", 2), ("_law_point_here", 3)]) (N := N_law_bench_shows) (sc := defScope (topS 31)) (by decide +kernel)) (fun _ _ _ _ _ => (gg_tup (ggs_cons (gg_name (i := 2) nd rfl oR) (ggs_cons (gg_name (i := 3) nd rfl oR) ggs_nil)))) (fun _ _ _ _ _ => gt_yes) (fun _ _ _ _ _ => (g_call G_law_step_of gd (hr.mono (by decide)) rfl T.g__law_step_of k_law_step_of b_law_step_of .nil nN LamX.takes0 (ga_cons (g_var (pv 2)) ga_nil)))) (nomark _))))), rwD N_law_bench_shows h⟩
theorem ok_law_bench_shows : OkW P w (cx K) mg base 10 (He.ga K "_law_bench_shows") ["_law_built", "_law_model"] wp_law_bench_shows (0) (d_law_bench_shows.dvs K) := okW_of (c := cx K) T.f_law_bench_shows (okF_law_bench_shows T TB) fun F => F.bindsN fun _ _ _ _ _ _ us hl => match us, hl with | [_, _], _ => rfl
theorem okF_law_undone {fd : FuncData} (F : FunD K "_law_undone" "_law_undone" (defArgs (topS 34)) (defBody (topS 34)) (defScope (topS 34)) (d_law_undone.dvs K) [] (He.ga K "_law_undone") fd) : FnW P w K mg base 13 (He.ga K "_law_undone") fd ["_law_built", "_law_model"] (SpW (cx K) wp_law_undone (0)) := by
  obtain ⟨_, G_Bench_undo, b_Bench_undo, k_Bench_undo, _, v_Bench_undo, c_Bench_undo⟩ := ok_Bench_undo (P := P) (w := w) T TB
  obtain ⟨_, G_Rule___eq__, b_Rule___eq__, k_Rule___eq__, _, v_Rule___eq__, c_Rule___eq__⟩ := ok_Rule___eq__ (P := P) (w := w) T TB
  obtain ⟨_, G_law_bench_shows, b_law_bench_shows, k_law_bench_shows, _, v_law_bench_shows, c_law_bench_shows⟩ := ok_law_bench_shows (P := P) (w := w) T TB
  obtain ⟨_, G_law_now, b_law_now, k_law_now, _, v_law_now, c_law_now⟩ := ok_law_now (P := P) (w := w) T TB
  obtain ⟨_, F_caught⟩ := T.f_law_caught
  have b_caught := F_caught.bindsN (ps := ["_law_work_here"]) fun _ _ _ _ _ _ us hl => match us, hl with | [_], _ => rfl
  have hes := T.hes
  have nd := sc_law_undone.nd
  refine fnD F sc_law_undone fun A outer s H vs Q E gd hr h => ?_
  exact ⟨_, gsL (E := E) (kb := 0) (gs_cons (g_ifS (g_tcmp (w_eqR ⟨⟨_, _, _, _, G_Rule___eq__, b_Rule___eq__, T.nf_Rule, T.spl_Rule_eq, ownE_Rule⟩, ownC_Rule⟩ gd (hr.mono (by decide))) (g_dget (units1 hr.units) (g_var (pv 1))) (g_lst ga_nil) (nomark _)) (gs_one (g_ret (g_and (g_cb (w_isi T.ctx) (by rfl) T.n_isinstance (by decide +kernel) (ga_cons (g_caught (kl := LL_law_undone) gd rfl T.g__law_caught T.kp_caught F_caught b_caught sc__caught oR sc__caught.nd rfl rfl rfl T.g_CrossError (TB _ tm_law_undone) rfl tbm_law_undone (tbu_law_undone T) (hr.mono (by decide)) (LamX.lamS_by (sc := defScope (topS 34)) (by decide +kernel)) rfl (fun _ _ _ _ _ => rfl) hes (fun A outer s H E f c' gd hr => (g_meth0 (n := "Bench") (g_var (pv 0)) T.cl_Bench T.me_Bench_undo G_Bench_undo gd (hr.mono (by decide)) b_Bench_undo .nil nN (takes_of rfl rfl rfl rfl)))) (ga_cons (g_cls (pe_glob rfl T.g_NothingLeft rfl) i_NothingLeft) ga_nil))) (g_one (g_call G_law_bench_shows gd (hr.mono (by decide)) rfl T.g__law_bench_shows k_law_bench_shows b_law_bench_shows .nil nN tkC (ga_cons (g_var (pv 0)) (ga_cons (g_var (pv 1)) ga_nil))))))) gs_nil)
      (gs_cons (g_dput (units1 hr.units) (g_var (pv 1)) (g_sl w_sl (g_dget (units1 hr.units) (g_var (pv 1))) go_none (go_some (g_un w_neg g_int))))
      (gs_cons (g_set (i := 2) nd rfl oR (g_meth0 (n := "Bench") (g_var (pv 0)) T.cl_Bench T.me_Bench_undo G_Bench_undo gd (hr.mono (by decide)) b_Bench_undo .nil nN tkC))
      (gs_one (g_ret (g_and (g_cmp (w_eq hr.units) (g_cb (w_reprB T.dg gd hr.units) (by rfl) T.n_repr (by decide +kernel) (ga_cons (g_var (pv 2)) ga_nil)) (g_cb (w_reprB T.dg gd hr.units) (by rfl) T.n_repr (by decide +kernel) (ga_cons (g_call G_law_now gd (hr.mono (by decide)) rfl T.g__law_now k_law_now b_law_now .nil nN tkC (ga_cons (g_var (pv 1)) ga_nil)) ga_nil)) (nomark _)) (g_one (g_call G_law_bench_shows gd (hr.mono (by decide)) rfl T.g__law_bench_shows k_law_bench_shows b_law_bench_shows .nil nN tkC (ga_cons (g_var (pv 0)) (ga_cons (g_var (pv 1)) ga_nil)))))))))), rwD N_law_undone h⟩
theorem ok_law_undone : OkW P w (cx K) mg base 13 (He.ga K "_law_undone") ["_law_built", "_law_model"] wp_law_undone (0) (d_law_undone.dvs K) := okW_of (c := cx K) T.f_law_undone (okF_law_undone T TB) fun F => F.bindsN fun _ _ _ _ _ _ us hl => match us, hl with | [_, _], _ => rfl
theorem okF_law_turn {fd : FuncData} (F : FunD K "_law_turn" "_law_turn" (defArgs (topS 45)) (defBody (topS 45)) (defScope (topS 45)) (d_law_turn.dvs K) [] (He.ga K "_law_turn") fd) : FnW P w K mg base 5 (He.ga K "_law_turn") fd ["_law_state", "_law_great"] (SpW (cx K) wp_law_turn (2 ^ 66)) := by
  obtain ⟨_, G_law_number, b_law_number, k_law_number, _, v_law_number, c_law_number⟩ := ok_law_number (P := P) (w := w) T TB
  obtain ⟨_, G_law_pick, b_law_pick, k_law_pick, _, v_law_pick, c_law_pick⟩ := ok_law_pick (P := P) (w := w) T TB
  obtain ⟨_, G_law_take, b_law_take, k_law_take, _, v_law_take, c_law_take⟩ := ok_law_take (P := P) (w := w) T TB
  have nd := sc_law_turn.nd
  refine fnW_of F sc_law_turn (fun vs H Q E h => SpW.len rfl (SpW.drop h)) (fun A outer s H vs Q E gd hr h => ?_)
  exact ⟨_, gsL (E := E) (kb := 2 ^ 66) (gs_cons (g_set (i := 2) nd rfl oR (g_call G_law_pick gd (hr.mono (by decide)) rfl T.g__law_pick k_law_pick b_law_pick .nil nN tkC (ga_cons (g_var (pv 0)) (ga_cons (g_lst (ga_cons (g_lst (ga_cons (g_lst (ga_cons g_int (ga_cons g_int ga_nil))) (ga_cons (g_lst (ga_cons g_int (ga_cons g_int ga_nil))) ga_nil))) (ga_cons (g_lst (ga_cons (g_lst (ga_cons g_int (ga_cons (g_un w_neg g_int) ga_nil))) (ga_cons (g_lst (ga_cons g_int (ga_cons g_int ga_nil))) ga_nil))) (ga_cons (g_lst (ga_cons (g_lst (ga_cons g_int (ga_cons g_int ga_nil))) (ga_cons (g_lst (ga_cons g_int (ga_cons g_int ga_nil))) ga_nil))) (ga_cons (g_lst (ga_cons (g_lst (ga_cons (g_un w_neg g_int) (ga_cons g_int ga_nil))) (ga_cons (g_lst (ga_cons g_int (ga_cons g_int ga_nil))) ga_nil))) ga_nil))))) ga_nil))))
      (gs_cons (g_for (passes_of rfl) (gi_rng1 (by rfl) T.n_range (ga_cons (g_call G_law_take gd (hr.mono (by decide)) rfl T.g__law_take k_law_take b_law_take .nil nN tkC (ga_cons (g_var (pv 0)) (ga_cons g_int ga_nil))) ga_nil)) (gg_name (i := 3) nd rfl oR) (gs_cons (g_parN (hp := ps_par (i := 4) (j := 5) rfl nd rfl rfl (by decide) rfl rfl (ga_cons (g_call G_law_number gd (hr.mono (by decide)) rfl T.g__law_number k_law_number b_law_number .nil nN tkC (ga_cons (g_var (pv 0)) (ga_cons (g_var (pv 1)) ga_nil))) (ga_cons (g_call G_law_take gd (hr.mono (by decide)) rfl T.g__law_take k_law_take b_law_take .nil nN tkC (ga_cons (g_var (pv 0)) (ga_cons g_int ga_nil))) ga_nil)) rfl))
      (gs_cons (g_set (i := 6) nd rfl oR (g_ix (g_var (pv 2)) (g_op w_sub g_int (g_var (pv 5)))))
      (gs_one (g_setL (g_lst (ga_cons (g_op w_add (g_ix (g_ix (g_var (pv 2)) (g_var (pv 5))) g_int) (g_op w_mul (g_var (pv 4)) (g_ix (g_var (pv 6)) g_int))) (ga_cons (g_op w_add (g_ix (g_ix (g_var (pv 2)) (g_var (pv 5))) g_int) (g_op w_mul (g_var (pv 4)) (g_ix (g_var (pv 6)) g_int))) ga_nil))) (g_var (pv 2)) (g_var (pv 5)))))))
      (gs_one (g_fz 2 (g_ret (g_tup (ga_cons g_str (ga_cons (g_ix (g_ix (g_var (pv 2)) g_int) g_int) (ga_cons (g_ix (g_ix (g_var (pv 2)) g_int) g_int) (ga_cons (g_ix (g_ix (g_var (pv 2)) g_int) g_int) (ga_cons (g_ix (g_ix (g_var (pv 2)) g_int) g_int) ga_nil))))))))))), rwD N_law_turn (SpW.drop h)⟩
theorem ok_law_turn : OkW P w (cx K) mg base 5 (He.ga K "_law_turn") ["_law_state", "_law_great"] wp_law_turn (2 ^ 66) (d_law_turn.dvs K) := okW_of (c := cx K) T.f_law_turn (okF_law_turn T TB) fun F => F.bindsN fun _ _ _ _ _ _ us hl => match us, hl with | [_, _], _ => rfl
theorem okF_law_trimmed {fd : FuncData} (F : FunD K "_law_trimmed" "_law_trimmed" (defArgs (topS 40)) (defBody (topS 40)) (defScope (topS 40)) (d_law_trimmed.dvs K) [] (He.ga K "_law_trimmed") fd) : FnW P w K mg base 1 (He.ga K "_law_trimmed") fd ["_law_row"] (SpW (cx K) wp_law_trimmed (0)) := by
  have nd := sc_law_trimmed.nd
  refine fnD F sc_law_trimmed fun A outer s H vs Q E gd hr h => ?_
  exact ⟨_, gsL (E := E) (kb := 0) (gs_cons (g_set (i := 1) nd rfl oR (g_cty w_list (by rfl) T.n_list (by decide +kernel) (ga_cons (g_var (pv 0)) ga_nil)))
      (gs_cons (g_while (passes_of rfl) (g_pt (g_wand (g_tcmp (w_ne hr.units) (g_var (pv 1)) (g_lst ga_nil) (nomark _)) (g_wand1 (g_tcmp (w_eq hr.units) (g_ix (g_var (pv 1)) (g_un w_neg g_int)) g_int (nomark _))))) (gs_one (g_drop (g_lm0 mw_pop (fun r h => pe_bm0 PySem.F.plainAttrs_list PySem.F.slot_list_pop PySem.F.type_list_pop h (g_var (pv 1)))))))
      (gs_one (g_fz 1 (g_ret (g_var (pv 1))))))), rwD N_law_trimmed h⟩
theorem ok_law_trimmed : OkW P w (cx K) mg base 1 (He.ga K "_law_trimmed") ["_law_row"] wp_law_trimmed (0) (d_law_trimmed.dvs K) := okW_of (c := cx K) T.f_law_trimmed (okF_law_trimmed T TB) fun F => F.bindsN fun _ _ _ _ _ _ us hl => match us, hl with | [_], _ => rfl
theorem okF_law_rule {fd : FuncData} (F : FunD K "_law_rule" "_law_rule" (defArgs (topS 41)) (defBody (topS 41)) (defScope (topS 41)) (d_law_rule.dvs K) [] (He.ga K "_law_rule") fd) : FnW P w K mg base 5 (He.ga K "_law_rule") fd ["_law_state", "_law_most", "_law_great"] (SpW (cx K) wp_law_rule (2 ^ 27)) := by
  obtain ⟨_, G_law_number, b_law_number, k_law_number, _, v_law_number, c_law_number⟩ := ok_law_number (P := P) (w := w) T TB
  obtain ⟨_, G_law_take, b_law_take, k_law_take, _, v_law_take, c_law_take⟩ := ok_law_take (P := P) (w := w) T TB
  obtain ⟨_, G_law_trimmed, b_law_trimmed, k_law_trimmed, _, v_law_trimmed, c_law_trimmed⟩ := ok_law_trimmed (P := P) (w := w) T TB
  have nd := sc_law_rule.nd
  refine fnD F sc_law_rule fun A outer s H vs Q E gd hr h => ?_
  exact ⟨_, gsL (E := E) (kb := 2 ^ 27) (gs_one (g_ret (g_call G_law_trimmed gd (hr.mono (by decide)) rfl T.g__law_trimmed k_law_trimmed b_law_trimmed .nil nN tkC (ga_cons (g_lc (own := [("_law_place", 3)]) nd (gi_rng1 (by rfl) T.n_range (ga_cons (g_call G_law_take gd (hr.mono (by decide)) rfl T.g__law_take k_law_take b_law_take .nil nN tkC (ga_cons (g_var (pv 0)) (ga_cons (g_op w_add (g_var (pv 1)) g_int) ga_nil))) ga_nil)) (blkOk_by (own := [("_law_place", 3)]) (N := N_law_rule) (sc := defScope (topS 41)) (by decide +kernel)) (fun _ _ _ _ _ => (gg_name (i := 3) nd rfl oR)) (fun _ _ _ _ _ => gt_yes) (fun _ _ _ _ _ => (g_call G_law_number gd (hr.mono (by decide)) rfl T.g__law_number k_law_number b_law_number .nil nN LamX.takes0 (ga_cons (g_var (pv 0)) (ga_cons (g_var (pv 2)) ga_nil))))) ga_nil)))), rwD N_law_rule h⟩
theorem ok_law_rule : OkW P w (cx K) mg base 5 (He.ga K "_law_rule") ["_law_state", "_law_most", "_law_great"] wp_law_rule (2 ^ 27) (d_law_rule.dvs K) := okW_of (c := cx K) T.f_law_rule (okF_law_rule T TB) fun F => F.bindsN fun _ _ _ _ _ _ us hl => match us, hl with | [_, _, _], _ => rfl
theorem okF_law_step {fd : FuncData} (F : FunD K "_law_step" "_law_step" (defArgs (topS 46)) (defBody (topS 46)) (defScope (topS 46)) (d_law_step.dvs K) [] (He.ga K "_law_step") fd) : FnW P w K mg base 6 (He.ga K "_law_step") fd ["_law_state", "_law_room", "_law_great"] (SpW (cx K) wp_law_step (2 ^ 67)) := by
  obtain ⟨_, G_law_number, b_law_number, k_law_number, _, v_law_number, c_law_number⟩ := ok_law_number (P := P) (w := w) T TB
  obtain ⟨_, G_law_pick, b_law_pick, k_law_pick, _, v_law_pick, c_law_pick⟩ := ok_law_pick (P := P) (w := w) T TB
  obtain ⟨_, G_law_rule, b_law_rule, k_law_rule, _, v_law_rule, c_law_rule⟩ := ok_law_rule (P := P) (w := w) T TB
  obtain ⟨_, G_law_turn, b_law_turn, k_law_turn, _, v_law_turn, c_law_turn⟩ := ok_law_turn (P := P) (w := w) T TB
  have nd := sc_law_step.nd
  refine fnD F sc_law_step fun A outer s H vs Q E gd hr h => ?_
  exact ⟨_, gsL (E := E) (kb := 2 ^ 67) (gs_cons (g_set (i := 3) nd rfl oR (g_call G_law_pick gd (hr.mono (by decide)) rfl T.g__law_pick k_law_pick b_law_pick .nil nN tkC (ga_cons (g_var (pv 0)) (ga_cons (g_lst (ga_cons g_str (ga_cons g_str (ga_cons g_str (ga_cons g_str (ga_cons g_str (ga_cons g_str ga_nil))))))) ga_nil))))
      (gs_cons (g_ifS (g_tcmp (w_eq hr.units) (g_var (pv 3)) g_str (nomark _)) (gs_one (g_ret (g_call G_law_turn gd (hr.mono (by decide)) rfl T.g__law_turn k_law_turn b_law_turn .nil nN tkC (ga_cons (g_var (pv 0)) (ga_cons (g_cb w_min2 (by rfl) T.n_min (by decide +kernel) (ga_cons (g_var (pv 2)) (ga_cons g_int ga_nil))) ga_nil))))) gs_nil)
      (gs_cons (g_ifS (g_tcmp (w_eq hr.units) (g_var (pv 3)) g_str (nomark _)) (gs_one (g_ret (g_tup (ga_cons (g_var (pv 3)) (ga_cons (g_call G_law_number gd (hr.mono (by decide)) rfl T.g__law_number k_law_number b_law_number .nil nN tkC (ga_cons (g_var (pv 0)) (ga_cons (g_var (pv 2)) ga_nil))) (ga_cons (g_call G_law_number gd (hr.mono (by decide)) rfl T.g__law_number k_law_number b_law_number .nil nN tkC (ga_cons (g_var (pv 0)) (ga_cons (g_var (pv 2)) ga_nil))) ga_nil)))))) gs_nil)
      (gs_one (g_ret (g_tup (ga_cons (g_var (pv 3)) (ga_cons (g_call G_law_rule gd (hr.mono (by decide)) rfl T.g__law_rule k_law_rule b_law_rule .nil nN tkC (ga_cons (g_var (pv 0)) (ga_cons (g_cb w_min2 (by rfl) T.n_min (by decide +kernel) (ga_cons g_int (ga_cons (g_var (pv 1)) ga_nil))) (ga_cons (g_var (pv 2)) ga_nil)))) ga_nil)))))))), rwD N_law_step h⟩
theorem ok_law_step : OkW P w (cx K) mg base 6 (He.ga K "_law_step") ["_law_state", "_law_room", "_law_great"] wp_law_step (2 ^ 67) (d_law_step.dvs K) := okW_of (c := cx K) T.f_law_step (okF_law_step T TB) fun F => F.bindsN fun _ _ _ _ _ _ us hl => match us, hl with | [_, _, _], _ => rfl
theorem okF_law_bench_step {fd : FuncData} (F : FunD K "_law_bench_step" "_law_bench_step" (defArgs (topS 32)) (defBody (topS 32)) (defScope (topS 32)) (d_law_bench_step.dvs K) [] (He.ga K "_law_bench_step") fd) : FnW P w K mg base 7 (He.ga K "_law_bench_step") fd ["_law_state", "_law_model"] (SpW (cx K) wp_law_bench_step (2 ^ 68)) := by
  obtain ⟨_, G_law_is_low, b_law_is_low, k_law_is_low, _, v_law_is_low, c_law_is_low⟩ := ok_law_is_low (P := P) (w := w) T TB
  obtain ⟨_, G_law_pick, b_law_pick, k_law_pick, _, v_law_pick, c_law_pick⟩ := ok_law_pick (P := P) (w := w) T TB
  obtain ⟨_, G_law_step, b_law_step, k_law_step, _, v_law_step, c_law_step⟩ := ok_law_step (P := P) (w := w) T TB
  have nd := sc_law_bench_step.nd
  refine fnD F sc_law_bench_step fun A outer s H vs Q E gd hr h => ?_
  exact ⟨_, gsL (E := E) (kb := 2 ^ 68) (gs_cons (g_set (i := 2) nd rfl oR (g_call G_law_step gd (hr.mono (by decide)) rfl T.g__law_step k_law_step b_law_step .nil nN tkC (ga_cons (g_var (pv 0)) (ga_cons (g_dget (units1 hr.units) (g_var (pv 1))) (ga_cons (g_call G_law_pick gd (hr.mono (by decide)) rfl T.g__law_pick k_law_pick b_law_pick .nil nN tkC (ga_cons (g_var (pv 0)) (ga_cons (g_lst (ga_cons g_int (ga_cons (g_op w_pow g_int g_int) ga_nil))) ga_nil))) ga_nil)))))
      (gs_cons (g_ifS (g_tval (g_call G_law_is_low gd (hr.mono (by decide)) rfl T.g__law_is_low k_law_is_low b_law_is_low .nil nN tkC (ga_cons (g_var (pv 2)) ga_nil))) (gs_one (g_dput (units1 hr.units) (g_var (pv 1)) (g_op w_fdiv (g_dget (units1 hr.units) (g_var (pv 1))) (g_cb w_max2 (by rfl) T.n_max (by decide +kernel) (ga_cons g_int (ga_cons (g_op w_sub (g_cb w_len (by rfl) T.n_len PySem.boot_len (ga_cons (g_ix (g_var (pv 2)) g_int) ga_nil)) g_int) ga_nil)))))) gs_nil)
      (gs_one (g_ret (g_var (pv 2)))))), rwD N_law_bench_step h⟩
theorem ok_law_bench_step : OkW P w (cx K) mg base 7 (He.ga K "_law_bench_step") ["_law_state", "_law_model"] wp_law_bench_step (2 ^ 68) (d_law_bench_step.dvs K) := okW_of (c := cx K) T.f_law_bench_step (okF_law_bench_step T TB) fun F => F.bindsN fun _ _ _ _ _ _ us hl => match us, hl with | [_, _], _ => rfl
theorem okF_law_rule_at {fd : FuncData} (F : FunD K "_law_rule_at" "_law_rule_at" (defArgs (topS 42)) (defBody (topS 42)) (defScope (topS 42)) (d_law_rule_at.dvs K) [] (He.ga K "_law_rule_at") fd) : FnW P w K mg base 1 (He.ga K "_law_rule_at") fd ["_law_row", "_law_t"] (SpW (cx K) wp_law_rule_at (0)) := by
  have nd := sc_law_rule_at.nd
  refine fnD F sc_law_rule_at fun A outer s H vs Q E gd hr h => ?_
  exact ⟨_, gsL (E := E) (kb := 0) (gs_cons (g_set (i := 2) nd rfl oR g_int)
      (gs_cons (g_for (passes_of rfl) (gi_seq (g_rev (g_var (pv 0)))) (gg_name (i := 3) nd rfl oR) (gs_one (g_set (i := 2) nd rfl oR (g_op w_add (g_op w_mul (g_var (pv 2)) (g_var (pv 1))) (g_var (pv 3))))))
      (gs_one (g_ret (g_var (pv 2)))))), rwD N_law_rule_at h⟩
theorem ok_law_rule_at : OkW P w (cx K) mg base 1 (He.ga K "_law_rule_at") ["_law_row", "_law_t"] wp_law_rule_at (0) (d_law_rule_at.dvs K) := okW_of (c := cx K) T.f_law_rule_at (okF_law_rule_at T TB) fun F => F.bindsN fun _ _ _ _ _ _ us hl => match us, hl with | [_, _], _ => rfl
theorem okF_law_step_done {fd : FuncData} (F : FunD K "_law_step_done" "_law_step_done" (defArgs (topS 44)) (defBody (topS 44)) (defScope (topS 44)) (d_law_step_done.dvs K) [] (He.ga K "_law_step_done") fd) : FnW P w K mg base 2 (He.ga K "_law_step_done") fd ["_law_step_here", "_law_x", "_law_y"] (SpW (cx K) wp_law_step_done (0)) := by
  obtain ⟨_, G_law_is_low, b_law_is_low, k_law_is_low, _, v_law_is_low, c_law_is_low⟩ := ok_law_is_low (P := P) (w := w) T TB
  obtain ⟨_, G_law_rule_at, b_law_rule_at, k_law_rule_at, _, v_law_rule_at, c_law_rule_at⟩ := ok_law_rule_at (P := P) (w := w) T TB
  have nd := sc_law_step_done.nd
  refine fnD F sc_law_step_done fun A outer s H vs Q E gd hr h => ?_
  exact ⟨_, gsL (E := E) (kb := 0) (gs_cons (g_ifS (g_tval (g_call G_law_is_low gd (hr.mono (by decide)) rfl T.g__law_is_low k_law_is_low b_law_is_low .nil nN tkC (ga_cons (g_var (pv 0)) ga_nil))) (gs_one (g_ret (g_if (g_tcmp (w_eq hr.units) (g_ix (g_var (pv 0)) g_int) g_str (nomark _)) (g_tup (ga_cons (g_op w_add (g_var (pv 1)) (g_call G_law_rule_at gd (hr.mono (by decide)) rfl T.g__law_rule_at k_law_rule_at b_law_rule_at .nil nN tkC (ga_cons (g_ix (g_var (pv 0)) g_int) (ga_cons (g_var (pv 2)) ga_nil)))) (ga_cons (g_var (pv 2)) ga_nil))) (g_tup (ga_cons (g_var (pv 1)) (ga_cons (g_op w_add (g_var (pv 2)) (g_call G_law_rule_at gd (hr.mono (by decide)) rfl T.g__law_rule_at k_law_rule_at b_law_rule_at .nil nN tkC (ga_cons (g_ix (g_var (pv 0)) g_int) (ga_cons (g_var (pv 1)) ga_nil)))) ga_nil)))))) gs_nil)
      (gs_cons (g_ifS (g_tcmp (w_eq hr.units) (g_ix (g_var (pv 0)) g_int) g_str (nomark _)) (gs_one (g_ret (g_tup (ga_cons (g_op w_add (g_var (pv 1)) (g_ix (g_var (pv 0)) g_int)) (ga_cons (g_op w_add (g_var (pv 2)) (g_ix (g_var (pv 0)) g_int)) ga_nil))))) gs_nil)
      (gs_one (g_ret (g_tup (ga_cons (g_op w_add (g_op w_mul (g_ix (g_var (pv 0)) g_int) (g_var (pv 1))) (g_op w_mul (g_ix (g_var (pv 0)) g_int) (g_var (pv 2)))) (ga_cons (g_op w_add (g_op w_mul (g_ix (g_var (pv 0)) g_int) (g_var (pv 1))) (g_op w_mul (g_ix (g_var (pv 0)) g_int) (g_var (pv 2)))) ga_nil))))))), rwD N_law_step_done h⟩
theorem ok_law_step_done : OkW P w (cx K) mg base 2 (He.ga K "_law_step_done") ["_law_step_here", "_law_x", "_law_y"] wp_law_step_done (0) (d_law_step_done.dvs K) := okW_of (c := cx K) T.f_law_step_done (okF_law_step_done T TB) fun F => F.bindsN fun _ _ _ _ _ _ us hl => match us, hl with | [_, _, _], _ => rfl
theorem okF_is_step {fd : FuncData} (F : FunD K "is_step" "is_step" (defArgs (topS 21)) (defBody (topS 21)) (defScope (topS 21)) (d_is_step.dvs K) [] (He.ga K "is_step") fd) : FnW P w K mg base 2 (He.ga K "is_step") fd ["thing"] (SpW (cx K) wp_is_step (0)) := by
  obtain ⟨_, G_is_number, b_is_number, k_is_number, _, v_is_number, c_is_number⟩ := ok_is_number (P := P) (w := w) T TB
  have nd := sc_is_step.nd
  refine fnD F sc_is_step fun A outer s H vs Q E gd hr h => ?_
  exact ⟨_, gsL (E := E) (kb := 0) (gs_cons (g_ifS (g_pt (g_wor (g_tnot (g_tval (g_cb (w_isi T.ctx) (by rfl) T.n_isinstance (by decide +kernel) (ga_cons (g_var (pv 0)) (ga_cons (g_ty (pe_bltn (by rfl) T.n_tuple (by decide +kernel) rfl)) ga_nil))))) (g_wor (g_tcmp (w_eq hr.units) (g_cb w_len (by rfl) T.n_len PySem.boot_len (ga_cons (g_var (pv 0)) ga_nil)) g_int (nomark _)) (g_wor1 (g_tnot (g_tval (g_cb (w_isi T.ctx) (by rfl) T.n_isinstance (by decide +kernel) (ga_cons (g_ix (g_var (pv 0)) g_int) (ga_cons (g_ty (pe_bltn (by rfl) T.n_str (by decide +kernel) rfl)) ga_nil))))))))) (gs_one (g_ret g_bl)) gs_nil)
      (gs_cons (g_ifS (g_tcmp w_in (g_ix (g_var (pv 0)) g_int) (g_tup (ga_cons g_str (ga_cons g_str ga_nil))) (by rfl)) (gs_one (g_ret (g_and (g_cmp (w_eq hr.units) (g_cb w_len (by rfl) T.n_len PySem.boot_len (ga_cons (g_var (pv 0)) ga_nil)) g_int (nomark _)) (g_one (g_cb (w_isi T.ctx) (by rfl) T.n_isinstance (by decide +kernel) (ga_cons (g_ix (g_var (pv 0)) g_int) (ga_cons (g_cls (pe_glob rfl T.g_Rule rfl) i_Rule) ga_nil))))))) gs_nil)
      (gs_cons (g_ifS (g_tnot (g_tval (g_cb w_all (by rfl) T.n_all (by decide +kernel) (ga_cons (g_lc (own := [("number", 1)]) nd (gi_seq (g_sl w_sl (g_var (pv 0)) (go_some g_int) go_none)) (blkOk_by (own := [("number", 1)]) (N := N_is_step) (sc := defScope (topS 21)) (by decide +kernel)) (fun _ _ _ _ _ => (gg_name (i := 1) nd rfl oR)) (fun _ _ _ _ _ => gt_yes) (fun _ _ _ _ _ => (g_call G_is_number gd (hr.mono (by decide)) rfl T.g_is_number k_is_number b_is_number .nil nN LamX.takes0 (ga_cons (g_var (pv 1)) ga_nil)))) ga_nil)))) (gs_one (g_ret g_bl)) gs_nil)
      (gs_cons (g_ifS (g_tcmp (w_eq hr.units) (g_ix (g_var (pv 0)) g_int) g_str (nomark _)) (gs_one (g_ret (g_cmp (w_eq hr.units) (g_cb w_len (by rfl) T.n_len PySem.boot_len (ga_cons (g_var (pv 0)) ga_nil)) g_int (nomark _)))) gs_nil)
      (gs_cons (g_ifS (g_pt (g_wor (g_tcmp (w_ne hr.units) (g_ix (g_var (pv 0)) g_int) g_str (nomark _)) (g_wor1 (g_tcmp (w_ne hr.units) (g_cb w_len (by rfl) T.n_len PySem.boot_len (ga_cons (g_var (pv 0)) ga_nil)) g_int (nomark _))))) (gs_one (g_ret g_bl)) gs_nil)
      (gs_one (g_ret (g_cmp w_in (g_op w_sub (g_op w_mul (g_ix (g_var (pv 0)) g_int) (g_ix (g_var (pv 0)) g_int)) (g_op w_mul (g_ix (g_var (pv 0)) g_int) (g_ix (g_var (pv 0)) g_int))) (g_tup (ga_cons g_int (ga_cons (g_un w_neg g_int) ga_nil))) (by rfl))))))))), rwD N_is_step h⟩
theorem ok_is_step : OkW P w (cx K) mg base 2 (He.ga K "is_step") ["thing"] wp_is_step (0) (d_is_step.dvs K) := okW_of (c := cx K) T.f_is_step (okF_is_step T TB) fun F => F.bindsN fun _ _ _ _ _ _ us hl => match us, hl with | [_], _ => rfl
theorem okF_Program___init__ {fd : FuncData} (F : FunD K "__init__" "Program.__init__" (defArgs (inClass (topS 24) 0)) (defBody (inClass (topS 24) 0)) (defScope (inClass (topS 24) 0)) (d_Program___init__.dvs K) [] (He.ma K (He.ga K "Program") "__init__") fd) : FnW P w K mg base 3 (He.ma K (He.ga K "Program") "__init__") fd ["self", "steps"] (SpW (cx K) wp_Program___init__ (0)) := by
  obtain ⟨_, G_is_list, b_is_list, k_is_list, _, v_is_list, c_is_list⟩ := ok_is_list (P := P) (w := w) T TB
  obtain ⟨_, G_is_step, b_is_step, k_is_step, _, v_is_step, c_is_step⟩ := ok_is_step (P := P) (w := w) T TB
  obtain ⟨_, GE_BadProgram, bE_BadProgram⟩ := ok_BadProgram___init__ (P := P) (w := w) (base := base) T
  have nd := sc_Program___init__.nd
  refine fnD F sc_Program___init__ fun A outer s H vs Q E gd hr h => ?_
  exact ⟨_, gsL (E := E) (kb := 0) (gs_cons (g_ifS (g_tnot (g_tval (g_call G_is_list gd (hr.mono (by decide)) rfl T.g_is_list k_is_list b_is_list .nil nN tkC (ga_cons (g_var (pv 1)) ga_nil)))) (gs_one (g_rzA (n := "BadProgram") rfl tkC T.er_BadProgram.t T.er_BadProgram.ini T.er_BadProgram.fn T.er_BadProgram.nof GE_BadProgram (hr.mono (by decide)) bE_BadProgram rfl T.g_BadProgram g_non e_BadProgram)) gs_nil)
      (gs_cons (g_for (passes_of rfl) (gi_enum (by rfl) T.n_enumerate (ga_cons (g_var (pv 1)) ga_nil)) (gg_tup (ggs_cons (gg_name (i := 2) nd rfl oR) (ggs_cons (gg_name (i := 3) nd rfl oR) ggs_nil))) (gs_one (g_ifS (g_tnot (g_tval (g_call G_is_step gd (hr.mono (by decide)) rfl T.g_is_step k_is_step b_is_step .nil nN tkC (ga_cons (g_var (pv 3)) ga_nil)))) (gs_one (g_rzA (n := "BadProgram") rfl tkC T.er_BadProgram.t T.er_BadProgram.ini T.er_BadProgram.fn T.er_BadProgram.nof GE_BadProgram (hr.mono (by decide)) bE_BadProgram rfl T.g_BadProgram (g_var (pv 2)) e_BadProgram)) gs_nil)))
      (gs_one (g_setF (n := "Program") (g_var (pv 0)) (g_cty w_tuple (by rfl) T.n_tuple (by decide +kernel) (ga_cons (g_var (pv 1)) ga_nil)) T.cl_Program T.na_Program_own_steps)))), rwD N_Program___init__ h⟩
theorem ok_Program___init__ : OkW P w (cx K) mg base 3 (He.ma K (He.ga K "Program") "__init__") ["self", "steps"] wp_Program___init__ (0) (d_Program___init__.dvs K) := by
  obtain ⟨fd, F⟩ := T.f_Program___init__
  have hb : Binds K fd ["self", "steps"] [] := by
    obtain ⟨ds, r, b⟩ := FunD.binds1 (ps := ["self", "steps"]) F 2 1 (by intro z; cases z) rfl fun _ _ _ _ _ _ _ us its hl hi => match us, its, hl, hi with | [_, _], [_], _, _ => ⟨_, rfl, rfl⟩
    cases r
    exact b
  have hc : ∃ ds, Vals (d_Program___init__.dvs K) ds ∧ Binds K fd ["self", "steps"] ds := by
    obtain ⟨ds, r, b⟩ := FunD.binds1 (ps := ["self", "steps"]) F 1 0 (by intro z; cases z) rfl fun _ _ _ _ _ _ _ us its hl hi => match us, its, hl, hi with | [_], [_], _, _ => ⟨_, rfl, rfl⟩
    exact ⟨ds, r, b⟩
  exact ⟨fd, okF_Program___init__ T TB F, hb, F.kp, hc⟩
theorem okF_row_value {fd : FuncData} (F : FunD K "row_value" "row_value" (defArgs (topS 15)) (defBody (topS 15)) (defScope (topS 15)) (d_row_value.dvs K) [] (He.ga K "row_value") fd) : FnW P w K mg base 1 (He.ga K "row_value") fd ["numbers", "t"] (SpW (cx K) wp_row_value (0)) := by
  have nd := sc_row_value.nd
  refine fnD F sc_row_value fun A outer s H vs Q E gd hr h => ?_
  exact ⟨_, gsL (E := E) (kb := 0) (gs_cons (g_set (i := 2) nd rfl oR g_int)
      (gs_cons (g_for (passes_of rfl) (gi_seq (g_rev (g_var (pv 0)))) (gg_name (i := 3) nd rfl oR) (gs_one (g_set (i := 2) nd rfl oR (g_op w_add (g_op w_mul (g_var (pv 2)) (g_var (pv 1))) (g_var (pv 3))))))
      (gs_one (g_ret (g_var (pv 2)))))), rwD N_row_value h⟩
theorem ok_row_value : OkW P w (cx K) mg base 1 (He.ga K "row_value") ["numbers", "t"] wp_row_value (0) (d_row_value.dvs K) := okW_of (c := cx K) T.f_row_value (okF_row_value T TB) fun F => F.bindsN fun _ _ _ _ _ _ us hl => match us, hl with | [_, _], _ => rfl
theorem okF_done {fd : FuncData} (F : FunD K "done" "done" (defArgs (topS 22)) (defBody (topS 22)) (defScope (topS 22)) (d_done.dvs K) [] (He.ga K "done") fd) : FnW P w K mg base 2 (He.ga K "done") fd ["step", "x", "y"] (SpW (cx K) wp_done (0)) := by
  obtain ⟨_, G_row_value, b_row_value, k_row_value, _, v_row_value, c_row_value⟩ := ok_row_value (P := P) (w := w) T TB
  have nd := sc_done.nd
  refine fnD F sc_done fun A outer s H vs Q E gd hr h => ?_
  exact ⟨_, gsL (E := E) (kb := 0) (gs_cons (g_ifS (g_tcmp (w_eq hr.units) (g_ix (g_var (pv 0)) g_int) g_str (nomark _)) (gs_one (g_ret (g_tup (ga_cons (g_op w_add (g_var (pv 1)) (g_call G_row_value gd (hr.mono (by decide)) rfl T.g_row_value k_row_value b_row_value .nil nN tkC (ga_cons (g_fld (n := "Rule") (g_ix (g_var (pv 0)) g_int) T.cl_Rule T.na_Rule_own_numbers) (ga_cons (g_var (pv 2)) ga_nil)))) (ga_cons (g_var (pv 2)) ga_nil))))) gs_nil)
      (gs_cons (g_ifS (g_tcmp (w_eq hr.units) (g_ix (g_var (pv 0)) g_int) g_str (nomark _)) (gs_one (g_ret (g_tup (ga_cons (g_var (pv 1)) (ga_cons (g_op w_add (g_var (pv 2)) (g_call G_row_value gd (hr.mono (by decide)) rfl T.g_row_value k_row_value b_row_value .nil nN tkC (ga_cons (g_fld (n := "Rule") (g_ix (g_var (pv 0)) g_int) T.cl_Rule T.na_Rule_own_numbers) (ga_cons (g_var (pv 1)) ga_nil)))) ga_nil))))) gs_nil)
      (gs_cons (g_ifS (g_tcmp (w_eq hr.units) (g_ix (g_var (pv 0)) g_int) g_str (nomark _)) (gs_one (g_ret (g_tup (ga_cons (g_op w_add (g_var (pv 1)) (g_ix (g_var (pv 0)) g_int)) (ga_cons (g_op w_add (g_var (pv 2)) (g_ix (g_var (pv 0)) g_int)) ga_nil))))) gs_nil)
      (gs_one (g_ret (g_tup (ga_cons (g_op w_add (g_op w_mul (g_ix (g_var (pv 0)) g_int) (g_var (pv 1))) (g_op w_mul (g_ix (g_var (pv 0)) g_int) (g_var (pv 2)))) (ga_cons (g_op w_add (g_op w_mul (g_ix (g_var (pv 0)) g_int) (g_var (pv 1))) (g_op w_mul (g_ix (g_var (pv 0)) g_int) (g_var (pv 2)))) ga_nil)))))))), rwD N_done h⟩
theorem ok_done : OkW P w (cx K) mg base 2 (He.ga K "done") ["step", "x", "y"] wp_done (0) (d_done.dvs K) := okW_of (c := cx K) T.f_done (okF_done T TB) fun F => F.bindsN fun _ _ _ _ _ _ us hl => match us, hl with | [_, _, _], _ => rfl
theorem okF_Program___call__ {fd : FuncData} (F : FunD K "__call__" "Program.__call__" (defArgs (inClass (topS 24) 3)) (defBody (inClass (topS 24) 3)) (defScope (inClass (topS 24) 3)) (d_Program___call__.dvs K) [] (He.ma K (He.ga K "Program") "__call__") fd) : FnW P w K mg base 3 (He.ma K (He.ga K "Program") "__call__") fd ["self", "x", "y"] (SpW (cx K) wp_Program___call__ (0)) := by
  obtain ⟨_, G_done, b_done, k_done, _, v_done, c_done⟩ := ok_done (P := P) (w := w) T TB
  obtain ⟨_, G_need_point, b_need_point, k_need_point, _, v_need_point, c_need_point⟩ := ok_need_point (P := P) (w := w) T TB
  have nd := sc_Program___call__.nd
  refine fnD F sc_Program___call__ fun A outer s H vs Q E gd hr h => ?_
  exact ⟨_, gsL (E := E) (kb := 0) (gs_cons (g_drop (g_call G_need_point gd (hr.mono (by decide)) rfl T.g_need_point k_need_point b_need_point .nil nN tkC (ga_cons (g_var (pv 1)) (ga_cons (g_var (pv 2)) ga_nil))))
      (gs_cons (g_for (passes_of rfl) (gi_seq (g_fld (n := "Program") (g_var (pv 0)) T.cl_Program T.na_Program_own_steps)) (gg_name (i := 3) nd rfl oR) (gs_one (g_asg (g_call G_done gd (hr.mono (by decide)) rfl T.g_done k_done b_done .nil nN tkC (ga_cons (g_var (pv 3)) (ga_cons (g_var (pv 1)) (ga_cons (g_var (pv 2)) ga_nil)))) (gg_tup (ggs_cons (gg_name (i := 1) nd rfl oR) (ggs_cons (gg_name (i := 2) nd rfl oR) ggs_nil))))))
      (gs_one (g_ret (g_tup (ga_cons (g_var (pv 1)) (ga_cons (g_var (pv 2)) ga_nil))))))), rwD N_Program___call__ h⟩
theorem ok_Program___call__ : OkW P w (cx K) mg base 3 (He.ma K (He.ga K "Program") "__call__") ["self", "x", "y"] wp_Program___call__ (0) (d_Program___call__.dvs K) := okW_of (c := cx K) T.f_Program___call__ (okF_Program___call__ T TB) fun F => F.bindsN fun _ _ _ _ _ _ us hl => match us, hl with | [_, _, _], _ => rfl
theorem okF_Bench_do {fd : FuncData} (F : FunD K "do" "Bench.do" (defArgs (inClass (topS 27) 4)) (defBody (inClass (topS 27) 4)) (defScope (inClass (topS 27) 4)) (d_Bench_do.dvs K) [] (He.ma K (He.ga K "Bench") "do") fd) : FnW P w K mg base 5 (He.ma K (He.ga K "Bench") "do") fd ["self", "step"] (SpW (cx K) wp_Bench_do (0)) := by
  obtain ⟨_, G_Bench_point, b_Bench_point, k_Bench_point, _, v_Bench_point, c_Bench_point⟩ := ok_Bench_point (P := P) (w := w) T TB
  obtain ⟨_, G_Program___call__, b_Program___call__, k_Program___call__, _, v_Program___call__, c_Program___call__⟩ := ok_Program___call__ (P := P) (w := w) T TB
  obtain ⟨_, G_Program___init__, b_Program___init__, k_Program___init__, _, v_Program___init__, c_Program___init__⟩ := ok_Program___init__ (P := P) (w := w) T TB
  obtain ⟨_, G_is_step, b_is_step, k_is_step, _, v_is_step, c_is_step⟩ := ok_is_step (P := P) (w := w) T TB
  obtain ⟨_, GE_BadDeed, bE_BadDeed⟩ := ok_BadDeed___init__ (P := P) (w := w) (base := base) T
  have nd := sc_Bench_do.nd
  refine fnD F sc_Bench_do fun A outer s H vs Q E gd hr h => ?_
  exact ⟨_, gsL (E := E) (kb := 0) (gs_cons (g_ifS (g_tnot (g_tval (g_call G_is_step gd (hr.mono (by decide)) rfl T.g_is_step k_is_step b_is_step .nil nN tkC (ga_cons (g_var (pv 1)) ga_nil)))) (gs_one (g_rzA (n := "BadDeed") rfl tkC T.er_BadDeed.t T.er_BadDeed.ini T.er_BadDeed.fn T.er_BadDeed.nof GE_BadDeed (hr.mono (by decide)) bE_BadDeed rfl T.g_BadDeed (g_var (pv 1)) e_BadDeed)) gs_nil)
      (gs_cons (g_asg (g_prop (n := "Bench") (g_var (pv 0)) T.cl_Bench T.prop_Bench_point G_Bench_point gd (hr.mono (by decide)) b_Bench_point) (gg_tup (ggs_cons (gg_name (i := 2) nd rfl oR) (ggs_cons (gg_name (i := 3) nd rfl oR) ggs_nil))))
      (gs_cons (g_set (i := 4) nd rfl oR (g_callI (n := "Program") (g_make (n := "Program") T.mk_Program G_Program___init__ gd (hr.mono (by decide)) rfl T.g_Program b_Program___init__ .nil nN tkC (ga_cons (g_lst (ga_cons (g_var (pv 1)) ga_nil)) ga_nil) n_Program) T.co_Program G_Program___call__ gd (hr.mono (by decide)) b_Program___call__ tkC (ga_cons (g_var (pv 2)) (ga_cons (g_var (pv 3)) ga_nil))))
      (gs_cons (g_setF (n := "Bench") (g_var (pv 0)) (g_tup (ga_star (g_fld (n := "Bench") (g_var (pv 0)) T.cl_Bench T.na_Bench_done) (ga_cons (g_tup (ga_cons (g_var (pv 1)) (ga_cons (g_var (pv 4)) ga_nil))) ga_nil))) T.cl_Bench T.na_Bench_done)
      (gs_one (g_ret (g_var (pv 4)))))))), rwD N_Bench_do h⟩
theorem ok_Bench_do : OkW P w (cx K) mg base 5 (He.ma K (He.ga K "Bench") "do") ["self", "step"] wp_Bench_do (0) (d_Bench_do.dvs K) := okW_of (c := cx K) T.f_Bench_do (okF_Bench_do T TB) fun F => F.bindsN fun _ _ _ _ _ _ us hl => match us, hl with | [_, _], _ => rfl
theorem okF_law_done {fd : FuncData} (F : FunD K "_law_done" "_law_done" (defArgs (topS 33)) (defBody (topS 33)) (defScope (topS 33)) (d_law_done.dvs K) [] (He.ga K "_law_done") fd) : FnW P w K mg base 11 (He.ga K "_law_done") fd ["_law_built", "_law_model", "_law_step_here"] (SpW (cx K) wp_law_done (0)) := by
  obtain ⟨_, G_Bench_do, b_Bench_do, k_Bench_do, _, v_Bench_do, c_Bench_do⟩ := ok_Bench_do (P := P) (w := w) T TB
  obtain ⟨_, G_law_bench_shows, b_law_bench_shows, k_law_bench_shows, _, v_law_bench_shows, c_law_bench_shows⟩ := ok_law_bench_shows (P := P) (w := w) T TB
  obtain ⟨_, G_law_now, b_law_now, k_law_now, _, v_law_now, c_law_now⟩ := ok_law_now (P := P) (w := w) T TB
  obtain ⟨_, G_law_step_done, b_law_step_done, k_law_step_done, _, v_law_step_done, c_law_step_done⟩ := ok_law_step_done (P := P) (w := w) T TB
  obtain ⟨_, G_law_step_of, b_law_step_of, k_law_step_of, _, v_law_step_of, c_law_step_of⟩ := ok_law_step_of (P := P) (w := w) T TB
  have nd := sc_law_done.nd
  refine fnD F sc_law_done fun A outer s H vs Q E gd hr h => ?_
  exact ⟨_, gsL (E := E) (kb := 0) (gs_cons (g_asg (g_call G_law_now gd (hr.mono (by decide)) rfl T.g__law_now k_law_now b_law_now .nil nN tkC (ga_cons (g_var (pv 1)) ga_nil)) (gg_tup (ggs_cons (gg_name (i := 3) nd rfl oR) (ggs_cons (gg_name (i := 4) nd rfl oR) ggs_nil))))
      (gs_cons (g_set (i := 5) nd rfl oR (g_call G_law_step_done gd (hr.mono (by decide)) rfl T.g__law_step_done k_law_step_done b_law_step_done .nil nN tkC (ga_cons (g_var (pv 2)) (ga_cons (g_var (pv 3)) (ga_cons (g_var (pv 4)) ga_nil)))))
      (gs_cons (g_set (i := 6) nd rfl oR (g_meth (n := "Bench") (g_var (pv 0)) T.cl_Bench T.me_Bench_do G_Bench_do gd (hr.mono (by decide)) b_Bench_do .nil nN tkC (ga_cons (g_call G_law_step_of gd (hr.mono (by decide)) rfl T.g__law_step_of k_law_step_of b_law_step_of .nil nN tkC (ga_cons (g_var (pv 2)) ga_nil)) ga_nil)))
      (gs_cons (g_dput (units1 hr.units) (g_var (pv 1)) (g_op w_add (g_dget (units1 hr.units) (g_var (pv 1))) (g_lst (ga_cons (g_tup (ga_cons (g_var (pv 2)) (ga_cons (g_var (pv 5)) ga_nil))) ga_nil))))
      (gs_one (g_ret (g_and (g_cmp (w_eq hr.units) (g_cb (w_reprB T.dg gd hr.units) (by rfl) T.n_repr (by decide +kernel) (ga_cons (g_var (pv 6)) ga_nil)) (g_cb (w_reprB T.dg gd hr.units) (by rfl) T.n_repr (by decide +kernel) (ga_cons (g_var (pv 5)) ga_nil)) (nomark _)) (g_one (g_call G_law_bench_shows gd (hr.mono (by decide)) rfl T.g__law_bench_shows k_law_bench_shows b_law_bench_shows .nil nN tkC (ga_cons (g_var (pv 0)) (ga_cons (g_var (pv 1)) ga_nil))))))))))), rwD N_law_done h⟩
theorem ok_law_done : OkW P w (cx K) mg base 11 (He.ga K "_law_done") ["_law_built", "_law_model", "_law_step_here"] wp_law_done (0) (d_law_done.dvs K) := okW_of (c := cx K) T.f_law_done (okF_law_done T TB) fun F => F.bindsN fun _ _ _ _ _ _ us hl => match us, hl with | [_, _, _], _ => rfl
theorem okF_law_some_done {fd : FuncData} (F : FunD K "_law_some_done" "_law_some_done" (defArgs (topS 49)) (defBody (topS 49)) (defScope (topS 49)) (d_law_some_done.dvs K) [] (He.ga K "_law_some_done") fd) : FnW P w K mg base 14 (He.ga K "_law_some_done") fd ["_law_state", "_law_built", "_law_model", "_law_many"] (SpW (cx K) wp_law_some_done (2 ^ 132)) := by
  obtain ⟨_, G_law_bench_step, b_law_bench_step, k_law_bench_step, _, v_law_bench_step, c_law_bench_step⟩ := ok_law_bench_step (P := P) (w := w) T TB
  obtain ⟨_, G_law_done, b_law_done, k_law_done, _, v_law_done, c_law_done⟩ := ok_law_done (P := P) (w := w) T TB
  obtain ⟨_, G_law_take, b_law_take, k_law_take, _, v_law_take, c_law_take⟩ := ok_law_take (P := P) (w := w) T TB
  obtain ⟨_, G_law_undone, b_law_undone, k_law_undone, _, v_law_undone, c_law_undone⟩ := ok_law_undone (P := P) (w := w) T TB
  have nd := sc_law_some_done.nd
  refine fnD F sc_law_some_done fun A outer s H vs Q E gd hr h => ?_
  exact ⟨_, gsL (E := E) (kb := 2 ^ 132) (gs_cons (g_for (passes_of rfl) (gi_rng1 (by rfl) T.n_range (ga_cons (g_var (pv 3)) ga_nil)) (gg_name (i := 4) nd rfl oR) (gs_one (g_ifS (g_pt (g_wor (g_tcmp (w_eq hr.units) (g_call G_law_take gd (hr.mono (by decide)) rfl T.g__law_take k_law_take b_law_take .nil nN tkC (ga_cons (g_var (pv 0)) (ga_cons g_int ga_nil))) g_int (nomark _)) (g_wor1 (g_tcmp w_gt (g_cb w_len (by rfl) T.n_len PySem.boot_len (ga_cons (g_dget (units1 hr.units) (g_var (pv 2))) ga_nil)) g_int (nomark _))))) (gs_one (g_ifS (g_tnot (g_tval (g_call G_law_undone gd (hr.mono (by decide)) rfl T.g__law_undone k_law_undone b_law_undone .nil nN tkC (ga_cons (g_var (pv 1)) (ga_cons (g_var (pv 2)) ga_nil))))) (gs_one (g_ret g_bl)) gs_nil)) (gs_one (g_ifS (g_tnot (g_tval (g_call G_law_done gd (hr.mono (by decide)) rfl T.g__law_done k_law_done b_law_done .nil nN tkC (ga_cons (g_var (pv 1)) (ga_cons (g_var (pv 2)) (ga_cons (g_call G_law_bench_step gd (hr.mono (by decide)) rfl T.g__law_bench_step k_law_bench_step b_law_bench_step .nil nN tkC (ga_cons (g_var (pv 0)) (ga_cons (g_var (pv 2)) ga_nil))) ga_nil)))))) (gs_one (g_ret g_bl)) gs_nil)))))
      (gs_one (g_ret g_bl))), rwD N_law_some_done h⟩
theorem ok_law_some_done : OkW P w (cx K) mg base 14 (He.ga K "_law_some_done") ["_law_state", "_law_built", "_law_model", "_law_many"] wp_law_some_done (2 ^ 132) (d_law_some_done.dvs K) := okW_of (c := cx K) T.f_law_some_done (okF_law_some_done T TB) fun F => F.bindsN fun _ _ _ _ _ _ us hl => match us, hl with | [_, _, _, _], _ => rfl
theorem okF_law_end {fd : FuncData} (F : FunD K "_law_end" "_law_end" (defArgs (topS 50)) (defBody (topS 50)) (defScope (topS 50)) (d_law_end.dvs K) [] (He.ga K "_law_end") fd) : FnW P w K mg base 6 (He.ga K "_law_end") fd ["_law_built", "_law_way"] (SpW (cx K) wp_law_end (0)) := by
  obtain ⟨_, G_Bench_do, b_Bench_do, k_Bench_do, _, v_Bench_do, c_Bench_do⟩ := ok_Bench_do (P := P) (w := w) T TB
  have nd := sc_law_end.nd
  refine fnD F sc_law_end fun A outer s H vs Q E gd hr h => ?_
  exact ⟨_, gsL (E := E) (kb := 0) (gs_cons (g_ifS (g_tcmp (w_eq hr.units) (g_var (pv 1)) g_int (nomark _)) (gs_one (g_drop (g_meth (n := "Bench") (g_var (pv 0)) T.cl_Bench T.me_Bench_do G_Bench_do gd (hr.mono (by decide)) b_Bench_do .nil nN tkC (ga_cons (g_tup (ga_cons g_str (ga_cons g_int (ga_cons g_int (ga_cons g_int (ga_cons g_int ga_nil)))))) ga_nil)))) gs_nil)
      (gs_cons (g_ifS (g_tcmp (w_eq hr.units) (g_var (pv 1)) g_int (nomark _)) (gs_one (g_ret (g_lost rfl (units1 hr.units) tkC))) gs_nil)
      (gs_cons (g_ifS (g_tcmp (w_eq hr.units) (g_var (pv 1)) g_int (nomark _)) (gs_one (g_ret (g_op (w_fdivN rfl tkC) g_int g_int))) gs_nil)
      (gs_one (g_ret g_str))))), rwD N_law_end h⟩
theorem ok_law_end : OkW P w (cx K) mg base 6 (He.ga K "_law_end") ["_law_built", "_law_way"] wp_law_end (0) (d_law_end.dvs K) := okW_of (c := cx K) T.f_law_end (okF_law_end T TB) fun F => F.bindsN fun _ _ _ _ _ _ us hl => match us, hl with | [_, _], _ => rfl
theorem okF_law_job__r0 {fd : FuncData} (F : FunD K "_law_job" "_law_job" (defArgs (topS 51)) (defBody (topS 51)) (defScope (topS 51)) (d_law_job__r0.dvs K) [] (He.ga K "_law_job") fd) : FnW P w K mg base 15 (He.ga K "_law_job") fd ["_law_state", "_law_built", "_law_model", "_law_guide"] (SpW (cx K) wp_law_job__r0 (2 ^ 196)) := by
  obtain ⟨_, G_law_end, b_law_end, k_law_end, _, v_law_end, c_law_end⟩ := ok_law_end (P := P) (w := w) T TB
  obtain ⟨_, G_law_some_done, b_law_some_done, k_law_some_done, _, v_law_some_done, c_law_some_done⟩ := ok_law_some_done (P := P) (w := w) T TB
  obtain ⟨_, G_law_take, b_law_take, k_law_take, _, v_law_take, c_law_take⟩ := ok_law_take (P := P) (w := w) T TB
  have nd := sc_law_job__r0.nd
  refine fnD F sc_law_job__r0 fun A outer s H vs Q E gd hr h => ?_
  exact ⟨_, gsL (E := E) (kb := 2 ^ 196) (gs_cons (g_for (passes_of rfl) (gi_rng1 (by rfl) T.n_range (ga_cons (g_ix (g_var (pv 3)) g_int) ga_nil)) (gg_name (i := 4) nd rfl oR) (gs_cons (g_ifS (g_tnot (g_tval (g_call G_law_some_done gd (hr.mono (by decide)) rfl T.g__law_some_done k_law_some_done b_law_some_done .nil nN tkC (ga_cons (g_var (pv 0)) (ga_cons (g_var (pv 1)) (ga_cons (g_var (pv 2)) (ga_cons (g_op w_add g_int (g_call G_law_take gd (hr.mono (by decide)) rfl T.g__law_take k_law_take b_law_take .nil nN tkC (ga_cons (g_var (pv 0)) (ga_cons g_int ga_nil)))) ga_nil))))))) (gs_one (g_ret g_str)) gs_nil)
      (gs_one (g_ifS (g_pt (g_wand (g_tcmp w_gt (g_ix (g_var (pv 3)) g_int) g_int (nomark _)) (g_wand1 (g_tcmp (w_eq hr.units) (g_call G_law_take gd (hr.mono (by decide)) rfl T.g__law_take k_law_take b_law_take .nil nN tkC (ga_cons (g_var (pv 0)) (ga_cons g_int ga_nil))) g_int (nomark _))))) (gs_one g_dead) gs_nil))))
      (gs_one (g_ret (g_call G_law_end gd (hr.mono (by decide)) rfl T.g__law_end k_law_end b_law_end .nil nN tkC (ga_cons (g_var (pv 1)) (ga_cons (g_ix (g_var (pv 3)) g_int) ga_nil)))))), rwD N_law_job__r0 h⟩
theorem ok_law_job__r0 : OkW P w (cx K) mg base 15 (He.ga K "_law_job") ["_law_state", "_law_built", "_law_model", "_law_guide"] wp_law_job__r0 (2 ^ 196) (d_law_job__r0.dvs K) := okW_of (c := cx K) T.f_law_job__r0 (okF_law_job__r0 T TB) fun F => F.bindsN fun _ _ _ _ _ _ us hl => match us, hl with | [_, _, _, _], _ => rfl
theorem okF_Held___init__ {fd : FuncData} (F : FunD K "__init__" "Held.__init__" (defArgs (inClass (topS 26) 0)) (defBody (inClass (topS 26) 0)) (defScope (inClass (topS 26) 0)) (d_Held___init__.dvs K) [] (He.ma K (He.ga K "Held") "__init__") fd) : FnW P w K mg base 1 (He.ma K (He.ga K "Held") "__init__") fd ["self", "had", "around"] (SpW (cx K) wp_Held___init__ (0)) := by
  have nd := sc_Held___init__.nd
  refine fnD F sc_Held___init__ fun A outer s H vs Q E gd hr h => ?_
  exact ⟨_, gsL (E := E) (kb := 0) (gs_cons (g_setF (n := "Held") (g_var (pv 0)) (g_var (pv 1)) T.cl_Held T.na_Held_had)
      (gs_one (g_setF (n := "Held") (g_var (pv 0)) (g_var (pv 2)) T.cl_Held T.na_Held_around))), rwD N_Held___init__ h⟩
theorem ok_Held___init__ : OkW P w (cx K) mg base 1 (He.ma K (He.ga K "Held") "__init__") ["self", "had", "around"] wp_Held___init__ (0) (d_Held___init__.dvs K) := okW_of (c := cx K) T.f_Held___init__ (okF_Held___init__ T TB) fun F => F.bindsN fun _ _ _ _ _ _ us hl => match us, hl with | [_, _, _], _ => rfl
theorem okF_Bench___enter__ {fd : FuncData} (F : FunD K "__enter__" "Bench.__enter__" (defArgs (inClass (topS 27) 7)) (defBody (inClass (topS 27) 7)) (defScope (inClass (topS 27) 7)) (d_Bench___enter__.dvs K) [] (He.ma K (He.ga K "Bench") "__enter__") fd) : FnW P w K mg base 3 (He.ma K (He.ga K "Bench") "__enter__") fd ["self"] (SpW (cx K) wp_Bench___enter__ (0)) := by
  obtain ⟨_, G_Held___init__, b_Held___init__, k_Held___init__, _, v_Held___init__, c_Held___init__⟩ := ok_Held___init__ (P := P) (w := w) T TB
  have nd := sc_Bench___enter__.nd
  refine fnD F sc_Bench___enter__ fun A outer s H vs Q E gd hr h => ?_
  exact ⟨_, gsL (E := E) (kb := 0) (gs_cons (g_setF (n := "Bench") (g_var (pv 0)) (g_make (n := "Held") T.mk_Held G_Held___init__ gd (hr.mono (by decide)) rfl T.g_Held b_Held___init__ .nil nN tkC (ga_cons (g_fld (n := "Bench") (g_var (pv 0)) T.cl_Bench T.na_Bench_done) (ga_cons (g_fld (n := "Bench") (g_var (pv 0)) T.cl_Bench T.na_Bench_held) ga_nil)) n_Held) T.cl_Bench T.na_Bench_held)
      (gs_one (g_ret (g_var (pv 0))))), rwD N_Bench___enter__ h⟩
theorem ok_Bench___enter__ : OkW P w (cx K) mg base 3 (He.ma K (He.ga K "Bench") "__enter__") ["self"] wp_Bench___enter__ (0) (d_Bench___enter__.dvs K) := okW_of (c := cx K) T.f_Bench___enter__ (okF_Bench___enter__ T TB) fun F => F.bindsN fun _ _ _ _ _ _ us hl => match us, hl with | [_], _ => rfl
theorem okF_Bench___exit__ {fd : FuncData} (F : FunD K "__exit__" "Bench.__exit__" (defArgs (inClass (topS 27) 8)) (defBody (inClass (topS 27) 8)) (defScope (inClass (topS 27) 8)) (d_Bench___exit__.dvs K) [] (He.ma K (He.ga K "Bench") "__exit__") fd) : FnW P w K mg base 1 (He.ma K (He.ga K "Bench") "__exit__") fd ["self", "kind", "value", "trace"] (SpW (cx K) wp_Bench___exit__ (0)) := by
  have nd := sc_Bench___exit__.nd
  refine fnD F sc_Bench___exit__ fun A outer s H vs Q E gd hr h => ?_
  exact ⟨_, gsL (E := E) (kb := 0) (gs_cons (g_ifS (g_tcmp w_isnot (g_var (pv 1)) g_non (nomark _)) (gs_one (g_setF (n := "Bench") (g_var (pv 0)) (g_fld (n := "Held") (g_fld (n := "Bench") (g_var (pv 0)) T.cl_Bench T.na_Bench_held) T.cl_Held T.na_Held_had) T.cl_Bench T.na_Bench_done)) gs_nil)
      (gs_one (g_setF (n := "Bench") (g_var (pv 0)) (g_fld (n := "Held") (g_fld (n := "Bench") (g_var (pv 0)) T.cl_Bench T.na_Bench_held) T.cl_Held T.na_Held_around) T.cl_Bench T.na_Bench_held))), rwD N_Bench___exit__ h⟩
theorem ok_Bench___exit__ : OkW P w (cx K) mg base 1 (He.ma K (He.ga K "Bench") "__exit__") ["self", "kind", "value", "trace"] wp_Bench___exit__ (0) (d_Bench___exit__.dvs K) := okW_of (c := cx K) T.f_Bench___exit__ (okF_Bench___exit__ T TB) fun F => F.bindsN fun _ _ _ _ _ _ us hl => match us, hl with | [_, _, _, _], _ => rfl
theorem okF_law_block__r0 {fd : FuncData} (F : FunD K "_law_block" "_law_block" (defArgs (topS 52)) (defBody (topS 52)) (defScope (topS 52)) (d_law_block__r0.dvs K) [] (He.ga K "_law_block") fd) : FnW P w K mg base 18 (He.ga K "_law_block") fd ["_law_state", "_law_built", "_law_model", "_law_deep"] (SpW (cx K) wp_law_block__r0 (2 ^ 198)) := by
  obtain ⟨_, G_Bench___enter__, b_Bench___enter__, k_Bench___enter__, _, v_Bench___enter__, c_Bench___enter__⟩ := ok_Bench___enter__ (P := P) (w := w) T TB
  obtain ⟨_, G_Bench___exit__, b_Bench___exit__, k_Bench___exit__, _, v_Bench___exit__, c_Bench___exit__⟩ := ok_Bench___exit__ (P := P) (w := w) T TB
  obtain ⟨_, G_law_bench_shows, b_law_bench_shows, k_law_bench_shows, _, v_law_bench_shows, c_law_bench_shows⟩ := ok_law_bench_shows (P := P) (w := w) T TB
  obtain ⟨_, G_law_job__r0, b_law_job__r0, k_law_job__r0, _, v_law_job__r0, c_law_job__r0⟩ := ok_law_job__r0 (P := P) (w := w) T TB
  obtain ⟨_, G_law_pick, b_law_pick, k_law_pick, _, v_law_pick, c_law_pick⟩ := ok_law_pick (P := P) (w := w) T TB
  obtain ⟨_, G_law_take, b_law_take, k_law_take, _, v_law_take, c_law_take⟩ := ok_law_take (P := P) (w := w) T TB
  obtain ⟨_, F_Bench_tried⟩ := T.f_Bench_tried
  have kb_Bench_tried : KB K _ ["self", "work"] 1 ["work"] [0] := kbn0 F_Bench_tried 1 ["work"] [0] fun _ _ _ _ _ _ us ws hl hw => match us, ws, hl, hw with | [_], [_], _, _ => rfl
  obtain ⟨fX_Bench___exit__, FX_Bench___exit__⟩ := T.f_Bench___exit__
  have bX_Bench___exit__ : Binds K fX_Bench___exit__ ["self", "kind", "value", "trace"] [] := FX_Bench___exit__.bindsN fun _ _ _ _ _ _ us hl => match us, hl with | [_, _, _, _], _ => rfl
  have b_Bench_tried := F_Bench_tried.bindsN (ps := ["self", "work"]) fun _ _ _ _ _ _ us hl => match us, hl with | [_, _], _ => rfl
  have nd := sc_law_block__r0.nd
  refine fnD F sc_law_block__r0 fun A outer s H vs Q E gd hr h => ?_
  exact ⟨_, gsL (E := E) (kb := 2 ^ 198) (gs_cons (g_set (i := 4) nd rfl (Or.inr rfl) (g_lst (ga_cons (g_call G_law_take gd (hr.mono (by decide)) rfl T.g__law_take k_law_take b_law_take .nil nN tkC (ga_cons (g_var (pv 0)) (ga_cons g_int ga_nil))) (ga_cons (g_call G_law_pick gd (hr.mono (by decide)) rfl T.g__law_pick k_law_pick b_law_pick .nil nN tkC (ga_cons (g_var (pv 0)) (ga_cons (g_lst (ga_cons g_int (ga_cons g_int (ga_cons g_int (ga_cons g_int (ga_cons g_int ga_nil)))))) ga_nil))) (ga_cons (g_var (pv 3)) (ga_cons (g_call G_law_take gd (hr.mono (by decide)) rfl T.g__law_take k_law_take b_law_take .nil nN tkC (ga_cons (g_var (pv 0)) (ga_cons g_int ga_nil))) ga_nil))))))
      (gs_cons (g_par3N (hp := ps_par3 (i := 5) (j := 6) (l := 7) rfl nd rfl rfl rfl (by decide) (by decide) (by decide) rfl rfl rfl (ga_cons (g_dget (units1 hr.units) (g_var (pv 2))) (ga_cons g_str (ga_cons g_str ga_nil))) rfl))
      (gs_cons (g_tryH tkC (HdsD.cons ⟨rfl, by decide, .inl T.g_BadDeed⟩ (hit_own T.xo_BadDeed T.xb_BadDeed) (fun a pn => (gs_one (g_set (i := 7) nd rfl oR g_str))) (HdsD.cons ⟨rfl, by decide, .inr ⟨T.n_KeyError, by decide +kernel, by decide⟩⟩ (hit_built (by decide) T.xk_KeyError) (fun a pn => (gs_one (g_set (i := 7) nd rfl oR g_str))) (HdsD.cons ⟨rfl, by decide, .inr ⟨T.n_ZeroDivisionError, by decide +kernel, by decide⟩⟩ (hit_built (by decide) T.xk_ZeroDivisionError) (fun a pn => (gs_one (g_set (i := 7) nd rfl oR g_str))) HdsD.nil))) (fun _ _ _ tkE _ => (gs_one (g_ifS (g_tcmp (w_eq hr.units) (g_ix (g_var (pv 4)) g_int) g_int (nomark _)) (gs_one (g_set (i := 6) nd rfl oR (g_triedL (n := "Bench") (b := "_law_same") (km := LT_law_block__r0) (kl' := LL_law_block__r0) (g_var (pv 1)) T.cl_Bench T.me_Bench_tried tkE F_Bench_tried b_Bench_tried sc_Bench_tried oR oR G_Bench___enter__ G_Bench___exit__ (hot_of (kb := 0) FX_Bench___exit__ sc_Bench___exit__ bX_Bench___exit__ rfl (by decide) (fun cdv A l s H p => (gs_cons (g_ifS (g_tcmp w_isnot (g_var (pv 1)) g_non (nomark _)) (gs_one (g_setF (n := "Bench") (g_var (pv 0)) (g_fld (n := "Held") (g_fld (n := "Bench") (g_var (pv 0)) T.cl_Bench T.na_Bench_held) T.cl_Held T.na_Held_had) T.cl_Bench T.na_Bench_done)) gs_nil)
      (gs_one (g_setF (n := "Bench") (g_var (pv 0)) (g_fld (n := "Held") (g_fld (n := "Bench") (g_var (pv 0)) T.cl_Bench T.na_Bench_held) T.cl_Held T.na_Held_around) T.cl_Bench T.na_Bench_held))))) b_Bench___enter__ b_Bench___exit__ T.me_Bench___enter__ T.me_Bench___exit__ gd (TB _ tm_law_block__r0) rfl tbm_law_block__r0 (tbu_law_block__r0 T) (hr.mono (by decide)) (by decide) (by decide) (by decide) (lam1_by (sc := defScope (topS 52)) (by decide +kernel)) (by first | decide | exact (show ¬ (("_law_same" : Str) ∈ N_law_block__r0) by decide)) rfl (fun _ _ _ _ _ _ => rfl) (fun A outer s H E f c' gd hr => (g_call G_law_job__r0 gd (hr.mono (by decide)) rfl T.g__law_job k_law_job__r0 b_law_job__r0 .nil nN (takes_of rfl rfl rfl rfl) (ga_cons (g_var (pv 1)) (ga_cons (g_var (pv 0)) (ga_cons (g_var (pv 3)) (ga_cons (g_var (pv 5)) ga_nil))))))))) (gs_one (g_set (i := 6) nd rfl oR (g_triedL (n := "Bench") (b := "_law_same") (km := LT_law_block__r0) (kl' := LL_law_block__r0) (g_var (pv 1)) T.cl_Bench T.me_Bench_tried tkE F_Bench_tried b_Bench_tried sc_Bench_tried oR oR G_Bench___enter__ G_Bench___exit__ (hot_of (kb := 0) FX_Bench___exit__ sc_Bench___exit__ bX_Bench___exit__ rfl (by decide) (fun cdv A l s H p => (gs_cons (g_ifS (g_tcmp w_isnot (g_var (pv 1)) g_non (nomark _)) (gs_one (g_setF (n := "Bench") (g_var (pv 0)) (g_fld (n := "Held") (g_fld (n := "Bench") (g_var (pv 0)) T.cl_Bench T.na_Bench_held) T.cl_Held T.na_Held_had) T.cl_Bench T.na_Bench_done)) gs_nil)
      (gs_one (g_setF (n := "Bench") (g_var (pv 0)) (g_fld (n := "Held") (g_fld (n := "Bench") (g_var (pv 0)) T.cl_Bench T.na_Bench_held) T.cl_Held T.na_Held_around) T.cl_Bench T.na_Bench_held))))) b_Bench___enter__ b_Bench___exit__ T.me_Bench___enter__ T.me_Bench___exit__ gd (TB _ tm_law_block__r0) rfl tbm_law_block__r0 (tbu_law_block__r0 T) (hr.mono (by decide)) (by decide) (by decide) (by decide) (lam1_by (sc := defScope (topS 52)) (by decide +kernel)) (by first | decide | exact (show ¬ (("_law_same" : Str) ∈ N_law_block__r0) by decide)) rfl (fun _ _ _ _ _ _ => rfl) (fun A outer s H E f c' gd hr => (g_call G_law_job__r0 gd (hr.mono (by decide)) rfl T.g__law_job k_law_job__r0 b_law_job__r0 .nil nN (takes_of rfl rfl rfl rfl) (ga_cons (g_var (pv 1)) (ga_cons (g_var (pv 2)) (ga_cons (g_var (pv 3)) (ga_cons (g_var (pv 5)) ga_nil)))))))))))))
      (gs_cons (g_ifS (g_pt (g_wor (g_tcmp (w_eq hr.units) (g_var (pv 6)) g_str (nomark _)) (g_wor1 (g_tcmp (w_ne hr.units) (g_var (pv 7)) (g_ix (g_lst (ga_cons g_str (ga_cons g_str (ga_cons g_str (ga_cons g_str ga_nil))))) (g_ix (g_var (pv 4)) g_int)) (nomark _))))) (gs_one (g_ret g_str)) gs_nil)
      (gs_cons (g_ifS (g_tcmp (w_ne hr.units) (g_var (pv 7)) g_str (nomark _)) (gs_one (g_dput (units1 hr.units) (g_var (pv 2)) (g_var (pv 5)))) gs_nil)
      (gs_one (g_ret (g_if (g_pt (g_wand (g_tcmp (w_eq hr.units) (g_var (pv 6)) (g_ix (g_lst (ga_cons g_str (ga_cons g_str ga_nil))) (g_cty w_int (by rfl) T.n_int (by decide +kernel) (ga_cons (g_cmp (w_ne hr.units) (g_var (pv 7)) g_str (nomark _)) ga_nil))) (nomark _)) (g_wand1 (g_tval (g_call G_law_bench_shows gd (hr.mono (by decide)) rfl T.g__law_bench_shows k_law_bench_shows b_law_bench_shows .nil nN tkC (ga_cons (g_var (pv 1)) (ga_cons (g_var (pv 2)) ga_nil))))))) g_str g_str)))))))), rwD N_law_block__r0 h⟩
theorem ok_law_block__r0 : OkW P w (cx K) mg base 18 (He.ga K "_law_block") ["_law_state", "_law_built", "_law_model", "_law_deep"] wp_law_block__r0 (2 ^ 198) (d_law_block__r0.dvs K) := okW_of (c := cx K) T.f_law_block__r0 (okF_law_block__r0 T TB) fun F => F.bindsN fun _ _ _ _ _ _ us hl => match us, hl with | [_, _, _, _], _ => rfl
theorem okF_law_job__r1 {fd : FuncData} (F : FunD K "_law_job" "_law_job" (defArgs (topS 51)) (defBody (topS 51)) (defScope (topS 51)) (d_law_job__r1.dvs K) [] (He.ga K "_law_job") fd) : FnW P w K mg base 19 (He.ga K "_law_job") fd ["_law_state", "_law_built", "_law_model", "_law_guide"] (SpW (cx K) wp_law_job__r1 (2 ^ 262)) := by
  obtain ⟨_, G_law_block__r0, b_law_block__r0, k_law_block__r0, _, v_law_block__r0, c_law_block__r0⟩ := ok_law_block__r0 (P := P) (w := w) T TB
  obtain ⟨_, G_law_end, b_law_end, k_law_end, _, v_law_end, c_law_end⟩ := ok_law_end (P := P) (w := w) T TB
  obtain ⟨_, G_law_some_done, b_law_some_done, k_law_some_done, _, v_law_some_done, c_law_some_done⟩ := ok_law_some_done (P := P) (w := w) T TB
  obtain ⟨_, G_law_take, b_law_take, k_law_take, _, v_law_take, c_law_take⟩ := ok_law_take (P := P) (w := w) T TB
  have nd := sc_law_job__r1.nd
  refine fnD F sc_law_job__r1 fun A outer s H vs Q E gd hr h => ?_
  exact ⟨_, gsL (E := E) (kb := 2 ^ 262) (gs_cons (g_for (passes_of rfl) (gi_rng1 (by rfl) T.n_range (ga_cons (g_ix (g_var (pv 3)) g_int) ga_nil)) (gg_name (i := 4) nd rfl oR) (gs_cons (g_ifS (g_tnot (g_tval (g_call G_law_some_done gd (hr.mono (by decide)) rfl T.g__law_some_done k_law_some_done b_law_some_done .nil nN tkC (ga_cons (g_var (pv 0)) (ga_cons (g_var (pv 1)) (ga_cons (g_var (pv 2)) (ga_cons (g_op w_add g_int (g_call G_law_take gd (hr.mono (by decide)) rfl T.g__law_take k_law_take b_law_take .nil nN tkC (ga_cons (g_var (pv 0)) (ga_cons g_int ga_nil)))) ga_nil))))))) (gs_one (g_ret g_str)) gs_nil)
      (gs_one (g_ifS (g_pt (g_wand (g_tcmp w_gt (g_ix (g_var (pv 3)) g_int) g_int (nomark _)) (g_wand1 (g_tcmp (w_eq hr.units) (g_call G_law_take gd (hr.mono (by decide)) rfl T.g__law_take k_law_take b_law_take .nil nN tkC (ga_cons (g_var (pv 0)) (ga_cons g_int ga_nil))) g_int (nomark _))))) (gs_one (g_ifS (g_tcmp (w_eq hr.units) (g_call G_law_block__r0 gd (hr.mono (by decide)) rfl T.g__law_block k_law_block__r0 b_law_block__r0 .nil nN tkC (ga_cons (g_var (pv 0)) (ga_cons (g_var (pv 1)) (ga_cons (g_var (pv 2)) (ga_cons (g_op w_sub (g_ix (g_var (pv 3)) g_int) g_int) ga_nil))))) g_str (nomark _)) (gs_one (g_ret g_str)) gs_nil)) gs_nil))))
      (gs_one (g_ret (g_call G_law_end gd (hr.mono (by decide)) rfl T.g__law_end k_law_end b_law_end .nil nN tkC (ga_cons (g_var (pv 1)) (ga_cons (g_ix (g_var (pv 3)) g_int) ga_nil)))))), rwD N_law_job__r1 h⟩
theorem ok_law_job__r1 : OkW P w (cx K) mg base 19 (He.ga K "_law_job") ["_law_state", "_law_built", "_law_model", "_law_guide"] wp_law_job__r1 (2 ^ 262) (d_law_job__r1.dvs K) := okW_of (c := cx K) T.f_law_job__r1 (okF_law_job__r1 T TB) fun F => F.bindsN fun _ _ _ _ _ _ us hl => match us, hl with | [_, _, _, _], _ => rfl
theorem okF_law_block__r1 {fd : FuncData} (F : FunD K "_law_block" "_law_block" (defArgs (topS 52)) (defBody (topS 52)) (defScope (topS 52)) (d_law_block__r1.dvs K) [] (He.ga K "_law_block") fd) : FnW P w K mg base 22 (He.ga K "_law_block") fd ["_law_state", "_law_built", "_law_model", "_law_deep"] (SpW (cx K) wp_law_block__r1 (2 ^ 264)) := by
  obtain ⟨_, G_Bench___enter__, b_Bench___enter__, k_Bench___enter__, _, v_Bench___enter__, c_Bench___enter__⟩ := ok_Bench___enter__ (P := P) (w := w) T TB
  obtain ⟨_, G_Bench___exit__, b_Bench___exit__, k_Bench___exit__, _, v_Bench___exit__, c_Bench___exit__⟩ := ok_Bench___exit__ (P := P) (w := w) T TB
  obtain ⟨_, G_law_bench_shows, b_law_bench_shows, k_law_bench_shows, _, v_law_bench_shows, c_law_bench_shows⟩ := ok_law_bench_shows (P := P) (w := w) T TB
  obtain ⟨_, G_law_job__r1, b_law_job__r1, k_law_job__r1, _, v_law_job__r1, c_law_job__r1⟩ := ok_law_job__r1 (P := P) (w := w) T TB
  obtain ⟨_, G_law_pick, b_law_pick, k_law_pick, _, v_law_pick, c_law_pick⟩ := ok_law_pick (P := P) (w := w) T TB
  obtain ⟨_, G_law_take, b_law_take, k_law_take, _, v_law_take, c_law_take⟩ := ok_law_take (P := P) (w := w) T TB
  obtain ⟨_, F_Bench_tried⟩ := T.f_Bench_tried
  have kb_Bench_tried : KB K _ ["self", "work"] 1 ["work"] [0] := kbn0 F_Bench_tried 1 ["work"] [0] fun _ _ _ _ _ _ us ws hl hw => match us, ws, hl, hw with | [_], [_], _, _ => rfl
  obtain ⟨fX_Bench___exit__, FX_Bench___exit__⟩ := T.f_Bench___exit__
  have bX_Bench___exit__ : Binds K fX_Bench___exit__ ["self", "kind", "value", "trace"] [] := FX_Bench___exit__.bindsN fun _ _ _ _ _ _ us hl => match us, hl with | [_, _, _, _], _ => rfl
  have b_Bench_tried := F_Bench_tried.bindsN (ps := ["self", "work"]) fun _ _ _ _ _ _ us hl => match us, hl with | [_, _], _ => rfl
  have nd := sc_law_block__r1.nd
  refine fnD F sc_law_block__r1 fun A outer s H vs Q E gd hr h => ?_
  exact ⟨_, gsL (E := E) (kb := 2 ^ 264) (gs_cons (g_set (i := 4) nd rfl (Or.inr rfl) (g_lst (ga_cons (g_call G_law_take gd (hr.mono (by decide)) rfl T.g__law_take k_law_take b_law_take .nil nN tkC (ga_cons (g_var (pv 0)) (ga_cons g_int ga_nil))) (ga_cons (g_call G_law_pick gd (hr.mono (by decide)) rfl T.g__law_pick k_law_pick b_law_pick .nil nN tkC (ga_cons (g_var (pv 0)) (ga_cons (g_lst (ga_cons g_int (ga_cons g_int (ga_cons g_int (ga_cons g_int (ga_cons g_int ga_nil)))))) ga_nil))) (ga_cons (g_var (pv 3)) (ga_cons (g_call G_law_take gd (hr.mono (by decide)) rfl T.g__law_take k_law_take b_law_take .nil nN tkC (ga_cons (g_var (pv 0)) (ga_cons g_int ga_nil))) ga_nil))))))
      (gs_cons (g_par3N (hp := ps_par3 (i := 5) (j := 6) (l := 7) rfl nd rfl rfl rfl (by decide) (by decide) (by decide) rfl rfl rfl (ga_cons (g_dget (units1 hr.units) (g_var (pv 2))) (ga_cons g_str (ga_cons g_str ga_nil))) rfl))
      (gs_cons (g_tryH tkC (HdsD.cons ⟨rfl, by decide, .inl T.g_BadDeed⟩ (hit_own T.xo_BadDeed T.xb_BadDeed) (fun a pn => (gs_one (g_set (i := 7) nd rfl oR g_str))) (HdsD.cons ⟨rfl, by decide, .inr ⟨T.n_KeyError, by decide +kernel, by decide⟩⟩ (hit_built (by decide) T.xk_KeyError) (fun a pn => (gs_one (g_set (i := 7) nd rfl oR g_str))) (HdsD.cons ⟨rfl, by decide, .inr ⟨T.n_ZeroDivisionError, by decide +kernel, by decide⟩⟩ (hit_built (by decide) T.xk_ZeroDivisionError) (fun a pn => (gs_one (g_set (i := 7) nd rfl oR g_str))) HdsD.nil))) (fun _ _ _ tkE _ => (gs_one (g_ifS (g_tcmp (w_eq hr.units) (g_ix (g_var (pv 4)) g_int) g_int (nomark _)) (gs_one (g_set (i := 6) nd rfl oR (g_triedL (n := "Bench") (b := "_law_same") (km := LT_law_block__r1) (kl' := LL_law_block__r1) (g_var (pv 1)) T.cl_Bench T.me_Bench_tried tkE F_Bench_tried b_Bench_tried sc_Bench_tried oR oR G_Bench___enter__ G_Bench___exit__ (hot_of (kb := 0) FX_Bench___exit__ sc_Bench___exit__ bX_Bench___exit__ rfl (by decide) (fun cdv A l s H p => (gs_cons (g_ifS (g_tcmp w_isnot (g_var (pv 1)) g_non (nomark _)) (gs_one (g_setF (n := "Bench") (g_var (pv 0)) (g_fld (n := "Held") (g_fld (n := "Bench") (g_var (pv 0)) T.cl_Bench T.na_Bench_held) T.cl_Held T.na_Held_had) T.cl_Bench T.na_Bench_done)) gs_nil)
      (gs_one (g_setF (n := "Bench") (g_var (pv 0)) (g_fld (n := "Held") (g_fld (n := "Bench") (g_var (pv 0)) T.cl_Bench T.na_Bench_held) T.cl_Held T.na_Held_around) T.cl_Bench T.na_Bench_held))))) b_Bench___enter__ b_Bench___exit__ T.me_Bench___enter__ T.me_Bench___exit__ gd (TB _ tm_law_block__r1) rfl tbm_law_block__r1 (tbu_law_block__r1 T) (hr.mono (by decide)) (by decide) (by decide) (by decide) (lam1_by (sc := defScope (topS 52)) (by decide +kernel)) (by first | decide | exact (show ¬ (("_law_same" : Str) ∈ N_law_block__r1) by decide)) rfl (fun _ _ _ _ _ _ => rfl) (fun A outer s H E f c' gd hr => (g_call G_law_job__r1 gd (hr.mono (by decide)) rfl T.g__law_job k_law_job__r1 b_law_job__r1 .nil nN (takes_of rfl rfl rfl rfl) (ga_cons (g_var (pv 1)) (ga_cons (g_var (pv 0)) (ga_cons (g_var (pv 3)) (ga_cons (g_var (pv 5)) ga_nil))))))))) (gs_one (g_set (i := 6) nd rfl oR (g_triedL (n := "Bench") (b := "_law_same") (km := LT_law_block__r1) (kl' := LL_law_block__r1) (g_var (pv 1)) T.cl_Bench T.me_Bench_tried tkE F_Bench_tried b_Bench_tried sc_Bench_tried oR oR G_Bench___enter__ G_Bench___exit__ (hot_of (kb := 0) FX_Bench___exit__ sc_Bench___exit__ bX_Bench___exit__ rfl (by decide) (fun cdv A l s H p => (gs_cons (g_ifS (g_tcmp w_isnot (g_var (pv 1)) g_non (nomark _)) (gs_one (g_setF (n := "Bench") (g_var (pv 0)) (g_fld (n := "Held") (g_fld (n := "Bench") (g_var (pv 0)) T.cl_Bench T.na_Bench_held) T.cl_Held T.na_Held_had) T.cl_Bench T.na_Bench_done)) gs_nil)
      (gs_one (g_setF (n := "Bench") (g_var (pv 0)) (g_fld (n := "Held") (g_fld (n := "Bench") (g_var (pv 0)) T.cl_Bench T.na_Bench_held) T.cl_Held T.na_Held_around) T.cl_Bench T.na_Bench_held))))) b_Bench___enter__ b_Bench___exit__ T.me_Bench___enter__ T.me_Bench___exit__ gd (TB _ tm_law_block__r1) rfl tbm_law_block__r1 (tbu_law_block__r1 T) (hr.mono (by decide)) (by decide) (by decide) (by decide) (lam1_by (sc := defScope (topS 52)) (by decide +kernel)) (by first | decide | exact (show ¬ (("_law_same" : Str) ∈ N_law_block__r1) by decide)) rfl (fun _ _ _ _ _ _ => rfl) (fun A outer s H E f c' gd hr => (g_call G_law_job__r1 gd (hr.mono (by decide)) rfl T.g__law_job k_law_job__r1 b_law_job__r1 .nil nN (takes_of rfl rfl rfl rfl) (ga_cons (g_var (pv 1)) (ga_cons (g_var (pv 2)) (ga_cons (g_var (pv 3)) (ga_cons (g_var (pv 5)) ga_nil)))))))))))))
      (gs_cons (g_ifS (g_pt (g_wor (g_tcmp (w_eq hr.units) (g_var (pv 6)) g_str (nomark _)) (g_wor1 (g_tcmp (w_ne hr.units) (g_var (pv 7)) (g_ix (g_lst (ga_cons g_str (ga_cons g_str (ga_cons g_str (ga_cons g_str ga_nil))))) (g_ix (g_var (pv 4)) g_int)) (nomark _))))) (gs_one (g_ret g_str)) gs_nil)
      (gs_cons (g_ifS (g_tcmp (w_ne hr.units) (g_var (pv 7)) g_str (nomark _)) (gs_one (g_dput (units1 hr.units) (g_var (pv 2)) (g_var (pv 5)))) gs_nil)
      (gs_one (g_ret (g_if (g_pt (g_wand (g_tcmp (w_eq hr.units) (g_var (pv 6)) (g_ix (g_lst (ga_cons g_str (ga_cons g_str ga_nil))) (g_cty w_int (by rfl) T.n_int (by decide +kernel) (ga_cons (g_cmp (w_ne hr.units) (g_var (pv 7)) g_str (nomark _)) ga_nil))) (nomark _)) (g_wand1 (g_tval (g_call G_law_bench_shows gd (hr.mono (by decide)) rfl T.g__law_bench_shows k_law_bench_shows b_law_bench_shows .nil nN tkC (ga_cons (g_var (pv 1)) (ga_cons (g_var (pv 2)) ga_nil))))))) g_str g_str)))))))), rwD N_law_block__r1 h⟩
theorem ok_law_block__r1 : OkW P w (cx K) mg base 22 (He.ga K "_law_block") ["_law_state", "_law_built", "_law_model", "_law_deep"] wp_law_block__r1 (2 ^ 264) (d_law_block__r1.dvs K) := okW_of (c := cx K) T.f_law_block__r1 (okF_law_block__r1 T TB) fun F => F.bindsN fun _ _ _ _ _ _ us hl => match us, hl with | [_, _, _, _], _ => rfl
theorem okF_law_job__r2 {fd : FuncData} (F : FunD K "_law_job" "_law_job" (defArgs (topS 51)) (defBody (topS 51)) (defScope (topS 51)) (d_law_job__r2.dvs K) [] (He.ga K "_law_job") fd) : FnW P w K mg base 23 (He.ga K "_law_job") fd ["_law_state", "_law_built", "_law_model", "_law_guide"] (SpW (cx K) wp_law_job__r2 (2 ^ 328)) := by
  obtain ⟨_, G_law_block__r1, b_law_block__r1, k_law_block__r1, _, v_law_block__r1, c_law_block__r1⟩ := ok_law_block__r1 (P := P) (w := w) T TB
  obtain ⟨_, G_law_end, b_law_end, k_law_end, _, v_law_end, c_law_end⟩ := ok_law_end (P := P) (w := w) T TB
  obtain ⟨_, G_law_some_done, b_law_some_done, k_law_some_done, _, v_law_some_done, c_law_some_done⟩ := ok_law_some_done (P := P) (w := w) T TB
  obtain ⟨_, G_law_take, b_law_take, k_law_take, _, v_law_take, c_law_take⟩ := ok_law_take (P := P) (w := w) T TB
  have nd := sc_law_job__r2.nd
  refine fnD F sc_law_job__r2 fun A outer s H vs Q E gd hr h => ?_
  exact ⟨_, gsL (E := E) (kb := 2 ^ 328) (gs_cons (g_for (passes_of rfl) (gi_rng1 (by rfl) T.n_range (ga_cons (g_ix (g_var (pv 3)) g_int) ga_nil)) (gg_name (i := 4) nd rfl oR) (gs_cons (g_ifS (g_tnot (g_tval (g_call G_law_some_done gd (hr.mono (by decide)) rfl T.g__law_some_done k_law_some_done b_law_some_done .nil nN tkC (ga_cons (g_var (pv 0)) (ga_cons (g_var (pv 1)) (ga_cons (g_var (pv 2)) (ga_cons (g_op w_add g_int (g_call G_law_take gd (hr.mono (by decide)) rfl T.g__law_take k_law_take b_law_take .nil nN tkC (ga_cons (g_var (pv 0)) (ga_cons g_int ga_nil)))) ga_nil))))))) (gs_one (g_ret g_str)) gs_nil)
      (gs_one (g_ifS (g_pt (g_wand (g_tcmp w_gt (g_ix (g_var (pv 3)) g_int) g_int (nomark _)) (g_wand1 (g_tcmp (w_eq hr.units) (g_call G_law_take gd (hr.mono (by decide)) rfl T.g__law_take k_law_take b_law_take .nil nN tkC (ga_cons (g_var (pv 0)) (ga_cons g_int ga_nil))) g_int (nomark _))))) (gs_one (g_ifS (g_tcmp (w_eq hr.units) (g_call G_law_block__r1 gd (hr.mono (by decide)) rfl T.g__law_block k_law_block__r1 b_law_block__r1 .nil nN tkC (ga_cons (g_var (pv 0)) (ga_cons (g_var (pv 1)) (ga_cons (g_var (pv 2)) (ga_cons (g_op w_sub (g_ix (g_var (pv 3)) g_int) g_int) ga_nil))))) g_str (nomark _)) (gs_one (g_ret g_str)) gs_nil)) gs_nil))))
      (gs_one (g_ret (g_call G_law_end gd (hr.mono (by decide)) rfl T.g__law_end k_law_end b_law_end .nil nN tkC (ga_cons (g_var (pv 1)) (ga_cons (g_ix (g_var (pv 3)) g_int) ga_nil)))))), rwD N_law_job__r2 h⟩
theorem ok_law_job__r2 : OkW P w (cx K) mg base 23 (He.ga K "_law_job") ["_law_state", "_law_built", "_law_model", "_law_guide"] wp_law_job__r2 (2 ^ 328) (d_law_job__r2.dvs K) := okW_of (c := cx K) T.f_law_job__r2 (okF_law_job__r2 T TB) fun F => F.bindsN fun _ _ _ _ _ _ us hl => match us, hl with | [_, _, _, _], _ => rfl
theorem okF_law_block__r2 {fd : FuncData} (F : FunD K "_law_block" "_law_block" (defArgs (topS 52)) (defBody (topS 52)) (defScope (topS 52)) (d_law_block__r2.dvs K) [] (He.ga K "_law_block") fd) : FnW P w K mg base 26 (He.ga K "_law_block") fd ["_law_state", "_law_built", "_law_model", "_law_deep"] (SpW (cx K) wp_law_block__r2 (2 ^ 330)) := by
  obtain ⟨_, G_Bench___enter__, b_Bench___enter__, k_Bench___enter__, _, v_Bench___enter__, c_Bench___enter__⟩ := ok_Bench___enter__ (P := P) (w := w) T TB
  obtain ⟨_, G_Bench___exit__, b_Bench___exit__, k_Bench___exit__, _, v_Bench___exit__, c_Bench___exit__⟩ := ok_Bench___exit__ (P := P) (w := w) T TB
  obtain ⟨_, G_law_bench_shows, b_law_bench_shows, k_law_bench_shows, _, v_law_bench_shows, c_law_bench_shows⟩ := ok_law_bench_shows (P := P) (w := w) T TB
  obtain ⟨_, G_law_job__r2, b_law_job__r2, k_law_job__r2, _, v_law_job__r2, c_law_job__r2⟩ := ok_law_job__r2 (P := P) (w := w) T TB
  obtain ⟨_, G_law_pick, b_law_pick, k_law_pick, _, v_law_pick, c_law_pick⟩ := ok_law_pick (P := P) (w := w) T TB
  obtain ⟨_, G_law_take, b_law_take, k_law_take, _, v_law_take, c_law_take⟩ := ok_law_take (P := P) (w := w) T TB
  obtain ⟨_, F_Bench_tried⟩ := T.f_Bench_tried
  have kb_Bench_tried : KB K _ ["self", "work"] 1 ["work"] [0] := kbn0 F_Bench_tried 1 ["work"] [0] fun _ _ _ _ _ _ us ws hl hw => match us, ws, hl, hw with | [_], [_], _, _ => rfl
  obtain ⟨fX_Bench___exit__, FX_Bench___exit__⟩ := T.f_Bench___exit__
  have bX_Bench___exit__ : Binds K fX_Bench___exit__ ["self", "kind", "value", "trace"] [] := FX_Bench___exit__.bindsN fun _ _ _ _ _ _ us hl => match us, hl with | [_, _, _, _], _ => rfl
  have b_Bench_tried := F_Bench_tried.bindsN (ps := ["self", "work"]) fun _ _ _ _ _ _ us hl => match us, hl with | [_, _], _ => rfl
  have nd := sc_law_block__r2.nd
  refine fnD F sc_law_block__r2 fun A outer s H vs Q E gd hr h => ?_
  exact ⟨_, gsL (E := E) (kb := 2 ^ 330) (gs_cons (g_set (i := 4) nd rfl (Or.inr rfl) (g_lst (ga_cons (g_call G_law_take gd (hr.mono (by decide)) rfl T.g__law_take k_law_take b_law_take .nil nN tkC (ga_cons (g_var (pv 0)) (ga_cons g_int ga_nil))) (ga_cons (g_call G_law_pick gd (hr.mono (by decide)) rfl T.g__law_pick k_law_pick b_law_pick .nil nN tkC (ga_cons (g_var (pv 0)) (ga_cons (g_lst (ga_cons g_int (ga_cons g_int (ga_cons g_int (ga_cons g_int (ga_cons g_int ga_nil)))))) ga_nil))) (ga_cons (g_var (pv 3)) (ga_cons (g_call G_law_take gd (hr.mono (by decide)) rfl T.g__law_take k_law_take b_law_take .nil nN tkC (ga_cons (g_var (pv 0)) (ga_cons g_int ga_nil))) ga_nil))))))
      (gs_cons (g_par3N (hp := ps_par3 (i := 5) (j := 6) (l := 7) rfl nd rfl rfl rfl (by decide) (by decide) (by decide) rfl rfl rfl (ga_cons (g_dget (units1 hr.units) (g_var (pv 2))) (ga_cons g_str (ga_cons g_str ga_nil))) rfl))
      (gs_cons (g_tryH tkC (HdsD.cons ⟨rfl, by decide, .inl T.g_BadDeed⟩ (hit_own T.xo_BadDeed T.xb_BadDeed) (fun a pn => (gs_one (g_set (i := 7) nd rfl oR g_str))) (HdsD.cons ⟨rfl, by decide, .inr ⟨T.n_KeyError, by decide +kernel, by decide⟩⟩ (hit_built (by decide) T.xk_KeyError) (fun a pn => (gs_one (g_set (i := 7) nd rfl oR g_str))) (HdsD.cons ⟨rfl, by decide, .inr ⟨T.n_ZeroDivisionError, by decide +kernel, by decide⟩⟩ (hit_built (by decide) T.xk_ZeroDivisionError) (fun a pn => (gs_one (g_set (i := 7) nd rfl oR g_str))) HdsD.nil))) (fun _ _ _ tkE _ => (gs_one (g_ifS (g_tcmp (w_eq hr.units) (g_ix (g_var (pv 4)) g_int) g_int (nomark _)) (gs_one (g_set (i := 6) nd rfl oR (g_triedL (n := "Bench") (b := "_law_same") (km := LT_law_block__r2) (kl' := LL_law_block__r2) (g_var (pv 1)) T.cl_Bench T.me_Bench_tried tkE F_Bench_tried b_Bench_tried sc_Bench_tried oR oR G_Bench___enter__ G_Bench___exit__ (hot_of (kb := 0) FX_Bench___exit__ sc_Bench___exit__ bX_Bench___exit__ rfl (by decide) (fun cdv A l s H p => (gs_cons (g_ifS (g_tcmp w_isnot (g_var (pv 1)) g_non (nomark _)) (gs_one (g_setF (n := "Bench") (g_var (pv 0)) (g_fld (n := "Held") (g_fld (n := "Bench") (g_var (pv 0)) T.cl_Bench T.na_Bench_held) T.cl_Held T.na_Held_had) T.cl_Bench T.na_Bench_done)) gs_nil)
      (gs_one (g_setF (n := "Bench") (g_var (pv 0)) (g_fld (n := "Held") (g_fld (n := "Bench") (g_var (pv 0)) T.cl_Bench T.na_Bench_held) T.cl_Held T.na_Held_around) T.cl_Bench T.na_Bench_held))))) b_Bench___enter__ b_Bench___exit__ T.me_Bench___enter__ T.me_Bench___exit__ gd (TB _ tm_law_block__r2) rfl tbm_law_block__r2 (tbu_law_block__r2 T) (hr.mono (by decide)) (by decide) (by decide) (by decide) (lam1_by (sc := defScope (topS 52)) (by decide +kernel)) (by first | decide | exact (show ¬ (("_law_same" : Str) ∈ N_law_block__r2) by decide)) rfl (fun _ _ _ _ _ _ => rfl) (fun A outer s H E f c' gd hr => (g_call G_law_job__r2 gd (hr.mono (by decide)) rfl T.g__law_job k_law_job__r2 b_law_job__r2 .nil nN (takes_of rfl rfl rfl rfl) (ga_cons (g_var (pv 1)) (ga_cons (g_var (pv 0)) (ga_cons (g_var (pv 3)) (ga_cons (g_var (pv 5)) ga_nil))))))))) (gs_one (g_set (i := 6) nd rfl oR (g_triedL (n := "Bench") (b := "_law_same") (km := LT_law_block__r2) (kl' := LL_law_block__r2) (g_var (pv 1)) T.cl_Bench T.me_Bench_tried tkE F_Bench_tried b_Bench_tried sc_Bench_tried oR oR G_Bench___enter__ G_Bench___exit__ (hot_of (kb := 0) FX_Bench___exit__ sc_Bench___exit__ bX_Bench___exit__ rfl (by decide) (fun cdv A l s H p => (gs_cons (g_ifS (g_tcmp w_isnot (g_var (pv 1)) g_non (nomark _)) (gs_one (g_setF (n := "Bench") (g_var (pv 0)) (g_fld (n := "Held") (g_fld (n := "Bench") (g_var (pv 0)) T.cl_Bench T.na_Bench_held) T.cl_Held T.na_Held_had) T.cl_Bench T.na_Bench_done)) gs_nil)
      (gs_one (g_setF (n := "Bench") (g_var (pv 0)) (g_fld (n := "Held") (g_fld (n := "Bench") (g_var (pv 0)) T.cl_Bench T.na_Bench_held) T.cl_Held T.na_Held_around) T.cl_Bench T.na_Bench_held))))) b_Bench___enter__ b_Bench___exit__ T.me_Bench___enter__ T.me_Bench___exit__ gd (TB _ tm_law_block__r2) rfl tbm_law_block__r2 (tbu_law_block__r2 T) (hr.mono (by decide)) (by decide) (by decide) (by decide) (lam1_by (sc := defScope (topS 52)) (by decide +kernel)) (by first | decide | exact (show ¬ (("_law_same" : Str) ∈ N_law_block__r2) by decide)) rfl (fun _ _ _ _ _ _ => rfl) (fun A outer s H E f c' gd hr => (g_call G_law_job__r2 gd (hr.mono (by decide)) rfl T.g__law_job k_law_job__r2 b_law_job__r2 .nil nN (takes_of rfl rfl rfl rfl) (ga_cons (g_var (pv 1)) (ga_cons (g_var (pv 2)) (ga_cons (g_var (pv 3)) (ga_cons (g_var (pv 5)) ga_nil)))))))))))))
      (gs_cons (g_ifS (g_pt (g_wor (g_tcmp (w_eq hr.units) (g_var (pv 6)) g_str (nomark _)) (g_wor1 (g_tcmp (w_ne hr.units) (g_var (pv 7)) (g_ix (g_lst (ga_cons g_str (ga_cons g_str (ga_cons g_str (ga_cons g_str ga_nil))))) (g_ix (g_var (pv 4)) g_int)) (nomark _))))) (gs_one (g_ret g_str)) gs_nil)
      (gs_cons (g_ifS (g_tcmp (w_ne hr.units) (g_var (pv 7)) g_str (nomark _)) (gs_one (g_dput (units1 hr.units) (g_var (pv 2)) (g_var (pv 5)))) gs_nil)
      (gs_one (g_ret (g_if (g_pt (g_wand (g_tcmp (w_eq hr.units) (g_var (pv 6)) (g_ix (g_lst (ga_cons g_str (ga_cons g_str ga_nil))) (g_cty w_int (by rfl) T.n_int (by decide +kernel) (ga_cons (g_cmp (w_ne hr.units) (g_var (pv 7)) g_str (nomark _)) ga_nil))) (nomark _)) (g_wand1 (g_tval (g_call G_law_bench_shows gd (hr.mono (by decide)) rfl T.g__law_bench_shows k_law_bench_shows b_law_bench_shows .nil nN tkC (ga_cons (g_var (pv 1)) (ga_cons (g_var (pv 2)) ga_nil))))))) g_str g_str)))))))), rwD N_law_block__r2 h⟩
theorem ok_law_block__r2 : OkW P w (cx K) mg base 26 (He.ga K "_law_block") ["_law_state", "_law_built", "_law_model", "_law_deep"] wp_law_block__r2 (2 ^ 330) (d_law_block__r2.dvs K) := okW_of (c := cx K) T.f_law_block__r2 (okF_law_block__r2 T TB) fun F => F.bindsN fun _ _ _ _ _ _ us hl => match us, hl with | [_, _, _, _], _ => rfl
theorem ok_law_begun : ∃ fd, FnW P w K mg base 1 (He.ga K "_law_begun") fd ["_law_script"] (sp_law_begun (cx K)) ∧ Binds K fd ["_law_script"] [] ∧ PySem.W.keepIn K (.ref (He.ga K "_law_begun")) = true := by
  obtain ⟨fd, F⟩ := T.f_law_begun
  have nd := sc_law_begun.nd
  have hb : Binds K fd ["_law_script"] [] := F.bindsN fun _ _ _ _ _ _ us hl => match us, hl with | [_], _ => rfl
  refine ⟨fd, fnW_of F sc_law_begun (fun vs H Q E h => by obtain ⟨a, ns, rfl, _⟩ := h; rfl) (fun A outer s H vs Q E gd hr h => ⟨rd_law_begun (cx K), PSs.nox ?_, run_begun rfl h⟩), hb, F.kp⟩
  exact (pss_cons (ps_setLc (i := 1) (own := [("_law_cell", 2)]) rfl nd rfl rfl (sw_true rfl rfl rfl (by decide +kernel)) (pi_list (pv 0)) (blkOk_by (own := [("_law_cell", 2)]) (N := N_law_begun) (sc := defScope (topS 35)) (by decide +kernel)) (fun _ _ _ _ _ => (pg_name (i := 2) nd rfl (Or.inl rfl))) (fun _ _ _ _ _ => (pts_one (pt_cmpR op_ge (pe_callB call_absG (by rfl) T.n_abs (by decide +kernel) (pa_cons (pv 2) pa_nil)) (pe_op op_pow27 pe_int pe_int) (nomark _)))) (fun _ _ _ _ _ => (pe_op op_sub (pe_callB call_absG (by rfl) T.n_abs (by decide +kernel) (pa_cons (pv 2) pa_nil)) (pe_op op_pow27 pe_int pe_int))))
      (pss_one (ps_ret (pe_disp (pps_cons pe_str (pv 1) (pps_cons pe_str (pe_lc (own := [("_law_cell", 2)]) rfl nd (pi_list (pv 0)) (blkOk_by (own := [("_law_cell", 2)]) (N := N_law_begun) (sc := defScope (topS 35)) (by decide +kernel)) (fun _ _ _ _ _ => (pg_name (i := 2) nd rfl (Or.inl rfl))) (fun _ _ _ _ _ => pts_nil) (fun _ _ _ _ _ => (pe_op op_mod (pe_callTy call_intG (by rfl) T.n_int (by decide +kernel) (pa_cons (pe_callB call_absG (by rfl) T.n_abs (by decide +kernel) (pa_cons (pv 2) pa_nil)) pa_nil)) pe_int))) (pps_cons pe_str pe_int (pps_cons pe_str pe_int pps_nil)))) (by rfl) (by rfl) (fun z => by cases z) (by decide)))))
theorem ok_law {fd : FuncData} (F : FunD K "law" "law" (defArgs (topS 53)) (defBody (topS 53)) (defScope (topS 53)) (d_law.dvs K) [] (He.ga K "law") fd) : FnW P w K mg base 27 (He.ga K "law") fd ["_law_script"] (spLaw (cx K)) := by
  obtain ⟨_, G_law_begun, b_law_begun, k_law_begun⟩ := ok_law_begun (P := P) (w := w) T TB
  obtain ⟨_, G_law_bench_drawn, b_law_bench_drawn, k_law_bench_drawn, _, v_law_bench_drawn, c_law_bench_drawn⟩ := ok_law_bench_drawn (P := P) (w := w) T TB
  obtain ⟨_, G_law_block__r2, b_law_block__r2, k_law_block__r2, _, v_law_block__r2, c_law_block__r2⟩ := ok_law_block__r2 (P := P) (w := w) T TB
  obtain ⟨_, G_law_some_done, b_law_some_done, k_law_some_done, _, v_law_some_done, c_law_some_done⟩ := ok_law_some_done (P := P) (w := w) T TB
  obtain ⟨_, G_law_take, b_law_take, k_law_take, _, v_law_take, c_law_take⟩ := ok_law_take (P := P) (w := w) T TB
  obtain ⟨_, G_law_undone, b_law_undone, k_law_undone, _, v_law_undone, c_law_undone⟩ := ok_law_undone (P := P) (w := w) T TB
  have nd := sc_law.nd
  refine fnW_of F sc_law (fun vs H Q E h => by obtain ⟨a, ns, rfl, _⟩ := h; rfl) (fun A outer s H vs Q E gd hr h => ?_)
  have tk : Takes (cxOf (L2.CX P w) P w K mg base N_law "law" (defScope (topS 53)) (He.ga K "law") (.ref (codeAt K (He.ga K "law"))) A outer s H E) (fun cls d _ H => E cls d H) := takes_of rfl rfl rfl rfl
  have first : PS (cxOf (L2.CX P w) P w K mg base N_law "law" (defScope (topS 53)) (He.ga K "law") (.ref (codeAt K (He.ga K "law"))) A outer s H E) (defBody (topS 53)).head! _ := ps_set (i := 1) nd rfl (Or.inl rfl) (pe_callW0 G_law_begun gd (hr.mono (by decide)) rfl T.g__law_begun k_law_begun b_law_begun (pa_cons (pv 0) pa_nil))
  have rest : GSs (cxOf (L2.CX P w) P w K mg base N_law "law" (defScope (topS 53)) (He.ga K "law") (.ref (codeAt K (He.ga K "law"))) A outer s H E) (cx K) (fun cls d _ H => E cls d H) (2 ^ 457) (defBody (topS 53)).tail wr_law := gs_le (gs_cons (g_for (passes_of rfl) (gi_rng1 (by rfl) T.n_range (ga_cons (g_op w_add g_int (g_cb w_min2 (by rfl) T.n_min (by decide +kernel) (ga_cons (g_cb w_len (by rfl) T.n_len PySem.boot_len (ga_cons (g_var (pv 0)) ga_nil)) (ga_cons g_int ga_nil)))) ga_nil)) (gg_name (i := 2) nd rfl (Or.inl rfl)) (gs_cons (g_asg (g_call G_law_bench_drawn gd (hr.mono (by decide)) rfl T.g__law_bench_drawn k_law_bench_drawn b_law_bench_drawn .nil (fun _ _ => .nil) tk (ga_cons (g_var (pv 1)) ga_nil)) (gg_tup (ggs_cons (gg_name (i := 3) nd rfl (Or.inl rfl)) (ggs_cons (gg_name (i := 4) nd rfl (Or.inl rfl)) ggs_nil))))
      (gs_cons (g_for (passes_of rfl) (gi_rng1 (by rfl) T.n_range (ga_cons g_int ga_nil)) (gg_name (i := 5) nd rfl (Or.inl rfl)) (gs_cons (g_ifS (g_tnot (g_tval (g_call G_law_some_done gd (hr.mono (by decide)) rfl T.g__law_some_done k_law_some_done b_law_some_done .nil (fun _ _ => .nil) tk (ga_cons (g_var (pv 1)) (ga_cons (g_var (pv 3)) (ga_cons (g_var (pv 4)) (ga_cons (g_call G_law_take gd (hr.mono (by decide)) rfl T.g__law_take k_law_take b_law_take .nil (fun _ _ => .nil) tk (ga_cons (g_var (pv 1)) (ga_cons g_int ga_nil))) ga_nil))))))) (gs_one (g_ret g_bl)) gs_nil)
      (gs_one (g_ifS (g_tcmp (w_ne hr.units) (g_call G_law_block__r2 gd (hr.mono (by decide)) rfl T.g__law_block k_law_block__r2 b_law_block__r2 .nil (fun _ _ => .nil) tk (ga_cons (g_var (pv 1)) (ga_cons (g_var (pv 3)) (ga_cons (g_var (pv 4)) (ga_cons (g_call G_law_take gd (hr.mono (by decide)) rfl T.g__law_take k_law_take b_law_take .nil (fun _ _ => .nil) tk (ga_cons (g_var (pv 1)) (ga_cons g_int ga_nil))) ga_nil))))) g_str (nomark _)) (gs_one (g_ret g_bl)) gs_nil))))
      (gs_cons (g_while (passes_of rfl) (g_tcmp (w_ne0 hr.units0) (g_dget (units1 hr.units) (g_var (pv 4))) (g_lst ga_nil) (nomark _)) (gs_one (g_ifS (g_tnot (g_tval (g_call G_law_undone gd (hr.mono (by decide)) rfl T.g__law_undone k_law_undone b_law_undone .nil (fun _ _ => .nil) tk (ga_cons (g_var (pv 3)) (ga_cons (g_var (pv 4)) ga_nil))))) (gs_one (g_ret g_bl)) gs_nil)))
      (gs_one (g_ifS (g_tnot (g_tval (g_call G_law_undone gd (hr.mono (by decide)) rfl T.g__law_undone k_law_undone b_law_undone .nil (fun _ _ => .nil) tk (ga_cons (g_var (pv 3)) (ga_cons (g_var (pv 4)) ga_nil))))) (gs_one (g_ret g_bl)) gs_nil))))))
      (gs_one (g_ret g_bl))) (by decide +kernel)
  exact ⟨_, pss_cons first rest, law_start (N := N_law) (k := 2 ^ 457) (W := fun cls d _ H => E cls d H) (by decide) (by decide +kernel) law_ok h⟩
end
end KLaw
open PySem PySem.W PySem.Calls PyProof.Rows
theorem PySem.Challenge.cw_crossadds_k63_blocks_of_benches_holds : PySem.Challenge.rw_crossadds_k63_blocks_of_benches.Holds := by
  w_on; o_law
  refine HandSHeadRun.head_any (r := OpenLaw.row PySem.Challenge.rw_crossadds_k63_blocks_of_benches) (q := view (OpenLaw.row PySem.Challenge.rw_crossadds_k63_blocks_of_benches).prog [53]) (H := KLaw.hk) (ob := KLaw.ob) (M := 16000) (loose := KLaw.loose) (d := HandSHeadRun.topDef (OpenLaw.row PySem.Challenge.rw_crossadds_k63_blocks_of_benches).prog 53) (kwd := []) KLaw.ob_eq
    (by kernel_rfl) (fun s => by kernel_rfl) KLaw.run (by kernel_rfl) (by kernel_rfl) (by kernel_rfl) (by rfl) (by first | assumption | decide +kernel) (by decide +kernel) ⟨rfl, rfl, rfl, rfl, rfl, by decide +kernel⟩ ?hw ?hc
  case hw => w_witness2
  case hc =>
    refine DL.walk_of (l := PySem.Challenge.rw_crossadds_k63_blocks_of_benches) (n := 63) (k := 27) (x := "_law_script") rfl (by decide) (by kernel_rfl) ⟨rfl, by decide, by decide⟩ ?F
    intro w mg fa h Y G hmg0
    obtain ⟨K, KX, c⟩ := Y
    have hmg : mg ("law" : PySem.Str) = some (.ref fa) := by
      have e : (HandSHeadRun.topDef (OpenLaw.row PySem.Challenge.rw_crossadds_k63_blocks_of_benches).prog 53).name = ("law" : PySem.Str) := by kernel_rfl
      rw [← e]
      exact hmg0
    have T := KLaw.tx KX G c.t
    have e := hmg.symm.trans T.g_law
    cases e
    obtain ⟨fd, F⟩ := T.f_law
    refine ⟨KLaw.cx K, fd, DL.tabsOf K KLaw.tf, KX, DL.tabs_all (P := fun p => h.get? p.2 = some { cls := .none, data := .fields #[] }) c.empty, DL.tabs_all (P := fun p => K.lookup p.2 = none) c.out, DL.tabs_all (P := fun p => PySem.W.CodeHd h p.1 p.2) (fun f hf => PySem.W.codeHd_of_K KX (c.hd f hf)), ?tb, fun s v => (L2.FunD.bindsA (ps := ["_law_script"]) F fun _ _ _ _ _ _ us hl => match us, hl with | [_], _ => rfl) s [v] rfl, fun base _ _ TB => ?_⟩
    case tb =>
      intro p hp
      simp only [List.mem_cons, List.not_mem_nil, or_false] at hp
      rcases hp with rfl | rfl
      · exact ⟨_, List.mem_cons_self, rfl⟩
      · exact ⟨_, (List.mem_cons_of_mem _ List.mem_cons_self), rfl⟩
    exact KLaw.ok_law (P := (PySem.Challenge.rw_crossadds_k63_blocks_of_benches).prog) (w := w) (base := base) T (fun f hf => TB _ (DL.tabs_mem hf)) F
