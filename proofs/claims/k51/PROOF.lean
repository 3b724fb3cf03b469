import PyProof.Rows.All
import Wide.All
import OpenK.AllK
import Wide.FinOn
import HandS.ForMost
import HandS.Wide
import HandS.WideBits
import HandS.Star
import HandS.Property
import HandS.IsInst
import HandS.Style
import HandS.TupAny
import HandS.Defaults
import HandS.Flow
import HandS.Lambda
import HandS.Exc
import KE.KOpsOwn
import PyProof.InstEq
import PyProof.InstNe
import HandS.TupMul
import HandS.Zip
import HandS.Head0
import HandS.Head1
import HandS.Head2
import HandS.HeadEnd
import HandS.HeadHook1
import HandS.HeadHook2
import KE.GoesMore
import KE.KRevSl
import KE.KIsAll
import HandS.ExcIs
import HandS.ExcField
import PyProof.ReprReads
import PyProof.ReprRoads
import PyProof.ReprLen
import PyProof.P3Eq
import PyProof.Fits
import HandS.ExcInit
import HandS.ExcOwn
import HandS.ClsMeth
import HandS.RaiseMore
import HandS.ExcValue
import HandS.EndTab
import HandS.HeadHook4
import PyProof.ListRange
import HandS.MakeKwOnly
import HandS.OwnEq
import HandS.NamedTupGet
import PyProof.StrReplace2
import PyProof.Rows.Digits
import KE.DataEq
import PyProof.NoPylong
import PyProof.Rows.RuleB_floordiv
import OpenK.KOwn
import HandS.Iter
import HandS.DictTup
import HandS.Conv
import HandS.SortRule
import KE.KDictSum
import HandS.DictComp
import KE.KDictCopyH
import KE.KDictOf
import KE.KDictPairs
import HandS.SortKw
import KE.DataMinMax
import KE.KEqDict
import PySem.Challenge.RW_crossadds_k51_fates
set_option Elab.async false
set_option linter.all false
set_option maxRecDepth 100000
set_option maxHeartbeats 4000000
/-! A0: a logic of plain data over the hand layer: data, cells, the world. -/
namespace DL
open PySem L2

/-- plain data; a cell is a thing that still changes -/
inductive D where
  | none | bool (b : Bool) | int (i : Int) | str (s : Str)
  | list (ds : List D) | tup (ds : List D)
  | dk (ks : List Key) (ds : List D) | dt (ks : List (List Key)) (ds : List D)
  | obj (c : Str) (fs : List Str) (ds : List D)
  | script (ns : List Int) | state | ty (n : String) | cls (n : Str)
  | err (c : Str) (fs : List Str) (ds : List D)
  | cell (a : Addr)
/-- what a cell holds -/
inductive Nd where
  | list (ds : List D) | dk (ks : List Key) (ds : List D) | dt (ks : List (List Key)) (ds : List D)
  | obj (c : Str) (fs : List Str) (ds : List D)
def Nd.frz : Nd → D
  | .list ds => .list ds
  | .dk ks ds => .dk ks ds
  | .dt ks ds => .dt ks ds
  | .obj c fs ds => .obj c fs ds
abbrev Mu := Addr → Option Nd
def up (μ : Mu) (a : Addr) (x : Nd) : Mu := fun b => if b = a then some x else μ b
def del (μ : Mu) (a : Addr) : Mu := fun b => if b = a then Option.none else μ b
theorem up_same {μ : Mu} {a : Addr} {x : Nd} : up μ a x a = some x := if_pos rfl
theorem up_ne {μ : Mu} {a b : Addr} {x : Nd} (h : b ≠ a) : up μ a x b = μ b := if_neg h
theorem up_up {μ : Mu} {a : Addr} {x y : Nd} : up (up μ a x) a y = up μ a y := by
  funext b
  unfold up
  split <;> rfl
theorem del_same {μ : Mu} {a : Addr} : del μ a a = Option.none := if_pos rfl
theorem del_ne {μ : Mu} {a b : Addr} (h : b ≠ a) : del μ a b = μ b := if_neg h
theorem del_up {μ : Mu} {a : Addr} {x : Nd} (h : μ a = Option.none) : del (up μ a x) a = μ := by
  funext b
  by_cases z : b = a
  · subst z
    rw [del_same, h]
  · rw [del_ne z, up_ne z]

/-- the written part, the classes by name -/
structure Ctx where
  K : PySem.W.Frag
  cl : Str → Addr
  tb : List (Addr × Str) := []
  ns : List Str := []
  es : List Str := []
/-- the built-in types that are named -/
def tyNames : List String := ["int", "bool", "str", "list", "tuple", "dict", "NoneType", "ValueError", "KeyError", "ZeroDivisionError", "TypeError"]
/-- where the law's state stands: its dict, its list of wide cells, its list of cells -/
structure SA where
  d : Addr
  l : Addr
  k : Addr
  T : List (Addr × Str) := []

/-- at a: an error of the class cls, its dict at d -/
def ErO (a : Addr) (cls : Value) (d : Option Addr) : HO := .ext fun h => ∃ (oe : Obj) (vs : Array Value), h.get? a = some oe ∧ Zc cls d oe ∧ oe.data = .fields vs
/-- what an error's dict holds -/
def ErF (I : Hp) (d : Option Addr) (fs : List Str) (xs : List V) : Prop := fs.length = xs.length ∧ ((d = none ∧ fs = []) ∨ ∃ dx, d = some dx ∧ I dx = some (.xd (List.zip fs xs)))
/-- no pair that begins with a number (such a pair may be a dict's key) -/
def isIntV : V → Bool
  | .int _ => true
  | _ => false
def noKey : List V → Bool
  | [v, _] => !isIntV v
  | _ => true
/-- a tuple at a: made while running, or one of the written part that is no key -/
def TupA (K : PySem.W.Frag) (I : Hp) (a : Addr) (xs : List V) : Prop := I a = some (.tup xs) ∨ (noKey xs = true ∧ SqT K I a xs)
theorem TupA.sq {K : PySem.W.Frag} {I : Hp} {a : Addr} {xs : List V} (h : TupA K I a xs) : SqT K I a xs := by
  rcases h with h | ⟨_, h⟩
  · exact .inl (.inl h)
  · exact h
mutual
/-- what a value stands for, by what is known -/
inductive Rep (c : Ctx) (S : Option SA) (I : Hp) : D → V → Prop where
  | none : Rep c S I .none .non
  | bool {b} : Rep c S I (.bool b) (.bl b)
  | int {i} : Rep c S I (.int i) (.int i)
  | str {s} : Rep c S I (.str s) (.str s)
  | list {a ds xs} (h : I a = some (.lst xs)) (r : Reps c S I ds xs) : Rep c S I (.list ds) (.ref a)
  | tup {a ds xs} (h : TupA c.K I a xs) (r : Reps c S I ds xs) : Rep c S I (.tup ds) (.ref a)
  | dk {a ks ds xs} (h : I a = some (.dK (List.zip ks xs))) (r : Reps c S I ds xs) (l : ks.length = xs.length) : Rep c S I (.dk ks ds) (.ref a)
  | dt {a ks ds xs} (h : I a = some (.dT (List.zip ks xs))) (r : Reps c S I ds xs) (l : ks.length = xs.length) : Rep c S I (.dt ks ds) (.ref a)
  | obj {a n dx fs ds xs} (h : I a = some (.ins (c.cl n) dx (List.zip fs xs))) (r : Reps c S I ds xs) (l : fs.length = xs.length) (hn : n ∈ c.ns) : Rep c S I (.obj n fs ds) (.ref a)
  | script {a ns} (h : SqL c.K I a (ns.map V.int)) : Rep c S I (.script ns) (.ref a)
  | state {s} (h : S = some s) (ht : s.T = c.tb) : Rep c S I .state (.ref s.d)
  | ty {n} (hn : n ∈ tyNames) : Rep c S I (.ty n) (.ty n)
  | cls {n} (hn : n ∈ c.ns ++ c.es) : Rep c S I (.cls n) (.ref (c.cl n))
  | err {a n d fs ds xs} (h : I a = some (ErO a (.ref (c.cl n)) d)) (hf : ErF I d fs xs) (r : Reps c S I ds xs) (hn : n ∈ c.es) : Rep c S I (.err n fs ds) (.ref a)
  | cell {a} : Rep c S I (.cell a) (.ref a)
inductive Reps (c : Ctx) (S : Option SA) (I : Hp) : List D → List V → Prop where
  | nil : Reps c S I [] []
  | cons {d ds x xs} (h : Rep c S I d x) (r : Reps c S I ds xs) : Reps c S I (d :: ds) (x :: xs)
end

theorem Same.sqT {K : PySem.W.Frag} {H H' : Hp} {a : Addr} {xs : List V} (e : Same H H') (h : SqT K H a xs) : SqT K H' a xs := by
  rcases h with (h | ⟨o, h⟩) | h
  · exact .inl (.inl (e _ _ h))
  · exact .inl (.inr ⟨o, e _ _ h⟩)
  · exact .inr h
theorem Same.tup {K : PySem.W.Frag} {H H' : Hp} {a : Addr} {xs : List V} (e : Same H H') (h : TupA K H a xs) : TupA K H' a xs := by
  rcases h with h | ⟨h, g⟩
  · exact .inl (e _ _ h)
  · exact .inr ⟨h, Same.sqT e g⟩
theorem ErF.mono {I I' : Hp} (e : Same I I') {d : Option Addr} {fs : List Str} {xs : List V} (h : ErF I d fs xs) : ErF I' d fs xs := by
  obtain ⟨h1, h2⟩ := h
  refine ⟨h1, ?_⟩
  rcases h2 with z | ⟨dx, z, q⟩
  · exact .inl z
  · exact .inr ⟨dx, z, e _ _ q⟩
section
variable {c : Ctx} {S : Option SA} {I I' : Hp}
mutual
theorem Rep.mono (e : Same I I') : ∀ {d : D} {v : V}, Rep c S I d v → Rep c S I' d v
  | _, _, .none => .none
  | _, _, .bool => .bool
  | _, _, .int => .int
  | _, _, .str => .str
  | _, _, .list h r => .list (e _ _ h) (Reps.mono e r)
  | _, _, .tup h r => .tup (Same.tup e h) (Reps.mono e r)
  | _, _, .dk h r l => .dk (e _ _ h) (Reps.mono e r) l
  | _, _, .dt h r l => .dt (e _ _ h) (Reps.mono e r) l
  | _, _, .obj h r l hn => .obj (e _ _ h) (Reps.mono e r) l hn
  | _, _, .script h => .script (e.seq h)
  | _, _, .state h t => .state h t
  | _, _, .ty hn => .ty hn
  | _, _, .cls hn => .cls hn
  | _, _, .err h f r hn => .err (e _ _ h) (f.mono e) (Reps.mono e r) hn
  | _, _, .cell => .cell
theorem Reps.mono (e : Same I I') : ∀ {ds : List D} {xs : List V}, Reps c S I ds xs → Reps c S I' ds xs
  | _, _, .nil => .nil
  | _, _, .cons h r => .cons (Rep.mono e h) (Reps.mono e r)
end
theorem Reps.length : ∀ {ds : List D} {xs : List V}, Reps c S I ds xs → ds.length = xs.length
  | _, _, .nil => rfl
  | _, _, .cons _ r => by rw [List.length_cons, List.length_cons, r.length]
theorem Reps.get : ∀ {ds : List D} {xs : List V} {i : Nat} {d : D}, Reps c S I ds xs → ds[i]? = some d → ∃ x, xs[i]? = some x ∧ Rep c S I d x
  | _, _, _, _, .nil, h => by simp at h
  | _, _, 0, _, .cons r _, h => by
    simp at h
    subst h
    exact ⟨_, rfl, r⟩
  | _, _, i + 1, d, .cons _ r, h => by
    obtain ⟨x, h1, h2⟩ := r.get (i := i) (by simpa using h)
    exact ⟨x, by simpa using h1, h2⟩
theorem Reps.append : ∀ {ds es : List D} {xs ys : List V}, Reps c S I ds xs → Reps c S I es ys → Reps c S I (ds ++ es) (xs ++ ys)
  | _, _, _, _, .nil, s => s
  | _, _, _, _, .cons h r, s => .cons h (r.append s)
theorem Reps.set {d : D} {x : V} (q : Rep c S I d x) : ∀ {ds : List D} {xs : List V} (i : Nat), Reps c S I ds xs → Reps c S I (ds.set i d) (xs.set i x)
  | _, _, _, .nil => .nil
  | _, _, 0, .cons _ r => .cons q r
  | _, _, i + 1, .cons h r => .cons h (Reps.set q i r)
theorem Reps.take : ∀ {ds : List D} {xs : List V} (i : Nat), Reps c S I ds xs → Reps c S I (ds.take i) (xs.take i)
  | _, _, 0, _ => .nil
  | _, _, _ + 1, .nil => .nil
  | _, _, i + 1, .cons h r => .cons h (r.take i)
theorem Reps.drop : ∀ {ds : List D} {xs : List V} (i : Nat), Reps c S I ds xs → Reps c S I (ds.drop i) (xs.drop i)
  | _, _, 0, r => r
  | _, _, _ + 1, .nil => .nil
  | _, _, i + 1, .cons _ r => r.drop i
theorem Reps.reverse : ∀ {ds : List D} {xs : List V}, Reps c S I ds xs → Reps c S I ds.reverse xs.reverse
  | _, _, .nil => .nil
  | _, _, .cons h r => by
    rw [List.reverse_cons, List.reverse_cons]
    exact r.reverse.append (.cons h .nil)
theorem Reps.flat {ds : List D} {xs : List V} (q : Reps c S I ds xs) : ∀ n : Nat, Reps c S I (List.replicate n ds).flatten (List.replicate n xs).flatten
  | 0 => .nil
  | n + 1 => by
    rw [List.replicate_succ, List.replicate_succ, List.flatten_cons, List.flatten_cons]
    exact q.append (Reps.flat q n)
theorem Reps.dropLast {ds : List D} {xs : List V} (q : Reps c S I ds xs) : Reps c S I ds.dropLast xs.dropLast := by
  rw [List.dropLast_eq_take, List.dropLast_eq_take, q.length]
  exact q.take _
theorem Reps.ints : ∀ {ns : List Int} {xs : List V}, Reps c S I (ns.map D.int) xs → xs = ns.map V.int
  | [], _, .nil => rfl
  | _ :: ns, _, .cons h r => by
    cases h
    rw [r.ints]
    rfl
theorem Reps.of_ints : ∀ {ns : List Int}, Reps c S I (ns.map D.int) (ns.map V.int)
  | [] => .nil
  | _ :: _ => .cons .int Reps.of_ints
end
/-- what a cell's thing is -/
inductive NdR (c : Ctx) (S : Option SA) (I : Hp) : Nd → HO → Prop where
  | list {ds xs} (r : Reps c S I ds xs) : NdR c S I (.list ds) (.lst xs)
  | dk {ks ds xs} (r : Reps c S I ds xs) (l : ks.length = xs.length) : NdR c S I (.dk ks ds) (.dK (List.zip ks xs))
  | dt {ks ds xs} (r : Reps c S I ds xs) (l : ks.length = xs.length) : NdR c S I (.dt ks ds) (.dT (List.zip ks xs))
  | obj {n dx fs ds xs} (r : Reps c S I ds xs) (l : fs.length = xs.length) (hn : n ∈ c.ns) : NdR c S I (.obj n fs ds) (.ins (c.cl n) dx (List.zip fs xs))
theorem NdR.mono {c : Ctx} {S : Option SA} {I I' : Hp} (e : Same I I') {nd : Nd} {o : HO} (h : NdR c S I nd o) : NdR c S I' nd o := by
  cases h with
  | list r => exact .list (r.mono e)
  | dk r l => exact .dk (r.mono e) l
  | dt r l => exact .dt (r.mono e) l
  | obj r l hn => exact .obj (r.mono e) l hn
theorem NdR.frz {c : Ctx} {S : Option SA} {I : Hp} {nd : Nd} {o : HO} {a : Addr} (h : NdR c S I nd o) (ha : I a = some o) : Rep c S I nd.frz (.ref a) := by
  cases h with
  | list r => exact .list ha r
  | dk r l => exact .dk ha r l
  | dt r l => exact .dt ha r l
  | obj r l hn => exact .obj ha r l hn

/-! ### the world -/
def isDict : HO → Bool
  | .dK _ => true
  | .dT _ => true
  | _ => false
/-- no table of code objects -/
def notTb : HO → Prop
  | .tbl _ => False
  | _ => True
def notTX : HO → Prop
  | .tbl _ => False
  | .ext _ => False
  | .tup _ => False
  | _ => True
theorem notTX.tb : ∀ {o : HO}, notTX o → notTb o := fun {o} h => by cases o <;> first | trivial | exact h
theorem NdR.tx {c : Ctx} {S : Option SA} {I : Hp} {nd : Nd} {o : HO} (h : NdR c S I nd o) : notTX o := by cases h <;> trivial
/-- the places of the state -/
def Cell (a : SA) (b : Addr) : Prop := (b = a.d ∨ b = a.l ∨ b = a.k) ∨ ∃ p ∈ a.T, b = p.1
def StOk (s : SA) (n : Nat) (H : Hp) : Prop := LamX.Tabs s.T H ∧ s.l ≠ s.k ∧ ∃ (ws cs : List Int) (r t : Int),
  H s.d = some (.dK [(Sum.inr "wide", .ref s.l), (Sum.inr "cells", .ref s.k), (Sum.inr "rest", .int r), (Sum.inr "turn", .int t)]) ∧
  H s.l = some (.lst (ws.map V.int)) ∧ H s.k = some (.lst (cs.map V.int)) ∧ ws.length ≤ 63 ∧ cs.length ≤ 63 ∧ 0 ≤ t ∧ t ≤ (n : Int)
/-- a thing that is left alone: nobody knows it, or it is a known dict while it is walked -/
def Lf (S : Option SA) (I : Hp) (μ : Mu) (b : Addr) (o : HO) : Prop := (I b = Option.none ∧ μ b = Option.none ∧ notTX o ∧ ∀ a, S = some a → ¬ Cell a b) ∨ ∃ ob u, o = .frz ob u ∧ isDict u = true ∧ I b = some u
theorem Lf.to {S : Option SA} {I I' : Hp} {μ μ' : Mu} {b : Addr} {o : HO} (h : Lf S I μ b o) (hi : I' b = I b) (hm : μ b = Option.none → μ' b = Option.none) : Lf S I' μ' b o := by
  rcases h with ⟨h1, h2, h3⟩ | ⟨ob, u, h1, h2, h3⟩
  · exact .inl ⟨by rw [hi]; exact h1, hm h2, h3⟩
  · exact .inr ⟨ob, u, h1, h2, by rw [hi]; exact h3⟩
/-- what is known (I), the cells (μ), what is left alone meanwhile (F), the state -/
structure Wd (c : Ctx) (S : Option SA) (F : Hp) (n : Nat) (I : Hp) (μ : Mu) (H : Hp) : Prop where
  i : ∀ b o, I b = some o → H b = some o ∨ (isDict o = true ∧ ∃ ob, H b = some (.frz ob o))
  m : ∀ b nd, μ b = some nd → I b = Option.none ∧ ∃ o, NdR c S I nd o ∧ H b = some o
  s : ∀ a, S = some a → StOk a n H ∧ ∀ b, Cell a b → I b = Option.none ∧ μ b = Option.none
  ni : ∀ b o, I b = some o → notTb o
  f : ∀ b o, F b = some o → H b = some o ∧ Lf S I μ b o
  z : ∃ a, S = some a ∧ a.T = c.tb
theorem none_of {α : Type} {x : Option α} (h : ∀ o, x = some o → False) : x = Option.none := by
  cases e : x with
  | none => rfl
  | some o => exact (h o e).elim
theorem StOk.up {s : SA} {n m : Nat} {H : Hp} (h : StOk s n H) (e : n ≤ m) : StOk s m H := by
  obtain ⟨h9, h0, ws, cs, r, t, h1, h2, h3, h4, h5, h6, h7⟩ := h
  exact ⟨h9, h0, ws, cs, r, t, h1, h2, h3, h4, h5, h6, by omega⟩
theorem StOk.cells {s : SA} {n : Nat} {H : Hp} (h : StOk s n H) {b : Addr} (q : Cell s b) : ∃ o, H b = some o := by
  obtain ⟨h9, h0, ws, cs, r, t, h1, h2, h3, _⟩ := h
  rcases q with (rfl | rfl | rfl) | ⟨p, hp, rfl⟩
  · exact ⟨_, h1⟩
  · exact ⟨_, h2⟩
  · exact ⟨_, h3⟩
  · obtain ⟨ps, z, _⟩ := h9 p hp
    exact ⟨_, z⟩
/-- the tables stay where they and what they tell stay -/
theorem tabs_keep {T : List (Addr × Str)} {H H' : Hp} (h : LamX.Tabs T H) (k : ∀ p ∈ T, H' p.1 = H p.1) (k2 : ∀ b φ, H b = some (.ext φ) → H' b = some (.ext φ)) : LamX.Tabs T H' := fun p hp => by
  obtain ⟨ps, h1, h2, h3⟩ := h p hp
  refine ⟨ps, by rw [k p hp]; exact h1, h2, fun pos cv hc => ?_⟩
  obtain ⟨c, e1, e2⟩ := h3 pos cv hc
  exact ⟨c, e1, k2 _ _ e2⟩
theorem StOk.keep {s : SA} {n : Nat} {H H' : Hp} (h : StOk s n H) (k : ∀ b, Cell s b → H' b = H b) (k2 : ∀ b φ, H b = some (.ext φ) → H' b = some (.ext φ)) : StOk s n H' := by
  obtain ⟨h9, h0, ws, cs, r, t, h1, h2, h3, h4⟩ := h
  exact ⟨tabs_keep h9 (fun p hp => k _ (.inr ⟨p, hp, rfl⟩)) k2, h0, ws, cs, r, t, by rw [k _ (.inl (.inl rfl))]; exact h1, by rw [k _ (.inl (.inr (.inl rfl)))]; exact h2, by rw [k _ (.inl (.inr (.inr rfl)))]; exact h3, h4⟩
section
variable {c : Ctx} {S : Option SA} {n m : Nat} {I H F F' : Hp} {μ μ' : Mu} {p : Addr} {u o : HO} {nd : Nd}
/-- what is left alone and not walked -/
theorem Wd.f0 (w : Wd c S F n I μ H) {b : Addr} {o : HO} (h : F b = some o) (ho : ∀ ob u, o ≠ .frz ob u) : H b = some o ∧ I b = Option.none ∧ μ b = Option.none ∧ notTX o ∧ ∀ a, S = some a → ¬ Cell a b := by
  obtain ⟨h1, h2⟩ := w.f b o h
  rcases h2 with h2 | ⟨ob, u, h3, _⟩
  · exact ⟨h1, h2⟩
  · exact absurd h3 (ho ob u)
theorem Wd.up (w : Wd c S F n I μ H) (e : n ≤ m) : Wd c S F m I μ H := ⟨w.i, w.m, fun a h => ⟨(w.s a h).1.up e, (w.s a h).2⟩, w.ni, w.f, w.z⟩
/-- less is owned -/
theorem Wd.drop (w : Wd c S F n I μ H) (e : ∀ b nd, μ' b = some nd → μ b = some nd) : Wd c S F n I μ' H :=
  ⟨w.i, fun b nd h => w.m b nd (e b nd h), fun a h => ⟨(w.s a h).1, fun b q => ⟨((w.s a h).2 b q).1, none_of fun o z => by
    have := e b o z
    rw [((w.s a h).2 b q).2] at this
    cases this⟩⟩, w.ni, fun b o h => ⟨(w.f b o h).1, (w.f b o h).2.to rfl fun hm => none_of (fun nd z => nomatch hm.symm.trans (e b nd z))⟩, w.z⟩
/-- less is left alone -/
theorem Wd.less (w : Wd c S F n I μ H) (e : ∀ b o, F' b = some o → F b = some o) : Wd c S F' n I μ H := ⟨w.i, w.m, w.s, w.ni, fun b o h => w.f b o (e b o h), w.z⟩
theorem Wd.nf (w : Wd c S F n I μ H) (h : H p = Option.none) : F p = Option.none := none_of fun o e => by
  have := (w.f p o e).1
  rw [h] at this
  cases this
theorem Wd.nfm (w : Wd c S F n I μ H) (h : μ p = some nd) : F p = Option.none := none_of fun o e => by
  rcases (w.f p o e).2 with ⟨_, h2, _⟩ | ⟨ob, u, _, _, h3⟩
  · rw [h] at h2
    cases h2
  · rw [(w.m p nd h).1] at h3
    cases h3
theorem Wd.fresh (w : Wd c S F n I μ H) (h : H p = Option.none) : I p = Option.none ∧ μ p = Option.none := by
  constructor
  · refine none_of fun o e => ?_
    rcases w.i p o e with z | ⟨_, ob, z⟩
    · rw [h] at z; cases z
    · rw [h] at z; cases z
  · refine none_of fun nd e => ?_
    obtain ⟨_, o, _, z⟩ := w.m p nd e
    rw [h] at z; cases z
theorem Wd.ne_st (w : Wd c S F n I μ H) (h : H p = Option.none) {a : SA} (e : S = some a) {b : Addr} (q : Cell a b) : b ≠ p := by
  obtain ⟨o, z⟩ := (w.s a e).1.cells q
  exact ne_of_none z h
theorem ext_new (h : H p = Option.none) : ∀ b φ, H b = some (.ext φ) → upd H p u b = some (.ext φ) := fun b φ e => by
  rw [upd_ne (ne_of_none e h)]
  exact e
theorem same_new (h : I p = Option.none) : Same I (upd I p u) := fun b o e => by
  rw [upd_ne (ne_of_none e h)]
  exact e
/-- a new thing of which nothing is said -/
theorem Wd.frame (w : Wd c S F n I μ H) (h : H p = Option.none) : Wd c S F n I μ (upd H p u) := by
  have hf := w.fresh h
  refine ⟨fun b o e => ?_, fun b nd e => ?_, fun a e => ⟨?_, (w.s a e).2⟩, w.ni, fun b o e => ⟨by rw [upd_ne (ne_of_none (w.f b o e).1 h)]; exact (w.f b o e).1, (w.f b o e).2⟩, w.z⟩
  · rw [upd_ne (ne_of_none e hf.1)]
    exact w.i b o e
  · obtain ⟨h1, o, h2, h3⟩ := w.m b nd e
    exact ⟨h1, o, h2, by rw [upd_ne (ne_of_none h3 h)]; exact h3⟩
  · exact (w.s a e).1.keep (fun b q => upd_ne (w.ne_st h e q)) (ext_new h)
/-- it is known from now on -/
theorem Wd.know (w : Wd c S F n I μ H) (h : H p = some u) (hi : I p = Option.none) (hm : μ p = Option.none) (hc : ∀ a, S = some a → ¬ Cell a p) (hf : F p = Option.none) (hu : notTb u) : Wd c S F n (upd I p u) μ H := by
  have sm : Same I (upd I p u) := same_new hi
  have ap : ∀ {b : Addr}, b ≠ p → upd I p u b = I b := fun z => upd_ne z
  refine ⟨fun b o e => ?_, fun b nd e => ?_, fun a e => ⟨(w.s a e).1, fun b q => ?_⟩, fun b o e => ?_, fun b o e => ⟨(w.f b o e).1, (w.f b o e).2.to (ap (ne_of_none e hf)) id⟩, w.z⟩
  · by_cases z : b = p
    · subst z
      rw [upd_same] at e
      cases e
      exact .inl h
    · rw [ap z] at e
      exact w.i b o e
  · have z : b ≠ p := fun z => by
      rw [z, hm] at e
      cases e
    obtain ⟨h1, o, h2, h3⟩ := w.m b nd e
    exact ⟨by rw [ap z]; exact h1, o, h2.mono sm, h3⟩
  · have z : b ≠ p := fun z => hc a e (z ▸ q)
    rw [ap z]
    exact (w.s a e).2 b q
  · by_cases z : b = p
    · subst z
      rw [upd_same] at e
      cases e
      exact hu
    · rw [ap z] at e
      exact w.ni b o e
/-- it is a cell from now on -/
theorem Wd.own (w : Wd c S F n I μ H) (r : NdR c S I nd u) (h : H p = some u) (hi : I p = Option.none) (hc : ∀ a, S = some a → ¬ Cell a p) (hf : F p = Option.none) : Wd c S F n I (DL.up μ p nd) H := by
  refine ⟨w.i, fun b nd' e => ?_, fun a e => ⟨(w.s a e).1, fun b q => ?_⟩, w.ni, fun b o e => ⟨(w.f b o e).1, (w.f b o e).2.to rfl fun hm => by rw [up_ne (ne_of_none e hf)]; exact hm⟩, w.z⟩
  · by_cases z : b = p
    · subst z
      rw [up_same] at e
      cases e
      exact ⟨hi, u, r, h⟩
    · rw [up_ne z] at e
      exact w.m b nd' e
  · rw [up_ne fun (z : b = p) => hc a e (z ▸ q)]
    exact (w.s a e).2 b q
theorem Wd.no_cell (w : Wd c S F n I μ H) (h : H p = Option.none) : ∀ a, S = some a → ¬ Cell a p := fun _ e q => w.ne_st h e q rfl
/-- a new thing, known -/
theorem Wd.new (w : Wd c S F n I μ H) (h : H p = Option.none) (hu : notTb u := by trivial) : Wd c S F n (upd I p u) μ (upd H p u) :=
  (w.frame h).know upd_same (w.fresh h).1 (w.fresh h).2 (w.no_cell h) (w.nf h) hu
/-- a new thing, a cell -/
theorem Wd.newCell (w : Wd c S F n I μ H) (h : H p = Option.none) (r : NdR c S I nd u) : Wd c S F n I (DL.up μ p nd) (upd H p u) :=
  (w.frame h).own r upd_same (w.fresh h).1 (w.no_cell h) (w.nf h)
/-- a cell is changed -/
theorem Wd.put (w : Wd c S F n I μ H) {nd0 : Nd} (h : μ p = some nd0) (r : NdR c S I nd u) : Wd c S F n I (DL.up μ p nd) (upd H p u) := by
  obtain ⟨hi, o0, r0, h0⟩ := w.m p nd0 h
  have hc : ∀ a, S = some a → ¬ Cell a p := fun a e q => by
    have := ((w.s a e).2 p q).2
    rw [h] at this
    cases this
  have hf := w.nfm h
  refine ⟨fun b o e => ?_, fun b nd' e => ?_, fun a e => ⟨?_, fun b q => ?_⟩, w.ni, fun b o e => ⟨by rw [upd_ne (ne_of_none e hf)]; exact (w.f b o e).1, (w.f b o e).2.to rfl fun hm => by rw [up_ne (ne_of_none e hf)]; exact hm⟩, w.z⟩
  · rw [upd_ne (ne_of_none e hi)]
    exact w.i b o e
  · by_cases z : b = p
    · subst z
      rw [up_same] at e
      cases e
      exact ⟨hi, u, r, upd_same⟩
    · rw [up_ne z] at e
      rw [upd_ne z]
      exact w.m b nd' e
  · refine (w.s a e).1.keep (fun b q => upd_ne fun z => hc a e (z ▸ q)) fun b φ z => ?_
    rw [upd_ne fun q => ?_]
    · exact z
    · rw [q, h0] at z
      cases z
      exact r0.tx
  · rw [up_ne fun (z : b = p) => hc a e (z ▸ q)]
    exact (w.s a e).2 b q
/-- a cell is known from now on -/
theorem Wd.freeze (w : Wd c S F n I μ H) (h : μ p = some nd) : ∃ o, NdR c S I nd o ∧ H p = some o ∧ I p = Option.none ∧ Wd c S F n (upd I p o) (del μ p) H := by
  obtain ⟨hi, o, r, h0⟩ := w.m p nd h
  refine ⟨o, r, h0, hi, (w.drop fun b nd' e => ?_).know h0 hi del_same (fun a e q => ?_) ?_ r.tx.tb⟩
  · by_cases z : b = p
    · rw [z, del_same] at e
      cases e
    · rw [del_ne z] at e
      exact e
  · have := ((w.s a e).2 p q).2
    rw [h] at this
    cases this
  · exact w.nfm h
theorem Wd.lst (w : Wd c S F n I μ H) {xs : List V} (h : I p = some (.lst xs)) : H p = some (.lst xs) := by
  rcases w.i p _ h with z | ⟨z, _⟩
  · exact z
  · cases z
theorem Wd.ins (w : Wd c S F n I μ H) {C dx : Addr} {fs : List (Str × V)} (h : I p = some (.ins C dx fs)) : H p = some (.ins C dx fs) := by
  rcases w.i p _ h with z | ⟨z, _⟩
  · exact z
  · cases z
theorem Wd.tupH (w : Wd c S F n I μ H) {K : PySem.W.Frag} {xs : List V} (h : TupA K I p xs) : SqT K H p xs := by
  rcases h.sq with (h | ⟨o, h⟩) | h
  · rcases w.i p _ h with z | ⟨z, _⟩
    · exact .inl (.inl z)
    · cases z
  · rcases w.i p _ h with z | ⟨z, _⟩
    · exact .inl (.inr ⟨o, z⟩)
    · cases z
  · exact .inr h
theorem Wd.seqH (w : Wd c S F n I μ H) {K : PySem.W.Frag} {xs : List V} (h : SqL K I p xs) : SqL K H p xs := by
  rcases h with (h | ⟨o, h⟩) | h
  · rcases w.i p _ h with z | ⟨z, _⟩
    · exact .inl (.inl z)
    · cases z
  · rcases w.i p _ h with z | ⟨z, _⟩
    · exact .inl (.inr ⟨o, z⟩)
    · cases z
  · exact .inr h
end
/-! ### the names' values -/
abbrev EnvD := List (Option D)
def gt : EnvD → Nat → Option D
  | [], _ => Option.none
  | x :: _, 0 => x
  | _ :: r, n + 1 => gt r n
def st : EnvD → Nat → Option D → EnvD
  | [], _, _ => []
  | _ :: r, 0, x => x :: r
  | y :: r, n + 1, x => y :: st r n x
inductive EnvR (c : Ctx) (S : Option SA) (I : Hp) : EnvD → L2.St → Prop where
  | nil : EnvR c S I [] []
  | no {e σ x} (h : EnvR c S I e σ) : EnvR c S I (Option.none :: e) (x :: σ)
  | yes {e σ d v} (r : Rep c S I d v) (h : EnvR c S I e σ) : EnvR c S I (some d :: e) (some v :: σ)
section
variable {c : Ctx} {S : Option SA} {I I' : Hp}
theorem EnvR.mono (k : Same I I') : ∀ {e : EnvD} {σ : L2.St}, EnvR c S I e σ → EnvR c S I' e σ
  | _, _, .nil => .nil
  | _, _, .no h => .no (h.mono k)
  | _, _, .yes r h => .yes (r.mono k) (h.mono k)
theorem EnvR.len : ∀ {e : EnvD} {σ : L2.St}, EnvR c S I e σ → e.length = σ.length
  | _, _, .nil => rfl
  | _, _, .no h => by rw [List.length_cons, List.length_cons, h.len]
  | _, _, .yes _ h => by rw [List.length_cons, List.length_cons, h.len]
theorem EnvR.get {d : D} : ∀ {e : EnvD} {σ : L2.St} {i : Nat}, EnvR c S I e σ → gt e i = some d → ∃ v, σ[i]? = some (some v) ∧ Rep c S I d v
  | _, _, _, .nil, h => by simp [gt] at h
  | _, _, 0, .no _, h => by simp [gt] at h
  | _, _, 0, .yes r _, h => by
    simp only [gt, Option.some.injEq] at h
    subst h
    exact ⟨_, rfl, r⟩
  | _, _, i + 1, .no q, h => by simpa using q.get (i := i) (by simpa [gt] using h)
  | _, _, i + 1, .yes _ q, h => by simpa using q.get (i := i) (by simpa [gt] using h)
theorem EnvR.put {d : D} {v : V} (r : Rep c S I d v) : ∀ {e : EnvD} {σ : L2.St} (i : Nat), EnvR c S I e σ → EnvR c S I (st e i (some d)) (σ.set i (some v))
  | _, _, _, .nil => .nil
  | _, _, 0, .no h => .yes r h
  | _, _, 0, .yes _ h => .yes r h
  | _, _, i + 1, .no h => .no (EnvR.put r i h)
  | _, _, i + 1, .yes q h => .yes q (EnvR.put r i h)
theorem EnvR.clr {x : Option V} : ∀ {e : EnvD} {σ : L2.St} (i : Nat), EnvR c S I e σ → EnvR c S I (st e i Option.none) (σ.set i x)
  | _, _, _, .nil => .nil
  | _, _, 0, .no h => .no h
  | _, _, 0, .yes _ h => .no h
  | _, _, i + 1, .no h => .no (EnvR.clr i h)
  | _, _, i + 1, .yes q h => .yes q (EnvR.clr i h)
/-- comprehension names are gone -/
def wipeE (e : EnvD) : List Nat → EnvD
  | [] => e
  | v :: vs => st (wipeE e vs) v Option.none
theorem EnvR.wipe : ∀ (vs : List Nat) {e : EnvD} {σ : L2.St}, EnvR c S I e σ → EnvR c S I (wipeE e vs) (L2.wipe σ vs)
  | [], _, _, h => h
  | v :: vs, _, _, h => EnvR.clr v (EnvR.wipe vs h)
theorem EnvR.init (m : Nat) : ∀ {ds : List D} {vs : List V}, Reps c S I ds vs → EnvR c S I (ds.map some ++ List.replicate m Option.none) (vs.map some ++ List.replicate m Option.none)
  | _, _, .nil => by
    induction m with
    | zero => exact .nil
    | succ m ih => exact .no ih
  | _, _, .cons r rs => .yes r (EnvR.init m rs)
end
/-- an error as it leaves -/
def ErrAt (c : Ctx) (S : Option SA) (I : Hp) (err : D) (cls : Value) (d : Option Addr) : Prop := ∃ n fs ds xs, err = .err n fs ds ∧ cls = .ref (c.cl n) ∧ ErF I d fs xs ∧ Reps c S I ds xs ∧ n ∈ c.es
theorem ErrAt.mono {c : Ctx} {S : Option SA} {I I' : Hp} (e : Same I I') {err : D} {cls : Value} {d : Option Addr} (h : ErrAt c S I err cls d) : ErrAt c S I' err cls d := by
  obtain ⟨n, fs, ds, xs, h1, h2, h3, h4⟩ := h
  exact ⟨n, fs, ds, xs, h1, h2, h3.mono e, h4.1.mono e, h4.2⟩
end DL

set_option Elab.async false
set_option linter.all false
set_option maxRecDepth 100000
set_option maxHeartbeats 4000000
/-! A1: wishes over data (weakest preconditions), and that a reading keeps them: expressions. -/
namespace DL
open PySem PyProof.Rows L2
/-- the most draws that are mixed -/
def LIM : Nat := 2 ^ 20000
/-- a result: a piece of data, or a new thing that nobody holds yet -/
inductive Rs where
  | v (d : D) | n (nd : Nd)
abbrev QD := D → Mu → Prop
abbrev QR := Rs → Mu → Prop
abbrev WE := EnvD → Mu → QD → QD → Prop
abbrev WT := EnvD → Mu → (Bool → Mu → Prop) → QD → Prop
abbrev WA := EnvD → Mu → (List D → Mu → Prop) → QD → Prop
abbrev WO := EnvD → Mu → (Option Int → Mu → Prop) → QD → Prop
abbrev WOp := D → D → Mu → QR → QD → Prop
abbrev WU := D → Mu → QR → QD → Prop
abbrev WC := List D → Mu → QR → QD → Prop
abbrev WM := D → List D → Mu → QR → QD → Prop
/-- a def -/
abbrev WP := List D → Mu → QD → QD → Prop
/-- a new thing is known from now on (false), or a cell (true) -/
def sett : Bool → QD → QR
  | _, Q, .v d, μ => Q d μ
  | false, Q, .n nd, μ => Q nd.frz μ
  | true, Q, .n nd, μ => ∀ p, μ p = Option.none → Q (.cell p) (up μ p nd)
/-! ### wishes -/
def wV (i : Nat) : WE := fun e μ Q _ => match gt e i with
  | some d => Q d μ
  | Option.none => False
def wK (d : D) : WE := fun _ μ Q _ => Q d μ
def wOp (m : Bool) (o : WOp) (a b : WE) : WE := fun e μ Q X => a e μ (fun x μ1 => b e μ1 (fun y μ2 => o x y μ2 (sett m Q) X) X) X
def wUn (m : Bool) (o : WU) (a : WE) : WE := fun e μ Q X => a e μ (fun x μ1 => o x μ1 (sett m Q) X) X
def waNil : WA := fun _ μ Q _ => Q [] μ
def waCons (a : WE) (r : WA) : WA := fun e μ Q X => a e μ (fun x μ1 => r e μ1 (fun xs μ2 => Q (x :: xs) μ2) X) X
def wTup (a : WA) : WE := fun e μ Q X => a e μ (fun xs μ1 => xs.length ≤ sizeLine ∧ Q (.tup xs) μ1) X
def wLst (m : Bool) (a : WA) : WE := fun e μ Q X => a e μ (fun xs μ1 => xs.length ≤ sizeLine ∧ sett m Q (.n (.list xs)) μ1) X
def wCb (m : Bool) (o : WC) (a : WA) : WE := fun e μ Q X => a e μ (fun xs μ1 => o xs μ1 (sett m Q) X) X
/-- tests -/
def wTst (a : WE) : WT := fun e μ Q X => a e μ (fun x μ1 => match x with
  | .bool b => Q b μ1
  | _ => False) X
def wNotT (t : WT) : WT := fun e μ Q X => t e μ (fun b μ1 => Q (!b) μ1) X
def wAndT (t u : WT) : WT := fun e μ Q X => t e μ (fun b μ1 => if b = true then u e μ1 Q X else Q false μ1) X
def wOrT (t u : WT) : WT := fun e μ Q X => t e μ (fun b μ1 => if b = true then Q true μ1 else u e μ1 Q X) X
def wIf (t : WT) (a b : WE) : WE := fun e μ Q X => t e μ (fun k μ1 => if k = true then a e μ1 Q X else b e μ1 Q X) X
def wAnd (a b : WE) : WE := fun e μ Q X => a e μ (fun x μ1 => match x with
  | .bool k => if k = true then b e μ1 Q X else Q (.bool false) μ1
  | _ => False) X
def wOr (a b : WE) : WE := fun e μ Q X => a e μ (fun x μ1 => match x with
  | .bool k => if k = true then Q (.bool true) μ1 else b e μ1 Q X
  | _ => False) X
def wNot (a : WE) : WE := fun e μ Q X => a e μ (fun x μ1 => match x with
  | .bool k => Q (.bool (!k)) μ1
  | _ => False) X
def woNone : WO := fun _ μ Q _ => Q Option.none μ
def woSome (a : WE) : WO := fun e μ Q X => a e μ (fun x μ1 => match x with
  | .int i => Q (some i) μ1
  | _ => False) X
def wSl (m : Bool) (o : D → Option Int → Option Int → Mu → QR → QD → Prop) (a : WE) (l h : WO) : WE := fun e μ Q X => a e μ (fun x μ1 => l e μ1 (fun lo μ2 => h e μ2 (fun hi μ3 => o x lo hi μ3 (sett m Q) X) X) X) X
/-! ### readings -/
section
variable (c : Ctx) (W : WX) (S : Option SA) (F : Hp) (n : Nat) (I : Hp)
def RsR (S : Option SA) (F : Hp) (I : Hp) (μ : Mu) (H : Hp) : Rs → V → Prop
  | .v d, v => Rep c S I d v
  | .n nd, v => ∃ l o, v = .ref l ∧ H l = some o ∧ NdR c S I nd o ∧ I l = Option.none ∧ μ l = Option.none ∧ (∀ a, S = some a → ¬ Cell a l) ∧ F l = Option.none
def QV (Qd : QD) (Q : VK) : Prop := ∀ d μ' v I' H', Qd d μ' → Same I I' → Wd c S F n I' μ' H' → Rep c S I' d v → Q v H'
def QVR (Qd : QR) (Q : VK) : Prop := ∀ r μ' v I' H', Qd r μ' → Same I I' → Wd c S F n I' μ' H' → RsR c S F I' μ' H' r v → Q v H'
def QVA (Qd : List D → Mu → Prop) (Q : List V → Hp → Prop) : Prop := ∀ ds μ' vs I' H', Qd ds μ' → Same I I' → Wd c S F n I' μ' H' → Reps c S I' ds vs → Q vs H'
def QVB {α : Type} (Qd : α → Mu → Prop) (Q : α → Hp → Prop) : Prop := ∀ b μ' I' H', Qd b μ' → Same I I' → Wd c S F n I' μ' H' → Q b H'
def XV (σ : L2.St) (Xd : QD) : Prop := ∀ d μ' cls dx I' H', Xd d μ' → Same I I' → Wd c S F n I' μ' H' → ErrAt c S I' d cls dx → W cls dx σ H'
end
section
variable {c : Ctx} {W : WX} {S : Option SA} {F : Hp} {n n' : Nat} {I I' : Hp} {σ : L2.St} {Xd : QD}
theorem XV.mono (h : XV c W S F n I σ Xd) (e : n' ≤ n) (s : Same I I') : XV c W S F n' I' σ Xd := fun d μ' cls dx I2 H2 p s2 w er => h d μ' cls dx I2 H2 p (s.trans s2) (w.up e) er
theorem QV.mono {Qd : QD} {Q : VK} (h : QV c S F n I Qd Q) (e : n' ≤ n) (s : Same I I') : QV c S F n' I' Qd Q := fun d μ' v I2 H2 p s2 w er => h d μ' v I2 H2 p (s.trans s2) (w.up e) er
theorem QVB.mono {α : Type} {Qd : α → Mu → Prop} {Q : α → Hp → Prop} (h : QVB c S F n I Qd Q) (e : n' ≤ n) (s : Same I I') : QVB c S F n' I' Qd Q := fun d μ' I2 H2 p s2 w => h d μ' I2 H2 p (s.trans s2) (w.up e)
theorem RsR.new {μ : Mu} {H : Hp} {p : Addr} {u : HO} {nd : Nd} (w : Wd c S F n I μ H) (h : H p = Option.none) (r : NdR c S I nd u) : Wd c S F n I μ (upd H p u) ∧ RsR c S F I μ (upd H p u) (.n nd) (.ref p) :=
  ⟨w.frame h, p, u, rfl, upd_same, r, (w.fresh h).1, (w.fresh h).2, w.no_cell h, w.nf h⟩
/-- a result settles -/
theorem settle {μ : Mu} {H : Hp} {r : Rs} {v : V} {m : Bool} {Q : QD} (w : Wd c S F n I μ H) (hr : RsR c S F I μ H r v) (h : sett m Q r μ) : ∃ d μ' I', Q d μ' ∧ Same I I' ∧ Wd c S F n I' μ' H ∧ Rep c S I' d v := by
  cases r with
  | v d => exact ⟨d, μ, I, (by cases m <;> exact h), Same.refl I, w, hr⟩
  | n nd =>
    obtain ⟨l, o, rfl, hl, nr, hi, hm, hc, hf⟩ := hr
    cases m with
    | false =>
      have sm : Same I (upd I l o) := same_new hi
      exact ⟨nd.frz, μ, upd I l o, h, sm, w.know hl hi hm hc hf nr.tx.tb, (nr.mono sm).frz upd_same⟩
    | true => exact ⟨.cell l, up μ l nd, I, h l hm, Same.refl I, w.own nr hl hi hc hf, .cell⟩
theorem QV.sett {m : Bool} {Qd : QD} {Q : VK} (h : QV c S F n I Qd Q) : QVR c S F n I (sett m Qd) Q := fun r μ' v I' H' p s w rr => by
  obtain ⟨d, μ2, I2, q, s2, w2, r2⟩ := settle w rr p
  exact h d μ2 v I2 H' q (s.trans s2) w2 r2
end
section
variable (c : Ctx) (W : WX) (k : Nat)
def ldE (w : WE) : TE := fun σ H Q => ∃ S F n I μ e Qd Xd, n + k ≤ LIM ∧ EnvR c S I e σ ∧ Wd c S F n I μ H ∧ w e μ Qd Xd ∧ QV c S F (n + k) I Qd Q ∧ XV c W S F (n + k) I σ Xd
def ldT (w : WT) : TT := fun σ H Q => ∃ S F n I μ e Qd Xd, n + k ≤ LIM ∧ EnvR c S I e σ ∧ Wd c S F n I μ H ∧ w e μ Qd Xd ∧ QVB c S F (n + k) I Qd Q ∧ XV c W S F (n + k) I σ Xd
def ldA (w : WA) : TA := fun σ H Q => ∃ S F n I μ e Qd Xd, n + k ≤ LIM ∧ EnvR c S I e σ ∧ Wd c S F n I μ H ∧ w e μ Qd Xd ∧ QVA c S F (n + k) I Qd Q ∧ XV c W S F (n + k) I σ Xd
def ldO (w : WO) : TO := fun σ H Q => ∃ S F n I μ e Qd Xd, n + k ≤ LIM ∧ EnvR c S I e σ ∧ Wd c S F n I μ H ∧ w e μ Qd Xd ∧ QVB c S F (n + k) I Qd Q ∧ XV c W S F (n + k) I σ Xd
/-- operations by values -/
def ld2 (o : WOp) (σ : L2.St) : R2 := fun x y H Q => ∃ S F n I μ dx dy Qd Xd, n + k ≤ LIM ∧ Wd c S F n I μ H ∧ Rep c S I dx x ∧ Rep c S I dy y ∧ o dx dy μ Qd Xd ∧ QVR c S F (n + k) I Qd Q ∧ XV c W S F (n + k) I σ Xd
def ld1 (o : WU) (σ : L2.St) : V → Hp → VK → Prop := fun x H Q => ∃ S F n I μ dx Qd Xd, n + k ≤ LIM ∧ Wd c S F n I μ H ∧ Rep c S I dx x ∧ o dx μ Qd Xd ∧ QVR c S F (n + k) I Qd Q ∧ XV c W S F (n + k) I σ Xd
def ldC (o : WC) (σ : L2.St) : List V → Hp → VK → Prop := fun xs H Q => ∃ S F n I μ ds Qd Xd, n + k ≤ LIM ∧ Wd c S F n I μ H ∧ Reps c S I ds xs ∧ o ds μ Qd Xd ∧ QVR c S F (n + k) I Qd Q ∧ XV c W S F (n + k) I σ Xd
def ldSl (o : D → Option Int → Option Int → Mu → QR → QD → Prop) (σ : L2.St) : V → Option Int → Option Int → Hp → VK → Prop := fun x lo hi H Q => ∃ S F n I μ d Qd Xd, n + k ≤ LIM ∧ Wd c S F n I μ H ∧ Rep c S I d x ∧ o d lo hi μ Qd Xd ∧ QVR c S F (n + k) I Qd Q ∧ XV c W S F (n + k) I σ Xd
end
/-! ### judgements -/
section
variable (X : Cx) (c : Ctx) (W : WX) (k : Nat)
abbrev GE (ex : Expr) (w : WE) : Prop := PE X ex (ldE c W k w)
abbrev GT (ex : Expr) (w : WT) : Prop := PT X ex (ldT c W k w)
abbrev GW (ex : Expr) (w : WT) : Prop := PW X ex (ldT c W k w)
abbrev GA (es : List Expr) (w : WA) : Prop := PA X es (ldA c W k w)
abbrev GO (ex : Option Expr) (w : WO) : Prop := PO X ex (ldO c W k w)
/-- an operation that keeps a wish -/
def Op2 (f : Value → Value → Sem Value) (o : WOp) : Prop := ∀ (pins : List (Addr × Obj)) (s : Shared) (σ : L2.St) (H : Hp) (x y : V) (v u : Value) (Q : VK), Inv X pins σ H s → RelV x v → RelV y u → ld2 c W k o σ x y H Q → wpAny (model X.prog X.w) X.A (f v u) (EP X pins σ Q) X.xe s
def Op1 (f : Value → Sem Value) (o : WU) : Prop := ∀ (pins : List (Addr × Obj)) (s : Shared) (σ : L2.St) (H : Hp) (x : V) (v : Value) (Q : VK), Inv X pins σ H s → RelV x v → ld1 c W k o σ x H Q → wpAny (model X.prog X.w) X.A (f v) (EP X pins σ Q) X.xe s
end
theorem _root_.L2.PE.imp {X : Cx} {ex : Expr} {t t' : TE} (h : PE X ex t) (i : ∀ σ H Q, t' σ H Q → t σ H Q) : PE X ex t' := ⟨fun pins s σ H Q J z => h.run pins s σ H Q J (i σ H Q z)⟩
theorem _root_.L2.PT.imp {X : Cx} {ex : Expr} {t t' : TT} (h : PT X ex t) (i : ∀ σ H Q, t' σ H Q → t σ H Q) : PT X ex t' := ⟨fun pins s σ H Q J z => h.run pins s σ H Q J (i σ H Q z)⟩
theorem _root_.L2.PW.imp {X : Cx} {ex : Expr} {t t' : TT} (h : PW X ex t) (i : ∀ σ H Q, t' σ H Q → t σ H Q) : PW X ex t' := ⟨fun wh pins s σ H Q J z => h.run wh pins s σ H Q J (i σ H Q z)⟩
theorem _root_.L2.PA.imp {X : Cx} {es : List Expr} {t t' : TA} (h : PA X es t) (i : ∀ σ H Q, t' σ H Q → t σ H Q) : PA X es t' := ⟨fun pos pins s σ H Q J z => h.run pos pins s σ H Q J (i σ H Q z)⟩
section
variable {X : Cx} {c : Ctx} {W : WX} {k ka kb kc ko : Nat} {a b d : Expr} {wa wb : WE} {o : WOp} {m : Bool} {pos : Pos} {es : List Expr} {wr : WA} {wt wu : WT}
theorem op2_of {f : Value → Value → Sem Value} {r : R2} (h : OpR X f r) (i : ∀ σ x y H Q, ld2 c W k o σ x y H Q → r x y H Q) : Op2 X c W k f o := fun pins s σ H x y v u Q J rx ry z => h pins s σ H x y v u Q J rx ry (i σ x y H Q z)
/-- two expressions in a row, as wishes -/
theorem ld_two {o : WOp} {σ : L2.St} {H : Hp} {Q : VK} (h : ldE c W (ka + (kb + ko)) (wOp m o wa wb) σ H Q) : ldE c W ka wa σ H fun x H1 => ldE c W kb wb σ H1 fun y H2 => ld2 c W ko o σ x y H2 Q := by
  obtain ⟨S, F, n, I, μ, e, Qd, Xd, hl, he, hw, h, q, x⟩ := h
  refine ⟨S, F, n, I, μ, e, _, Xd, by omega, he, hw, h, fun da μ1 va I1 H1 pa s1 w1 ra => ?_, x.mono (by omega) (Same.refl I)⟩
  refine ⟨S, F, n + ka, I1, μ1, e, _, Xd, by omega, he.mono s1, w1, pa, fun db μ2 vb I2 H2 pb s2 w2 rb => ?_, x.mono (by omega) s1⟩
  exact ⟨S, F, n + ka + kb, I2, μ2, da, db, _, Xd, by omega, w2, ra.mono s2, rb, pb, (q.mono (by omega) (s1.trans s2)).sett, x.mono (by omega) (s1.trans s2)⟩
theorem g_op {op : Operator} (ho : Op2 X c W ko (binaryOp op) o) (ha : GE X c W ka a wa) (hb : GE X c W kb b wb) : GE X c W (ka + (kb + ko)) (.BinOp a op b pos) (wOp m o wa wb) :=
  ⟨fun pins s σ H Q J h => wpAny_BinOp (binT ha hb J (ld_two h) fun v u s2 x y H2 I2 rx ry q => ho pins s2 σ H2 x y v u Q I2 rx ry q)⟩
theorem ld_un {o : WU} {σ : L2.St} {H : Hp} {Q : VK} (h : ldE c W (ka + ko) (wUn m o wa) σ H Q) : ldE c W ka wa σ H fun x H1 => ld1 c W ko o σ x H1 Q := by
  obtain ⟨S, F, n, I, μ, e, Qd, Xd, hl, he, hw, h, q, x⟩ := h
  refine ⟨S, F, n, I, μ, e, _, Xd, by omega, he, hw, h, fun da μ1 va I1 H1 pa s1 w1 ra => ?_, x.mono (by omega) (Same.refl I)⟩
  exact ⟨S, F, n + ka, I1, μ1, da, _, Xd, by omega, w1, ra, pa, (q.mono (by omega) s1).sett, x.mono (by omega) s1⟩
theorem g_un {op : UnaryOp} {o : WU} (ho : Op1 X c W ko (unaryOp op) o) (ha : GE X c W ka a wa) : GE X c W (ka + ko) (.UnaryOp op a pos) (wUn m o wa) :=
  ⟨fun pins s σ H Q J h => UnaryOp_ (thn (ha.run pins s σ H _ J (ld_un h)) fun v s1 ⟨x, H1, I1, r1, q1⟩ => ho pins s1 σ H1 x v Q I1 r1 q1)⟩
theorem g_cmp {op : CmpOp} (ho : Op2 X c W ko (compareOp op) o) (ha : GE X c W ka a wa) (hb : GE X c W kb b wb) (hm : behindInMarks op b = false) : GE X c W (ka + (kb + ko)) (.Compare a [op] [b] pos) (wOp m o wa wb) :=
  ⟨fun pins s σ H Q J h => wpAny_Compare1 (binT ha hb J (ld_two h) fun v u s2 x y H2 I2 rx ry q => ho pins s2 σ H2 x y v u Q I2 rx ry q) hm⟩
/-- a value as a test -/
theorem ld_tst {σ : L2.St} {H : Hp} {Q : Bool → Hp → Prop} (h : ldT c W k (wTst wa) σ H Q) : ldE c W k wa σ H fun x H' => ∃ k, x = .bl k ∧ Q k H' := by
  obtain ⟨S, F, n, I, μ, e, Qd, Xd, hl, he, hw, h, q, x⟩ := h
  refine ⟨S, F, n, I, μ, e, _, Xd, hl, he, hw, h, fun da μ1 va I1 H1 pa s1 w1 ra => ?_, x⟩
  cases ra <;> first | exact False.elim pa | exact ⟨_, rfl, q _ μ1 I1 H1 pa s1 w1⟩
theorem g_tcmp {op : CmpOp} (ho : Op2 X c W ko (compareOp op) o) (ha : GE X c W ka a wa) (hb : GE X c W kb b wb) (hm : behindInMarks op b = false) : GT X c W (ka + (kb + ko)) (.Compare a [op] [b] pos) (wTst (wOp false o wa wb)) := by
  refine ⟨fun pins s σ H Q J h => ?_⟩
  refine wpAny_isTrue_Compare1 (thn (ha.run pins s σ H _ J (ld_two (ld_tst h))) fun v s1 ⟨x, H1, I1, r1, q1⟩ => thn (hb.run pins s1 σ H1 _ I1 q1) fun u s2 ⟨y, H2, I2, r2, q2⟩ =>
    thn (ho pins s2 σ H2 x y v u _ I2 r1 r2 q2) fun cc s3 ⟨z, H3, I3, r3, k, e, q3⟩ => ?_) hm
  subst e
  cases r3
  exact wpAny_truthy_bool ⟨H3, I3, q3⟩
theorem g_tval (ha : GE X c W k a wa) (he : ∀ whole, isTrue a X.env whole = (do let v ← whole; standAt a.pos; holding [v] (truthy v)) := by intro _; rfl) : GT X c W k a (wTst wa) := (pt_val ha he).imp fun σ H Q h => ld_tst h
theorem g_tnot (ha : GT X c W k a wt) : GT X c W k (.UnaryOp .Not a pos) (wNotT wt) := (pt_not ha).imp fun σ H Q h => by
  obtain ⟨S, F, n, I, μ, e, Qd, Xd, hl, he, hw, h, q, x⟩ := h
  exact ⟨S, F, n, I, μ, e, _, Xd, hl, he, hw, h, fun b μ1 I1 H1 pb s1 w1 => q _ μ1 I1 H1 pb s1 w1, x⟩
theorem g_wand1 (ha : GT X c W k a wt) : GW X c W k (.BoolOp .And [a] pos) wt := pw_and1 ha
theorem g_wor1 (ha : GT X c W k a wt) : GW X c W k (.BoolOp .Or [a] pos) wt := pw_or1 ha
theorem ite_b {b : Bool} {A B A' B' : Prop} (h : if b = true then A else B) (h1 : b = true → A → A') (h2 : b = false → B → B') : if b = true then A' else B' := by
  cases b with
  | true => exact h1 rfl h
  | false => exact h2 rfl h
theorem g_wand {rest : List Expr} (ha : GT X c W ka a wt) (hb : GW X c W kb (.BoolOp .And (b :: rest) pos) wu) : GW X c W (ka + kb) (.BoolOp .And (a :: b :: rest) pos) (wAndT wt wu) := (pw_and ha hb).imp fun σ H Q h => by
  obtain ⟨S, F, n, I, μ, e, Qd, Xd, hl, he, hw, h, q, x⟩ := h
  refine ⟨S, F, n, I, μ, e, _, Xd, by omega, he, hw, h, fun b μ1 I1 H1 pb s1 w1 => ?_, x.mono (by omega) (Same.refl I)⟩
  exact ite_b pb (fun _ h => ⟨S, F, n + ka, I1, μ1, e, Qd, Xd, by omega, he.mono s1, w1, h, q.mono (by omega) s1, x.mono (by omega) s1⟩) fun _ h => q _ μ1 I1 H1 h s1 (w1.up (by omega))
theorem g_wor {rest : List Expr} (ha : GT X c W ka a wt) (hb : GW X c W kb (.BoolOp .Or (b :: rest) pos) wu) : GW X c W (ka + kb) (.BoolOp .Or (a :: b :: rest) pos) (wOrT wt wu) := (pw_or ha hb).imp fun σ H Q h => by
  obtain ⟨S, F, n, I, μ, e, Qd, Xd, hl, he, hw, h, q, x⟩ := h
  refine ⟨S, F, n, I, μ, e, _, Xd, by omega, he, hw, h, fun b μ1 I1 H1 pb s1 w1 => ?_, x.mono (by omega) (Same.refl I)⟩
  exact ite_b pb (fun _ h => q _ μ1 I1 H1 h s1 (w1.up (by omega))) fun _ h => ⟨S, F, n + ka, I1, μ1, e, Qd, Xd, by omega, he.mono s1, w1, h, q.mono (by omega) s1, x.mono (by omega) s1⟩
theorem g_pt (h : GW X c W k a wt) : GT X c W k a wt := h.pt
/-! values by and, or, not, if -/
theorem g_one {op} (h : GE X c W k a wa) : GE X c W k (.BoolOp op [a] pos) wa := pe_one h
theorem g_and {rest : List Expr} (ha : GE X c W ka a wa) (hb : GE X c W kb (.BoolOp .And (b :: rest) pos) wb) : GE X c W (ka + kb) (.BoolOp .And (a :: b :: rest) pos) (wAnd wa wb) := L2.PE.imp (pe_and ha hb) fun σ H Q h => by
  obtain ⟨S, F, n, I, μ, e, Qd, Xd, hl, he, hw, h, q, x⟩ := h
  refine ⟨S, F, n, I, μ, e, _, Xd, by omega, he, hw, h, fun da μ1 va I1 H1 pa s1 w1 ra => ?_, x.mono (by omega) (Same.refl I)⟩
  cases ra <;> first | exact False.elim pa | refine ⟨_, rfl, ite_b pa (fun _ h => ⟨S, F, n + ka, I1, μ1, e, Qd, Xd, by omega, he.mono s1, w1, h, q.mono (by omega) s1, x.mono (by omega) s1⟩) fun _ h => q _ μ1 _ I1 H1 h s1 (w1.up (by omega)) .bool⟩
theorem g_or {rest : List Expr} (ha : GE X c W ka a wa) (hb : GE X c W kb (.BoolOp .Or (b :: rest) pos) wb) : GE X c W (ka + kb) (.BoolOp .Or (a :: b :: rest) pos) (wOr wa wb) := L2.PE.imp (pe_or ha hb) fun σ H Q h => by
  obtain ⟨S, F, n, I, μ, e, Qd, Xd, hl, he, hw, h, q, x⟩ := h
  refine ⟨S, F, n, I, μ, e, _, Xd, by omega, he, hw, h, fun da μ1 va I1 H1 pa s1 w1 ra => ?_, x.mono (by omega) (Same.refl I)⟩
  cases ra <;> first | exact False.elim pa | refine ⟨_, rfl, ite_b pa (fun _ h => q _ μ1 _ I1 H1 h s1 (w1.up (by omega)) .bool) fun _ h => ⟨S, F, n + ka, I1, μ1, e, Qd, Xd, by omega, he.mono s1, w1, h, q.mono (by omega) s1, x.mono (by omega) s1⟩⟩
theorem g_not (ha : GE X c W k a wa) : GE X c W k (.UnaryOp .Not a pos) (wNot wa) := L2.PE.imp (pe_not ha) fun σ H Q h => by
  obtain ⟨S, F, n, I, μ, e, Qd, Xd, hl, he, hw, h, q, x⟩ := h
  refine ⟨S, F, n, I, μ, e, _, Xd, by omega, he, hw, h, fun da μ1 va I1 H1 pa s1 w1 ra => ?_, x⟩
  cases ra <;> first | exact False.elim pa | exact ⟨_, rfl, q _ μ1 _ I1 H1 pa s1 w1 .bool⟩
theorem g_if (hc : GT X c W kc d wt) (ha : GE X c W ka a wa) (hb : GE X c W kb b wb) : GE X c W (kc + (ka + kb)) (.IfExp d a b pos) (wIf wt wa wb) := L2.PE.imp (pe_ifExp hc ha hb) fun σ H Q h => by
  obtain ⟨S, F, n, I, μ, e, Qd, Xd, hl, he, hw, h, q, x⟩ := h
  refine ⟨S, F, n, I, μ, e, _, Xd, by omega, he, hw, h, fun b μ1 I1 H1 pb s1 w1 => ?_, x.mono (by omega) (Same.refl I)⟩
  exact ite_b pb (fun _ h => ⟨S, F, n + kc, I1, μ1, e, Qd, Xd, by omega, he.mono s1, w1, h, q.mono (by omega) s1, x.mono (by omega) s1⟩) fun _ h => ⟨S, F, n + kc, I1, μ1, e, Qd, Xd, by omega, he.mono s1, w1, h, q.mono (by omega) s1, x.mono (by omega) s1⟩
/-! names, constants -/
theorem g_var {i : Nat} {x : Str} (h : PE X (.Name x pos) (tVar i)) : GE X c W 0 (.Name x pos) (wV i) := h.imp fun σ H Q h => by
  obtain ⟨S, F, n, I, μ, e, Qd, Xd, hl, he, hw, h, q, x⟩ := h
  unfold wV at h
  cases hg : gt e i with
  | none =>
    rw [hg] at h
    exact h.elim
  | some d =>
    rw [hg] at h
    obtain ⟨v, h1, h2⟩ := he.get hg
    exact ⟨v, h1, q d μ v I H h (Same.refl I) hw h2⟩
theorem g_con {ex : Expr} {v : V} {d : D} (h : PE X ex (tC v)) (r : ∀ S I, Rep c S I d v) : GE X c W 0 ex (wK d) := h.imp fun σ H Q h => by
  obtain ⟨S, F, n, I, μ, e, Qd, Xd, hl, he, hw, h, q, x⟩ := h
  exact q d μ v I H h (Same.refl I) hw (r S I)
theorem g_int {i j p} : GE X c W 0 (.Constant (.int i) j p) (wK (.int i)) := g_con pe_int fun _ _ => .int
theorem g_bl {i j p} : GE X c W 0 (.Constant (.bool i) j p) (wK (.bool i)) := g_con pe_bl fun _ _ => .bool
theorem g_str {i j p} : GE X c W 0 (.Constant (.str i) j p) (wK (.str i)) := g_con pe_str fun _ _ => .str
theorem g_non {j p} : GE X c W 0 (.Constant .none j p) (wK .none) := g_con pe_non fun _ _ => .none
/-! arguments -/
theorem ga_nil : GA X c W 0 [] waNil := L2.PA.imp pa_nil fun σ H Q h => by
  obtain ⟨S, F, n, I, μ, e, Qd, Xd, hl, he, hw, h, q, x⟩ := h
  exact q [] μ [] I H h (Same.refl I) hw .nil
theorem ld_cons {σ : L2.St} {H : Hp} {Q : List V → Hp → Prop} (h : ldA c W (ka + kb) (waCons wa wr) σ H Q) : tCons (ldE c W ka wa) (ldA c W kb wr) σ H Q := by
  obtain ⟨S, F, n, I, μ, e, Qd, Xd, hl, he, hw, h, q, x⟩ := h
  refine ⟨S, F, n, I, μ, e, _, Xd, by omega, he, hw, h, fun da μ1 va I1 H1 pa s1 w1 ra => ?_, x.mono (by omega) (Same.refl I)⟩
  refine ⟨S, F, n + ka, I1, μ1, e, _, Xd, by omega, he.mono s1, w1, pa, fun ds μ2 vs I2 H2 pb s2 w2 rb => ?_, x.mono (by omega) s1⟩
  exact q _ μ2 _ I2 H2 pb (s1.trans s2) (w2.up (by omega)) (.cons (ra.mono s2) rb)
theorem ga_cons (ha : GE X c W ka a wa) (hr : GA X c W kb es wr) (hs : starEach (a :: es) X.env = (false, eval a X.env) :: starEach es X.env := by rfl) : GA X c W (ka + kb) (a :: es) (waCons wa wr) := L2.PA.imp (pa_cons ha hr hs) fun σ H Q h => ld_cons h
/-! displays -/
theorem g_tup {x1} (h : GA X c W k es wr) : GE X c W k (.Tuple es x1 pos) (wTup wr) := L2.PE.imp (pe_tup h) fun σ H Q h => by
  obtain ⟨S, F, n, I, μ, e, Qd, Xd, hl, he, hw, h, q, x⟩ := h
  refine ⟨S, F, n, I, μ, e, _, Xd, hl, he, hw, h, fun ds μ1 vs I1 H1 ⟨hz, pa⟩ s1 w1 ra => ?_, x⟩
  refine ⟨by rw [← ra.length]; exact hz, fun p hp => ?_⟩
  have sm : Same I1 (upd I1 p (.tup vs)) := same_new (w1.fresh hp).1
  exact q _ μ1 _ _ _ pa (s1.trans sm) (w1.new hp) (.tup (.inl upd_same) (ra.mono sm))
theorem g_lst (h : GA X c W k es wr) : GE X c W k (.List es pos) (wLst m wr) := L2.PE.imp (pe_lst h) fun σ H Q h => by
  obtain ⟨S, F, n, I, μ, e, Qd, Xd, hl, he, hw, h, q, x⟩ := h
  refine ⟨S, F, n, I, μ, e, _, Xd, hl, he, hw, h, fun ds μ1 vs I1 H1 ⟨hz, pa⟩ s1 w1 ra => ?_, x⟩
  refine ⟨by rw [← ra.length]; exact hz, fun p hp => ?_⟩
  obtain ⟨w2, r2⟩ := RsR.new w1 hp (.list ra)
  exact (q.sett (m := m)) _ μ1 _ _ _ pa s1 w2 r2
/-! built-ins called by their names -/
theorem ld_cb {o : WC} {σ : L2.St} {H : Hp} {Q : VK} (h : ldE c W (ka + ko) (wCb m o wr) σ H Q) : ldA c W ka wr σ H fun xs H1 => ldC c W ko o σ xs H1 Q := by
  obtain ⟨S, F, n, I, μ, e, Qd, Xd, hl, he, hw, h, q, x⟩ := h
  refine ⟨S, F, n, I, μ, e, _, Xd, by omega, he, hw, h, fun ds μ1 vs I1 H1 pa s1 w1 ra => ?_, x.mono (by omega) (Same.refl I)⟩
  exact ⟨S, F, n + ka, I1, μ1, ds, _, Xd, by omega, w1, ra, pa, (q.mono (by omega) s1).sett, x.mono (by omega) s1⟩
/-- a built-in that keeps a wish -/
def CbW (X : Cx) (c : Ctx) (f : Value) (o : WC) : Prop := ∃ r, CallR X f r ∧ ∀ W σ xs H Q, ldC c W 0 o σ xs H Q → r xs H Q
theorem g_cb {x : Str} {id : String} {p : Pos} {o : WC} (hc : CbW X c (.builtin id) o) (hg : Gl X x) (hm : X.mg x = none) (hv : bootBuiltins x = some (.builtin id)) (ha : GA X c W k (a :: es) wr) (hn : x ≠ "__name__" := by decide) (hdb : (x == ("__debug__" : Str)) = false := by decide)
    (he : starEach (a :: es) X.env = (false, eval a X.env) :: starEach es X.env := by rfl) (hpl : (backTo pos (starEach es X.env)).any (·.1) = false := by rfl) : GE X c W (k + 0) (.Call (.Name x p) (a :: es) [] pos) (wCb m o wr) := by
  obtain ⟨r, h1, h2⟩ := hc
  refine L2.PE.imp (pe_callB h1 hg hm hv ha hn hdb he hpl) fun σ H Q h => ?_
  have h3 := ld_cb h
  obtain ⟨S, F, n, I, μ, e, Qd, Xd, hl, he, hw, h, q, x⟩ := h3
  exact ⟨S, F, n, I, μ, e, Qd, Xd, hl, he, hw, h, fun ds μ' vs I' H' p s w r => h2 W σ vs H' Q (q ds μ' vs I' H' p s w r), x⟩
theorem g_cty {x : Str} {T : String} {p : Pos} {o : WC} (hc : CbW X c (.type T) o) (hg : Gl X x) (hm : X.mg x = none) (hv : bootBuiltins x = some (.type T)) (ha : GA X c W k (a :: es) wr) (hn : x ≠ "__name__" := by decide) (hdb : (x == ("__debug__" : Str)) = false := by decide)
    (he : starEach (a :: es) X.env = (false, eval a X.env) :: starEach es X.env := by rfl) (hpl : (backTo pos (starEach es X.env)).any (·.1) = false := by rfl) : GE X c W (k + 0) (.Call (.Name x p) (a :: es) [] pos) (wCb m o wr) := by
  obtain ⟨r, h1, h2⟩ := hc
  refine L2.PE.imp (pe_callTy h1 hg hm hv ha hn hdb he hpl) fun σ H Q h => ?_
  have h3 := ld_cb h
  obtain ⟨S, F, n, I, μ, e, Qd, Xd, hl, he, hw, h, q, x⟩ := h3
  exact ⟨S, F, n, I, μ, e, Qd, Xd, hl, he, hw, h, fun ds μ' vs I' H' p s w r => h2 W σ vs H' Q (q ds μ' vs I' H' p s w r), x⟩
/-! slices -/
theorem go_none : GO X c W 0 none woNone := ⟨fun pins s σ H Q J h => po_none.run pins s σ H Q J (by
  obtain ⟨S, F, n, I, μ, e, Qd, Xd, hl, he, hw, h, q, x⟩ := h
  exact q _ μ I H h (Same.refl I) hw)⟩
theorem go_some (ha : GE X c W k a wa) : GO X c W k (some a) (woSome wa) := ⟨fun pins s σ H Q J h => (po_some ha).run pins s σ H Q J (by
  obtain ⟨S, F, n, I, μ, e, Qd, Xd, hl, he, hw, h, q, x⟩ := h
  refine ⟨S, F, n, I, μ, e, _, Xd, hl, he, hw, h, fun da μ1 va I1 H1 pa s1 w1 ra => ?_, x⟩
  cases ra <;> first | exact False.elim pa | exact ⟨_, rfl, q _ μ1 I1 H1 pa s1 w1⟩)⟩
def SlW (X : Cx) (c : Ctx) (o : D → Option Int → Option Int → Mu → QR → QD → Prop) : Prop := ∃ r, SlR X r ∧ ∀ W σ x lo hi H Q, ldSl c W 0 o σ x lo hi H Q → r x lo hi H Q
theorem g_sl {lo hi : Option Expr} {wl wh : WO} {p2 : Pos} {o : D → Option Int → Option Int → Mu → QR → QD → Prop} (ho : SlW X c o) (ha : GE X c W k a wa) (hl : GO X c W ka lo wl) (hh : GO X c W kb hi wh) : GE X c W (k + (ka + kb)) (.Subscript a (.Slice lo hi none p2) pos) (wSl m o wa wl wh) := by
  obtain ⟨r, h1, h2⟩ := ho
  refine L2.PE.imp (pe_slice h1 ha hl hh) fun σ H Q h => ?_
  obtain ⟨S, F, n, I, μ, e, Qd, Xd, hl, he, hw, h, q, x⟩ := h
  refine ⟨S, F, n, I, μ, e, _, Xd, by omega, he, hw, h, fun da μ1 va I1 H1 pa s1 w1 ra => ?_, x.mono (by omega) (Same.refl I)⟩
  refine ⟨S, F, n + k, I1, μ1, e, _, Xd, by omega, he.mono s1, w1, pa, fun lo μ2 I2 H2 pb s2 w2 => ?_, x.mono (by omega) s1⟩
  refine ⟨S, F, n + k + ka, I2, μ2, e, _, Xd, by omega, he.mono (s1.trans s2), w2, pb, fun hi μ3 I3 H3 pc s3 w3 => ?_, x.mono (by omega) (s1.trans s2)⟩
  exact h2 W σ _ _ _ _ _ ⟨S, F, n + k + ka + kb, I3, μ3, da, _, Xd, by omega, w3, ra.mono (s2.trans s3), pc, (q.mono (by omega) ((s1.trans s2).trans s3)).sett, x.mono (by omega) ((s1.trans s2).trans s3)⟩
end
end DL

set_option Elab.async false
set_option linter.all false
set_option maxRecDepth 100000
set_option maxHeartbeats 4000000
/-! A2: operations on data, and that the layer's rules keep them. -/
namespace DL
open PySem PyProof.Rows L2
abbrev iL (ns : List Int) : List D := ns.map D.int
def ndL : Option Nd → Option (List D)
  | some (.list ds) => some ds
  | _ => Option.none
/-- a list's items -/
def seqL (μ : Mu) : D → Option (List D)
  | .list ds => some ds
  | .cell p => ndL (μ p)
  | _ => Option.none
/-- a list's or a tuple's items -/
def sqD (μ : Mu) : D → Option (List D)
  | .tup ds => some ds
  | .script ns => some (iL ns)
  | .list ds => some ds
  | .cell p => ndL (μ p)
  | _ => Option.none
section
variable {c : Ctx} {S : Option SA} {F : Hp} {n : Nat} {I H : Hp} {μ : Mu} {d : D} {v : V} {ds : List D}
theorem ndL_some {x : Option Nd} (h : ndL x = some ds) : x = some (.list ds) := by
  unfold ndL at h
  split at h
  · cases h
    rfl
  · cases h
theorem Wd.cellL (w : Wd c S F n I μ H) {p : Addr} (h : ndL (μ p) = some ds) : ∃ xs, H p = some (.lst xs) ∧ Reps c S I ds xs := by
  obtain ⟨_, o, r, h2⟩ := w.m p _ (ndL_some h)
  cases r with
  | list r => exact ⟨_, h2, r⟩
theorem seqL_rep (w : Wd c S F n I μ H) (r : Rep c S I d v) (h : seqL μ d = some ds) : ∃ l xs, v = .ref l ∧ H l = some (.lst xs) ∧ Reps c S I ds xs := by
  cases r with
  | list g r =>
    cases h
    exact ⟨_, _, rfl, w.lst g, r⟩
  | cell =>
    obtain ⟨xs, h1, h2⟩ := w.cellL h
    exact ⟨_, xs, rfl, h1, h2⟩
  | _ => cases h
theorem sqD_rep (w : Wd c S F n I μ H) (r : Rep c S I d v) (h : sqD μ d = some ds) : ∃ l xs, v = .ref l ∧ (SqL c.K H l xs ∨ SqT c.K H l xs) ∧ Reps c S I ds xs := by
  cases r with
  | list g r =>
    cases h
    exact ⟨_, _, rfl, .inl (SqL.of (w.lst g)), r⟩
  | tup g r =>
    cases h
    exact ⟨_, _, rfl, .inr (w.tupH g), r⟩
  | script g =>
    cases h
    exact ⟨_, _, rfl, .inl (w.seqH g), Reps.of_ints⟩
  | cell =>
    obtain ⟨xs, h1, h2⟩ := w.cellL h
    exact ⟨_, xs, rfl, .inl (SqL.of h1), h2⟩
  | _ => cases h
end
/-! ### + - * // % ** -/
def oAdd : WOp := fun x y μ Q _ => match x with
  | .int i => (match y with
    | .int j => Q (.v (.int (i + j))) μ
    | _ => False)
  | .str a => (match y with
    | .str b => a.length + b.length ≤ sizeLine ∧ Q (.v (.str (a ++ b))) μ
    | _ => False)
  | .tup a => (match y with
    | .tup b => a.length + b.length ≤ sizeLine ∧ Q (.v (.tup (a ++ b))) μ
    | _ => False)
  | x => (match seqL μ x, seqL μ y with
    | some a, some b => a.length + b.length ≤ sizeLine ∧ Q (.n (.list (a ++ b))) μ
    | _, _ => False)
def oInt2 (C : Int → Int → Prop) (f : Int → Int → D) : WOp := fun x y μ Q _ => match x with
  | .int i => (match y with
    | .int j => C i j ∧ Q (.v (f i j)) μ
    | _ => False)
  | _ => False
def oSub : WOp := oInt2 (fun _ _ => True) fun i j => .int (i - j)
def oFdiv : WOp := oInt2 CDivW fun i j => .int (i / j)
def oMod : WOp := oInt2 (fun _ j => 0 < j) fun i j => .int (i % j)
def CPowW (i j : Int) : Prop := 0 ≤ j ∧ (Builtin.Int.intBits i : Int) * j ≤ 2 ^ 27
def oPow : WOp := oInt2 CPowW fun i j => .int (i ^ j.toNat)
def CMulU (i j : Int) : Prop := CMulX i j ∨ CMul i j
def oMul : WOp := fun x y μ Q _ => match x with
  | .int i => (match y with
    | .int j => CMulU i j ∧ Q (.v (.int (i * j))) μ
    | _ => False)
  | x => (match seqL μ x, y with
    | some a, .int k => -(2 ^ 63) ≤ k ∧ k < 2 ^ 63 ∧ a.length * k.toNat ≤ sizeLine ∧ Q (.n (.list (List.replicate k.toNat a).flatten)) μ
    | _, _ => False)
def oLt : WOp := oInt2 (fun _ _ => True) fun i j => .bool (decide (i < j))
def oLe : WOp := oInt2 (fun _ _ => True) fun i j => .bool (decide (i ≤ j))
def oGt : WOp := oInt2 (fun _ _ => True) fun i j => .bool (decide (j < i))
def oGe : WOp := oInt2 (fun _ _ => True) fun i j => .bool (decide (j ≤ i))
def oNeg : WU := fun x μ Q _ => match x with
  | .int i => Q (.v (.int (-i))) μ
  | _ => False
section
variable {X : Cx} {c : Ctx} {W : WX}
theorem op_pow27 : OpR X (binaryOp .Pow) (rI CPowW fun i j => .int (i ^ j.toNat)) := opI fun _ _ _ _ _ _ _ hc q => pow_int hc.1 hc.2 q
/-- two ints -/
theorem ld_int2 {C : Int → Int → Prop} {f : Int → Int → D} {g : Int → Int → V} (hg : ∀ S I i j, Rep c S I (f i j) (g i j)) {σ : L2.St} {x y : V} {H : Hp} {Q : VK} (h : ld2 c W 0 (oInt2 C f) σ x y H Q) : rI C g x y H Q := by
  obtain ⟨S, F, n, I, μ, dx, dy, Qd, Xd, hl, w, rx, ry, h, q, _⟩ := h
  cases rx <;> try exact h.elim
  cases ry <;> try exact h.elim
  exact ⟨_, _, rfl, rfl, h.1, q _ μ _ I H h.2 (Same.refl I) w (hg S I _ _)⟩
theorem rI0_of {g : Int → Int → V} {x y : V} {H : Hp} {Q : VK} (h : rI (fun _ _ => True) g x y H Q) : rI0 g x y H Q := by
  obtain ⟨i, j, h1, h2, _, h3⟩ := h
  exact ⟨i, j, h1, h2, h3⟩
theorem w_sub : Op2 X c W 0 (binaryOp .Sub) oSub := op2_of op_sub fun σ x y H Q h => rI0_of (ld_int2 (fun _ _ _ _ => .int) h)
theorem w_fdiv : Op2 X c W 0 (binaryOp .FloorDiv) oFdiv := op2_of op_fdivW fun σ x y H Q h => ld_int2 (fun _ _ _ _ => .int) h
theorem w_mod : Op2 X c W 0 (binaryOp .Mod) oMod := op2_of op_mod fun σ x y H Q h => ld_int2 (fun _ _ _ _ => .int) h
theorem w_pow : Op2 X c W 0 (binaryOp .Pow) oPow := op2_of op_pow27 fun σ x y H Q h => ld_int2 (fun _ _ _ _ => .int) h
theorem w_lt : Op2 X c W 0 (compareOp .Lt) oLt := op2_of op_lt fun σ x y H Q h => rI0_of (ld_int2 (fun _ _ _ _ => .bool) h)
theorem w_le : Op2 X c W 0 (compareOp .LtE) oLe := op2_of op_le fun σ x y H Q h => rI0_of (ld_int2 (fun _ _ _ _ => .bool) h)
theorem w_gt : Op2 X c W 0 (compareOp .Gt) oGt := op2_of op_gt fun σ x y H Q h => rI0_of (ld_int2 (fun _ _ _ _ => .bool) h)
theorem w_ge : Op2 X c W 0 (compareOp .GtE) oGe := op2_of op_ge fun σ x y H Q h => rI0_of (ld_int2 (fun _ _ _ _ => .bool) h)
theorem w_neg : Op1 X c W 0 (unaryOp .USub) oNeg := fun pins s σ H x v Q J rx h => un_neg pins s σ H x v Q J rx (by
  obtain ⟨S, F, n, I, μ, dx, Qd, Xd, hl, w, rx, h, q, _⟩ := h
  cases rx <;> try exact h.elim
  exact ⟨_, rfl, q _ μ _ I H h (Same.refl I) w .int⟩)
theorem w_add (hK : X.K = c.K := by rfl) : Op2 X c W 0 (binaryOp .Add) oAdd := by
  obtain ⟨K, cl, tb, ns, es0⟩ := c
  cases hK
  refine op2_of (op_add.or (op_add_str.or (op_catA.or op_cat))) fun σ x y H Q h => ?_
  obtain ⟨S, F, n, I, μ, dx, dy, Qd, Xd, hl, w, rx, ry, h, q, _⟩ := h
  unfold oAdd at h
  split at h
  · split at h
    · cases rx
      cases ry
      exact .inl ⟨_, _, rfl, rfl, q _ μ _ I H h (Same.refl I) w .int⟩
    · exact h.elim
  · split at h
    · cases rx
      cases ry
      exact .inr (.inl ⟨_, _, rfl, rfl, h.1, q _ μ _ I H h.2 (Same.refl I) w .str⟩)
    · exact h.elim
  · split at h
    · rename_i a _ _ b
      cases rx with
      | @tup pa _ xs g1 r1 =>
        cases ry with
        | @tup pb _ ys g2 r2 =>
          refine .inr (.inr (.inl ⟨_, _, _, _, rfl, rfl, w.tupH g1, w.tupH g2, by rw [← r1.length, ← r2.length]; exact h.1, fun e => ?_, fun e1 e2 => ?_, fun e1 e2 p hp => ?_⟩))
          · subst e
            cases r1
            exact q _ μ _ I H h.2 (Same.refl I) w (.tup g2 r2)
          · subst e2
            cases r2
            have h2 := h.2
            rw [List.append_nil] at h2
            exact q _ μ _ I H h2 (Same.refl I) w (.tup g1 r1)
          · have sm : Same I (upd I p (.tup (xs ++ ys))) := same_new (w.fresh hp).1
            exact q _ μ _ _ _ h.2 sm (w.new hp) (.tup (.inl upd_same) ((r1.append r2).mono sm))
    · exact h.elim
  · split at h
    · rename_i _ _ _ _ _ _ e1 e2
      obtain ⟨l1, xs, rfl, h1, r1⟩ := seqL_rep w rx e1
      obtain ⟨l2, ys, rfl, h2, r2⟩ := seqL_rep w ry e2
      refine .inr (.inr (.inr ⟨_, _, _, _, rfl, rfl, h1, h2, by rw [← r1.length, ← r2.length]; exact h.1, fun p hp => ?_⟩))
      obtain ⟨w2, rr⟩ := RsR.new w hp (NdR.list (r1.append r2))
      exact q _ μ _ _ _ h.2 (Same.refl I) w2 rr
    · exact h.elim
theorem w_mul : Op2 X c W 0 (binaryOp .Mult) oMul := by
  refine op2_of (op_mulX.or (op_mul.or op_rep)) fun σ x y H Q h => ?_
  obtain ⟨S, F, n, I, μ, dx, dy, Qd, Xd, hl, w, rx, ry, h, q, _⟩ := h
  unfold oMul at h
  split at h
  · split at h
    · cases rx
      cases ry
      rcases h.1 with z | z
      · exact .inl ⟨_, _, rfl, rfl, z, q _ μ _ I H h.2 (Same.refl I) w .int⟩
      · exact .inr (.inl ⟨_, _, rfl, rfl, z, q _ μ _ I H h.2 (Same.refl I) w .int⟩)
    · exact h.elim
  · split at h
    · rename_i _ _ _ _ a k e1
      obtain ⟨l1, xs, rfl, h1, r1⟩ := seqL_rep w rx e1
      cases ry
      refine .inr (.inr ⟨_, _, _, rfl, rfl, h1, h.1, h.2.1, by rw [← r1.length]; exact h.2.2.1, fun p hp => ?_⟩)
      obtain ⟨w2, rr⟩ := RsR.new w hp (NdR.list (r1.flat k.toNat))
      exact q _ μ _ _ _ h.2.2.2 (Same.refl I) w2 rr
    · exact h.elim
end
/-! ### items, slices -/
theorem atI_rep {c : Ctx} {S : Option SA} {I : Hp} {ds : List D} {xs : List V} {i : Int} {d : D} (r : Reps c S I ds xs) (h : atI ds i = some d) : ∃ x, atI xs i = some x ∧ Rep c S I d x := by
  unfold atI at h ⊢
  rw [← r.length]
  cases q : ixN ds.length i with
  | none =>
    rw [q] at h
    cases h
  | some j =>
    rw [q] at h
    exact r.get h
def oIx : WOp := fun x y μ Q _ => match x with
  | .str z => (match y with
    | .int i => z.length ≤ sizeLine ∧ (match atI z.cps.toList i with
      | some ch => Q (.v (.str ⟨#[ch]⟩)) μ
      | Option.none => False)
    | _ => False)
  | x => (match sqD μ x, y with
    | some ds, .int i => (match atI ds i with
      | some d => Q (.v d) μ
      | Option.none => False)
    | _, _ => False)
/-- a slice's items -/
def cutD (xs : List D) (lo hi : Option Int) : List D := (xs.drop (HT.sIx xs.length 0 lo)).take (HT.sIx xs.length xs.length hi - HT.sIx xs.length 0 lo)
theorem cut_rep {c : Ctx} {S : Option SA} {I : Hp} {ds : List D} {xs : List V} (r : Reps c S I ds xs) (lo hi : Option Int) : Reps c S I (cutD ds lo hi) (cutV xs lo hi) := by
  unfold cutD cutV
  rw [r.length]
  exact (r.drop _).take _
def oSl : D → Option Int → Option Int → Mu → QR → QD → Prop := fun x lo hi μ Q _ => match x with
  | .str z => z.length ≤ sizeLine ∧ Q (.v (.str (cutS z lo hi))) μ
  | .tup ds => Q (.v (.tup (cutD ds lo hi))) μ
  | x => (match seqL μ x with
    | some ds => Q (.n (.list (cutD ds lo hi))) μ
    | Option.none => False)
section
variable {X : Cx} {c : Ctx} {W : WX} {k ka kb : Nat} {a b : Expr} {wa wb : WE} {m : Bool} {pos : Pos}
theorem ld_ix {σ : L2.St} {x y : V} {H : Hp} {Q : VK} (h : ld2 c W 0 oIx σ x y H Q) : rIx c.K x y H Q := by
  obtain ⟨S, F, n, I, μ, dx, dy, Qd, Xd, hl, w, rx, ry, h, q, _⟩ := h
  unfold oIx at h
  split at h
  · split at h
    · obtain ⟨hz, h⟩ := h
      split at h
      · rename_i ch e
        cases rx
        cases ry
        exact .inr (.inr ⟨_, _, _, rfl, rfl, hz, e, q _ μ _ I H h (Same.refl I) w .str⟩)
      · exact h.elim
    · exact h.elim
  · split at h
    · rename_i _ _ _ _ ds i e1
      split at h
      · rename_i d e2
        obtain ⟨l, xs, rfl, h1, r1⟩ := sqD_rep w rx e1
        cases ry
        obtain ⟨v, h3, h4⟩ := atI_rep r1 e2
        rcases h1 with h1 | h1
        · exact .inl ⟨_, _, _, _, rfl, rfl, h1, h3, q _ μ _ I H h (Same.refl I) w h4⟩
        · exact .inr (.inl ⟨_, _, _, _, rfl, rfl, h1, h3, q _ μ _ I H h (Same.refl I) w h4⟩)
      · exact h.elim
    · exact h.elim
theorem g_ix (ha : GE X c W ka a wa) (hb : GE X c W kb b wb) (hp : PlainIx b := by exact fun _ _ => rfl) (hK : X.K = c.K := by rfl) : GE X c W (ka + (kb + 0)) (.Subscript a b pos) (wOp m oIx wa wb) := by
  obtain ⟨K, cl, tb, ns, es0⟩ := c
  cases hK
  refine L2.PE.imp (pe_ix ix_seq ha hb hp) fun σ H Q h => ?_
  obtain ⟨S, F, n, I, μ, e, Qd, Xd, hl, he, hw, h, q, x⟩ := ld_two h
  refine ⟨S, F, n, I, μ, e, Qd, Xd, hl, he, hw, h, fun d μ1 v I1 H1 p s1 w1 r1 => ?_, x⟩
  obtain ⟨S, F, n, I, μ, e, Qd, Xd, hl, he, hw, h, q, x⟩ := q d μ1 v I1 H1 p s1 w1 r1
  exact ⟨S, F, n, I, μ, e, Qd, Xd, hl, he, hw, h, fun d μ1 v I1 H1 p s1 w1 r1 => ld_ix (q d μ1 v I1 H1 p s1 w1 r1), x⟩
theorem w_sl (hK : X.K = c.K := by rfl) : SlW X c oSl := by
  obtain ⟨K, cl, tb, ns, es0⟩ := c
  cases hK
  refine ⟨_, SlR.or sl_str (SlR.or sl_tupA sl_list), fun W σ x lo hi H Q h => ?_⟩
  obtain ⟨S, F, n, I, μ, d, Qd, Xd, hl, w, r, h, q, _⟩ := h
  unfold oSl at h
  split at h
  · cases r
    exact .inl ⟨_, rfl, h.1, q _ μ _ I H h.2 (Same.refl I) w .str⟩
  · cases r with
    | @tup a _ xs g r =>
      refine .inr (.inl ⟨_, _, rfl, w.tupH g, fun hw => ?_, fun hw p hp => ?_⟩)
      · refine q _ μ _ I H h (Same.refl I) w ?_
        have e1 : cutV xs lo hi = xs := by
          unfold cutV
          rw [hw.1, hw.2, List.drop_zero, Nat.sub_zero, List.take_length]
        have r4 := cut_rep r lo hi
        rw [e1] at r4
        exact .tup g r4
      · have sm : Same I (upd I p (.tup (cutV xs lo hi))) := same_new (w.fresh hp).1
        exact q _ μ _ _ _ h sm (w.new hp) (.tup (.inl upd_same) ((cut_rep r lo hi).mono sm))
  · split at h
    · rename_i ds e1
      obtain ⟨l1, xs, rfl, h1, r1⟩ := seqL_rep w r e1
      refine .inr (.inr ⟨_, _, rfl, SqL.of h1, fun p hp => ?_⟩)
      obtain ⟨w2, rr⟩ := RsR.new w hp (NdR.list (cut_rep r1 lo hi))
      exact q _ μ _ _ _ h (Same.refl I) w2 rr
    · exact h.elim
end
/-! ### built-ins by their names -/
def one (xs : List D) (f : D → Prop) : Prop := match xs with
  | [x] => f x
  | _ => False
def two (xs : List D) (f : D → D → Prop) : Prop := match xs with
  | [x, y] => f x y
  | _ => False
theorem one_cases {xs : List D} {f : D → Prop} (h : one xs f) : ∃ x, xs = [x] ∧ f x := by
  unfold one at h
  split at h
  · exact ⟨_, rfl, h⟩
  · exact h.elim
theorem two_cases {xs : List D} {f : D → D → Prop} (h : two xs f) : ∃ x y, xs = [x, y] ∧ f x y := by
  unfold two at h
  split at h
  · exact ⟨_, _, rfl, h⟩
  · exact h.elim
theorem reps1 {c : Ctx} {S : Option SA} {I : Hp} {x : D} {vs : List V} (r : Reps c S I [x] vs) : ∃ v, vs = [v] ∧ Rep c S I x v := by
  cases r with
  | cons h r =>
    cases r
    exact ⟨_, rfl, h⟩
theorem reps2 {c : Ctx} {S : Option SA} {I : Hp} {x y : D} {vs : List V} (r : Reps c S I [x, y] vs) : ∃ v u, vs = [v, u] ∧ Rep c S I x v ∧ Rep c S I y u := by
  cases r with
  | cons h r =>
    obtain ⟨u, rfl, h2⟩ := reps1 r
    exact ⟨_, u, rfl, h, h2⟩
def cbLen : WC := fun xs μ Q _ => one xs fun x => match x with
  | .str z => z.length ≤ sizeLine ∧ Q (.v (.int (z.length : Int))) μ
  | x => (match sqD μ x with
    | some ds => Q (.v (.int (ds.length : Int))) μ
    | Option.none => False)
def int1 (x : D) (f : Int → Prop) : Prop := match x with
  | .int i => f i
  | _ => False
theorem int1_cases {x : D} {f : Int → Prop} (h : int1 x f) : ∃ i, x = .int i ∧ f i := by
  unfold int1 at h
  split at h
  · exact ⟨_, rfl, h⟩
  · exact h.elim
def cbMin2 : WC := fun xs μ Q _ => two xs fun x y => int1 x fun i => int1 y fun j => Q (.v (.int (if j < i then j else i))) μ
def cbMax2 : WC := fun xs μ Q _ => two xs fun x y => int1 x fun i => int1 y fun j => Q (.v (.int (if j > i then j else i))) μ
def cbAbs : WC := fun xs μ Q _ => one xs fun x => int1 x fun i => Q (.v (.int (if i < 0 then -i else i))) μ
def cbInt : WC := fun xs μ Q _ => one xs fun x => match x with
  | .int i => Q (.v (.int i)) μ
  | .bool b => Q (.v (.int (if b then 1 else 0))) μ
  | _ => False
def cbList : WC := fun xs μ Q _ => one xs fun x => match sqD μ x with
  | some ds => Q (.n (.list ds)) μ
  | Option.none => False
def cbTup : WC := fun xs μ Q _ => one xs fun x => match sqD μ x with
  | some ds => Q (.v (.tup ds)) μ
  | Option.none => False
section
variable {X : Cx} {c : Ctx} {W : WX}
theorem cbw_of {f : Value} {o : WC} {r : List V → Hp → VK → Prop} (h : CallR X f r) (i : ∀ S F n I μ ds vs H Qd Xd Q, Wd c S F n I μ H → Reps c S I ds vs → o ds μ Qd Xd → QVR c S F n I Qd Q → r vs H Q) : CbW X c f o := ⟨r, h, fun W σ xs H Q h => by
  obtain ⟨S, F, n, I, μ, ds, Qd, Xd, hl, w, rs, h, q, _⟩ := h
  exact i S F n I μ ds xs H Qd Xd Q w rs h q⟩
theorem w_len (hK : X.K = c.K := by rfl) : CbW X c (.builtin "len") cbLen := by
  obtain ⟨K, cl, tb, ns, es0⟩ := c
  cases hK
  refine cbw_of call_len fun S F n I μ ds vs H Qd Xd Q w rs h q => ?_
  obtain ⟨x, rfl, g⟩ := one_cases h
  obtain ⟨v, rfl, rv⟩ := reps1 rs
  clear h rs
  revert g; intro h
  split at h
  · cases rv
    exact ⟨_, _, rfl, ⟨h.1, rfl⟩, q _ μ _ I H h.2 (Same.refl I) w .int⟩
  · split at h
    · rename_i ds e
      obtain ⟨l, xs, rfl, h1, r1⟩ := sqD_rep w rv e
      rw [r1.length] at h
      rcases h1 with h1 | h1
      · exact ⟨_, _, rfl, .inl ⟨_, h1, rfl⟩, q _ μ _ I H h (Same.refl I) w .int⟩
      · exact ⟨_, _, rfl, .inr ⟨_, h1, rfl⟩, q _ μ _ I H h (Same.refl I) w .int⟩
    · exact h.elim
theorem w_min2 (hc : X.calm = true := by rfl) : CbW X c (.builtin "min") cbMin2 := cbw_of (call_min2 hc) fun S F n I μ ds vs H Qd Xd Q w rs h q => by
  obtain ⟨x, y, rfl, h⟩ := two_cases h
  obtain ⟨i, rfl, h⟩ := int1_cases h
  obtain ⟨j, rfl, h⟩ := int1_cases h
  obtain ⟨v, u, rfl, rv, ru⟩ := reps2 rs
  cases rv
  cases ru
  exact ⟨i, j, rfl, q _ μ _ I H h (Same.refl I) w .int⟩
theorem w_abs : CbW X c (.builtin "abs") cbAbs := cbw_of call_abs fun S F n I μ ds vs H Qd Xd Q w rs h q => by
  obtain ⟨x, rfl, h⟩ := one_cases h
  obtain ⟨i, rfl, h⟩ := int1_cases h
  obtain ⟨v, rfl, rv⟩ := reps1 rs
  cases rv
  exact ⟨i, rfl, q _ μ _ I H h (Same.refl I) w .int⟩
theorem w_int : CbW X c (.type "int") cbInt := cbw_of call_int1 fun S F n I μ ds vs H Qd Xd Q w rs h q => by
  obtain ⟨x, rfl, h⟩ := one_cases h
  obtain ⟨v, rfl, rv⟩ := reps1 rs
  cases rv <;> try exact h.elim
  · exact .inr ⟨_, rfl, q _ μ _ I H h (Same.refl I) w .int⟩
  · exact .inl ⟨_, rfl, q _ μ _ I H h (Same.refl I) w .int⟩
theorem w_list (hK : X.K = c.K := by rfl) : CbW X c (.type "list") cbList := by
  obtain ⟨K, cl, tb, ns, es0⟩ := c
  cases hK
  refine cbw_of call_list_of fun S F n I μ ds vs H Qd Xd Q w rs h q => ?_
  obtain ⟨x, rfl, g⟩ := one_cases h
  obtain ⟨v, rfl, rv⟩ := reps1 rs
  clear h rs
  revert g; intro h
  split at h
  · rename_i ds e
    obtain ⟨l, xs, rfl, h1, r1⟩ := sqD_rep w rv e
    refine ⟨_, _, rfl, h1, fun p hp => ?_⟩
    obtain ⟨w2, rr⟩ := RsR.new w hp (NdR.list r1)
    exact q _ μ _ _ _ h (Same.refl I) w2 rr
  · exact h.elim
theorem w_tuple (hK : X.K = c.K := by rfl) : CbW X c (.type "tuple") cbTup := by
  obtain ⟨K, cl, tb, ns, es0⟩ := c
  cases hK
  refine cbw_of call_tuple_of fun S F n I μ ds vs H Qd Xd Q w rs h q => ?_
  obtain ⟨x, rfl, g⟩ := one_cases h
  obtain ⟨v, rfl, rv⟩ := reps1 rs
  clear h rs
  revert g; intro h
  split at h
  · rename_i ds e
    have new : ∀ {xs : List V}, Reps ⟨X.K, cl, tb, ns, es0⟩ S I ds xs → ∀ p, H p = Option.none → Q (.ref p) (upd H p (.tup xs)) := fun {xs} r1 p hp => by
      have sm : Same I (upd I p (.tup xs)) := same_new (w.fresh hp).1
      exact q _ μ _ _ _ h sm (w.new hp) (.tup (.inl upd_same) (r1.mono sm))
    cases rv with
    | list g r =>
      cases e
      exact ⟨_, _, rfl, .inl ⟨SqL.of (w.lst g), new r⟩⟩
    | tup g r =>
      cases e
      exact ⟨_, _, rfl, .inr ⟨w.tupH g, q _ μ _ I H h (Same.refl I) w (.tup g r)⟩⟩
    | script g =>
      cases e
      exact ⟨_, _, rfl, .inl ⟨w.seqH g, new Reps.of_ints⟩⟩
    | cell =>
      obtain ⟨xs, h1, h2⟩ := w.cellL e
      exact ⟨_, _, rfl, .inl ⟨SqL.of h1, new h2⟩⟩
    | _ => cases e
  · exact h.elim
end
/-! ### is None -/
def isNone : D → Bool
  | .none => true
  | _ => false
def oIsN : WOp := fun x y μ Q _ => match y with
  | .none => Q (.v (.bool (isNone x))) μ
  | _ => False
def oNotN : WOp := fun x y μ Q _ => match y with
  | .none => Q (.v (.bool (!isNone x))) μ
  | _ => False
section
variable {X : Cx} {c : Ctx} {W : WX}
end
end DL

set_option Elab.async false
set_option linter.all false
set_option maxRecDepth 100000
set_option maxHeartbeats 4000000
/-! A3: statements, targets, what is walked, loops, comprehensions. -/
namespace DL
open PySem PyProof.Rows L2
structure WEnds where
  nx : EnvD → Mu → Prop
  rt : QD
  bk : EnvD → Mu → Prop
  ct : EnvD → Mu → Prop
  xp : D → EnvD → Mu → Prop
abbrev WS := EnvD → Mu → WEnds → Prop
abbrev WG := D → EnvD → (EnvD → Prop) → Prop
abbrev WGs := List D → EnvD → (EnvD → Prop) → Prop
/-- what is walked: the items, what stays meanwhile -/
structure Src where
  xs : List D
  ok : Mu → Prop
abbrev WI := EnvD → Mu → (Src → Mu → Prop) → QD → Prop
/-! ### wishes -/
def wSeq (a b : WS) : WS := fun e μ E => a e μ { E with nx := fun e1 μ1 => b e1 μ1 E }
def wNext : WS := fun e μ E => E.nx e μ
def wBreak : WS := fun e μ E => E.bk e μ
def wCont : WS := fun e μ E => E.ct e μ
def wAsg (i : Nat) (a : WE) : WS := fun e μ E => a e μ (fun d μ1 => E.nx (st e i (some d)) μ1) fun d μ1 => E.xp d e μ1
def wAsgG (g : WG) (a : WE) : WS := fun e μ E => a e μ (fun d μ1 => g d e fun e1 => E.nx e1 μ1) fun d μ1 => E.xp d e μ1
def wDrop (a : WE) : WS := fun e μ E => a e μ (fun _ μ1 => E.nx e μ1) fun d μ1 => E.xp d e μ1
def wRet (a : WE) : WS := fun e μ E => a e μ E.rt fun d μ1 => E.xp d e μ1
def wRetN : WS := fun _ μ E => E.rt .none μ
def wIfS (t : WT) (a b : WS) : WS := fun e μ E => t e μ (fun k μ1 => if k = true then a e μ1 E else b e μ1 E) fun d μ1 => E.xp d e μ1
def wPar (i j : Nat) (a : WA) : WS := fun e μ E => a e μ (fun ds μ1 => match ds with
  | [x, y] => E.nx (st (st e i (some x)) j (some y)) μ1
  | _ => False) fun d μ1 => E.xp d e μ1
def wAug (i : Nat) (f : Int → Int → Int) (a : WE) : WS := fun e μ E => match gt e i with
  | some (.int x) => a e μ (fun d μ1 => match d with
    | .int y => E.nx (st e i (some (.int (f x y)))) μ1
    | _ => False) fun d μ1 => E.xp d e μ1
  | _ => False
/-- l[i] = v -/
def wSetL (v o i : WE) : WS := fun e μ E => v e μ (fun d μ1 => o e μ1 (fun x μ2 => i e μ2 (fun y μ3 => match x, y with
  | .cell p, .int k => (match ndL (μ3 p) with
    | some ds => (match ixN ds.length k with
      | some j => E.nx e (up μ3 p (.list (ds.set j d)))
      | Option.none => False)
    | Option.none => False)
  | _, _ => False) fun d μ1 => E.xp d e μ1) fun d μ1 => E.xp d e μ1) fun d μ1 => E.xp d e μ1
def wgN (i : Nat) : WG := fun d e Q => Q (st e i (some d))
def wgNil : WGs := fun ds e Q => match ds with
  | [] => Q e
  | _ => False
def wgCons (g : WG) (gs : WGs) : WGs := fun ds e Q => match ds with
  | d :: ds => g d e fun e1 => gs ds e1 Q
  | _ => False
def wgTup (n : Nat) (gs : WGs) : WG := fun d e Q => match d with
  | .tup ds => ds.length = n ∧ gs ds e Q
  | _ => False
def okS : D → List D → Mu → Prop
  | .cell p, ds, μ => ndL (μ p) = some ds
  | _, _, _ => True
def wiSeq (a : WE) : WI := fun e μ Q X => a e μ (fun d μ1 => match sqD μ1 d with
  | some ds => Q ⟨ds, okS d ds⟩ μ1
  | Option.none => False) X
def rangeD (lo : Int) (n : Nat) : List D := (List.range n).map fun (i : Nat) => .int (lo + (i : Int))
def inR (i : Int) : Prop := -(2 ^ 62) ≤ i ∧ i < 2 ^ 62
def wiRng1 (a : WA) : WI := fun e μ Q X => a e μ (fun ds μ1 => one ds fun x => int1 x fun j => inR j ∧ Q ⟨rangeD 0 j.toNat, fun _ => True⟩ μ1) X
def wiRng2 (a : WA) : WI := fun e μ Q X => a e μ (fun ds μ1 => two ds fun x y => int1 x fun lo => int1 y fun hi => inR lo ∧ inR hi ∧ Q ⟨rangeD lo (hi - lo).toNat, fun _ => True⟩ μ1) X
def goFor (ok : Mu → Prop) (g : WG) (b : WS) : List D → WS
  | [], e, μ, E => ok μ ∧ E.nx e μ
  | x :: xs, e, μ, E => ok μ ∧ g x e fun e1 => b e1 μ { nx := fun e2 μ2 => goFor ok g b xs e2 μ2 E, rt := E.rt, bk := E.nx, ct := fun e2 μ2 => goFor ok g b xs e2 μ2 E, xp := E.xp }
def wFor (s : WI) (g : WG) (b : WS) : WS := fun e μ E => s e μ (fun s μ1 => s.xs.length ≤ 2 ^ 63 ∧ goFor s.ok g b s.xs e μ1 E) fun d μ1 => E.xp d e μ1
/-- n turns at most -/
def goWhile (t : WT) (b : WS) : Nat → WS
  | 0, _, _, _ => False
  | n + 1, e, μ, E => t e μ (fun k μ1 => if k = true then b e μ1 { nx := fun e2 μ2 => goWhile t b n e2 μ2 E, rt := E.rt, bk := E.nx, ct := fun e2 μ2 => goWhile t b n e2 μ2 E, xp := E.xp } else E.nx e μ1) fun d μ1 => E.xp d e μ1
def wWhile (t : WT) (b : WS) : WS := fun e μ E => ∃ n, n ≤ 2 ^ 63 ∧ goWhile t b n e μ E
def wYes : WT := fun _ μ Q _ => Q true μ
def goLc (ok : Mu → Prop) (g : WG) (t : WT) (a : WE) (e : EnvD) (X : QD) : List D → List D → Mu → (List D → Mu → Prop) → Prop
  | [], acc, μ, Q => ok μ ∧ Q acc μ
  | x :: xs, acc, μ, Q => ok μ ∧ g x e fun e1 => t e1 μ (fun k μ1 => if k = true then a e1 μ1 (fun d μ2 => goLc ok g t a e X xs (acc ++ [d]) μ2 Q) X else goLc ok g t a e X xs acc μ1 Q) X
def wLc (m : Bool) (s : WI) (g : WG) (t : WT) (a : WE) (vs : List Nat) : WE := fun e μ Q X => s e μ (fun s μ1 => s.xs.length ≤ sizeLine ∧ goLc s.ok g t a (wipeE e vs) (fun _ _ => False) s.xs [] μ1 fun ds μ2 => sett m Q (.n (.list ds)) μ2) X
/-! ### readings -/
structure EV (c : Ctx) (W : WX) (S : Option SA) (F : Hp) (n : Nat) (I : Hp) (E : WEnds) (K : Ends) : Prop where
  nx : ∀ e' μ' σ' I' H', E.nx e' μ' → Same I I' → EnvR c S I' e' σ' → Wd c S F n I' μ' H' → K.nx σ' H'
  rt : ∀ d μ' v I' H', E.rt d μ' → Same I I' → Wd c S F n I' μ' H' → Rep c S I' d v → K.rt v H'
  bk : ∀ e' μ' σ' I' H', E.bk e' μ' → Same I I' → EnvR c S I' e' σ' → Wd c S F n I' μ' H' → K.bk σ' H'
  ct : ∀ e' μ' σ' I' H', E.ct e' μ' → Same I I' → EnvR c S I' e' σ' → Wd c S F n I' μ' H' → K.ct σ' H'
  xp : ∀ d e' μ' cls dx σ' I' H', E.xp d e' μ' → Same I I' → EnvR c S I' e' σ' → Wd c S F n I' μ' H' → ErrAt c S I' d cls dx → W cls dx σ' H'
theorem EV.mono {c : Ctx} {W : WX} {S : Option SA} {F : Hp} {n n' : Nat} {I I' : Hp} {E : WEnds} {K : Ends} (h : EV c W S F n I E K) (l : n' ≤ n) (s : Same I I') : EV c W S F n' I' E K :=
  ⟨fun e' μ' σ' I2 H' p s2 r w => h.nx e' μ' σ' I2 H' p (s.trans s2) r (w.up l), fun d μ' v I2 H' p s2 w r => h.rt d μ' v I2 H' p (s.trans s2) (w.up l) r, fun e' μ' σ' I2 H' p s2 r w => h.bk e' μ' σ' I2 H' p (s.trans s2) r (w.up l),
    fun e' μ' σ' I2 H' p s2 r w => h.ct e' μ' σ' I2 H' p (s.trans s2) r (w.up l), fun d e' μ' cls dx σ' I2 H' p s2 r w er => h.xp d e' μ' cls dx σ' I2 H' p (s.trans s2) r (w.up l) er⟩
theorem EV.lessF {c : Ctx} {W : WX} {S : Option SA} {F F' : Hp} {n : Nat} {I : Hp} {E : WEnds} {K : Ends} (h : EV c W S F n I E K) (l : ∀ b o, F b = some o → F' b = some o) : EV c W S F' n I E K :=
  ⟨fun e' μ' σ' I2 H' p s2 r w => h.nx e' μ' σ' I2 H' p s2 r (w.less l), fun d μ' v I2 H' p s2 w r => h.rt d μ' v I2 H' p s2 (w.less l) r, fun e' μ' σ' I2 H' p s2 r w => h.bk e' μ' σ' I2 H' p s2 r (w.less l),
    fun e' μ' σ' I2 H' p s2 r w => h.ct e' μ' σ' I2 H' p s2 r (w.less l), fun d e' μ' cls dx σ' I2 H' p s2 r w er => h.xp d e' μ' cls dx σ' I2 H' p s2 r (w.less l) er⟩
/-- what errors of an expression come to -/
theorem EV.x {c : Ctx} {W : WX} {S : Option SA} {F : Hp} {n : Nat} {I : Hp} {E : WEnds} {K : Ends} {e : EnvD} {σ : L2.St} (h : EV c W S F n I E K) (he : EnvR c S I e σ) : XV c W S F n I σ fun d μ1 => E.xp d e μ1 := fun d μ' cls dx I' H' p s w er => h.xp d e μ' cls dx σ I' H' p s (he.mono s) w er
section
variable (c : Ctx) (W : WX) (k : Nat)
def ldS (w : WS) : TS := fun K σ H => ∃ S F n I μ e E, n + k ≤ LIM ∧ EnvR c S I e σ ∧ Wd c S F n I μ H ∧ w e μ E ∧ EV c W S F (n + k) I E K
/-- a target; js the slots that it stores -/
def ldG (js : List Nat) (g : WG) : TG := fun v σ H Q => ∃ S F n I μ e d Qd, EnvR c S I e σ ∧ Wd c S F n I μ H ∧ Rep c S I d v ∧ g d e Qd ∧ ∀ e' σ', Qd e' → EnvR c S I e' σ' → (∀ i, i ∉ js → σ'[i]? = σ[i]?) → σ'.length = σ.length → Q σ' H
def ldGs (js : List Nat) (g : WGs) : TGs := fun vs σ H Q => ∃ S F n I μ e ds Qd, EnvR c S I e σ ∧ Wd c S F n I μ H ∧ Reps c S I ds vs ∧ g ds e Qd ∧ ∀ e' σ', Qd e' → EnvR c S I e' σ' → (∀ i, i ∉ js → σ'[i]? = σ[i]?) → σ'.length = σ.length → Q σ' H
def SubF (F F' : Hp) : Prop := ∀ b o, F b = some o → F' b = some o
def ItD (S : Option SA) (F0 : Hp) (J : It) (I1 : Hp) (s : Src) : Prop := ∀ F i n I μ H, SubF F0 F → Same I1 I → Wd c S F n I μ H → s.ok μ →
  (∀ d, s.xs[i]? = some d → J.go i H ∧ ∀ v H', J.yld i H v H' → ∃ I', Same I I' ∧ Wd c S F n I' μ H' ∧ Rep c S I' d v) ∧ (s.xs[i]? = Option.none → J.stop i H)
def ldI (w : WI) : TI := fun σ H R => ∃ S F n I μ e Qd Xd, n + k ≤ LIM ∧ EnvR c S I e σ ∧ Wd c S F n I μ H ∧ w e μ Qd Xd ∧ (∀ s μ' J I' H' F', SubF F F' → Qd s μ' → Same I I' → Wd c S F' (n + k) I' μ' H' → ItD c S F' J I' s → R J H') ∧ XV c W S F (n + k) I σ Xd
end
section
variable (X : Cx) (c : Ctx) (W : WX) (k : Nat)
abbrev GS (s : Stmt) (w : WS) : Prop := PS X s (ldS c W k w)
abbrev GSs (s : List Stmt) (w : WS) : Prop := PSs X s (ldS c W k w)
abbrev GG (js : List Nat) (t : Expr) (g : WG) : Prop := PG X t (ldG c js g)
abbrev GGs (js : List Nat) (t : List Expr) (g : WGs) : Prop := PGs X t (ldGs c js g)
abbrev GI (tg it : Expr) (w : WI) : Prop := PI X tg it (ldI c W k w)
end
theorem _root_.L2.PS.imp {X : Cx} {s : Stmt} {t t' : TS} (h : PS X s t) (i : ∀ D σ H, t' D σ H → t D σ H) : PS X s t' := ⟨fun pins s σ H D J z => h.run pins s σ H D J (i D σ H z)⟩
theorem _root_.L2.PSs.imp {X : Cx} {s : List Stmt} {t t' : TS} (h : PSs X s t) (i : ∀ D σ H, t' D σ H → t D σ H) : PSs X s t' := ⟨fun pins s σ H D J z => h.run pins s σ H D J (i D σ H z)⟩
theorem _root_.L2.PG.imp {X : Cx} {s : Expr} {t t' : TG} (h : PG X s t) (i : ∀ v σ H Q, t' v σ H Q → t v σ H Q) : PG X s t' := ⟨fun pins s σ H v u Q J r z => h.run pins s σ H v u Q J r (i v σ H Q z)⟩
theorem _root_.L2.PGs.imp {X : Cx} {s : List Expr} {t t' : TGs} (h : PGs X s t) (i : ∀ v σ H Q, t' v σ H Q → t v σ H Q) : PGs X s t' := ⟨fun pins s σ H v u Q J r z => h.run pins s σ H v u Q J r (i v σ H Q z)⟩
theorem _root_.L2.PI.imp {X : Cx} {tg s : Expr} {t t' : TI} (h : PI X tg s t) (i : ∀ σ H Q, t' σ H Q → t σ H Q) : PI X tg s t' := ⟨fun pins s σ H R J z => h.run pins s σ H R J (i σ H R z)⟩
section
variable {X : Cx} {c : Ctx} {W : WX} {k ka kb kc ko : Nat} {a b d tg it : Expr} {wa wb wo wi' : WE} {m : Bool} {pos pos' : Pos} {es : List Expr} {wr : WA} {wt wu : WT} {s : Stmt} {ss ss2 : List Stmt} {w1 w2 : WS} {i j : Nat} {x y : Str} {js js2 : List Nat} {g : WG} {gs : WGs} {wi : WI}
theorem gs_nil : GSs X c W 0 [] wNext := L2.PSs.imp pss_nil fun K σ H h => by
  obtain ⟨S, F, n, I, μ, e, E, hl, he, hw, h, q⟩ := h
  exact q.nx e μ σ I H h (Same.refl I) he hw
theorem ldS_seq {K : Ends} {σ : L2.St} {H : Hp} (h : ldS c W (ka + kb) (wSeq w1 w2) K σ H) : tSeq (ldS c W ka w1) (ldS c W kb w2) K σ H := by
  obtain ⟨S, F, n, I, μ, e, E, hl, he, hw, h, q⟩ := h
  refine ⟨S, F, n, I, μ, e, _, by omega, he, hw, h, ?_⟩
  have q1 := q.mono (n' := n + ka) (by omega) (Same.refl I)
  exact ⟨fun e1 μ1 σ1 I1 H1 p1 s1 r1 u1 => ⟨S, F, n + ka, I1, μ1, e1, E, by omega, r1, u1, p1, q.mono (by omega) s1⟩, q1.rt, q1.bk, q1.ct, q1.xp⟩
theorem gs_cons (h1 : GS X c W ka s w1) (h2 : GSs X c W kb ss w2) : GSs X c W (ka + kb) (s :: ss) (wSeq w1 w2) := L2.PSs.imp (pss_cons h1 h2) fun K σ H h => ldS_seq h
theorem gs_one (h1 : GS X c W k s w1) : GSs X c W k [s] w1 := pss_one h1
theorem ldE_S {Q : VK} {σ : L2.St} {H : Hp} {E : WEnds} {K : Ends} {S : Option SA} {F : Hp} {n : Nat} {I : Hp} {μ : Mu} {e : EnvD} {Qd : QD} (hl : n + k ≤ LIM) (he : EnvR c S I e σ) (hw : Wd c S F n I μ H) (q : EV c W S F (n + k) I E K) (h : wa e μ Qd fun d μ1 => E.xp d e μ1)
    (hq : QV c S F (n + k) I Qd Q) : ldE c W k wa σ H Q := ⟨S, F, n, I, μ, e, Qd, _, hl, he, hw, h, hq, q.x he⟩
theorem g_ret (ha : GE X c W k a wa) : GS X c W k (.Return (some a) pos) (wRet wa) := L2.PS.imp (ps_ret ha) fun K σ H h => by
  obtain ⟨S, F, n, I, μ, e, E, hl, he, hw, h, q⟩ := h
  exact ldE_S hl he hw q h fun d μ1 v I1 H1 p s1 u1 r1 => q.rt d μ1 v I1 H1 p s1 u1 r1
theorem g_drop (ha : GE X c W k a wa) (hs : swapsWith a none pos.line X.env = pure false := by rfl) : GS X c W k (.Expr a pos) (wDrop wa) := L2.PS.imp (ps_expr ha hs) fun K σ H h => by
  obtain ⟨S, F, n, I, μ, e, E, hl, he, hw, h, q⟩ := h
  exact ldE_S hl he hw q h fun d μ1 v I1 H1 p s1 u1 r1 => q.nx e μ1 σ I1 H1 p s1 (he.mono s1) u1
theorem g_ifS {bb b2 : List Stmt} (hc : GT X c W kc d wt) (ha : GSs X c W ka bb w1) (hb : GSs X c W kb b2 w2) : GS X c W (kc + (ka + kb)) (.If d bb b2 pos) (wIfS wt w1 w2) := L2.PS.imp (ps_if hc ha hb) fun K σ H h => by
  obtain ⟨S, F, n, I, μ, e, E, hl, he, hw, h, q⟩ := h
  refine ⟨S, F, n, I, μ, e, _, _, by omega, he, hw, h, fun b μ1 I1 H1 pb s1 u1 => ?_, (q.x he).mono (by omega) (Same.refl I)⟩
  exact ite_b pb (fun _ h => ⟨S, F, n + kc, I1, μ1, e, E, by omega, he.mono s1, u1, h, q.mono (by omega) s1⟩) fun _ h => ⟨S, F, n + kc, I1, μ1, e, E, by omega, he.mono s1, u1, h, q.mono (by omega) s1⟩
theorem ld_asg {K : Ends} {σ : L2.St} {H : Hp} (h : ldS c W k (wAsg i wa) K σ H) : tAsg (ldE c W k wa) (gName i) K σ H := by
  obtain ⟨S, F, n, I, μ, e, E, hl, he, hw, h, q⟩ := h
  exact ldE_S hl he hw q h fun d μ1 v I1 H1 p s1 u1 r1 => q.nx _ μ1 _ I1 H1 p s1 ((he.mono s1).put r1 i) u1
theorem g_set (hN : X.N.Nodup) (hi : X.N[i]? = some x) (hx : Loc X.env.scope x) (he : GE X c W k a wa) (hs : swapsWith a (some (.Name x pos')) pos.line X.env = pure false := by rfl) (hf : X.fn x = true ∨ X.env.scope.names.lookup x = some .local := by first | exact .inl rfl | exact .inr rfl | assumption) :
    GS X c W k (.Assign [.Name x pos'] a pos) (wAsg i wa) := L2.PS.imp (ps_set hN hi hx he hs hf) fun K σ H h => ld_asg h
theorem g_asg (he : GE X c W k a wa) (hg : GG X c js tg g) (hs : swapsWithSole [tg] a pos.line X.env = pure false := by rfl) (hw : swappedStores [tg] a X.env = pure none := by rfl)
    (h1 : (assignEach [tg] X.env).map (·.2) = [assign tg X.env] := by rfl) : GS X c W k (.Assign [tg] a pos) (wAsgG g wa) := L2.PS.imp (ps_asg he hg hs hw h1) fun K σ H h => by
  obtain ⟨S, F, n, I, μ, e, E, hl, he, hw, h, q⟩ := h
  refine ldE_S hl he hw q h fun d μ1 v I1 H1 p s1 u1 r1 => ?_
  exact ⟨S, F, _, I1, μ1, e, d, _, he.mono s1, u1, r1, p, fun e' σ' p' r' _ _ => q.nx e' μ1 σ' I1 H1 p' s1 r' u1⟩
theorem g_parN {hp : PS X s (tPar i j (ldA c W k wr))} : GS X c W k s (wPar i j wr) := L2.PS.imp hp fun K σ H h => by
  obtain ⟨S, F, n, I, μ, e, E, hl, he, hw, h, q⟩ := h
  refine ⟨S, F, n, I, μ, e, _, _, hl, he, hw, h, fun ds μ1 vs I1 H1 p s1 u1 r1 => ?_, q.x he⟩
  cases r1 with
  | nil => exact False.elim p
  | cons r1 r2 =>
    cases r2 with
    | nil => exact False.elim p
    | cons r2 r3 =>
      cases r3 with
      | nil => exact ⟨_, _, rfl, q.nx _ μ1 _ I1 H1 p s1 (((he.mono s1).put r1 i).put r2 j) u1⟩
      | cons => exact False.elim p
theorem g_aug {op : Operator} {f : Int → Int → Int} (hN : X.N.Nodup) (hi : X.N[i]? = some x) (hx : Loc X.env.scope x) (he : GE X c W k a wa) (ho : PIp X op (ipI f)) (hf : X.fn x = true ∨ X.env.scope.names.lookup x = some .local := by first | exact .inl rfl | exact .inr rfl | assumption) :
    GS X c W k (.AugAssign (.Name x pos') op a pos) (wAug i f wa) := L2.PS.imp (ps_aug hN hi hx he ho hf) fun K σ H h => by
  obtain ⟨S, F, n, I, μ, e, E, hl, he, hw, h, q⟩ := h
  unfold wAug at h
  split at h
  · rename_i z hz
    obtain ⟨v, h1, h2⟩ := he.get hz
    cases h2
    refine ⟨_, h1, ldE_S hl he hw q h fun d μ1 v I1 H1 p s1 u1 r1 => ?_⟩
    cases r1 <;> first | exact False.elim p | exact ⟨_, _, rfl, rfl, q.nx _ μ1 _ I1 H1 p s1 ((he.mono s1).put .int i) u1⟩
  · exact h.elim
/-! targets -/
theorem gg_name (hN : X.N.Nodup) (hi : X.N[i]? = some x) (hx : Loc X.env.scope x) (hf : X.fn x = true ∨ X.env.scope.names.lookup x = some .local := by first | exact .inl rfl | exact .inr rfl | assumption) : GG X c [i] (.Name x pos) (wgN i) := L2.PG.imp (pg_name hN hi hx hf) fun v σ H Q h => by
  obtain ⟨S, F, n, I, μ, e, d, Qd, he, hw, r, h, q⟩ := h
  exact q _ _ h (he.put r i) (fun j hj => List.getElem?_set_ne fun z => hj (by rw [z]; exact List.mem_cons_self)) List.length_set
theorem ggs_nil : GGs X c [] [] wgNil := L2.PGs.imp pgs_nil fun vs σ H Q h => by
  obtain ⟨S, F, n, I, μ, e, ds, Qd, he, hw, r, h, q⟩ := h
  cases r with
  | nil => exact ⟨rfl, q e σ h he (fun _ _ => rfl) rfl⟩
  | cons => exact False.elim h
theorem ggs_cons (h1 : GG X c js a g) (h2 : GGs X c js2 es gs) (hs : (assignEach (a :: es) X.env).map (·.2) = assign a X.env :: (assignEach es X.env).map (·.2) := by rfl) : GGs X c (js ++ js2) (a :: es) (wgCons g gs) := L2.PGs.imp (pgs_cons h1 h2 hs) fun vs σ H Q h => by
  obtain ⟨S, F, n, I, μ, e, ds, Qd, he, hw, r, h, q⟩ := h
  cases r with
  | nil => exact False.elim h
  | cons r1 r2 =>
    refine ⟨_, _, rfl, S, F, n, I, μ, e, _, _, he, hw, r1, h, fun e1 σ1 p1 he1 k1 l1 => ?_⟩
    refine ⟨S, F, n, I, μ, e1, _, _, he1, hw, r2, p1, fun e2 σ2 p2 he2 k2 l2 => ?_⟩
    exact q e2 σ2 p2 he2 (fun i hi => (k2 i fun z => hi (List.mem_append_right _ z)).trans (k1 i fun z => hi (List.mem_append_left _ z))) (l2.trans l1)
theorem gg_tup {kk n : Nat} (h : GGs X c js es gs) (hc : X.calm = true := by rfl) (hn : (assignEach es X.env).length = n := by rfl) (hst : (assignEach es X.env).findIdx? (·.1) = none := by rfl) (hK : X.K = c.K := by rfl) : GG X c js (.Tuple es kk pos) (wgTup n gs) := by
  obtain ⟨K, cl, tb, ns, es0⟩ := c
  cases hK
  refine L2.PG.imp (pg_tup hc h hn hst) fun v σ H Q h => ?_
  obtain ⟨S, F, m, I, μ, e, d, Qd, he, hw, r, h, q⟩ := h
  cases r <;> try exact False.elim h
  rename_i a ds xs g r
  exact ⟨_, _, rfl, hw.tupH g, by rw [← r.length]; exact h.1, S, F, m, I, μ, e, ds, Qd, he, hw, r, h.2, q⟩
/-! what is walked -/
def iSeq (K : PySem.W.Frag) (tl : TE) : TI := fun σ H R => tl σ H fun x H1 => ∃ a xs, x = .ref a ∧ ((SqL K H1 a xs ∧ R (Itl K a) H1) ∨ (SqT K H1 a xs ∧ R (Itt K a) H1))
theorem pi_seq {tl : TE} (hl : PE X a tl) : PI X tg a (iSeq X.K tl) := by
  refine ⟨fun pins s σ H R I h => ?_⟩
  refine thn (hl.run pins s σ H _ I h) fun v s1 ⟨x, H1, I1, r1, q1⟩ => ?_
  obtain ⟨a, xs, e, q1⟩ := q1
  subst e
  cases r1
  rcases q1 with ⟨hq, q⟩ | ⟨hq, q⟩
  · obtain ⟨its, rv, p, hz⟩ := I1.list hq
    refine wpAny_pyIter_list p.isList ?_
    refine ⟨s1.heap.objs.size, [s1.heap.objs.size], _, _, H1, rfl, I1.kept (t' := s1.toks) fun b o e => Heap.get?_push_of_some _ e, turn_list a _, ⟨_, Heap.get?_push_size _ rfl, rfl, rfl⟩, fun b hb => ?_, q⟩
    have e : b = s1.heap.objs.size := by simpa using hb
    subst e
    exact I1.fpOk (Nat.le_refl _) (I1.hok.fresh (Nat.le_refl _))
  · obtain ⟨its, rv, p, hz⟩ := I1.tuple hq
    refine wpAny_pyIter_tuple (show s1.heap.IsTuple a its.toArray from p) ?_
    refine ⟨s1.heap.objs.size, [s1.heap.objs.size], _, _, H1, rfl, I1.kept (t' := s1.toks) fun b o e => Heap.get?_push_of_some _ e, turn_tuple a _, ⟨_, Heap.get?_push_size _ rfl, rfl, rfl⟩, fun b hb => ?_, q⟩
    have e : b = s1.heap.objs.size := by simpa using hb
    subst e
    exact I1.fpOk (Nat.le_refl _) (I1.hok.fresh (Nat.le_refl _))
theorem itd_list {S : Option SA} {F0 I1 : Hp} {a : Addr} {ds : List D} {ok : Mu → Prop} (h : ∀ F n I μ H, Same I1 I → Wd c S F n I μ H → ok μ → ∃ xs, SqL c.K H a xs ∧ Reps c S I ds xs) : ItD c S F0 (Itl c.K a) I1 ⟨ds, ok⟩ := fun F i n I μ H _ s w o => by
  obtain ⟨xs, hq, r⟩ := h F n I μ H s w o
  refine ⟨fun d hd => ?_, fun hd => ?_⟩
  · obtain ⟨x, hx, rx⟩ := r.get hd
    refine ⟨⟨xs, x, hq, hx⟩, fun v H' ⟨e1, y⟩ => ⟨I, Same.refl I, by rw [e1]; exact w, ?_⟩⟩
    have e2 := y xs hq
    rw [hx] at e2
    rw [← Option.some.inj e2]
    exact rx
  · refine ⟨xs, hq, ?_⟩
    rw [← r.length]
    exact List.getElem?_eq_none_iff.mp hd
theorem itd_tup {S : Option SA} {F0 I1 : Hp} {a : Addr} {ds : List D} {ok : Mu → Prop} (h : ∀ F n I μ H, Same I1 I → Wd c S F n I μ H → ok μ → ∃ xs, SqT c.K H a xs ∧ Reps c S I ds xs) : ItD c S F0 (Itt c.K a) I1 ⟨ds, ok⟩ := fun F i n I μ H _ s w o => by
  obtain ⟨xs, hq, r⟩ := h F n I μ H s w o
  refine ⟨fun d hd => ?_, fun hd => ?_⟩
  · obtain ⟨x, hx, rx⟩ := r.get hd
    refine ⟨⟨xs, x, hq, hx⟩, fun v H' ⟨e1, y⟩ => ⟨I, Same.refl I, by rw [e1]; exact w, ?_⟩⟩
    have e2 := y xs hq
    rw [hx] at e2
    rw [← Option.some.inj e2]
    exact rx
  · refine ⟨xs, hq, ?_⟩
    rw [← r.length]
    exact List.getElem?_eq_none_iff.mp hd
/-- a list or a tuple, as it is walked -/
theorem itd_sq {S : Option SA} {F F0 : Hp} {n : Nat} {I H : Hp} {μ : Mu} {d : D} {v : V} {ds : List D} (w : Wd c S F n I μ H) (r : Rep c S I d v) (e : sqD μ d = some ds) : ∃ a xs, v = .ref a ∧ ((SqL c.K H a xs ∧ ItD c S F0 (Itl c.K a) I ⟨ds, okS d ds⟩) ∨ (SqT c.K H a xs ∧ ItD c S F0 (Itt c.K a) I ⟨ds, okS d ds⟩)) := by
  cases r with
  | list g r =>
    cases e
    exact ⟨_, _, rfl, .inl ⟨SqL.of (w.lst g), itd_list fun F n I2 μ2 H2 s2 w2 _ => ⟨_, SqL.of (w2.lst (s2 _ _ g)), r.mono s2⟩⟩⟩
  | tup g r =>
    cases e
    exact ⟨_, _, rfl, .inr ⟨w.tupH g, itd_tup fun F n I2 μ2 H2 s2 w2 _ => ⟨_, w2.tupH (Same.tup s2 g), r.mono s2⟩⟩⟩
  | script g =>
    cases e
    exact ⟨_, _, rfl, .inl ⟨w.seqH g, itd_list fun F n I2 μ2 H2 s2 w2 _ => ⟨_, w2.seqH (s2.seq g), Reps.of_ints⟩⟩⟩
  | cell =>
    obtain ⟨xs, h1, h2⟩ := w.cellL e
    refine ⟨_, _, rfl, .inl ⟨SqL.of h1, itd_list fun F n I2 μ2 H2 s2 w2 o => ?_⟩⟩
    obtain ⟨ys, h3, h4⟩ := w2.cellL o
    exact ⟨ys, SqL.of h3, h4⟩
  | _ => cases e
theorem gi_seq (ha : GE X c W k a wa) (hK : X.K = c.K := by rfl) : GI X c W k tg a (wiSeq wa) := by
  obtain ⟨K, cl, tb, ns, es0⟩ := c
  cases hK
  refine L2.PI.imp (pi_seq ha) fun σ H R h => ?_
  obtain ⟨S, F, n, I, μ, e, Qd, Xd, hl, he, hw, h, q, x⟩ := h
  refine ⟨S, F, n, I, μ, e, _, Xd, hl, he, hw, h, fun d μ1 v I1 H1 p s1 u1 r1 => ?_, x⟩
  dsimp only at p
  split at p
  · rename_i ds e1
    obtain ⟨a, xs, rfl, h1⟩ := itd_sq (F0 := F) u1 r1 e1
    refine ⟨a, xs, rfl, ?_⟩
    rcases h1 with ⟨h1, h2⟩ | ⟨h1, h2⟩
    · exact .inl ⟨h1, q _ μ1 _ I1 H1 F (fun _ _ z => z) p s1 u1 h2⟩
    · exact .inr ⟨h1, q _ μ1 _ I1 H1 F (fun _ _ z => z) p s1 u1 h2⟩
  · exact p.elim
theorem rangeD_get (lo : Int) (n i : Nat) : (rangeD lo n)[i]? = if i < n then some (.int (lo + (i : Int))) else Option.none := by
  unfold rangeD
  rw [List.getElem?_map]
  by_cases h : i < n
  · rw [List.getElem?_range h, if_pos h]
    rfl
  · rw [List.getElem?_eq_none (by rw [List.length_range]; omega), if_neg h]
    rfl
theorem rangeD_len (lo : Int) (n : Nat) : (rangeD lo n).length = n := by
  unfold rangeD
  rw [List.length_map, List.length_range]
theorem itr_d {S : Option SA} {F0 I : Hp} {ok : Mu → Prop} (lo : Int) (n : Nat) : ItD c S F0 (Itr lo n) I ⟨rangeD lo n, ok⟩ := fun F i m I2 O2 H2 _ s2 w2 o => by
  show (∀ d, (rangeD lo n)[i]? = some d → _) ∧ ((rangeD lo n)[i]? = _ → _)
  rw [rangeD_get]
  by_cases h : i < n
  · rw [if_pos h]
    refine ⟨fun d hd => ⟨h, fun v H' ⟨e1, e2⟩ => ⟨I2, Same.refl I2, by rw [e1]; exact w2, ?_⟩⟩, fun hd => by cases hd⟩
    rw [← Option.some.inj hd, e2]
    exact .int
  · rw [if_neg h]
    refine ⟨fun d hd => (by cases hd), fun _ => ?_⟩
    show n ≤ i
    omega
theorem gi_rng1 {p : Pos} (hg : Gl X "range") (hm : X.mg "range" = none) (ha : GA X c W k [a] wr) (hs : starEach [a] X.env = [(false, eval a X.env)] := by rfl) : GI X c W k tg (.Call (.Name "range" p) [a] [] pos) (wiRng1 wr) := L2.PI.imp (pi_range1 hg hm ha hs) fun σ H R h => by
  obtain ⟨S, F, n, I, μ, e, Qd, Xd, hl, he, hw, h, q, x⟩ := h
  refine ⟨S, F, n, I, μ, e, _, Xd, hl, he, hw, h, fun ds μ1 vs I1 H1 p s1 u1 r1 => ?_, x⟩
  obtain ⟨z, rfl, p⟩ := one_cases p
  obtain ⟨j, rfl, p⟩ := int1_cases p
  obtain ⟨v, rfl, rv⟩ := reps1 r1
  cases rv
  exact ⟨j, rfl, p.1.1, p.1.2, q _ μ1 _ I1 H1 F (fun _ _ z => z) p.2 s1 u1 (itr_d 0 _)⟩
/-! loops -/
theorem g_for {body : List Stmt} {kk : Nat} (hp : PassesOwn (model X.prog X.w) X.A X.env X.xe) (hi : GI X c W ka tg it wi) (hg : GG X c js tg g) (hb : GSs X c W kk body w1) (hc : X.calm = true := by rfl) (hs : ∀ x, foldedSetIterable it X.env x = pure x := by intro _; rfl) :
    GS X c W (ka + 2 ^ 63 * kk) (.For tg it body [] pos) (wFor wi g w1) := L2.PS.imp (ps_for hp hc hi hg hb hs) fun K σ H h => by
  obtain ⟨S, F, n, I, μ, e, E, hl, he, hw, h, q⟩ := h
  refine ⟨S, F, n, I, μ, e, _, _, by omega, he, hw, h, fun sr μ1 J I1 H1 F' sf p s1 u1 it1 => ?_, (q.x he).mono (by omega) (Same.refl I)⟩
  obtain ⟨hlen, p⟩ := p
  have hk : sr.xs.length * kk ≤ 2 ^ 63 * kk := Nat.mul_le_mul_right kk hlen
  refine ⟨fun i r σ' H' => r = sr.xs.length - i ∧ i ≤ sr.xs.length ∧ ∃ e' μ' I', Same I1 I' ∧ EnvR c S I' e' σ' ∧ Wd c S F' (n + ka + i * kk) I' μ' H' ∧ goFor sr.ok g w1 (sr.xs.drop i) e' μ' E,
    ⟨sr.xs.length, by omega, Nat.zero_le _, e, μ1, I1, Same.refl I1, he.mono s1, by rw [Nat.zero_mul, Nat.add_zero]; exact u1, p⟩, ?_⟩
  rintro i r σ2 H2 ⟨rfl, hi, e2, μ2, I2, s2, r2, u2, p2⟩
  by_cases hlt : i < sr.xs.length
  · have hx1 : sr.xs[i]? = some sr.xs[i] := List.getElem?_eq_getElem hlt
    rw [List.drop_eq_getElem_cons hlt] at p2
    obtain ⟨ok2, p2⟩ := p2
    obtain ⟨hgo, hy⟩ := (it1 F' i _ I2 μ2 H2 (fun _ _ z => z) s2 u2 ok2).1 _ hx1
    refine .inr ⟨hgo, fun σ' H' => ∃ e' μ' I', Same I1 I' ∧ EnvR c S I' e' σ' ∧ Wd c S F' (n + ka + (i + 1) * kk) I' μ' H' ∧ goFor sr.ok g w1 (sr.xs.drop (i + 1)) e' μ' E, fun σ' H' z => ⟨sr.xs.length - (i + 1), by omega, rfl, hlt, z⟩, fun x H3 yl => ?_⟩
    obtain ⟨I3, s3, u3, r3⟩ := hy x H3 yl
    have hmul : (i + 1) * kk = i * kk + kk := by rw [Nat.add_mul, Nat.one_mul]
    have hle : (i + 1) * kk ≤ sr.xs.length * kk := Nat.mul_le_mul_right kk hlt
    refine ⟨S, F', _, I3, μ2, e2, _, _, r2.mono s3, u3, r3, p2, fun e4 σ4 p4 r4 _ _ => ?_⟩
    refine ⟨S, F', n + ka + i * kk, I3, μ2, e4, _, by omega, r4, u3, p4, ?_⟩
    have q3 := (q.lessF sf).mono (n' := n + ka + i * kk + kk) (by omega) ((s1.trans s2).trans s3)
    refine ⟨fun e5 μ5 σ5 I5 H5 p5 s5 r5 u5 => ⟨e5, μ5, I5, (s2.trans s3).trans s5, r5, u5.up (by omega), p5⟩, q3.rt, q3.nx, fun e5 μ5 σ5 I5 H5 p5 s5 r5 u5 => ⟨e5, μ5, I5, (s2.trans s3).trans s5, r5, u5.up (by omega), p5⟩, q3.xp⟩
  · have e0 : i = sr.xs.length := by omega
    subst e0
    rw [List.drop_length] at p2
    obtain ⟨ok2, p2⟩ := p2
    exact .inl ⟨(it1 F' _ _ I2 μ2 H2 (fun _ _ z => z) s2 u2 ok2).2 (List.getElem?_eq_none_iff.mpr (Nat.le_refl _)), (q.lessF sf).nx e2 μ2 σ2 I2 H2 p2 (s1.trans s2) r2 (u2.up (by omega))⟩
theorem g_while {body : List Stmt} {kt kk : Nat} (hp : PassesOwn (model X.prog X.w) X.A X.env X.xe) (ht : GT X c W kt a wt) (hb : GSs X c W kk body w1) : GS X c W (2 ^ 63 * (kt + kk)) (.While a body [] pos) (wWhile wt w1) := L2.PS.imp (ps_while hp ht hb) fun K σ H h => by
  obtain ⟨S, F, n, I, μ, e, E, hl, he, hw, ⟨N, hN, h⟩, q⟩ := h
  have hk : N * (kt + kk) ≤ 2 ^ 63 * (kt + kk) := Nat.mul_le_mul_right _ hN
  refine ⟨fun r σ' H' => r ≤ N ∧ ∃ e' μ' I', Same I I' ∧ EnvR c S I' e' σ' ∧ Wd c S F (n + (N - r) * (kt + kk)) I' μ' H' ∧ goWhile wt w1 r e' μ' E, ⟨N, Nat.le_refl _, e, μ, I, Same.refl I, he, by rw [Nat.sub_self, Nat.zero_mul, Nat.add_zero]; exact hw, h⟩, ?_⟩
  rintro r σ2 H2 ⟨hr, e2, μ2, I2, s2, r2, u2, p2⟩
  cases r with
  | zero => exact p2.elim
  | succ r =>
    have hmul : (N - r) * (kt + kk) = (N - (r + 1)) * (kt + kk) + (kt + kk) := by rw [show N - r = N - (r + 1) + 1 by omega, Nat.add_mul, Nat.one_mul]
    have hle : (N - r) * (kt + kk) ≤ N * (kt + kk) := Nat.mul_le_mul_right _ (by omega)
    refine ⟨S, F, n + (N - (r + 1)) * (kt + kk), I2, μ2, e2, _, _, by omega, r2, u2, p2, fun b μ3 I3 H3 p3 s3 u3 => ?_, ((q.mono (n' := n + 2 ^ 63 * (kt + kk)) (Nat.le_refl _) s2).x r2).mono (by omega) (Same.refl I2)⟩
    refine ite_b p3 (fun _ p4 => ⟨fun σ' H' => ∃ e' μ' I', Same I I' ∧ EnvR c S I' e' σ' ∧ Wd c S F (n + (N - r) * (kt + kk)) I' μ' H' ∧ goWhile wt w1 r e' μ' E, fun σ' H' z => ⟨r, Nat.lt_succ_self r, by omega, z⟩, ?_⟩) fun _ p4 => q.nx e2 μ3 σ2 I3 H3 p4 (s2.trans s3) (r2.mono s3) (u3.up (by omega))
    refine ⟨S, F, n + (N - (r + 1)) * (kt + kk) + kt, I3, μ3, e2, _, by omega, r2.mono s3, u3, p4, ?_⟩
    have q3 := q.mono (n' := n + (N - (r + 1)) * (kt + kk) + kt + kk) (by omega) (s2.trans s3)
    exact ⟨fun e5 μ5 σ5 I5 H5 p5 s5 r5 u5 => ⟨e5, μ5, I5, (s2.trans s3).trans s5, r5, u5.up (by omega), p5⟩, q3.rt, q3.nx, fun e5 μ5 σ5 I5 H5 p5 s5 r5 u5 => ⟨e5, μ5, I5, (s2.trans s3).trans s5, r5, u5.up (by omega), p5⟩, q3.xp⟩
end
/-! ### comprehensions -/
theorem wipe_eq {σ σ' : L2.St} (hl : σ'.length = σ.length) : ∀ {vs : List Nat}, (∀ i, i ∉ vs → σ'[i]? = σ[i]?) → wipe σ' vs = wipe σ vs := by
  intro vs h
  have key : ∀ (vs : List Nat) (σ : L2.St) (i : Nat), (wipe σ vs)[i]? = if i ∈ vs then (if i < σ.length then some Option.none else Option.none) else σ[i]? := by
    intro vs
    induction vs with
    | nil =>
      intro σ i
      rw [if_neg (by simp)]
      rfl
    | cons a vs ih =>
      intro σ i
      show ((wipe σ vs).set a Option.none)[i]? = _
      by_cases hi : a = i
      · subst hi
        rw [if_pos List.mem_cons_self]
        by_cases hv : a < σ.length
        · rw [if_pos hv, List.getElem?_set_self (by rw [wipe_length]; exact hv)]
        · rw [if_neg hv, List.getElem?_eq_none (by rw [List.length_set, wipe_length]; omega)]
      · rw [List.getElem?_set_ne hi, ih]
        by_cases hm : i ∈ vs
        · rw [if_pos hm, if_pos (List.mem_cons_of_mem _ hm)]
        · rw [if_neg hm, if_neg (by
            intro z
            rcases List.mem_cons.mp z with z | z
            · exact hi z.symm
            · exact hm z)]
  refine List.ext_getElem? fun i => ?_
  rw [key, key, hl]
  by_cases hm : i ∈ vs
  · rw [if_pos hm, if_pos hm]
  · rw [if_neg hm, if_neg hm]
    exact h i hm
theorem wipe_get {σ : L2.St} {vs : List Nat} {i : Nat} (h : i ∉ vs) : (wipe σ vs)[i]? = σ[i]? := by
  induction vs with
  | nil => rfl
  | cons a vs ih =>
    show ((wipe σ vs).set a Option.none)[i]? = _
    rw [List.getElem?_set_ne (fun z => h (by rw [z]; exact List.mem_cons_self)), ih fun z => h (List.mem_cons_of_mem _ z)]
abbrev W0 : WX := fun _ _ _ _ => False
section
variable {X : Cx} {c : Ctx} {W : WX} {k ka kb kc kt kk : Nat} {m : Bool} {js : List Nat} {g : WG} {wi : WI} {wt : WT} {wa : WE} {vs : List Nat}
/-- one more thing is left alone -/
theorem Wd.leave {S : Option SA} {F : Hp} {n : Nat} {I H : Hp} {μ : Mu} {p : Addr} {o : HO} (w : Wd c S F n I μ H) (h : H p = some o) (hi : I p = none) (hm : μ p = none) (ho : notTX o) (hc : ∀ a, S = some a → ¬ Cell a p) : Wd c S (upd F p o) n I μ H := ⟨w.i, w.m, w.s, w.ni, fun b u e => by
  by_cases z : b = p
  · subst z
    rw [upd_same] at e
    cases e
    exact ⟨h, .inl ⟨hi, hm, ho, hc⟩⟩
  · rw [upd_ne z] at e
    exact w.f b u e, w.z⟩
/-- what is left alone changes -/
theorem Wd.turn {S : Option SA} {F : Hp} {n : Nat} {I H : Hp} {μ : Mu} {p : Addr} {o u : HO} (w : Wd c S (upd F p o) n I μ H) (hu : notTX u) (no : ∀ ob v, o ≠ .frz ob v := by intro _ _ z; cases z) : Wd c S (upd F p u) n I μ (upd H p u) := by
  obtain ⟨h1, h2, h3, h4, h5⟩ := w.f0 upd_same no
  refine ⟨fun b v e => ?_, fun b nd e => ?_, fun a e => ⟨?_, (w.s a e).2⟩, w.ni, fun b v e => ?_, w.z⟩
  · rw [upd_ne (ne_of_none e h2)]
    exact w.i b v e
  · obtain ⟨g1, v, g2, g3⟩ := w.m b nd e
    refine ⟨g1, v, g2, ?_⟩
    rw [upd_ne fun z => ?_]
    · exact g3
    · rw [z, h3] at e
      cases e
  · refine (w.s a e).1.keep (fun b q => upd_ne fun (z : b = p) => h5 a e (z ▸ q)) fun b φ z => ?_
    rw [upd_ne fun q => ?_]
    · exact z
    · rw [q, h1] at z
      cases z
      exact h4
  · by_cases z : b = p
    · subst z
      rw [upd_same] at e ⊢
      cases e
      exact ⟨rfl, .inl ⟨h2, h3, hu, h5⟩⟩
    · have e2 : upd F p o b = some v := by
        rw [upd_ne z] at e ⊢
        exact e
      rw [upd_ne z]
      exact w.f b v e2
theorem sub_new {F : Hp} {p : Addr} {o : HO} (h : F p = none) : SubF F (upd F p o) := fun b u e => by
  rw [upd_ne (ne_of_none e h)]
  exact e
theorem ld_lc {σ : L2.St} {H : Hp} {Q : VK} (hjs : ∀ i ∈ js, i ∈ vs) (h : ldE c W (ka + sizeLine * (kt + kk)) (wLc m wi g wt wa vs) σ H Q) : tLc (ldI c W ka wi) (ldG c js g) (ldT c W0 kt wt) (ldE c W0 kk wa) vs σ H Q := by
  obtain ⟨S, F, n, I, μ, e, Qd, Xd, hl, he, hw, h, q, x⟩ := h
  refine ⟨S, F, n, I, μ, e, _, Xd, by omega, he, hw, h, fun sr μ1 J I1 H1 F' sf p s1 u1 it1 Dl hD => ?_, x.mono (by omega) (Same.refl I)⟩
  obtain ⟨hlen, p⟩ := p
  have hk : sr.xs.length * (kt + kk) ≤ sizeLine * (kt + kk) := Nat.mul_le_mul_right _ hlen
  have fD := u1.fresh hD
  have nD := u1.no_cell hD
  have nF := u1.nf hD
  refine ⟨fun i r H' => r = sr.xs.length - i ∧ i ≤ sr.xs.length ∧ ∃ I' μ' acc ds, Same I1 I' ∧ Wd c S (upd F' Dl (.lst acc)) (n + ka + i * (kt + kk)) I' μ' H' ∧ Reps c S I' ds acc ∧ ds.length ≤ i ∧ goLc sr.ok g wt wa (wipeE e vs) (fun _ _ => False) (sr.xs.drop i) ds μ' fun ds μ2 => sett m Qd (.n (.list ds)) μ2,
    ⟨sr.xs.length, by omega, Nat.zero_le _, I1, μ1, [], [], Same.refl I1, by rw [Nat.zero_mul, Nat.add_zero]; exact (u1.frame hD).leave upd_same fD.1 fD.2 trivial nD, .nil, Nat.le_refl _, p⟩, ?_⟩
  rintro i r H2 ⟨rfl, hi, I2, μ2, acc, ds, s2, u2, r2, l2, p2⟩
  by_cases hlt : i < sr.xs.length
  · have hx1 : sr.xs[i]? = some sr.xs[i] := List.getElem?_eq_getElem hlt
    rw [List.drop_eq_getElem_cons hlt] at p2
    obtain ⟨ok2, p2⟩ := p2
    obtain ⟨hgo, hy⟩ := (it1 _ i _ I2 μ2 H2 (sub_new nF) s2 u2 ok2).1 _ hx1
    refine .inr ⟨hgo, fun H' => ∃ I' μ' acc ds, Same I1 I' ∧ Wd c S (upd F' Dl (.lst acc)) (n + ka + (i + 1) * (kt + kk)) I' μ' H' ∧ Reps c S I' ds acc ∧ ds.length ≤ i + 1 ∧ goLc sr.ok g wt wa (wipeE e vs) (fun _ _ => False) (sr.xs.drop (i + 1)) ds μ' fun ds μ2 => sett m Qd (.n (.list ds)) μ2, fun H' z => ⟨sr.xs.length - (i + 1), by omega, rfl, hlt, z⟩, fun v H3 yl => ?_⟩
    obtain ⟨I3, s3, u3, r3⟩ := hy v H3 yl
    have hmul : (i + 1) * (kt + kk) = i * (kt + kk) + (kt + kk) := by rw [Nat.add_mul, Nat.one_mul]
    have hle : (i + 1) * (kt + kk) ≤ sr.xs.length * (kt + kk) := Nat.mul_le_mul_right _ hlt
    have he3 := EnvR.wipe vs (he.mono ((s1.trans s2).trans s3))
    refine ⟨S, _, _, I3, μ2, wipeE e vs, _, _, he3, u3, r3, p2, fun e4 σ4 p4 r4 k4 l4 => ⟨?_, ?_⟩⟩
    · have e1 : wipe σ4 vs = wipe (wipe σ vs) vs := wipe_eq l4 fun j hj => k4 j fun z => hj (hjs j z)
      rw [e1]
      exact wipe_eq (wipe_length σ vs) fun j hj => wipe_get hj
    · refine ⟨S, _, n + ka + i * (kt + kk), I3, μ2, e4, _, _, by omega, r4, u3, p4, fun b μ5 I5 H5 p5 s5 u5 => ?_, fun d μ' cls dx I' H' z => z.elim⟩
      refine ite_b p5 (fun _ p6 => ?_) fun _ p6 => ⟨I5, μ5, acc, ds, (s2.trans s3).trans s5, u5.up (by omega), r2.mono (s3.trans s5), by omega, p6⟩
      refine ⟨S, _, n + ka + i * (kt + kk) + kt, I5, μ5, e4, _, _, by omega, r4.mono s5, u5, p6, fun d μ7 v7 I7 H7 p7 s7 u7 r7 => ?_, fun d μ' cls dx I' H' z => z.elim⟩
      have r8 := r2.mono ((s3.trans s5).trans s7)
      refine ⟨acc, (u7.f Dl _ upd_same).1, by rw [← r8.length]; omega, I7, μ7, acc ++ [v7], ds ++ [d], ((s2.trans s3).trans s5).trans s7, (u7.turn (u := .lst (acc ++ [v7])) trivial).up (by omega), r8.append (.cons r7 .nil), by rw [List.length_append]; show ds.length + 1 ≤ i + 1; omega, p7⟩
  · have e0 : i = sr.xs.length := by omega
    subst e0
    rw [List.drop_length] at p2
    obtain ⟨ok2, p2⟩ := p2
    refine .inl ⟨(it1 _ _ _ I2 μ2 H2 (sub_new nF) s2 u2 ok2).2 (List.getElem?_eq_none_iff.mpr (Nat.le_refl _)), ?_⟩
    obtain ⟨h1, h2, h3, h4, h5⟩ := u2.f0 (b := Dl) upd_same fun _ _ z => nomatch z
    refine (q.sett (m := m)) _ μ2 _ I2 H2 p2 (s1.trans s2) ((u2.less fun b o e => ?_).up (by omega)) ⟨Dl, _, rfl, h1, .list r2, h2, h3, h5, none_of fun o z => nomatch (sf _ _ z).symm.trans nF⟩
    rw [upd_ne (ne_of_none (sf _ _ e) nF)]
    exact sf _ _ e
theorem gt_yes {X' : Cx} : PTs X' [] (ldT c W0 0 wYes) := ⟨fun pins s σ H Q J h => pts_nil.run pins s σ H Q J (by
  obtain ⟨S, F, n, I, μ, e, Qd, Xd, hl, he, hw, h, q, x⟩ := h
  exact q true μ I H h (Same.refl I) hw)⟩
theorem gt_one {X' : Cx} {a : Expr} (h : GT X' c W0 k a wt) : PTs X' [a] (ldT c W0 k wt) := pts_one h
theorem g_lc {elt tg iter : Expr} {ifs : List Expr} {scope : Scope} {own : List (Str × Nat)} {pos : Pos} (hN : X.N.Nodup) (hi : GI X c W ka tg iter wi) (ok : BlkOk X.N X.env.scope scope own)
    (hg : ∀ (s : Shared) (H : Hp) (C : Addr) (cl : List (Str × Addr)) (fp : List Addr), GG (X.blk s H scope (compEnvC scope cl C X.env) fp) c js tg g) (ht : ∀ (s : Shared) (H : Hp) (C : Addr) (cl : List (Str × Addr)) (fp : List Addr), PTs (X.blk s H scope (compEnvC scope cl C X.env) fp) ifs (ldT c W0 kt wt))
    (he : ∀ (s : Shared) (H : Hp) (C : Addr) (cl : List (Str × Addr)) (fp : List Addr), GE (X.blk s H scope (compEnvC scope cl C X.env) fp) c W0 kk elt wa) (hjs : ∀ i ∈ js, i ∈ own.map (·.2) := by decide) (hc : X.calm = true := by rfl) (hs : ∀ x, foldedSetIterable iter X.env x = pure x := by intro _; rfl) :
    GE X c W (ka + sizeLine * (kt + kk)) (.ListComp elt [⟨tg, iter, ifs, 0⟩] scope pos) (wLc m wi g wt wa (own.map (·.2))) := L2.PE.imp (pe_lc hc hN hi ok hg ht he hs) fun σ H Q h => ld_lc hjs h
theorem g_setLc {i : Nat} {y : Str} {py : Pos} {elt tg iter : Expr} {ifs : List Expr} {scope : Scope} {own : List (Str × Nat)} {pos spos : Pos} (hN : X.N.Nodup) (hy : X.N[i]? = some y) (hyl : X.env.scope.names.lookup y = some .local)
    (hsw : swapsWith (.ListComp elt [⟨tg, iter, ifs, 0⟩] scope pos) (some (.Name y py)) spos.line X.env = pure true) (hi : GI X c W ka tg iter wi) (ok : BlkOk X.N X.env.scope scope own)
    (hg : ∀ (s : Shared) (H : Hp) (C : Addr) (cl : List (Str × Addr)) (fp : List Addr), GG (X.blk s H scope (compEnvC scope cl C X.env) fp) c js tg g) (ht : ∀ (s : Shared) (H : Hp) (C : Addr) (cl : List (Str × Addr)) (fp : List Addr), PTs (X.blk s H scope (compEnvC scope cl C X.env) fp) ifs (ldT c W0 kt wt))
    (he : ∀ (s : Shared) (H : Hp) (C : Addr) (cl : List (Str × Addr)) (fp : List Addr), GE (X.blk s H scope (compEnvC scope cl C X.env) fp) c W0 kk elt wa) (hjs : ∀ i ∈ js, i ∈ own.map (·.2) := by decide) (hc : X.calm = true := by rfl) (hs : ∀ x, foldedSetIterable iter X.env x = pure x := by intro _; rfl) :
    GS X c W (ka + sizeLine * (kt + kk)) (.Assign [.Name y py] (.ListComp elt [⟨tg, iter, ifs, 0⟩] scope pos) spos) (wAsg i (wLc m wi g wt wa (own.map (·.2)))) := L2.PS.imp (ps_setLc hc hN hy hyl hsw hi ok hg ht he hs) fun K σ H h => by
  have h1 := ld_asg h
  exact ld_lc hjs h1
end
end DL

set_option Elab.async false
set_option linter.all false
set_option maxRecDepth 100000
set_option maxHeartbeats 4000000
/-! Y1: rules of the machine for operators of own classes; the head's facts. -/
namespace DL
open PySem PySem.Calls PyProof.Rows L2
section
variable {prog : Program} {w : World} {A : Around} {E : Value → Shared → Prop} {s : Shared} {K : PySem.W.Frag} {x y C f : Addr} {ox oy : Obj} {od od' : Option Obj}
end
/-! ### over the layer -/
/-- what a class has a special method by -/
structure Spl (K : PySem.W.Frag) (C : Addr) (nm : Str) (f : Addr) : Prop where
  at_ : PySem.W.findIn K (.ref C) nm = some (some (.ref f))
  fn : PySem.W.isFn K (.ref f) = true
open PySem.W in
theorem sub_own {prog : Program} {w : PySem.World} {A : Around} {Ex : Value → Shared → Prop} {s : Shared} {K : PySem.W.Frag} {x C f : Addr} {ox : Obj} {od : Option Obj} {value slice : Expr} {i : Value} {Q : Value → Shared → Prop} (X : K.In s.heap) (I : InstAt s.heap x ox C od) (hs : findIn K (.ref C) "__getitem__" = some (some (.ref f))) (hf : fnIn K f = true) (hfn : isFn K (.ref f) = true)
    (h : wpAny (model prog w) A.in1 (call (.ref f) [.ref x, i]) Q Ex s) (hsl : subscripted slice true (.ref x) i = runValue (.builtin "lifetime.subscript" ⟨[.ref x, i], []⟩)) :
    wpAny (model prog w) A (subscriptTail value slice (.ref x) i) Q Ex s := by
  unfold fnIn at hf
  split at hf
  · rename_i e
    unfold subscriptTail getitemInPython
    refine wpAny_bind (wpAny_bind (wpAny_bind (I.type.here ((looks_findIn X hs).here ?_))))
    dsimp only
    refine wpAny_bind (wpAny_load (X _ _ e) (wpAny_pure ?_))
    dsimp only
    rw [hsl]
    refine wpAny_bind (wpAny_runValue (codeAny_builtin entry_sub ?_))
    unfold Builtin.«lifetime.subscript»
    refine wpAny_bind (special_fn X I hs (beq_iff_eq.mp hfn) (wpAny_mono h (fun v s' z => ?_) fun _ _ z => z))
    refine wpAny_pure ?_
    show wpAny (model prog w) A (letTemporaryGo value (.ref x) v >>= fun _ => pure v) Q Ex s'
    exact wpAny_bind (wpAny_letTemporaryGo (wpAny_pure z))
  · cases hf
section
variable {prog : Program} {w : PySem.World} {A : Around} {E : Value → Shared → Prop} {s : Shared} {K : PySem.W.Frag} {x y C f : Addr} {ox oy : Obj} {od od' : Option Obj}
end
/-- what a class has its != by -/
structure NeOf (K : PySem.W.Frag) (C : Addr) : Prop where
  at_ : PySem.W.findIn K (.ref C) "__ne__" = some (some (.builtin "object.__ne__"))
  ob : PySem.W.mroIn K C (.type "object") = some true
end DL
namespace DL
open PySem PySem.Spec PyProof.Rows L2
/-- what the look for an instance's class asks of the class -/
structure IsiC (K : PySem.W.Frag) (C : Addr) : Prop where
  cl : Cls K C
  ha : PySem.W.findIn K (.ref C) "__class__" = some (some (.builtin "object.__class__"))
  hn : PySem.W.specialIn K (.builtin "object.__class__") "__get__" = some (some (.builtin "getset_descriptor.__get__"))
  htk : PySem.W.takesIn K (.builtin "object.__class__") = some true
  hm : PySem.W.mroIn K C (.type "object") = some true
/-! ### the head's facts: defs by their addresses, any Bools besides -/
structure DefX where
  at_ : PySem.W.Frag → Addr
  name : Str
  qual : Str
  params : Arguments
  body : List Stmt
  scope : Scope
  dfl : List He.Dv := []
def fnX (K : PySem.W.Frag) (a : Addr) : He.FnW := match K.lookup a with
  | some ⟨_, _, .func fd, _⟩ => some (fd.name, fd.qualname, fd.params, fd.body, fd.scope, fd.globals, fd.closure, fd.builtins)
  | _ => none
def DefX.val (d : DefX) : He.FnW := some (d.name, d.qual, d.params, .stmts d.body, d.scope, mainGlobals, [], builtinsNs)
def DefX.dvs (K : PySem.W.Frag) (d : DefX) : List V := d.dfl.map (He.Dv.v K)
def DefX.ok (K : PySem.W.Frag) (d : DefX) : Bool := PySem.W.keepIn K (.ref (d.at_ K)) && (match K.lookup (d.at_ K) with
  | some ⟨_, _, .func fd, _⟩ => PySem.W.codeIn K fd.code d.qual && He.dflB K fd.defaults (d.dvs K)
  | _ => false)
theorem DefX.funD {K : PySem.W.Frag} {d : DefX} (e : fnX K (d.at_ K) = d.val) (c : d.ok K = true) : ∃ fd, FunD K d.name d.qual d.params d.body d.scope (d.dvs K) [] (d.at_ K) fd := by
  obtain ⟨kp, c2⟩ := He.ba c
  unfold fnX at e
  cases q : K.lookup (d.at_ K) with
  | none =>
    rw [q] at c2
    cases c2
  | some o =>
    obtain ⟨oc, od, dt, osl⟩ := o
    rw [q] at c2 e
    cases dt with
    | func fd =>
      obtain ⟨n1, n2, n3, n4, n5, n6, n7, n8, n9, n10, n11, n12, n13, n14, n15⟩ := fd
      have e2 : (some (n1, n2, n3, n4, n5, n6, n7, n15) : He.FnW) = some (d.name, d.qual, d.params, .stmts d.body, d.scope, mainGlobals, [], builtinsNs) := e
      simp only [Option.some.injEq, Prod.mk.injEq] at e2
      obtain ⟨h1, h2, h3, h4, h5, h6, h7, h8⟩ := e2
      subst h1 h2 h3 h4 h5 h6 h7 h8
      have c3 : (PySem.W.codeIn K n13 d.qual && He.dflB K n8 (d.dvs K)) = true := c2
      obtain ⟨k1, k3⟩ := He.ba c3
      exact ⟨_, ⟨oc, od, n8, n9, n10, n11, n12, n13, n14, osl, rfl, q, k1, He.dflB_ok k3, .inl rfl⟩, kp⟩
    | _ => cases c2
abbrev AlX : Type := Bool × List He.FnW
def obsX (bs : List (PySem.W.Frag → Bool)) (fn : List DefX) (K : PySem.W.Frag) : AlX := ((bs.all fun b => b K) && fn.all fun d => d.ok K, fn.map fun d => fnX K (d.at_ K))
def valX (fn : List DefX) : AlX := (true, fn.map DefX.val)
def SaysX (bs : List (PySem.W.Frag → Bool)) (fn : List DefX) (K : PySem.W.Frag) : Prop := obsX bs fn K = valX fn
section
variable {bs : List (PySem.W.Frag → Bool)} {fn : List DefX} {K : PySem.W.Frag}
theorem SaysX.fact (c : SaysX bs fn K) (i : Nat) {f : PySem.W.Frag → Bool} (h : bs[i]? = some f := by rfl) : f K = true := by
  have c1 := (He.ba (show ((bs.all fun b => b K) && fn.all fun d => d.ok K) = true from congrArg (fun z : AlX => z.1) c)).1
  exact List.all_eq_true.mp c1 f (List.mem_of_getElem? h)
theorem SaysX.def_ (c : SaysX bs fn K) (i : Nat) {d : DefX} (h : fn[i]? = some d := by rfl) : ∃ fd, FunD K d.name d.qual d.params d.body d.scope (d.dvs K) [] (d.at_ K) fd := by
  have c2 := (He.ba (show ((bs.all fun b => b K) && fn.all fun d => d.ok K) = true from congrArg (fun z : AlX => z.1) c)).2
  have e : fn.map (fun d => fnX K (d.at_ K)) = fn.map DefX.val := congrArg (fun z : AlX => z.2) c
  have e2 : (fn.map fun d => fnX K (d.at_ K))[i]? = (fn.map DefX.val)[i]? := by rw [e]
  rw [List.getElem?_map, List.getElem?_map, h] at e2
  exact DefX.funD (Option.some.inj e2) (List.all_eq_true.mp c2 d (List.mem_of_getElem? h))
end
/-! addresses: a property's getter, a static method's def -/
def recAt (K : PySem.W.Frag) (T : String) (p : Addr) : Addr := match PySem.W.recIn K p T with
  | some (.ref g :: _) => g
  | _ => 0
def isSomeRef (o : Option (List Value)) (g : Addr) : Bool := match o with
  | some (.ref a :: _) => decide (a = g)
  | _ => false
/-- a property of a class -/
def propB (K : PySem.W.Frag) (C : Addr) (f : Str) : Bool := He.eqO (PySem.W.findIn K (.ref C) f) (some (some (.ref (He.ma K C f)))) && (He.eqO (PySem.W.specialIn K (.ref (He.ma K C f)) "__get__") (some (some (.builtin "property.__get__"))) &&
  (decide (PySem.W.takesIn K (.ref (He.ma K C f)) = some true) && isSomeRef (PySem.W.recIn K (He.ma K C f) "property") (recAt K "property" (He.ma K C f))))
theorem propB_ok {K : PySem.W.Frag} {C : Addr} {f : Str} (h : propB K C f = true) : PropOf K C f (He.ma K C f) (recAt K "property" (He.ma K C f)) := by
  obtain ⟨h1, h⟩ := He.ba h
  obtain ⟨h2, h⟩ := He.ba h
  obtain ⟨h3, h4⟩ := He.ba h
  refine ⟨He.eqO_ok h1, He.eqO_ok h2, of_decide_eq_true h3, ?_⟩
  unfold isSomeRef at h4
  split at h4
  · rename_i a rest e
    have e2 := of_decide_eq_true h4
    rw [e2] at e
    exact ⟨rest, e⟩
  · cases h4
/-- a special method of a class -/
def splB (K : PySem.W.Frag) (C : Addr) (nm : Str) : Bool := He.eqO (PySem.W.findIn K (.ref C) nm) (some (some (.ref (He.ma K C nm)))) && PySem.W.isFn K (.ref (He.ma K C nm))
theorem splB_ok {K : PySem.W.Frag} {C : Addr} {nm : Str} (h : splB K C nm = true) : Spl K C nm (He.ma K C nm) := by
  obtain ⟨h1, h2⟩ := He.ba h
  exact ⟨He.eqO_ok h1, h2⟩
def callB (K : PySem.W.Frag) (C : Addr) : Bool := splB K C "__call__" && PySem.W.fnIn K (He.ma K C "__call__")
theorem callB_ok {K : PySem.W.Frag} {C : Addr} (h : callB K C = true) : StX.CallO K C (He.ma K C "__call__") := by
  obtain ⟨h1, h2⟩ := He.ba h
  exact ⟨(splB_ok h1).at_, (splB_ok h1).fn, h2⟩
def isiB (K : PySem.W.Frag) (C : Addr) : Bool := He.eqO (PySem.W.findIn K (.ref C) "__class__") (some (some (.builtin "object.__class__"))) && (He.eqO (PySem.W.specialIn K (.builtin "object.__class__") "__get__") (some (some (.builtin "getset_descriptor.__get__"))) &&
  (decide (PySem.W.takesIn K (.builtin "object.__class__") = some true) && decide (PySem.W.mroIn K C (.type "object") = some true)))
theorem isiB_ok {K : PySem.W.Frag} {C : Addr} (hc : Cls K C) (h : isiB K C = true) : IsiC K C := by
  obtain ⟨h1, h⟩ := He.ba h
  obtain ⟨h2, h⟩ := He.ba h
  obtain ⟨h3, h4⟩ := He.ba h
  exact ⟨hc, He.eqO_ok h1, He.eqO_ok h2, of_decide_eq_true h3, of_decide_eq_true h4⟩
def kitB2 (K : PySem.W.Frag) (t u : Value) (b : Bool) : Bool := decide (PySem.W.kitOne K t u = some b)
theorem kitB2_ok {K : PySem.W.Frag} {t u : Value} {b : Bool} (h : kitB2 K t u b = true) : PySem.W.kitOne K t u = some b := of_decide_eq_true h
end DL

set_option Elab.async false
set_option linter.all false
set_option maxRecDepth 100000
set_option maxHeartbeats 4000000
/-! DLe: enumerate of a tuple, a tuple turned about. -/
namespace DL
open PySem PySem.Calls PyProof.Rows
open AutoSeq1 (wpAny_loadPart')
theorem meets_enumerate_newT (l : Addr) (items : Array Value) (n : Nat) (dct : Option Addr) (sl : Array (Option Value)) :
    Meets (Builtin.«enumerate.__new__» ⟨[.type "enumerate", .ref l], []⟩) (fun _ R s => s.heap.get? l = some { cls := .type "tuple", dict := dct, data := .seq items n, slots := sl } ∧
      R (.ok (.ret (.ref (s.heap.push { cls := .type "tuple_iterator", data := .fields #[.ref l, .int 0 0] }).objs.size)))
        { s with heap := (s.heap.push { cls := .type "tuple_iterator", data := .fields #[.ref l, .int 0 0] }).push { cls := .type "enumerate", data := .fields #[.none, .bool false, .ref s.heap.objs.size, rawInt 0, .none, .none] } }) :=
  .of_wp fun prog w A R s h => by
    obtain ⟨hp, g, d, tk, os⟩ := s; obtain ⟨hl, h⟩ := h
    have hsub := sub_enumerate
    have hL : Heap.IsTuple (Shared.heap ⟨hp, g, d, tk, os⟩) l items := ⟨_, hl, rfl, n, rfl⟩
    wp_walk using wpAny_loadPart' hl
    refine wpAny_stack_any fun st => wpAny_pure ?_
    split
    · rename_i c _ _ _ _ _
      cases (c == Value.type "enumerate")
      · wp_walk using wpAny_loadPart' hl, wpAny_pyIter_tuple hL
        exact ⟨_, rfl, h⟩
      · wp_walk using wpAny_loadPart' hl, wpAny_pyIter_tuple hL
        exact ⟨_, rfl, h⟩
    · wp_walk using wpAny_loadPart' hl, wpAny_pyIter_tuple hL
      exact ⟨_, rfl, h⟩
section
variable {prog : Program} {w : PySem.World} {A : Around} {Ex : Value → Shared → Prop} {s : Shared}
theorem call_enumerate_tuple {l : Addr} {items : Array Value} {Q : Value → Shared → Prop} (hL : s.heap.IsTuple l items)
    (h : ∀ h', IsEnum h' (s.heap.objs.size + 1) s.heap.objs.size 0 .none → h'.IsTupleIter s.heap.objs.size l 0 → h'.objs.size = s.heap.objs.size + 2 →
      (∀ b o, s.heap.get? b = some o → h'.get? b = some o) → Q (.ref (s.heap.objs.size + 1)) { s with heap := h' }) :
    wpAny (model prog w) A (call (.type "enumerate") [.ref l]) Q Ex s := by
  obtain ⟨⟨c, dct, dt, sl⟩, hl, hc, n, hd⟩ := hL
  replace hc : c = .type "tuple" := hc
  replace hd : dt = .seq items n := hd
  subst hc hd
  refine callType_new F.called_enumerate (by decide) (F.typeCall_enumerate_1 _) (F.newCall_enumerate_1 _) (fun obj => F.args_object_init_2 obj _) F.entry_enumerate_new
    (meets_enumerate_newT l items n dct sl) ⟨hl, ?_⟩
  have hz : (s.heap.push { cls := .type "tuple_iterator", data := .fields #[.ref l, .int 0 0] }).objs.size = s.heap.objs.size + 1 := Heap.size_push ..
  show _ ∧ _
  rw [hz]
  have he : IsEnum ((s.heap.push { cls := .type "tuple_iterator", data := .fields #[.ref l, .int 0 0] }).push
      { cls := .type "enumerate", data := .fields #[.none, .bool false, .ref s.heap.objs.size, rawInt 0, .none, .none] }) (s.heap.objs.size + 1) s.heap.objs.size 0 .none := by
    have := Heap.get?_push_size (s.heap.push { cls := .type "tuple_iterator", data := .fields #[.ref l, .int 0 0] })
      (o := { cls := .type "enumerate", data := .fields #[.none, .bool false, .ref s.heap.objs.size, rawInt 0, .none, .none] }) rfl
    rw [hz] at this; exact this
  refine ⟨⟨_, he, rfl⟩, h _ he ⟨_, Heap.get?_push_of_some _ (Heap.get?_push_size _ rfl), rfl, rfl⟩ (by rw [Heap.size_push, hz]) fun b o x => Heap.get?_push_of_some _ (Heap.get?_push_of_some _ x)⟩
/-! ### t[::-1] -/
theorem sliceApplied_rev {sl : Addr} {vl vu vs : Value} {n : Nat} {Q : Int × Int × Nat → Shared → Prop} (hs : s.heap.IsSliceOf sl vl vu vs) (pl : IsPart vl none) (pu : IsPart vu none) (ps : IsPart vs (some (-1)))
    (h : Q ((n : Int) - 1, -1, n) s) : wpAny (model prog w) A (Builtin.Slice.sliceApplied (.ref sl) (pure (n : Int))) Q Ex s := by
  obtain ⟨os, hos, hcs, hds⟩ := id hs
  unfold Builtin.Slice.sliceApplied Builtin.Slice.sliceFields
  refine wpAny_bind (wpAny_bind (wpAny_field hos hds (x := vl) rfl (wpAny_bind (wpAny_field hos hds (x := vu) rfl (wpAny_bind (wpAny_field hos hds (x := vs) rfl (wpAny_pure ?_)))))))
  refine wpAny_bind (HT.slicePart_ ps ?_)
  show wpAny _ _ (if ((-1 : Int) == 0) = true then _ else _) _ _ s
  rw [if_neg (by decide)]
  refine wpAny_bind (HT.slicePart_ pl (wpAny_bind (HT.slicePart_ pu (wpAny_bind (wpAny_pure ?_)))))
  show wpAny _ _ (match Builtin.Slice.sliceAdjust none none (-1) (n : Int) with | (lo, hi) => pure (lo, (-1 : Int), Builtin.Slice.slicePlaces lo hi (-1))) _ _ s
  have e1 : Builtin.Slice.sliceAdjust none none (-1) (n : Int) = ((n : Int) - 1, -1) := by
    unfold Builtin.Slice.sliceAdjust
    simp
  have e2 : Builtin.Slice.slicePlaces ((n : Int) - 1) (-1) (-1) = n := by
    unfold Builtin.Slice.slicePlaces
    have h1 : ¬ ((-1 : Int) > 0) := by decide
    simp only [h1, if_false]
    by_cases hn : n = 0
    · subst hn
      decide
    · have h2 : (n : Int) - 1 > -1 := by omega
      simp only [h2, if_true]
      rw [show (- -1 : Int) = 1 by decide, Int.ediv_one]
      omega
  rw [e1]
  show wpAny _ _ (pure ((n : Int) - 1, (-1 : Int), Builtin.Slice.slicePlaces ((n : Int) - 1) (-1) (-1))) _ _ s
  rw [e2]
  exact wpAny_pure h
theorem filterMap_same {α β : Type} {f g : α → Option β} : ∀ (l : List α), (∀ k ∈ l, f k = g k) → l.filterMap f = l.filterMap g
  | [], _ => rfl
  | a :: l, h => by
    rw [List.filterMap_cons, List.filterMap_cons, h a List.mem_cons_self, filterMap_same l fun k hk => h k (List.mem_cons_of_mem _ hk)]
theorem pick_rev (xs : Array Value) : ((List.range xs.size).filterMap fun (k : Nat) => xs[(((xs.size : Nat) : Int) - 1 + (k : Int) * (-1)).toNat]?).toArray = xs.toList.reverse.toArray := by
  have e : (List.range xs.size).filterMap (fun (k : Nat) => xs[(((xs.size : Nat) : Int) - 1 + (k : Int) * (-1)).toNat]?) = ((List.range xs.size).map fun k => xs.size - 1 - k).filterMap (xs[·]?) := by
    rw [List.filterMap_map]
    refine filterMap_same _ fun k hk => ?_
    have hk' := List.mem_range.mp hk
    show xs[(((xs.size : Nat) : Int) - 1 + (k : Int) * (-1)).toNat]? = xs[xs.size - 1 - k]?
    rw [show (((xs.size : Nat) : Int) - 1 + (k : Int) * (-1)).toNat = xs.size - 1 - k by omega]
  rw [e, PySem.W.krv_range, List.filterMap_reverse, PySem.W.krv_all]
theorem getItem_tuple_rev {t sl : Addr} {items : Array Value} {vl vu vs : Value} {Q : Value → Shared → Prop} (ht : IsTup s.heap t items) (hs : s.heap.IsSliceOf sl vl vu vs) (pl : IsPart vl none) (pu : IsPart vu none) (ps : IsPart vs (some (-1)))
    (h : Q (.ref s.heap.objs.size) { s with heap := s.heap.push { cls := .type "tuple", data := .seq items.toList.reverse.toArray } })
    (hsz : items.size ≤ sizeLine) : wpAny (model prog w) A (getItem (.ref t) (.ref sl)) Q Ex s := by
  have htake : sizeOk (.seq items.toList.reverse.toArray) := by
    show items.toList.reverse.toArray.size ≤ sizeLine
    rw [List.size_toArray, List.length_reverse, Array.length_toList]
    exact hsz
  obtain ⟨os, hos, hcs, hds⟩ := id hs
  have hTs : s.TypeIs (.ref sl) "slice" := ⟨os, hos, hcs⟩
  unfold getItem
  try with_reducible refine wpAny_holding ?_
  first | refine wpAny_bind (wpAny_pure ?_) | skip
  refine wpAny_bind (wpAny_sequenceKey ht.typeIs (by decide) ?_)
  refine wpAny_bind (wpAny_callSpecial?_slot (name := Str.ofString "__getitem__") ht.typeIs PyProof.Rows.slot_tuple_getitem
    (wpAny_call_entry PyProof.Rows.slot_tuple_getitem ht.typeIs entry_tuple_getitem ?_ (args_tuple_getitem _ _)))
  show wpAny _ _ (Builtin.Tuple.tupleItemsOf (.ref t) >>= _) _ _ s
  refine wpAny_bind (tupleItemsOf_ ht ?_)
  refine wpAny_bind (wpAny_typeOf hTs ?_)
  rw [if_pos (by decide)]
  refine wpAny_bind (sliceApplied_rev hs pl pu ps ?_)
  have hno : ¬ ((((items.size : Nat) : Int) - 1 == 0 && (-1 : Int) == 1 && items.size == items.size) = true) := by
    intro q
    rw [Bool.and_eq_true, Bool.and_eq_true] at q
    exact absurd q.1.2 (by decide)
  show wpAny _ _ (if (((items.size : Nat) : Int) - 1 == 0 && (-1 : Int) == 1 && items.size == items.size) = true then _ else _) _ _ s
  rw [if_neg hno, pick_rev]
  first
    | exact wpAny_bind (m := Builtin.Tuple.tupleExact _) (wpAny_newObj_type (wpAny_pure ⟨_, rfl, wpAny_pure h⟩) htake)
    | exact wpAny_bind (m := Builtin.Tuple.tupleExact _) (wpAny_newObj_type (wpAny_bind (wpAny_pure (wpAny_pure ⟨_, rfl, wpAny_pure h⟩))) htake)
    | exact wpAny_bind (wpAny_bind (m := Builtin.Tuple.tupleExact _) (wpAny_newObj_type (wpAny_pure (wpAny_pure ⟨_, rfl, wpAny_pure h⟩)) htake))
    | exact wpAny_bind (wpAny_bind (m := Builtin.Tuple.tupleExact _) (wpAny_newObj_type (wpAny_pure ⟨_, rfl, wpAny_pure h⟩) htake))
end
end DL
namespace DL
open PySem PySem.Spec PyProof.Rows L2
section
variable {X : Cx}
/-- xs[::-1]: a list gives a new list, a tuple a new tuple -/
def tRevU (K : PySem.W.Frag) (te : TE) : TE := fun σ H Q => te σ H fun x H1 => ∃ a xs, x = .ref a ∧ ((SqL K H1 a xs ∧ ∀ p, H1 p = Option.none → Q (.ref p) (upd H1 p (.lst xs.reverse))) ∨ (SqT K H1 a xs ∧ ∀ p, H1 p = Option.none → Q (.ref p) (upd H1 p (.tup xs.reverse))))
theorem pe_revU {e : Expr} {te : TE} {k : Nat} {p1 p2 p3 pos : Pos} (he : PE X e te) : PE X (.Subscript e (.Slice none none (some (.UnaryOp .USub (.Constant (.int 1) k p1) p2)) p3) pos) (tRevU X.K te) := by
  refine ⟨fun pins s σ H Q I h => ?_⟩
  refine Subscript_ (thn (he.run pins s σ H _ I h) fun v s1 ⟨x, H1, I1, r1, q1⟩ => ?_)
  obtain ⟨a, xs, ex, hx⟩ := q1
  subst ex
  cases r1
  have hst : PO X (some (.UnaryOp .USub (.Constant (.int 1) k p1) p2)) (tPart (tUn (rU fun i => .int (-i)) (tC (.int 1)))) := po_some (pe_un un_neg pe_int)
  refine wpAny_Slice (thn (po_none.run pins s1 σ H1 (fun o H2 => o = none ∧ H2 = H1) I1 ⟨rfl, rfl⟩) fun vl s2 ⟨l, H2, I2, pl, el, e2⟩ => ?_)
  subst el e2
  refine thn (po_none.run pins s2 σ H2 (fun o H3 => o = none ∧ H3 = H2) I2 ⟨rfl, rfl⟩) fun vu s3 ⟨u, H3, I3, pu, eu, e3⟩ => ?_
  subst eu e3
  refine thn (hst.run pins s3 σ H3 (fun o H4 => o = some (-1) ∧ H4 = H3) I3 ⟨1, rfl, -1, rfl, rfl, rfl⟩) fun vs s4 ⟨o, H4, I4, ps, eo, e4⟩ => ?_
  subst eo e4
  have I5 : Inv X pins σ H4 { s4 with heap := s4.heap.push { cls := .type "slice", data := .fields #[vl, vu, vs] } } := I4.kept (t' := s4.toks) fun b ob q => Heap.get?_push_of_some _ q
  show wpAny (model X.prog X.w) X.A (subscriptTail e (.Slice none none (some (.UnaryOp .USub (.Constant (.int 1) k p1) p2)) p3) (.ref a) (.ref s4.heap.objs.size)) (EP X pins σ Q) X.xe { s4 with heap := s4.heap.push { cls := .type "slice", data := .fields #[vl, vu, vs] } }
  rcases hx with ⟨hx, q⟩ | ⟨hx, q⟩
  · obtain ⟨its, r, ht, hz⟩ := I5.list hx
    have hlen := r.length
    refine tail_any (ops := [.ref a, .ref s4.heap.objs.size]) ht.isList.typeIs (PySem.slot_list_getitem.lookup) ?_ (by with_unfolding_all rfl)
    refine wpAny_getItem_list_slice ht.isList (Heap.IsSliceOf.new _ vl vu vs) pl pu ps (by decide) ?_ (by rw [List.size_toArray]; omega)
    rw [PySem.W.krv_pick]
    refine ⟨.ref _, _, I5.laid (t' := s4.toks) (o := .lst xs.reverse) (fun b ob q => Heap.get?_push_of_some _ q) (Nat.le_refl _) ?_, rfl, q _ (I5.hok.fresh (Nat.le_refl _))⟩
    exact ⟨by rw [List.length_reverse]; exact hz, _, 0, r.reverse, Heap.get?_push_size _ rfl⟩
  · obtain ⟨its, r, ht, hz⟩ := I5.tuple hx
    have hlen := r.length
    refine tail_any (ops := [.ref a, .ref s4.heap.objs.size]) ht.typeIs (PyProof.Rows.slot_tuple_getitem.lookup) ?_ (by with_unfolding_all rfl)
    refine getItem_tuple_rev ht (Heap.IsSliceOf.new _ vl vu vs) pl pu ps ?_ (by rw [List.size_toArray]; omega)
    refine ⟨.ref _, _, I5.laid (t' := s4.toks) (o := .tup xs.reverse) (fun b ob q => Heap.get?_push_of_some _ q) (Nat.le_refl _) ?_, rfl, q _ (I5.hok.fresh (Nat.le_refl _))⟩
    exact ⟨by rw [List.length_reverse]; exact hz, _, r.reverse, IsTup.new _ _⟩
/-- enumerate of a tuple: each item in a new pair -/
def IteT (K : PySem.W.Frag) (a : Addr) : It :=
  ⟨fun i H => ∃ (xs : List V) (x : V), SqT K H a xs ∧ xs[i]? = some x, fun i H v H' => ∃ T x, v = .ref T ∧ H T = none ∧ H' = upd H T (.tup [.int (i : Nat), x]) ∧ ∀ xs, SqT K H a xs → xs[i]? = some x, fun i H => ∃ xs : List V, SqT K H a xs ∧ xs.length ≤ i⟩
theorem turn_enumT {P : Program} {w : PySem.World} {K : PySem.W.Frag} {elts : List Expr} {kk : Nat} {tpos : Pos} (a e it : Addr) :
    Turn P w K (.Tuple elts kk tpos) (IteT K a) [e, it] e (fun i h => (∃ old, IsEnum h e it ((i : Nat) : Int) old) ∧ h.IsTupleIter it a i ∧ e ≠ it) where
  mem := by simp
  obj := fun i h st b hb => by
    obtain ⟨⟨old, he⟩, ⟨o, ho, hc, hd⟩, _⟩ := st
    have e' : b = e ∨ b = it := by simpa using hb
    rcases e' with z | z
    · rw [z]; exact ⟨_, he, fun v q => nomatch q⟩
    · rw [z]; exact ⟨o, ho, fun v q => by rw [hd] at q; cases q⟩
  keep := fun i h h' st k => let ⟨⟨old, he⟩, hi, hne⟩ := st; ⟨⟨old, k e (by simp) _ he⟩, hi.at fun o q => k it (by simp) o q, hne⟩
  item := by
    intro X hP hw hK hc i pins s σ H E I hf st hg
    subst hP hw hK
    obtain ⟨⟨old, he⟩, hit, hne⟩ := st
    obtain ⟨xs, x, hq, hx⟩ := hg
    obtain ⟨its, rv, p, hz⟩ := I.tuple hq
    obtain ⟨u, hu, ru⟩ := rv.get hx
    have hel : e < s.heap.objs.size := Heap.lt_size he
    have hil : it < s.heap.objs.size := by obtain ⟨_, q, _⟩ := hit; exact Heap.lt_size q
    have hpT : s.heap.IsTuple a its.toArray := p
    have nea : e ≠ a := fun z => by
      obtain ⟨o, h1, h2, _⟩ := hpT
      subst z
      rw [show s.heap.get? e = some _ from he] at h1
      cases h1
      exact absurd (Value.type.inj h2) (by decide)
    have nia : a ≠ it := fun z => by
      obtain ⟨o, h1, h2, _⟩ := hpT
      obtain ⟨o2, h3, h4, _⟩ := hit
      subst z
      rw [h1] at h3
      cases h3
      rw [h2] at h4
      exact absurd (Value.type.inj h4) (by decide)
    have hui : its.toArray[i]? = some u := by simpa using hu
    have hlt : i < its.toArray.size := (Array.getElem?_eq_some_iff.mp hui).1
    refine wpAny_pyNext_enum_itemD (Draws.tuple (A := X.A.in1) (I.ok.hd hc) it a nia its.toArray) he ⟨hit, hpT⟩ hlt hne (by simp; exact ⟨hne, nea⟩) fun x' h' tk hx' ho hst' hT hsz hk => ?_
    have ex : x' = u := by
      rw [hui] at hx'
      exact (Option.some.inj hx').symm
    subst ex
    refine ⟨_, rfl, wpAny_letOwnedTupleGo_enum (s := { s with heap := h', toks := tk + 1 }) ho fun h'' he' sb => ?_⟩
    have hT2 : h''.get? s.heap.objs.size = some { cls := .type "tuple", data := .seq #[.int i tk, x'] } := (sb.2 _ (Nat.ne_of_gt hel)).trans hT
    have new : ObjOk X.prog X.w (upd H s.heap.objs.size (.tup [.int (i : Nat), x])) h'' s.heap.objs.size (.tup [.int (i : Nat), x]) :=
      ⟨by show 2 ≤ sizeLine; decide, [.int i tk, x'], .cons ⟨_, rfl⟩ (.cons ru .nil), ⟨_, hT2, rfl, _, rfl⟩⟩
    have I1 : Inv X pins σ (upd H s.heap.objs.size (.tup [.int (i : Nat), x])) { s with heap := h'', toks := tk + 1 } :=
      I.turnedNew (ch := [e, it]) (fun b ob hb q => (sb.2 b (fun z => hb (by simp [z]))).trans (hk b ob (fun z => hb (by simp [z])) (fun z => hb (by simp [z])) q)) hf (Nat.le_refl _) new
    refine ⟨.ref s.heap.objs.size, _, I1, rfl, ⟨_, x, rfl, I.hok.fresh (Nat.le_refl _), rfl, fun ys hy => by rw [I.tuple_inj hy hq]; exact hx⟩, ⟨⟨x', ?_⟩, hst'.1.at fun o q => (sb.2 it (Ne.symm hne)).trans q, hne⟩, fun b hb => ?_⟩
    · have e1 : ((i + 1 : Nat) : Int) = (i : Int) + 1 := by omega
      rw [e1]; exact he'
    · have hb' : b < s.heap.objs.size := by
        have e' : b = e ∨ b = it := by simpa using hb
        rcases e' with z | z
        · rw [z]; exact hel
        · rw [z]; exact hil
      rw [upd_ne (Nat.ne_of_lt hb')]
      exact (hf b hb).1
  done := by
    intro X hP hw hK hc i pins s σ H E I hf st hg
    subst hP hw hK
    obtain ⟨⟨old, he⟩, hit, hne⟩ := st
    obtain ⟨xs, hq, hx⟩ := hg
    obtain ⟨its, rv, p, hz⟩ := I.tuple hq
    obtain ⟨f0, f1, f2, f3, f4, f5⟩ := hf it (by simp)
    have hl := rv.length
    have hpT : s.heap.IsTuple a its.toArray := p
    have hT : s.TypeIs (.ref e) "enumerate" := ⟨_, he, rfl⟩
    unfold pyNext
    refine wpAny_bind (wpAny_attempt (wpAny_callSpecial?_slot (name := Str.ofString "__next__") hT F.slot_enumerate_next
      (wpAny_call_entry F.slot_enumerate_next hT F.entry_enumerate_next ?_ (F.args_enumerate_next_1 _))))
    show wpAny _ _ (field (.ref e) 2 >>= _) _ _ _
    refine wpAny_bind (wpAny_field he rfl (x := .ref it) rfl ?_)
    refine wpAny_bind (wpAny_nextOf_tuple_end (I.ok.hd hc) hit hpT (by simp; omega) fun h' x he' hx' => ?_)
    obtain ⟨o, ho, hcc⟩ := hx'
    refine wpAny_bind (wpAny_isInstance (T := "StopIteration") (b := true) ⟨o, ho, hcc⟩ isSubtype_stop ?_)
    exact wpAny_pure ⟨rfl, I.turned (t' := s.toks) (fun b o hb q => he' b o hb q) f0 f1 f3 f4 f5⟩
  self := fun A i s Q E st h => let ⟨⟨_, he⟩, _⟩ := st; wpAny_pyIter_enum he h
/-- enumerate of a list or a tuple -/
def iEnumU (K : PySem.W.Frag) (ta : TA) : TI := fun σ H R => ta σ H fun vs H1 => ∃ a xs, vs = [.ref a] ∧ ((SqL K H1 a xs ∧ R (Ite K a) H1) ∨ (SqT K H1 a xs ∧ R (IteT K a) H1))
theorem pi_enumU {e : Expr} {ta : TA} {p pos tpos : Pos} {elts : List Expr} {kk : Nat} (hg : Gl X "enumerate") (hm : X.mg "enumerate" = none) (ha : PA X [e] ta) (hs : starEach [e] X.env = [(false, eval e X.env)] := by rfl) :
    PI X (.Tuple elts kk tpos) (.Call (.Name "enumerate" p) [e] [] pos) (iEnumU X.K ta) := by
  refine ⟨fun pins s σ H R I h => ?_⟩
  refine Call_ (ld_blt I hg hm boot_enumerate (PyProof.Rows.callWith_type1 (thn (ha.run pos pins s σ H _ I h) fun us s1 ⟨vs, H1, I1, r1, q1⟩ => ?_) hs rfl))
  obtain ⟨a, xs, ex, hq⟩ := q1
  subst ex
  cases r1 with
  | cons r rr =>
    cases rr
    cases r
    rcases hq with ⟨hq, q⟩ | ⟨hq, q⟩
    · obtain ⟨its, rv, p', hz⟩ := I1.list hq
      refine call_enumerate_list p'.isList fun h' he hit hsz hk => wpAny_pyIter_enum he ?_
      have I2 : Inv X pins σ H1 { s1 with heap := h' } := I1.kept (t' := s1.toks) hk
      refine ⟨s1.heap.objs.size + 1, [s1.heap.objs.size + 1, s1.heap.objs.size], _, _, H1, rfl, I2, turn_enum a (s1.heap.objs.size + 1) s1.heap.objs.size, ⟨⟨.none, he⟩, hit, Nat.succ_ne_self _⟩, fun b hb => ?_, q⟩
      have e' : b = s1.heap.objs.size + 1 ∨ b = s1.heap.objs.size := by simpa using hb
      have hle : s1.heap.objs.size ≤ b := by
        rcases e' with z | z
        · rw [z]; exact Nat.le_add_right _ _
        · rw [z]; exact Nat.le_refl _
      exact I1.fpOk hle (I1.hok.fresh hle)
    · obtain ⟨its, rv, p', hz⟩ := I1.tuple hq
      refine call_enumerate_tuple (show s1.heap.IsTuple a its.toArray from p') fun h' he hit hsz hk => wpAny_pyIter_enum he ?_
      have I2 : Inv X pins σ H1 { s1 with heap := h' } := I1.kept (t' := s1.toks) hk
      refine ⟨s1.heap.objs.size + 1, [s1.heap.objs.size + 1, s1.heap.objs.size], _, _, H1, rfl, I2, turn_enumT a (s1.heap.objs.size + 1) s1.heap.objs.size, ⟨⟨.none, he⟩, hit, Nat.succ_ne_self _⟩, fun b hb => ?_, q⟩
      have e' : b = s1.heap.objs.size + 1 ∨ b = s1.heap.objs.size := by simpa using hb
      have hle : s1.heap.objs.size ≤ b := by
        rcases e' with z | z
        · rw [z]; exact Nat.le_add_right _ _
        · rw [z]; exact Nat.le_refl _
      exact I1.fpOk hle (I1.hok.fresh hle)
end
end DL

set_option Elab.async false
set_option linter.all false
set_option maxRecDepth 100000
set_option maxHeartbeats 4000000
/-! A4: defs and their calls, objects, fields, properties, operators of own classes. -/
namespace DL
open PySem PySem.Spec PyProof.Rows L2
/-! ### views of objects -/
def ndO : Option Nd → Option (Str × List Str × List D)
  | some (.obj n fs ds) => some (n, fs, ds)
  | _ => Option.none
def asObj (μ : Mu) : D → Option (Str × List Str × List D)
  | .obj n fs ds => some (n, fs, ds)
  | .cell p => ndO (μ p)
  | _ => Option.none
theorem ndO_some {x : Option Nd} {n : Str} {fs : List Str} {ds : List D} (h : ndO x = some (n, fs, ds)) : x = some (.obj n fs ds) := by
  unfold ndO at h
  split at h
  · cases h
    rfl
  · cases h
theorem asObj_rep {c : Ctx} {S : Option SA} {F : Hp} {m : Nat} {I H : Hp} {μ : Mu} {d : D} {v : V} {n : Str} {fs : List Str} {ds : List D} (w : Wd c S F m I μ H) (r : Rep c S I d v) (h : asObj μ d = some (n, fs, ds)) :
    ∃ a dx xs, v = .ref a ∧ H a = some (.ins (c.cl n) dx (List.zip fs xs)) ∧ Reps c S I ds xs ∧ fs.length = xs.length ∧ n ∈ c.ns := by
  cases r with
  | obj g r l hn =>
    cases h
    exact ⟨_, _, _, rfl, w.ins g, r, l, hn⟩
  | cell =>
    obtain ⟨_, o, r, h2⟩ := w.m _ _ (ndO_some h)
    cases r with
    | obj r l hn => exact ⟨_, _, _, rfl, h2, r, l, hn⟩
  | _ => cases h
def fldD (f : Str) : List Str → List D → Option D
  | g :: gs, d :: ds => if f = g then some d else fldD f gs ds
  | _, _ => Option.none
theorem fld_rep {c : Ctx} {S : Option SA} {I : Hp} {f : Str} {d : D} : ∀ {fs : List Str} {ds : List D} {xs : List V}, Reps c S I ds xs → fldD f fs ds = some d → ∃ x, (List.zip fs xs).lookup f = some x ∧ Rep c S I d x
  | [], _, _, _, h => by simp [fldD] at h
  | _ :: _, _, _, .nil, h => by simp [fldD] at h
  | g :: gs, _, _, .cons (x := x) r rs, h => by
    unfold fldD at h
    by_cases e : f = g
    · rw [if_pos e] at h
      cases h
      subst e
      exact ⟨x, by simp [List.lookup], r⟩
    · rw [if_neg e] at h
      obtain ⟨y, h1, h2⟩ := fld_rep rs h
      refine ⟨y, ?_, h2⟩
      rw [List.zip_cons_cons, List.lookup_cons, show (f == g) = false from beq_eq_false_iff_ne.mpr e]
      exact h1
/-- a field is stored -/
def putN (f : Str) (d : D) : List Str → List D → List Str × List D
  | g :: gs, x :: xs => if g = f then (g :: gs, d :: xs) else ((g :: (putN f d gs xs).1), (x :: (putN f d gs xs).2))
  | gs, xs => (gs ++ [f], xs ++ [d])
theorem putN_rep {c : Ctx} {S : Option SA} {I : Hp} {f : Str} {d : D} {v : V} (r : Rep c S I d v) : ∀ {fs : List Str} {ds : List D} {xs : List V}, Reps c S I ds xs → fs.length = xs.length →
    ∃ ys, Reps c S I (putN f d fs ds).2 ys ∧ (putN f d fs ds).1.length = ys.length ∧ putF f v (List.zip fs xs) = List.zip (putN f d fs ds).1 ys
  | [], _, _, .nil, _ => ⟨[v], .cons r .nil, rfl, rfl⟩
  | [], _, _ :: _, .cons _ _, h => by cases h
  | _ :: _, _, [], .nil, h => by cases h
  | g :: gs, _, x :: xs, .cons h rs, l => by
    unfold putN
    by_cases e : g = f
    · rw [if_pos e]
      refine ⟨v :: xs, .cons r rs, by simpa using l, ?_⟩
      rw [List.zip_cons_cons, List.zip_cons_cons]
      show (if g = f then _ else _) = _
      rw [if_pos e]
    · rw [if_neg e]
      obtain ⟨ys, h1, h2, h3⟩ := putN_rep (f := f) r rs (by simpa using l : gs.length = xs.length)
      refine ⟨x :: ys, .cons h h1, by simpa using h2, ?_⟩
      rw [List.zip_cons_cons, List.zip_cons_cons, ← h3]
      show (if g = f then _ else _) = _
      rw [if_neg e]
/-! ### wishes -/
def wCall (s : WP) (dd : List D) (a : WA) : WE := fun e μ Q X => a e μ (fun ds μ1 => s (ds ++ dd) μ1 Q X) X
/-- an instance of the class n without an attribute m -/
def isOf (n m : Str) (μ : Mu) (x : D) (P : Prop) : Prop := match asObj μ x with
  | some (k, fs, _) => k = n ∧ m ∉ fs ∧ P
  | Option.none => False
theorem isOf_cases {n m : Str} {μ : Mu} {x : D} {P : Prop} (h : isOf n m μ x P) : ∃ fs ds, asObj μ x = some (n, fs, ds) ∧ m ∉ fs ∧ P := by
  unfold isOf at h
  split at h
  · rename_i k fs ds e
    obtain ⟨rfl, h1, h2⟩ := h
    exact ⟨fs, ds, e, h1, h2⟩
  · exact h.elim
def wMeth (n m : Str) (s : WP) (dd : List D) (r : WE) (a : WA) : WE := fun e μ Q X => r e μ (fun x μ1 => isOf n m μ1 x (a e μ1 (fun ds μ2 => s (x :: (ds ++ dd)) μ2 Q X) X)) X
def wProp (n f : Str) (s : WP) (r : WE) : WE := fun e μ Q X => r e μ (fun x μ1 => isOf n f μ1 x (s [x] μ1 Q fun _ _ => False)) X
def wFld (n f : Str) (r : WE) : WE := fun e μ Q X => r e μ (fun x μ1 => match asObj μ1 x with
  | some (k, fs, ds) => k = n ∧ (match fldD f fs ds with
    | some d => Q d μ1
    | Option.none => False)
  | Option.none => False) X
def wSetF (n f : Str) (o v : WE) : WS := fun e μ E => v e μ (fun d μ1 => o e μ1 (fun x μ2 => match x with
  | .cell p => (match ndO (μ2 p) with
    | some (k, fs, ds) => k = n ∧ fs.length < 1000 ∧ E.nx e (up μ2 p (.obj k (putN f d fs ds).1 (putN f d fs ds).2))
    | Option.none => False)
  | _ => False) fun d μ1 => E.xp d e μ1) fun d μ1 => E.xp d e μ1
def wMake (m : Bool) (n : Str) (s : WP) (dd : List D) (a : WA) : WE := fun e μ Q X => a e μ (fun ds μ1 => ∀ p, μ1 p = Option.none → s (.cell p :: (ds ++ dd)) (up μ1 p (.obj n [] [])) (fun r μ2 => r = .none ∧ (match μ2 p with
  | some nd => sett m Q (.n nd) (del μ2 p)
  | Option.none => False)) X) X
/-- a def of n parameters, N names -/
def initE (N : Nat) (ds : List D) : EnvD := ds.map some ++ List.replicate (N - ds.length) Option.none
def wDef (n N : Nat) (b : WS) : WP := fun ds μ Q X => ds.length = n ∧ b (initE N ds) μ ⟨fun _ μ1 => Q .none μ1, Q, fun _ _ => False, fun _ _ => False, fun d _ μ1 => X d μ1⟩
/-! ### a def's promise -/
def SpW (c : Ctx) (s : WP) (k : Nat) : Sp := fun vs H Q Ex => ∃ S F n I μ ds Qd Xd, n + k ≤ LIM ∧ Wd c S F n I μ H ∧ Reps c S I ds vs ∧ s ds μ Qd Xd ∧ QV c S F (n + k) I Qd Q ∧ ∀ d μ' cls dx I' H', Xd d μ' → Same I I' → Wd c S F (n + k) I' μ' H' → ErrAt c S I' d cls dx → Ex cls dx H'
/-- what a def asks of the calls around it: nothing, or that no repr is under way -/
class Gds where
  ok : Around → Prop
  in1 : ∀ {A : Around}, ok A → ok A.in1
  deeper : ∀ {A : Around} {e : Env}, ok A → ok (A.deeper e)
  tyc : ∀ {A : Around} {us : Args}, ok A → ok (A.under (.builtin "type.__call__" us))
theorem guards_tyc {A : Around} {us : Args} (gd : A.guards = some []) : (A.under (.builtin "type.__call__" us)).guards = some [] := by
  first | exact gd | (simpa [Around.under, Code.isGuard, guardIds] using gd)
/-- no repr is under way -/
instance (priority := low) gdsR : Gds := ⟨fun A => A.guards = some [], fun h => h, fun h => h, guards_tyc⟩
/-- nothing is asked -/
@[reducible] def gdsT : Gds := ⟨fun _ => True, fun h => h, fun h => h, fun h => h⟩
variable [Gds]
structure FnW (P : Program) (w : PySem.World) (K : PySem.W.Frag) (mg : Str → Option Value) (base : Heap) (k : Nat) (f : Addr) (fd : FuncData) (ps : List Str) (sp : Sp) : Prop where
  len : ∀ vs H Q E, sp vs H Q E → vs.length = ps.length
  run : ∀ (A : Around) (outer : List Env) (s : Shared) (H : Hp) (args : Args) (us : List Value) (vs : List V) (Q : VK) (E : XK), Gds.ok A → Room k A → Env0 P w K mg base A outer s H →
    BindsTo s fd args (ps.zip us) → Vals vs us → sp vs H Q E → codeAny (model P w) A (.call (.ref f) args) (CR (L2.CX P w) outer P w H s Q E) s
/-- a def's code object -/
def codeAt (K : PySem.W.Frag) (f : Addr) : Addr := match K.lookup f with
  | some ⟨_, _, .func fd, _⟩ => (match fd.code with
    | .ref c => c
    | _ => 0)
  | _ => 0
theorem codeAt_eq {K : PySem.W.Frag} {f : Addr} {oc : Value} {od : Option Addr} {osl : Array (Option Value)} {fd : FuncData} {q : Str} (lk : K.lookup f = some ⟨oc, od, .func fd, osl⟩) (h : PySem.W.codeIn K fd.code q = true) : fd.code = .ref (codeAt K f) := by
  unfold codeAt
  rw [lk]
  show fd.code = .ref (match fd.code with | .ref c => c | _ => 0)
  cases e : fd.code with
  | ref c => rfl
  | _ =>
    rw [e] at h
    cases h
section
variable {P : Program} {w : PySem.World} {K : PySem.W.Frag} {mg : Str → Option Value} {base : Heap} {k : Nat} {f : Addr} {fd : FuncData} {ps : List Str} {sp : Sp}
theorem fnW_of {x qual : Str} {pa : Arguments} {bd : List Stmt} {sc : Scope} {dvs : List V} {kws : List (Str × V)} {N : List Str} (F : FunD K x qual pa bd sc dvs kws f fd) (Sc : FnScope N ps sc) (len : ∀ vs H Q E, sp vs H Q E → vs.length = ps.length)
    (hb : ∀ (A : Around) (outer : List Env) (s : Shared) (H : Hp) (vs : List V) (Q : VK) (E : XK), Gds.ok (A.deeper (envOfC qual sc s.heap.objs.size f (.ref (codeAt K f)))) → Room k (A.deeper (envOfC qual sc s.heap.objs.size f (.ref (codeAt K f)))) → sp vs H Q E →
      ∃ t, PSs (cxOf (L2.CX P w) P w K mg base N qual sc f (.ref (codeAt K f)) A outer s H E) bd t ∧ t { nx := fun _ H' => Q .non H', rt := Q } (start N vs) H) : FnW P w K mg base (k + 1) f fd ps sp := by
  obtain ⟨oc, od, dV, kV, doc, pm, an, cdv, ct, osl, rfl, lk, hc, _, _⟩ := F.ex
  have hcd : cdv = .ref (codeAt K f) := codeAt_eq (fd := PySem.W.fnOf x qual pa bd sc dV kV doc pm an cdv ct) lk hc
  subst hcd
  refine ⟨len, fun A outer s H args us vs Q E gd room en bi re hs => ?_⟩
  have many := len _ _ _ _ hs
  have kin : K.In s.heap := en.mod.kin.keeps fun b o z => (en.bs b o z).1
  have nol : s.heap.NoLimit := en.mod.nolimit.keeps fun b o z => (en.bs b o z).1
  have kinds : ∀ y ∈ ps.zip us, sc.names.lookup y.1 = some .local ∨ (sc.names.lookup y.1 = some .cell ∧ ((cellsFrom (s.heap.objs.size + 1) sc.names []).lookup y.1).isSome = true) := by
    rintro ⟨n, v⟩ hy
    have hp := Sc.par n (List.of_mem_zip hy).1
    rcases hp with z | z
    · exact .inl z
    · exact .inr ⟨z, PySem.W.cellsFrom_some _ _ _ (.inl z)⟩
  have after : ∀ s1 : Shared, InCallC s s.heap.objs.size (bindL (envOfC qual sc s.heap.objs.size f (.ref (codeAt K f))).kindOf (ps.zip us) fun _ => none) (cellsFrom (s.heap.objs.size + 1) sc.names [])
        (bindC (envOfC qual sc s.heap.objs.size f (.ref (codeAt K f))).kindOf (ps.zip us) fun _ => none) s1 → s1.heap.NoLimit ∧ codeAny (model P w) A (.func bd (envOfC qual sc s.heap.objs.size f (.ref (codeAt K f)))) (CR (L2.CX P w) outer P w H s Q E) s1 := fun s1 x1 => by
    refine ⟨nol.keeps x1.toInCall.keep, codeAny_func ?_⟩
    obtain ⟨t, ht, hq⟩ := hb A outer s H vs Q E (Gds.deeper gd) (room.deeper _) hs
    have J : Inv (cxOf (L2.CX P w) P w K mg base N qual sc f (.ref (codeAt K f)) A outer s H E) [] (start N vs) H s1 := inv_start Sc room.hd en many re x1
    refine wpAny_mono (ht.run [] s1 (start N vs) H _ J hq) (fun fl s2 z => ?_) fun e s2 z => z
    cases fl with
    | ret u =>
      obtain ⟨v, σ2, H2, J2, rv, q2⟩ := z
      exact ⟨v, H2, J2.os, J2.bare, J2.base, J2.hok, rv, q2⟩
    | next =>
      obtain ⟨σ2, H2, J2, q2⟩ := z
      exact ⟨.non, H2, J2.os, J2.bare, J2.base, J2.hok, rfl, q2⟩
    | brk => exact z.elim fun _ z => z.elim fun _ z => False.elim z.2
    | cont => exact z.elim fun _ z => z.elim fun _ z => False.elim z.2
  refine codeAny_call_function room.depth (kin _ _ lk) rfl Sc.co Sc.gen rfl (PySem.W.codeRec_of kin hc) (bi _ _ _ _ (wpAny_newFunctionEnv_cells Sc.kind kinds fun env he s1 x1 => ?_))
  subst he
  exact after s1 x1
end
theorem SpW.len {c : Ctx} {n N : Nat} {b : WS} {k : Nat} {ps : List Str} (hn : n = ps.length) {vs : List V} {H : Hp} {Q : VK} {Ex : XK} (h : SpW c (wDef n N b) k vs H Q Ex) : vs.length = ps.length := by
  obtain ⟨S, F, m, I, μ, ds, Qd, Xd, hl, w, r, h, _⟩ := h
  rw [← r.length, h.1, hn]
/-- a def's body runs -/
theorem run_wDef {c : Ctx} {n : Nat} {b : WS} {k kb : Nat} {N : List Str} {vs : List V} {H : Hp} {Q : VK} {Ex : XK} (h : SpW c (wDef n N.length b) k vs H Q Ex) (hk : kb ≤ k) : ldS c (fun cls d _ H => Ex cls d H) kb b { nx := fun _ H' => Q .non H', rt := Q } (L2.start N vs) H := by
  obtain ⟨S, F, m, I, μ, ds, Qd, Xd, hl, w, r, ⟨hn, h⟩, q, x⟩ := h
  refine ⟨S, F, m, I, μ, initE N.length ds, _, by omega, ?_, w, h, ⟨fun e' μ' σ' I' H' p s r' w' => q .none μ' .non I' H' p s (w'.up (by omega)) .none, fun d μ' v I' H' p s w' r' => q d μ' v I' H' p s (w'.up (by omega)) r', fun _ _ _ _ _ p => p.elim, fun _ _ _ _ _ p => p.elim, fun d e' μ' cls dx σ' I' H' p s _ w' er => x d μ' cls dx I' H' p s (w'.up (by omega)) er⟩⟩
  unfold initE L2.start
  rw [r.length]
  exact EnvR.init _ r
/-- a def with its promise -/
def OkW (P : Program) (w : PySem.World) (c : Ctx) (mg : Str → Option Value) (base : Heap) (k : Nat) (f : Addr) (ps : List Str) (s : WP) (kf : Nat) (dvs : List V) : Prop :=
  ∃ fd, FnW P w c.K mg base k f fd ps (SpW c s kf) ∧ Binds c.K fd ps [] ∧ PySem.W.keepIn c.K (.ref f) = true ∧ ∃ ds, Vals dvs ds ∧ Binds c.K fd ps ds
section
variable {X : Cx} {c : Ctx} {W : WX} {k kf ka kb ko : Nat} {f C : Addr} {fd : FuncData} {ps : List Str} {sp : Sp} {s : WP} {dvs : List V} {dv : List Value} {dd : List D}
theorem FnW.mono {j : Nat} (F : FnW X.prog X.w X.K X.mg X.base j f fd ps sp) (h : j ≤ k) : FnW X.prog X.w X.K X.mg X.base k f fd ps sp := ⟨F.len, fun A outer s H args us vs Q E gd hr => F.run A outer s H args us vs Q E gd (hr.mono h)⟩
/-- the callee runs -/
theorem run_fnW {pins : List (Addr × Obj)} {σ : L2.St} {H : Hp} {s : Shared} {Q : VK} {us : List Value} {vs : List V} (F : FnW X.prog X.w X.K X.mg X.base k f fd ps sp) (gd : Gds.ok X.A) (hr : Room k X.A) (hb : Binds X.K fd ps dv) (hd : Vals dvs dv) (tk : Takes X W)
    (J : Inv X pins σ H s) (r : Vals vs us) (h : sp (vs ++ dvs) H Q fun cls d H' => W cls d σ H') : wpAny (model X.prog X.w) X.A (call (.ref f) us) (EP X pins σ Q) X.xe s := by
  have r2 : Vals (vs ++ dvs) (us ++ dv) := r.append hd
  have hl : (us ++ dv).length = ps.length := by rw [← r2.length]; exact F.len _ _ _ _ h
  refine wpAny_call (codeAny_mono (F.run X.A X.stack s H ⟨us, []⟩ (us ++ dv) (vs ++ dvs) Q _ gd hr J.env0 (hb s us J.kIn hl) r2 h) fun r s' hq => ?_)
  cases r with
  | error e => exact tk e s' (XE.of_call J (fun _ _ _ h => h) hq)
  | ok fl =>
    cases fl with
    | ret u => exact J.after hq
    | next => exact False.elim hq
    | brk => exact False.elim hq
    | cont => exact False.elim hq
theorem run_fnW1 {pins : List (Addr × Obj)} {σ : L2.St} {H : Hp} {s : Shared} {Q : VK} {us : List Value} {vs : List V} (F : FnW X.prog X.w X.K X.mg X.base k f fd ps sp) (gd : Gds.ok X.A) (hr : Room (k + 1) X.A) (hb : Binds X.K fd ps []) (tk : Takes X W)
    (J : Inv X pins σ H s) (r : Vals vs us) (h : sp vs H Q fun cls d H' => W cls d σ H') : wpAny (model X.prog X.w) X.A.in1 (call (.ref f) us) (EP X pins σ Q) X.xe s := by
  have hl : (us ++ ([] : List Value)).length = ps.length := by rw [List.append_nil, ← r.length]; exact F.len _ _ _ _ h
  have hbs := hb s us J.kIn hl
  rw [List.append_nil] at hbs
  refine wpAny_call (codeAny_mono (F.run X.A.in1 X.stack s H ⟨us, []⟩ us vs Q _ (Gds.in1 gd) hr.in1 J.env0.in1 hbs r h) fun r s' hq => ?_)
  cases r with
  | error e => exact tk e s' (XE.of_call J (fun _ _ _ h => h) hq)
  | ok fl =>
    cases fl with
    | ret u => exact J.after hq
    | next => exact False.elim hq
    | brk => exact False.elim hq
    | cont => exact False.elim hq
/-- a call as a wish: the arguments, then the promise -/
theorem ld_call {wr : WA} {σ : L2.St} {H : Hp} {Q : VK} (hd : ∀ S I, Reps c S I dd dvs) (h : ldE c W (ka + kf) (wCall s dd wr) σ H Q) : ldA c W ka wr σ H fun vs H1 => SpW c s kf (vs ++ dvs) H1 Q fun cls d H' => W cls d σ H' := by
  obtain ⟨S, F, n, I, μ, e, Qd, Xd, hl, he, hw, h, q, x⟩ := h
  refine ⟨S, F, n, I, μ, e, _, Xd, by omega, he, hw, h, fun ds μ1 vs I1 H1 pa s1 w1 ra => ?_, x.mono (by omega) (Same.refl I)⟩
  exact ⟨S, F, n + ka, I1, μ1, _, Qd, Xd, by omega, w1, ra.append (hd S I1), pa, q.mono (by omega) s1, fun d μ' cls dx I' H' p s2 w' er => x d μ' cls dx I' H' p (s1.trans s2) (w'.up (by omega)) er⟩
variable {x m : Str} {p pos apos : Pos} {a o : Expr} {es : List Expr} {wr : WA} {wo : WE}
/-- f(a, ..) -/
theorem g_call (F : FnW X.prog X.w X.K X.mg X.base k f fd ps (SpW c s kf)) (gd : Gds.ok X.A) (hr : Room k X.A) (hg : Gl X x) (hm : X.mg x = some (.ref f)) (hk : PySem.W.keepIn X.K (.ref f) = true) (hb : Binds X.K fd ps dv) (hd : Vals dvs dv) (hdd : ∀ S I, Reps c S I dd dvs) (tk : Takes X W)
    (ha : GA X c W ka (a :: es) wr) (hdb : (x == ("__debug__" : Str)) = false := by decide) (he : starEach (a :: es) X.env = (false, eval a X.env) :: starEach es X.env := by rfl) (hpl : (backTo pos (starEach es X.env)).any (·.1) = false := by rfl) :
    GE X c W (ka + kf) (.Call (.Name x p) (a :: es) [] pos) (wCall s dd wr) := by
  refine ⟨fun pins s σ H Q J h => ?_⟩
  refine wpAny_Call_Name_kw (ld_glob J hg hm ?_ hdb)
  refine PySem.W.callWith_K (h₀ := X.base) J.ok.mod.kin hk (thn (ha.run pos pins s σ H _ J (ld_call hdd h)) fun us s1 ⟨vs, H1, I1, r, q⟩ => ⟨I1.kIn, ?_⟩) he hpl
  exact run_fnW F gd hr hb hd tk I1 r q
/-! properties, fields -/
theorem getprop_okW {pr g aa dx : Addr} {fs : List (Str × V)} {pins : List (Addr × Obj)} {σ : L2.St} {H : Hp} {s : Shared} {Q : VK} {b : Bool} {E' : Value → Shared → Prop} (J : Inv X pins σ H s) (ea : H aa = some (.ins C dx fs)) (cc : Cls X.K C) (hp : PropOf X.K C m pr g)
    (F : FnW X.prog X.w X.K X.mg X.base k g fd ps sp) (gd : Gds.ok X.A) (hr : Room (k + 1) X.A) (hb : Binds X.K fd ps []) (h : sp [.ref aa] H Q fun _ _ _ => False) : wpAny (model X.prog X.w) X.A (getAttr (.ref aa) m b) (EP X pins σ Q) E' s := by
  obtain ⟨mA, O, _, _, _, _⟩ := ins_get J.hok ea
  obtain ⟨od, Jx, _⟩ := O.look
  obtain ⟨rest, hrec⟩ := hp.rec_
  have I1 := J.tok (s.toks + 1)
  have hl : ([Value.ref aa] ++ ([] : List Value)).length = ps.length := by
    rw [← F.len _ _ _ _ h]
    rfl
  have hc : (PySem.W.clsIn X.K C).isSome = true := by
    obtain ⟨cd, hc, _⟩ := PySem.W.any_some cc.hd
    rw [hc]
    rfl
  have hbs := hb { s with toks := s.toks + 1 } [.ref aa] I1.kIn hl
  rw [List.append_nil] at hbs
  refine PySem.W.get_bind J.kIn Jx (PySem.W.plainGet_of (cc.get m)).1 (PySem.W.findObj_data hc hp.at_ hp.get hp.tak) (PySem.W.plainGet_of (cc.get m)).2 (wpAny_call (PySem.W.prop_get (s := { s with toks := s.toks + 1 }) J.kIn hrec ?_))
  refine codeAny_mono (F.run X.A.in1 X.stack { s with toks := s.toks + 1 } H ⟨[.ref aa], []⟩ [.ref aa] [.ref aa] Q _ (Gds.in1 gd) hr.in1 I1.env0.in1 hbs (.cons rfl .nil) h) fun r s' hq => ?_
  cases r with
  | error er =>
    obtain ⟨_, _, _, _, _, _, _, _, _, _, _, _, z⟩ := hq
    exact z.elim
  | ok fl =>
    cases fl with
    | ret u =>
      obtain ⟨v, H', I3, rv, q3⟩ := I1.after hq
      show wpAny _ _ (handedOut u) _ _ _
      rw [PySem.W.handedOut_of (handed_of rv)]
      exact wpAny_pure ⟨v, H', I3, rv, q3⟩
    | next => exact False.elim hq
    | brk => exact False.elim hq
    | cont => exact False.elim hq
theorem g_prop {n : Str} {pr g : Addr} (ho : GE X c W ko o wo) (cc : Cls X.K (c.cl n)) (hp : PropOf X.K (c.cl n) m pr g) (F : FnW X.prog X.w X.K X.mg X.base k g fd ps (SpW c s kf)) (gd : Gds.ok X.A) (hr : Room (k + 1) X.A) (hb : Binds X.K fd ps [])
    (hab : attributeBase o m X.env (eval o X.env) = eval o X.env := by rfl) : GE X c W (ko + kf) (.Attribute o m pos) (wProp n m s wo) := by
  refine ⟨fun pins sh σ H Q J h => ?_⟩
  have h2 : ldE c W ko wo σ H fun x H1 => ∃ a dx fs, x = .ref a ∧ H1 a = some (.ins (c.cl n) dx fs) ∧ SpW c s kf [.ref a] H1 Q fun _ _ _ => False := by
    obtain ⟨S, F', nn, I, μ, e, Qd, Xd, hl, he, hw, h, q, x⟩ := h
    refine ⟨S, F', nn, I, μ, e, _, Xd, by omega, he, hw, h, fun d μ1 v I1 H1 pa s1 w1 ra => ?_, x.mono (by omega) (Same.refl I)⟩
    obtain ⟨fs, ds, e1, e2, pa⟩ := isOf_cases pa
    obtain ⟨a, dx, xs, rfl, h1, r1, l1⟩ := asObj_rep w1 ra e1
    exact ⟨a, dx, _, rfl, h1, S, F', nn + ko, I1, μ1, [d], Qd, _, by omega, w1, .cons ra .nil, pa, q.mono (by omega) s1, fun _ _ _ _ _ _ z => z.elim⟩
  refine attr_of hab (thn (ho.run pins sh σ H _ J h2) fun u s1 ⟨x, H1, I1, rx, a, dx, fs, ex, ea, q⟩ => ?_)
  subst ex
  obtain rfl : u = Value.ref a := rx
  exact getprop_okW I1 ea cc hp F gd hr hb q
theorem g_fld {n : Str} (ho : GE X c W ko o wo) (cc : Cls X.K (c.cl n)) (hn : NoAttr X.K (c.cl n) m) (hb : attributeBase o m X.env (eval o X.env) = eval o X.env := by rfl) : GE X c W ko (.Attribute o m pos) (wFld n m wo) := L2.PE.imp (pe_fld ho hb) fun σ H Q h => by
  obtain ⟨S, F', nn, I, μ, e, Qd, Xd, hl, he, hw, h, q, x⟩ := h
  refine ⟨S, F', nn, I, μ, e, _, Xd, hl, he, hw, h, fun d μ1 v I1 H1 pa s1 w1 ra => ?_, x⟩
  dsimp only at pa
  split at pa
  · rename_i k fs ds e1
    obtain ⟨rfl, pa⟩ := pa
    split at pa
    · rename_i d2 e2
      obtain ⟨a, dx, xs, rfl, h1, r1, l1⟩ := asObj_rep w1 ra e1
      obtain ⟨y, h2, h3⟩ := fld_rep r1 e2
      exact ⟨_, _, _, _, y, rfl, h1, cc, hn, h2, q d2 μ1 y I1 H1 pa s1 w1 h3⟩
    · exact pa.elim
  · exact pa.elim
theorem g_setF {n : Str} {v : Expr} {wv : WE} {pos' : Pos} (ho : GE X c W ko o wo) (hv : GE X c W ka v wv) (cc : Cls X.K (c.cl n)) (hn : NoAttr X.K (c.cl n) m) (hs : swapsWith v (some (.Attribute o m pos')) pos.line X.env = pure false := by rfl) :
    GS X c W (ka + ko) (.Assign [.Attribute o m pos'] v pos) (wSetF n m wo wv) := L2.PS.imp (ps_fld ho hv hs) fun K σ H h => by
  obtain ⟨S, F', nn, I, μ, e, E, hl, he, hw, h, q⟩ := h
  refine ⟨S, F', nn, I, μ, e, _, _, by omega, he, hw, h, fun d μ1 v I1 H1 pa s1 w1 ra => ?_, (q.x he).mono (by omega) (Same.refl I)⟩
  refine ⟨S, F', nn + ka, I1, μ1, e, _, _, by omega, he.mono s1, w1, pa, fun d2 μ2 v2 I2 H2 pb s2 w2 rb => ?_, (q.x he).mono (by omega) s1⟩
  dsimp only at pb
  split at pb
  · split at pb
    · rename_i pp _ k fs ds e1
      obtain ⟨rfl, hz, pb⟩ := pb
      cases rb
      obtain ⟨_, o2, r2, h2⟩ := w2.m _ _ (ndO_some e1)
      cases r2 with
      | @obj _ dx _ _ xs r2 l2 hn2 =>
        obtain ⟨ys, g1, g2, g3⟩ := putN_rep (f := m) (ra.mono s2) r2 l2
        refine ⟨_, _, _, _, rfl, h2, cc, hn, by rw [List.length_zip, ← l2, Nat.min_self]; exact hz, ?_⟩
        rw [g3]
        exact q.nx e _ σ I2 _ pb (s1.trans s2) (he.mono (s1.trans s2)) ((w2.put (ndO_some e1) (NdR.obj g1 g2 hn2)).up (by omega))
    · exact pb.elim
  · exact pb.elim
/-! C(..) -/
theorem run_makeW {pins : List (Addr × Obj)} {σ : L2.St} {H : Hp} {s : Shared} {Q : VK} {us : List Value} {vs : List V} (M : Mk X.K C f) (F : FnW X.prog X.w X.K X.mg X.base k f fd ps sp) (gd : Gds.ok X.A) (hr : Room (k + 1) X.A) (hb : Binds X.K fd ps dv) (hd : Vals dvs dv)
    (tk : Takes X W) (J : Inv X pins σ H s) (r : Vals vs us)
    (h : ∀ x dx, H x = none → H dx = none → dx ≠ x → sp (.ref x :: (vs ++ dvs)) (upd (upd H dx (.own x)) x (.ins C dx [])) (fun v H2 => v = .non ∧ Q (.ref x) H2) fun cls d H' => W cls d σ H') :
    wpAny (model X.prog X.w) X.A (call (.ref C) us) (EP X pins σ Q) X.xe s := by
  have hq := h (s.heap.objs.size + 1) s.heap.objs.size (J.hok.fresh (Nat.le_succ _)) (J.hok.fresh (Nat.le_refl _)) (Nat.ne_of_lt (Nat.lt_succ_self _))
  have I2 := Inv.made (C := C) J
  have r2 : Vals (V.ref (s.heap.objs.size + 1) :: (vs ++ dvs)) (Value.ref (s.heap.objs.size + 1) :: (us ++ dv)) := .cons rfl (r.append hd)
  have hl : (Value.ref (s.heap.objs.size + 1) :: us ++ dv).length = ps.length := by
    have e := r2.length
    rw [F.len _ _ _ _ hq] at e
    exact e.symm
  have gd2 : Gds.ok (X.A.under (.builtin "type.__call__" ⟨.ref C :: us, []⟩)) := Gds.tyc gd
  refine wpAny_call (make_map (f := f) J.kIn M.makes M.init (beq_iff_eq.mp M.fn) (codeAny_mono (F.run _ X.stack _ _ ⟨Value.ref (s.heap.objs.size + 1) :: us, []⟩ (Value.ref (s.heap.objs.size + 1) :: (us ++ dv)) _ _ _ gd2 (hr.make C us [])
    (I2.env0.make C us []) (hb _ (Value.ref (s.heap.objs.size + 1) :: us) I2.kIn hl) r2 hq) fun r s' hq' => ?_))
  cases r with
  | error e => exact tk e s' (XE.of_call I2 (fun _ _ _ h => h) hq')
  | ok fl =>
    cases fl with
    | ret u =>
      obtain ⟨v, H', I3, rv, ev, q3⟩ := I2.after hq'
      subst ev
      exact ⟨rv, ⟨V.ref (s.heap.objs.size + 1), H', I3, rfl, q3⟩⟩
    | next => exact False.elim hq'
    | brk => exact False.elim hq'
    | cont => exact False.elim hq'
theorem ld_make {n : Str} {mm : Bool} {σ : L2.St} {H : Hp} {Q : VK} (hns : n ∈ c.ns) (hd : ∀ S I, Reps c S I dd dvs) (h : ldE c W (ka + kf) (wMake mm n s dd wr) σ H Q) : ldA c W ka wr σ H fun vs H1 => ∀ x dx, H1 x = none → H1 dx = none → dx ≠ x →
    SpW c s kf (.ref x :: (vs ++ dvs)) (upd (upd H1 dx (.own x)) x (.ins (c.cl n) dx [])) (fun v H2 => v = .non ∧ Q (.ref x) H2) fun cls d H' => W cls d σ H' := by
  obtain ⟨S, F, nn, I, μ, e, Qd, Xd, hl, he, hw, h, q, x⟩ := h
  refine ⟨S, F, nn, I, μ, e, _, Xd, by omega, he, hw, h, fun ds μ1 vs I1 H1 pa s1 w1 ra p dx hp hdx ne => ?_, x.mono (by omega) (Same.refl I)⟩
  have w2 := w1.frame (p := dx) (u := .own p) hdx
  have hp2 : upd H1 dx (.own p) p = none := by rw [upd_ne (Ne.symm ne)]; exact hp
  have w3 := w2.newCell (p := p) (u := .ins (c.cl n) dx []) (nd := .obj n [] []) hp2 (NdR.obj (fs := []) (xs := []) .nil rfl hns)
  refine ⟨S, F, nn + ka, I1, _, _, _, Xd, by omega, w3, .cons .cell (ra.append (hd S I1)), pa p (w1.fresh hp).2, fun d μ2 v I2 H2 pb s2 w4 rb => ?_, fun d μ' cls dx I' H' p s2 w' er => x d μ' cls dx I' H' p (s1.trans s2) (w'.up (by omega)) er⟩
  obtain ⟨rfl, pb⟩ := pb
  cases rb
  refine ⟨rfl, ?_⟩
  split at pb
  · rename_i nd e1
    obtain ⟨hi, o, r1, h1⟩ := w4.m p nd e1
    have hnc : ∀ a, S = some a → ¬ Cell a p := fun a ea qq => by
      have := ((w4.s a ea).2 p qq).2
      rw [e1] at this
      cases this
    refine (q.sett (m := mm)) _ (del μ2 p) _ I2 H2 pb (s1.trans s2) ((w4.drop fun b nd' e => ?_).up (by omega)) ⟨p, o, rfl, h1, r1, hi, del_same, hnc, w4.nfm e1⟩
    by_cases z : b = p
    · rw [z, del_same] at e
      cases e
    · rw [del_ne z] at e
      exact e
  · exact pb.elim
theorem g_make {n : Str} {mm : Bool} (M : Mk X.K (c.cl n) f) (F : FnW X.prog X.w X.K X.mg X.base k f fd ps (SpW c s kf)) (gd : Gds.ok X.A) (hr : Room (k + 1) X.A) (hg : Gl X x) (hm : X.mg x = some (.ref (c.cl n))) (hb : Binds X.K fd ps dv) (hd : Vals dvs dv) (hdd : ∀ S I, Reps c S I dd dvs) (tk : Takes X W)
    (ha : GA X c W ka (a :: es) wr) (hns : n ∈ c.ns := by decide) (hdb : (x == ("__debug__" : Str)) = false := by decide) (he : starEach (a :: es) X.env = (false, eval a X.env) :: starEach es X.env := by rfl) (hpl : (backTo pos (starEach es X.env)).any (·.1) = false := by rfl) :
    GE X c W (ka + kf) (.Call (.Name x p) (a :: es) [] pos) (wMake mm n s dd wr) := by
  refine ⟨fun pins s σ H Q J h => ?_⟩
  refine wpAny_Call_Name_kw (ld_glob J hg hm ?_ hdb)
  refine PySem.W.callWith_K (h₀ := X.base) J.ok.mod.kin M.kp (thn (ha.run pos pins s σ H _ J (ld_make hns hdd h)) fun us s1 ⟨vs, H1, I1, r, q⟩ => ⟨I1.kIn, ?_⟩) he hpl
  exact run_makeW M F gd hr hb hd tk I1 r q
end
end DL

set_option Elab.async false
set_option linter.all false
set_option maxRecDepth 100000
set_option maxHeartbeats 4000000
/-! A5: operators of own classes, instances called, enumerate, reversal, stars, methods of lists. -/
namespace DL
open PySem PySem.Calls PySem.Spec PyProof.Rows L2
variable [Gds]
def clsOf (μ : Mu) (x : D) : Option Str := (asObj μ x).map fun z => z.1
theorem clsOf_some {μ : Mu} {x : D} {n : Str} (h : clsOf μ x = some n) : ∃ fs ds, asObj μ x = some (n, fs, ds) := by
  unfold clsOf at h
  cases e : asObj μ x with
  | none =>
    rw [e] at h
    cases h
  | some z =>
    rw [e] at h
    cases h
    exact ⟨z.2.1, z.2.2, rfl⟩
def vR (Q : QR) : QD := fun d μ => Q (.v d) μ
def oOwnIx (n : Str) (s : WP) : WOp := fun x y μ Q X => clsOf μ x = some n ∧ s [x, y] μ (vR Q) X
def wCallI (n : Str) (s : WP) (r : WE) (a : WA) : WE := fun e μ Q X => r e μ (fun x μ1 => clsOf μ1 x = some n ∧ a e μ1 (fun ds μ2 => clsOf μ2 x = some n ∧ s (x :: ds) μ2 Q X) X) X
section
variable {X : Cx} {c : Ctx} {W : WX} {k kf ka kb ko : Nat} {f C : Addr} {fd : FuncData} {ps : List Str} {s : WP} {n : Str}
/-- the promise of a def out of a wish at values -/
theorem sp_of {S : Option SA} {F I H : Hp} {m : Nat} {μ : Mu} {ds : List D} {vs : List V} {Qd : QD} {Xd : QD} {Q : VK} {σ : L2.St} (hl : m + kf ≤ LIM) (w : Wd c S F m I μ H) (r : Reps c S I ds vs) (h : s ds μ Qd Xd) (q : QV c S F (m + kf) I Qd Q) (x : XV c W S F (m + kf) I σ Xd) :
    SpW c s kf vs H Q fun cls d H' => W cls d σ H' := ⟨S, F, m, I, μ, ds, Qd, Xd, hl, w, r, h, q, fun d μ' cls dx I' H' p s2 w' er => x d μ' cls dx I' H' p s2 w' er⟩
theorem QVR.vR {S : Option SA} {F I : Hp} {m : Nat} {Qd : QR} {Q : VK} (q : QVR c S F m I Qd Q) : QV c S F m I (vR Qd) Q := fun d μ' v I' H' p s w r => q (.v d) μ' v I' H' p s w r
variable {a b o : Expr} {wa wb wo : WE} {pos : Pos} {es : List Expr} {wr : WA} {m : Bool}
theorem g_ixO (G : FnW X.prog X.w X.K X.mg X.base k f fd ps (SpW c s kf)) (gd : Gds.ok X.A) (hr : Room (k + 1) X.A) (hb : Binds X.K fd ps []) (tk : Takes X W) (hs : Spl X.K (c.cl n) "__getitem__" f) (hf : PySem.W.fnIn X.K f = true) (h1 : GE X c W ka a wa) (h2 : GE X c W kb b wb)
    (hsl : ∀ x i, subscripted b true (.ref x) i = runValue (.builtin "lifetime.subscript" ⟨[.ref x, i], []⟩) := by intro _ _; with_unfolding_all rfl) : GE X c W (ka + (kb + kf)) (.Subscript a b pos) (wOp m (oOwnIx n s) wa wb) := by
  refine ⟨fun pins sh σ H Q J h => ?_⟩
  refine Subscript_ (binT h1 h2 J (ld_two h) fun v u s2 x y H2 I2 rx ry q => ?_)
  obtain ⟨S, F, mm, I, μ, dx, dy, Qd, Xd, hl, w, ra, rb, ⟨g1, h⟩, q, x⟩ := q
  obtain ⟨fs, ds, e1⟩ := clsOf_some g1
  obtain ⟨p, _, _, rfl, ha, _⟩ := asObj_rep w ra e1
  cases rx
  obtain ⟨mA, Oa, _⟩ := ins_get I2.hok ha
  obtain ⟨od, Ja, _⟩ := Oa.look
  exact sub_own I2.kIn Ja hs.at_ hf hs.fn (run_fnW1 (us := [.ref p, u]) (vs := [.ref p, y]) G gd hr hb tk I2 (.cons rfl (.cons ry .nil)) (sp_of hl w (.cons ra (.cons rb .nil)) h q.vR x)) (hsl p u)
/-- an instance called -/
theorem g_callI (ho : GE X c W ko o wo) (cc : StX.CallO X.K (c.cl n) f) (G : FnW X.prog X.w X.K X.mg X.base k f fd ps (SpW c s kf)) (gd : Gds.ok X.A) (hr : Room k X.A) (hb : Binds X.K fd ps []) (tk : Takes X W) (ha : GA X c W ka (a :: es) wr)
    (ht : eval (.Call o (a :: es) [] pos) X.env = (do callWith pos (← eval o X.env) [] (backTo pos (starEach (a :: es) X.env)) (backToKw pos (keywordEach [] X.env))) := by rfl)
    (he : starEach (a :: es) X.env = (false, eval a X.env) :: starEach es X.env := by rfl) (hpl : (backTo pos (starEach es X.env)).any (·.1) = false := by rfl) : GE X c W (ko + (ka + kf)) (.Call o (a :: es) [] pos) (wCallI n s wo wr) := by
  refine ⟨fun pins sh σ H Q J h => ?_⟩
  have h2 : ldE c W ko wo σ H fun y H1 => ∃ p, y = V.ref p ∧ ldA c W ka wr σ H1 fun vs H2 => (∃ dx fs, H2 p = some (.ins (c.cl n) dx fs)) ∧ SpW c s kf (V.ref p :: vs) H2 Q fun cls d H' => W cls d σ H' := by
    obtain ⟨S, F, mm, I, μ, e, Qd, Xd, hl, he, hw, h, q, x⟩ := h
    refine ⟨S, F, mm, I, μ, e, _, Xd, by omega, he, hw, h, fun d μ1 v I1 H1 pa s1 w1 ra => ?_, x.mono (by omega) (Same.refl I)⟩
    obtain ⟨g1, pa⟩ := pa
    obtain ⟨fs, ds, e1⟩ := clsOf_some g1
    obtain ⟨p, _, _, rfl, hp, _⟩ := asObj_rep w1 ra e1
    refine ⟨p, rfl, S, F, mm + ko, I1, μ1, e, _, Xd, by omega, he.mono s1, w1, pa, fun ds μ2 vs I2 H2 pb s2 w2 rb => ?_, x.mono (by omega) s1⟩
    obtain ⟨g2, pb⟩ := pb
    obtain ⟨fs2, ds2, e2⟩ := clsOf_some g2
    obtain ⟨p', dx', xs', e3, hp', _⟩ := asObj_rep w2 (ra.mono s2) e2
    cases e3
    exact ⟨⟨_, _, hp'⟩, sp_of (by omega) w2 (.cons (ra.mono s2) rb) pb (q.mono (by omega) (s1.trans s2)) (x.mono (by omega) (s1.trans s2))⟩
  refine Call_ (thn (ho.run pins sh σ H _ J h2) fun u s1 ⟨y, H1, I1, ry, p, ey, q⟩ => ?_) ht
  subst ey
  obtain rfl : u = Value.ref p := ry
  refine StX.callO_with (thn (ha.run pos pins s1 σ H1 _ I1 q) fun us s2 ⟨vs, H2, I2, r, hi, q2⟩ => ?_) he hpl
  obtain ⟨dx, fs, hi⟩ := hi
  obtain ⟨ox, od, Jx, hd⟩ := StX.insC_at (X := X) I2 (.inr ⟨dx, fs, hi⟩)
  refine ⟨⟨c.cl n, ox, od, Jx, hd⟩, ?_⟩
  refine wpAny_call (PySem.W.kco_code I2.kIn Jx hd cc.at_ cc.fn cc.fi ?_)
  have rr : Vals (V.ref p :: vs) (Value.ref p :: us) := .cons rfl r
  have hl : ((Value.ref p :: us) ++ ([] : List Value)).length = ps.length := by rw [List.append_nil, ← rr.length]; exact G.len _ _ _ _ q2
  have hbs := hb s2 (.ref p :: us) I2.kIn hl
  rw [List.append_nil] at hbs
  refine codeAny_mono (G.run X.A X.stack s2 H2 ⟨.ref p :: us, []⟩ (.ref p :: us) (.ref p :: vs) Q _ gd hr I2.env0 hbs rr q2) fun r s' hq => ?_
  cases r with
  | error e => exact tk e s' (XE.of_call I2 (fun _ _ _ h => h) hq)
  | ok fl =>
    cases fl with
    | ret u => exact I2.after hq
    | next => exact False.elim hq
    | brk => exact False.elim hq
    | cont => exact False.elim hq
end
/-! ### enumerate, reversal, stars -/
def enumD : Nat → List D → List D
  | _, [] => []
  | i, d :: ds => .tup [.int (i : Int), d] :: enumD (i + 1) ds
theorem enumD_get : ∀ (ds : List D) (k i : Nat), (enumD k ds)[i]? = (ds[i]?).map fun d => .tup [.int ((k + i : Nat) : Int), d]
  | [], _, _ => rfl
  | d :: ds, k, 0 => rfl
  | d :: ds, k, i + 1 => by
    show (enumD (k + 1) ds)[i]? = (ds[i]?).map _
    rw [enumD_get ds (k + 1) i, show k + 1 + i = k + (i + 1) by omega]
theorem enumD_len : ∀ (ds : List D) (k : Nat), (enumD k ds).length = ds.length
  | [], _ => rfl
  | d :: ds, k => by rw [enumD, List.length_cons, List.length_cons, enumD_len ds]
def wiEnum (a : WA) : WI := fun e μ Q X => a e μ (fun ds μ1 => one ds fun d => match sqD μ1 d with
  | some xs => Q ⟨enumD 0 xs, okS d xs⟩ μ1
  | Option.none => False) X
def wRev (m : Bool) (a : WE) : WE := fun e μ Q X => a e μ (fun x μ1 => match x with
  | .tup ds => Q (.tup ds.reverse) μ1
  | x => (match seqL μ1 x with
    | some ds => sett m Q (.n (.list ds.reverse)) μ1
    | Option.none => False)) X
def waStar (a : WE) (r : WA) : WA := fun e μ Q X => a e μ (fun x μ1 => match sqD μ1 x with
  | some ds => r e μ1 (fun es μ2 => Q (ds ++ es) μ2) X
  | Option.none => False) X
section
variable {X : Cx} {c : Ctx} {W : WX} {k ka kb : Nat} {a tg : Expr} {wa : WE} {pos p : Pos} {es : List Expr} {wr : WA} {m : Bool}
/-- what enumerate tells of a sequence that is walked -/
theorem itd_enum {S : Option SA} {F0 I1 : Hp} {J : It} {ds : List D} {ok : Mu → Prop} {sq : Hp → List V → Prop} (h : ∀ F n I μ H, Same I1 I → Wd c S F n I μ H → ok μ → ∃ xs, sq H xs ∧ Reps c S I ds xs)
    (hgo : ∀ i H xs x, sq H xs → xs[i]? = some x → J.go i H) (hy : ∀ i H xs x v H', sq H xs → xs[i]? = some x → J.yld i H v H' → ∃ T, v = .ref T ∧ H T = none ∧ H' = upd H T (.tup [.int (i : Nat), x])) (hst : ∀ i H xs, sq H xs → xs.length ≤ i → J.stop i H) : ItD c S F0 J I1 ⟨enumD 0 ds, ok⟩ := fun F i n I μ H _ s w o => by
  obtain ⟨xs, hq, r⟩ := h F n I μ H s w o
  show (∀ d, (enumD 0 ds)[i]? = some d → _) ∧ ((enumD 0 ds)[i]? = _ → _)
  rw [enumD_get]
  refine ⟨fun d hd => ?_, fun hd => ?_⟩
  · cases hx : ds[i]? with
    | none =>
      rw [hx] at hd
      cases hd
    | some d0 =>
      rw [hx] at hd
      have hd' : D.tup [.int ((0 + i : Nat) : Int), d0] = d := Option.some.inj hd
      obtain ⟨x, hx1, rx⟩ := r.get hx
      refine ⟨hgo i H xs x hq hx1, fun v H' yl => ?_⟩
      obtain ⟨T, e1, hT, e2⟩ := hy i H xs x v H' hq hx1 yl
      have sm : Same I (upd I T (.tup [.int (i : Nat), x])) := same_new (w.fresh hT).1
      refine ⟨_, sm, by rw [e2]; exact w.new hT, ?_⟩
      rw [e1, ← hd', Nat.zero_add]
      exact .tup (.inl upd_same) (.cons .int (.cons (rx.mono sm) .nil))
  · refine hst i H xs hq ?_
    rw [← r.length]
    cases hx : ds[i]? with
    | none => exact List.getElem?_eq_none_iff.mp hx
    | some d0 =>
      rw [hx] at hd
      cases hd
theorem itd_enumL {S : Option SA} {F0 I1 : Hp} {aa : Addr} {ds : List D} {ok : Mu → Prop} (h : ∀ F n I μ H, Same I1 I → Wd c S F n I μ H → ok μ → ∃ xs, SqL c.K H aa xs ∧ Reps c S I ds xs) : ItD c S F0 (Ite c.K aa) I1 ⟨enumD 0 ds, ok⟩ :=
  itd_enum (sq := fun H xs => SqL c.K H aa xs) h (fun i H xs x hq hx => ⟨xs, x, hq, hx⟩) (fun i H xs x v H' hq hx ⟨T, x2, e1, hT, e2, y⟩ => by
    have e3 := y xs hq
    rw [hx] at e3
    have e4 : x = x2 := Option.some.inj e3
    subst e4
    exact ⟨T, e1, hT, e2⟩) fun i H xs hq hl => ⟨xs, hq, hl⟩
theorem itd_enumT {S : Option SA} {F0 I1 : Hp} {aa : Addr} {ds : List D} {ok : Mu → Prop} (h : ∀ F n I μ H, Same I1 I → Wd c S F n I μ H → ok μ → ∃ xs, SqT c.K H aa xs ∧ Reps c S I ds xs) : ItD c S F0 (IteT c.K aa) I1 ⟨enumD 0 ds, ok⟩ :=
  itd_enum (sq := fun H xs => SqT c.K H aa xs) h (fun i H xs x hq hx => ⟨xs, x, hq, hx⟩) (fun i H xs x v H' hq hx ⟨T, x2, e1, hT, e2, y⟩ => by
    have e3 := y xs hq
    rw [hx] at e3
    have e4 : x = x2 := Option.some.inj e3
    subst e4
    exact ⟨T, e1, hT, e2⟩) fun i H xs hq hl => ⟨xs, hq, hl⟩
theorem gi_enum {tpos : Pos} {elts : List Expr} {kk : Nat} (hg : Gl X "enumerate") (hm : X.mg "enumerate" = none) (ha : GA X c W k [a] wr) (hs : starEach [a] X.env = [(false, eval a X.env)] := by rfl) (hK : X.K = c.K := by rfl) : GI X c W k (.Tuple elts kk tpos) (.Call (.Name "enumerate" p) [a] [] pos) (wiEnum wr) := by
  obtain ⟨K, cl, tb, ns, es0⟩ := c
  cases hK
  refine L2.PI.imp (pi_enumU hg hm ha hs) fun σ H R h => ?_
  obtain ⟨S, F, n, I, μ, e, Qd, Xd, hl, he, hw, h, q, x⟩ := h
  refine ⟨S, F, n, I, μ, e, _, Xd, hl, he, hw, h, fun ds μ1 vs I1 H1 p s1 u1 r1 => ?_, x⟩
  obtain ⟨z, rfl, p2⟩ := one_cases p
  obtain ⟨v, rfl, rv⟩ := reps1 r1
  clear p
  split at p2
  · rename_i xs e1
    cases rv with
    | list g r =>
      cases e1
      exact ⟨_, _, rfl, .inl ⟨SqL.of (u1.lst g), q _ μ1 _ I1 H1 F (fun _ _ z => z) p2 s1 u1 (itd_enumL fun F n I2 μ2 H2 s2 w2 _ => ⟨_, SqL.of (w2.lst (s2 _ _ g)), r.mono s2⟩)⟩⟩
    | tup g r =>
      cases e1
      exact ⟨_, _, rfl, .inr ⟨u1.tupH g, q _ μ1 _ I1 H1 F (fun _ _ z => z) p2 s1 u1 (itd_enumT fun F n I2 μ2 H2 s2 w2 _ => ⟨_, w2.tupH (Same.tup s2 g), r.mono s2⟩)⟩⟩
    | script g =>
      cases e1
      exact ⟨_, _, rfl, .inl ⟨u1.seqH g, q _ μ1 _ I1 H1 F (fun _ _ z => z) p2 s1 u1 (itd_enumL fun F n I2 μ2 H2 s2 w2 _ => ⟨_, w2.seqH (s2.seq g), Reps.of_ints⟩)⟩⟩
    | cell =>
      obtain ⟨ys, h1, h2⟩ := u1.cellL e1
      refine ⟨_, _, rfl, .inl ⟨SqL.of h1, q _ μ1 _ I1 H1 F (fun _ _ z => z) p2 s1 u1 (itd_enumL fun F n I2 μ2 H2 s2 w2 o => ?_)⟩⟩
      obtain ⟨zs, h3, h4⟩ := w2.cellL o
      exact ⟨zs, SqL.of h3, h4⟩
    | _ => cases e1
  · exact p2.elim
theorem g_rev {kk : Nat} {p1 p2 p3 : Pos} (ha : GE X c W k a wa) (hK : X.K = c.K := by rfl) : GE X c W k (.Subscript a (.Slice none none (some (.UnaryOp .USub (.Constant (.int 1) kk p1) p2)) p3) pos) (wRev m wa) := by
  obtain ⟨K, cl, tb, ns, es0⟩ := c
  cases hK
  refine L2.PE.imp (pe_revU ha) fun σ H Q h => ?_
  obtain ⟨S, F, n, I, μ, e, Qd, Xd, hl, he, hw, h, q, x⟩ := h
  refine ⟨S, F, n, I, μ, e, _, Xd, hl, he, hw, h, fun d μ1 v I1 H1 pa s1 w1 ra => ?_, x⟩
  dsimp only at pa
  split at pa
  · cases ra with
    | @tup aa _ xs g r =>
      refine ⟨_, _, rfl, .inr ⟨w1.tupH g, fun p hp => ?_⟩⟩
      have sm : Same I1 (upd I1 p (.tup xs.reverse)) := same_new (w1.fresh hp).1
      exact q _ μ1 _ _ _ pa (s1.trans sm) (w1.new hp) (.tup (.inl upd_same) (r.reverse.mono sm))
  · split at pa
    · rename_i ds e1
      obtain ⟨l, xs, rfl, h1, r1⟩ := seqL_rep w1 ra e1
      refine ⟨_, _, rfl, .inl ⟨SqL.of h1, fun p hp => ?_⟩⟩
      obtain ⟨w2, rr⟩ := RsR.new w1 hp (NdR.list r1.reverse)
      exact (q.sett (m := m)) _ μ1 _ _ _ pa s1 w2 rr
    · exact pa.elim
theorem ga_star (ha : GE X c W ka a wa) (hr : GA X c W kb es wr) (hs : starEach (.Starred a p :: es) X.env = (true, eval a X.env) :: starEach es X.env := by rfl) (hK : X.K = c.K := by rfl) : GA X c W (ka + kb) (.Starred a p :: es) (waStar wa wr) := by
  obtain ⟨K, cl, tb, ns, es0⟩ := c
  cases hK
  refine L2.PA.imp (StX.pa_star ha hr hs) fun σ H Q h => ?_
  obtain ⟨S, F, n, I, μ, e, Qd, Xd, hl, he, hw, h, q, x⟩ := h
  refine ⟨S, F, n, I, μ, e, _, Xd, by omega, he, hw, h, fun d μ1 v I1 H1 pa s1 w1 ra => ?_, x.mono (by omega) (Same.refl I)⟩
  dsimp only at pa
  split at pa
  · rename_i ds e1
    obtain ⟨l, xs, rfl, h1, r1⟩ := sqD_rep w1 ra e1
    refine ⟨l, xs, rfl, h1.symm, S, F, n + ka, I1, μ1, e, _, Xd, by omega, he.mono s1, w1, pa, fun es μ2 vs I2 H2 pb s2 w2 rb => ?_, x.mono (by omega) s1⟩
    exact q _ μ2 _ I2 H2 pb (s1.trans s2) (w2.up (by omega)) ((r1.mono s2).append rb)
  · exact pa.elim
end
/-! ### methods of lists -/
/-- a list that is a cell -/
def lstC (x : D) (μ : Mu) (f : Addr → List D → Prop) : Prop := match x with
  | .cell p => (match ndL (μ p) with
    | some ds => f p ds
    | Option.none => False)
  | _ => False
theorem lstC_cases {x : D} {μ : Mu} {f : Addr → List D → Prop} (h : lstC x μ f) : ∃ p ds, x = .cell p ∧ ndL (μ p) = some ds ∧ f p ds := by
  unfold lstC at h
  split at h
  · split at h
    · rename_i e
      exact ⟨_, _, rfl, e, h⟩
    · exact h.elim
  · exact h.elim
def isL (μ : Mu) (x : D) : Prop := (seqL μ x).isSome = true
def mApp : WM := fun x xs μ Q _ => lstC x μ fun p ds => one xs fun y => ds.length < sizeLine ∧ Q (.v .none) (up μ p (.list (ds ++ [y])))
/-- x.m(..) of a list -/
def wLm (m : Bool) (o : WM) (r : WE) (a : WA) : WE := fun e μ Q X => r e μ (fun x μ1 => isL μ1 x ∧ a e μ1 (fun xs μ2 => o x xs μ2 (sett m Q) X) X) X
section
variable {X : Cx} {c : Ctx} {W : WX} {ko ka : Nat} {a o : Expr} {wo : WE} {es : List Expr} {wr : WA} {m : Bool} {name : Str} {id : String}
/-- a method that keeps a wish -/
def MtW (X : Cx) (c : Ctx) (id : String) (o : WM) : Prop := ∃ r, MtR X id r ∧ ∀ S F n I μ d ds v vs H Qd Xd Q, Wd c S F n I μ H → Rep c S I d v → Reps c S I ds vs → o d ds μ Qd Xd → QVR c S F n I Qd Q → r v vs H Q
theorem mw_app : MtW X c "list.append" mApp := ⟨_, mt_append, fun S F n I μ d ds v vs H Qd Xd Q w rv rs h q => by
  obtain ⟨p, xs, rfl, e, h⟩ := lstC_cases h
  obtain ⟨y, rfl, h⟩ := one_cases h
  obtain ⟨u, rfl, ru⟩ := reps1 rs
  cases rv
  obtain ⟨zs, h1, h2⟩ := w.cellL e
  refine ⟨p, zs, u, rfl, rfl, h1, by rw [← h2.length]; exact h.1, ?_⟩
  exact q _ _ _ I _ h.2 (Same.refl I) (w.put (ndL_some e) (NdR.list (h2.append (.cons ru .nil)))) .none⟩
theorem ld_lm {oo : WM} {r : V → List V → Hp → VK → Prop} (hr : ∀ S F n I μ d ds v vs H Qd Xd Q, Wd c S F n I μ H → Rep c S I d v → Reps c S I ds vs → oo d ds μ Qd Xd → QVR c S F n I Qd Q → r v vs H Q) {σ : L2.St} {H : Hp} {Q : VK} (h : ldE c W (ko + ka) (wLm m oo wo wr) σ H Q) : tBM c.K "list" r (ldE c W ko wo) (ldA c W ka wr) σ H Q := by
  obtain ⟨S, F, n, I, μ, e, Qd, Xd, hl, he, hw, h, q, x⟩ := h
  refine ⟨S, F, n, I, μ, e, _, Xd, by omega, he, hw, h, fun d μ1 v I1 H1 pa s1 w1 ra => ?_, x.mono (by omega) (Same.refl I)⟩
  obtain ⟨g1, pa⟩ := pa
  obtain ⟨ds, e1⟩ := Option.isSome_iff_exists.mp g1
  obtain ⟨l, xs, rfl, h1, r1⟩ := seqL_rep w1 ra e1
  refine ⟨.inl ⟨rfl, _, SqL.of h1⟩, S, F, n + ko, I1, μ1, e, _, Xd, by omega, he.mono s1, w1, pa, fun es μ2 vs I2 H2 pb s2 w2 rb => ?_, x.mono (by omega) s1⟩
  exact hr S F _ I2 μ2 _ _ _ _ H2 _ _ Q w2 (ra.mono s2) rb pb (QV.sett (q.mono (by omega) (s1.trans s2)))
theorem g_lmN {oo : WM} {ex : Expr} (hm : MtW X c id oo) (hb : ∀ r, MtR X id r → PE X ex (tBM X.K "list" r (ldE c W ko wo) (ldA c W ka wr))) (hK : X.K = c.K := by rfl) : GE X c W (ko + ka) ex (wLm m oo wo wr) := by
  obtain ⟨r, h1, h2⟩ := hm
  refine L2.PE.imp (hb r h1) fun σ H Q h => ?_
  rw [hK]
  exact ld_lm h2 h
end
end DL

set_option Elab.async false
set_option linter.all false
set_option maxRecDepth 100000
set_option maxHeartbeats 4000000
/-! Y3: isinstance of an error, whatever dict it has. -/
namespace DL
open PySem PySem.W PySem.Spec PySem.Calls PyProof.Rows L2
section
variable {prog : Program} {w : PySem.World} {A : Around} {E : Value → Shared → Prop} {s : Shared} {K : Frag} {x C : Addr} {ox : Obj} {od : Option Obj}
theorem class_find (T : ExcC K C) : findObj K C od "__class__" = some (.bind (.builtin "getset_descriptor.__get__") (.builtin "object.__class__")) := by
  have hc : (clsIn K C).isSome = true := by
    obtain ⟨cd, z, _⟩ := any_some T.hd
    rw [z]
    rfl
  cases od with
  | none => exact findObj_dataN hc T.ha T.hn T.ht
  | some o => exact findObj_data hc T.ha T.hn T.ht
theorem class_exc {Q : Option Value → Shared → Prop} (T : ExcC K C) (kin : K.In s.heap) (ins : PySem.W.InstAt s.heap x ox C od) (fin : Q (some (.ref C)) { s with toks := s.toks + 1 }) : wpAny (model prog w) A (getAttr? (.ref x) "__class__") Q E s := by
  obtain ⟨hp, gs, dr, tk, osx⟩ := s
  have l0 := ins.type (M := model prog w)
  have l1 := looks_findIn (M := model prog w) kin T.hg
  have l2 := looks_findIn (M := model prog w) kin T.hk
  have l3 := looks_find (M := model prog w) kin ins (class_find T)
  have below : Looks (model prog w) hp (isInstance (.ref x) (.type "BaseException")) true := l0.andThen (looks_subIn kin T.hs)
  have z0 : (false && onTheHeap (Value.builtin "BaseException.__getattribute__")) = false := rfl
  have z2 : (Value.builtin "BaseException.__getattribute__" == Value.builtin "object.__getattribute__") = false := by decide +kernel
  have z1 : (onTheHeap (Value.ref C) && Value.builtin "BaseException.__getattribute__" == Value.builtin "object.__getattribute__") = false := by
    rw [z2]
    rfl
  unfold getAttr? getAttrBy? getAttrBy
  refine wpAny_bind (wpAny_mkText (wpAny_bind (wpAny_attempt (wpAny_holding (wpAny_bind (l0.at (wpAny_bind (l1.at ?_))))))))
  show wpAny _ _ (if (onTheHeap (Value.ref C) && Value.builtin "BaseException.__getattribute__" == Value.builtin "object.__getattribute__") = true then _ else _) _ _ _
  rw [z1, if_neg Bool.false_ne_true]
  unfold getAttrByItsOwn hookBefore
  refine wpAny_bind ?_
  rw [if_pos (show onTheHeap (Value.ref C) = true from rfl)]
  refine l2.at (wpAny_bind (wpAny_attempt (wpAny_holding ?_)))
  unfold callGetattribute
  rw [z0, if_neg Bool.false_ne_true]
  unfold boundAndCalled
  rw [PySem.F.excAttr_ValueError.ga.bind (.ref x)]
  refine wpAny_bind (wpAny_pure ?_)
  show wpAny _ _ (call (.builtin "BaseException.__getattribute__") [.ref x, .str "__class__" tk]) _ _ _
  refine wpAny_call (codeAny_call_builtin PySem.F.excAttr_ValueError.ga.plain PySem.F.entry_bexc_ga (@check_slot (model prog w) _ _ ⟨hp, gs, dr, tk + 1, osx⟩ "BaseException.__getattribute__" "BaseException" "__getattribute__" (.ref x) [.str "__class__" tk] [] _ (by decide +kernel) (by decide +kernel) below (PySem.F.args_bexc_ga (.ref x) (.str "__class__" tk)) ?_))
  unfold Builtin.«object.__getattribute__»
  refine wpAny_bind (wpAny_of_eq (a := ((Value.ref x : Value), [Value.str "__class__" tk])) (by first | rfl | (simp only [slotArgs]; rfl)) (wpAny_bind (wpAny_pure (wpAny_bind (l0.at (wpAny_bind (l3.at ?_)))))))
  show wpAny _ _ (holding [Value.builtin "object.__class__"] (call (.builtin "getset_descriptor.__get__") [.builtin "object.__class__", .ref x, .ref C]) >>= ret) _ _ _
  refine wpAny_bind (wpAny_holding (wpAny_call (class_get (s := ⟨hp, gs, dr, tk + 1, osx⟩) (ox := ox) (od := od) kin ins T.hm (wpAny_pure ?_))))
  show wpAny _ _ (handedOut (.ref C)) _ _ _
  rw [handedOut_of (v := .ref C) rfl]
  first
    | exact wpAny_pure (wpAny_pure fin)
    | exact wpAny_pure fin
    | exact wpAny_pure (wpAny_bind (wpAny_pure (wpAny_pure fin)))
theorem kitx_err (T : ExcC K C) : KitX K (.ref x) (.ref C) (fun h => ∃ ox od, PySem.W.InstAt h x ox C od) where
  ty := fun _ _ _ ⟨_, _, ins⟩ => ins.type
  it := fun _ _ kin _ => by
    obtain ⟨cd, hc, _⟩ := any_some T.hd
    unfold clsIn at hc
    split at hc
    · rename_i _ _ _ _ ho
      intro A' Q' E' s' k q
      unfold isType loadHead
      exact wpAny_bind (wpAny_loadPart (k _ _ (kin _ _ ho)) (wpAny_pure q))
    · cases hc
  ne := fun h tp dd its n sl kin htp => by
    obtain ⟨cd, hc, _⟩ := any_some T.hd
    refine Bool.eq_false_iff.mpr fun q => ?_
    have e : C = tp := Value.ref.inj (beq_iff_eq.mp q)
    subst e
    unfold clsIn at hc
    split at hc
    · rename_i _ _ _ _ ho
      cases (kin _ _ ho).symm.trans htp
    · cases hc
  ca := fun kin ⟨_, _, ins⟩ k => class_exc T kin ins k
end
/-- the error at a as the machine sees it -/
theorem inst_err {X : Cx} {pins : List (Addr × Obj)} {σ : L2.St} {H : Hp} {s : Shared} {a C : Addr} {d : Option Addr} {fs : List Str} {xs : List V} (J : Inv X pins σ H s) (h : H a = some (ErO a (.ref C) d)) (hf : ErF H d fs xs) : ∃ oe od, PySem.W.InstAt s.heap a oe C od ∧ ∀ f v, (List.zip fs xs).lookup f = some v → ∃ o u, od = some o ∧ PySem.W.lookIn f o = some (some u) ∧ RelV v u := by
  obtain ⟨⟨oe, vs, h1, h2, h3⟩, _⟩ := J.hok a _ h
  have no : PySem.W.notCls oe = true := by
    unfold PySem.W.notCls
    rw [h3]
  rcases hf.2 with ⟨rfl, rfl⟩ | ⟨dx, rfl, hd⟩
  · exact ⟨oe, none, ⟨h1, h2.1, no, by rw [h2.2]; trivial⟩, fun f v z => by simp at z⟩
  · obtain ⟨mA, hns, hr⟩ := J.hok dx _ hd
    obtain ⟨od, ho, hl⟩ := lookIn_ns hns
    refine ⟨oe, some od, ⟨h1, h2.1, no, by rw [h2.2]; exact ho⟩, fun f v z => ?_⟩
    obtain ⟨u, hu, ru⟩ := RelO.some_of (v := v) (o := mA f) (by rw [← z]; exact hr f)
    exact ⟨od, u, rfl, by rw [hl, hu], ru⟩
end DL

set_option Elab.async false
set_option linter.all false
set_option maxRecDepth 100000
set_option maxHeartbeats 4000000
/-! A6: equality of data, isinstance, in, repr, fields of errors. -/
namespace DL
open PySem PySem.Spec PyProof.Rows L2
variable [Gds]
mutual
def pd : D → PyData
  | .bool b => .bool b
  | .int i => .int i
  | .str s => .str s
  | .list ds => .list (pds ds)
  | .tup ds => .tuple (pds ds)
  | _ => .none
def pds : List D → List PyData
  | [] => []
  | d :: ds => pd d :: pds ds
end
mutual
/-- data of None, bools, ints, texts, lists, tuples -/
def plainD : D → Bool
  | .none => true
  | .bool _ => true
  | .int _ => true
  | .str _ => true
  | .list ds => plainsD ds
  | .tup ds => plainsD ds
  | _ => false
def plainsD : List D → Bool
  | [] => true
  | d :: ds => plainD d && plainsD ds
end
section
variable {c : Ctx} {S : Option SA} {F : Hp} {n : Nat} {I H : Hp} {μ : Mu}
mutual
theorem rep_dp (w : Wd c S F n I μ H) : ∀ {d : D} {v : V}, Rep c S I d v → plainD d = true → Dp c.K H v (pd d)
  | _, _, .none, _ => by rw [pd]; exact .non; all_goals intros; contradiction
  | _, _, .bool, _ => by rw [pd]; exact .bl _
  | _, _, .int, _ => by rw [pd]; exact .int _
  | _, _, .str, _ => by rw [pd]; exact .str _
  | _, _, .list h r, p => by
    rw [pd]
    rw [plainD] at p
    exact .lst (SqL.of (w.lst h)) (reps_dp w r p)
  | _, _, .tup h r, p => by
    rw [pd]
    rw [plainD] at p
    exact .tup (w.tupH h) (reps_dp w r p)
  | _, _, .dk h r l, p => by simp [plainD] at p
  | _, _, .dt h r l, p => by simp [plainD] at p
  | _, _, .obj h r l _, p => by simp [plainD] at p
  | _, _, .script h, p => by simp [plainD] at p
  | _, _, .state h t, p => by simp [plainD] at p
  | _, _, .ty _, p => by simp [plainD] at p
  | _, _, .cls _, p => by simp [plainD] at p
  | _, _, .err h f r _, p => by simp [plainD] at p
  | _, _, .cell, p => by simp [plainD] at p
theorem reps_dp (w : Wd c S F n I μ H) : ∀ {ds : List D} {vs : List V}, Reps c S I ds vs → plainsD ds = true → DpAll c.K H vs (pds ds)
  | _, _, .nil, _ => by rw [pds]; exact .nil
  | _, _, .cons h r, p => by
    rw [pds]
    rw [plainsD, Bool.and_eq_true] at p
    exact .cons (rep_dp w h p.1) (reps_dp w r p.2)
end
end
/-- a list that is a cell, as it stands -/
def drf (μ : Mu) : D → D
  | .cell p => (match ndL (μ p) with
    | some ds => .list ds
    | Option.none => .cell p)
  | d => d
theorem drf_dp {c : Ctx} {S : Option SA} {F : Hp} {n : Nat} {I H : Hp} {μ : Mu} {d : D} {v : V} (w : Wd c S F n I μ H) (r : Rep c S I d v) (p : plainD (drf μ d) = true) : Dp c.K H v (pd (drf μ d)) := by
  cases d with
  | cell a =>
    cases r
    cases e : ndL (μ a) with
    | none =>
      have e2 : drf μ (.cell a) = .cell a := by
        simp only [drf, e]
      rw [e2] at p
      simp [plainD] at p
    | some ds =>
      have e2 : drf μ (.cell a) = .list ds := by
        simp only [drf, e]
      rw [e2] at p ⊢
      rw [pd]
      rw [plainD] at p
      obtain ⟨xs, h1, h2⟩ := w.cellL e
      exact .lst (SqL.of h1) (reps_dp w h2 p)
  | _ => exact rep_dp w r p
/-- == of plain data -/
structure EqOk (a b : D) : Prop where
  pa : plainD a = true
  pb : plainD b = true
  sa : SeqAt.shaped (pd a) = true
  sb : SeqAt.shaped (pd b) = true
def eqG (a b : D) (Q : Bool → Prop) : Prop := EqOk a b ∧ Q (PyData.eqv (pd a) (pd b))
def eqU (x y : D) (μ : Mu) (Q : Bool → Prop) : Prop := match x with
  | .int i => (match y with
    | .int j => Q (decide (i = j))
    | y => eqG (.int i) (drf μ y) Q)
  | .str a => (match y with
    | .str b => Q (decide (a = b))
    | y => eqG (.str a) (drf μ y) Q)
  | x => eqG (drf μ x) (drf μ y) Q
def oEq : WOp := fun x y μ Q _ => eqU x y μ fun b => Q (.v (.bool b)) μ
def oNe : WOp := fun x y μ Q _ => eqU x y μ fun b => Q (.v (.bool (!b))) μ
section
variable {X : Cx} {c : Ctx} {W : WX}
theorem dec_intV {i j : Int} : decide (V.int i = V.int j) = decide (i = j) := by
  by_cases h : i = j
  · rw [h, decide_eq_true rfl, decide_eq_true rfl]
  · rw [decide_eq_false h, decide_eq_false fun z => h (V.int.inj z)]
theorem dec_strV {i j : Str} : decide (V.str i = V.str j) = decide (i = j) := by
  by_cases h : i = j
  · rw [h, decide_eq_true rfl, decide_eq_true rfl]
  · rw [decide_eq_false h, decide_eq_false fun z => h (V.str.inj z)]
theorem eqU_cases {S : Option SA} {F : Hp} {n : Nat} {I H : Hp} {μ : Mu} {x y : D} {v u : V} {Q : Bool → Prop} (w : Wd c S F n I μ H) (rx : Rep c S I x v) (ry : Rep c S I y u) (h : eqU x y μ Q) : (scal v u = true ∧ Q (decide (v = u))) ∨ ∃ d e, Dp c.K H v d ∧ Dp c.K H u e ∧ SeqAt.shaped d = true ∧ SeqAt.shaped e = true ∧ Q (PyData.eqv d e) := by
  have gen : ∀ {x : D} {v : V}, Rep c S I x v → eqG (drf μ x) (drf μ y) Q → ∃ d e, Dp c.K H v d ∧ Dp c.K H u e ∧ SeqAt.shaped d = true ∧ SeqAt.shaped e = true ∧ Q (PyData.eqv d e) := fun rx ⟨o, q⟩ => ⟨_, _, drf_dp w rx o.pa, drf_dp w ry o.pb, o.sa, o.sb, q⟩
  unfold eqU at h
  split at h
  · split at h
    · cases rx
      cases ry
      exact .inl ⟨rfl, by rw [dec_intV]; exact h⟩
    · exact .inr (gen rx h)
  · split at h
    · cases rx
      cases ry
      exact .inl ⟨rfl, by rw [dec_strV]; exact h⟩
    · exact .inr (gen rx h)
  · exact .inr (gen rx h)
theorem w_eq (hu : X.A.units + 64 < cLine) (hK : X.K = c.K := by rfl) : Op2 X c W 0 (compareOp .Eq) oEq := by
  obtain ⟨K, cl, tb, ns, es0⟩ := c
  cases hK
  refine op2_of (op_eq.or (op_eqD hu)) fun σ x y H Q h => ?_
  obtain ⟨S, F, n, I, μ, dx, dy, Qd, Xd, hl, w, rx, ry, h, q, _⟩ := h
  rcases eqU_cases w rx ry h with ⟨h1, h2⟩ | ⟨d, e, h1, h2, h3, h4, h5⟩
  · exact .inl ⟨h1, q _ μ _ I H h2 (Same.refl I) w .bool⟩
  · exact .inr ⟨d, e, h1, h2, h3, h4, q _ μ _ I H h5 (Same.refl I) w .bool⟩
theorem w_ne (hu : X.A.units + 64 < cLine) (hK : X.K = c.K := by rfl) : Op2 X c W 0 (compareOp .NotEq) oNe := by
  obtain ⟨K, cl, tb, ns, es0⟩ := c
  cases hK
  refine op2_of (op_ne.or (op_neD hu)) fun σ x y H Q h => ?_
  obtain ⟨S, F, n, I, μ, dx, dy, Qd, Xd, hl, w, rx, ry, h, q, _⟩ := h
  rcases eqU_cases w rx ry h with ⟨h1, h2⟩ | ⟨d, e, h1, h2, h3, h4, h5⟩
  · exact .inl ⟨h1, q _ μ _ I H h2 (Same.refl I) w .bool⟩
  · exact .inr ⟨d, e, h1, h2, h3, h4, q _ μ _ I H h5 (Same.refl I) w .bool⟩
end
/-! ### isinstance -/
inductive TyD where
  | b (n : String) | o (n : Str)
def ndTy : Option Nd → Option TyD
  | some (.list _) => some (.b "list")
  | some (.dk _ _) => some (.b "dict")
  | some (.dt _ _) => some (.b "dict")
  | some (.obj n _ _) => some (.o n)
  | Option.none => Option.none
def tyD (μ : Mu) : D → Option TyD
  | .none => some (.b "NoneType")
  | .bool _ => some (.b "bool")
  | .int _ => some (.b "int")
  | .str _ => some (.b "str")
  | .list _ => some (.b "list")
  | .tup _ => some (.b "tuple")
  | .dk _ _ => some (.b "dict")
  | .dt _ _ => some (.b "dict")
  | .obj n _ _ => some (.o n)
  | .err n _ _ => some (.o n)
  | .cell p => ndTy (μ p)
  | _ => Option.none
/-- the errors of the package -/
def errNames : List Str := ["CrossError", "BadRule", "BadPower", "BadFormula", "BadPair", "BadProgram", "BadPoint", "BadCount", "TooMany", "NoCore", "BadDeed", "NothingLeft", "BadJournal", "BadText"]
def subCC (n m : Str) : Bool := decide (n = m) || (decide (m = "CrossError") && errNames.contains n)
def subCT (n : Str) (t : String) : Bool := decide (t = "ValueError") && errNames.contains n
def isi1 (t : TyD) (y : D) : Option Bool := match y with
  | .ty u => (match t with
    | .b a => kitB a u
    | .o n => some (subCT n u))
  | .cls m => (match t with
    | .b _ => some false
    | .o n => some (subCC n m))
  | _ => Option.none
def isiN (t : TyD) : List D → Option Bool
  | [] => some false
  | y :: ys => (match isi1 t y, isiN t ys with
    | some a, some b => some (a || b)
    | _, _ => Option.none)
def isiD (t : TyD) (y : D) : Option Bool := match y with
  | .tup ys => isiN t ys
  | y => isi1 t y
def cbIsi : WC := fun xs μ Q _ => two xs fun x y => match tyD μ x with
  | some t => (match isiD t y with
    | some b => Q (.v (.bool b)) μ
    | Option.none => False)
  | Option.none => False
/-- what a law's classes say -/
structure CtxOk (c : Ctx) : Prop where
  isi : ∀ n ∈ c.ns, IsiC c.K (c.cl n)
  exc : ∀ n ∈ c.es, ExcC c.K (c.cl n)
  cc : ∀ n ∈ c.ns ++ c.es, ∀ m ∈ c.ns ++ c.es, PySem.W.kitOne c.K (.ref (c.cl n)) (.ref (c.cl m)) = some (subCC n m)
  ct : ∀ n ∈ c.ns ++ c.es, ∀ t ∈ tyNames, PySem.W.kitOne c.K (.ref (c.cl n)) (.type t) = some (subCT n t)
  tc : ∀ t ∈ tyNames, ∀ n ∈ c.ns ++ c.es, PySem.W.kitOne c.K (.type t) (.ref (c.cl n)) = some false
def TyV (c : Ctx) : TyD → Value → Prop
  | .b n, u => u = .type n ∧ n ∈ tyNames
  | .o n, u => u = .ref (c.cl n) ∧ n ∈ c.ns ++ c.es
section
variable {X : Cx} {c : Ctx} {W : WX}
/-- a type, of a walked dict with tuple keys, too -/
def TyZ (K : PySem.W.Frag) (H : Hp) (v : V) (u : Value) : Prop := TyX K H v u ∨ ∃ a o kvs, v = .ref a ∧ u = .type "dict" ∧ H a = some (.frz o (.dT kvs))
theorem kitZ_of {pins : List (Addr × Obj)} {σ : L2.St} {H : Hp} {s : Shared} {x : V} {u t : Value} (I : Inv X pins σ H s) (rx : RelV x u) (ty : TyZ X.K H x t) : ∃ P : Heap → Prop, PySem.W.KitX X.K u t P ∧ P s.heap ∧ u ≠ .builtin "__main__.__loader__#opaque" := by
  rcases ty with ty | ⟨a, ob, kvs, rfl, rfl, ea⟩
  · exact kit_of I rx ty
  · cases (show u = Value.ref a from rx)
    obtain ⟨_, _, _, xs, _, o, es, ep, h1, h2, _⟩ := (show ObjOk X.prog X.w H s.heap a (.frz ob (.dT kvs)) from I.hok a _ ea)
    exact ⟨_, PySem.W.kitx_dict, ⟨o, h1, h2.1⟩, fun z => nomatch z⟩
theorem ty_rep (T : CtxOk c) {S : Option SA} {F : Hp} {n : Nat} {I H : Hp} {μ : Mu} {d : D} {v : V} {t : TyD} (w : Wd c S F n I μ H) (r : Rep c S I d v) (h : tyD μ d = some t) (he : ∀ n fs ds, d ≠ .err n fs ds) : ∃ u, TyV c t u ∧ TyZ c.K H v u := by
  cases r with
  | none => cases h; exact ⟨_, ⟨rfl, by decide⟩, .inl <| .base .non⟩
  | bool => cases h; exact ⟨_, ⟨rfl, by decide⟩, .inl <| .base (.bl _)⟩
  | int => cases h; exact ⟨_, ⟨rfl, by decide⟩, .inl <| .base (.int _)⟩
  | str => cases h; exact ⟨_, ⟨rfl, by decide⟩, .inl <| .base (.str _)⟩
  | list g r => cases h; exact ⟨_, ⟨rfl, by decide⟩, .inl <| .base (.lst (w.lst g))⟩
  | tup g r =>
    cases h
    refine ⟨_, ⟨rfl, by decide⟩, ?_⟩
    rcases w.tupH g with (g | ⟨o, g⟩) | ⟨o, its, m, g, h2, _⟩
    · exact .inl (.base (.tup g))
    · exact .inl (.fTuple g)
    · exact .inl (.kTuple g h2)
  | dk g r l =>
    cases h
    refine ⟨_, ⟨rfl, by decide⟩, ?_⟩
    rcases w.i _ _ g with z | ⟨_, ob, z⟩
    · exact .inl (.base (.dK z))
    · exact .inl (.fDict z)
  | dt g r l =>
    cases h
    refine ⟨_, ⟨rfl, by decide⟩, ?_⟩
    rcases w.i _ _ g with z | ⟨_, ob, z⟩
    · exact .inl (.base (.dT z))
    · exact .inr ⟨_, _, _, rfl, rfl, z⟩
  | obj g r l hn =>
    cases h
    have hc := T.isi _ hn
    exact ⟨_, ⟨rfl, List.mem_append_left _ hn⟩, .inl <| .base (.ins (w.ins g) hc.cl hc.ha hc.hn hc.htk hc.hm)⟩
  | err => exact absurd rfl (he _ _ _)
  | @cell p =>
    have h' : ndTy (μ p) = some t := h
    cases e : μ p with
    | none =>
      rw [e] at h'
      cases h'
    | some nd =>
      rw [e] at h'
      obtain ⟨_, o, r, hh⟩ := w.m p nd e
      cases r with
      | list r => cases h'; exact ⟨_, ⟨rfl, by decide⟩, .inl <| .base (.lst hh)⟩
      | dk r l => cases h'; exact ⟨_, ⟨rfl, by decide⟩, .inl <| .base (.dK hh)⟩
      | dt r l => cases h'; exact ⟨_, ⟨rfl, by decide⟩, .inl <| .base (.dT hh)⟩
      | obj r l hn =>
        cases h'
        have hc := T.isi _ hn
        exact ⟨_, ⟨rfl, List.mem_append_left _ hn⟩, .inl <| .base (.ins hh hc.cl hc.ha hc.hn hc.htk hc.hm)⟩
  | _ => cases h
theorem Wd.err {S : Option SA} {F : Hp} {n : Nat} {I H : Hp} {μ : Mu} {a : Addr} {cv : Value} {dd : Option Addr} (w : Wd c S F n I μ H) (h : I a = some (ErO a cv dd)) : H a = some (ErO a cv dd) := by
  rcases w.i _ _ h with z | ⟨z, _⟩
  · exact z
  · cases z
theorem Wd.erF {S : Option SA} {F : Hp} {n : Nat} {I H : Hp} {μ : Mu} {dd : Option Addr} {fs : List Str} {xs : List V} (w : Wd c S F n I μ H) (h : ErF I dd fs xs) : ErF H dd fs xs := by
  refine ⟨h.1, ?_⟩
  rcases h.2 with z | ⟨dx, z1, z2⟩
  · exact .inl z
  · rcases w.i _ _ z2 with z | ⟨z, _⟩
    · exact .inr ⟨dx, z1, z⟩
    · cases z
theorem isi1_kit (T : CtxOk c) {S : Option SA} {I : Hp} {t : TyD} {u : Value} {y : D} {v : V} {b : Bool} (ht : TyV c t u) (r : Rep c S I y v) (h : isi1 t y = some b) : ∃ k, ClsV v k ∧ PySem.W.kitOne c.K u k = some b := by
  cases r with
  | ty hn =>
    refine ⟨_, .ty _, ?_⟩
    cases t with
    | b a =>
      obtain ⟨rfl, _⟩ := ht
      exact kit_ty h
    | o n =>
      obtain ⟨rfl, hm⟩ := ht
      rw [T.ct _ hm _ hn]
      exact h
  | cls hn =>
    refine ⟨_, .own _, ?_⟩
    cases t with
    | b a =>
      obtain ⟨rfl, hm⟩ := ht
      rw [T.tc _ hm _ hn]
      exact h
    | o n =>
      obtain ⟨rfl, hm⟩ := ht
      rw [T.cc _ hm _ hn]
      exact h
  | _ => cases h
theorem isiN_kit (T : CtxOk c) {S : Option SA} {I : Hp} {t : TyD} {u : Value} (ht : TyV c t u) : ∀ {ys : List D} {vs : List V} {b : Bool}, Reps c S I ys vs → isiN t ys = some b → ∃ ks, Paired ClsV vs ks ∧ PySem.W.kitAny c.K u ks = some b
  | _, _, _, .nil, h => by
    cases h
    exact ⟨[], .nil, rfl⟩
  | y :: ys, _, b, .cons r rs, h => by
    rw [isiN] at h
    split at h
    · rename_i b1 b2 e1 e2
      cases h
      obtain ⟨k, h1, h2⟩ := isi1_kit T ht r e1
      obtain ⟨ks, p, q⟩ := isiN_kit T ht rs e2
      refine ⟨k :: ks, .cons h1 p, kitAny_cons h2 (fun z => ?_) fun z => ?_⟩
      · rw [z]
        exact q
      · rw [z]
        rfl
    · cases h
theorem isiN_tup (T : CtxOk c) {S : Option SA} {I : Hp} {t : TyD} {u : Value} {ys : List D} {v : V} {b : Bool} (ht : TyV c t u) (r : Rep c S I (.tup ys) v) (h : isiN t ys = some b) : ∃ a xs ks, v = .ref a ∧ TupA c.K I a xs ∧ Paired ClsV xs ks ∧ PySem.W.kitAny c.K u ks = some b := by
  cases r with
  | tup g r =>
    obtain ⟨ks, p, q⟩ := isiN_kit T ht r h
    exact ⟨_, _, ks, rfl, g, p, q⟩
/-- isinstance, any value that is known, a class or a tuple of them -/
theorem call_isiW (T : CtxOk c) {pins : List (Addr × Obj)} {s : Shared} {σ σ' : L2.St} {H : Hp} {xs : List V} {us : List Value} {Q : VK} (hK : X.K = c.K) (J : Inv X pins σ H s) (rv : Vals xs us) (h : ldC c W 0 cbIsi σ' xs H Q) : wpAny (model X.prog X.w) X.A (call (.builtin "isinstance") us) (EP X pins σ Q) X.xe s := by
  obtain ⟨K, cl, tb, ns, es0⟩ := c
  cases hK
  obtain ⟨S, F, n, I, μ, ds, Qd, Xd, hl, w, rs, h, q, _⟩ := h
  obtain ⟨x, y, rfl, g⟩ := two_cases h
  obtain ⟨v, u, rfl, rx, ry⟩ := reps2 rs
  obtain ⟨v1, v2, rfl, r1, r2⟩ := vals2 rv
  clear h rs rv
  split at g
  · rename_i t et
    split at g
    · rename_i b eb
      have fin : ∀ tk, EP X pins σ Q (.bool b) { s with toks := tk } := fun tk => ⟨.bl b, H, J.tok tk, rfl, q _ μ _ I H g (Same.refl I) w .bool⟩
      -- the type of x, as isinstance asks it
      have ask : ∃ z, TyV ⟨X.K, cl, tb, ns, es0⟩ t z ∧ ∃ P : Heap → Prop, PySem.W.KitX X.K v1 z P ∧ P s.heap ∧ v1 ≠ .builtin "__main__.__loader__#opaque" := by
        by_cases he : ∃ n fs ds, x = .err n fs ds
        · obtain ⟨m, fs, es, rfl⟩ := he
          cases et
          cases rx with
          | err g1 g2 g3 hn =>
            obtain ⟨oe, od, ins, _⟩ := inst_err (C := cl m) (fs := fs) J (w.err g1) (w.erF g2)
            cases r1
            exact ⟨_, ⟨rfl, List.mem_append_right _ hn⟩, _, kitx_err (T.exc m hn), ⟨oe, od, ins⟩, fun z => nomatch z⟩
        · obtain ⟨z, h1, h2⟩ := ty_rep T w rx et fun n fs ds e => he ⟨n, fs, ds, e⟩
          exact ⟨z, h1, kitZ_of J r1 h2⟩
      obtain ⟨z, tz, P, Z, p, hx⟩ := ask
      unfold isiD at eb
      split at eb
      · obtain ⟨a, xs, ks, rfl, gt, pk, ek⟩ := isiN_tup T tz ry eb
        cases (show v2 = Value.ref a from r2)
        obtain ⟨its, rv, ht, hz⟩ := J.tuple (w.tupH gt)
        have e3 := ClsV.all pk rv
        subst e3
        obtain ⟨⟨oc, od, dt, sl⟩, h1, h2, m, h3⟩ := ht
        dsimp only at h2 h3
        subst h2 h3
        exact PySem.W.kia_tup Z J.kIn p h1 ek hx fin
      · obtain ⟨k, ck, ek⟩ := isi1_kit T tz ry eb
        have e2 := ck.eq r2
        subst e2
        exact PySem.W.kia_one Z J.kIn p ek hx fin
    · exact g.elim
  · exact g.elim
theorem w_isi (T : CtxOk c) (hK : X.K = c.K := by rfl) : CbW X c (.builtin "isinstance") cbIsi := ⟨fun xs H Q => ∃ W σ, ldC c W 0 cbIsi σ xs H Q, fun pins s σ H xs us Q J rv ⟨W, σ', h⟩ => call_isiW T hK J rv h, fun W σ xs H Q h => ⟨W, σ, h⟩⟩
end
/-! ### in -/
def flatD : D → Bool
  | .none => true
  | .bool _ => true
  | .int _ => true
  | .str _ => true
  | _ => false
/-- == of flat data -/
def eqF : D → D → Bool
  | .none, .none => true
  | .bool a, .bool b => a == b
  | .bool a, .int j => (if a then 1 else 0) == j
  | .int i, .bool b => i == (if b then 1 else 0)
  | .int i, .int j => i == j
  | .str a, .str b => a == b
  | _, _ => false
def vF : D → V
  | .bool b => .bl b
  | .int i => .int i
  | .str s => .str s
  | _ => .non
theorem rep_flat {c : Ctx} {S : Option SA} {I : Hp} {d : D} {v : V} (r : Rep c S I d v) (h : flatD d = true) : v = vF d ∧ flatV v = true := by
  cases r <;> first | exact ⟨rfl, rfl⟩ | cases h
theorem reps_flat {c : Ctx} {S : Option SA} {I : Hp} : ∀ {ds : List D} {vs : List V}, Reps c S I ds vs → ds.all flatD = true → vs = ds.map vF ∧ vs.all flatV = true
  | _, _, .nil, _ => ⟨rfl, rfl⟩
  | _, _, .cons r rs, h => by
    rw [List.all_cons, Bool.and_eq_true] at h
    obtain ⟨h1, h2⟩ := rep_flat r h.1
    obtain ⟨h3, h4⟩ := reps_flat rs h.2
    exact ⟨by rw [h1, h3, List.map_cons], by rw [List.all_cons, h2, h4]; rfl⟩
def inF (x : D) (ds : List D) : Bool := ds.any fun y => eqF y x
theorem eqF_eqV {a b : D} (ha : flatD a = true) (hb : flatD b = true) : eqV (vF a) (vF b) = eqF a b := by
  cases a <;> cases b <;> first | rfl | (simp [flatD] at ha; done) | (simp [flatD] at hb; done)
theorem inF_inV {x : D} {ds : List D} (hx : flatD x = true) (hd : ds.all flatD = true) : inV (vF x) (ds.map vF) = inF x ds := by
  unfold inV inF
  induction ds with
  | nil => rfl
  | cons d ds ih =>
    rw [List.all_cons, Bool.and_eq_true] at hd
    rw [List.map_cons, List.any_cons, List.any_cons, ih hd.2, eqF_eqV hd.1 hx]
def oIn (neg : Bool) : WOp := fun x y μ Q _ => match sqD μ y with
  | some ds => flatD x = true ∧ ds.all flatD = true ∧ Q (.v (.bool (if neg then !inF x ds else inF x ds))) μ
  | Option.none => False
section
variable {X : Cx} {c : Ctx} {W : WX}
theorem ld_in {neg : Bool} {σ : L2.St} {x y : V} {H : Hp} {Q : VK} (h : ld2 c W 0 (oIn neg) σ x y H Q) : rIn c.K neg x y H Q := by
  obtain ⟨S, F, n, I, μ, dx, dy, Qd, Xd, hl, w, rx, ry, h, q, _⟩ := h
  unfold oIn at h
  split at h
  · rename_i ds e
    obtain ⟨l, xs, rfl, h1, r1⟩ := sqD_rep w ry e
    obtain ⟨e1, f1⟩ := rep_flat rx h.1
    obtain ⟨e2, f2⟩ := reps_flat r1 h.2.1
    refine ⟨l, xs, rfl, h1, f1, f2, ?_⟩
    rw [e1, e2, inF_inV h.1 h.2.1]
    exact q _ μ _ I H h.2.2 (Same.refl I) w .bool
  · exact h.elim
theorem w_in (hK : X.K = c.K := by rfl) : Op2 X c W 0 (compareOp .In) (oIn false) := by
  obtain ⟨K, cl, tb, ns, es0⟩ := c
  cases hK
  exact op2_of op_in_seq fun σ x y H Q h => ld_in h
end
/-! ### repr of plain data -/
structure Sh (L k : Nat) (p : PyData) : Prop where
  len : p.shown.length ≤ L
  dep : p.depth ≤ k
  can : p.showable = true
  nod : p.hasDict = false
section
variable {X : Cx} {c : Ctx} {W : WX}
end
/-! ### a field of an error -/
def wErrF (f : Str) (r : WE) : WE := fun e μ Q X => r e μ (fun x μ1 => match x with
  | .err _ fs ds => (match fldD f fs ds with
    | some d => Q d μ1
    | Option.none => False)
  | _ => False) X
section
variable {X : Cx} {c : Ctx} {W : WX} {ko : Nat} {o : Expr} {wo : WE} {m : Str} {pos : Pos}
end
end DL

set_option Elab.async false
set_option linter.all false
set_option maxRecDepth 100000
set_option maxHeartbeats 4000000
/-! A7: the law's own state of draws. -/
namespace DL
open PySem PyProof.Rows L2
variable [Gds]
def rAbs : List V → Hp → VK → Prop := fun xs H Q => ∃ i, xs = [.int i] ∧ Q (.int (if i < 0 then -i else i)) H
def rInt1 : List V → Hp → VK → Prop := fun xs H Q => (∃ i, xs = [.int i] ∧ Q (.int i) H) ∨ ∃ k, xs = [.bl k] ∧ Q (.int (if k then 1 else 0)) H
theorem call_absG {X : Cx} : CallR X (.builtin "abs") rAbs := call_abs
theorem call_intG {X : Cx} : CallR X (.type "int") rInt1 := call_int1
theorem pds_ints : ∀ ns : List Int, pds (ns.map D.int) = ns.map PyData.int
  | [] => rfl
  | n :: ns => by rw [List.map_cons, pds, pd, pds_ints ns]; rfl
theorem plains_ints : ∀ ns : List Int, plainsD (ns.map D.int) = true
  | [] => rfl
  | n :: ns => by rw [List.map_cons, plainsD, plainD, plains_ints ns]; rfl
theorem eqvAll_ints : ∀ ns ms : List Int, PyData.eqvAll (ns.map PyData.int) (ms.map PyData.int) = decide (ns = ms)
  | [], [] => rfl
  | [], _ :: _ => rfl
  | _ :: _, [] => rfl
  | n :: ns, m :: ms => by
    rw [List.map_cons, List.map_cons, PyData.eqvAll, PyData.eqv, eqvAll_ints ns ms]
    by_cases h : n = m
    · subst h
      by_cases h2 : ns = ms
      · subst h2
        simp
      · simp [h2]
    · simp [h]
theorem canLay_ints : ∀ ns : List Int, PyData.canLayAll0 (ns.map PyData.int) = true
  | [] => rfl
  | n :: ns => by rw [List.map_cons, PyData.canLayAll0, PyData.canLay0, canLay_ints ns]; rfl
theorem depth_ints : ∀ ns : List Int, PyData.depthAll (ns.map PyData.int) = 0
  | [] => rfl
  | n :: ns => by
    rw [List.map_cons, PyData.depthAll, depth_ints ns]
    rfl
theorem shaped_ints (ns : List Int) : SeqAt.shaped (pd (.list (ns.map D.int))) = true := by
  rw [pd, pds_ints]
  unfold SeqAt.shaped
  rw [PyData.canLay0, canLay_ints, PyData.depth, depth_ints]
  rfl
theorem shaped_intsT (ns : List Int) : SeqAt.shaped (pd (.tup (ns.map D.int))) = true := by
  rw [pd, pds_ints]
  unfold SeqAt.shaped
  rw [PyData.canLay0, canLay_ints, PyData.depth, depth_ints]
  rfl
/-- f(a, ..) where nothing is raised -/
theorem pe_callW0 {X : Cx} {k : Nat} {f : Addr} {fd : FuncData} {ps : List Str} {sp : Sp} {x : Str} {p pos : Pos} {e : Expr} {es : List Expr} {t : TA} (G : FnW X.prog X.w X.K X.mg X.base k f fd ps sp) (gd : Gds.ok X.A) (room : Room k X.A) (gl : Gl X x) (hm : X.mg x = some (.ref f)) (kp : PySem.W.keepIn X.K (.ref f) = true) (bi : Binds X.K fd ps [])
    (ha : PA X (e :: es) t) (hdb : (x == ("__debug__" : Str)) = false := by decide) (he : starEach (e :: es) X.env = (false, eval e X.env) :: starEach es X.env := by rfl) (hpl : (backTo pos (starEach es X.env)).any (·.1) = false := by rfl) :
    PE X (.Call (.Name x p) (e :: es) [] pos) (tCall sp [] E0 t) := ⟨fun pins s σ H Q J h => wpAny_Call_Name_kw (ld_glob J gl hm (PySem.W.callWith_K (h₀ := X.base) J.ok.mod.kin kp (thn (ha.run pos pins s σ H _ J h) fun us s1 ⟨vs, H1, J1, r1, q1⟩ => ⟨J1.kIn, run_fnW (W := W0) (dvs := []) G gd room bi .nil (fun u s' z => by
      obtain ⟨_, _, _, _, _, _, _, _, _, _, _, _, _, _, _, _, z⟩ := z
      exact z.elim) J1 r1 q1⟩) he hpl) hdb)⟩
def stD (l k : Addr) (r t : Int) : List (Key × V) := [(Sum.inr "wide", .ref l), (Sum.inr "cells", .ref k), (Sum.inr "rest", .int r), (Sum.inr "turn", .int t)]
theorem st_wide (l k : Addr) (r t : Int) : valV (stD l k r t) (Sum.inr "wide") = some (.ref l) := rfl
theorem st_cells (l k : Addr) (r t : Int) : valV (stD l k r t) (Sum.inr "cells") = some (.ref k) := rfl
theorem st_rest (l k : Addr) (r t : Int) : valV (stD l k r t) (Sum.inr "rest") = some (.int r) := rfl
theorem st_turn (l k : Addr) (r t : Int) : valV (stD l k r t) (Sum.inr "turn") = some (.int t) := rfl
theorem put_rest (l k : Addr) (r t r' : Int) : putK (stD l k r t) (Sum.inr "rest") (.int r') = stD l k r' t := rfl
theorem put_turn (l k : Addr) (r t t' : Int) : putK (stD l k r t) (Sum.inr "turn") (.int t') = stD l k r t' := rfl

theorem tabs_upd {T : List (Addr × Str)} {H : Hp} {x : Addr} {o u : HO} (h : LamX.Tabs T H) (hx : H x = some o) (ho : notTX o) : LamX.Tabs T (upd H x u) := by
  refine tabs_keep h (fun p hp => upd_ne fun z => ?_) fun b φ e => ?_
  · obtain ⟨ps, h1, _⟩ := h p hp
    rw [z, hx] at h1
    cases h1
    exact ho
  · rw [upd_ne fun z => ?_]
    · exact e
    · rw [z, hx] at e
      cases e
      exact ho
/-- the state's own cells change -/
theorem Wd.st {c : Ctx} {s : SA} {F : Hp} {n m : Nat} {I H H' : Hp} {μ : Mu} (w : Wd c (some s) F n I μ H) (h : StOk s m H') (k : ∀ b o, b ≠ s.d → b ≠ s.l → b ≠ s.k → H b = some o → H' b = some o) : Wd c (some s) F m I μ H' := by
  have ne : ∀ {b : Addr}, (Cell s b → False) → b ≠ s.d ∧ b ≠ s.l ∧ b ≠ s.k := fun {b} hb => ⟨fun e => hb (.inl (.inl e)), fun e => hb (.inl (.inr (.inl e))), fun e => hb (.inl (.inr (.inr e)))⟩
  have nI : ∀ {b : Addr} {o : HO}, I b = some o → Cell s b → False := fun {b o} e q => by
    rw [((w.s s rfl).2 b q).1] at e
    cases e
  have nM : ∀ {b : Addr} {o : Nd}, μ b = some o → Cell s b → False := fun {b o} e q => by
    rw [((w.s s rfl).2 b q).2] at e
    cases e
  refine ⟨fun b o e => ?_, fun b nd e => ?_, fun a e => ?_, w.ni, fun b o e => ?_, w.z⟩
  · obtain ⟨n1, n2, n3⟩ := ne (nI e)
    rcases w.i b o e with z | ⟨z, ob, z2⟩
    · exact .inl (k b o n1 n2 n3 z)
    · exact .inr ⟨z, ob, k b _ n1 n2 n3 z2⟩
  · obtain ⟨n1, n2, n3⟩ := ne (nM e)
    obtain ⟨h1, o, h2, h3⟩ := w.m b nd e
    exact ⟨h1, o, h2, k b _ n1 n2 n3 h3⟩
  · cases e
    exact ⟨h, (w.s s rfl).2⟩
  · obtain ⟨h1, hL⟩ := w.f b o e
    obtain ⟨n1, n2, n3⟩ := ne (b := b) (by
      rcases hL with ⟨_, _, _, h5⟩ | ⟨ob, u, _, _, h3⟩
      · exact h5 s rfl
      · exact nI h3)
    exact ⟨k b _ n1 n2 n3 h1, hL⟩
/-- one more long number -/
def wp_law_mixed : WP := fun ds μ Q _ => match ds with
  | [.state] => ∀ i, Q (.int i) μ
  | _ => False
abbrev rd_law_mixed (c : Ctx) : TS := (tSeq (tPar 1 2 (tCons (tOp (rI0 fun i j => .int (i + j)) (tDGet (tVar 0) (tC (.str "turn"))) (tC (.int 1))) (tCons (tC (.int 0)) tNil)))
    (tSeq (sDPut (tVar 0) (tC (.str "turn")) (tVar 1))
    (tSeq (tFor (iList c.K (tLst (tCons (tC (.int 2147483629)) (tCons (tC (.int 2147483587)) (tCons (tC (.int 2147483579)) (tCons (tC (.int 2147483563)) tNil)))))) (gName 3) (tSeq (tAsg (tOp (rI0 fun i j => .int (i + j)) (tOp (rI CMul fun i j => .int (i * j)) (tC (.int 49999)) (tVar 1)) (tOp (rI CDiv fun i j => .int (i / j)) (tVar 3) (tC (.int 23)))) (gName 4))
    (tSeq (tFor (iList c.K (tDGet (tVar 0) (tC (.str "cells")))) (gName 5) (tAsg (tOp (rI (fun _ j => 0 < j) fun i j => .int (i % j)) (tCB rInt1 (tCons (tOp (rI0 fun i j => .int (i + j)) (tOp (rI0 fun i j => .int (i + j)) (tOp (rI CMul fun i j => .int (i * j)) (tVar 4) (tC (.int 48271))) (tVar 5)) (tVar 1)) tNil)) (tVar 3)) (gName 4)))
    (tAsg (tOp (rI0 fun i j => .int (i + j)) (tOp (rI CMul fun i j => .int (i * j)) (tVar 2) (tC (.int 2147483647))) (tOp (rI (fun _ j => 0 < j) fun i j => .int (i % j)) (tCB rInt1 (tCons (tOp (rI CPowW fun i j => .int (i ^ j.toNat)) (tVar 4) (tC (.int 5))) tNil)) (tVar 3))) (gName 2)))))
    (tRet (tVar 2)))))
def primes : List Int := [2147483629, 2147483587, 2147483579, 2147483563]
theorem primes_ok : ∀ p ∈ primes, 0 < p ∧ p < 2147483648 := by decide
theorem DGet.st {H : Hp} {s : SA} {r t : Int} {key : Str} {v : V} (h : H s.d = some (.dK (stD s.l s.k r t))) (e : valV (stD s.l s.k r t) (Sum.inr key) = some v) : DGet H s.d (.str key) (some v) := by
  rw [← e]
  exact DGet.k (k := Sum.inr key) h
theorem pow5 {b : Int} (h : b.natAbs < 2 ^ 20100) : (Builtin.Int.intBits b : Int) * 5 ≤ 2 ^ 27 := by
  have := intBits_le h
  omega
theorem run_mixed {c : Ctx} {N : List Str} (hN : N.length = 6) {vs : List V} {H : Hp} {Q : VK} {Ex : XK} (hs : SpW c wp_law_mixed 1 vs H Q Ex) : rd_law_mixed c { nx := fun _ H' => Q .non H', rt := Q } (L2.start N vs) H := by
  obtain ⟨S, F, n, I, μ, ds, Qd, Xd, hl, w, rs, h, q, _⟩ := hs
  unfold wp_law_mixed at h
  split at h
  case h_2 => exact h.elim
  cases rs with
  | cons r1 r2 =>
    cases r2
    cases r1 with
    | @state s hS hTB =>
      subst hS
      obtain ⟨htb, hlk, ws, cs, r, t, hd, hw, hk, hwl, hcl, ht0, htn⟩ := (w.s s rfl).1
      have est : L2.start N [V.ref s.d] = [some (V.ref s.d), none, none, none, none, none] := by
        unfold L2.start
        rw [hN]
        rfl
      rw [est]
      -- turn = state["turn"] + 1, found = 0
      refine ⟨_, rfl, s.d, .int t, rfl, DGet.st hd (st_turn _ _ _ _), t, 1, rfl, rfl, ?_⟩
      refine ⟨_, _, rfl, ?_⟩
      -- state["turn"] = turn
      refine ⟨_, rfl, _, rfl, s.d, _, rfl, DPut.k (k := Sum.inr "turn") hd (by show 4 < sizeLine; decide), ?_⟩
      have ndl : s.l ≠ s.d := fun z => by
        rw [z, hd] at hw
        cases hw
      have ndk : s.k ≠ s.d := fun z => by
        rw [z, hd] at hk
        cases hk
      have w1 : Wd c (some s) F (n + 1) I μ (upd H s.d (.dK (stD s.l s.k r (t + 1)))) := by
        refine w.st ⟨tabs_upd htb hd trivial, hlk, ws, cs, r, t + 1, upd_same, by rw [upd_ne ndl]; exact hw, by rw [upd_ne ndk]; exact hk, hwl, hcl, by omega, by push_cast; omega⟩ fun b o h1 h2 h3 e => ?_
        rw [upd_ne h1]
        exact e
      show tSeq _ _ _ _ (upd H s.d (.dK (putK (stD s.l s.k r t) (Sum.inr "turn") (.int (t + 1)))))
      rw [put_turn]
      generalize upd H s.d (.dK (stD s.l s.k r (t + 1))) = H1 at w1
      -- for prime in [..]
      refine ⟨by show 4 ≤ sizeLine; decide, fun l0 hl0 => ⟨l0, rfl, ⟨_, SqL.of upd_same⟩, ?_⟩⟩
      have f0 := w1.nf hl0
      have w2 : Wd c (some s) (upd F l0 (.lst (primes.map V.int))) (n + 1) I μ (upd H1 l0 (.lst (primes.map V.int))) := (w1.frame hl0).leave upd_same (w1.fresh hl0).1 (w1.fresh hl0).2 trivial (w1.no_cell hl0)
      refine for_list (K := c.K) (a := l0) (xs := primes.map V.int) (fun i σ H' => ∃ (f : Int) (p b cl : Option V), σ = [some (V.ref s.d), some (V.int (t + 1)), some (V.int f), p, b, cl] ∧ Wd c (some s) (upd F l0 (.lst (primes.map V.int))) (n + 1) I μ H')
        ⟨0, _, _, _, rfl, w2⟩ (fun i σ H' _ ⟨_, _, _, _, _, w'⟩ => SqL.of (w'.f _ _ upd_same).1) ?_ ?_
      · rintro i x σ H' hx ⟨f, p, b, cl, rfl, w'⟩
        have hxm : x ∈ primes.map V.int := List.mem_of_getElem? hx
        obtain ⟨pr, hpr, rfl⟩ := List.mem_map.mp hxm
        obtain ⟨hp0, hp1⟩ := primes_ok pr hpr
        obtain ⟨htb', hlk', ws', cs', r', t', hd', hw', hk', hwl', hcl', ht0', htn'⟩ := (w'.s s rfl).1
        -- blend = 49999 * turn + prime // 23
        refine ⟨_, rfl, 49999, t + 1, rfl, rfl, .inl ⟨by decide, by decide⟩, ?_⟩
        refine ⟨_, rfl, pr, 23, rfl, rfl, ⟨by decide, by decide⟩, _, _, rfl, rfl, ?_⟩
        -- for cell in state["cells"]
        refine ⟨_, rfl, s.d, _, rfl, DGet.st hd' (st_cells _ _ _ _), s.k, rfl, ⟨_, SqL.of hk'⟩, ?_⟩
        refine for_list (K := c.K) (a := s.k) (xs := cs'.map V.int) (fun j σ2 H2 => ∃ (bl : Int) (cl2 : Option V), σ2 = [some (V.ref s.d), some (V.int (t + 1)), some (V.int f), some (V.int pr), some (V.int bl), cl2] ∧ H2 = H' ∧ bl.natAbs < 2 ^ 20100)
          ⟨_, cl, rfl, rfl, ?_⟩ (fun j σ2 H2 _ ⟨_, _, _, e, _⟩ => by rw [e]; exact SqL.of hk') ?_ ?_
        · have h23 : 0 ≤ pr / 23 ∧ pr / 23 < 2147483648 := by omega
          have e1 : (49999 * (t + 1) + pr / 23).natAbs ≤ 49999 * LIM + 2147483648 := by omega
          refine Nat.lt_of_le_of_lt e1 ?_
          unfold LIM
          decide +kernel
        · rintro j x σ2 H2 hx2 ⟨bl, cl2, rfl, rfl, hbl⟩
          obtain ⟨cv, hcv, rfl⟩ := List.mem_map.mp (List.mem_of_getElem? hx2)
          refine ⟨_, rfl, bl, 48271, rfl, rfl, .inr ⟨by decide, by decide⟩, ?_⟩
          refine ⟨_, rfl, _, _, rfl, rfl, _, rfl, _, _, rfl, rfl, .inl ⟨_, rfl, _, rfl, _, _, rfl, rfl, hp0, ?_⟩⟩
          refine ⟨_, _, rfl, rfl, ?_⟩
          have h1 := Int.emod_nonneg (bl * 48271 + cv + (t + 1)) (show pr ≠ 0 by omega)
          have h2 := Int.emod_lt_of_pos (bl * 48271 + cv + (t + 1)) hp0
          refine Nat.lt_of_lt_of_le (m := 2 ^ 31) (by omega) (Nat.pow_le_pow_right (by decide) (by decide))
        · rintro σ2 H2 ⟨bl, cl2, rfl, rfl, hbl⟩
          refine ⟨_, rfl, f, 2147483647, rfl, rfl, .inr ⟨by decide, by decide⟩, ?_⟩
          refine ⟨_, rfl, bl, 5, rfl, rfl, ⟨by decide, pow5 hbl⟩, .inl ⟨_, rfl, _, rfl, _, _, rfl, rfl, hp0, _, _, rfl, rfl, ?_⟩⟩
          exact ⟨_, _, _, _, rfl, w'⟩
      · rintro σ H' ⟨f, p, b, cl, rfl, w'⟩
        exact ⟨_, rfl, q (.int f) μ _ I H' (h f) (Same.refl I) (w'.less fun b o e => by rw [upd_ne (ne_of_none e f0)]; exact e) .int⟩
/-! ### a draw -/
def wp_law_take : WP := fun ds μ Q _ => match ds with
  | [.state, .int m] => (0 < m ∧ m.natAbs.log2 < 9000) ∧ ∀ i, 0 ≤ i → i < m → Q (.int i) μ
  | _ => False
abbrev rd_law_take (c : Ctx) : TS := (tSeq (tIfS (tTest (tOp rEq (tDGet (tVar 0) (tC (.str "rest"))) (tC (.int 0)))) (sDPut (tVar 0) (tC (.str "rest")) (tIf (tTest (tOp (rNeD c.K) (tDGet (tVar 0) (tC (.str "wide"))) (tLst tNil))) (tBM c.K "list" rPopAt (tDGet (tVar 0) (tC (.str "wide"))) (tCons (tC (.int 0)) tNil)) (tCall (SpW c wp_law_mixed 1) [] E0 (tCons (tVar 0) tNil)))) tNext)
    (tSeq (tAsg (tOp (rI (fun _ j => 0 < j) fun i j => .int (i % j)) (tCB rInt1 (tCons (tDGet (tVar 0) (tC (.str "rest"))) tNil)) (tVar 1)) (gName 2))
    (tSeq (sDPut (tVar 0) (tC (.str "rest")) (tOp (rI CDivW fun i j => .int (i / j)) (tDGet (tVar 0) (tC (.str "rest"))) (tVar 1)))
    (tRet (tVar 2)))))
theorem seq0 (n : Nat) : seqIndex? 0 (n + 1) = some 0 := by
  unfold seqIndex?
  simp
theorem run_take {c : Ctx} {N : List Str} (hN : N.length = 3) {vs : List V} {H : Hp} {Q : VK} {Ex : XK} (hs : SpW c wp_law_take 1 vs H Q Ex) : rd_law_take c { nx := fun _ H' => Q .non H', rt := Q } (L2.start N vs) H := by
  obtain ⟨S, F, n, I, μ, ds, Qd, Xd, hl, w, rs, h, q, _⟩ := hs
  unfold wp_law_take at h
  split at h
  case h_2 => exact h.elim
  rename_i m
  obtain ⟨⟨hm0, hm1⟩, h⟩ := h
  cases rs with
  | cons r1 r2 =>
    cases r2 with
    | cons r2 r3 =>
      cases r3
      cases r2
      cases r1 with
      | @state s hS hTB =>
        subst hS
        have est : L2.start N [V.ref s.d, V.int m] = [some (V.ref s.d), some (V.int m), none] := by
          unfold L2.start
          rw [hN]
          rfl
        rw [est]
        -- what follows the if
        have rest : ∀ I2 H', Same I I2 → Wd c (some s) F (n + 1) I2 μ H' → tSeq (tAsg (tOp (rI (fun _ j => 0 < j) fun i j => .int (i % j)) (tCB rInt1 (tCons (tDGet (tVar 0) (tC (.str "rest"))) tNil)) (tVar 1)) (gName 2))
            (tSeq (sDPut (tVar 0) (tC (.str "rest")) (tOp (rI CDivW fun i j => .int (i / j)) (tDGet (tVar 0) (tC (.str "rest"))) (tVar 1)))
            (tRet (tVar 2))) { nx := fun _ H' => Q .non H', rt := Q } [some (V.ref s.d), some (V.int m), none] H' := fun I2 H' sm0 w' => by
          obtain ⟨htb, hlk, ws, cs, r, t, hd, hw, hk, hwl, hcl, ht0, htn⟩ := (w'.s s rfl).1
          refine ⟨_, rfl, s.d, _, rfl, DGet.st hd (st_rest _ _ _ _), .inl ⟨r, rfl, _, rfl, r, m, rfl, rfl, hm0, ?_⟩⟩
          refine ⟨_, rfl, s.d, _, rfl, DGet.st hd (st_rest _ _ _ _), _, rfl, r, m, rfl, rfl, ⟨hm0, hm1⟩, _, rfl, s.d, _, rfl, DPut.k (k := Sum.inr "rest") hd (by show 4 < sizeLine; decide), ?_⟩
          have ndl : s.l ≠ s.d := fun z => by
            rw [z, hd] at hw
            cases hw
          have ndk : s.k ≠ s.d := fun z => by
            rw [z, hd] at hk
            cases hk
          refine ⟨_, rfl, q (.int (r % m)) μ _ I2 _ (h _ (Int.emod_nonneg _ (by omega)) (Int.emod_lt_of_pos _ hm0)) sm0 ?_ .int⟩
          show Wd c (some s) F (n + 1) I2 μ (upd H' s.d (.dK (putK (stD s.l s.k r t) (Sum.inr "rest") (.int (r / m)))))
          rw [put_rest]
          refine w'.st ⟨tabs_upd htb hd trivial, hlk, ws, cs, r / m, t, upd_same, by rw [upd_ne ndl]; exact hw, by rw [upd_ne ndk]; exact hk, hwl, hcl, ht0, htn⟩ fun b o h1 h2 h3 e => ?_
          rw [upd_ne h1]
          exact e
        obtain ⟨htb, hlk, ws, cs, r, t, hd, hw, hk, hwl, hcl, ht0, htn⟩ := (w.s s rfl).1
        refine ⟨_, rfl, s.d, _, rfl, DGet.st hd (st_rest _ _ _ _), rfl, _, rfl, ?_⟩
        refine ite2 (fun _ => ?_) (fun _ => rest I H (Same.refl I) (w.up (by omega)))
        -- a new rest
        have ndl : s.l ≠ s.d := fun z => by
          rw [z, hd] at hw
          cases hw
        have ndk : s.k ≠ s.d := fun z => by
          rw [z, hd] at hk
          cases hk
        have store : ∀ (v : Int) I2 H', Wd c (some s) F (n + 1) I2 μ H' → ∃ a H4, V.ref s.d = .ref a ∧ DPut H' a (.str "rest") (.int v) H4 ∧ Wd c (some s) F (n + 1) I2 μ H4 := fun v I2 H' w' => by
          obtain ⟨htb, hlk, ws, cs, r, t, hd, hw, hk, hwl, hcl, ht0, htn⟩ := (w'.s s rfl).1
          refine ⟨s.d, _, rfl, DPut.k (k := Sum.inr "rest") hd (by show 4 < sizeLine; decide), ?_⟩
          show Wd c (some s) F (n + 1) I2 μ (upd H' s.d (.dK (putK (stD s.l s.k r t) (Sum.inr "rest") (.int v))))
          rw [put_rest]
          have ndl : s.l ≠ s.d := fun z => by
            rw [z, hd] at hw
            cases hw
          have ndk : s.k ≠ s.d := fun z => by
            rw [z, hd] at hk
            cases hk
          refine w'.st ⟨tabs_upd htb hd trivial, hlk, ws, cs, v, t, upd_same, by rw [upd_ne ndl]; exact hw, by rw [upd_ne ndk]; exact hk, hwl, hcl, ht0, htn⟩ fun b o h1 h2 h3 e => ?_
          rw [upd_ne h1]
          exact e
        refine ⟨_, rfl, s.d, _, rfl, DGet.st hd (st_wide _ _ _ _), Nat.zero_le _, fun p hp => ?_⟩
        have hpl : s.l ≠ p := ne_of_none hw hp
        have hw' : upd H p (.lst []) s.l = some (.lst (ws.map V.int)) := by rw [upd_ne hpl]; exact hw
        have hd' : upd H p (.lst []) s.d = some (.dK (stD s.l s.k r t)) := by rw [upd_ne (ne_of_none hd hp)]; exact hd
        have hk' : upd H p (.lst []) s.k = some (.lst (cs.map V.int)) := by rw [upd_ne (ne_of_none hk hp)]; exact hk
        have w2 : Wd c (some s) F n I μ (upd H p (.lst [])) := w.frame hp
        have dpw : ∀ (xs : List Int) (b : Addr), upd H p (.lst []) b = some (.lst (xs.map V.int)) → Dp c.K (upd H p (.lst [])) (.ref b) (.list (xs.map PyData.int)) := fun xs b hb => by
          refine .lst (SqL.of hb) ?_
          clear hb
          induction xs with
          | nil => exact .nil
          | cons x xs ih => exact .cons (.int x) ih
        refine ⟨_, _, dpw ws s.l hw', dpw [] p upd_same, ?_, ?_, _, rfl, ?_⟩
        · have := shaped_ints ws
          rw [pd, pds_ints] at this
          exact this
        · decide +kernel
        · cases ws with
          | nil =>
            refine iteF ?_
            -- by mixing
            refine ⟨_, rfl, ?_⟩
            refine ⟨some s, F, n, I, μ, [.state], fun d μ' => μ' = μ ∧ ∃ i, d = .int i, fun _ _ => False, hl, w2, .cons (.state rfl hTB) .nil, fun i => ⟨rfl, i, rfl⟩, fun d μ' v I' H' ⟨e0, i, hi⟩ sm w3 r3 => ?_, fun _ _ _ _ _ _ z => z.elim⟩
            subst e0 hi
            cases r3
            obtain ⟨a, H4, e1, e2, e3⟩ := store i I' H' w3
            exact ⟨_, rfl, a, H4, e1, e2, rest I' H4 sm e3⟩
          | cons x xs =>
            refine iteT ?_
            refine ⟨_, rfl, s.d, _, rfl, DGet.st hd' (st_wide _ _ _ _), .inl ⟨rfl, _, SqL.of hw'⟩, ?_⟩
            refine ⟨s.l, _, 0, 0, .int x, rfl, rfl, hw', by decide, by decide, ?_, rfl, ?_⟩
            · rw [List.length_map]
              exact seq0 _
            · have w4 : Wd c (some s) F (n + 1) I μ (upd (upd H p (.lst [])) s.l (.lst (xs.map V.int))) := by
                refine w2.st ⟨tabs_upd ((w2.s s rfl).1.1) hw' trivial, hlk, xs, cs, r, t, by rw [upd_ne (Ne.symm ndl)]; exact hd', upd_same, by rw [upd_ne (Ne.symm hlk)]; exact hk', ?_, hcl, ht0, by push_cast; omega⟩ fun b o h1 h2 h3 e => ?_
                · rw [List.length_cons] at hwl
                  omega
                · rw [upd_ne h2]
                  exact e
              obtain ⟨a, H4, e1, e2, e3⟩ := store x I _ w4
              exact ⟨_, rfl, a, H4, e1, e2, rest I H4 (Same.refl I) e3⟩
/-! ### the state's making -/
def sp_law_begun (c : Ctx) : Sp := fun vs H Q _ => ∃ (a : Addr) (ns : List Int), vs = [.ref a] ∧ SqL c.K H a (ns.map V.int) ∧ ns.length ≤ 63 ∧ LamX.Tabs c.tb H ∧
  ∀ (s : SA) H', s.T = c.tb → H s.d = Option.none → H s.l = Option.none → H s.k = Option.none → StOk s 0 H' → Same H H' → Q (.ref s.d) H'
abbrev rd_law_begun (c : Ctx) : TS := (tSeq (tAsg (tLc (iList c.K (tVar 0)) (gName 2) (tTest (tOp (rI0 fun i j => .bl (decide (j ≤ i))) (tCB rAbs (tCons (tVar 2) tNil)) (tOp (rI CPowW fun i j => .int (i ^ j.toNat)) (tC (.int 10)) (tC (.int 18))))) (tOp (rI0 fun i j => .int (i - j)) (tCB rAbs (tCons (tVar 2) tNil)) (tOp (rI CPowW fun i j => .int (i ^ j.toNat)) (tC (.int 10)) (tC (.int 18)))) [2]) (gName 1))
    (tRet (tDisp [((tC (.str "wide")), (tVar 1)), ((tC (.str "cells")), (tLc (iList c.K (tVar 0)) (gName 2) tYes (tOp (rI (fun _ j => 0 < j) fun i j => .int (i % j)) (tCB rInt1 (tCons (tCB rAbs (tCons (tVar 2) tNil)) tNil)) (tC (.int 2147483629))) [2])), ((tC (.str "rest")), (tC (.int 0))), ((tC (.str "turn")), (tC (.int 0)))])))
theorem st_merge (l k : Addr) : mergeK [] (stD l k 0 0) = stD l k 0 0 := rfl
theorem run_begun {c : Ctx} {N : List Str} (hN : N.length = 3) {vs : List V} {H : Hp} {Q : VK} {Ex : XK} (hs : sp_law_begun c vs H Q Ex) : rd_law_begun c { nx := fun _ H' => Q .non H', rt := Q } (L2.start N vs) H := by
  obtain ⟨a, ns, rfl, hS, hl, hT, q⟩ := hs
  have est : L2.start N [V.ref a] = [some (V.ref a), none, none] := by
    unfold L2.start
    rw [hN]
    rfl
  rw [est]
  have get : ∀ {i : Nat} {y : V}, (ns.map V.int)[i]? = some y → ∃ z, y = V.int z := fun {i y} h => by
    obtain ⟨z, _, e⟩ := List.mem_map.mp (List.mem_of_getElem? h)
    exact ⟨z, e.symm⟩
  refine ⟨_, rfl, a, rfl, ⟨_, hS⟩, fun Dw hD => lc_list (K := c.K) (a := a) (xs := ns.map V.int) (fun i H' => Same H H' ∧ ∃ ws : List Int, H' Dw = some (.lst (ws.map V.int)) ∧ ws.length ≤ i) ⟨same_new hD, [], upd_same, Nat.le_refl _⟩ (fun i H' _ p => p.1.seq hS) ?_ ?_⟩
  · rintro i y H' hy ⟨sm, ws, hw, hwl⟩
    obtain ⟨z, rfl⟩ := get hy
    have hil : i < ns.length := by
      have := (List.getElem?_eq_some_iff.mp hy).1
      rw [List.length_map] at this
      exact this
    refine ⟨rfl, _, rfl, z, rfl, 10, 18, rfl, rfl, ⟨by decide, by decide +kernel⟩, _, _, rfl, rfl, _, rfl, ?_⟩
    refine ite2 (fun _ => ?_) (fun _ => ⟨sm, ws, hw, by omega⟩)
    refine ⟨_, rfl, z, rfl, 10, 18, rfl, rfl, ⟨by decide, by decide +kernel⟩, _, _, rfl, rfl, _, hw, ?_, ?_, ws ++ [(if z < 0 then -z else z) - 10 ^ (18 : Int).toNat], ?_, ?_⟩
    · rw [List.length_map]
      exact small1000 (by omega)
    · intro b o e
      rw [upd_ne (ne_of_none e hD)]
      exact sm b o e
    · rw [upd_same, List.map_append]
      rfl
    · rw [List.length_append]
      show ws.length + 1 ≤ i + 1
      omega
  · rintro H1 ⟨sm1, ws, hw, hwl⟩
    rw [List.length_map] at hwl
    intro p hp
    have hpD : Dw ≠ p := ne_of_none hw hp
    have hpH : H p = none := sm1.free hp
    have smp : Same H (upd H1 p (.dK [])) := fun b o e => by
      rw [upd_ne (ne_of_none e hpH)]
      exact sm1 b o e
    refine ⟨_, rfl, _, rfl, a, rfl, ⟨_, smp.seq hS⟩, fun Dc hDc => lc_list (K := c.K) (a := a) (xs := ns.map V.int) (fun i H' => Same (upd H1 p (.dK [])) H' ∧ ∃ cs : List Int, H' Dc = some (.lst (cs.map V.int)) ∧ cs.length ≤ i) ⟨same_new hDc, [], upd_same, Nat.le_refl _⟩ (fun i H' _ p => (smp.trans p.1).seq hS) ?_ ?_⟩
    · rintro i y H' hy ⟨sm, cs, hc, hcl⟩
      obtain ⟨z, rfl⟩ := get hy
      have hil : i < ns.length := by
        have := (List.getElem?_eq_some_iff.mp hy).1
        rw [List.length_map] at this
        exact this
      refine ⟨rfl, ?_⟩
      unfold tYes
      dsimp only
      rw [if_pos rfl]
      refine ⟨_, rfl, z, rfl, .inl ⟨_, rfl, _, _, rfl, rfl, (by show (0 : Int) < 2147483629; decide), _, hc, ?_, ?_, cs ++ [(if z < 0 then -z else z) % 2147483629], ?_, ?_⟩⟩
      · rw [List.length_map]
        exact small1000 (by omega)
      · intro b o e
        rw [upd_ne (ne_of_none e hDc)]
        exact sm b o e
      · rw [upd_same, List.map_append]
        rfl
      · rw [List.length_append]
        show cs.length + 1 ≤ i + 1
        omega
    · rintro H2 ⟨sm2, cs, hc, hcl⟩
      rw [List.length_map] at hcl
      have hDcp : Dc ≠ p := fun z => by
        rw [z, upd_same] at hDc
        cases hDc
      have hDcw : Dw ≠ Dc := fun z => by
        rw [← z, upd_ne hpD, hw] at hDc
        cases hDc
      refine ⟨sm2 _ _ upd_same, stD Dw Dc 0 0, rfl, by show 4 ≤ 15; decide, ?_⟩
      rw [st_merge]
      have hDcH : H Dc = none := smp.free hDc
      have smF : ∀ u, Same H (upd H2 p u) := fun u b o e => by
        rw [upd_ne (ne_of_none e hpH)]
        exact sm2 b o (smp b o e)
      refine q ⟨p, Dw, Dc, c.tb⟩ _ rfl hpH hD hDcH ⟨hT.ext (smF _), hDcw, ws, cs, 0, 0, upd_same, ?_, ?_, by omega, by omega, by omega, by omega⟩ (smF _)
      · rw [upd_ne hpD]
        exact sm2 _ _ (by rw [upd_ne hpD]; exact hw)
      · rw [upd_ne hDcp]
        exact hc
/-! ### the law -/
def spLaw (c : Ctx) : Sp := fun vs H Q _ => ∃ (a : Addr) (ns : List Int), vs = [.ref a] ∧ SqL c.K H a (ns.map V.int) ∧ ns.length ≤ 63 ∧ (∀ p ∈ c.tb, H p.1 = some (.tbl #[])) ∧ ∀ H', Q (.bl true) H'
/-- the law's wish behind its first row -/
def lawEnds : WEnds := ⟨fun _ _ => False, fun d _ => d = .bool true, fun _ _ => False, fun _ _ => False, fun _ _ _ => False⟩
theorem law_start {c : Ctx} {W : WX} {u : WS} {N : List Str} {k : Nat} (hN : 2 ≤ N.length) (hk : k ≤ LIM) (h : ∀ ns : List Int, ns.length ≤ 63 → u (some (.script ns) :: some .state :: List.replicate (N.length - 2) Option.none) (fun _ => Option.none) lawEnds)
    {vs : List V} {H : Hp} {Q : VK} {Ex : XK} (hs : spLaw c vs H Q Ex) : tSeq (tAsg (tCall (sp_law_begun c) [] E0 (tCons (tVar 0) tNil)) (gName 1)) (ldS c W k u) { nx := fun _ H' => Q .non H', rt := Q } (L2.start N vs) H := by
  obtain ⟨a, ns, rfl, hS, hl, hT, q⟩ := hs
  have est : L2.start N [V.ref a] = some (V.ref a) :: none :: List.replicate (N.length - 2) none := by
    unfold L2.start
    obtain ⟨m, hm⟩ : ∃ m, N.length = m + 2 := ⟨N.length - 2, by omega⟩
    rw [hm]
    rfl
  rw [est]
  refine ⟨_, rfl, a, ns, rfl, hS, hl, fun p hp => .nil (hT p hp), fun s H' eT h1 h2 h3 hst sm => ?_⟩
  show ldS c W k u _ (some (V.ref a) :: some (V.ref s.d) :: List.replicate (N.length - 2) none) H'
  obtain ⟨I, hI, hIS⟩ : ∃ I : Hp, (∀ b o, I b = some o → H b = some o ∧ notTb o) ∧ SqL c.K I a (ns.map V.int) := by
    have one : ∀ o0 : HO, H a = some o0 → notTb o0 → ∃ I : Hp, (∀ b o, I b = some o → H b = some o ∧ notTb o) ∧ I a = some o0 := fun o0 e0 n0 => by
      refine ⟨fun b => if b = a then some o0 else Option.none, fun b o e => ?_, if_pos rfl⟩
      by_cases z : b = a
      · have e2 := (if_pos z).symm.trans e
        cases e2
        rw [z]
        exact ⟨e0, n0⟩
      · have e2 := (if_neg z).symm.trans e
        cases e2
    rcases hS with (z | ⟨o, z⟩) | z
    · obtain ⟨I, p1, p2⟩ := one _ z trivial
      exact ⟨I, p1, .inl (.inl p2)⟩
    · obtain ⟨I, p1, p2⟩ := one _ z trivial
      exact ⟨I, p1, .inl (.inr ⟨o, p2⟩)⟩
    · exact ⟨fun _ => Option.none, fun _ _ e => (by cases e), .inr z⟩
  have w : Wd c (some s) (fun _ => Option.none) 0 I (fun _ => Option.none) H' := by
    refine ⟨fun b o e => .inl (sm _ _ (hI b o e).1), fun b o e => (by cases e), fun x e => ?_, fun b o e => (hI b o e).2, fun b o e => (by cases e), s, rfl, eT⟩
    cases e
    refine ⟨hst, fun b hb => ⟨none_of fun o e => ?_, rfl⟩⟩
    obtain ⟨e1, e2⟩ := hI b o e
    rcases hb with (z | z | z) | ⟨p, hp, z⟩
    · rw [z, h1] at e1; cases e1
    · rw [z, h2] at e1; cases e1
    · rw [z, h3] at e1; cases e1
    · rw [eT] at hp
      rw [z, hT p hp] at e1
      cases e1
      exact e2
  have r : Rep c (some s) I (.script ns) (.ref a) := .script hIS
  have er : EnvR c (some s) I (some (.script ns) :: some .state :: List.replicate (N.length - 2) Option.none) (some (V.ref a) :: some (V.ref s.d) :: List.replicate (N.length - 2) none) := by
    refine .yes r (.yes (.state rfl eT) ?_)
    exact EnvR.init (N.length - 2) (ds := []) (vs := []) .nil
  refine ⟨some s, fun _ => Option.none, 0, I, fun _ => Option.none, _, lawEnds, by omega, er, w, h ns hl, ⟨fun _ _ _ _ _ p => p.elim, fun d μ' v I' H2 p s2 w2 r2 => ?_, fun _ _ _ _ _ p => p.elim, fun _ _ _ _ _ p => p.elim, fun _ _ _ _ _ _ _ _ p => p.elim⟩⟩
  cases p
  cases r2
  exact q H2
end DL

set_option Elab.async false
set_option linter.all false
set_option maxRecDepth 100000
set_option maxHeartbeats 4000000
/-! A8: raise, errors with a field, errors caught, a cell that stays as it is from now on. -/
namespace DL
open PySem PySem.Spec PyProof.Rows L2
/-! ### raise -/
def wRz (n : Str) : WS := fun e μ E => E.xp (.err n [] []) e μ
def wRzA (n f : Str) (a : WE) : WS := fun e μ E => a e μ (fun d μ1 => E.xp (.err n [f] [d]) e μ1) fun d μ1 => E.xp d e μ1
/-- the error's own __init__: its field is kept -/
def sp_ei (K : PySem.W.Frag) (f : Str) : Sp := fun vs H Q _ => ∃ (a C : Addr) (y : V), vs = [.ref a, y] ∧ OexC K C ∧ PySem.W.findIn K (.ref C) f = some none ∧ H a = some (exo a C none) ∧ ∀ dx, H dx = none → dx ≠ a → Q .non (upd (upd H dx (exd dx [(f, y)])) a (exo a C (some dx)))
section
variable {X : Cx}
/-- CrossError.__init__(self, ..) -/
theorem pe_ceinit {x : Str} {CE : Addr} {e : Expr} {es : List Expr} {ta : TA} {p1 p2 pos : Pos} {pl : Sem Bool} (hg : Gl X x) (hm : X.mg x = some (.ref CE)) (rd : ClX.CRead X.K CE (.type "type"))
    (vV : PySem.W.findCls X.K (.ref CE) (.type "type") "__init__" = some (.val (.builtin "ValueError.__init__"))) (ha : PA X (e :: es) ta) (hdb : (x == ("__debug__" : Str)) = false := by decide)
    (hc : eval (.Call (.Attribute (.Name x p1) "__init__" p2) (e :: es) [] pos) X.env = (do
      let ov ← eval (.Name x p1) X.env
      standAt p2.atName
      let (f, first) ← holding [ov] (getMethod ov "__init__" pl)
      callWith pos f first (backTo pos (starEach (e :: es) X.env)) (backToKw pos (keywordEach [] X.env))) := by rfl)
    (he : starEach (e :: es) X.env = (false, eval e X.env) :: starEach es X.env := by rfl) (hpl : (backTo pos (starEach es X.env)).any (·.1) = false := by rfl) :
    PE X (.Call (.Attribute (.Name x p1) "__init__" p2) (e :: es) [] pos) (tVeI X.K ta) := by
  refine ⟨fun pins s σ H Q J h => ?_⟩
  refine PySem.W.methodCall_KW (ld_glob J hg hm ?_ hdb) hc
  refine PySem.W.method_cls J.kIn rd.ga (PySem.W.cls_value J.kIn rd.rd vV (by decide +kernel) ?_)
  show wpAny _ _ (callWith pos (Value.builtin "ValueError.__init__") [] (backTo pos (starEach (e :: es) X.env)) []) _ _ _
  refine PyProof.Rows.callWith_method1 (thn (ha.run pos pins _ σ H _ (J.tok _) h) fun us s1 ⟨vs, H1, J1, r1, a, C, ws, ev, hl, T, ea, q⟩ => ?_) he hpl
  subst ev
  cases r1 with
  | @cons _ u0 _ ur ra rw' =>
    obtain rfl : u0 = Value.ref a := ra
    exact oinit_ok T J1 ea (by rw [← Paired.length rw', sizeLine_eq]; omega) fun s' J2 => ⟨.non, H1, J2, rfl, q⟩
end
/-- def __init__(self, f): CrossError.__init__(self, '..'); self.f = f -/
theorem einit_of {P : Program} {w : PySem.World} {K : PySem.W.Frag} {mg : Str → Option Value} {base : Heap} {fa CE : Addr} {fd : FuncData} {x qual s a fld txt : Str} {pa : Arguments} {sc : Scope} {dvs : List V} {kws : List (Str × V)} {j : Nat} {p1 p2 p3 p4 p5 p6 p7 p8 p9 p10 : Pos}
    (F : FunD K x qual pa [.Expr (.Call (.Attribute (.Name "CrossError" p1) "__init__" p2) [.Name s p3, .Constant (.str txt) j p4] [] p5) p6, .Assign [.Attribute (.Name s p7) fld p8] (.Name a p9) p10] sc dvs kws fa fd)
    (Sc : FnScope [s, a] [s, a] sc) (hm : mg "CrossError" = some (.ref CE)) (hgl : sc.names.lookup ("CrossError" : Str) = some .globalImplicit) (hs : sc.names.lookup s = some .local) (ha : sc.names.lookup a = some .local) (rd : ClX.CRead K CE (.type "type"))
    (vV : PySem.W.findCls K (.ref CE) (.type "type") "__init__" = some (.val (.builtin "ValueError.__init__")))
    {pl : Env → Sem Bool} (hcl : ∀ env, eval (.Call (.Attribute (.Name "CrossError" p1) "__init__" p2) [.Name s p3, .Constant (.str txt) j p4] [] p5) env = (do
      let ov ← eval (.Name "CrossError" p1) env
      standAt p2.atName
      let (f, first) ← holding [ov] (getMethod ov "__init__" (pl env))
      callWith p5 f first (backTo p5 (starEach [.Name s p3, .Constant (.str txt) j p4] env)) (backToKw p5 (keywordEach [] env))) := by intro _; rfl)
    (hsw : ∀ env, swapsWith (.Call (.Attribute (.Name "CrossError" p1) "__init__" p2) [.Name s p3, .Constant (.str txt) j p4] [] p5) none p6.line env = pure false := by intro _; rfl) (hsw2 : ∀ env, swapsWith (.Name a p9) (some (.Attribute (.Name s p7) fld p8)) p10.line env = pure false := by intro _; rfl)
    (ds : (s == ("__debug__" : Str)) = false := by decide) (ds2 : (s == ("__classdict__" : Str)) = false := by decide) (da : (a == ("__debug__" : Str)) = false := by decide) (da2 : (a == ("__classdict__" : Str)) = false := by decide) :
    FnOk P w K mg base C8.CX0 1 fa fd [s, a] (sp_ei K fld) := by
  refine F.ok (k := 0) Sc (fun vs H Q E h => ?_) fun cdv A outer sh H vs Q E hr h => ?_
  · obtain ⟨_, _, _, rfl, _⟩ := h
    rfl
  · obtain ⟨a0, C, y, rfl, T, hf, hx, q⟩ := h
    refine ⟨_, pss_cons (ps_expr (pe_ceinit (X := cxOf C8.CX0 P w K mg base [s, a] qual sc fa cdv A outer sh H E) hgl hm rd vV (pa_cons (pe_var (i := 0) rfl (Or.inl hs) ds ds2) (pa_cons pe_str pa_nil)) (hc := hcl _)) (hsw _)) (pss_one (ps_ost (X := cxOf C8.CX0 P w K mg base [s, a] qual sc fa cdv A outer sh H E) (pe_var (i := 0) rfl (Or.inl hs) ds ds2) (pe_var (i := 1) rfl (Or.inl ha) da da2) (hsw2 _))), ?_⟩
    exact ⟨_, rfl, a0, C, _, rfl, by show 1 ≤ 1000; omega, T, hx, y, rfl, _, rfl, a0, C, rfl, T, hf, .inl ⟨hx, q⟩⟩
section
variable {X : Cx} {c : Ctx} {W : WX} {k ka : Nat} {a : Expr} {wa : WE} {n x f : Str} {p p2 pos pos' : Pos}
/-- raise x('..') -/
theorem g_rz {m : Str} {j : Nat} {bmB : List Value} {B newId initId : String} (hc : X.calm = true) (tk : Takes X W) (G : ExcBaseFacts B newId initId bmB) (q : PySem.W.excIn X.K (c.cl n) bmB newId = true) (gC : X.mg x = some (.ref (c.cl n))) (kC : PySem.W.keepIn X.K (.ref (c.cl n)) = true)
    (r : Raises X (.ref (c.cl n))) (hg : Gl X x) (hn : n ∈ c.es := by decide) (hdb : (x == ("__debug__" : Str)) = false := by decide) : GS X c W 0 (.Raise (some (.Call (.Name x p) [.Constant (.str m) j p2] [] pos)) none pos') (wRz n) := L2.PS.imp (ps_raise hc tk (pmk_own G q gC kC r hg hdb)) fun K σ H h => by
  obtain ⟨S, F, nn, I, μ, e, E, hl, he, hw, h, q⟩ := h
  exact q.x he _ μ _ _ I H h (Same.refl I) hw ⟨n, [], [], [], rfl, rfl, ⟨rfl, .inl ⟨rfl, rfl⟩⟩, .nil, hn⟩
theorem exd_del {H1 : Hp} {a C dx : Addr} {f : Str} {y : V} (ha : H1 a = none) (hd : dx ≠ a) : upd (L2.del (upd (upd (upd H1 a (exo a C none)) dx (exd dx [(f, y)])) a (exo a C (some dx))) a) dx (.xd [(f, y)]) = upd H1 dx (.xd [(f, y)]) := by
  funext b
  by_cases h1 : b = dx
  · subst h1
    rw [upd_same, upd_same]
  · rw [upd_ne h1, upd_ne h1]
    by_cases h2 : b = a
    · subst h2
      rw [L2.del_same, ha]
    · rw [L2.del_ne h2, upd_ne h2, upd_ne h1, upd_ne h2]
theorem g_rzA {fI : Addr} {fd : FuncData} {ps : List Str} (hc : X.calm = true) (tk : Takes X W) (T : OexC X.K (c.cl n)) (iC : PySem.W.findIn X.K (.ref (c.cl n)) "__init__" = some (some (.ref fI))) (tI : PySem.W.typeIn X.K (.ref fI) = some (.type "function")) (hf : PySem.W.findIn X.K (.ref (c.cl n)) f = some none)
    (G : FnOk X.prog X.w X.K X.mg X.base C8.CX0 k fI fd ps (sp_ei X.K f)) (hr : Room (k + 1) X.A) (hb : Binds X.K fd ps []) (hg : Gl X x) (hm : X.mg x = some (.ref (c.cl n))) (ha : GE X c W ka a wa) (hn : n ∈ c.es := by decide) (hdb : (x == ("__debug__" : Str)) = false := by decide) (hst : starEach [a] X.env = [(false, eval a X.env)] := by rfl) :
    GS X c W ka (.Raise (some (.Call (.Name x p) [a] [] pos)) none pos') (wRzA n f wa) := L2.PS.imp (ps_raise hc tk (pmk_oex (ds := []) (dvs := []) T iC tI G hr hb .nil (fun _ _ _ _ _ _ _ z => False.elim z) hg hm (ga_cons ha ga_nil hst) hdb hst rfl)) fun K σ H h => by
  obtain ⟨S, F, nn, I, μ, e, E, hl, he, hw, h, q⟩ := h
  refine ⟨S, F, nn, I, μ, e, fun ds μ1 => one ds fun d => E.xp (.err n [f] [d]) e μ1, _, hl, he, hw, h, fun ds μ1 vs I1 H1 pa s1 w1 ra => ?_, q.x he⟩
  cases ra with
  | nil => exact pa.elim
  | cons r1 r2 =>
    cases r2 with
    | cons _ _ => exact pa.elim
    | nil =>
      rename_i d y
      refine ⟨by show 1 ≤ 1000; omega, fun b hb1 => ⟨b, _, y, rfl, T, hf, upd_same, fun dx h1 h2 => ⟨rfl, dx, [(f, y)], upd_same, ?_, ?_, ?_⟩⟩⟩
      · rw [upd_ne h2, upd_same]
      · rw [upd_ne h2] at h1
        exact h1
      · rw [upd_ne h2] at h1
        rw [exd_del hb1 h2]
        have sm : Same I1 (upd I1 dx (.xd [(f, y)])) := same_new (w1.fresh h1).1
        exact q.x he _ μ1 _ _ _ _ pa (s1.trans sm) (w1.new h1) ⟨n, [f], [d], [y], rfl, rfl, ⟨rfl, .inr ⟨dx, rfl, upd_same⟩⟩, .cons (r1.mono sm) .nil, hn⟩
/-! ### a cell that stays as it is from now on -/
def wFz (i : Nat) (w : WS) : WS := fun e μ E => match gt e i with
  | some (.cell b) => (match μ b with
    | some nd => w (st e i (some nd.frz)) (del μ b) E
    | Option.none => False)
  | some _ => w e μ E
  | Option.none => False
theorem EnvR.same {S : Option SA} {I : Hp} {d : D} {v : V} : ∀ {e : EnvD} {σ : L2.St} {i : Nat}, EnvR c S I e σ → σ[i]? = some (some v) → Rep c S I d v → EnvR c S I (st e i (some d)) σ
  | _, _, _, .nil, h, _ => by simp at h
  | _, _, 0, .no h, h1, r => by
    simp at h1
    subst h1
    exact .yes r h
  | _, _, 0, .yes _ h, h1, r => by
    simp at h1
    subst h1
    exact .yes r h
  | _, _, i + 1, .no h, h1, r => .no (EnvR.same h (by simpa using h1) r)
  | _, _, i + 1, .yes q h, h1, r => .yes q (EnvR.same h (by simpa using h1) r)
theorem g_fz {s : Stmt} {w : WS} (i : Nat) (h : GS X c W k s w) : GS X c W k s (wFz i w) := L2.PS.imp h fun K σ H h => by
  obtain ⟨S, F, nn, I, μ, e, E, hl, he, hw, h, q⟩ := h
  unfold wFz at h
  split at h
  · rename_i b hb
    split at h
    · rename_i nd hnd
      obtain ⟨o, r, h0, hi, w2⟩ := hw.freeze hnd
      obtain ⟨v, h1, h2⟩ := he.get hb
      cases h2
      have sm : Same I (upd I b o) := same_new hi
      exact ⟨S, F, nn, upd I b o, _, _, E, hl, (he.mono sm).same h1 ((r.mono sm).frz upd_same), w2, h, q.mono (Nat.le_refl _) sm⟩
    · exact h.elim
  · exact ⟨S, F, nn, I, μ, e, E, hl, he, hw, h, q⟩
  · exact h.elim
end
end DL

set_option Elab.async false
set_option linter.all false
set_option maxRecDepth 100000
set_option maxHeartbeats 4000000
/-! A9: caught(lambda: ..). -/
namespace DL
open PySem PySem.Spec PyProof.Rows L2
variable [Gds]
open LamX (lamCx lamEnv LamS GivesTo CodeO ExtN Tabs TabB tLam)
section
variable {X : Cx} {pins : List (Addr × Obj)} {σ : L2.St} {H HZ : Hp} {s s1 : Shared}
end
section
variable {X : Cx} {pins : List (Addr × Obj)} {σ : L2.St} {H : Hp} {s : Shared}
end
section
variable {X : Cx} {x n : Str} {c : Value} {i : Nat} {body suite : List Stmt} {b₀ : Stmt} {np pos pos' : Pos} {tb : WX → TS} {ts : Addr → Value → Option Addr → TS}
end
/-! ### over data -/
/-- what caught tells: None, or the error, which is one of the classes es -/
def wCaught (es : List Str) (w : WE) : WE := fun e μ Q _ => w e μ (fun _ μ1 => Q .none μ1) fun d μ1 => match d with
  | .err n _ _ => n ∈ es ∧ Q d μ1
  | _ => False
section
variable {X : Cx} {c : Ctx} {W : WX} {k kl : Nat} {w : WE} {es : List Str}
end
end DL

set_option Elab.async false
set_option linter.all false
set_option maxRecDepth 100000
set_option maxHeartbeats 4000000
/-! A10: the law's end, with tables of code objects, where no repr is under way. -/
namespace DL
open PySem PySem.Spec PyProof.Rows L2
open LamX (TabB)
/-- what the caller asks behind the law -/
abbrev Ended (s1 : Shared) : Result → Shared → Prop := fun r s' => r = .ok (.ret (.bool true)) ∧ OldK s1.heap s'.heap ∧ s'.os = s1.os ∧ AllBare s'.gens
section
variable {P : Program} {w : PySem.World} {K : PySem.W.Frag} {mg mb : Str → Option Value} {k : Nat} {fa a : Addr} {fd : FuncData} {x : Str} {sp : Sp} {s1 : Shared} {vs : List Value} {ns : List Int} {cs : List (Addr × Addr)}
/-- what is known of the law's heap -/
structure LawH (K : PySem.W.Frag) (mg mb : Str → Option Value) (s1 : Shared) (cs : List (Addr × Addr)) (a : Addr) (vs : List Value) : Prop where
  kx : K.In s1.heap
  hns : s1.heap.Ns mainGlobals mg
  hb : s1.heap.Ns builtinsNs mb
  hbb : ∀ x : Str, x ≠ "__name__" → mb x = bootBuiltins x
  lim : s1.heap.NoLimit
  hg : s1.gens = #[]
  tab : ∀ p ∈ cs, s1.heap.get? p.2 = some { cls := .none, data := .fields #[] }
  ntab : ∀ p ∈ cs, K.lookup p.2 = none
  code : ∀ p ∈ cs, PySem.W.CodeHd s1.heap p.1 p.2
  bm : ∃ (bm : Addr) (ob : Obj), mg "__builtins__" = some (.ref bm) ∧ bm ≠ builtinsNs ∧ s1.heap.get? bm = some ob ∧ ob.cls = .type "module" ∧ ob.dict = some builtinsNs ∧ ob.data = .plain
  ha : s1.heap.get? a = some { cls := .type "list", data := .seq vs.toArray }
def isTb (cs : List (Addr × Addr)) (b : Addr) : Prop := ∃ p ∈ cs, b = p.2
/-- what is tracked ahead of the law: the script, the tables -/
structure Track (cs : List (Addr × Addr)) (K : PySem.W.Frag) (a : Addr) (H : Hp) : Prop where
  tb : ∀ p ∈ cs, H p.2 = some (.tbl #[])
  only : ∀ b u, H b = some u → (b = a ∧ K.lookup a = none ∧ ∃ o xs, u = .frz o (.lst xs)) ∨ isTb cs b
theorem law_end (L : LawH K mg mb s1 cs a vs) (room : Room k callerA) (F : ∀ base : Heap, K.In base → base.Ns mainGlobals mg → (∀ p ∈ cs, TabB base mg p.1 p.2) → FnW P w K mg base k fa fd [x] sp) (bi : ∀ (s : Shared) (u : Value), BindsTo s fd ⟨[u], []⟩ [(x, u)])
    {H : Hp} (T : Track cs K a H) (hok : HOk P w H s1.heap) (hs : sp [.ref a] H (fun v _ => v = .bl true) fun _ _ _ => False) : codeAny (model P w) callerA (.call (.ref fa) ⟨[.ref a], []⟩) (Ended s1) s1 := by
  have isT : ∀ {b : Addr}, isTb cs b → s1.heap.get? b = some { cls := .none, data := .fields #[] } := by
    rintro b ⟨p, hp, rfl⟩
    exact L.tab p hp
  have seen : ∀ {b : Addr} {o : Obj}, s1.heap.get? b = some o → H b = none → (hidT s1.heap H).get? b = some o := fun p q => hidT_get p q
  have off : ∀ {b : Addr} {o : Obj}, s1.heap.get? b = some o → (∀ vs n, o.data ≠ .seq vs n) → o.data ≠ .fields #[] → H b = none := fun {b o} e h1 h2 => none_of fun u q => by
    rcases T.only b u q with ⟨z, _⟩ | z
    · rw [z, L.ha] at e
      cases e
      exact h1 _ _ rfl
    · rw [isT z] at e
      cases e
      exact h2 rfl
  have dct : ∀ {b : Addr} {o : Obj} {es : Array DictEntry} {n : Nat}, s1.heap.get? b = some o → o.data = .dict es n → H b = none := fun {b o es n} e d => off e (fun _ _ z => by rw [d] at z; cases z) fun z => by rw [d] at z; cases z
  have names : ∀ {b : Addr} {m : Str → Option Value}, s1.heap.Ns b m → (hidT s1.heap H).Ns b m := by
    rintro b m ⟨o, es, n, p, q, r⟩
    exact ⟨o, es, n, seen p (dct p q), q, r⟩
  have kin : K.In (hidT s1.heap H) := fun b o p => seen (L.kx b o p) (none_of fun u q => by
    rcases T.only b u q with ⟨z, z2, _⟩ | ⟨t, ht, z⟩
    · rw [z, z2] at p
      cases p
    · rw [z, L.ntab t ht] at p
      cases p)
  have md : Mod K mg (hidT s1.heap H) := by
    obtain ⟨mc, l1, l2⟩ := L.lim
    exact ⟨kin, names L.hns, ⟨mb, names L.hb, L.hbb⟩, ⟨mc, names l1, l2⟩⟩
  have tabs : ∀ p ∈ cs, TabB (hidT s1.heap H) mg p.1 p.2 := fun p hp => by
    have tp := L.tab p hp
    refine ⟨?_, ?_, fun z => ?_⟩
    · obtain ⟨o, us, file, tf, flags, tg, inF, text, tt, e1, r1, r2, r3, rest⟩ := L.code p hp
      refine ⟨o, us, file, tf, flags, tg, inF, text, tt, seen e1 (off e1 (fun _ _ z => ?_) fun z => ?_), r1, r2, r3, rest⟩
      · rw [r2] at z
        cases z
      · rw [r2] at z
        cases z
        simp at r3
    · obtain ⟨bm, ob, b1, b2, b3, b4, b5, b6⟩ := L.bm
      refine ⟨bm, ob, b1, b2, fun q => ?_, fun q => ?_, seen b3 (off b3 (fun _ _ z => ?_) fun z => ?_), b4, b5, b6⟩
      · obtain ⟨o, es, n, e, hd, _⟩ := L.hns
        rw [q, e] at b3
        cases b3
        rw [hd] at b6
        cases b6
      · rw [q, tp] at b3
        cases b3
        cases b6
      · rw [b6] at z
        cases z
      · rw [b6] at z
        cases z
    · obtain ⟨o, es, n, e, hd, _⟩ := L.hns
      rw [z, tp] at e
      cases e
      cases hd
  have en : Env0 P w K mg (hidT s1.heap H) callerA [] s1 H := ⟨rfl, md, fun b o p => of_hidT p, Nat.le_of_eq (hidT_size _ _), trivial, fun b p => absurd (show b ∈ ([] : List Addr) from p) List.not_mem_nil, hok, .of_eq L.hg⟩
  refine codeAny_mono ((F _ kin (names L.hns) tabs).run callerA [] s1 H ⟨[.ref a], []⟩ [.ref a] [.ref a] _ _ rfl room en (bi s1 (.ref a)) (.cons rfl .nil) hs) fun res s2 z => ?_
  match res, z with
  | .error e, z =>
    obtain ⟨_, _, _, _, _, _, _, _, _, _, _, _, z⟩ := z
    exact z.elim
  | .ok .next, z => exact False.elim z
  | .ok .brk, z => exact False.elim z
  | .ok .cont, z => exact False.elim z
  | .ok (.ret u), z =>
    obtain ⟨v, H2, e1, e2, un, hok2, e3, e4⟩ := z
    cases (show v = .bl true from e4)
    cases (show u = Value.bool true from e3)
    have kept : ∀ b o, ¬ isTb cs b → s1.heap.get? b = some o → s2.heap.get? b = some o := fun b o nb p => by
      cases q : H b with
      | none => exact un.keep b o p q (fun q => nomatch (show b ∈ ([] : List Addr) from q)) List.not_mem_nil
      | some u =>
        rcases T.only b u q with ⟨_, _, ob, xs, z⟩ | z
        · rw [z] at q
          have p1 := (hok b _ q).1
          have p2 := (hok2 b _ (un.frzs b ob _ q)).1
          rw [p] at p1
          cases p1
          exact p2
        · exact absurd z nb
    have grown : ∀ {b : Addr}, isTb cs b → ∃ more : Array Value, s2.heap.get? b = some { cls := .none, data := .fields more } := by
      rintro b ⟨p, hp, rfl⟩
      obtain ⟨more, z⟩ := un.tbls p.2 #[] (T.tb p hp)
      exact ⟨_, hok2 p.2 _ z⟩
    refine ⟨rfl, ⟨fun b o p => ?_, fun b o p => ?_⟩, e1, e2⟩
    · rcases Classical.em (isTb cs b) with z | z
      · obtain ⟨more, hm⟩ := grown z
        rw [isT z] at p
        cases p
        obtain ⟨p, hp, rfl⟩ := z
        exact .inr (.inl ⟨((L.code p hp).tab (L.tab p hp)).isCodeTable, rfl, #[], more, rfl, by rw [Array.empty_append]; exact hm⟩)
      · exact .inl (kept b o z p)
    · rcases Classical.em (isTb cs b) with z | z
      · obtain ⟨more, hm⟩ := grown z
        exact ⟨_, hm⟩
      · exact ⟨o, kept b o z p⟩
theorem law_runs (L : LawH K mg mb s1 cs a vs) (hi : IntsAre vs ns) (hl : ns.length ≤ sizeLine) (room : Room k callerA) (F : ∀ base : Heap, K.In base → base.Ns mainGlobals mg → (∀ p ∈ cs, TabB base mg p.1 p.2) → FnW P w K mg base k fa fd [x] sp) (bi : ∀ (s : Shared) (u : Value), BindsTo s fd ⟨[u], []⟩ [(x, u)])
    (hsp : ∀ H : Hp, (∀ p ∈ cs, H p.2 = some (.tbl #[])) → SqL K H a (ns.map V.int) → sp [.ref a] H (fun v _ => v = .bl true) fun _ _ _ => False) : codeAny (model P w) callerA (.call (.ref fa) ⟨[.ref a], []⟩) (Ended s1) s1 := by
  have rv := vals_ints hi
  have aT : ¬ isTb cs a := by
    rintro ⟨p, hp, z⟩
    have q := L.tab p hp
    rw [← z, L.ha] at q
    cases (show Data.seq vs.toArray _ = Data.fields #[] from congrArg Obj.data (Option.some.inj q))
  classical
  let H0 : Hp := fun b => if isTb cs b then some (.tbl #[]) else none
  have on : ∀ {b : Addr}, isTb cs b → H0 b = some (.tbl #[]) := fun z => if_pos z
  have no : ∀ {b : Addr}, ¬ isTb cs b → H0 b = none := fun z => if_neg z
  have ok0 : ∀ {H : Hp} {b : Addr} {u : HO}, H0 b = some u → ObjOk P w H s1.heap b u := fun {H b u} q => by
    rcases Classical.em (isTb cs b) with z | z
    · rw [on z] at q
      cases q
      obtain ⟨p, hp, rfl⟩ := z
      exact L.tab p hp
    · rw [no z] at q
      cases q
  have t0 : ∀ {b : Addr} {u : HO}, H0 b = some u → isTb cs b := fun {b u} q => Classical.byContradiction fun z => by
    rw [no z] at q
    cases q
  cases hk : K.lookup a with
  | some o =>
    have p := L.kx a o hk
    rw [L.ha] at p
    cases p
    refine law_end L room F bi (H := H0) ⟨fun p hp => on ⟨p, hp, rfl⟩, fun b u q => .inr (t0 q)⟩ (fun b u q => ok0 q) (hsp _ (fun p hp => on ⟨p, hp, rfl⟩) (.inr ⟨_, vs.toArray, _, hk, rfl, rfl, rfl, by rw [List.size_toArray, hi.length]; exact hl, rv⟩))
  | none =>
    let h0 : HO := .frz { cls := .type "list", data := .seq vs.toArray } (.lst (ns.map V.int))
    have ne : ∀ {p : Addr × Addr}, p ∈ cs → p.2 ≠ a := fun {p} hp z => aT ⟨p, hp, z.symm⟩
    refine law_end L room F bi (H := upd H0 a h0) ⟨fun p hp => by rw [upd_ne (ne hp)]; exact on ⟨p, hp, rfl⟩, fun b u q => ?_⟩ (fun b u q => ?_) (hsp _ (fun p hp => by rw [upd_ne (ne hp)]; exact on ⟨p, hp, rfl⟩) (.inl (.inr ⟨_, upd_same⟩)))
    · by_cases z : b = a
      · subst z
        rw [upd_same] at q
        cases q
        exact .inl ⟨rfl, hk, _, _, rfl⟩
      · rw [upd_ne z] at q
        exact .inr (t0 q)
    · by_cases z : b = a
      · subst z
        rw [upd_same] at q
        cases q
        exact ⟨L.ha, by rw [List.length_map]; exact hl, vs, _, rv, L.ha⟩
      · rw [upd_ne z] at q
        exact ok0 q
end
/-- a law, by its def's promise at the head's heap h -/
def LawAt (l : PySem.W.OpenLaw) (w : PySem.World) (k n : Nat) (x : Str) (mg : Str → Option Value) (fa : Addr) (h : Heap) : Prop :=
  ∃ (c : Ctx) (fd : FuncData) (cs : List (Addr × Addr)), c.K.In h ∧ (∀ p ∈ cs, h.get? p.2 = some { cls := .none, data := .fields #[] }) ∧ (∀ p ∈ cs, c.K.lookup p.2 = none) ∧ (∀ p ∈ cs, PySem.W.CodeHd h p.1 p.2) ∧ (∀ p ∈ c.tb, isTb cs p.1) ∧ (∀ (s : Shared) (u : Value), BindsTo s fd ⟨[u], []⟩ [(x, u)]) ∧
    ∀ base : Heap, c.K.In base → base.Ns mainGlobals mg → (∀ p ∈ cs, TabB base mg p.1 p.2) → FnW l.prog w c.K mg base k fa fd [x] (spLaw c)
theorem walk_of {l : PySem.W.OpenLaw} {n k : Nat} {q : Program} {loose : List Str} {XP : (Str → Option Value) → Heap → Prop} {YP : PySem.World → Heap → Prop} {d : DefRec} {x : Str} (hn : l.most = some n) (hn2 : n ≤ 63) (hdf : d.params.defaults = []) (room : Room k callerA)
    (F : ∀ (w : PySem.World) (mg : Str → Option Value) (fa : Addr) (h : Heap), YP w h → h.Ns mainGlobals mg → mg d.name = some (.ref fa) → LawAt l w k n x mg fa h) :
    PySem.W.WalkO q loose XP YP l.row.toRowW d [] (fun f vs => PySem.call f vs) := Att.attach_call hn hdf fun w s0 s1 mg mb fa o pm cd doc a vs ns G Y ho hd hcd hmg hobj hints hlen hg => by
  obtain ⟨c, fd, cs, kx, b1, b2, b3, b4, b5, b6⟩ := F w mg fa _ Y G.T.g hmg
  refine law_runs ⟨kx, G.T.g, G.T.b, G.T.builtins, G.T.nolimit, hg, b1, b2, b3, G.T.bmain, hobj⟩ hints (by rw [sizeLine_eq]; omega) room b6 b5 fun H hT hS => ⟨a, ns, rfl, hS, by omega, fun p hp => ?_, fun _ => rfl⟩
  obtain ⟨r, hr, e⟩ := b4 p hp
  rw [e]
  exact hT r hr
end DL

set_option Elab.async false
set_option linter.all false
set_option maxRecDepth 100000
set_option maxHeartbeats 4000000
/-! A11: the head's facts: with empty tables left out; errors, classes by lists of names; static methods; some displays. -/
namespace DL
open PySem PySem.Spec PyProof.Rows L2
variable [Gds]
/-! ### the hook with tables -/
/-- the bits of addresses; what is new joins them, the last in front -/
def newY : List Addr → Nat → List Addr → Nat × List Addr
  | [], m, acc => (m, acc)
  | a :: as, m, acc => HandSHeadRun.frNat a fun a => match Nat.beq (Nat.mod (Nat.shiftRight m a) 2) 1 with
    | true => newY as m acc
    | false => HandSHeadRun.frNat (Nat.add m (Nat.pow 2 a)) fun m => newY as m (a :: acc)
/-- n rounds from those in front -/
def goY (g : Addr → Option Obj) : Nat → Nat → List Addr → List Addr → List Addr
  | 0, _, _, all => all.reverse
  | n + 1, m, fr, all => match newY (fr.flatMap fun a => match g a with
    | some o => He.refsD o
    | none => []) m [] with
    | (m, new) => goY g n m new.reverse (new ++ all)
/-- what the names reach in n steps, and the interpreter's own statics -/
def asY (g : Addr → Option Obj) (n : Nat) : List Addr := goY g n (Nat.pow 2 mainGlobals) [mainGlobals] [mainGlobals] ++ [cStatics, sysModules]
abbrev tabAt (K : PySem.W.Frag) (f : Addr) : Addr := He.tabOf K (codeAt K f)
structure SaysY (bs : List (PySem.W.Frag → Bool)) (fn : List DefX) (tf : List (PySem.W.Frag → Addr)) (h : Heap) (K : PySem.W.Frag) : Prop where
  t : SaysX bs fn K
  hd : ∀ f ∈ tf, PySem.W.codeHdIn K (codeAt K (f K)) (tabAt K (f K)) = true
  out : ∀ f ∈ tf, K.lookup (tabAt K (f K)) = none
  empty : ∀ f ∈ tf, h.get? (tabAt K (f K)) = some { cls := .none, data := .fields #[] }
def tabsY (g : Addr → Option Obj) (tf : List (PySem.W.Frag → Addr)) (K : PySem.W.Frag) : Bool := tf.all fun f => PySem.W.codeHdIn K (codeAt K (f K)) (tabAt K (f K)) && (match g (tabAt K (f K)) with
  | some o => He.emptyTab o
  | none => false)
abbrev AlY : Type := AlX × Bool
def obsY (n : Nat) (bs : List (PySem.W.Frag → Bool)) (fn : List DefX) (tf : List (PySem.W.Frag → Addr)) (g : Addr → Option Obj) : AlY := (obsX bs fn (He.frT g (asY g n)), tabsY g tf (He.frT g (asY g n)))
theorem saysY_of {n : Nat} {bs : List (PySem.W.Frag → Bool)} {fn : List DefX} {tf : List (PySem.W.Frag → Addr)} {h : Heap} (e : obsY n bs fn tf h.get? = (valX fn, true)) : SaysY bs fn tf h (He.frT h.get? (asY h.get? n)) := by
  have e1 : obsX bs fn (He.frT h.get? (asY h.get? n)) = valX fn := congrArg (fun z : AlY => z.1) e
  have e2 : tabsY h.get? tf (He.frT h.get? (asY h.get? n)) = true := congrArg (fun z : AlY => z.2) e
  have each : ∀ f ∈ tf, PySem.W.codeHdIn (He.frT h.get? (asY h.get? n)) (codeAt (He.frT h.get? (asY h.get? n)) (f (He.frT h.get? (asY h.get? n)))) (tabAt (He.frT h.get? (asY h.get? n)) (f (He.frT h.get? (asY h.get? n)))) = true ∧
      ∃ o, h.get? (tabAt (He.frT h.get? (asY h.get? n)) (f (He.frT h.get? (asY h.get? n)))) = some o ∧ He.emptyTab o = true := fun f hf => by
    obtain ⟨z1, z2⟩ := He.ba (List.all_eq_true.mp e2 f hf)
    refine ⟨z1, ?_⟩
    split at z2
    · rename_i o q
      exact ⟨o, q, z2⟩
    · cases z2
  refine ⟨e1, fun f hf => (each f hf).1, fun f hf => ?_, fun f hf => ?_⟩
  · obtain ⟨_, o, q, z⟩ := each f hf
    exact He.frT_none q z
  · obtain ⟨_, o, q, z⟩ := each f hf
    rw [q, He.emptyTab_eq z]
def hookY (n : Nat) (bs : List (PySem.W.Frag → Bool)) (fn : List DefX) (tf : List (PySem.W.Frag → Addr)) : PySem.W.Hook where
  α := AlY
  obs := fun s => obsY n bs fn tf s.heap.get?
  val := fun _ => (valX fn, true)
  says := fun _ h => ∃ K : PySem.W.Frag, K.In h ∧ SaysY bs fn tf h K
  of := fun _ _ e => ⟨_, He.frT_in, saysY_of e⟩
  keeps := fun _ _ _ ⟨K, hK, c⟩ k => ⟨K, PySem.W.Frag.In.keeps hK k, ⟨c.t, c.hd, c.out, fun f hf => k _ _ (c.empty f hf)⟩⟩
theorem obsY_eq {n : Nat} {bs : List (PySem.W.Frag → Bool)} {fn : List DefX} {tf : List (PySem.W.Frag → Addr)} {g : Addr → Option Obj} {s : Shared} (h : ∀ a, g a = s.heap.get? a) : obsY n bs fn tf g = (hookY n bs fn tf).obs s := by
  have e : g = s.heap.get? := funext h
  rw [e] <;> rfl
/-- the tables of the defs tf -/
def tabsOf (K : PySem.W.Frag) (tf : List (PySem.W.Frag → Addr)) : List (Addr × Addr) := tf.map fun f => (codeAt K (f K), tabAt K (f K))
/-! ### Bools of the head -/
def noneB (o : Option (Option Value)) : Bool := match o with
  | some none => true
  | _ => false
theorem noneB_ok {o : Option (Option Value)} (h : noneB o = true) : o = some none := by
  unfold noneB at h
  split at h
  · rfl
  · cases h
theorem all_ok {α : Type} {l : List α} {p : α → Bool} {P : α → Prop} (h : l.all p = true) (i : ∀ a, p a = true → P a) : ∀ a ∈ l, P a := fun a ha => i a (List.all_eq_true.mp h a ha)
def excB (K : PySem.W.Frag) (D : Addr) : Bool := He.eqO (PySem.W.findIn K (.ref D) "__getattribute__") (some (some (.builtin "BaseException.__getattribute__"))) && (noneB (PySem.W.findIn K (.ref D) "__getattr__") && (decide (PySem.W.subIn K (.ref D) (.type "BaseException") = some true) && (PySem.W.hasDictIn K D &&
  (He.eqO (PySem.W.findIn K (.ref D) "__class__") (some (some (.builtin "object.__class__"))) && (He.eqO (PySem.W.specialIn K (.builtin "object.__class__") "__get__") (some (some (.builtin "getset_descriptor.__get__"))) && (decide (PySem.W.takesIn K (.builtin "object.__class__") = some true) && decide (PySem.W.mroIn K D (.type "object") = some true)))))))
theorem excB_ok {K : PySem.W.Frag} {D : Addr} (h : excB K D = true) : ExcC K D := by
  obtain ⟨h1, h⟩ := He.ba h
  obtain ⟨h2, h⟩ := He.ba h
  obtain ⟨h3, h⟩ := He.ba h
  obtain ⟨h4, h⟩ := He.ba h
  obtain ⟨h5, h⟩ := He.ba h
  obtain ⟨h6, h⟩ := He.ba h
  obtain ⟨h7, h8⟩ := He.ba h
  exact ⟨He.eqO_ok h1, noneB_ok h2, of_decide_eq_true h3, h4, He.eqO_ok h5, He.eqO_ok h6, of_decide_eq_true h7, of_decide_eq_true h8⟩
/-- all that is asked of the classes of a law -/
def ctxB (ns es : List Str) (K : PySem.W.Frag) : Bool := (ns.all fun n => (He.Fa.cls n).ok K && isiB K (He.ga K n)) && ((es.all fun n => excB K (He.ga K n)) && (((ns ++ es).all fun n => (ns ++ es).all fun m => kitB2 K (.ref (He.ga K n)) (.ref (He.ga K m)) (subCC n m)) &&
  (((ns ++ es).all fun n => tyNames.all fun t => kitB2 K (.ref (He.ga K n)) (.type t) (subCT n t)) && (tyNames.all fun t => (ns ++ es).all fun n => kitB2 K (.type t) (.ref (He.ga K n)) false))))
theorem ctxB_ok {ns es : List Str} {K : PySem.W.Frag} {tb : List (Addr × Str)} (h : ctxB ns es K = true) : CtxOk { K := K, cl := He.ga K, tb := tb, ns := ns, es := es } := by
  obtain ⟨h1, h⟩ := He.ba h
  obtain ⟨h2, h⟩ := He.ba h
  obtain ⟨h3, h⟩ := He.ba h
  obtain ⟨h4, h5⟩ := He.ba h
  refine ⟨all_ok h1 fun n z => ?_, all_ok h2 fun n z => excB_ok z, all_ok h3 fun n z => all_ok z fun m z => kitB2_ok z, all_ok h4 fun n z => all_ok z fun m z => kitB2_ok z, all_ok h5 fun n z => all_ok z fun m z => kitB2_ok z⟩
  obtain ⟨z1, z2⟩ := He.ba z
  exact isiB_ok (He.cls_ok z1) z2
/-- an error class without own __init__ -/
structure ErN (K : PySem.W.Frag) (C : Addr) : Prop where
  q : PySem.W.excIn K C PySem.HandSPX.veTail "ValueError.__new__" = true
  kp : PySem.W.keepIn K (.ref C) = true
  be : PySem.W.subIn K (.ref C) (.type "BaseException") = some true
  ty : PySem.W.typeIn K (.ref C) = some (.type "type")
def erB (K : PySem.W.Frag) (C : Addr) : Bool := PySem.W.excIn K C PySem.HandSPX.veTail "ValueError.__new__" && (PySem.W.keepIn K (.ref C) && (decide (PySem.W.subIn K (.ref C) (.type "BaseException") = some true) && decide (PySem.W.typeIn K (.ref C) = some (.type "type"))))
theorem erB_ok {K : PySem.W.Frag} {C : Addr} (h : erB K C = true) : ErN K C := by
  obtain ⟨h1, h⟩ := He.ba h
  obtain ⟨h2, h⟩ := He.ba h
  obtain ⟨h3, h4⟩ := He.ba h
  exact ⟨h1, h2, of_decide_eq_true h3, of_decide_eq_true h4⟩
/-- one with an own __init__ and the field f -/
structure ErI (K : PySem.W.Frag) (C fI : Addr) (f : Str) : Prop where
  t : OexC K C
  ini : PySem.W.findIn K (.ref C) "__init__" = some (some (.ref fI))
  fn : PySem.W.typeIn K (.ref fI) = some (.type "function")
  nof : PySem.W.findIn K (.ref C) f = some none
def oexB (K : PySem.W.Frag) (C : Addr) : Bool := match K.lookup C with
  | some ⟨.type "type", _, .cls cd, sl⟩ => (match cd.mro, sl.toList with
    | .ref C' :: bm, [_, _, _, _, some (.builtin n), _] => C' == C && (n == "ValueError.__new__" && (!cd.hasDel && (cd.hasDict && PySem.HandSPX.refsVE bm)))
    | _, _ => false)
  | _ => false
theorem oexB_ok {K : PySem.W.Frag} {C : Addr} (h : oexB K C = true) : ∃ nm q N bs bm sn sub ab col dd k0 k1 k2 k3 k5, K.lookup C = some (excClassObj nm q C N bs bm true sn sub ab col dd k0 k1 k2 k3 k5 "ValueError.__new__") ∧ PySem.HandSPX.refsVE bm = true := by
  unfold oexB at h
  split at h
  · rename_i dd cd sl ho
    split at h
    · rename_i C' bm k0 k1 k2 k3 n k5 hm hs
      simp only [Bool.and_eq_true, beq_iff_eq, Bool.not_eq_true'] at h
      obtain ⟨rfl, rfl, hdel, hdct, hr⟩ := h
      obtain ⟨nm, bs, mro, ns, qn, hd, sn, sub, ab, col, del⟩ := cd
      dsimp only at hm hdel hdct
      subst hm hdel hdct
      have hsl : sl = #[k0, k1, k2, k3, some (.builtin "ValueError.__new__"), k5] := by
        obtain ⟨l⟩ := sl
        simp only at hs
        rw [hs]
      subst hsl
      exact ⟨nm, qn, ns, bs, bm, sn, sub, ab, col, dd, k0, k1, k2, k3, k5, ho, hr⟩
    · cases h
  · cases h
def eriB (K : PySem.W.Frag) (C fI : Addr) (f : Str) : Bool := oexB K C && (He.eqO (PySem.W.findIn K (.ref C) "__setattr__") (some (some (.builtin "object.__setattr__"))) && (decide (PySem.W.subIn K (.ref C) (.type "BaseException") = some true) && (decide (PySem.W.typeIn K (.ref C) = some (.type "type")) && (PySem.W.keepIn K (.ref C) &&
  (He.eqO (PySem.W.findIn K (.ref C) "__init__") (some (some (.ref fI))) && (decide (PySem.W.typeIn K (.ref fI) = some (.type "function")) && noneB (PySem.W.findIn K (.ref C) f)))))))
theorem eriB_ok {K : PySem.W.Frag} {C fI : Addr} {f : Str} (h : eriB K C fI f = true) : ErI K C fI f := by
  obtain ⟨h1, h⟩ := He.ba h
  obtain ⟨h2, h⟩ := He.ba h
  obtain ⟨h3, h⟩ := He.ba h
  obtain ⟨h4, h⟩ := He.ba h
  obtain ⟨h5, h⟩ := He.ba h
  obtain ⟨h6, h⟩ := He.ba h
  obtain ⟨h7, h8⟩ := He.ba h
  exact ⟨⟨oexB_ok h1, He.eqO_ok h2, of_decide_eq_true h3, of_decide_eq_true h4, h5⟩, He.eqO_ok h6, of_decide_eq_true h7, noneB_ok h8⟩
/-- what of a class is read: the base's __init__, a static method -/
def vInit (K : PySem.W.Frag) (C : Addr) : Bool := match PySem.W.findCls K (.ref C) (.type "type") "__init__" with
  | some (.val (.builtin n)) => n == "ValueError.__init__"
  | _ => false
theorem vInit_ok {K : PySem.W.Frag} {C : Addr} (h : vInit K C = true) : PySem.W.findCls K (.ref C) (.type "type") "__init__" = some (.val (.builtin "ValueError.__init__")) := by
  unfold vInit at h
  split at h
  · rename_i n e
    rw [e, beq_iff_eq.mp h]
  · cases h
def creadB (K : PySem.W.Frag) (C : Addr) : Bool := PySem.W.readsIn K C (.type "type") && He.eqO (PySem.W.specialIn K (.ref C) "__getattribute__") (some (some (.builtin "type.__getattribute__")))
theorem creadB_ok {K : PySem.W.Frag} {C : Addr} (h : creadB K C = true) : ClX.CRead K C (.type "type") := by
  obtain ⟨h1, h2⟩ := He.ba h
  exact ⟨h1, He.eqO_ok h2⟩
structure SMet (K : PySem.W.Frag) (C : Addr) (m : Str) (p g : Addr) : Prop where
  at_ : PySem.W.findCls K (.ref C) (.type "type") m = some (.get (.builtin "staticmethod.__get__") (.ref p) .none (.ref C))
  rc : ∃ rest, PySem.W.recIn K p "staticmethod" = some (.ref g :: rest)
  kp : PySem.W.keepIn K (.ref g) = true
section
variable {X : Cx} {c : Ctx} {W : WX} {k kf ka : Nat} {n m x : Str} {a : Expr} {es : List Expr} {wr : WA} {s : WP} {f pp : Addr} {fd : FuncData} {ps : List Str} {p pos apos : Pos}
theorem g_cls {ex : Expr} (h : PE X ex (tC (.ref (c.cl n)))) (hn : n ∈ c.ns ++ c.es) : GE X c W 0 ex (wK (.cls n)) := g_con h fun _ _ => .cls hn
theorem g_ty {ex : Expr} {t : String} (h : PE X ex (tC (.ty t))) (hn : t ∈ tyNames := by decide) : GE X c W 0 ex (wK (.ty t)) := g_con h fun _ _ => .ty hn
end
/-! ### facts of the written part that later texts ask -/
section
open PySem.W
end
end DL

set_option Elab.async false
set_option linter.all false
set_option maxRecDepth 100000
set_option maxHeartbeats 4000000
/-! A12: defaults, costs, {}, list(range(..)). -/
namespace DL
open PySem PySem.Spec PyProof.Rows L2
section
variable {X : Cx} {c : Ctx} {W : WX} {k ka kb : Nat} {m : Bool} {a : Expr} {wr : WA} {pos : Pos}
theorem gs_le {ss : List Stmt} {w : WS} (h : GSs X c W ka ss w) (hk : ka ≤ kb) : GSs X c W kb ss w := L2.PSs.imp h fun K σ H h => by
  obtain ⟨S, F, n, I, μ, e, E, hl, he, hw, h, q⟩ := h
  exact ⟨S, F, n, I, μ, e, E, by omega, he, hw, h, q.mono (by omega) (Same.refl I)⟩
/-- {} -/
def wDict0 (m : Bool) : WE := fun _ μ Q _ => sett m Q (.n (.dk [] [])) μ
/-! list(range(n)) -/
def wLrng (m : Bool) (a : WA) : WE := fun e μ Q X => a e μ (fun ds μ1 => one ds fun d => int1 d fun j => (0 ≤ j ∧ j ≤ 2 ^ 20) ∧ sett m Q (.n (.list (rangeD 0 j.toNat))) μ1) X
end
theorem len_mixed {c : Ctx} {vs : List V} {H : Hp} {Q : VK} {Ex : XK} {k : Nat} {x : Str} (h : SpW c wp_law_mixed k vs H Q Ex) : vs.length = [x].length := by
  obtain ⟨S, F, m, I, μ, ds, Qd, Xd, hl, w, r, h, _⟩ := h
  rw [← r.length]
  unfold wp_law_mixed at h
  split at h
  · rfl
  · exact h.elim
theorem len_take {c : Ctx} {vs : List V} {H : Hp} {Q : VK} {Ex : XK} {k : Nat} {x y : Str} (h : SpW c wp_law_take k vs H Q Ex) : vs.length = [x, y].length := by
  obtain ⟨S, F, m, I, μ, ds, Qd, Xd, hl, w, r, h, _⟩ := h
  rw [← r.length]
  unfold wp_law_take at h
  split at h
  · rfl
  · exact h.elim
theorem tabs_all {K : PySem.W.Frag} {tf : List (PySem.W.Frag → Addr)} {P : Addr × Addr → Prop} (h : ∀ f ∈ tf, P (codeAt K (f K), tabAt K (f K))) : ∀ p ∈ tabsOf K tf, P p := fun p hp => by
  obtain ⟨f, hf, rfl⟩ := List.mem_map.mp hp
  exact h f hf
theorem tabs_mem {K : PySem.W.Frag} {tf : List (PySem.W.Frag → Addr)} {f : PySem.W.Frag → Addr} (h : f ∈ tf) : (codeAt K (f K), tabAt K (f K)) ∈ tabsOf K tf := List.mem_map.mpr ⟨f, h, rfl⟩
end DL

set_option Elab.async false
set_option linter.all false
set_option maxRecDepth 100000
set_option maxHeartbeats 4000000
/-! A13: == of an own object and any thing of a known kind. -/
namespace DL
open PySem PySem.Spec PyProof.Rows L2
variable [Gds]
/-- no kind of thing comes ahead of the class -/
structure NotF (c : Ctx) (C : Addr) : Prop where
  ty : ∀ t ∈ tyNames, PySem.W.notFirst c.K C (.type t) = true
  cl : ∀ n ∈ c.ns ++ c.es, PySem.W.notFirst c.K C (.ref (c.cl n)) = true
theorem NotF.of {c : Ctx} {C : Addr} (h : NotF c C) {t : TyD} {u : Value} (q : TyV c t u) : PySem.W.notFirst c.K C u = true := by
  cases t with
  | b n =>
    obtain ⟨rfl, q⟩ := q
    exact h.ty _ q
  | o n =>
    obtain ⟨rfl, q⟩ := q
    exact h.cl _ q
section
variable {X : Cx} {c : Ctx} {W : WX} {k kf : Nat} {n : Str} {s : WP} {f : Addr} {fd : FuncData} {ps : List Str}
end
end DL

set_option Elab.async false
set_option linter.all false
set_option maxRecDepth 100000
set_option maxHeartbeats 4000000
/-! A14: keywords; all, any, insert, str of an int, is of bools, chains. -/
namespace DL
open PySem PyProof.Rows L2
variable [Gds]
/-! ### keywords: the values in the parameters' order -/
def permD {α : Type} (z : α) (js : List Nat) (xs : List α) : List α := js.map fun j => xs.getD j z
def waPerm (js : List Nat) (a : WA) : WA := fun e μ Q X => a e μ (fun ds μ1 => ds.length = js.length ∧ Q (permD D.none js ds) μ1) X
theorem getD_some {α : Type} {z x : α} {xs : List α} {j : Nat} (h : xs[j]? = some x) : xs.getD j z = x := by rw [List.getD, h]; rfl
section
variable {K : PySem.W.Frag} {x qual : Str} {params : Arguments} {body : List Stmt} {scope : Scope} {dvs : List V} {kws : List (Str × V)} {f : Addr} {fd : FuncData} {ps : List Str}
end
theorem _root_.L2.PK.imp {X : Cx} {kws : List Keyword} {t t' : TA} (h : PK X kws t) (i : ∀ σ H Q, t' σ H Q → t σ H Q) : PK X kws t' := ⟨fun pos pins s σ H Q J z => h.run pos pins s σ H Q J (i σ H Q z)⟩
section
variable {X : Cx} {c : Ctx} {W : WX} {k kf ka kb : Nat} {f C : Addr} {fd : FuncData} {ps ks : List Str} {sp : Sp} {s : WP} {js : List Nat} {x : Str} {p pos kpos : Pos} {e : Expr} {kws : List Keyword} {wr : WA} {wa : WE} {nm : Option Str}
end
/-! ### all, any of a list of bools -/
def boolsD : List D → Option (List Bool)
  | [] => some []
  | .bool b :: ds => (boolsD ds).map (b :: ·)
  | _ => Option.none
theorem bools_rep {c : Ctx} {S : Option SA} {I : Hp} : ∀ {ds : List D} {xs : List V} {bs : List Bool}, Reps c S I ds xs → boolsD ds = some bs → xs = bs.map V.bl
  | _, _, _, .nil, h => by cases h; rfl
  | _, _, bs, .cons r rs, h => by
    cases r with
    | bool =>
      simp only [boolsD, Option.map_eq_some_iff] at h
      obtain ⟨l, h1, rfl⟩ := h
      rw [bools_rep rs h1]
      rfl
    | _ => cases h
theorem boolsD_map (bs : List Bool) : boolsD (bs.map D.bool) = some bs := by
  induction bs with
  | nil => rfl
  | cons b bs ih => simp [boolsD, ih]
def cbBs (f : List Bool → Bool) : WC := fun xs μ Q _ => one xs fun x => match seqL μ x with
  | some ds => (match boolsD ds with
    | some bs => Q (.v (.bool (f bs))) μ
    | Option.none => False)
  | Option.none => False
abbrev cbAll : WC := cbBs fun bs => bs.all id
section
variable {X : Cx} {c : Ctx} {W : WX}
theorem w_all (hc : X.calm = true := by rfl) (hK : X.K = c.K := by rfl) : CbW X c (.builtin "all") cbAll := cbw_of (cr_all hc) fun S F n I μ ds vs H Qd Xd Q w rs h q => by
  obtain ⟨x, rfl, h2⟩ := one_cases h
  obtain ⟨v, rfl, rv⟩ := reps1 rs
  split at h2
  · rename_i ds e
    split at h2
    · rename_i bs e2
      obtain ⟨l, xs, rfl, h1, r1⟩ := seqL_rep w rv e
      rw [bools_rep r1 e2] at h1
      exact ⟨l, bs, rfl, SqL.of h1, q _ μ _ I H h2 (Same.refl I) w .bool⟩
    · exact h2.elim
  · exact h2.elim
/-! ### list.insert -/
/-! ### is, is not of bools -/
def oBB (f : Bool → Bool → Bool) : WOp := fun x y μ Q _ => match x with
  | .bool a => (match y with
    | .bool b => Q (.v (.bool (f a b))) μ
    | _ => False)
  | _ => False
abbrev oIsB : WOp := oBB fun a b => decide (a = b)
abbrev oNotB : WOp := oBB fun a b => !decide (a = b)
/-! ### a < b < c of ints -/
def wChain (p q : Int → Int → Bool) (a b d : WE) : WE := fun e μ Q X => a e μ (fun x μ1 => b e μ1 (fun y μ2 => int1 x fun i => int1 y fun j => if p i j = true then d e μ2 (fun z μ3 => int1 z fun k => Q (.bool (q j k)) μ3) X else Q (.bool false) μ2) X) X
variable {a b d : Expr} {wa wb wd : WE} {ka kb kc : Nat} {pos : Pos} {op op' : CmpOp} {p q : Int → Int → Bool}
theorem ld_chain {σ : L2.St} {H : Hp} {Q : VK} (h : ldE c W (ka + (kb + kc)) (wChain p q wa wb wd) σ H Q) : tChain (rI0 fun i j => .bl (p i j)) (rI0 fun i j => .bl (q i j)) (ldE c W ka wa) (ldE c W kb wb) (ldE c W kc wd) σ H Q := by
  obtain ⟨S, F, n, I, μ, e, Qd, Xd, hl, he, hw, h, qq, x⟩ := h
  refine ⟨S, F, n, I, μ, e, _, Xd, by omega, he, hw, h, fun da μ1 va I1 H1 pa s1 w1 ra => ?_, x.mono (by omega) (Same.refl I)⟩
  refine ⟨S, F, n + ka, I1, μ1, e, _, Xd, by omega, he.mono s1, w1, pa, fun db μ2 vb I2 H2 pb s2 w2 rb => ?_, x.mono (by omega) s1⟩
  obtain ⟨i, e1, pb1⟩ := int1_cases pb
  obtain ⟨j, e2, pb2⟩ := int1_cases pb1
  subst e1
  subst e2
  cases ra
  cases rb
  refine ⟨i, j, rfl, rfl, _, rfl, ite_b pb2 (fun _ h => ?_) fun _ h => qq _ μ2 _ I2 H2 h (s1.trans s2) (w2.up (by omega)) .bool⟩
  refine ⟨S, F, n + ka + kb, I2, μ2, e, _, Xd, by omega, he.mono (s1.trans s2), w2, h, fun dc μ3 vc I3 H3 pc s3 w3 rc => ?_, x.mono (by omega) (s1.trans s2)⟩
  obtain ⟨z, e3, pc1⟩ := int1_cases pc
  subst e3
  cases rc
  exact ⟨j, z, rfl, rfl, qq _ μ3 _ I3 H3 pc1 ((s1.trans s2).trans s3) (w3.up (by omega)) .bool⟩
theorem g_chain (ho : OpR X (compareOp op) (rI0 fun i j => .bl (p i j))) (ho' : OpR X (compareOp op') (rI0 fun i j => .bl (q i j))) (ha : GE X c W ka a wa) (hb : GE X c W kb b wb) (hc : GE X c W kc d wd) (hm : lastMarks [op, op'] [b, d] = false := by with_unfolding_all rfl) :
    GE X c W (ka + (kb + kc)) (.Compare a [op, op'] [b, d] pos) (wChain p q wa wb wd) := L2.PE.imp (pe_chain ho ho' ha hb hc hm) fun σ H Q h => ld_chain h
end
end DL

set_option Elab.async false
set_option linter.all false
set_option maxRecDepth 100000
set_option maxHeartbeats 4000000
/-! A15: == of tuples and lists that hold instances with an own ==. -/
namespace GQ2
open PySem PySem.SeqAt
open AutoSeq1 (wpAny_loadPart')
open MeetsSeq MeetsSeq2 MeetsSeq3 SeqRoads2
section
variable {prog : Program} {w : World} {A : Around} {R : Result → Shared → Prop}
end
section
variable {prog : Program} {w : World} {A : Around} {E : Value → Shared → Prop} {s : Shared}
end
end GQ2
namespace DL
open PySem PyProof.Rows L2
variable [Gds]
/-! ### equality of data with instances of one class -/
mutual
def eqO : D → D → Bool
  | .tup xs, .tup ys => eqOs xs ys
  | .list xs, .list ys => eqOs xs ys
  | .obj _ _ xs, .obj _ _ ys => eqOs xs ys
  | x, y => eqF x y
def eqOs : List D → List D → Bool
  | [], [] => true
  | x :: xs, y :: ys => eqO x y && eqOs xs ys
  | _, _ => false
end
mutual
/-- they can be compared; n, fs, P: of the instances -/
def cmpO (n : Str) (fs : List Str) (P : List D → Bool) : D → D → Bool
  | .tup xs, .tup ys => cmpOs n fs P xs ys
  | .list xs, .list ys => cmpOs n fs P xs ys
  | .obj n1 f1 xs, .obj n2 f2 ys => decide (n1 = n) && (decide (f1 = fs) && (P xs && (decide (n2 = n) && (decide (f2 = fs) && P ys))))
  | x, y => flatD x && flatD y
def cmpOs (n : Str) (fs : List Str) (P : List D → Bool) : List D → List D → Bool
  | x :: xs, y :: ys => cmpO n fs P x y && (!eqO x y || cmpOs n fs P xs ys)
  | _, _ => true
end
/-- what is known of the instances' own == -/
structure OwnE (X : Cx) (c : Ctx) (k : Nat) (n : Str) (fs : List Str) (P : List D → Bool) : Prop where
  ex : ∃ (f : Addr) (fd : FuncData) (ps : List Str) (s : WP), FnW X.prog X.w X.K X.mg X.base k f fd ps (SpW c s 0) ∧ Binds X.K fd ps [] ∧ PySem.W.notFirst X.K (c.cl n) (.ref (c.cl n)) = true ∧ Spl X.K (c.cl n) "__eq__" f ∧
    ∀ μ xs ys (Q : QD) (E : QD), P xs = true → P ys = true → Q (.bool (eqOs xs ys)) μ → s [.obj n fs xs, .obj n fs ys] μ Q E
  cm : ∀ xs ys, P xs = true → P ys = true → cmpOs n fs P xs ys = true
section
variable {X : Cx} {c : Ctx} {W : WX} {k m : Nat} {n : Str} {fs : List Str} {P : List D → Bool} {S : Option SA} {F : Hp} {μ : Mu}
/-- what stands behind a comparison -/
def EqEnd (X : Cx) (c : Ctx) (S : Option SA) (F : Hp) (m : Nat) (μ : Mu) (I : Hp) (pins : List (Addr × Obj)) (σ : L2.St) (s' : Shared) : Prop := ∃ I' H', Inv X pins σ H' s' ∧ Same I I' ∧ Wd c S F m I' μ H'
/-- the same, by the rich comparison of two things -/
def RcB (X : Cx) (c : Ctx) (S : Option SA) (F : Hp) (m : Nat) (μ : Mu) (kk : Nat) (x y : D) : Prop := ∀ (A : Around) (pins : List (Addr × Obj)) (s : Shared) (σ : L2.St) (I H : Hp) (a b : Addr), Sub X kk A → Gds.ok A → Inv X pins σ H s → Wd c S F m I μ H →
  Rep c S I x (.ref a) → Rep c S I y (.ref b) → wpAny (model X.prog X.w) A (richCompare .Eq (.ref a) (.ref b)) (fun v s' => v = .bool (eqO x y) ∧ EqEnd X c S F m μ I pins σ s') X.xe s
theorem RcB.mono {x y : D} {kk kk' : Nat} (h : RcB X c S F m μ kk x y) (hk : kk ≤ kk') : RcB X c S F m μ kk' x y := fun A pins s σ I H a b sb => h A pins s σ I H a b (sb.mono hk)
end
end DL

set_option Elab.async false
set_option linter.all false
set_option maxRecDepth 100000
set_option maxHeartbeats 4000000
/-! A16: what a def owns is let go at its end; displays of dicts with one pair. -/
namespace DL
open PySem PyProof.Rows L2
def subMu (μ2 μ1 : Mu) : Prop := ∀ b nd, μ2 b = some nd → μ1 b = some nd
/-- a def at whose end cells may be let go -/
def wDefD (n N : Nat) (b : WS) : WP := fun ds μ Q X => wDef n N b ds μ (fun d μ1 => ∃ μ2, subMu μ2 μ1 ∧ Q d μ2) X
theorem SpW.drop {c : Ctx} {n N : Nat} {b : WS} {k : Nat} {vs : List V} {H : Hp} {Q : VK} {Ex : XK} (h : SpW c (wDefD n N b) k vs H Q Ex) : SpW c (wDef n N b) k vs H Q Ex := by
  obtain ⟨S, F, m, I, μ, ds, Qd, Xd, hl, w, r, h, q, x⟩ := h
  refine ⟨S, F, m, I, μ, ds, _, Xd, hl, w, r, h, fun d μ' v I' H' p s w' r' => ?_, x⟩
  obtain ⟨μ2, e, p⟩ := p
  exact q d μ2 v I' H' p s (w'.drop e) r'
theorem subMu.refl (μ : Mu) : subMu μ μ := fun _ _ h => h
theorem subMu.trans {μ1 μ2 μ3 : Mu} (a : subMu μ1 μ2) (b : subMu μ2 μ3) : subMu μ1 μ3 := fun p nd h => b p nd (a p nd h)
theorem subMu.up {μ1 μ2 : Mu} {p : Addr} {nd : Nd} (a : subMu μ1 μ2) (h : μ2 p = Option.none) : subMu μ1 (up μ2 p nd) := fun b x e => by
  have q := a b x e
  rw [up_ne fun z => by rw [z, h] at q; cases q]
  exact q
/-- a cell that was not owned at first changes -/
theorem subMu.put {μ1 μ2 : Mu} {p : Addr} {nd : Nd} (a : subMu μ1 μ2) (h : μ1 p = Option.none) : subMu μ1 (DL.up μ2 p nd) := fun b x e => by
  rw [up_ne fun z => by rw [z, h] at e; cases e]
  exact a b x e
def keyD : D → Option Key
  | .int i => some (Sum.inl i)
  | .str s => some (Sum.inr s)
  | _ => Option.none
/-- {k: v} -/
def wDisp1 (m : Bool) (a b : WE) : WE := fun e μ Q X => a e μ (fun x μ1 => b e μ1 (fun y μ2 => match keyD x with
  | some k => sett m Q (.n (.dk [k] [y])) μ2
  | Option.none => False) X) X
/-- {(i, ..): v}, the key of ints as written -/
def wDispT (m : Bool) (ks : List Key) (b : WE) : WE := fun e μ Q X => b e μ (fun y μ2 => sett m Q (.n (.dt [ks] [y])) μ2) X
section
variable {X : Cx} {c : Ctx} {W : WX} {ka kb : Nat} {m : Bool} {a b : Expr} {wa wb : WE} {pos : Pos}
end
end DL

set_option Elab.async false
set_option linter.all false
set_option maxRecDepth 100000
set_option maxHeartbeats 0
set_option exponentiation.threshold 100000
namespace KLaw
open PySem PySem.Spec PyProof.Rows L2 DL
def topS (i : Nat) : Stmt := PySem.Challenge.pw_crossadds_k51_fates.main.body.getD i (.Pass ⟨0, 0, 0, 0⟩)
abbrev nsL : List Str := ["Program", "Rule", "Wedge"]
abbrev esL : List Str := ["CrossError", "BadRule", "BadPower", "BadProgram", "BadPoint", "BadCount", "NoCore"]
abbrev tf : List (PySem.W.Frag → Addr) := []
abbrev cx (K : PySem.W.Frag) : DL.Ctx := { K := K, cl := He.ga K, tb := [], ns := nsL, es := esL }
def d_law_mixed : DefX := ⟨fun K => (He.ga K "_law_mixed"), "_law_mixed", "_law_mixed", defArgs (topS 62), defBody (topS 62), defScope (topS 62), []⟩
def d_law_take : DefX := ⟨fun K => (He.ga K "_law_take"), "_law_take", "_law_take", defArgs (topS 63), defBody (topS 63), defScope (topS 63), []⟩
def d_law_pick : DefX := ⟨fun K => (He.ga K "_law_pick"), "_law_pick", "_law_pick", defArgs (topS 64), defBody (topS 64), defScope (topS 64), []⟩
def d_law_number : DefX := ⟨fun K => (He.ga K "_law_number"), "_law_number", "_law_number", defArgs (topS 65), defBody (topS 65), defScope (topS 65), []⟩
def d_law_curl : DefX := ⟨fun K => (He.ga K "_law_curl"), "_law_curl", "_law_curl", defArgs (topS 52), defBody (topS 52), defScope (topS 52), []⟩
def d_law_swing : DefX := ⟨fun K => (He.ga K "_law_swing"), "_law_swing", "_law_swing", defArgs (topS 53), defBody (topS 53), defScope (topS 53), []⟩
def d_law_tail : DefX := ⟨fun K => (He.ga K "_law_tail"), "_law_tail", "_law_tail", defArgs (topS 54), defBody (topS 54), defScope (topS 54), []⟩
def d_law_core : DefX := ⟨fun K => (He.ga K "_law_core"), "_law_core", "_law_core", defArgs (topS 55), defBody (topS 55), defScope (topS 55), []⟩
def d_law_small_core : DefX := ⟨fun K => (He.ga K "_law_small_core"), "_law_small_core", "_law_small_core", defArgs (topS 60), defBody (topS 60), defScope (topS 60), []⟩
def d_law_is_low : DefX := ⟨fun K => (He.ga K "_law_is_low"), "_law_is_low", "_law_is_low", defArgs (topS 67), defBody (topS 67), defScope (topS 67), []⟩
def d_is_list : DefX := ⟨fun K => (He.ga K "is_list"), "is_list", "is_list", defArgs (topS 13), defBody (topS 13), defScope (topS 13), []⟩
def d_is_number : DefX := ⟨fun K => (He.ga K "is_number_rules"), "is_number", "is_number", defArgs (topS 10), defBody (topS 10), defScope (topS 10), []⟩
def d_without_end : DefX := ⟨fun K => (He.ga K "without_end"), "without_end", "without_end", defArgs (topS 14), defBody (topS 14), defScope (topS 14), []⟩
def d_Rule___init__ : DefX := ⟨fun K => (He.ma K (He.ga K "Rule") "__init__"), "__init__", "Rule.__init__", defArgs (inClass (topS 15) 0), defBody (inClass (topS 15) 0), defScope (inClass (topS 15) 0), [.adr (fun K => He.dflAt ("Rule", some "__init__") 0 K)]⟩
def d_law_step_of : DefX := ⟨fun K => (He.ga K "_law_step_of"), "_law_step_of", "_law_step_of", defArgs (topS 70), defBody (topS 70), defScope (topS 70), []⟩
def d_is_step : DefX := ⟨fun K => (He.ga K "is_step"), "is_step", "is_step", defArgs (topS 22), defBody (topS 22), defScope (topS 22), []⟩
def d_Program___init__ : DefX := ⟨fun K => (He.ma K (He.ga K "Program") "__init__"), "__init__", "Program.__init__", defArgs (inClass (topS 25) 0), defBody (inClass (topS 25) 0), defScope (inClass (topS 25) 0), [.adr (fun K => He.dflAt ("Program", some "__init__") 0 K)]⟩
def d_law_program_of : DefX := ⟨fun K => (He.ga K "_law_program_of"), "_law_program_of", "_law_program_of", defArgs (topS 71), defBody (topS 71), defScope (topS 71), []⟩
def d_law_couples : DefX := ⟨fun K => (He.ga K "_law_couples"), "_law_couples", "_law_couples", defArgs (topS 56), defBody (topS 56), defScope (topS 56), []⟩
def d_law_sizes : DefX := ⟨fun K => (He.ga K "_law_sizes"), "_law_sizes", "_law_sizes", defArgs (topS 57), defBody (topS 57), defScope (topS 57), []⟩
def d_need_program_cores : DefX := ⟨fun K => (He.ga K "need_program_cores"), "need_program", "need_program", defArgs (topS 33), defBody (topS 33), defScope (topS 33), []⟩
def d_need_program : DefX := ⟨fun K => (He.ga K "need_program_programs"), "need_program", "need_program", defArgs (topS 26), defBody (topS 26), defScope (topS 26), []⟩
def d_Rule_degree : DefX := ⟨fun K => (recAt K "property" (He.ma K (He.ga K "Rule") "degree")), "degree", "Rule.degree", defArgs (inClass (topS 15) 2), defBody (inClass (topS 15) 2), defScope (inClass (topS 15) 2), []⟩
def d_is_from : DefX := ⟨fun K => (He.ga K "is_from"), "is_from", "is_from", defArgs (topS 12), defBody (topS 12), defScope (topS 12), []⟩
def d_Rule___getitem__ : DefX := ⟨fun K => (He.ma K (He.ga K "Rule") "__getitem__"), "__getitem__", "Rule.__getitem__", defArgs (inClass (topS 15) 5), defBody (inClass (topS 15) 5), defScope (inClass (topS 15) 5), []⟩
def d_is_bend : DefX := ⟨fun K => (He.ga K "is_bend"), "is_bend", "is_bend", defArgs (topS 29), defBody (topS 29), defScope (topS 29), []⟩
def d_is_quarter : DefX := ⟨fun K => (He.ga K "is_quarter"), "is_quarter", "is_quarter", defArgs (topS 30), defBody (topS 30), defScope (topS 30), []⟩
def d_is_plain : DefX := ⟨fun K => (He.ga K "is_plain"), "is_plain", "is_plain", defArgs (topS 31), defBody (topS 31), defScope (topS 31), []⟩
def d_Program_steps : DefX := ⟨fun K => (recAt K "property" (He.ma K (He.ga K "Program") "steps")), "steps", "Program.steps", defArgs (inClass (topS 25) 1), defBody (inClass (topS 25) 1), defScope (inClass (topS 25) 1), []⟩
def d_parts_of_cores : DefX := ⟨fun K => (He.ga K "parts_of"), "parts_of", "parts_of", defArgs (topS 35), defBody (topS 35), defScope (topS 35), []⟩
def d_are_core_parts : DefX := ⟨fun K => (He.ga K "are_core_parts"), "are_core_parts", "are_core_parts", defArgs (topS 36), defBody (topS 36), defScope (topS 36), []⟩
def d_is_core : DefX := ⟨fun K => (He.ga K "is_core"), "is_core", "is_core", defArgs (topS 37), defBody (topS 37), defScope (topS 37), []⟩
def d_need_core : DefX := ⟨fun K => (He.ga K "need_core"), "need_core", "need_core", defArgs (topS 38), defBody (topS 38), defScope (topS 38), []⟩
def d_with_end : DefX := ⟨fun K => (He.ga K "with_end"), "with_end", "with_end", defArgs (topS 43), defBody (topS 43), defScope (topS 43), []⟩
def d_couples_of : DefX := ⟨fun K => (He.ga K "couples_of"), "couples_of", "couples_of", defArgs (topS 44), defBody (topS 44), defScope (topS 44), []⟩
def d_Rule_coefficients : DefX := ⟨fun K => (recAt K "property" (He.ma K (He.ga K "Rule") "coefficients")), "coefficients", "Rule.coefficients", defArgs (inClass (topS 15) 1), defBody (inClass (topS 15) 1), defScope (inClass (topS 15) 1), []⟩
def d_lower_sum : DefX := ⟨fun K => (He.ga K "lower_sum"), "lower_sum", "lower_sum", defArgs (topS 45), defBody (topS 45), defScope (topS 45), []⟩
def d_least_height : DefX := ⟨fun K => (He.ga K "least_height"), "least_height", "least_height", defArgs (topS 46), defBody (topS 46), defScope (topS 46), []⟩
def d_least_reach : DefX := ⟨fun K => (He.ga K "least_reach"), "least_reach", "least_reach", defArgs (topS 47), defBody (topS 47), defScope (topS 47), []⟩
def d_Wedge___init__ : DefX := ⟨fun K => (He.ma K (He.ga K "Wedge") "__init__"), "__init__", "Wedge.__init__", defArgs (inClass (topS 48) 0), defBody (inClass (topS 48) 0), defScope (inClass (topS 48) 0), []⟩
def d_law_places : DefX := ⟨fun K => (He.ga K "_law_places"), "_law_places", "_law_places", defArgs (topS 72), defBody (topS 72), defScope (topS 72), []⟩
def d_law_is_within : DefX := ⟨fun K => (He.ga K "_law_is_within"), "_law_is_within", "_law_is_within", defArgs (topS 58), defBody (topS 58), defScope (topS 58), []⟩
def d_law_rule_at : DefX := ⟨fun K => (He.ga K "_law_rule_at"), "_law_rule_at", "_law_rule_at", defArgs (topS 66), defBody (topS 66), defScope (topS 66), []⟩
def d_law_step_done : DefX := ⟨fun K => (He.ga K "_law_step_done"), "_law_step_done", "_law_step_done", defArgs (topS 68), defBody (topS 68), defScope (topS 68), []⟩
def d_law_run : DefX := ⟨fun K => (He.ga K "_law_run"), "_law_run", "_law_run", defArgs (topS 69), defBody (topS 69), defScope (topS 69), []⟩
def d_law_fate : DefX := ⟨fun K => (He.ga K "_law_fate"), "_law_fate", "_law_fate", defArgs (topS 59), defBody (topS 59), defScope (topS 59), []⟩
def d_is_number_fates : DefX := ⟨fun K => (He.ga K "is_number_fates"), "is_number", "is_number", defArgs (topS 40), defBody (topS 40), defScope (topS 40), []⟩
def d_is_point : DefX := ⟨fun K => (He.ga K "is_point"), "is_point", "is_point", defArgs (topS 42), defBody (topS 42), defScope (topS 42), []⟩
def d_Wedge___contains__ : DefX := ⟨fun K => (He.ma K (He.ga K "Wedge") "__contains__"), "__contains__", "Wedge.__contains__", defArgs (inClass (topS 48) 5), defBody (inClass (topS 48) 5), defScope (inClass (topS 48) 5), []⟩
def d_need_point : DefX := ⟨fun K => (He.ga K "need_point"), "need_point", "need_point", defArgs (topS 20), defBody (topS 20), defScope (topS 20), []⟩
def d_row_value : DefX := ⟨fun K => (He.ga K "row_value"), "row_value", "row_value", defArgs (topS 16), defBody (topS 16), defScope (topS 16), []⟩
def d_done : DefX := ⟨fun K => (He.ga K "done"), "done", "done", defArgs (topS 23), defBody (topS 23), defScope (topS 23), []⟩
def d_Program___call__ : DefX := ⟨fun K => (He.ma K (He.ga K "Program") "__call__"), "__call__", "Program.__call__", defArgs (inClass (topS 25) 3), defBody (inClass (topS 25) 3), defScope (inClass (topS 25) 3), []⟩
def d_fate_by : DefX := ⟨fun K => (He.ga K "fate_by"), "fate_by", "fate_by", defArgs (topS 49), defBody (topS 49), defScope (topS 49), []⟩
def d_fate : DefX := ⟨fun K => (He.ga K "fate"), "fate", "fate", defArgs (topS 50), defBody (topS 50), defScope (topS 50), []⟩
def d_law_begun : DefX := ⟨fun K => (He.ga K "_law_begun"), "_law_begun", "_law_begun", defArgs (topS 61), defBody (topS 61), defScope (topS 61), []⟩
def d_law : DefX := ⟨fun K => (He.ga K "law"), "law", "law", defArgs (topS 73), defBody (topS 73), defScope (topS 73), []⟩
def d_BadProgram___init__ : DefX := ⟨fun K => (He.ma K (He.ga K "BadProgram") "__init__"), "__init__", "BadProgram.__init__", defArgs (inClass (topS 5) 0), defBody (inClass (topS 5) 0), defScope (inClass (topS 5) 0), []⟩
def d_BadRule___init__ : DefX := ⟨fun K => (He.ma K (He.ga K "BadRule") "__init__"), "__init__", "BadRule.__init__", defArgs (inClass (topS 3) 0), defBody (inClass (topS 3) 0), defScope (inClass (topS 3) 0), []⟩
def bsA1 : List (PySem.W.Frag → Bool) := [fun K => (He.Fa.glo "BadPoint").ok K,
  fun K => (He.Fa.glo "BadPower").ok K,
  fun K => (He.Fa.glo "BadProgram").ok K,
  fun K => (He.Fa.glo "BadRule").ok K,
  fun K => (He.Fa.glo "CrossError").ok K,
  fun K => (He.Fa.glo "NoCore").ok K,
  fun K => (He.Fa.glo "Program").ok K,
  fun K => (He.Fa.glo "Rule").ok K,
  fun K => (He.Fa.glo "Wedge").ok K,
  fun K => (He.Fa.glo "_law_begun").ok K,
  fun K => (He.Fa.glo "_law_core").ok K,
  fun K => (He.Fa.glo "_law_couples").ok K,
  fun K => (He.Fa.glo "_law_curl").ok K,
  fun K => (He.Fa.glo "_law_fate").ok K,
  fun K => (He.Fa.glo "_law_is_low").ok K,
  fun K => (He.Fa.glo "_law_is_within").ok K,
  fun K => (He.Fa.glo "_law_mixed").ok K,
  fun K => (He.Fa.glo "_law_number").ok K,
  fun K => (He.Fa.glo "_law_pick").ok K,
  fun K => (He.Fa.glo "_law_places").ok K,
  fun K => (He.Fa.glo "_law_program_of").ok K,
  fun K => (He.Fa.glo "_law_rule_at").ok K,
  fun K => (He.Fa.glo "_law_run").ok K,
  fun K => (He.Fa.glo "_law_sizes").ok K,
  fun K => (He.Fa.glo "_law_small_core").ok K,
  fun K => (He.Fa.glo "_law_step_done").ok K]
def bsA2 : List (PySem.W.Frag → Bool) := [fun K => (He.Fa.glo "_law_step_of").ok K,
  fun K => (He.Fa.glo "_law_swing").ok K,
  fun K => (He.Fa.glo "_law_tail").ok K,
  fun K => (He.Fa.glo "_law_take").ok K,
  fun K => (He.Fa.glo "are_core_parts").ok K,
  fun K => (He.Fa.glo "couples_of").ok K,
  fun K => (He.Fa.glo "done").ok K,
  fun K => (He.Fa.glo "fate").ok K,
  fun K => (He.Fa.glo "fate_by").ok K,
  fun K => (He.Fa.glo "is_bend").ok K,
  fun K => (He.Fa.glo "is_core").ok K,
  fun K => (He.Fa.glo "is_from").ok K,
  fun K => (He.Fa.glo "is_list").ok K,
  fun K => (He.Fa.glo "is_number_fates").ok K,
  fun K => (He.Fa.glo "is_number_rules").ok K,
  fun K => (He.Fa.glo "is_plain").ok K,
  fun K => (He.Fa.glo "is_point").ok K,
  fun K => (He.Fa.glo "is_quarter").ok K,
  fun K => (He.Fa.glo "is_step").ok K,
  fun K => (He.Fa.glo "least_height").ok K,
  fun K => (He.Fa.glo "least_reach").ok K,
  fun K => (He.Fa.glo "lower_sum").ok K,
  fun K => (He.Fa.glo "need_core").ok K,
  fun K => (He.Fa.glo "need_point").ok K,
  fun K => (He.Fa.glo "need_program_cores").ok K,
  fun K => (He.Fa.glo "need_program_programs").ok K]
def bsA3 : List (PySem.W.Frag → Bool) := [fun K => (He.Fa.glo "parts_of").ok K,
  fun K => (He.Fa.glo "row_value").ok K,
  fun K => (He.Fa.glo "with_end").ok K,
  fun K => (He.Fa.glo "without_end").ok K,
  fun K => (He.Fa.glo "law").ok K,
  fun K => (He.Fa.free "abs").ok K,
  fun K => (He.Fa.free "all").ok K,
  fun K => (He.Fa.free "bool").ok K,
  fun K => (He.Fa.free "enumerate").ok K,
  fun K => (He.Fa.free "int").ok K,
  fun K => (He.Fa.free "isinstance").ok K,
  fun K => (He.Fa.free "len").ok K,
  fun K => (He.Fa.free "list").ok K,
  fun K => (He.Fa.free "max").ok K,
  fun K => (He.Fa.free "min").ok K,
  fun K => (He.Fa.free "range").ok K,
  fun K => (He.Fa.free "repr").ok K,
  fun K => (He.Fa.free "str").ok K,
  fun K => (He.Fa.free "sum").ok K,
  fun K => (He.Fa.free "tuple").ok K,
  fun K => (He.Fa.free "zip").ok K,
  ctxB nsL esL,
  fun K => callB K (He.ga K "Program"),
  fun K => (He.Fa.cls "Program").ok K,
  fun K => (He.Fa.cls "Rule").ok K,
  fun K => (He.Fa.cls "Wedge").ok K]
def bsA4 : List (PySem.W.Frag → Bool) := [fun K => noneB (PySem.W.nsIn K cStatics "sys.int_max_str_digits"),
  fun K => eriB K (He.ga K "BadProgram") (He.ma K (He.ga K "BadProgram") "__init__") "at",
  fun K => eriB K (He.ga K "BadRule") (He.ma K (He.ga K "BadRule") "__init__") "at",
  fun K => erB K (He.ga K "BadPoint"),
  fun K => erB K (He.ga K "BadPower"),
  fun K => erB K (He.ga K "NoCore"),
  fun K => PySem.W.fnIn K (He.ma K (He.ga K "Rule") "__getitem__"),
  fun K => (He.Fa.mkr "Program").ok K,
  fun K => (He.Fa.mkr "Rule").ok K,
  fun K => (He.Fa.mkr "Wedge").ok K,
  fun K => (He.Fa.noat "Program" "own_steps").ok K,
  fun K => (He.Fa.noat "Rule" "own_numbers").ok K,
  fun K => (He.Fa.noat "Wedge" "own_core").ok K,
  fun K => (He.Fa.noat "Wedge" "own_height").ok K,
  fun K => (He.Fa.noat "Wedge" "own_reach").ok K,
  fun K => (He.Fa.noat "Wedge" "own_width").ok K,
  fun K => propB K (He.ga K "Program") "steps",
  fun K => propB K (He.ga K "Rule") "coefficients",
  fun K => propB K (He.ga K "Rule") "degree",
  fun K => splB K (He.ga K "Rule") "__getitem__",
  fun K => splB K (He.ga K "Wedge") "__contains__",
  fun K => creadB K (He.ga K "CrossError"),
  fun K => vInit K (He.ga K "CrossError")]
def bs1 : List (PySem.W.Frag → Bool) := bsA1 ++ bsA2
def bs2 : List (PySem.W.Frag → Bool) := bsA3 ++ bsA4
def bs : List (PySem.W.Frag → Bool) := bs1 ++ bs2
def fnA1 : List DefX := [d_law_mixed, d_law_take, d_law_pick, d_law_number, d_law_curl, d_law_swing, d_law_tail, d_law_core, d_law_small_core, d_law_is_low, d_is_list, d_is_number, d_without_end, d_Rule___init__, d_law_step_of, d_is_step, d_Program___init__, d_law_program_of, d_law_couples, d_law_sizes]
def fnA2 : List DefX := [d_need_program_cores, d_need_program, d_Rule_degree, d_is_from, d_Rule___getitem__, d_is_bend, d_is_quarter, d_is_plain, d_Program_steps, d_parts_of_cores, d_are_core_parts, d_is_core, d_need_core, d_with_end, d_couples_of, d_Rule_coefficients, d_lower_sum, d_least_height, d_least_reach, d_Wedge___init__]
def fnA3 : List DefX := [d_law_places, d_law_is_within, d_law_rule_at, d_law_step_done, d_law_run, d_law_fate, d_is_number_fates, d_is_point, d_Wedge___contains__, d_need_point, d_row_value, d_done, d_Program___call__, d_fate_by, d_fate, d_law_begun, d_law, d_BadProgram___init__, d_BadRule___init__]
def fn : List DefX := fnA1 ++ (fnA2 ++ fnA3)
abbrev R : PySem.W.OpenRow := PySem.W.OpenLaw.row PySem.Challenge.rw_crossadds_k51_fates
def loose0 : List Str := ["_wall", "__name__", "CrossError", "BadRule", "BadPower", "BadProgram", "BadPoint", "BadCount", "NoCore", "is_number", "is_number_rules", "is_from", "is_list", "without_end", "Rule", "row_value", "row_sum", "row_product", "need_point", "is_step", "done", "undone", "Program", "need_program", "need_program_programs", "is_bend", "is_quarter", "is_plain", "need_program_cores", "parts_of"]
def loose1 : List Str := ["are_core_parts", "is_core", "need_core", "is_number_fates", "is_point", "with_end", "couples_of", "lower_sum", "least_height", "least_reach", "Wedge", "fate_by", "fate", "_law_curl", "_law_swing", "_law_tail", "_law_core", "_law_couples", "_law_sizes", "_law_is_within", "_law_fate", "_law_small_core", "_law_begun", "_law_mixed", "_law_take", "_law_pick", "_law_number", "_law_rule_at", "_law_is_low", "_law_step_done"]
def loose2 : List Str := ["_law_run", "_law_step_of", "_law_program_of", "_law_places"]
abbrev loose : List Str := loose0 ++ loose1 ++ loose2
abbrev hk : PySem.W.Hook := hookY 7 bs fn tf
def ob (s : PySem.W.SharedT) : AlY := obsY 7 bs fn tf (HandSHeadRun.getT s)
theorem ob_eq (s : PySem.W.SharedT) : ob s = hk.obs s.abs := obsY_eq (HandSHeadRun.getT_eq s)
theorem p_three {α β γ δ : Type} {x : Option α} {f : α → β} {g : α → γ} {h : α → δ} {a : β} {b : γ} {c : δ} (h1 : x.map f = some a) (h2 : x.map g = some b) (h3 : x.map h = some c) : x.map (fun s => (f s, g s, h s)) = some (a, b, c) := by cases x with | none => cases h1 | some y => cases h1; cases h2; cases h3; rfl
theorem p_join {α : Type} {x : Option α} {b1 b2 : List (PySem.W.Frag → Bool)} {fn : List DefX} {tf : List (PySem.W.Frag → Addr)} {G : α → Addr → Option Obj} (h1 : x.map (fun s => b1.all fun b => b (He.frT (G s) (asY (G s) 7))) = some true) (h2 : x.map (fun s => b2.all fun b => b (He.frT (G s) (asY (G s) 7))) = some true) (h3 : x.map (fun s => (fn.all (fun d => d.ok (He.frT (G s) (asY (G s) 7))), tabsY (G s) tf (He.frT (G s) (asY (G s) 7)))) = some (true, true)) (h4 : x.map (fun s => fn.map fun d => fnX (He.frT (G s) (asY (G s) 7)) (d.at_ (He.frT (G s) (asY (G s) 7)))) = some (fn.map DefX.val)) : x.map (fun s => obsY 7 (b1 ++ b2) fn tf (G s)) = some (valX fn, true) := by
  cases x with
  | none => cases h1
  | some s =>
    have e1 := Option.some.inj h1
    have e2 := Option.some.inj h2
    have e3 := Option.some.inj h3
    have e4 := Option.some.inj h4
    have e5 := congrArg Prod.fst e3
    have e6 := congrArg Prod.snd e3
    dsimp only at e1 e2 e4 e5 e6
    show some (obsY 7 (b1 ++ b2) fn tf (G s)) = _
    unfold obsY obsX valX
    rw [List.all_append, e1, e2, e5, e6, e4]
    rfl
open PySem PySem.W PySem.Calls HandSHeadRun in theorem p_look (w : PySem.World) (os : PySem.OsState) : (endF (stepQ (denQ tabQ) R.prog w) 8000 R.prog w os).map (fun s => looksF R.prog (boot_heap w.params) s.abs) = some (true) := by kernel_rfl
open PySem PySem.W PySem.Calls HandSHeadRun in theorem p_seen (w : PySem.World) (os : PySem.OsState) : (endF (stepQ (denQ tabQ) R.prog w) 8000 R.prog w os).map (fun s => seenQ (PySem.W.view R.prog [73]) loose (importedModules R.prog.main.body) (fun s => xlAt (PySem.W.view R.prog [73]) [] s && recOk R.toRowW.records s) s.abs) = some (openGood (PySem.W.view R.prog [73]) loose) := by kernel_rfl
open PySem PySem.W PySem.Calls HandSHeadRun in theorem p_ob1 (w : PySem.World) (os : PySem.OsState) : (endF (stepQ (denQ tabQ) R.prog w) 8000 R.prog w os).map (fun s => bs1.all fun b => b (He.frT (HandSHeadRun.getT s) (asY (HandSHeadRun.getT s) 7))) = some (true) := by kernel_rfl
open PySem PySem.W PySem.Calls HandSHeadRun in theorem p_ob2 (w : PySem.World) (os : PySem.OsState) : (endF (stepQ (denQ tabQ) R.prog w) 8000 R.prog w os).map (fun s => bs2.all fun b => b (He.frT (HandSHeadRun.getT s) (asY (HandSHeadRun.getT s) 7))) = some (true) := by kernel_rfl
open PySem PySem.W PySem.Calls HandSHeadRun in theorem p_ob3 (w : PySem.World) (os : PySem.OsState) : (endF (stepQ (denQ tabQ) R.prog w) 8000 R.prog w os).map (fun s => (fn.all (fun d => d.ok (He.frT (HandSHeadRun.getT s) (asY (HandSHeadRun.getT s) 7))), tabsY (HandSHeadRun.getT s) tf (He.frT (HandSHeadRun.getT s) (asY (HandSHeadRun.getT s) 7)))) = some ((true, true)) := by kernel_rfl
open PySem PySem.W PySem.Calls HandSHeadRun in theorem p_ob4 (w : PySem.World) (os : PySem.OsState) : (endF (stepQ (denQ tabQ) R.prog w) 8000 R.prog w os).map (fun s => fn.map fun d => fnX (He.frT (HandSHeadRun.getT s) (asY (HandSHeadRun.getT s) 7)) (d.at_ (He.frT (HandSHeadRun.getT s) (asY (HandSHeadRun.getT s) 7)))) = some (fn.map DefX.val) := by kernel_rfl
open PySem PySem.W PySem.Calls HandSHeadRun in theorem p_ob (w : PySem.World) (os : PySem.OsState) : (endF (stepQ (denQ tabQ) R.prog w) 8000 R.prog w os).map (fun s => ob s) = some (hk.val w) := p_join (p_ob1 w os) (p_ob2 w os) (p_ob3 w os) (p_ob4 w os)
theorem run (w : PySem.World) : HandSHeadRun.RunEq R (PySem.W.view R.prog [73]) hk ob 8000 loose w := by
  intro os
  exact p_three (p_look w os) (p_seen w os) (p_ob w os)
end KLaw
set_option Elab.async false
set_option linter.all false
set_option maxRecDepth 100000
set_option maxHeartbeats 4000000
/-! A17: len by an own __len__, a tuple times a number, != of a tuple and (). -/
namespace DL
open PySem PyProof.Rows L2
variable [Gds]
section
variable {X : Cx} {c : Ctx} {W : WX} {k : Nat} {n : Str} {s : WP} {f : Addr} {fd : FuncData} {ps : List Str}
end
end DL

set_option Elab.async false
set_option linter.all false
set_option maxRecDepth 100000
set_option maxHeartbeats 4000000
/-! A18: what each wish says, as equations (printed by tools/mku.py). -/
namespace DL
open PySem PyProof.Rows L2
theorem Jbv (n N : Nat) (b : WS) (ds : List D) (μ : Mu) (Q : QD) (X : QD) : wDef n N b ds μ Q X = (ds.length = n ∧ b (initE N ds) μ ⟨fun _ μ1 => Q .none μ1, Q, fun _ _ => False, fun _ _ => False, fun d _ μ1 => X d μ1⟩) := propext Iff.rfl
theorem Jcs (a b : WS) (e : EnvD) (μ : Mu) (E : WEnds) : wSeq a b e μ E = (a e μ { E with nx := fun e1 μ1 => b e1 μ1 E }) := propext Iff.rfl
theorem Jce (e : EnvD) (μ : Mu) (E : WEnds) : wNext e μ E = (E.nx e μ) := propext Iff.rfl
theorem Jbl (i : Nat) (a : WE) (e : EnvD) (μ : Mu) (E : WEnds) : wAsg i a e μ E = (a e μ (fun d μ1 => E.nx (st e i (some d)) μ1) fun d μ1 => E.xp d e μ1) := propext Iff.rfl
theorem Jbm (g : WG) (a : WE) (e : EnvD) (μ : Mu) (E : WEnds) : wAsgG g a e μ E = (a e μ (fun d μ1 => g d e fun e1 => E.nx e1 μ1) fun d μ1 => E.xp d e μ1) := propext Iff.rfl
theorem Jc0 (a : WE) (e : EnvD) (μ : Mu) (E : WEnds) : wDrop a e μ E = (a e μ (fun _ μ1 => E.nx e μ1) fun d μ1 => E.xp d e μ1) := propext Iff.rfl
theorem Jcn (a : WE) (e : EnvD) (μ : Mu) (E : WEnds) : wRet a e μ E = (a e μ E.rt fun d μ1 => E.xp d e μ1) := propext Iff.rfl
theorem Jco (u0' : EnvD) (μ : Mu) (E : WEnds) : wRetN u0' μ E = (E.rt .none μ) := propext Iff.rfl
theorem Jc6 (t : WT) (a b : WS) (e : EnvD) (μ : Mu) (E : WEnds) : wIfS t a b e μ E = (t e μ (fun k μ1 => if k = true then a e μ1 E else b e μ1 E) fun d μ1 => E.xp d e μ1) := propext Iff.rfl
theorem Jck (i j : Nat) (a : WA) (e : EnvD) (μ : Mu) (E : WEnds) : wPar i j a e μ E = (a e μ (fun ds μ1 => match ds with
  | [x, y] => E.nx (st (st e i (some x)) j (some y)) μ1
  | _ => False) fun d μ1 => E.xp d e μ1) := propext Iff.rfl
theorem Jbn (i : Nat) (f : Int → Int → Int) (a : WE) (e : EnvD) (μ : Mu) (E : WEnds) : wAug i f a e μ E = (match gt e i with
  | some (.int x) => a e μ (fun d μ1 => match d with
    | .int y => E.nx (st e i (some (.int (f x y)))) μ1
    | _ => False) fun d μ1 => E.xp d e μ1
  | _ => False) := propext Iff.rfl
theorem Jcu (v o i : WE) (e : EnvD) (μ : Mu) (E : WEnds) : wSetL v o i e μ E = (v e μ (fun d μ1 => o e μ1 (fun x μ2 => i e μ2 (fun y μ3 => match x, y with
  | .cell p, .int k => (match ndL (μ3 p) with
    | some ds => (match ixN ds.length k with
      | some j => E.nx e (up μ3 p (.list (ds.set j d)))
      | Option.none => False)
    | Option.none => False)
  | _, _ => False) fun d μ1 => E.xp d e μ1) fun d μ1 => E.xp d e μ1) fun d μ1 => E.xp d e μ1) := propext Iff.rfl
theorem Jbo (e : EnvD) (μ : Mu) (E : WEnds) : wBreak e μ E = (E.bk e μ) := propext Iff.rfl
theorem Jbu (e : EnvD) (μ : Mu) (E : WEnds) : wCont e μ E = (E.ct e μ) := propext Iff.rfl
theorem Jd6 (i : Nat) (d : D) (e : EnvD) (Q : EnvD → Prop) : wgN i d e Q = (Q (st e i (some d))) := propext Iff.rfl
theorem Jd7 (ds : List D) (e : EnvD) (Q : EnvD → Prop) : wgNil ds e Q = (match ds with
  | [] => Q e
  | _ => False) := propext Iff.rfl
theorem Jd5 (g : WG) (gs : WGs) (ds : List D) (e : EnvD) (Q : EnvD → Prop) : wgCons g gs ds e Q = (match ds with
  | d :: ds => g d e fun e1 => gs ds e1 Q
  | _ => False) := propext Iff.rfl
theorem Jd8 (n : Nat) (gs : WGs) (d : D) (e : EnvD) (Q : EnvD → Prop) : wgTup n gs d e Q = (match d with
  | .tup ds => ds.length = n ∧ gs ds e Q
  | _ => False) := propext Iff.rfl
theorem Jdd (a : WE) (e : EnvD) (μ : Mu) (Q : Src → Mu → Prop) (X : QD) : wiSeq a e μ Q X = (a e μ (fun d μ1 => match sqD μ1 d with
  | some ds => Q ⟨ds, okS d ds⟩ μ1
  | Option.none => False) X) := propext Iff.rfl
theorem Jda (a : WA) (e : EnvD) (μ : Mu) (Q : Src → Mu → Prop) (X : QD) : wiRng1 a e μ Q X = (a e μ (fun ds μ1 => one ds fun x => int1 x fun j => inR j ∧ Q ⟨rangeD 0 j.toNat, fun _ => True⟩ μ1) X) := propext Iff.rfl
theorem Jdb (a : WA) (e : EnvD) (μ : Mu) (Q : Src → Mu → Prop) (X : QD) : wiRng2 a e μ Q X = (a e μ (fun ds μ1 => two ds fun x y => int1 x fun lo => int1 y fun hi => inR lo ∧ inR hi ∧ Q ⟨rangeD lo (hi - lo).toNat, fun _ => True⟩ μ1) X) := propext Iff.rfl
theorem Jd9 (a : WA) (e : EnvD) (μ : Mu) (Q : Src → Mu → Prop) (X : QD) : wiEnum a e μ Q X = (a e μ (fun ds μ1 => one ds fun d => match sqD μ1 d with
  | some xs => Q ⟨enumD 0 xs, okS d xs⟩ μ1
  | Option.none => False) X) := propext Iff.rfl
theorem Jc3 (s : WI) (g : WG) (b : WS) (e : EnvD) (μ : Mu) (E : WEnds) : wFor s g b e μ E = (s e μ (fun s μ1 => s.xs.length ≤ 2 ^ 63 ∧ goFor s.ok g b s.xs e μ1 E) fun d μ1 => E.xp d e μ1) := propext Iff.rfl
theorem Jc8 (m : Bool) (s : WI) (g : WG) (t : WT) (a : WE) (vs : List Nat) (e : EnvD) (μ : Mu) (Q : QD) (X : QD) : wLc m s g t a vs e μ Q X = (s e μ (fun s μ1 => s.xs.length ≤ sizeLine ∧ goLc s.ok g t a (wipeE e vs) (fun _ _ => False) s.xs [] μ1 fun ds μ2 => sett m Q (.n (.list ds)) μ2) X) := propext Iff.rfl
theorem Jd0 (u0' : EnvD) (μ : Mu) (Q : Bool → Mu → Prop) (u1' : QD) : wYes u0' μ Q u1' = (Q true μ) := propext Iff.rfl
theorem Jcz (i : Nat) (e : EnvD) (μ : Mu) (Q : QD) (u0' : QD) : wV i e μ Q u0' = (match gt e i with
  | some d => Q d μ
  | Option.none => False) := propext Iff.rfl
theorem Jc7 (d : D) (u0' : EnvD) (μ : Mu) (Q : QD) (u1' : QD) : wK d u0' μ Q u1' = (Q d μ) := propext Iff.rfl
theorem Jch (m : Bool) (o : WOp) (a b : WE) (e : EnvD) (μ : Mu) (Q : QD) (X : QD) : wOp m o a b e μ Q X = (a e μ (fun x μ1 => b e μ1 (fun y μ2 => o x y μ2 (sett m Q) X) X) X) := propext Iff.rfl
theorem Jcy (m : Bool) (o : WU) (a : WE) (e : EnvD) (μ : Mu) (Q : QD) (X : QD) : wUn m o a e μ Q X = (a e μ (fun x μ1 => o x μ1 (sett m Q) X) X) := propext Iff.rfl
theorem Jcx (a : WA) (e : EnvD) (μ : Mu) (Q : QD) (X : QD) : wTup a e μ Q X = (a e μ (fun xs μ1 => xs.length ≤ sizeLine ∧ Q (.tup xs) μ1) X) := propext Iff.rfl
theorem Jcb (m : Bool) (a : WA) (e : EnvD) (μ : Mu) (Q : QD) (X : QD) : wLst m a e μ Q X = (a e μ (fun xs μ1 => xs.length ≤ sizeLine ∧ sett m Q (.n (.list xs)) μ1) X) := propext Iff.rfl
theorem Jbs (m : Bool) (o : WC) (a : WA) (e : EnvD) (μ : Mu) (Q : QD) (X : QD) : wCb m o a e μ Q X = (a e μ (fun xs μ1 => o xs μ1 (sett m Q) X) X) := propext Iff.rfl
theorem Jcw (a : WE) (e : EnvD) (μ : Mu) (Q : Bool → Mu → Prop) (X : QD) : wTst a e μ Q X = (a e μ (fun x μ1 => match x with
  | .bool b => Q b μ1
  | _ => False) X) := propext Iff.rfl
theorem Jcg (t : WT) (e : EnvD) (μ : Mu) (Q : Bool → Mu → Prop) (X : QD) : wNotT t e μ Q X = (t e μ (fun b μ1 => Q (!b) μ1) X) := propext Iff.rfl
theorem Jbk (t u : WT) (e : EnvD) (μ : Mu) (Q : Bool → Mu → Prop) (X : QD) : wAndT t u e μ Q X = (t e μ (fun b μ1 => if b = true then u e μ1 Q X else Q false μ1) X) := propext Iff.rfl
theorem Jcj (t u : WT) (e : EnvD) (μ : Mu) (Q : Bool → Mu → Prop) (X : QD) : wOrT t u e μ Q X = (t e μ (fun b μ1 => if b = true then Q true μ1 else u e μ1 Q X) X) := propext Iff.rfl
theorem Jc5 (t : WT) (a b : WE) (e : EnvD) (μ : Mu) (Q : QD) (X : QD) : wIf t a b e μ Q X = (t e μ (fun k μ1 => if k = true then a e μ1 Q X else b e μ1 Q X) X) := propext Iff.rfl
theorem Jbj (a b : WE) (e : EnvD) (μ : Mu) (Q : QD) (X : QD) : wAnd a b e μ Q X = (a e μ (fun x μ1 => match x with
  | .bool k => if k = true then b e μ1 Q X else Q (.bool false) μ1
  | _ => False) X) := propext Iff.rfl
theorem Jci (a b : WE) (e : EnvD) (μ : Mu) (Q : QD) (X : QD) : wOr a b e μ Q X = (a e μ (fun x μ1 => match x with
  | .bool k => if k = true then Q (.bool true) μ1 else b e μ1 Q X
  | _ => False) X) := propext Iff.rfl
theorem Jcf (a : WE) (e : EnvD) (μ : Mu) (Q : QD) (X : QD) : wNot a e μ Q X = (a e μ (fun x μ1 => match x with
  | .bool k => Q (.bool (!k)) μ1
  | _ => False) X) := propext Iff.rfl
theorem Jd2 (u0' : EnvD) (μ : Mu) (Q : List D → Mu → Prop) (u1' : QD) : waNil u0' μ Q u1' = (Q [] μ) := propext Iff.rfl
theorem Jd1 (a : WE) (r : WA) (e : EnvD) (μ : Mu) (Q : List D → Mu → Prop) (X : QD) : waCons a r e μ Q X = (a e μ (fun x μ1 => r e μ1 (fun xs μ2 => Q (x :: xs) μ2) X) X) := propext Iff.rfl
theorem Jd4 (a : WE) (r : WA) (e : EnvD) (μ : Mu) (Q : List D → Mu → Prop) (X : QD) : waStar a r e μ Q X = (a e μ (fun x μ1 => match sqD μ1 x with
  | some ds => r e μ1 (fun es μ2 => Q (ds ++ es) μ2) X
  | Option.none => False) X) := propext Iff.rfl
theorem Jbp (s : WP) (dd : List D) (a : WA) (e : EnvD) (μ : Mu) (Q : QD) (X : QD) : wCall s dd a e μ Q X = (a e μ (fun ds μ1 => s (ds ++ dd) μ1 Q X) X) := propext Iff.rfl
theorem Jcd (n m : Str) (s : WP) (dd : List D) (r : WE) (a : WA) (e : EnvD) (μ : Mu) (Q : QD) (X : QD) : wMeth n m s dd r a e μ Q X = (r e μ (fun x μ1 => isOf n m μ1 x (a e μ1 (fun ds μ2 => s (x :: (ds ++ dd)) μ2 Q X) X)) X) := propext Iff.rfl
theorem Jcm (n f : Str) (s : WP) (r : WE) (e : EnvD) (μ : Mu) (Q : QD) (X : QD) : wProp n f s r e μ Q X = (r e μ (fun x μ1 => isOf n f μ1 x (s [x] μ1 Q fun _ _ => False)) X) := propext Iff.rfl
theorem Jc2 (n f : Str) (r : WE) (e : EnvD) (μ : Mu) (Q : QD) (X : QD) : wFld n f r e μ Q X = (r e μ (fun x μ1 => match asObj μ1 x with
  | some (k, fs, ds) => k = n ∧ (match fldD f fs ds with
    | some d => Q d μ1
    | Option.none => False)
  | Option.none => False) X) := propext Iff.rfl
theorem Jct (n f : Str) (o v : WE) (e : EnvD) (μ : Mu) (E : WEnds) : wSetF n f o v e μ E = (v e μ (fun d μ1 => o e μ1 (fun x μ2 => match x with
  | .cell p => (match ndO (μ2 p) with
    | some (k, fs, ds) => k = n ∧ fs.length < 1000 ∧ E.nx e (up μ2 p (.obj k (putN f d fs ds).1 (putN f d fs ds).2))
    | Option.none => False)
  | _ => False) fun d μ1 => E.xp d e μ1) fun d μ1 => E.xp d e μ1) := propext Iff.rfl
theorem Jbq (n : Str) (s : WP) (r : WE) (a : WA) (e : EnvD) (μ : Mu) (Q : QD) (X : QD) : wCallI n s r a e μ Q X = (r e μ (fun x μ1 => clsOf μ1 x = some n ∧ a e μ1 (fun ds μ2 => clsOf μ2 x = some n ∧ s (x :: ds) μ2 Q X) X) X) := propext Iff.rfl
theorem Jcp (m : Bool) (a : WE) (e : EnvD) (μ : Mu) (Q : QD) (X : QD) : wRev m a e μ Q X = (a e μ (fun x μ1 => match x with
  | .tup ds => Q (.tup ds.reverse) μ1
  | x => (match seqL μ1 x with
    | some ds => sett m Q (.n (.list ds.reverse)) μ1
    | Option.none => False)) X) := propext Iff.rfl
theorem Jcv (m : Bool) (o : D → Option Int → Option Int → Mu → QR → QD → Prop) (a : WE) (l h : WO) (e : EnvD) (μ : Mu) (Q : QD) (X : QD) : wSl m o a l h e μ Q X = (a e μ (fun x μ1 => l e μ1 (fun lo μ2 => h e μ2 (fun hi μ3 => o x lo hi μ3 (sett m Q) X) X) X) X) := propext Iff.rfl
theorem Jdf (u0' : EnvD) (μ : Mu) (Q : Option Int → Mu → Prop) (u1' : QD) : woNone u0' μ Q u1' = (Q Option.none μ) := propext Iff.rfl
theorem Jdg (a : WE) (e : EnvD) (μ : Mu) (Q : Option Int → Mu → Prop) (X : QD) : woSome a e μ Q X = (a e μ (fun x μ1 => match x with
  | .int i => Q (some i) μ1
  | _ => False) X) := propext Iff.rfl
theorem Jc9 (m : Bool) (o : WM) (r : WE) (a : WA) (e : EnvD) (μ : Mu) (Q : QD) (X : QD) : wLm m o r a e μ Q X = (r e μ (fun x μ1 => isL μ1 x ∧ a e μ1 (fun xs μ2 => o x xs μ2 (sett m Q) X) X) X) := propext Iff.rfl
theorem Jcq (n : Str) (e : EnvD) (μ : Mu) (E : WEnds) : wRz n e μ E = (E.xp (.err n [] []) e μ) := propext Iff.rfl
theorem Jcr (n f : Str) (a : WE) (e : EnvD) (μ : Mu) (E : WEnds) : wRzA n f a e μ E = (a e μ (fun d μ1 => E.xp (.err n [f] [d]) e μ1) fun d μ1 => E.xp d e μ1) := propext Iff.rfl
theorem Jc4 (i : Nat) (w : WS) (e : EnvD) (μ : Mu) (E : WEnds) : wFz i w e μ E = (match gt e i with
  | some (.cell b) => (match μ b with
    | some nd => w (st e i (some nd.frz)) (del μ b) E
    | Option.none => False)
  | some _ => w e μ E
  | Option.none => False) := propext Iff.rfl
theorem Jbr (es : List Str) (w : WE) (e : EnvD) (μ : Mu) (Q : QD) (u0' : QD) : wCaught es w e μ Q u0' = (w e μ (fun _ μ1 => Q .none μ1) fun d μ1 => match d with
  | .err n _ _ => n ∈ es ∧ Q d μ1
  | _ => False) := propext Iff.rfl
theorem Jc1 (f : Str) (r : WE) (e : EnvD) (μ : Mu) (Q : QD) (X : QD) : wErrF f r e μ Q X = (r e μ (fun x μ1 => match x with
  | .err _ fs ds => (match fldD f fs ds with
    | some d => Q d μ1
    | Option.none => False)
  | _ => False) X) := propext Iff.rfl
theorem Jbx (m : Bool) (u0' : EnvD) (μ : Mu) (Q : QD) (u1' : QD) : wDict0 m u0' μ Q u1' = (sett m Q (.n (.dk [] [])) μ) := propext Iff.rfl
theorem Jca (m : Bool) (a : WA) (e : EnvD) (μ : Mu) (Q : QD) (X : QD) : wLrng m a e μ Q X = (a e μ (fun ds μ1 => one ds fun d => int1 d fun j => (0 ≤ j ∧ j ≤ 2 ^ 20) ∧ sett m Q (.n (.list (rangeD 0 j.toNat))) μ1) X) := propext Iff.rfl
theorem Jd3 (js : List Nat) (a : WA) (e : EnvD) (μ : Mu) (Q : List D → Mu → Prop) (X : QD) : waPerm js a e μ Q X = (a e μ (fun ds μ1 => ds.length = js.length ∧ Q (permD D.none js ds) μ1) X) := propext Iff.rfl
theorem Jbt (p q : Int → Int → Bool) (a b d : WE) (e : EnvD) (μ : Mu) (Q : QD) (X : QD) : wChain p q a b d e μ Q X = (a e μ (fun x μ1 => b e μ1 (fun y μ2 => int1 x fun i => int1 y fun j => if p i j = true then d e μ2 (fun z μ3 => int1 z fun k => Q (.bool (q j k)) μ3) X else Q (.bool false) μ2) X) X) := propext Iff.rfl
theorem Jby (m : Bool) (a b : WE) (e : EnvD) (μ : Mu) (Q : QD) (X : QD) : wDisp1 m a b e μ Q X = (a e μ (fun x μ1 => b e μ1 (fun y μ2 => match keyD x with
  | some k => sett m Q (.n (.dk [k] [y])) μ2
  | Option.none => False) X) X) := propext Iff.rfl
theorem Jbz (m : Bool) (ks : List Key) (b : WE) (e : EnvD) (μ : Mu) (Q : QD) (X : QD) : wDispT m ks b e μ Q X = (b e μ (fun y μ2 => sett m Q (.n (.dt [ks] [y])) μ2) X) := propext Iff.rfl
theorem Jbw (n N : Nat) (b : WS) (ds : List D) (μ : Mu) (Q : QD) (X : QD) : wDefD n N b ds μ Q X = (wDef n N b ds μ (fun d μ1 => ∃ μ2, subMu μ2 μ1 ∧ Q d μ2) X) := propext Iff.rfl
/-- what is wished behind an __init__ -/
def mkQ (m : Bool) (Q : QD) (p : Addr) : QD := fun r μ2 => r = .none ∧ (match μ2 p with
  | some nd => sett m Q (.n nd) (del μ2 p)
  | Option.none => False)
theorem Jcc (m : Bool) (n : Str) (s : WP) (dd : List D) (a : WA) (e : EnvD) (μ : Mu) (Q X : QD) : wMake m n s dd a e μ Q X = a e μ (fun ds μ1 => ∀ p, μ1 p = Option.none → s (.cell p :: (ds ++ dd)) (up μ1 p (.obj n [] [])) (mkQ m Q p) X) X := propext Iff.rfl
theorem mkQ_f {Q : QD} {p : Addr} {μ : Mu} {nd : Nd} (hp : μ p = Option.none) (q : Q nd.frz μ) : mkQ false Q p .none (up μ p nd) := by
  refine ⟨rfl, ?_⟩
  rw [up_same, del_up hp]
  exact q
theorem Jbc (m : Bool) (Q : QD) (d : D) (μ : Mu) : sett m Q (.v d) μ = Q d μ := by cases m <;> exact propext Iff.rfl
theorem Jba (Q : QD) (nd : Nd) (μ : Mu) : sett false Q (.n nd) μ = Q nd.frz μ := propext Iff.rfl
theorem Jbb (Q : QD) (nd : Nd) (μ : Mu) : sett true Q (.n nd) μ = (∀ p, μ p = Option.none → Q (.cell p) (up μ p nd)) := propext Iff.rfl
theorem Jbd (μ : Mu) (ds : List D) : sqD μ (.list ds) = some ds := rfl
theorem Jbf (μ : Mu) (ds : List D) : sqD μ (.tup ds) = some ds := rfl
theorem Jbe (μ : Mu) (ns : List Int) : sqD μ (.script ns) = some (iL ns) := rfl
theorem Jb9 (μ : Mu) (ds : List D) : seqL μ (.list ds) = some ds := rfl
theorem Ja2 (ds : List D) : (Nd.list ds).frz = .list ds := rfl
theorem Ja1 (ks : List Key) (ds : List D) : (Nd.dk ks ds).frz = .dk ks ds := rfl
theorem Ja4 (ks : List (List Key)) (ds : List D) : (Nd.dt ks ds).frz = .dt ks ds := rfl
theorem Ja3 (c : Str) (fs : List Str) (ds : List D) : (Nd.obj c fs ds).frz = .obj c fs ds := rfl
theorem Jb8 (x : D) (f : D → Prop) : one [x] f = f x := propext Iff.rfl
theorem Jbi (x y : D) (f : D → D → Prop) : two [x, y] f = f x y := propext Iff.rfl
theorem Ja5 (i : Int) (f : Int → Prop) : int1 (.int i) f = f i := propext Iff.rfl
section
variable (μ : Mu) (Q : QR) (X : QD)
theorem Jaf (i j : Int) : oAdd (.int i) (.int j) μ Q X = Q (.v (.int (i + j))) μ := propext Iff.rfl
theorem Jah (a b : Str) : oAdd (.str a) (.str b) μ Q X = (a.length + b.length ≤ sizeLine ∧ Q (.v (.str (a ++ b))) μ) := propext Iff.rfl
theorem Jai (a b : List D) : oAdd (.tup a) (.tup b) μ Q X = (a.length + b.length ≤ sizeLine ∧ Q (.v (.tup (a ++ b))) μ) := propext Iff.rfl
theorem Jag (a b : List D) : oAdd (.list a) (.list b) μ Q X = (a.length + b.length ≤ sizeLine ∧ Q (.n (.list (a ++ b))) μ) := propext Iff.rfl
theorem Jb7 (i j : Int) : oSub (.int i) (.int j) μ Q X = Q (.v (.int (i - j))) μ := propext ⟨fun h => h.2, fun h => ⟨trivial, h⟩⟩
theorem Jaw (i j : Int) : oMul (.int i) (.int j) μ Q X = (CMulU i j ∧ Q (.v (.int (i * j))) μ) := propext Iff.rfl
theorem Jax (a : List D) (k : Int) : oMul (.list a) (.int k) μ Q X = (-(2 ^ 63) ≤ k ∧ k < 2 ^ 63 ∧ a.length * k.toNat ≤ sizeLine ∧ Q (.n (.list (List.replicate k.toNat a).flatten)) μ) := propext Iff.rfl
theorem Jal (i j : Int) : oFdiv (.int i) (.int j) μ Q X = (CDivW i j ∧ Q (.v (.int (i / j))) μ) := propext Iff.rfl
theorem Jav (i j : Int) : oMod (.int i) (.int j) μ Q X = (0 < j ∧ Q (.v (.int (i % j))) μ) := propext Iff.rfl
theorem Jb4 (i j : Int) : oPow (.int i) (.int j) μ Q X = (CPowW i j ∧ Q (.v (.int (i ^ j.toNat))) μ) := propext Iff.rfl
theorem Jau (i j : Int) : oLt (.int i) (.int j) μ Q X = Q (.v (.bool (decide (i < j)))) μ := propext ⟨fun h => h.2, fun h => ⟨trivial, h⟩⟩
theorem Jat (i j : Int) : oLe (.int i) (.int j) μ Q X = Q (.v (.bool (decide (i ≤ j)))) μ := propext ⟨fun h => h.2, fun h => ⟨trivial, h⟩⟩
theorem Jan (i j : Int) : oGt (.int i) (.int j) μ Q X = Q (.v (.bool (decide (j < i)))) μ := propext ⟨fun h => h.2, fun h => ⟨trivial, h⟩⟩
theorem Jam (i j : Int) : oGe (.int i) (.int j) μ Q X = Q (.v (.bool (decide (j ≤ i)))) μ := propext ⟨fun h => h.2, fun h => ⟨trivial, h⟩⟩
theorem Jb2 (i : Int) : oNeg (.int i) μ Q X = Q (.v (.int (-i))) μ := propext Iff.rfl
theorem Jaj (i j : Int) : oEq (.int i) (.int j) μ Q X = Q (.v (.bool (decide (i = j)))) μ := propext Iff.rfl
theorem Jak (i j : Str) : oEq (.str i) (.str j) μ Q X = Q (.v (.bool (decide (i = j)))) μ := propext Iff.rfl
theorem Jb0 (i j : Int) : oNe (.int i) (.int j) μ Q X = Q (.v (.bool (!decide (i = j)))) μ := propext Iff.rfl
theorem Jb1 (i j : Str) : oNe (.str i) (.str j) μ Q X = Q (.v (.bool (!decide (i = j)))) μ := propext Iff.rfl
theorem Jaq (x : D) : oIsN x .none μ Q X = Q (.v (.bool (isNone x))) μ := propext Iff.rfl
theorem Jb3 (x : D) : oNotN x .none μ Q X = Q (.v (.bool (!isNone x))) μ := propext Iff.rfl
theorem Jar (ds : List D) (i : Int) : oIx (.list ds) (.int i) μ Q X = (match atI ds i with
  | some d => Q (.v d) μ
  | Option.none => False) := propext Iff.rfl
theorem Jas (ds : List D) (i : Int) : oIx (.tup ds) (.int i) μ Q X = (match atI ds i with
  | some d => Q (.v d) μ
  | Option.none => False) := propext Iff.rfl
theorem Jao (neg : Bool) (x : D) (ds : List D) : oIn neg x (.tup ds) μ Q X = (flatD x = true ∧ ds.all flatD = true ∧ Q (.v (.bool (if neg then !inF x ds else inF x ds))) μ) := propext Iff.rfl
theorem Jap (neg : Bool) (x : D) (ds : List D) : oIn neg x (.list ds) μ Q X = (flatD x = true ∧ ds.all flatD = true ∧ Q (.v (.bool (if neg then !inF x ds else inF x ds))) μ) := propext Iff.rfl
theorem Jb6 (ds : List D) (lo hi : Option Int) : oSl (.tup ds) lo hi μ Q X = Q (.v (.tup (cutD ds lo hi))) μ := propext Iff.rfl
theorem Jb5 (ds : List D) (lo hi : Option Int) : oSl (.list ds) lo hi μ Q X = Q (.n (.list (cutD ds lo hi))) μ := propext Iff.rfl
theorem Ja8 (ds : List D) : cbLen [.list ds] μ Q X = Q (.v (.int ds.length)) μ := propext Iff.rfl
theorem Ja9 (ds : List D) : cbLen [.tup ds] μ Q X = Q (.v (.int ds.length)) μ := propext Iff.rfl
theorem Jad (i j : Int) : cbMin2 [.int i, .int j] μ Q X = Q (.v (.int (if j < i then j else i))) μ := propext Iff.rfl
theorem Jac (i j : Int) : cbMax2 [.int i, .int j] μ Q X = Q (.v (.int (if j > i then j else i))) μ := propext Iff.rfl
theorem Ja0 (i : Int) : cbAbs [.int i] μ Q X = Q (.v (.int (if i < 0 then -i else i))) μ := propext Iff.rfl
theorem Jaa (ds : List D) : cbList [.list ds] μ Q X = Q (.n (.list ds)) μ := propext Iff.rfl
theorem Jab (ds : List D) : cbList [.tup ds] μ Q X = Q (.n (.list ds)) μ := propext Iff.rfl
theorem Jbg (ds : List D) : cbTup [.list ds] μ Q X = Q (.v (.tup ds)) μ := propext Iff.rfl
theorem Jbh (ds : List D) : cbTup [.tup ds] μ Q X = Q (.v (.tup ds)) μ := propext Iff.rfl
theorem Ja7 (a b : Bool) : oIsB (.bool a) (.bool b) μ Q X = Q (.v (.bool (decide (a = b)))) μ := propext Iff.rfl
theorem Jae (a b : Bool) : oNotB (.bool a) (.bool b) μ Q X = Q (.v (.bool (!decide (a = b)))) μ := propext Iff.rfl
end
end DL

set_option Elab.async false
set_option linter.all false
set_option maxRecDepth 100000
set_option maxHeartbeats 4000000
/-! A19: != of a list and [], of a tuple and (). -/
namespace GQ2
open PySem PySem.SeqAt
open AutoSeq1 (wpAny_loadPart')
open MeetsSeq MeetsSeq2 MeetsSeq3 SeqRoads2
section
variable {prog : Program} {w : World} {A : Around} {R : Result → Shared → Prop}
end
section
variable {prog : Program} {w : World} {A : Around} {E : Value → Shared → Prop} {s : Shared}
end
end GQ2
namespace DL
open PySem PyProof.Rows L2
/-- x != [], x != () -/
def oNe0 : WOp := fun x y μ Q _ => match x with
  | .tup ds => (match y with
    | .tup [] => Q (.v (.bool (!ds.isEmpty))) μ
    | _ => False)
  | x => (match seqL μ x, y with
    | some ds, .list [] => Q (.v (.bool (!ds.isEmpty))) μ
    | _, _ => False)
theorem Jay (ds : List D) (μ : Mu) (Q : QR) (X : QD) : oNe0 (.list ds) (.list []) μ Q X = Q (.v (.bool (!ds.isEmpty))) μ := propext Iff.rfl
theorem Jaz (ds : List D) (μ : Mu) (Q : QR) (X : QD) : oNe0 (.tup ds) (.tup []) μ Q X = Q (.v (.bool (!ds.isEmpty))) μ := propext Iff.rfl
section
variable {X : Cx} {c : Ctx} {W : WX}
end
end DL

set_option Elab.async false
set_option linter.all false
set_option maxRecDepth 100000
/-! A20: zip of two tuples. -/
namespace DL
open PySem L2
def zipD : List D → List D → List D
  | d :: ds, e :: es => .tup [d, e] :: zipD ds es
  | _, _ => []
theorem zipD_get : ∀ (ds es : List D) (i : Nat), (zipD ds es)[i]? = (match ds[i]?, es[i]? with
    | some d, some e => some (.tup [d, e])
    | _, _ => Option.none)
  | [], es, i => by simp [zipD]
  | d :: ds, [], i => by
    simp only [zipD, List.getElem?_nil]
    split
    · rename_i h
      cases h
    · rfl
  | d :: ds, e :: es, 0 => rfl
  | d :: ds, e :: es, i + 1 => by
    rw [zipD, List.getElem?_cons_succ, List.getElem?_cons_succ, List.getElem?_cons_succ]
    exact zipD_get ds es i
def wiZip (a : WA) : WI := fun e μ Q X => a e μ (fun ds μ1 => two ds fun x y => match x, y with
  | .tup xs, .tup ys => Q ⟨zipD xs ys, fun _ => True⟩ μ1
  | _, _ => False) X
theorem Jde (a : WA) (e : EnvD) (μ : Mu) (Q : Src → Mu → Prop) (X : QD) : wiZip a e μ Q X = (a e μ (fun ds μ1 => two ds fun x y => match x, y with
  | .tup xs, .tup ys => Q ⟨zipD xs ys, fun _ => True⟩ μ1
  | _, _ => False) X) := propext Iff.rfl
section
variable {X : Cx} {c : Ctx} {W : WX} {k ka kb : Nat} {a b tg : Expr} {wa : WE} {pos p : Pos} {es : List Expr} {wr : WA} {m : Bool}
theorem itd_zipT {S : Option SA} {F0 I1 : Hp} {aa bb : Addr} {ds es : List D} {ok : Mu → Prop} (h : ∀ F n I μ H, Same I1 I → Wd c S F n I μ H → ∃ xs ys, SqT c.K H aa xs ∧ SqT c.K H bb ys ∧ Reps c S I ds xs ∧ Reps c S I es ys) : ItD c S F0 (RZ.ItzT c.K aa bb) I1 ⟨zipD ds es, ok⟩ := fun F i n I μ H _ s w o => by
  obtain ⟨xs, ys, hqx, hqy, rx, ry⟩ := h F n I μ H s w
  show (∀ d, (zipD ds es)[i]? = some d → _) ∧ ((zipD ds es)[i]? = _ → _)
  rw [zipD_get]
  refine ⟨fun d hd => ?_, fun hd => ?_⟩
  · cases hx : ds[i]? with
    | none =>
      rw [hx] at hd
      cases hd
    | some d0 =>
      cases hy : es[i]? with
      | none =>
        rw [hx, hy] at hd
        cases hd
      | some e0 =>
        rw [hx, hy] at hd
        have hd' : D.tup [d0, e0] = d := Option.some.inj hd
        obtain ⟨x, hx1, rx1⟩ := rx.get hx
        obtain ⟨y, hy1, ry1⟩ := ry.get hy
        refine ⟨⟨xs, ys, x, y, hqx, hqy, hx1, hy1⟩, fun v H' yl => ?_⟩
        obtain ⟨T, x2, y2, e1, hT, e2, yx, yy⟩ := yl
        have e3 := yx xs hqx
        rw [hx1] at e3
        have e4 : x = x2 := Option.some.inj e3
        have e5 := yy ys hqy
        rw [hy1] at e5
        have e6 : y = y2 := Option.some.inj e5
        subst e4 e6
        have sm : Same I (upd I T (.tup [x, y])) := same_new (w.fresh hT).1
        refine ⟨_, sm, by rw [e2]; exact w.new hT, ?_⟩
        rw [e1, ← hd']
        exact .tup (.inl upd_same) (.cons (rx1.mono sm) (.cons (ry1.mono sm) .nil))
  · refine ⟨xs, ys, hqx, hqy, ?_⟩
    rw [← rx.length, ← ry.length]
    cases hx : ds[i]? with
    | none => exact .inl (List.getElem?_eq_none_iff.mp hx)
    | some d0 =>
      cases hy : es[i]? with
      | none => exact .inr (List.getElem?_eq_none_iff.mp hy)
      | some e0 =>
        rw [hx, hy] at hd
        cases hd
theorem gi_zip {tpos : Pos} {elts : List Expr} {kk : Nat} (hg : Gl X "zip") (hm : X.mg "zip" = none) (ha : GA X c W k [a, b] wr) (hs : starEach [a, b] X.env = (false, eval a X.env) :: starEach [b] X.env := by rfl) (hpl : (backTo pos (starEach [b] X.env)).any (·.1) = false := by rfl) (hK : X.K = c.K := by rfl) : GI X c W k (.Tuple elts kk tpos) (.Call (.Name "zip" p) [a, b] [] pos) (wiZip wr) := by
  obtain ⟨K, cl, tb, ns, es0⟩ := c
  cases hK
  refine L2.PI.imp (RZ.pi_zipA hg hm ha hs hpl) fun σ H R h => ?_
  obtain ⟨S, F, n, I, μ, e, Qd, Xd, hl, he, hw, h, q, x⟩ := h
  refine ⟨S, F, n, I, μ, e, _, Xd, hl, he, hw, h, fun ds μ1 vs I1 H1 p s1 u1 r1 => ?_, x⟩
  obtain ⟨z1, z2, rfl, p2⟩ := two_cases p
  clear p
  obtain ⟨v, v2, rfl, rv, rv2⟩ := reps2 r1
  split at p2
  · rename_i xs ys
    cases rv with
    | tup g r =>
      cases rv2 with
      | tup g2 r2 =>
        exact ⟨_, _, _, _, rfl, .inr ⟨u1.tupH g, u1.tupH g2, q _ μ1 _ I1 H1 F (fun _ _ z => z) p2 s1 u1 (itd_zipT fun F n I2 μ2 H2 s2 w2 => ⟨_, _, w2.tupH (Same.tup s2 g), w2.tupH (Same.tup s2 g2), r.mono s2, r2.mono s2⟩)⟩⟩
  · exact p2.elim
end
end DL

set_option Elab.async false
set_option linter.all false
set_option maxRecDepth 100000
/-! A21: repr of plain data with great numbers. -/
namespace PySem
open Sem (wp)
open Builtin Builtin.Str Builtin.Int
/-- no limit of figures was set -/
def DigOk (h : Heap) : Prop := ∀ M : Model, PySem.W.Looks M h (nsGet cStatics "sys.int_max_str_digits") none
theorem DigOk.keeps {h h' : Heap} (x : DigOk h) (k : ∀ b o, h.get? b = some o → h'.get? b = some o) : DigOk h' := fun M => (x M).keeps k
theorem digits_ok {M : Model} {A : Around} {E : Value → Shared → Prop} {s : Shared} {a : Int} {Q : Option Nat → Shared → Prop} (hn : DigOk s.heap) (ha : a.natAbs.log2 < 12900) (h : Q none s) : wpAny M A (Builtin.overDigitLimit? a) Q E s := by
  unfold Builtin.overDigitLimit?
  by_cases hs : a.natAbs.log2 < 1920
  · rw [if_pos hs]
    exact wpAny_pure h
  · rw [if_neg hs]
    unfold Builtin.intMaxStrDigits
    refine wpAny_bind (wpAny_bind (hn M A _ _ s (fun _ _ e => e) ?_))
    refine wpAny_pure ?_
    dsimp only
    rw [if_neg (by omega), if_pos (by simp; omega)]
    exact wpAny_pure h
theorem gives_int_reprB {a : Int} (t : Tok) (ha : a.natAbs.log2 < 12900) : GivesAt (fun s => DigOk s.heap) («int.__repr__» ⟨[.int a t], []⟩) (.str (toString a)) := by
  intro prog w A R s hP h
  unfold «int.__repr__»
  show wpAny _ _ (do let r ← overDigitLimit? a; _) _ _ s
  refine wpAny_bind (digits_ok hP ha ?_)
  exact wpAny_bind (wpAny_mkStr (wpAny_pure h.2) h.1)
section
variable {prog : Program} {w : World} {A : Around} {E : Value → Shared → Prop} {s : Shared}
theorem pyReprObj_intB {a : Int} {t : Tok} {Q : Value → Shared → Prop} (hn : DigOk s.heap) (ha : a.natAbs.log2 < 12900) (hx : (Str.ofString (toString a)).length ≤ sizeLine) (h : Q (.str (toString a) s.toks) { s with toks := s.toks + 1 }) : wpAny (model prog w) A (pyReprObj (.int a t)) Q E s := by
  have hv : [Value.int a t].any Value.onHeap = false := rfl
  unfold pyReprObj
  simp only [cRoomFor, hv, Bool.false_eq_true, if_false, pure_bind]
  refine wpAny_bind (wpAny_specialOf (name := Str.ofString "__repr__") (typeIs_int s a t) F.slot_int_repr.lookup ?_)
  refine wpAny_bind (m := callSpecialIfBound? (.int a t) (Str.ofString "__repr__")) (wpAny_callSpecialIfBound?_slot (name := Str.ofString "__repr__") (typeIs_int s a t) F.slot_int_repr (call_givesAt F.slot_int_repr (typeIs_int s a t) F.entry_int_repr (F.args_int_repr_1 _) (gives_int_reprB t ha) hn ⟨hx, ?_⟩))
  exact wpAny_bind (wpAny_isInstance (T := "str") (b := true) rfl isSubtype_str_str (wpAny_pure h))
theorem repr_of_intB {a : Int} {t : Tok} {Q : Value → Shared → Prop} (hn : DigOk s.heap) (ha : a.natAbs.log2 < 12900) (hx : (Str.ofString (toString a)).length ≤ sizeLine) (h : Q (.str (toString a) s.toks) { s with toks := s.toks + 1 }) : wpAny (model prog w) A (call (.builtin "repr") [.int a t]) Q E s := by
  have hv : [Value.int a t].any Value.onHeap = false := rfl
  refine Calls.call_function_entry F.kind_repr F.plain_repr F.entry_repr (F.args_repr1 _) ?_
  unfold Builtin.«repr»
  refine wpAny_bind (m := oneArg "repr" _) (wpAny_pure ?_)
  simp only [cRoomFor, hv, Bool.false_eq_true, if_false, pure_bind]
  refine wpAny_bind (wpAny_specialOf (name := Str.ofString "__repr__") (typeIs_int s a t) F.slot_int_repr.lookup ?_)
  refine wpAny_bind (m := callSpecialIfBound? (.int a t) (Str.ofString "__repr__")) (wpAny_callSpecialIfBound?_slot (name := Str.ofString "__repr__") (typeIs_int s a t) F.slot_int_repr (call_givesAt F.slot_int_repr (typeIs_int s a t) F.entry_int_repr (F.args_int_repr_1 _) (gives_int_reprB t ha) hn ⟨hx, ?_⟩))
  refine wpAny_bind (wpAny_isInstance (T := "str") (b := true) rfl isSubtype_str_str ?_)
  exact wpAny_pure ⟨_, rfl, h⟩
end
section
variable {prog : Program} {w : World} {h₀ : Heap}
theorem ReprK.intB {a : Int} (t : Tok) (hn : DigOk h₀) (ha : a.natAbs.log2 < 12900) (hx : (Str.ofString (toString a)).length ≤ sizeLine) (as : List Addr) (d : Nat) : ReprK prog w as h₀ d (.int a t) (toString a) := fun n hnn A g E s Q _ _ _ hk h => by
  have hn' : n ≤ sizeLine := by omega
  rw [pyReprUnder_leaf (v := .int a t) hn' (fun _ e => nomatch e)]
  unfold pyRepr
  exact wpAny_bind (pyReprObj_intB (hn.keeps hk) ha hx (wpAny_pure (h s.heap _ fun _ _ e => e)))
end
namespace PyData
mutual
/-- numbers of up to about 3880 figures; no dicts -/
def big : PyData → Bool
  | .none | .bool _ | .str _ => true
  | .int i => decide (i.natAbs.log2 < 12900)
  | .list xs | .tuple xs => bigAll xs
  | .dict _ => false
def bigAll : List PyData → Bool
  | [] => true
  | x :: xs => big x && bigAll xs
end
end PyData
section
variable {prog : Program} {w : World} {h₀ : Heap}
mutual
theorem ReprK.of_readsB (dg : DigOk h₀) : ∀ {v : Value} {d : PyData} {as : List Addr}, Reads h₀ v d as → d.big = true → d.shown.length ≤ sizeLine → ∃ bs, ReadAtMost h₀ d.depth bs ∧ ReprK prog w bs h₀ d.depth v d.shown
  | _, _, _, .none, _, _ => ⟨[], (fun _ h => nomatch h), by simp only [PyData.shown]; exact .of_is ReprIs.none _ _ _⟩
  | _, _, _, .bool b, _, _ => ⟨[], (fun _ h => nomatch h), by simp only [PyData.shown]; exact .of_is (ReprIs.bool b) _ _ _⟩
  | _, _, _, .int i t, hs, hz => ⟨[], (fun _ h => nomatch h), by simp only [PyData.shown] at hz ⊢; exact ReprK.intB t dg (by simpa [PyData.big] using hs) hz _ _⟩
  | _, _, _, .str x t, _, hz => ⟨[], (fun _ h => nomatch h), by simp only [PyData.shown]; exact .of_is (ReprIs.str x t (by simpa only [PyData.shown] using hz)) _ _ _⟩
  | _, _, _, .list (a := a) (vs := vs) (xs := xs) h1 h2 h3 h4, hs, hz => by
    have hz' : (listText (PyData.shownAll xs)).length ≤ sizeLine := by simpa only [PyData.shown] using hz
    obtain ⟨bs, hb, hk⟩ := ReprAllK.of_readsAllB dg h4 (by simpa [PyData.big] using hs) (fun t ht => Nat.le_trans (listText_mem_le ht) hz')
    have r : Reads h₀ (.ref a) (.list xs) _ := .list h1 h2 h3 h4
    have hna : a ∉ bs := not_mem_of_deeper r (by simp only [PyData.depth]; omega) hb
    refine ⟨a :: bs, ReadAtMost.cons r (by simp only [PyData.depth]; omega) hb, ?_⟩
    simp only [PyData.depth, PyData.shown]
    obtain ⟨l⟩ := vs
    cases l with
    | nil =>
      have h4' : ReadsAll h₀ [] xs _ := h4
      cases h4'
      simp only [PyData.shownAll, listText_nil]
      exact ReprK.listEmpty h1 h2 h3
    | cons x l => exact ReprK.list h1 h2 h3 hna (by simpa using hk.length_eq) (fun i y e => hk.item i y (by simpa using e))
  | _, _, _, .tuple (a := a) (xs := xs) h1 h2 h3 h4, hs, hz => by
    have hz' : (tupleText (PyData.shownAll xs)).length ≤ sizeLine := by simpa only [PyData.shown] using hz
    obtain ⟨bs, hb, hk⟩ := ReprAllK.of_readsAllB dg h4 (by simpa [PyData.big] using hs) (fun t ht => Nat.le_trans (tupleText_mem_le ht) hz')
    have r : Reads h₀ (.ref a) (.tuple xs) _ := .tuple h1 h2 h3 h4
    have hna : a ∉ bs := not_mem_of_deeper r (by simp only [PyData.depth]; omega) hb
    refine ⟨a :: bs, ReadAtMost.cons r (by simp only [PyData.depth]; omega) hb, ?_⟩
    simp only [PyData.depth, PyData.shown]
    exact ReprK.tuple h1 h2 h3 hna hk
  | _, _, _, .dict h1 h2 h3 h4 h5, hs, _ => by simp [PyData.big] at hs
theorem ReprAllK.of_readsAllB (dg : DigOk h₀) : ∀ {vs : List Value} {ds : List PyData} {as : List Addr}, ReadsAll h₀ vs ds as → PyData.bigAll ds = true → (∀ t ∈ PyData.shownAll ds, t.length ≤ sizeLine) →
    ∃ bs, ReadAtMost h₀ (PyData.depthAll ds) bs ∧ ReprAllK prog w bs h₀ (PyData.depthAll ds) vs (PyData.shownAll ds)
  | _, _, _, .nil, _, _ => ⟨[], (fun _ h => nomatch h), by simp only [PyData.shownAll]; exact .nil⟩
  | _, _, _, .cons (d := d) (ds := ds) r rs, hs, hz => by
    have hs' : d.big = true ∧ PyData.bigAll ds = true := by simpa [PyData.bigAll] using hs
    obtain ⟨b1, hb1, k1⟩ := ReprK.of_readsB dg r hs'.1 (hz _ (by simp only [PyData.shownAll]; exact List.mem_cons_self ..))
    obtain ⟨b2, hb2, k2⟩ := ReprAllK.of_readsAllB dg rs hs'.2 (fun t ht => hz t (by simp only [PyData.shownAll]; exact List.mem_cons_of_mem _ ht))
    refine ⟨b1 ++ b2, ?_, ?_⟩
    · intro b hm
      simp only [PyData.depthAll]
      rcases List.mem_append.mp hm with hm | hm
      · obtain ⟨d', as', r', hd'⟩ := hb1 b hm
        exact ⟨d', as', r', Nat.le_trans hd' (Nat.le_max_left _ _)⟩
      · obtain ⟨d', as', r', hd'⟩ := hb2 b hm
        exact ⟨d', as', r', Nat.le_trans hd' (Nat.le_max_right _ _)⟩
    · simp only [PyData.depthAll, PyData.shownAll]
      exact .cons ((k1.more fun b hb => List.mem_append_left _ hb).level_le (Nat.le_max_left _ _)) (k2.more_le (fun b hb => List.mem_append_right _ hb) (Nat.le_max_right _ _))
end
variable {a : Addr} {d : PyData} {as : List Addr}
theorem showsBy_of_readsB (dg : DigOk h₀) (r : Reads h₀ (.ref a) d as) (hs : d.big = true) (hsz : d.shown.length ≤ sizeLine) : ∃ T idr, ShowsBy prog w h₀ a d T idr := by
  cases r with
  | list h1 h2 h3 h4 =>
    rename_i o vs n xs bs₀
    have hz' : (listText (PyData.shownAll xs)).length ≤ sizeLine := by simpa only [PyData.shown] using hsz
    obtain ⟨bs, hb, hk⟩ := ReprAllK.of_readsAllB (prog := prog) (w := w) dg h4 (by simpa [PyData.big] using hs) (fun t ht => Nat.le_trans (listText_mem_le ht) hz')
    have hna : a ∉ bs := not_mem_of_deeper (.list h1 h2 h3 h4) (by simp only [PyData.depth]; omega) hb
    refine ⟨"list", "list.__repr__", F.slot_list_repr.toG, F.slot_list_str, F.slot_list_format, fun s hk0 => ⟨o, hk0 _ _ h1, h2⟩, fun A E s Q hg hu hk0 hQ => ?_⟩
    simp only [PyData.depth] at hu
    simp only [PyData.shown] at hQ
    obtain ⟨l⟩ := vs
    cases l with
    | nil =>
      have h4' : ReadsAll h₀ [] xs _ := h4
      cases h4'
      simp only [PyData.shownAll, listText_nil] at hQ
      exact call_list_repr_empty ⟨o, hk0 _ _ h1, h2⟩ (hk0 _ _ h1) h3 (hQ s.heap _ _ fun _ _ e => e)
    | cons x l =>
      exact call_list_reprK h1 h2 h3 hna (by simpa using hk.length_eq) (fun i y e => hk.item i y (by simpa using e)) hg (fun b _ => Clear.nil b) hu hk0 hQ hz'
  | tuple h1 h2 h3 h4 =>
    rename_i o vs n xs
    have hz' : (tupleText (PyData.shownAll xs)).length ≤ sizeLine := by simpa only [PyData.shown] using hsz
    obtain ⟨bs, hb, hk⟩ := ReprAllK.of_readsAllB (prog := prog) (w := w) dg h4 (by simpa [PyData.big] using hs) (fun t ht => Nat.le_trans (tupleText_mem_le ht) hz')
    have hna : a ∉ bs := not_mem_of_deeper (.tuple h1 h2 h3 h4) (by simp only [PyData.depth]; omega) hb
    refine ⟨"tuple", "tuple.__repr__", F.slot_tuple_repr, F.slot_tuple_str, F.slot_tuple_format, fun s hk0 => ⟨o, hk0 _ _ h1, h2⟩, fun A E s Q hg hu hk0 hQ => ?_⟩
    simp only [PyData.depth] at hu
    simp only [PyData.shown] at hQ
    exact call_tuple_reprK h1 h2 h3 hna hk hg (fun b _ => Clear.nil b) hu hk0 hQ hz'
  | dict h1 h2 h3 h4 h5 => simp [PyData.big] at hs
variable {A : Around} {E : Value → Shared → Prop} {s : Shared} {Q : Value → Shared → Prop}
theorem repr_of_readsB (dg : DigOk h₀) (r : Reads h₀ (.ref a) d as) (hs : d.big = true) (hg : A.guards = some []) (hu : A.units + (d.depth + 1) < cLine) (hk0 : ∀ b o, h₀.get? b = some o → s.heap.get? b = some o)
    (hQ : ∀ h' u tk, (∀ b o, s.heap.get? b = some o → h'.get? b = some o) → Q (.str d.shown u) { s with heap := h', toks := tk })
    (hsz : d.shown.length ≤ sizeLine) : wpAny (model prog w) A (call (.builtin "repr") [.ref a]) Q E s := by
  obtain ⟨T, idr, S⟩ := showsBy_of_readsB (prog := prog) (w := w) dg r hs hsz
  exact call_repr_slot (by omega) (S.typeIs s hk0) S.slotRepr (S.call A.in1 E s _ hg (by show A.units + 1 + d.depth < cLine; omega) hk0 fun h' u tk hk => ⟨_, _, rfl, hQ h' u tk hk⟩)
end
end PySem
namespace DL
open PySem L2
structure ShB (L k : Nat) (p : PyData) : Prop where
  len : p.shown.length ≤ L
  dep : p.depth ≤ k
  can : p.big = true
def cbReprB : WC := fun xs μ Q _ => one xs fun x => plainD (drf μ x) = true ∧ ShB sizeLine 60 (pd (drf μ x)) ∧ Q (.v (.str (pd (drf μ x)).shown)) μ
section
variable {X : Cx} {c : Ctx} {W : WX}
def rReprB (K : PySem.W.Frag) : List V → Hp → VK → Prop := fun xs H Q => ∃ v p, xs = [v] ∧ Dp K H v p ∧ ShB sizeLine 60 p ∧ Q (.str p.shown) H
theorem call_reprB (hD : PySem.W.nsIn X.K cStatics "sys.int_max_str_digits" = some none) (gd : X.A.guards = some []) (hu : X.A.units + 64 < cLine) : CallR X (.builtin "repr") (rReprB X.K) := by
  intro pins s σ H xs us Q J r h
  obtain ⟨v, p, rfl, hp, sh, q⟩ := h
  obtain ⟨u, rfl, ru⟩ := vals1 r
  obtain ⟨as, rd⟩ := Dp.reads J p v u hp ru
  have dg : DigOk s.heap := fun M => PySem.W.looks_nsIn J.kIn hD
  have key : ∀ a, u = .ref a → wpAny (model X.prog X.w) X.A (call (.builtin "repr") [u]) (EP X pins σ Q) X.xe s := fun a e => by
    subst e
    exact repr_of_readsB dg rd sh.can gd (by have := sh.dep; omega) (fun _ _ z => z) (fun h' t tk kp => ⟨.str _, H, J.kept kp, ⟨t, rfl⟩, q⟩) sh.len
  cases hp with
  | non =>
    cases ru
    rw [PyData.shown_none] at q
    exact PySem.P.repr_of_none ⟨.str _, H, J.tok _, ⟨_, rfl⟩, q⟩
  | bl b =>
    cases ru
    rw [PyData.shown_bool] at q
    exact PySem.P.repr_of_bool ⟨.str _, H, J.tok _, ⟨_, rfl⟩, q⟩
  | int i =>
    obtain ⟨t, rfl⟩ := ru
    have hx := sh.len
    rw [PyData.shown_int] at q hx
    exact repr_of_intB dg (by have := sh.can; simpa [PyData.big] using this) hx ⟨.str _, H, J.tok _, ⟨_, rfl⟩, q⟩
  | str x =>
    obtain ⟨t, rfl⟩ := ru
    have := sh.len
    rw [PyData.shown_str] at q this
    exact PySem.P.repr_of_str ⟨.str _, H, J.tok _, ⟨_, rfl⟩, q⟩ this
  | lst g r2 => exact key _ ru
  | tup g r2 => exact key _ ru
theorem w_reprB (hD : PySem.W.nsIn X.K cStatics "sys.int_max_str_digits" = some none) (gd : X.A.guards = some []) (hu : X.A.units + 64 < cLine) (hK : X.K = c.K := by rfl) : CbW X c (.builtin "repr") cbReprB := by
  obtain ⟨K, cl, tb, ns, es0⟩ := c
  cases hK
  refine cbw_of (call_reprB hD gd hu) fun S F n I μ ds vs H Qd Xd Q w rs h q => ?_
  obtain ⟨x, rfl, h1, h2, h3⟩ := one_cases h
  obtain ⟨v, rfl, rv⟩ := reps1 rs
  exact ⟨v, _, rfl, drf_dp w rv h1, h2, q _ μ _ I H h3 (Same.refl I) w .str⟩
end
end DL

set_option Elab.async false
set_option linter.all false
set_option maxRecDepth 100000
set_option maxHeartbeats 4000000
/-! A22: tuple * int, whatever the int. -/
namespace L2
open PySem PySem.Spec PyProof.Rows
section
variable {X : Cx}
end
end L2
namespace DL
open PySem L2
section
variable {X : Cx} {c : Ctx} {W : WX}
end
end DL

set_option Elab.async false
set_option linter.all false
set_option maxRecDepth 100000
set_option maxHeartbeats 4000000
/-! A23: o.f, p.g = x, y. -/
namespace L2
open PySem PySem.Spec PyProof.Rows
end L2
namespace DL
open PySem PyProof.Rows L2
section
variable {X : Cx} {c : Ctx} {W : WX} {k ka kb kc ko : Nat} {a b o o2 v : Expr} {wo wo2 wv : WE} {pos pos1 pos2 pos3 : Pos} {n n2 f f2 : Str}
end
end DL

set_option Elab.async false
set_option linter.all false
set_option maxRecDepth 100000
set_option maxHeartbeats 4000000
/-! A24: x in a list or a tuple of plain data. -/
namespace L2
open PySem PySem.Spec PyProof.Rows
section
variable {X : Cx}
end
end L2
namespace DL
open PySem PyProof.Rows L2
section
variable {X : Cx} {c : Ctx} {W : WX}
end
end DL

set_option Elab.async false
set_option linter.all false
set_option maxRecDepth 100000
set_option maxHeartbeats 4000000
/-! A25: dicts of texts that change: {k: v, k: v, k: v}, d[k], d[k] = v; x += y of an own class. -/
namespace L2
open PySem PySem.Spec PyProof.Rows PySem.W
end L2
namespace DL
open PySem PyProof.Rows L2
variable [Gds]
section
variable {X : Cx} {c : Ctx} {W : WX} {k ka kb kc ko kf : Nat} {a b d o v : Expr} {wa wb wd wo wv : WE} {m : Bool} {pos pos' p1 p2 p3 : Pos} {q1 q2 q3 : Nat} {key k1 k2 k3 : Str}
end
end DL

set_option Elab.async false
set_option linter.all false
set_option maxRecDepth 100000
set_option maxHeartbeats 4000000
/-! A26: what an expression gives is frozen: from then on it never changes. -/
namespace DL
open PySem PyProof.Rows L2
section
variable {X : Cx} {c : Ctx} {W : WX} {k : Nat} {a : Expr} {wa : WE}
end
end DL

set_option Elab.async false
set_option linter.all false
set_option maxRecDepth 100000
set_option maxHeartbeats 4000000
/-! A27: != of tuples and lists that hold instances with an own ==. -/
namespace GQ2
open PySem PySem.SeqAt
open AutoSeq1 (wpAny_loadPart')
open MeetsSeq MeetsSeq2 MeetsSeq3 SeqRoads2
section
variable {prog : Program} {w : World} {A : Around} {R : Result → Shared → Prop}
end
section
variable {prog : Program} {w : World} {A : Around} {E : Value → Shared → Prop} {s : Shared}
end
end GQ2
namespace DL
open PySem PyProof.Rows L2
variable [Gds]
section
variable {X : Cx} {c : Ctx} {W : WX} {k m : Nat} {n : Str} {fs : List Str} {P : List D → Bool} {S : Option SA} {F : Hp} {μ : Mu}
end
end DL

set_option Elab.async false
set_option linter.all false
set_option maxRecDepth 100000
set_option maxHeartbeats 4000000
/-! A28: C(*x). -/
namespace DL
open PySem PySem.Spec PyProof.Rows L2
variable [Gds]
section
variable {X : Cx} {c : Ctx} {W : WX} {k kf ka : Nat} {a : Expr} {wa : WE} {n x : Str} {f : Addr} {fd : FuncData} {ps : List Str} {s : WP} {p sp_ pos : Pos}
end
end DL

set_option Elab.async false
set_option linter.all false
set_option maxRecDepth 100000
set_option maxHeartbeats 4000000
/-! M0: the mathematics of rows of numbers. -/
namespace M
/-- the value at x, the power 0 first -/
def ev : List Int → Int → Int
  | [], _ => 0
  | n :: ns, x => n + x * ev ns x
/-- without the zeros at the end -/
def trim : List Int → List Int
  | [] => []
  | n :: ns => if trim ns = [] ∧ n = 0 then [] else n :: trim ns
theorem trim_append_zero : ∀ ns : List Int, trim (ns ++ [0]) = trim ns
  | [] => by simp [trim]
  | n :: ns => by rw [List.cons_append, trim, trim, trim_append_zero ns]
theorem trim_self : ∀ ns : List Int, (∀ h : ns ≠ [], ns.getLast h ≠ 0) → trim ns = ns
  | [], _ => rfl
  | [n], h => by
    have := h (by simp)
    rw [trim, trim]
    simp at this
    simp [this]
  | n :: m :: ns, h => by
    have ih := trim_self (m :: ns) fun h2 => by simpa using h (by simp)
    rw [trim, ih]
    simp
theorem trim_mem {x : Int} : ∀ {ns : List Int}, x ∈ trim ns → x ∈ ns
  | [], h => h
  | n :: ns, h => by
    rw [trim] at h
    by_cases hc : trim ns = [] ∧ n = 0
    · rw [if_pos hc] at h
      cases h
    · rw [if_neg hc] at h
      rcases List.mem_cons.mp h with e | e
      · rw [e]; exact List.mem_cons_self
      · exact List.mem_cons_of_mem _ (trim_mem e)
/-- ns and t times ms -/
def addS (t : Int) : List Int → List Int → List Int
  | ns, [] => ns
  | [], m :: ms => t * m :: addS t [] ms
  | n :: ns, m :: ms => (n + t * m) :: addS t ns ms
end M

set_option Elab.async false
set_option linter.all false
set_option maxRecDepth 100000
set_option maxHeartbeats 4000000
/-! M1: products and compositions of rows. -/
namespace M
def addAt (off : Nat) (k : Int) (F ms : List Int) : List Int := F.take off ++ addS k (F.drop off) ms
def prodFrom (F : List Int) (off : Nat) : List Int → List Int → List Int
  | [], _ => F
  | n :: ns, ms => prodFrom (addAt off n F ms) (off + 1) ns ms
/-- the product of two rows as the program makes it -/
def prod (ns ms : List Int) : List Int := prodFrom (List.replicate (ns.length + ms.length - 1) 0) 0 ns ms
/-- one rule behind another -/
def comp (ns ms : List Int) : List Int := ns.reverse.foldl (fun F n => addS 1 (prod F ms) [n]) []
end M

set_option Elab.async false
set_option linter.all false
set_option maxRecDepth 100000
set_option maxHeartbeats 4000000
/-! M2: rows by their values. -/
namespace M
/-- the step of f from x to x + 1 -/
def dlt (f : Int → Int) : Int → Int := fun x => f (x + 1) - f x
/-- f has degree at most d, and l stands ahead of its power d -/
def Pl : Nat → Int → (Int → Int) → Prop
  | 0, l, f => ∀ x, f x = l
  | d + 1, l, f => Pl d (((d + 1 : Nat) : Int) * l) (dlt f)
def fact : Nat → Nat
  | 0 => 1
  | d + 1 => (d + 1) * fact d
end M

set_option Elab.async false
set_option linter.all false
set_option maxRecDepth 100000
set_option maxHeartbeats 4000000
/-! M3: rows are what their values are; bounds of their numbers. -/
namespace M
theorem ev_neg (x : Int) : ∀ ns : List Int, ev (ns.map fun n => 0 - n) x = - ev ns x
  | [] => by simp [ev]
  | n :: ns => by
    rw [List.map_cons, ev, ev, ev_neg x ns, Int.mul_neg]
    omega
/-! ### bounds -/
/-- numbers of so many bits -/
def Bt (b : Nat) (ns : List Int) : Prop := ∀ n ∈ ns, n.natAbs < 2 ^ b
theorem Bt.up {a b : Nat} {ns : List Int} (h : Bt a ns) (hb : a ≤ b) : Bt b ns := fun n hn => Nat.lt_of_lt_of_le (h n hn) (Nat.pow_le_pow_right (by decide) hb)
theorem Bt.trim {b : Nat} {ns : List Int} (h : Bt b ns) : Bt b (trim ns) := fun n hn => h n (trim_mem hn)
theorem Bt.nil {b : Nat} : Bt b [] := fun _ z => nomatch z
end M

set_option Elab.async false
set_option linter.all false
set_option maxRecDepth 100000
set_option maxHeartbeats 4000000
/-! P0: loops, by what stays. -/
namespace DL
open PySem L2
theorem for_inv {ok : Mu → Prop} {g : WG} {b : WS} {xs : List D} {e : EnvD} {μ : Mu} {E : WEnds} (P : Nat → EnvD → Mu → Prop) (h0 : P 0 e μ)
    (hs : ∀ i x e μ (N : EnvD → Mu → Prop), xs[i]? = some x → P i e μ → (∀ e' μ', P (i + 1) e' μ' → N e' μ') → ok μ ∧ g x e fun e1 => b e1 μ { nx := N, rt := E.rt, bk := E.nx, ct := N, xp := E.xp })
    (hd : ∀ e μ, P xs.length e μ → ok μ ∧ E.nx e μ) : goFor ok g b xs e μ E := by
  have key : ∀ (ys : List D) (i : Nat) (e : EnvD) (μ : Mu), xs.drop i = ys → i ≤ xs.length → P i e μ → goFor ok g b ys e μ E := by
    intro ys
    induction ys with
    | nil =>
      intro i e μ hy hi p
      have hl : xs.length ≤ i := List.drop_eq_nil_iff.mp hy
      have ei : i = xs.length := by omega
      subst ei
      exact hd e μ p
    | cons y ys ih =>
      intro i e μ hy hi p
      have hx : xs[i]? = some y := by
        have := List.getElem?_drop (xs := xs) (i := i) (j := 0)
        rw [hy] at this
        simpa using this.symm
      have hlt : i < xs.length := (List.getElem?_eq_some_iff.mp hx).1
      have hy2 : xs.drop (i + 1) = ys := by
        rw [← List.drop_drop, hy]
        rfl
      exact hs i y e μ (fun e2 μ2 => goFor ok g b ys e2 μ2 E) hx p fun e' μ' p' => ih (i + 1) e' μ' hy2 hlt p'
  exact key xs 0 e μ rfl (Nat.zero_le _) h0
theorem while_inv {t : WT} {b : WS} {E : WEnds} (P : Nat → EnvD → Mu → Prop)
    (hs : ∀ k e μ (N : EnvD → Mu → Prop), P k e μ → (∀ j e' μ', j < k → P j e' μ' → N e' μ') →
      t e μ (fun c μ1 => if c = true then b e μ1 { nx := N, rt := E.rt, bk := E.nx, ct := N, xp := E.xp } else E.nx e μ1) fun d μ1 => E.xp d e μ1) :
    ∀ (n k : Nat) (e : EnvD) (μ : Mu), k < n → P k e μ → goWhile t b n e μ E
  | 0, k, _, _, h, _ => absurd h (Nat.not_lt_zero k)
  | n + 1, k, e, μ, h, p => hs k e μ (fun e2 μ2 => goWhile t b n e2 μ2 E) p fun j e' μ' hj p' => while_inv P hs n j e' μ' (by omega) p'
theorem lc_inv {ok : Mu → Prop} {g : WG} {t : WT} {a : WE} {e : EnvD} {X : QD} {xs : List D} {μ : Mu} {Q : List D → Mu → Prop} (P : Nat → List D → Mu → Prop) (h0 : P 0 [] μ)
    (hs : ∀ i x acc μ (N : List D → Mu → Prop), xs[i]? = some x → P i acc μ → (∀ acc' μ', P (i + 1) acc' μ' → N acc' μ') → ok μ ∧ g x e fun e1 => t e1 μ (fun c μ1 => if c = true then a e1 μ1 (fun d μ2 => N (acc ++ [d]) μ2) X else N acc μ1) X)
    (hd : ∀ acc μ, P xs.length acc μ → ok μ ∧ Q acc μ) : goLc ok g t a e X xs [] μ Q := by
  have key : ∀ (ys : List D) (i : Nat) (acc : List D) (μ : Mu), xs.drop i = ys → i ≤ xs.length → P i acc μ → goLc ok g t a e X ys acc μ Q := by
    intro ys
    induction ys with
    | nil =>
      intro i acc μ hy hi p
      have hl : xs.length ≤ i := List.drop_eq_nil_iff.mp hy
      have ei : i = xs.length := by omega
      subst ei
      exact hd acc μ p
    | cons y ys ih =>
      intro i acc μ hy hi p
      have hx : xs[i]? = some y := by
        have := List.getElem?_drop (xs := xs) (i := i) (j := 0)
        rw [hy] at this
        simpa using this.symm
      have hlt : i < xs.length := (List.getElem?_eq_some_iff.mp hx).1
      have hy2 : xs.drop (i + 1) = ys := by
        rw [← List.drop_drop, hy]
        rfl
      exact hs i y acc μ (fun acc' μ2 => goLc ok g t a e X ys acc' μ2 Q) hx p fun acc' μ' p' => ih (i + 1) acc' μ' hy2 hlt p'
  exact key xs 0 [] μ rfl (Nat.zero_le _) h0
theorem atI0 {α : Type} (a : α) (l : List α) : atI (a :: l) 0 = some a := by
  unfold atI ixN
  rw [if_pos (by decide), if_pos (by show (0 : Int) < ((l.length + 1 : Nat) : Int); omega)]
  rfl
theorem atI1 {α : Type} (a b : α) (l : List α) : atI (a :: b :: l) 1 = some b := by
  unfold atI ixN
  rw [if_pos (by decide), if_pos (by show (1 : Int) < ((l.length + 1 + 1 : Nat) : Int); omega)]
  rfl
theorem atI2 {α : Type} (a b c : α) (l : List α) : atI (a :: b :: c :: l) 2 = some c := by
  unfold atI ixN
  rw [if_pos (by decide), if_pos (by show (2 : Int) < ((l.length + 1 + 1 + 1 : Nat) : Int); omega)]
  rfl
theorem atI3 {α : Type} (a b c d : α) (l : List α) : atI (a :: b :: c :: d :: l) 3 = some d := by
  unfold atI ixN
  rw [if_pos (by decide), if_pos (by show (3 : Int) < ((l.length + 1 + 1 + 1 + 1 : Nat) : Int); omega)]
  rfl
theorem atI4 {α : Type} (a b c d e : α) (l : List α) : atI (a :: b :: c :: d :: e :: l) 4 = some e := by
  unfold atI ixN
  rw [if_pos (by decide), if_pos (by show (4 : Int) < ((l.length + 1 + 1 + 1 + 1 + 1 : Nat) : Int); omega)]
  rfl
theorem ixN20 : ixN (0 + 1 + 1) 0 = some 0 := rfl
theorem ixN21 : ixN (0 + 1 + 1) 1 = some 1 := rfl
end DL

set_option Elab.async false
set_option linter.all false
set_option maxRecDepth 100000
set_option maxHeartbeats 4000000
/-! P1: what the defs of rules come to, plainly. -/
namespace DL
open PySem L2
def wp_is_list : WP := (wDef 1 1 (wRet (wCb false cbIsi (waCons (wV 0) (waCons (wTup (waCons (wK (.ty "list")) (waCons (wK (.ty "tuple")) waNil))) waNil)))))
def wp_is_number : WP := (wDef 1 1 (wRet (wAnd (wCb false cbIsi (waCons (wV 0) (waCons (wK (.ty "int")) waNil))) (wNot (wCb false cbIsi (waCons (wV 0) (waCons (wK (.ty "bool")) waNil)))))))
def wp_is_from : WP := (wDef 2 2 (wRet (wAnd (wCall wp_is_number [] (waCons (wV 0) waNil)) (wOp false oGe (wV 0) (wV 1)))))
def numD : D → Bool
  | .int _ => true
  | _ => false
def listD (μ : Mu) (d : D) : Bool := (match tyD μ d with
  | some (.b "list") => true
  | some (.b "tuple") => true
  | _ => false)
section
variable {μ : Mu} {Q X : QD} {d : D}
theorem ty_num {t : TyD} (h : tyD μ d = some t) : isi1 t (.ty "int") = some (numD d || (match d with | .bool _ => true | _ => false)) ∧ isi1 t (.ty "bool") = some (match d with | .bool _ => true | _ => false) := by
  cases d with
  | cell p =>
    simp only [tyD] at h
    cases e : μ p with
    | none => rw [e] at h; cases h
    | some nd =>
      rw [e] at h
      cases nd <;> (cases h; constructor <;> rfl)
  | obj n fs ds => cases h; exact ⟨rfl, rfl⟩
  | err n fs ds => cases h; exact ⟨rfl, rfl⟩
  | _ => first | (cases h; exact ⟨rfl, rfl⟩) | cases h
theorem ok_is_number {t : TyD} (h : tyD μ d = some t) (q : Q (.bool (numD d)) μ) : wp_is_number [d] μ Q X := by
  obtain ⟨h1, h2⟩ := ty_num h
  unfold wp_is_number
  simp only [wDef, initE, wSeq, wNext, wAsg, wAsgG, wDrop, wRet, wRetN, wIfS, wPar, wAug, wSetL, wBreak, wCont, wgN, wgNil, wgCons, wgTup, wiSeq, wiRng1, wiRng2, wiEnum, wFor, wLc, wYes, wV, wK, wOp, wUn, wTup, wLst, wCb, wTst, wNotT, wAndT, wOrT, wIf, wAnd, wOr, wNot, waNil, waCons, waStar, wCall, wMeth, wProp, wFld, wSetF, wMake, wCallI, wRev, wSl, woNone, woSome, wLm, wRz, wRzA, wFz, wCaught, wErrF, wDict0, wLrng, gt, st, sett, one, two, int1, atI0, atI1, atI2, atI3, atI4, ixN20, ixN21, List.map_cons, List.map_nil, List.cons_append, List.nil_append, List.append_nil, List.length_cons, List.length_nil, List.replicate_succ, List.replicate_zero, Nat.add_one_sub_one]
  refine ⟨trivial, ?_⟩
  simp only [cbIsi, two, h, isiD, h1, h2, sett]
  cases d <;> simp_all [numD]
theorem ok_is_list {t : TyD} (h : tyD μ d = some t) (q : Q (.bool (listD μ d)) μ) : wp_is_list [d] μ Q X := by
  unfold wp_is_list
  simp only [wDef, initE, wSeq, wNext, wAsg, wAsgG, wDrop, wRet, wRetN, wIfS, wPar, wAug, wSetL, wBreak, wCont, wgN, wgNil, wgCons, wgTup, wiSeq, wiRng1, wiRng2, wiEnum, wFor, wLc, wYes, wV, wK, wOp, wUn, wTup, wLst, wCb, wTst, wNotT, wAndT, wOrT, wIf, wAnd, wOr, wNot, waNil, waCons, waStar, wCall, wMeth, wProp, wFld, wSetF, wMake, wCallI, wRev, wSl, woNone, woSome, wLm, wRz, wRzA, wFz, wCaught, wErrF, wDict0, wLrng, gt, st, sett, one, two, int1, atI0, atI1, atI2, atI3, atI4, ixN20, ixN21, List.map_cons, List.map_nil, List.cons_append, List.nil_append, List.append_nil, List.length_cons, List.length_nil, List.replicate_succ, List.replicate_zero, Nat.add_one_sub_one]
  refine ⟨trivial, by decide, ?_⟩
  simp only [cbIsi, two, h, isiD, sett]
  have e : isiN t [.ty "list", .ty "tuple"] = some (listD μ d) := by
    unfold listD
    rw [h]
    cases d with
    | cell p =>
      simp only [tyD] at h
      cases e : μ p with
      | none => rw [e] at h; cases h
      | some nd =>
        rw [e] at h
        cases nd <;> (cases h; rfl)
    | obj n fs ds => cases h; rfl
    | err n fs ds => cases h; rfl
    | _ => first | (cases h; rfl) | cases h
  rw [e]
  exact q
def fromD (l : Int) : D → Bool
  | .int i => decide (l ≤ i)
  | _ => false
theorem ok_is_from {t : TyD} {l : Int} (h : tyD μ d = some t) (q : Q (.bool (fromD l d)) μ) : wp_is_from [d, .int l] μ Q X := by
  unfold wp_is_from
  simp only [wDef, initE, wSeq, wNext, wAsg, wAsgG, wDrop, wRet, wRetN, wIfS, wPar, wAug, wSetL, wBreak, wCont, wgN, wgNil, wgCons, wgTup, wiSeq, wiRng1, wiRng2, wiEnum, wFor, wLc, wYes, wV, wK, wOp, wUn, wTup, wLst, wCb, wTst, wNotT, wAndT, wOrT, wIf, wAnd, wOr, wNot, waNil, waCons, waStar, wCall, wMeth, wProp, wFld, wSetF, wMake, wCallI, wRev, wSl, woNone, woSome, wLm, wRz, wRzA, wFz, wCaught, wErrF, wDict0, wLrng, gt, st, sett, one, two, int1, atI0, atI1, atI2, atI3, atI4, ixN20, ixN21, List.map_cons, List.map_nil, List.cons_append, List.nil_append, List.append_nil, List.length_cons, List.length_nil, List.replicate_succ, List.replicate_zero, Nat.add_one_sub_one]
  refine ⟨trivial, ok_is_number h ?_⟩
  cases d <;> simp_all [numD, fromD, oGe, oInt2, sett]
/-! ### sequences, however they stand -/
section
variable {QQ : QR} {ds : List D}
theorem len_sq (h : sqD μ d = some ds) : cbLen [d] μ QQ X = QQ (.v (.int ds.length)) μ := by
  cases d <;> simp_all [cbLen, one, sqD]
theorem ix_sq {i : Int} {x : D} (h : sqD μ d = some ds) (hi : atI ds i = some x) : oIx d (.int i) μ QQ X = QQ (.v x) μ := by
  cases d <;> simp_all [oIx, sqD]
theorem tup_sq (h : sqD μ d = some ds) : cbTup [d] μ QQ X = QQ (.v (.tup ds)) μ := by simp [cbTup, one, h]
/-- a slice, made a tuple -/
theorem sl_tup {lo hi : Option Int} {Q : QD} (h : sqD μ d = some ds) (hs : ∀ ns, d ≠ .script ns) (q : Q (.tup (cutD ds lo hi)) μ) : oSl d lo hi μ (sett false fun x μ1 => cbTup [x] μ1 (sett false Q) X) X := by
  cases d <;> simp_all [oSl, sqD, seqL, sett, cbTup, one, Nd.frz]
theorem atI_nat {α : Type} (xs : List α) (i : Nat) (h : i < xs.length) : atI xs (i : Int) = some xs[i] := by
  have e : ixN xs.length (i : Int) = some i := by
    unfold ixN
    simp [h]
  unfold atI
  rw [e]
  simp [h]
end
/-! ### rows -/
def wp_without_end : WP := (wDef 1 2 (wSeq (wAsg 1 (wCb false cbLen (waCons (wV 0) waNil)))
    (wSeq (wWhile (wAndT (wTst (wOp false oGt (wV 1) (wK (.int 0)))) (wTst (wOp false oEq (wOp false oIx (wV 0) (wOp false oSub (wV 1) (wK (.int 1)))) (wK (.int 0))))) (wAug 1 (fun i j => i - j) (wK (.int 1))))
    (wRet (wCb false cbTup (waCons (wSl false oSl (wV 0) woNone (woSome (wV 1))) waNil))))))
theorem iL_get (ns : List Int) (i : Nat) : (iL ns)[i]? = (ns[i]?).map D.int := by
  unfold iL
  rw [List.getElem?_map]
theorem iL_len (ns : List Int) : (iL ns).length = ns.length := by
  unfold iL
  rw [List.length_map]
theorem trim_take {ns : List Int} {k : Nat} (hk : k < ns.length) (h : ns[k]? = some 0) : M.trim (ns.take (k + 1)) = M.trim (ns.take k) := by
  have e : ns.take (k + 1) = ns.take k ++ [0] := by
    rw [List.take_succ, h]
    rfl
  rw [e, M.trim_append_zero]
theorem ok_without_end {ns : List Int} (h : sqD μ d = some (iL ns)) (hs : ∀ ns, d ≠ .script ns) (hl : ns.length ≤ 2 ^ 20) (q : Q (.tup (iL (M.trim ns))) μ) : wp_without_end [d] μ Q X := by
  unfold wp_without_end
  simp only [wDef, initE, wSeq, wNext, wAsg, wAsgG, wDrop, wRet, wRetN, wIfS, wPar, wAug, wSetL, wBreak, wCont, wgN, wgNil, wgCons, wgTup, wiSeq, wiRng1, wiRng2, wiEnum, wFor, wLc, wYes, wV, wK, wOp, wUn, wTup, wLst, wCb, wTst, wNotT, wAndT, wOrT, wIf, wAnd, wOr, wNot, waNil, waCons, waStar, wCall, wMeth, wProp, wFld, wSetF, wMake, wCallI, wRev, wSl, woNone, woSome, wLm, wRz, wRzA, wFz, wCaught, wErrF, wDict0, wLrng, gt, st, sett, one, two, int1, atI0, atI1, atI2, atI3, atI4, ixN20, ixN21, List.map_cons, List.map_nil, List.cons_append, List.nil_append, List.append_nil, List.length_cons, List.length_nil, List.replicate_succ, List.replicate_zero, Nat.add_one_sub_one]
  refine ⟨trivial, ?_⟩
  simp only [len_sq h, sett, wWhile, iL_len]
  refine ⟨ns.length + 1, by omega, while_inv (fun k e μ' => e = [some d, some (.int (k : Int))] ∧ μ' = μ ∧ k ≤ ns.length ∧ M.trim (ns.take k) = M.trim ns) ?_ _ _ _ _ (Nat.lt_succ_self _) ⟨rfl, rfl, Nat.le_refl _, by rw [List.take_length]⟩⟩
  rintro k e μ' N ⟨rfl, rfl, hk, ht⟩ hN
  simp only [wDef, initE, wSeq, wNext, wAsg, wAsgG, wDrop, wRet, wRetN, wIfS, wPar, wAug, wSetL, wBreak, wCont, wgN, wgNil, wgCons, wgTup, wiSeq, wiRng1, wiRng2, wiEnum, wFor, wLc, wYes, wV, wK, wOp, wUn, wTup, wLst, wCb, wTst, wNotT, wAndT, wOrT, wIf, wAnd, wOr, wNot, waNil, waCons, waStar, wCall, wMeth, wProp, wFld, wSetF, wMake, wCallI, wRev, wSl, woNone, woSome, wLm, wRz, wRzA, wFz, wCaught, wErrF, wDict0, wLrng, gt, st, sett, one, two, int1, atI0, atI1, atI2, atI3, atI4, ixN20, ixN21, List.map_cons, List.map_nil, List.cons_append, List.nil_append, List.append_nil, List.length_cons, List.length_nil, List.replicate_succ, List.replicate_zero, Nat.add_one_sub_one, oGt, oInt2, true_and]
  by_cases h0 : k = 0
  · subst h0
    have e0 : M.trim ns = [] := by rw [← ht]; rfl
    rw [if_neg (by decide), if_neg (by decide)]
    refine sl_tup h hs ?_
    have e : cutD (iL ns) none (some ((0 : Nat) : Int)) = iL (M.trim ns) := by
      rw [e0]
      unfold cutD
      rw [HT.sIx_nat, HT.sIx_none]
      simp [iL]
    rw [e]
    exact q
  · have hk1 : (0 : Int) < (k : Int) := by omega
    rw [if_pos (decide_eq_true hk1)]
    simp only [oSub, oInt2, true_and, sett]
    have e1 : ((k : Int) - 1) = ((k - 1 : Nat) : Int) := by omega
    have hlt : k - 1 < (iL ns).length := by rw [iL_len]; omega
    have hlt2 : k - 1 < ns.length := by omega
    rw [e1, ix_sq h (atI_nat (iL ns) (k - 1) hlt)]
    have e2 : (iL ns)[k - 1] = D.int ns[k - 1] := by simp [iL]
    rw [e2]
    simp only [sett, oEq, eqU]
    by_cases hz : ns[k - 1] = 0
    · rw [if_pos (decide_eq_true hz)]
      refine hN (k - 1) _ _ (by omega) ⟨rfl, rfl, by omega, ?_⟩
      have h3 := trim_take hlt2 (by rw [List.getElem?_eq_getElem hlt2, hz])
      rw [show k - 1 + 1 = k by omega] at h3
      rw [← h3]
      exact ht
    · rw [if_neg (by simp [hz])]
      refine sl_tup h hs ?_
      have e : cutD (iL ns) none (some ((k : Nat) : Int)) = iL (M.trim ns) := by
        have et : M.trim (ns.take k) = ns.take k := M.trim_self _ fun hne => by
          rw [List.getLast_take]
          simp [hz, List.getElem?_eq_getElem hlt2]
        rw [← ht, et]
        unfold cutD
        rw [HT.sIx_nat, HT.sIx_none]
        simp [iL, List.map_take, Nat.min_eq_left hk]
      rw [e]
      exact q
/-! ### rules -/
def wp_Rule___init__ : WP := (wDef 2 4 (wSeq (wIfS (wNotT (wTst (wCall wp_is_list [] (waCons (wV 1) waNil)))) (wRzA "BadRule" "at" (wK .none)) wNext)
    (wSeq (wFor (wiEnum (waCons (wV 1) waNil)) (wgTup 2 (wgCons (wgN 2) (wgCons (wgN 3) wgNil))) (wIfS (wNotT (wTst (wCall wp_is_number [] (waCons (wV 3) waNil)))) (wRzA "BadRule" "at" (wV 2)) wNext))
    (wSetF "Rule" "own_numbers" (wV 0) (wCall wp_without_end [] (waCons (wV 1) waNil))))))
def wp_Rule___getitem__ : WP := (wDef 2 2 (wSeq (wIfS (wNotT (wTst (wCall wp_is_from [] (waCons (wV 1) (waCons (wK (.int 0)) waNil))))) (wRz "BadPower") wNext)
    (wRet (wIf (wTst (wOp false oLt (wV 1) (wCb false cbLen (waCons (wFld "Rule" "own_numbers" (wV 0)) waNil)))) (wOp false oIx (wFld "Rule" "own_numbers" (wV 0)) (wV 1)) (wK (.int 0))))))
def wp_row_value : WP := (wDef 2 4 (wSeq (wAsg 2 (wK (.int 0)))
    (wSeq (wFor (wiSeq (wRev false (wV 0))) (wgN 3) (wAsg 2 (wOp false oAdd (wOp false oMul (wV 2) (wV 1)) (wV 3))))
    (wRet (wV 2)))))
def wp_Rule_coefficients : WP := (wDef 1 1 (wRet (wFld "Rule" "own_numbers" (wV 0))))
def wp_Rule_degree : WP := (wDef 1 1 (wRet (wOp false oSub (wCb false cbLen (waCons (wFld "Rule" "own_numbers" (wV 0)) waNil)) (wK (.int 1)))))
def ruleD (ns : List Int) : D := .obj "Rule" ["own_numbers"] [.tup (iL ns)]
theorem sq_up {p : Addr} {nd : Nd} {ds : List D} (h : sqD μ d = some ds) (hp : μ p = Option.none) : sqD (up μ p nd) d = some ds := by
  cases d with
  | cell a =>
    have ne : a ≠ p := fun z => by
      subst z
      simp [sqD, hp, ndL] at h
    simp only [sqD] at h ⊢
    rw [up_ne ne]
    exact h
  | _ => exact h
theorem ty_sq {ds : List D} (h : sqD μ d = some ds) (hs : ∀ ns, d ≠ .script ns) : ∃ t, tyD μ d = some t ∧ listD μ d = true := by
  cases d with
  | cell a =>
    simp only [sqD] at h
    have e := ndL_some h
    refine ⟨.b "list", ?_, ?_⟩ <;> simp [listD, tyD, ndTy, e]
  | tup ds => exact ⟨_, rfl, rfl⟩
  | list ds => exact ⟨_, rfl, rfl⟩
  | script ns => exact absurd rfl (hs ns)
  | _ => simp [sqD] at h
theorem okS_sq {ds : List D} (h : sqD μ d = some ds) : okS d ds μ := by
  cases d <;> first | trivial | exact h
theorem enum_iL {ns : List Int} {i : Nat} {x : D} (h : (enumD 0 (iL ns))[i]? = some x) : ∃ n, ns[i]? = some n ∧ x = .tup [.int (i : Int), .int n] := by
  rw [enumD_get, iL_get] at h
  cases e : ns[i]? with
  | none => rw [e] at h; cases h
  | some n =>
    rw [e] at h
    cases h
    exact ⟨n, rfl, by simp⟩
theorem ok_Rule_init {p : Addr} {ns : List Int} (h : sqD μ d = some (iL ns)) (hs : ∀ ns, d ≠ .script ns) (hp : μ p = Option.none) (hl : ns.length ≤ 2 ^ 20)
    (q : Q .none (up μ p (.obj "Rule" ["own_numbers"] [.tup (iL (M.trim ns))]))) : wp_Rule___init__ [.cell p, d] (up μ p (.obj "Rule" [] [])) Q X := by
  have h1 := sq_up (nd := .obj "Rule" [] []) h hp
  obtain ⟨t, h2, h3⟩ := ty_sq h1 hs
  unfold wp_Rule___init__
  simp only [wDef, initE, wSeq, wNext, wAsg, wAsgG, wDrop, wRet, wRetN, wIfS, wPar, wAug, wSetL, wBreak, wCont, wgN, wgNil, wgCons, wgTup, wiSeq, wiRng1, wiRng2, wiEnum, wFor, wLc, wYes, wV, wK, wOp, wUn, wTup, wLst, wCb, wTst, wNotT, wAndT, wOrT, wIf, wAnd, wOr, wNot, waNil, waCons, waStar, wCall, wMeth, wProp, wFld, wSetF, wMake, wCallI, wRev, wSl, woNone, woSome, wLm, wRz, wRzA, wFz, wCaught, wErrF, wDict0, wLrng, gt, st, sett, one, two, int1, atI0, atI1, atI2, atI3, atI4, ixN20, ixN21, List.map_cons, List.map_nil, List.cons_append, List.nil_append, List.append_nil, List.length_cons, List.length_nil, List.replicate_succ, List.replicate_zero, Nat.add_one_sub_one]
  refine ⟨trivial, ok_is_list h2 ?_⟩
  rw [h3]
  simp only [Bool.not_true, if_neg Bool.false_ne_true, h1]
  refine ⟨by rw [enumD_len, iL_len]; omega, for_inv (fun i e μ' => μ' = up μ p (.obj "Rule" [] []) ∧ ∃ a b, e = [some (.cell p), some d, a, b]) ⟨rfl, _, _, rfl⟩ ?_ ?_⟩
  · rintro i x e μ' N hx ⟨rfl, a, b, rfl⟩ hN
    obtain ⟨n, hn, rfl⟩ := enum_iL hx
    refine ⟨okS_sq h1, ?_⟩
    simp only [wDef, initE, wSeq, wNext, wAsg, wAsgG, wDrop, wRet, wRetN, wIfS, wPar, wAug, wSetL, wBreak, wCont, wgN, wgNil, wgCons, wgTup, wiSeq, wiRng1, wiRng2, wiEnum, wFor, wLc, wYes, wV, wK, wOp, wUn, wTup, wLst, wCb, wTst, wNotT, wAndT, wOrT, wIf, wAnd, wOr, wNot, waNil, waCons, waStar, wCall, wMeth, wProp, wFld, wSetF, wMake, wCallI, wRev, wSl, woNone, woSome, wLm, wRz, wRzA, wFz, wCaught, wErrF, wDict0, wLrng, gt, st, sett, one, two, int1, atI0, atI1, atI2, atI3, atI4, ixN20, ixN21, List.map_cons, List.map_nil, List.cons_append, List.nil_append, List.append_nil, List.length_cons, List.length_nil, List.replicate_succ, List.replicate_zero, Nat.add_one_sub_one]
    refine ⟨trivial, ok_is_number (t := .b "int") rfl ?_⟩
    exact hN _ _ ⟨rfl, _, _, rfl⟩
  · rintro e μ' ⟨rfl, a, b, rfl⟩
    refine ⟨okS_sq h1, ?_⟩
    simp only [wDef, initE, wSeq, wNext, wAsg, wAsgG, wDrop, wRet, wRetN, wIfS, wPar, wAug, wSetL, wBreak, wCont, wgN, wgNil, wgCons, wgTup, wiSeq, wiRng1, wiRng2, wiEnum, wFor, wLc, wYes, wV, wK, wOp, wUn, wTup, wLst, wCb, wTst, wNotT, wAndT, wOrT, wIf, wAnd, wOr, wNot, waNil, waCons, waStar, wCall, wMeth, wProp, wFld, wSetF, wMake, wCallI, wRev, wSl, woNone, woSome, wLm, wRz, wRzA, wFz, wCaught, wErrF, wDict0, wLrng, gt, st, sett, one, two, int1, atI0, atI1, atI2, atI3, atI4, ixN20, ixN21, List.map_cons, List.map_nil, List.cons_append, List.nil_append, List.append_nil, List.length_cons, List.length_nil, List.replicate_succ, List.replicate_zero, Nat.add_one_sub_one]
    refine ok_without_end h1 hs hl ?_
    simp only [up_same, ndO, putN, up_up]
    exact ⟨trivial, by decide, q⟩
/-- Rule(..) -/
theorem mk_Rule {Q X : QD} {ns : List Int} (h : sqD μ d = some (iL ns)) (hs : ∀ ns, d ≠ .script ns) (hl : ns.length ≤ 2 ^ 20) (q : Q (ruleD (M.trim ns)) μ) (p : Addr) (hp : μ p = Option.none) :
    wp_Rule___init__ [.cell p, d] (up μ p (.obj "Rule" [] [])) (fun r μ2 => r = .none ∧ (match μ2 p with
      | some nd => Q nd.frz (del μ2 p)
      | Option.none => False)) X := by
  refine ok_Rule_init h hs hp hl ⟨rfl, ?_⟩
  rw [up_same]
  show Q _ (del (up μ p _) p)
  rw [del_up hp]
  exact q
theorem ok_Rule_getitem {ns : List Int} {t : TyD} (h : tyD μ d = some t) (q : ∀ i : Nat, d = .int (i : Int) → Q (.int (ns.getD i 0)) μ) (x : fromD 0 d = false → X (.err "BadPower" [] []) μ) : wp_Rule___getitem__ [ruleD ns, d] μ Q X := by
  unfold wp_Rule___getitem__
  simp only [wDef, initE, wSeq, wNext, wAsg, wAsgG, wDrop, wRet, wRetN, wIfS, wPar, wAug, wSetL, wBreak, wCont, wgN, wgNil, wgCons, wgTup, wiSeq, wiRng1, wiRng2, wiEnum, wFor, wLc, wYes, wV, wK, wOp, wUn, wTup, wLst, wCb, wTst, wNotT, wAndT, wOrT, wIf, wAnd, wOr, wNot, waNil, waCons, waStar, wCall, wMeth, wProp, wFld, wSetF, wMake, wCallI, wRev, wSl, woNone, woSome, wLm, wRz, wRzA, wFz, wCaught, wErrF, wDict0, wLrng, gt, st, sett, one, two, int1, atI0, atI1, atI2, atI3, atI4, ixN20, ixN21, List.map_cons, List.map_nil, List.cons_append, List.nil_append, List.append_nil, List.length_cons, List.length_nil, List.replicate_succ, List.replicate_zero, Nat.add_one_sub_one]
  refine ⟨trivial, ok_is_from h ?_⟩
  cases hf : fromD 0 d with
  | false => exact x hf
  | true =>
    cases d <;> try (cases hf; done)
    rename_i i
    have hi : 0 ≤ i := of_decide_eq_true hf
    obtain ⟨j, rfl⟩ := Int.eq_ofNat_of_zero_le hi
    have q1 := q j rfl
    simp only [Bool.not_true, if_neg Bool.false_ne_true, ruleD, asObj, fldD, if_true, true_and, cbLen, one, sqD, sett, iL_len, oLt, oInt2]
    by_cases hj : (j : Int) < (ns.length : Int)
    · have hj2 : j < (iL ns).length := by rw [iL_len]; omega
      rw [if_pos (decide_eq_true hj), ix_sq (ds := iL ns) rfl (atI_nat _ j hj2)]
      have e : (iL ns)[j] = D.int (ns.getD j 0) := by
        have : j < ns.length := by omega
        simp [iL, List.getD, this]
      rw [e]
      exact q1
    · rw [if_neg (by simp; omega)]
      have e : ns.getD j 0 = 0 := by
        simp [List.getD]
        rw [List.getElem?_eq_none (by omega)]
        rfl
      rw [e] at q1
      exact q1
end
end DL

set_option Elab.async false
set_option linter.all false
set_option maxRecDepth 100000
set_option maxHeartbeats 4000000
/-! P2: rules at numbers, terms, equality. -/
namespace DL
open PySem L2
theorem ev_bits {b : Nat} {t : Int} (ht : t.natAbs < 2 ^ b) : ∀ {ns : List Int}, (∀ n ∈ ns, n.natAbs < 2 ^ b) → (M.ev ns t).natAbs < 2 ^ ((b + 1) * ns.length)
  | [], _ => by simp [M.ev]
  | n :: ns, h => by
    have ih := ev_bits ht (ns := ns) fun m hm => h m (List.mem_cons_of_mem _ hm)
    have hn := h n List.mem_cons_self
    have e : M.ev (n :: ns) t = n + t * M.ev ns t := rfl
    rw [e, List.length_cons, Nat.mul_add, Nat.mul_one, Nat.pow_add, Nat.pow_succ]
    have h1 := Int.natAbs_add_le n (t * M.ev ns t)
    rw [Int.natAbs_mul] at h1
    have h2 : t.natAbs * (M.ev ns t).natAbs ≤ 2 ^ b * 2 ^ ((b + 1) * ns.length) := Nat.mul_le_mul (Nat.le_of_lt ht) (Nat.le_of_lt ih)
    have h3 : 2 ^ b ≤ 2 ^ b * 2 ^ ((b + 1) * ns.length) := Nat.le_mul_of_pos_right _ (Nat.pow_pos (by decide))
    have h4 : 2 ^ ((b + 1) * ns.length) * (2 ^ b * 2) = 2 ^ b * 2 ^ ((b + 1) * ns.length) + 2 ^ b * 2 ^ ((b + 1) * ns.length) := by
      rw [Nat.mul_comm (2 ^ b) (2 ^ ((b + 1) * ns.length)), ← Nat.mul_assoc]
      omega
    omega
theorem mulU_of {i j : Int} {a b : Nat} (ha : i.natAbs < 2 ^ a) (hb : j.natAbs < 2 ^ b) (h : a + b ≤ 130000000) : CMulU i j :=
  .inl (mulx_ok ha hb (by omega))
section
variable {μ : Mu} {Q X : QD} {d : D}
/-- no number is greater -/
def HUGE : Nat := 2 ^ 16000000
theorem pow_huge {b : Nat} (h : b ≤ 16000000) : 2 ^ b ≤ HUGE := Nat.pow_le_pow_right (by decide) h
theorem mulU_huge {i j : Int} (hi : i.natAbs ≤ HUGE) (hj : j.natAbs ≤ HUGE) : CMulU i j :=
  have k : HUGE < 2 ^ 16000001 := Nat.pow_lt_pow_right (by decide) (by decide)
  mulU_of (a := 16000001) (b := 16000001) (Nat.lt_of_le_of_lt hi k) (Nat.lt_of_le_of_lt hj k) (by decide)
theorem rev_get {ns : List Int} {i : Nat} {x : D} (h : (iL ns).reverse[i]? = some x) : ∃ n, ns.reverse[i]? = some n ∧ x = .int n := by
  unfold iL at h
  rw [← List.map_reverse, List.getElem?_map] at h
  cases e : ns.reverse[i]? with
  | none => rw [e] at h; cases h
  | some n => rw [e] at h; cases h; exact ⟨n, rfl, rfl⟩
theorem iL_snoc (ns : List Int) (n : Int) : iL ns ++ [D.int n] = iL (ns ++ [n]) := by
  unfold iL
  rw [List.map_append]
  rfl
/-- the value of the last i numbers -/
def evR (ns : List Int) (t : Int) (i : Nat) : Int := M.ev ((ns.reverse.take i).reverse) t
theorem evR_succ {ns : List Int} {t n : Int} {i : Nat} (h : ns.reverse[i]? = some n) : evR ns t (i + 1) = evR ns t i * t + n := by
  unfold evR
  rw [List.take_succ, h]
  show M.ev ((ns.reverse.take i ++ [n]).reverse) t = _
  rw [List.reverse_append]
  show n + t * M.ev (ns.reverse.take i).reverse t = _
  rw [Int.mul_comm t, Int.add_comm]
theorem evR_all (ns : List Int) (t : Int) : evR ns t ns.length = M.ev ns t := by
  unfold evR
  rw [show ns.length = ns.reverse.length from (List.length_reverse).symm, List.take_length, List.reverse_reverse]
theorem evR_bits {ns : List Int} {t : Int} {b : Nat} (hn : ∀ n ∈ ns, n.natAbs < 2 ^ b) (ht : t.natAbs < 2 ^ b) (i : Nat) : (evR ns t i).natAbs < 2 ^ ((b + 1) * ns.length) := by
  have h := ev_bits ht (ns := (ns.reverse.take i).reverse) fun n h => hn n (by simpa using List.mem_of_mem_take (List.mem_reverse.mp h))
  refine Nat.lt_of_lt_of_le h (Nat.pow_le_pow_right (by decide) (Nat.mul_le_mul_left _ ?_))
  rw [List.length_reverse, List.length_take, List.length_reverse]
  exact Nat.min_le_right _ _
/-- the loop of both defs that tell a value -/
theorem horner_loop {ns : List Int} {t : Int} {b : Nat} {ok : Mu → Prop} {E : WEnds} {d0 : D} {a : Option D} (hn : ∀ n ∈ ns, n.natAbs < 2 ^ b) (ht : t.natAbs < 2 ^ b) (hb : (b + 1) * ns.length + b ≤ 40000000) (hok : ok μ)
    (q : ∀ x, E.nx [some d0, some (.int t), some (.int (M.ev ns t)), x] μ) : goFor ok (wgN 3) (wAsg 2 (wOp false oAdd (wOp false oMul (wV 2) (wV 1)) (wV 3))) (iL ns).reverse [some d0, some (.int t), some (.int 0), a] μ E := by
  refine for_inv (fun i e μ' => μ' = μ ∧ ∃ x, e = [some d0, some (.int t), some (.int (evR ns t i)), x]) ⟨rfl, _, rfl⟩ ?_ ?_
  · rintro i x e μ' N hx ⟨rfl, y, rfl⟩ hN
    obtain ⟨n, hn1, rfl⟩ := rev_get hx
    refine ⟨hok, ?_⟩
    simp only [wDef, initE, wSeq, wNext, wAsg, wAsgG, wDrop, wRet, wRetN, wIfS, wPar, wAug, wSetL, wBreak, wCont, wgN, wgNil, wgCons, wgTup, wiSeq, wiRng1, wiRng2, wiEnum, wFor, wLc, wYes, wV, wK, wOp, wUn, wTup, wLst, wCb, wTst, wNotT, wAndT, wOrT, wIf, wAnd, wOr, wNot, waNil, waCons, waStar, wCall, wMeth, wProp, wFld, wSetF, wMake, wCallI, wRev, wSl, woNone, woSome, wLm, wRz, wRzA, wFz, wCaught, wErrF, wDict0, wLrng, gt, st, sett, one, two, int1, atI0, atI1, atI2, atI3, atI4, ixN20, ixN21, List.map_cons, List.map_nil, List.cons_append, List.nil_append, List.append_nil, List.length_cons, List.length_nil, List.replicate_succ, List.replicate_zero, Nat.add_one_sub_one, oMul, oAdd]
    refine ⟨mulU_of (evR_bits hn ht i) ht (by omega), ?_⟩
    rw [← evR_succ hn1]
    exact hN _ _ ⟨rfl, _, rfl⟩
  · rintro e μ' ⟨rfl, y, rfl⟩
    refine ⟨hok, ?_⟩
    rw [List.length_reverse, iL_len, evR_all]
    exact q y
theorem ok_row_value {ns : List Int} {t : Int} {b : Nat} (hn : ∀ n ∈ ns, n.natAbs < 2 ^ b) (ht : t.natAbs < 2 ^ b) (hl : ns.length ≤ 2 ^ 20) (hb : (b + 1) * ns.length + b ≤ 40000000) (q : Q (.int (M.ev ns t)) μ) : wp_row_value [.tup (iL ns), .int t] μ Q X := by
  unfold wp_row_value
  simp only [wDef, initE, wSeq, wAsg, wK, wFor, wiSeq, wRev, wV, gt, st, sqD, List.map_cons, List.map_nil, List.cons_append, List.nil_append, List.length_cons, List.length_nil, List.replicate_succ, List.replicate_zero, Nat.add_one_sub_one]
  refine ⟨trivial, by rw [List.length_reverse, iL_len]; omega, horner_loop hn ht hb trivial fun x => ?_⟩
  simp only [wDef, initE, wSeq, wNext, wAsg, wAsgG, wDrop, wRet, wRetN, wIfS, wPar, wAug, wSetL, wBreak, wCont, wgN, wgNil, wgCons, wgTup, wiSeq, wiRng1, wiRng2, wiEnum, wFor, wLc, wYes, wV, wK, wOp, wUn, wTup, wLst, wCb, wTst, wNotT, wAndT, wOrT, wIf, wAnd, wOr, wNot, waNil, waCons, waStar, wCall, wMeth, wProp, wFld, wSetF, wMake, wCallI, wRev, wSl, woNone, woSome, wLm, wRz, wRzA, wFz, wCaught, wErrF, wDict0, wLrng, gt, st, sett, one, two, int1, atI0, atI1, atI2, atI3, atI4, ixN20, ixN21, List.map_cons, List.map_nil, List.cons_append, List.nil_append, List.append_nil, List.length_cons, List.length_nil, List.replicate_succ, List.replicate_zero, Nat.add_one_sub_one]
  exact q
theorem ok_Rule_coefficients {ns : List Int} (q : Q (.tup (iL ns)) μ) : wp_Rule_coefficients [ruleD ns] μ Q X := by
  unfold wp_Rule_coefficients
  simp only [wDef, initE, wSeq, wNext, wAsg, wAsgG, wDrop, wRet, wRetN, wIfS, wPar, wAug, wSetL, wBreak, wCont, wgN, wgNil, wgCons, wgTup, wiSeq, wiRng1, wiRng2, wiEnum, wFor, wLc, wYes, wV, wK, wOp, wUn, wTup, wLst, wCb, wTst, wNotT, wAndT, wOrT, wIf, wAnd, wOr, wNot, waNil, waCons, waStar, wCall, wMeth, wProp, wFld, wSetF, wMake, wCallI, wRev, wSl, woNone, woSome, wLm, wRz, wRzA, wFz, wCaught, wErrF, wDict0, wLrng, gt, st, sett, one, two, int1, atI0, atI1, atI2, atI3, atI4, ixN20, ixN21, List.map_cons, List.map_nil, List.cons_append, List.nil_append, List.append_nil, List.length_cons, List.length_nil, List.replicate_succ, List.replicate_zero, Nat.add_one_sub_one, ruleD, asObj, fldD, if_true, true_and]
  exact q
theorem ok_Rule_degree {ns : List Int} (q : Q (.int ((ns.length : Int) - 1)) μ) : wp_Rule_degree [ruleD ns] μ Q X := by
  unfold wp_Rule_degree
  simp only [wDef, initE, wSeq, wNext, wAsg, wAsgG, wDrop, wRet, wRetN, wIfS, wPar, wAug, wSetL, wBreak, wCont, wgN, wgNil, wgCons, wgTup, wiSeq, wiRng1, wiRng2, wiEnum, wFor, wLc, wYes, wV, wK, wOp, wUn, wTup, wLst, wCb, wTst, wNotT, wAndT, wOrT, wIf, wAnd, wOr, wNot, waNil, waCons, waStar, wCall, wMeth, wProp, wFld, wSetF, wMake, wCallI, wRev, wSl, woNone, woSome, wLm, wRz, wRzA, wFz, wCaught, wErrF, wDict0, wLrng, gt, st, sett, one, two, int1, atI0, atI1, atI2, atI3, atI4, ixN20, ixN21, List.map_cons, List.map_nil, List.cons_append, List.nil_append, List.append_nil, List.length_cons, List.length_nil, List.replicate_succ, List.replicate_zero, Nat.add_one_sub_one, ruleD, asObj, fldD, if_true, true_and, cbLen, sqD, oSub, oInt2, iL_len]
  exact q
theorem eq_tups (ns ms : List Int) (Q : Bool → Prop) (q : Q (decide (ns = ms))) : eqG (.tup (iL ns)) (.tup (iL ms)) Q := by
  have e1 : ∀ l : List Int, plainD (.tup (iL l)) = true := fun l => plains_ints l
  refine ⟨⟨e1 ns, e1 ms, shaped_intsT ns, shaped_intsT ms⟩, ?_⟩
  have e : PyData.eqv (pd (.tup (iL ns))) (pd (.tup (iL ms))) = decide (ns = ms) := by
    show PyData.eqv (.tuple (pds (iL ns))) (.tuple (pds (iL ms))) = _
    unfold iL
    rw [pds_ints, pds_ints, PyData.eqv, eqvAll_ints]
  rw [e]
  exact q
end
end DL

set_option Elab.async false
set_option linter.all false
set_option maxRecDepth 100000
set_option maxHeartbeats 4000000
/-! P3: the laws' own helpers: draws, rows. -/
namespace DL
open PySem L2
def wp_law_pick : WP := (wDef 2 2 (wRet (wOp false oIx (wV 1) (wCall wp_law_take [] (waCons (wV 0) (waCons (wCb false cbLen (waCons (wV 1) waNil)) waNil))))))
def wp_law_number : WP := (wDef 2 3 (wSeq (wAsg 2 (wCall wp_law_pick [] (waCons (wV 0) (waCons (wLst false (waCons (wK (.int 0)) (waCons (wK (.int 1)) (waCons (wK (.int 1)) (waCons (wK (.int 2)) (waCons (wK (.int 3)) (waCons (wCall wp_law_take [] (waCons (wV 0) (waCons (wOp false oAdd (wV 1) (wK (.int 1))) waNil))) waNil))))))) waNil))))
    (wRet (wCall wp_law_pick [] (waCons (wV 0) (waCons (wLst false (waCons (wCb false cbMin2 (waCons (wV 2) (waCons (wV 1) waNil))) (waCons (wOp false oSub (wK (.int 0)) (wCb false cbMin2 (waCons (wV 2) (waCons (wV 1) waNil)))) waNil))) waNil))))))
def wp_law_rule_at : WP := (wDef 2 4 (wSeq (wAsg 2 (wK (.int 0)))
    (wSeq (wFor (wiSeq (wRev false (wV 0))) (wgN 3) (wAsg 2 (wOp false oAdd (wOp false oMul (wV 2) (wV 1)) (wV 3))))
    (wRet (wV 2)))))
section
variable {μ : Mu} {Q X : QD} {d : D}
theorem log_le {m : Int} (h : m.natAbs < 2 ^ 9000) : m.natAbs.log2 < 9000 := by
  by_cases h0 : m.natAbs = 0
  · rw [h0]
    decide
  · exact (Nat.log2_lt h0).mpr h
theorem ok_take {m : Int} (h0 : 0 < m) (h1 : m.natAbs < 2 ^ 9000) (q : ∀ i : Int, 0 ≤ i → i < m → Q (.int i) μ) : wp_law_take [.state, .int m] μ Q X := ⟨⟨h0, log_le h1⟩, q⟩
theorem ok_pick {ds : List D} (h : sqD μ d = some ds) (h0 : ds ≠ []) (h1 : ds.length ≤ 2 ^ 60) (q : ∀ x ∈ ds, Q x μ) : wp_law_pick [.state, d] μ Q X := by
  unfold wp_law_pick
  simp only [wDef, initE, wSeq, wNext, wAsg, wAsgG, wDrop, wRet, wRetN, wIfS, wPar, wAug, wSetL, wBreak, wCont, wgN, wgNil, wgCons, wgTup, wiSeq, wiRng1, wiRng2, wiEnum, wFor, wLc, wYes, wV, wK, wOp, wUn, wTup, wLst, wCb, wTst, wNotT, wAndT, wOrT, wIf, wAnd, wOr, wNot, waNil, waCons, waStar, wCall, wMeth, wProp, wFld, wSetF, wMake, wCallI, wRev, wSl, woNone, woSome, wLm, wRz, wRzA, wFz, wCaught, wErrF, wDict0, wLrng, gt, st, sett, one, two, int1, atI0, atI1, atI2, atI3, atI4, ixN20, ixN21, List.map_cons, List.map_nil, List.cons_append, List.nil_append, List.append_nil, List.length_cons, List.length_nil, List.replicate_succ, List.replicate_zero, Nat.add_one_sub_one, true_and, len_sq h]
  have hp : 0 < ds.length := List.length_pos_iff.mpr h0
  refine ok_take (by omega) ?_ fun i h2 h3 => ?_
  · rw [Int.natAbs_natCast]
    exact Nat.lt_of_le_of_lt h1 (Nat.pow_lt_pow_right (by decide) (by decide))
  · obtain ⟨j, rfl⟩ := Int.eq_ofNat_of_zero_le h2
    have hj : j < ds.length := by omega
    rw [ix_sq h (atI_nat ds j hj)]
    exact q _ (List.getElem_mem hj)
theorem ok_number {g : Int} (h0 : 0 ≤ g) (h1 : g < 2 ^ 62) (q : ∀ i : Int, i.natAbs ≤ g.natAbs → Q (.int i) μ) : wp_law_number [.state, .int g] μ Q X := by
  unfold wp_law_number
  simp only [wDef, initE, wSeq, wNext, wAsg, wAsgG, wDrop, wRet, wRetN, wIfS, wPar, wAug, wSetL, wBreak, wCont, wgN, wgNil, wgCons, wgTup, wiSeq, wiRng1, wiRng2, wiEnum, wFor, wLc, wYes, wV, wK, wOp, wUn, wTup, wLst, wCb, wTst, wNotT, wAndT, wOrT, wIf, wAnd, wOr, wNot, waNil, waCons, waStar, wCall, wMeth, wProp, wFld, wSetF, wMake, wCallI, wRev, wSl, woNone, woSome, wLm, wRz, wRzA, wFz, wCaught, wErrF, wDict0, wLrng, gt, st, sett, one, two, int1, atI0, atI1, atI2, atI3, atI4, ixN20, ixN21, List.map_cons, List.map_nil, List.cons_append, List.nil_append, List.append_nil, List.length_cons, List.length_nil, List.replicate_succ, List.replicate_zero, Nat.add_one_sub_one, true_and, oAdd]
  refine ok_take (by omega) (Nat.lt_of_lt_of_le (by omega : (g + 1).natAbs < 2 ^ 63) (Nat.pow_le_pow_right (by decide) (by decide))) fun i h2 h3 => ?_
  refine ⟨by decide, ok_pick rfl (fun z => by cases z) (by simp) fun x hx => ?_⟩
  have hx2 : ∃ s : Int, x = .int s ∧ 0 ≤ s := by
    simp only [Nd.frz, List.mem_cons, List.not_mem_nil, or_false] at hx
    rcases hx with rfl | rfl | rfl | rfl | rfl | rfl
    · exact ⟨0, rfl, by decide⟩
    · exact ⟨1, rfl, by decide⟩
    · exact ⟨1, rfl, by decide⟩
    · exact ⟨2, rfl, by decide⟩
    · exact ⟨3, rfl, by decide⟩
    · exact ⟨i, rfl, h2⟩
  obtain ⟨s, rfl, hs⟩ := hx2
  simp only [cbMin2, wDef, initE, wSeq, wNext, wAsg, wAsgG, wDrop, wRet, wRetN, wIfS, wPar, wAug, wSetL, wBreak, wCont, wgN, wgNil, wgCons, wgTup, wiSeq, wiRng1, wiRng2, wiEnum, wFor, wLc, wYes, wV, wK, wOp, wUn, wTup, wLst, wCb, wTst, wNotT, wAndT, wOrT, wIf, wAnd, wOr, wNot, waNil, waCons, waStar, wCall, wMeth, wProp, wFld, wSetF, wMake, wCallI, wRev, wSl, woNone, woSome, wLm, wRz, wRzA, wFz, wCaught, wErrF, wDict0, wLrng, gt, st, sett, one, two, int1, atI0, atI1, atI2, atI3, atI4, ixN20, ixN21, List.map_cons, List.map_nil, List.cons_append, List.nil_append, List.append_nil, List.length_cons, List.length_nil, List.replicate_succ, List.replicate_zero, Nat.add_one_sub_one, oSub, oInt2, true_and]
  refine ⟨by decide, ok_pick rfl (fun z => by cases z) (by simp) fun x hx => ?_⟩
  simp only [Nd.frz, List.mem_cons, List.not_mem_nil, or_false] at hx
  rcases hx with rfl | rfl
  · refine q _ ?_
    split <;> omega
  · refine q _ ?_
    split <;> omega
theorem ok_rule_at {ns : List Int} {t : Int} {b : Nat} (hn : ∀ n ∈ ns, n.natAbs < 2 ^ b) (ht : t.natAbs < 2 ^ b) (hl : ns.length ≤ 2 ^ 20) (hb : (b + 1) * ns.length + b ≤ 40000000) (q : Q (.int (M.ev ns t)) μ) : wp_law_rule_at [.list (iL ns), .int t] μ Q X := by
  unfold wp_law_rule_at
  simp only [wDef, initE, wSeq, wAsg, wK, wFor, wiSeq, wRev, wV, gt, st, sqD, seqL, sett, Nd.frz, List.map_cons, List.map_nil, List.cons_append, List.nil_append, List.length_cons, List.length_nil, List.replicate_succ, List.replicate_zero, Nat.add_one_sub_one]
  refine ⟨trivial, by rw [List.length_reverse, iL_len]; omega, horner_loop hn ht hb trivial fun x => ?_⟩
  simp only [wDef, initE, wSeq, wNext, wAsg, wAsgG, wDrop, wRet, wRetN, wIfS, wPar, wAug, wSetL, wBreak, wCont, wgN, wgNil, wgCons, wgTup, wiSeq, wiRng1, wiRng2, wiEnum, wFor, wLc, wYes, wV, wK, wOp, wUn, wTup, wLst, wCb, wTst, wNotT, wAndT, wOrT, wIf, wAnd, wOr, wNot, waNil, waCons, waStar, wCall, wMeth, wProp, wFld, wSetF, wMake, wCallI, wRev, wSl, woNone, woSome, wLm, wRz, wRzA, wFz, wCaught, wErrF, wDict0, wLrng, gt, st, sett, one, two, int1, atI0, atI1, atI2, atI3, atI4, ixN20, ixN21, List.map_cons, List.map_nil, List.cons_append, List.nil_append, List.append_nil, List.length_cons, List.length_nil, List.replicate_succ, List.replicate_zero, Nat.add_one_sub_one]
  exact q
end
end DL

set_option Elab.async false
set_option linter.all false
set_option maxRecDepth 100000
set_option maxHeartbeats 4000000
/-! P4: what repr shows. -/
namespace DL
open PySem L2
theorem Sh.up {L k L' k' : Nat} {p : PyData} (h : Sh L k p) (h1 : L ≤ L') (h2 : k ≤ k') : Sh L' k' p := ⟨Nat.le_trans h.len h1, Nat.le_trans h.dep h2, h.can, h.nod⟩
section
variable {μ : Mu} {Q X : QD} {QQ : QR} {d : D}
end
end DL

set_option Elab.async false
set_option linter.all false
set_option maxRecDepth 100000
set_option maxHeartbeats 4000000
/-! P5: the laws' own steps. -/
namespace DL
open PySem L2
def wp_law_is_low : WP := (wDef 1 1 (wRet (wOp false (oIn false) (wOp false oIx (wV 0) (wK (.int 0))) (wTup (waCons (wK (.str "x")) (waCons (wK (.str "y")) waNil))))))
inductive Stp where
  | x (ns : List Int) | y (ns : List Int) | move (s t : Int) | turn (a b c d : Int)
deriving DecidableEq
/-- as the laws write it -/
def Stp.b : Stp → D
  | .x ns => .tup [.str "x", .list (iL ns)]
  | .y ns => .tup [.str "y", .list (iL ns)]
  | .move s t => .tup [.str "move", .int s, .int t]
  | .turn a b c d => .tup [.str "turn", .int a, .int b, .int c, .int d]
/-- as the package has it -/
def Stp.p : Stp → D
  | .x ns => .tup [.str "x", ruleD ns]
  | .y ns => .tup [.str "y", ruleD ns]
  | .move s t => .tup [.str "move", .int s, .int t]
  | .turn a b c d => .tup [.str "turn", .int a, .int b, .int c, .int d]
def Stp.low : Stp → Bool
  | .x _ => true
  | .y _ => true
  | _ => false
def det1 (a b c d : Int) : Prop := a * d - b * c = 1 ∨ a * d - b * c = -1
def Stp.Ok (B : Nat) : Stp → Prop
  | .x ns => M.trim ns = ns ∧ ns.length ≤ 7 ∧ ∀ n ∈ ns, n.natAbs ≤ B
  | .y ns => M.trim ns = ns ∧ ns.length ≤ 7 ∧ ∀ n ∈ ns, n.natAbs ≤ B
  | .move s t => s.natAbs ≤ B ∧ t.natAbs ≤ B
  | .turn a b c d => det1 a b c d ∧ a.natAbs ≤ B ∧ b.natAbs ≤ B ∧ c.natAbs ≤ B ∧ d.natAbs ≤ B
theorem Stp.Ok.up {B B' : Nat} (h : B ≤ B') : ∀ {s : Stp}, s.Ok B → s.Ok B'
  | .x _, ⟨h1, h2, h3⟩ => ⟨h1, h2, fun n hn => Nat.le_trans (h3 n hn) h⟩
  | .y _, ⟨h1, h2, h3⟩ => ⟨h1, h2, fun n hn => Nat.le_trans (h3 n hn) h⟩
  | .move _ _, ⟨h1, h2⟩ => ⟨Nat.le_trans h1 h, Nat.le_trans h2 h⟩
  | .turn _ _ _ _, ⟨h0, h1, h2, h3, h4⟩ => ⟨h0, Nat.le_trans h1 h, Nat.le_trans h2 h, Nat.le_trans h3 h, Nat.le_trans h4 h⟩
section
variable {μ : Mu} {Q X : QD} {d : D} {B : Nat}
theorem ok_is_low {s : Stp} (q : Q (.bool s.low) μ) : wp_law_is_low [s.b] μ Q X := by
  unfold wp_law_is_low
  cases s <;> (simp only [wDef, initE, wSeq, wNext, wAsg, wAsgG, wDrop, wRet, wRetN, wIfS, wPar, wAug, wSetL, wBreak, wCont, wgN, wgNil, wgCons, wgTup, wiSeq, wiRng1, wiRng2, wiEnum, wFor, wLc, wYes, wV, wK, wOp, wUn, wTup, wLst, wCb, wTst, wNotT, wAndT, wOrT, wIf, wAnd, wOr, wNot, waNil, waCons, waStar, wCall, wMeth, wProp, wFld, wSetF, wMake, wCallI, wRev, wSl, woNone, woSome, wLm, wRz, wRzA, wFz, wCaught, wErrF, wDict0, wLrng, gt, st, sett, one, two, int1, atI0, atI1, atI2, atI3, atI4, ixN20, ixN21, List.map_cons, List.map_nil, List.cons_append, List.nil_append, List.append_nil, List.length_cons, List.length_nil, List.replicate_succ, List.replicate_zero, Nat.add_one_sub_one, Stp.b, oIx, sqD, oIn]; exact ⟨trivial, by decide, rfl, rfl, q⟩)
theorem mulU_small {i j : Int} (hi : i.natAbs ≤ 10 ^ 30) (hj : j.natAbs ≤ 10 ^ 30) : CMulU i j := mulU_of (a := 100) (b := 100) (Nat.lt_of_le_of_lt hi (by decide)) (Nat.lt_of_le_of_lt hj (by decide)) (by decide)
theorem mul_le {i j : Int} {a b : Nat} (hi : i.natAbs ≤ a) (hj : j.natAbs ≤ b) : (i * j).natAbs ≤ a * b := by
  rw [Int.natAbs_mul]
  exact Nat.mul_le_mul hi hj
end
end DL

set_option Elab.async false
set_option linter.all false
set_option maxRecDepth 100000
set_option maxHeartbeats 4000000
/-! P6: steps drawn by the laws. -/
namespace DL
open PySem L2
section
variable {μ : Mu} {Q X : QD} {d : D} {B : Nat}
def Stp.len : Stp → Nat
  | .x ns => ns.length
  | .y ns => ns.length
  | _ => 0
def Stp.deg (s : Stp) : Nat := max 1 (s.len - 1)
def degs : List Stp → Nat
  | [] => 1
  | s :: ss => s.deg * degs ss
end
end DL

set_option Elab.async false
set_option linter.all false
set_option maxRecDepth 100000
set_option maxHeartbeats 4000000
/-! P7: is_step, of any value. -/
namespace DL
open PySem L2
def wp_is_step : WP := (wDef 1 2 (wSeq (wIfS (wOrT (wNotT (wTst (wCb false cbIsi (waCons (wV 0) (waCons (wK (.ty "tuple")) waNil))))) (wOrT (wTst (wOp false oEq (wCb false cbLen (waCons (wV 0) waNil)) (wK (.int 0)))) (wNotT (wTst (wCb false cbIsi (waCons (wOp false oIx (wV 0) (wK (.int 0))) (waCons (wK (.ty "str")) waNil))))))) (wRet (wK (.bool false))) wNext)
    (wSeq (wIfS (wTst (wOp false (oIn false) (wOp false oIx (wV 0) (wK (.int 0))) (wTup (waCons (wK (.str "x")) (waCons (wK (.str "y")) waNil))))) (wRet (wAnd (wOp false oEq (wCb false cbLen (waCons (wV 0) waNil)) (wK (.int 2))) (wCb false cbIsi (waCons (wOp false oIx (wV 0) (wK (.int 1))) (waCons (wK (.cls "Rule")) waNil))))) wNext)
    (wSeq (wIfS (wNotT (wTst (wCb false cbAll (waCons (wLc false (wiSeq (wSl false oSl (wV 0) (woSome (wK (.int 1))) woNone)) (wgN 1) wYes (wCall wp_is_number [] (waCons (wV 1) waNil)) [1]) waNil)))) (wRet (wK (.bool false))) wNext)
    (wSeq (wIfS (wTst (wOp false oEq (wOp false oIx (wV 0) (wK (.int 0))) (wK (.str "move")))) (wRet (wOp false oEq (wCb false cbLen (waCons (wV 0) waNil)) (wK (.int 3)))) wNext)
    (wSeq (wIfS (wOrT (wTst (wOp false oNe (wOp false oIx (wV 0) (wK (.int 0))) (wK (.str "turn")))) (wTst (wOp false oNe (wCb false cbLen (waCons (wV 0) waNil)) (wK (.int 5))))) (wRet (wK (.bool false))) wNext)
    (wRet (wOp false (oIn false) (wOp false oSub (wOp false oMul (wOp false oIx (wV 0) (wK (.int 1))) (wOp false oIx (wV 0) (wK (.int 4)))) (wOp false oMul (wOp false oIx (wV 0) (wK (.int 2))) (wOp false oIx (wV 0) (wK (.int 3))))) (wTup (waCons (wK (.int 1)) (waCons (wUn false oNeg (wK (.int 1))) waNil)))))))))))
/-- the kind of a thing that is no cell -/
def tyF (d : D) : Option TyD := tyD (fun _ => Option.none) d
theorem tyF_tyD {d : D} {t : TyD} (h : tyF d = some t) (μ : Mu) : tyD μ d = some t := by
  cases d <;> first | exact h | (simp [tyF, tyD, ndTy] at h; done)
def isRuleB (d : D) : Bool := match tyF d with
  | some (.o n) => decide (n = "Rule")
  | _ => false
def detB : List D → Bool
  | [.int a, .int b, .int c, .int d] => decide (a * d - b * c = 1) || decide (a * d - b * c = -1)
  | _ => false
def oneRule : List D → Bool
  | [r] => isRuleB r
  | _ => false
/-- whether a value is a step -/
def stepB : D → Bool
  | .tup (.str w :: rest) => if w = "x" ∨ w = "y" then oneRule rest
    else rest.all numD && (if w = "move" then decide (rest.length = 2) else decide (w = "turn") && detB rest)
  | _ => false
/-- a value of a known kind, its numbers not too great -/
structure Good (d : D) : Prop where
  ty : ∃ t, tyF d = some t
  len : ∀ ds, d = .tup ds → ds.length ≤ 1000
  items : ∀ ds, d = .tup ds → ∀ x ∈ ds, (∃ t, tyF x = some t) ∧ ∀ i, x = .int i → i.natAbs ≤ HUGE
section
variable {μ : Mu} {Q X : QD} {d : D} {B : Nat}
theorem cut_tail (x : D) (rest : List D) : cutD (x :: rest) (some 1) none = rest := by
  unfold cutD
  rw [show (some (1 : Int)) = some ((1 : Nat) : Int) from rfl, HT.sIx_nat, HT.sIx_none, List.length_cons, Nat.min_eq_left (by omega), List.drop_succ_cons, List.drop_zero]
  exact List.take_of_length_le (by omega)
theorem mulU_mid {i j : Int} (hi : i.natAbs ≤ HUGE) (hj : j.natAbs ≤ HUGE) : CMulU i j := mulU_huge hi hj
theorem in_xy (w : Str) : inF (.str w) [.str "x", .str "y"] = decide (w = "x" ∨ w = "y") := by
  have e : ∀ a : Str, eqF (.str a) (.str w) = decide (w = a) := fun a => by
    show (a == w) = _
    rw [Bool.eq_iff_iff, beq_iff_eq, decide_eq_true_iff]
    exact eq_comm
  simp only [inF, List.any_cons, List.any_nil, e, Bool.or_false]
  rw [Bool.eq_iff_iff]
  simp
theorem num_int {x : D} (h : numD x = true) : ∃ i, x = .int i := by
  cases x <;> first | exact ⟨_, rfl⟩ | cases h
theorem isi_tuple {t : TyD} (h : tyF d = some t) : isiD t (.ty "tuple") = some (match d with | .tup _ => true | _ => false) := by
  cases d <;> first | (cases h; rfl) | (simp [tyF, tyD, ndTy] at h; done)
theorem isi_str {t : TyD} (h : tyF d = some t) : isiD t (.ty "str") = some (match d with | .str _ => true | _ => false) := by
  cases d <;> first | (cases h; rfl) | (simp [tyF, tyD, ndTy] at h; done)
theorem isi_rule {t : TyD} (h : tyF d = some t) : isiD t (.cls "Rule") = some (isRuleB d) := by
  unfold isRuleB
  rw [h]
  cases t with
  | b n => rfl
  | o n =>
    show some (subCC n "Rule") = some (decide (n = "Rule"))
    unfold subCC
    rw [show decide (("Rule" : Str) = "CrossError") = false by decide]
    simp
theorem ok_is_step (h : Good d) (q : Q (.bool (stepB d)) μ) : wp_is_step [d] μ Q X := by
  obtain ⟨t, ht⟩ := h.ty
  unfold wp_is_step
  simp only [Jbv, initE, Jcs, Jce, Jbl, Jbm, Jc0, Jcn, Jco, Jc6, Jck, Jbn, Jcu, Jbo, Jbu, Jd6, Jd7, Jd5, Jd8, Jdd, Jda, Jdb, Jd9, Jc3, Jc8, Jd0, Jcz, Jc7, Jch, Jcy, Jcx, Jcb, Jbs, Jcw, Jcg, Jbk, Jcj, Jc5, Jbj, Jci, Jcf, Jd2, Jd1, Jd4, Jbp, Jcd, Jcm, Jc2, Jct, Jcc, Jbq, Jcp, Jcv, Jdf, Jdg, Jc9, Jcq, Jcr, Jc4, Jbr, Jc1, Jbx, Jca, gt, st, Jbc, Jba, Jbb, Jb8, Jbi, Ja5, atI0, atI1, atI2, atI3, atI4, ixN20, ixN21, List.map_cons, List.map_nil, List.cons_append, List.nil_append, List.append_nil, List.length_cons, List.length_nil, List.replicate_succ, List.replicate_zero, Nat.add_one_sub_one, Jd3, Jbt, Jby, Jbz, Jbw, Jaf, Jah, Jai, Jag, Jb7, Jaw, Jax, Jal, Jav, Jb4, Jau, Jat, Jan, Jam, Jb2, Jaj, Jak, Jb0, Jb1, Jaq, Jb3, Jar, Jas, Jao, Jap, Jb6, Jb5, Ja8, Ja9, Jad, Jac, Ja0, Jaa, Jab, Jbg, Jbh, Ja7, Jae, Jbd, Jbf, Jbe, Jb9, Ja2, Ja1, Ja4, Ja3, cbIsi, two, tyF_tyD ht μ, isi_tuple ht, true_and]
  cases d with
  | tup ds =>
    simp only [Bool.not_true, if_neg Bool.false_ne_true, Jbv, initE, Jcs, Jce, Jbl, Jbm, Jc0, Jcn, Jco, Jc6, Jck, Jbn, Jcu, Jbo, Jbu, Jd6, Jd7, Jd5, Jd8, Jdd, Jda, Jdb, Jd9, Jc3, Jc8, Jd0, Jcz, Jc7, Jch, Jcy, Jcx, Jcb, Jbs, Jcw, Jcg, Jbk, Jcj, Jc5, Jbj, Jci, Jcf, Jd2, Jd1, Jd4, Jbp, Jcd, Jcm, Jc2, Jct, Jcc, Jbq, Jcp, Jcv, Jdf, Jdg, Jc9, Jcq, Jcr, Jc4, Jbr, Jc1, Jbx, Jca, gt, st, Jbc, Jba, Jbb, Jb8, Jbi, Ja5, atI0, atI1, atI2, atI3, atI4, ixN20, ixN21, List.map_cons, List.map_nil, List.cons_append, List.nil_append, List.append_nil, List.length_cons, List.length_nil, List.replicate_succ, List.replicate_zero, Nat.add_one_sub_one, Jd3, Jbt, Jby, Jbz, Jbw, Jaf, Jah, Jai, Jag, Jb7, Jaw, Jax, Jal, Jav, Jb4, Jau, Jat, Jan, Jam, Jb2, Jaj, Jak, Jb0, Jb1, Jaq, Jb3, Jar, Jas, Jao, Jap, Jb6, Jb5, Ja8, Ja9, Jad, Jac, Ja0, Jaa, Jab, Jbg, Jbh, Ja7, Jae, Jbd, Jbf, Jbe, Jb9, Ja2, Ja1, Ja4, Ja3]
    cases ds with
    | nil =>
      simp only [Jbv, initE, Jcs, Jce, Jbl, Jbm, Jc0, Jcn, Jco, Jc6, Jck, Jbn, Jcu, Jbo, Jbu, Jd6, Jd7, Jd5, Jd8, Jdd, Jda, Jdb, Jd9, Jc3, Jc8, Jd0, Jcz, Jc7, Jch, Jcy, Jcx, Jcb, Jbs, Jcw, Jcg, Jbk, Jcj, Jc5, Jbj, Jci, Jcf, Jd2, Jd1, Jd4, Jbp, Jcd, Jcm, Jc2, Jct, Jcc, Jbq, Jcp, Jcv, Jdf, Jdg, Jc9, Jcq, Jcr, Jc4, Jbr, Jc1, Jbx, Jca, gt, st, Jbc, Jba, Jbb, Jb8, Jbi, Ja5, atI0, atI1, atI2, atI3, atI4, ixN20, ixN21, List.map_cons, List.map_nil, List.cons_append, List.nil_append, List.append_nil, List.length_cons, List.length_nil, List.replicate_succ, List.replicate_zero, Nat.add_one_sub_one, Jd3, Jbt, Jby, Jbz, Jbw, Jaf, Jah, Jai, Jag, Jb7, Jaw, Jax, Jal, Jav, Jb4, Jau, Jat, Jan, Jam, Jb2, Jaj, Jak, Jb0, Jb1, Jaq, Jb3, Jar, Jas, Jao, Jap, Jb6, Jb5, Ja8, Ja9, Jad, Jac, Ja0, Jaa, Jab, Jbg, Jbh, Ja7, Jae, Jbd, Jbf, Jbe, Jb9, Ja2, Ja1, Ja4, Ja3, List.length_nil]
      rw [if_pos (by decide)]
      exact q
    | cons x rest =>
      obtain ⟨⟨tx, hx⟩, _⟩ := h.items _ rfl x List.mem_cons_self
      simp only [Jbv, initE, Jcs, Jce, Jbl, Jbm, Jc0, Jcn, Jco, Jc6, Jck, Jbn, Jcu, Jbo, Jbu, Jd6, Jd7, Jd5, Jd8, Jdd, Jda, Jdb, Jd9, Jc3, Jc8, Jd0, Jcz, Jc7, Jch, Jcy, Jcx, Jcb, Jbs, Jcw, Jcg, Jbk, Jcj, Jc5, Jbj, Jci, Jcf, Jd2, Jd1, Jd4, Jbp, Jcd, Jcm, Jc2, Jct, Jcc, Jbq, Jcp, Jcv, Jdf, Jdg, Jc9, Jcq, Jcr, Jc4, Jbr, Jc1, Jbx, Jca, gt, st, Jbc, Jba, Jbb, Jb8, Jbi, Ja5, atI0, atI1, atI2, atI3, atI4, ixN20, ixN21, List.map_cons, List.map_nil, List.cons_append, List.nil_append, List.append_nil, List.length_cons, List.length_nil, List.replicate_succ, List.replicate_zero, Nat.add_one_sub_one, Jd3, Jbt, Jby, Jbz, Jbw, Jaf, Jah, Jai, Jag, Jb7, Jaw, Jax, Jal, Jav, Jb4, Jau, Jat, Jan, Jam, Jb2, Jaj, Jak, Jb0, Jb1, Jaq, Jb3, Jar, Jas, Jao, Jap, Jb6, Jb5, Ja8, Ja9, Jad, Jac, Ja0, Jaa, Jab, Jbg, Jbh, Ja7, Jae, Jbd, Jbf, Jbe, Jb9, Ja2, Ja1, Ja4, Ja3, tyF_tyD hx μ, isi_str hx]
      rw [if_neg (by simp; omega)]
      cases x with
      | str w =>
        simp only [Bool.not_true, if_neg Bool.false_ne_true, Jbv, initE, Jcs, Jce, Jbl, Jbm, Jc0, Jcn, Jco, Jc6, Jck, Jbn, Jcu, Jbo, Jbu, Jd6, Jd7, Jd5, Jd8, Jdd, Jda, Jdb, Jd9, Jc3, Jc8, Jd0, Jcz, Jc7, Jch, Jcy, Jcx, Jcb, Jbs, Jcw, Jcg, Jbk, Jcj, Jc5, Jbj, Jci, Jcf, Jd2, Jd1, Jd4, Jbp, Jcd, Jcm, Jc2, Jct, Jcc, Jbq, Jcp, Jcv, Jdf, Jdg, Jc9, Jcq, Jcr, Jc4, Jbr, Jc1, Jbx, Jca, gt, st, Jbc, Jba, Jbb, Jb8, Jbi, Ja5, atI0, atI1, atI2, atI3, atI4, ixN20, ixN21, List.map_cons, List.map_nil, List.cons_append, List.nil_append, List.append_nil, List.length_cons, List.length_nil, List.replicate_succ, List.replicate_zero, Nat.add_one_sub_one, Jd3, Jbt, Jby, Jbz, Jbw, Jaf, Jah, Jai, Jag, Jb7, Jaw, Jax, Jal, Jav, Jb4, Jau, Jat, Jan, Jam, Jb2, Jaj, Jak, Jb0, Jb1, Jaq, Jb3, Jar, Jas, Jao, Jap, Jb6, Jb5, Ja8, Ja9, Jad, Jac, Ja0, Jaa, Jab, Jbg, Jbh, Ja7, Jae, Jbd, Jbf, Jbe, Jb9, Ja2, Ja1, Ja4, Ja3]
        have hit : ∀ x ∈ rest, (∃ t, tyF x = some t) ∧ ∀ i, x = .int i → i.natAbs ≤ HUGE := fun x hx => h.items _ rfl x (List.mem_cons_of_mem _ hx)
        have hlen : rest.length + 1 ≤ 1000 := h.len _ rfl
        refine ⟨by decide, rfl, rfl, ?_⟩
        rw [in_xy]
        by_cases hw : w = "x" ∨ w = "y"
        · rw [if_pos (decide_eq_true hw)]
          have hb : stepB (.tup (.str w :: rest)) = oneRule rest := by rw [stepB, if_pos hw]
          rw [hb] at q
          cases rest with
          | nil =>
            rw [if_neg (by simp)]
            exact q
          | cons r rest2 =>
            cases rest2 with
            | nil =>
              obtain ⟨⟨tr, hr⟩, _⟩ := hit r List.mem_cons_self
              rw [if_pos (by simp)]
              simp only [atI1, tyF_tyD hr μ, isi_rule hr]
              exact q
            | cons r2 rest3 =>
              rw [if_neg (by simp; omega)]
              exact q
        · rw [if_neg (by simpa using hw), cut_tail]
          have hb : stepB (.tup (.str w :: rest)) = (rest.all numD && (if w = "move" then decide (rest.length = 2) else decide (w = "turn") && detB rest)) := by rw [stepB, if_neg hw]
          rw [hb] at q
          refine ⟨by rw [sizeLine_eq]; omega, lc_inv (fun i acc μ' => μ' = μ ∧ acc = (rest.take i).map (fun d => D.bool (numD d))) ⟨rfl, rfl⟩ ?_ ?_⟩
          · rintro i x acc μ' N hx ⟨rfl, rfl⟩ hN
            obtain ⟨⟨tx, hx2⟩, _⟩ := hit x (List.mem_of_getElem? hx)
            refine ⟨trivial, ?_⟩
            simp only [Jbv, initE, Jcs, Jce, Jbl, Jbm, Jc0, Jcn, Jco, Jc6, Jck, Jbn, Jcu, Jbo, Jbu, Jd6, Jd7, Jd5, Jd8, Jdd, Jda, Jdb, Jd9, Jc3, Jc8, Jd0, Jcz, Jc7, Jch, Jcy, Jcx, Jcb, Jbs, Jcw, Jcg, Jbk, Jcj, Jc5, Jbj, Jci, Jcf, Jd2, Jd1, Jd4, Jbp, Jcd, Jcm, Jc2, Jct, Jcc, Jbq, Jcp, Jcv, Jdf, Jdg, Jc9, Jcq, Jcr, Jc4, Jbr, Jc1, Jbx, Jca, gt, st, Jbc, Jba, Jbb, Jb8, Jbi, Ja5, atI0, atI1, atI2, atI3, atI4, ixN20, ixN21, List.map_cons, List.map_nil, List.cons_append, List.nil_append, List.append_nil, List.length_cons, List.length_nil, List.replicate_succ, List.replicate_zero, Nat.add_one_sub_one, Jd3, Jbt, Jby, Jbz, Jbw, Jaf, Jah, Jai, Jag, Jb7, Jaw, Jax, Jal, Jav, Jb4, Jau, Jat, Jan, Jam, Jb2, Jaj, Jak, Jb0, Jb1, Jaq, Jb3, Jar, Jas, Jao, Jap, Jb6, Jb5, Ja8, Ja9, Jad, Jac, Ja0, Jaa, Jab, Jbg, Jbh, Ja7, Jae, Jbd, Jbf, Jbe, Jb9, Ja2, Ja1, Ja4, Ja3, wipeE, if_true]
            refine ok_is_number (tyF_tyD hx2 _) (hN _ _ ⟨rfl, ?_⟩)
            rw [List.take_succ, hx, List.map_append]
            rfl
          · rintro acc μ' ⟨rfl, rfl⟩
            refine ⟨trivial, ?_⟩
            rw [List.take_length]
            have eb : boolsD (rest.map fun d => D.bool (numD d)) = some (rest.map numD) := by
              rw [show (rest.map fun d => D.bool (numD d)) = (rest.map numD).map D.bool by rw [List.map_map]; rfl]
              exact boolsD_map _
            simp only [cbBs, Jb8, seqL, eb, Jbc]
            rw [List.all_map]
            show if (!(rest.all (id ∘ numD))) = true then _ else _
            rw [show (id ∘ numD) = numD from rfl]
            cases ha : rest.all numD with
            | false =>
              rw [ha] at q
              exact q
            | true =>
              rw [ha] at q
              simp only [Bool.not_true, if_neg Bool.false_ne_true, Bool.true_and] at q ⊢
              by_cases hm : w = "move"
              · rw [if_pos (decide_eq_true hm)]
                rw [if_pos hm] at q
                rw [show decide (((rest.length + 1 : Nat) : Int) = 3) = decide (rest.length = 2) by rw [decide_eq_decide]; omega]
                exact q
              · rw [if_neg (by simpa using hm)]
                rw [if_neg hm] at q
                by_cases htn : w = "turn"
                · rw [if_neg (by simp [htn])]
                  rw [decide_eq_true htn, Bool.true_and] at q
                  have hint : ∀ x ∈ rest, ∃ i : Int, x = .int i ∧ i.natAbs ≤ HUGE := fun x hx => by
                    obtain ⟨i, rfl⟩ := num_int (List.all_eq_true.mp ha x hx)
                    exact ⟨i, rfl, (hit _ hx).2 i rfl⟩
                  by_cases hl4 : rest.length = 4
                  · rw [if_neg (by simp; omega)]
                    match rest, hl4, hint, q with
                    | [x1, x2, x3, x4], _, hint, q =>
                      obtain ⟨a, rfl, ha'⟩ := hint x1 (by simp)
                      obtain ⟨b, rfl, hb'⟩ := hint x2 (by simp)
                      obtain ⟨c, rfl, hc'⟩ := hint x3 (by simp)
                      obtain ⟨e, rfl, he'⟩ := hint x4 (by simp)
                      simp only [Jbv, initE, Jcs, Jce, Jbl, Jbm, Jc0, Jcn, Jco, Jc6, Jck, Jbn, Jcu, Jbo, Jbu, Jd6, Jd7, Jd5, Jd8, Jdd, Jda, Jdb, Jd9, Jc3, Jc8, Jd0, Jcz, Jc7, Jch, Jcy, Jcx, Jcb, Jbs, Jcw, Jcg, Jbk, Jcj, Jc5, Jbj, Jci, Jcf, Jd2, Jd1, Jd4, Jbp, Jcd, Jcm, Jc2, Jct, Jcc, Jbq, Jcp, Jcv, Jdf, Jdg, Jc9, Jcq, Jcr, Jc4, Jbr, Jc1, Jbx, Jca, gt, st, Jbc, Jba, Jbb, Jb8, Jbi, Ja5, atI0, atI1, atI2, atI3, atI4, ixN20, ixN21, List.map_cons, List.map_nil, List.cons_append, List.nil_append, List.append_nil, List.length_cons, List.length_nil, List.replicate_succ, List.replicate_zero, Nat.add_one_sub_one, Jd3, Jbt, Jby, Jbz, Jbw, Jaf, Jah, Jai, Jag, Jb7, Jaw, Jax, Jal, Jav, Jb4, Jau, Jat, Jan, Jam, Jb2, Jaj, Jak, Jb0, Jb1, Jaq, Jb3, Jar, Jas, Jao, Jap, Jb6, Jb5, Ja8, Ja9, Jad, Jac, Ja0, Jaa, Jab, Jbg, Jbh, Ja7, Jae, Jbd, Jbf, Jbe, Jb9, Ja2, Ja1, Ja4, Ja3]
                      refine ⟨mulU_mid ha' he', mulU_mid hb' hc', by decide, rfl, rfl, ?_⟩
                      have ee : inF (.int (a * e - b * c)) [.int 1, .int (-1)] = detB [.int a, .int b, .int c, .int e] := by
                        show ((1 : Int) == a * e - b * c || ((-1 : Int) == a * e - b * c || false)) = (decide (a * e - b * c = 1) || decide (a * e - b * c = -1))
                        rw [Bool.or_false, Bool.eq_iff_iff, Bool.or_eq_true, Bool.or_eq_true, beq_iff_eq, beq_iff_eq, decide_eq_true_iff, decide_eq_true_iff]
                        exact or_congr eq_comm eq_comm
                      rw [ee]
                      exact q
                  · rw [if_pos (by simp; omega)]
                    have e0 : detB rest = false := by
                      unfold detB
                      split
                      · exact absurd rfl hl4
                      · rfl
                    rw [e0] at q
                    exact q
                · rw [if_pos (by simp [htn])]
                  rw [decide_eq_false htn, Bool.false_and] at q
                  rw [if_pos trivial]
                  exact q
      | _ =>
        simp only [Bool.not_false, if_true]
        exact q
  | _ =>
    simp only [Bool.not_false, if_true]
    exact q
end
end DL

set_option Elab.async false
set_option linter.all false
set_option maxRecDepth 100000
set_option maxHeartbeats 4000000
/-! P8: programs made, told, compared. -/
namespace DL
open PySem L2
def wp_Program___init__ : WP := (wDef 2 4 (wSeq (wIfS (wNotT (wTst (wCall wp_is_list [] (waCons (wV 1) waNil)))) (wRzA "BadProgram" "at" (wK .none)) wNext)
    (wSeq (wFor (wiEnum (waCons (wV 1) waNil)) (wgTup 2 (wgCons (wgN 2) (wgCons (wgN 3) wgNil))) (wIfS (wNotT (wTst (wCall wp_is_step [] (waCons (wV 3) waNil)))) (wRzA "BadProgram" "at" (wV 2)) wNext))
    (wSetF "Program" "own_steps" (wV 0) (wCb false cbTup (waCons (wV 1) waNil))))))
def wp_Program_steps : WP := (wDef 1 1 (wRet (wFld "Program" "own_steps" (wV 0))))
/-- a program of any steps -/
def progE (ds : List D) : D := .obj "Program" ["own_steps"] [.tup ds]
def progD (ss : List Stp) : D := progE (ss.map Stp.p)
theorem step_good {s : Stp} {B : Nat} (h : s.Ok B) (hB : B ≤ HUGE) : Good s.p ∧ stepB s.p = true := by
  have hx : ∀ i : Int, i.natAbs ≤ B → i.natAbs ≤ HUGE := fun i hi => Nat.le_trans hi hB
  cases s with
  | x ns =>
    refine ⟨⟨⟨_, rfl⟩, fun ds e => by cases e; simp, fun ds e x hm => ?_⟩, rfl⟩
    cases e
    simp only [List.mem_cons, List.not_mem_nil, or_false] at hm
    rcases hm with rfl | rfl <;> exact ⟨⟨_, rfl⟩, fun i z => by cases z⟩
  | y ns =>
    refine ⟨⟨⟨_, rfl⟩, fun ds e => by cases e; simp, fun ds e x hm => ?_⟩, rfl⟩
    cases e
    simp only [List.mem_cons, List.not_mem_nil, or_false] at hm
    rcases hm with rfl | rfl <;> exact ⟨⟨_, rfl⟩, fun i z => by cases z⟩
  | move a b =>
    refine ⟨⟨⟨_, rfl⟩, fun ds e => by cases e; simp, fun ds e x hm => ?_⟩, rfl⟩
    cases e
    simp only [List.mem_cons, List.not_mem_nil, or_false] at hm
    rcases hm with rfl | rfl | rfl
    · exact ⟨⟨_, rfl⟩, fun i z => by cases z⟩
    · exact ⟨⟨_, rfl⟩, fun i z => by cases z; exact hx _ h.1⟩
    · exact ⟨⟨_, rfl⟩, fun i z => by cases z; exact hx _ h.2⟩
  | turn a b c d =>
    obtain ⟨hd, h1, h2, h3, h4⟩ := h
    refine ⟨⟨⟨_, rfl⟩, fun ds e => by cases e; simp, fun ds e x hm => ?_⟩, ?_⟩
    · cases e
      simp only [List.mem_cons, List.not_mem_nil, or_false] at hm
      rcases hm with rfl | rfl | rfl | rfl | rfl
      · exact ⟨⟨_, rfl⟩, fun i z => by cases z⟩
      · exact ⟨⟨_, rfl⟩, fun i z => by cases z; exact hx _ h1⟩
      · exact ⟨⟨_, rfl⟩, fun i z => by cases z; exact hx _ h2⟩
      · exact ⟨⟨_, rfl⟩, fun i z => by cases z; exact hx _ h3⟩
      · exact ⟨⟨_, rfl⟩, fun i z => by cases z; exact hx _ h4⟩
    · show (true && (decide (a * d - b * c = 1) || decide (a * d - b * c = -1))) = true
      rw [Bool.true_and, Bool.or_eq_true, decide_eq_true_iff, decide_eq_true_iff]
      exact hd
section
variable {μ : Mu} {Q X : QD} {d : D} {B : Nat}
theorem enum_get {ds : List D} {i : Nat} {x : D} (h : (enumD 0 ds)[i]? = some x) : ∃ y, ds[i]? = some y ∧ x = .tup [.int (i : Int), y] := by
  rw [enumD_get] at h
  cases e : ds[i]? with
  | none => rw [e] at h; cases h
  | some n =>
    rw [e] at h
    cases h
    exact ⟨n, rfl, by simp⟩
theorem ok_Program_init {p : Addr} {ds : List D} (h : sqD μ d = some ds) (hs : ∀ ns, d ≠ .script ns) (hp : μ p = Option.none) (hl : ds.length ≤ 2 ^ 20) (hg : ∀ x ∈ ds, Good x)
    (q : (∀ x ∈ ds, stepB x = true) → Q .none (up μ p (.obj "Program" ["own_steps"] [.tup ds])))
    (x : ∀ (i : Nat) y, ds[i]? = some y → stepB y = false → (∀ j z, j < i → ds[j]? = some z → stepB z = true) → X (.err "BadProgram" ["at"] [.int (i : Int)]) (up μ p (.obj "Program" [] []))) : wp_Program___init__ [.cell p, d] (up μ p (.obj "Program" [] [])) Q X := by
  have h1 := sq_up (nd := .obj "Program" [] []) h hp
  obtain ⟨t, h2, h3⟩ := ty_sq h1 hs
  unfold wp_Program___init__
  simp only [Jbv, initE, Jcs, Jce, Jbl, Jbm, Jc0, Jcn, Jco, Jc6, Jck, Jbn, Jcu, Jbo, Jbu, Jd6, Jd7, Jd5, Jd8, Jdd, Jda, Jdb, Jd9, Jc3, Jc8, Jd0, Jcz, Jc7, Jch, Jcy, Jcx, Jcb, Jbs, Jcw, Jcg, Jbk, Jcj, Jc5, Jbj, Jci, Jcf, Jd2, Jd1, Jd4, Jbp, Jcd, Jcm, Jc2, Jct, Jcc, Jbq, Jcp, Jcv, Jdf, Jdg, Jc9, Jcq, Jcr, Jc4, Jbr, Jc1, Jbx, Jca, gt, st, Jbc, Jba, Jbb, Jb8, Jbi, Ja5, atI0, atI1, atI2, atI3, atI4, ixN20, ixN21, List.map_cons, List.map_nil, List.cons_append, List.nil_append, List.append_nil, List.length_cons, List.length_nil, List.replicate_succ, List.replicate_zero, Nat.add_one_sub_one, Jd3, Jbt, Jby, Jbz, Jbw, Jaf, Jah, Jai, Jag, Jb7, Jaw, Jax, Jal, Jav, Jb4, Jau, Jat, Jan, Jam, Jb2, Jaj, Jak, Jb0, Jb1, Jaq, Jb3, Jar, Jas, Jao, Jap, Jb6, Jb5, Ja8, Ja9, Jad, Jac, Ja0, Jaa, Jab, Jbg, Jbh, Ja7, Jae, Jbd, Jbf, Jbe, Jb9, Ja2, Ja1, Ja4, Ja3]
  refine ⟨trivial, ok_is_list h2 ?_⟩
  rw [h3]
  simp only [Bool.not_true, if_neg Bool.false_ne_true, h1]
  refine ⟨by rw [enumD_len]; omega, for_inv (fun i e μ' => μ' = up μ p (.obj "Program" [] []) ∧ (∃ a b, e = [some (.cell p), some d, a, b]) ∧ ∀ j z, j < i → ds[j]? = some z → stepB z = true) ⟨rfl, ⟨_, _, rfl⟩, fun j z hj => absurd hj (Nat.not_lt_zero j)⟩ ?_ ?_⟩
  · rintro i y e μ' N hx ⟨rfl, ⟨a, b, rfl⟩, hj⟩ hN
    obtain ⟨n, hn, rfl⟩ := enum_get hx
    refine ⟨okS_sq h1, ?_⟩
    simp only [Jbv, initE, Jcs, Jce, Jbl, Jbm, Jc0, Jcn, Jco, Jc6, Jck, Jbn, Jcu, Jbo, Jbu, Jd6, Jd7, Jd5, Jd8, Jdd, Jda, Jdb, Jd9, Jc3, Jc8, Jd0, Jcz, Jc7, Jch, Jcy, Jcx, Jcb, Jbs, Jcw, Jcg, Jbk, Jcj, Jc5, Jbj, Jci, Jcf, Jd2, Jd1, Jd4, Jbp, Jcd, Jcm, Jc2, Jct, Jcc, Jbq, Jcp, Jcv, Jdf, Jdg, Jc9, Jcq, Jcr, Jc4, Jbr, Jc1, Jbx, Jca, gt, st, Jbc, Jba, Jbb, Jb8, Jbi, Ja5, atI0, atI1, atI2, atI3, atI4, ixN20, ixN21, List.map_cons, List.map_nil, List.cons_append, List.nil_append, List.append_nil, List.length_cons, List.length_nil, List.replicate_succ, List.replicate_zero, Nat.add_one_sub_one, Jd3, Jbt, Jby, Jbz, Jbw, Jaf, Jah, Jai, Jag, Jb7, Jaw, Jax, Jal, Jav, Jb4, Jau, Jat, Jan, Jam, Jb2, Jaj, Jak, Jb0, Jb1, Jaq, Jb3, Jar, Jas, Jao, Jap, Jb6, Jb5, Ja8, Ja9, Jad, Jac, Ja0, Jaa, Jab, Jbg, Jbh, Ja7, Jae, Jbd, Jbf, Jbe, Jb9, Ja2, Ja1, Ja4, Ja3]
    refine ⟨trivial, ok_is_step (hg n (List.mem_of_getElem? hn)) ?_⟩
    cases hb : stepB n with
    | false => exact x i n hn hb hj
    | true =>
      refine hN _ _ ⟨rfl, ⟨_, _, rfl⟩, fun j z hj2 hz => ?_⟩
      by_cases e : j < i
      · exact hj j z e hz
      · have : j = i := by omega
        subst this
        rw [hn] at hz
        cases hz
        exact hb
  · rintro e μ' ⟨rfl, ⟨a, b, rfl⟩, hj⟩
    refine ⟨okS_sq h1, ?_⟩
    rw [enumD_len] at hj
    simp only [Jbv, initE, Jcs, Jce, Jbl, Jbm, Jc0, Jcn, Jco, Jc6, Jck, Jbn, Jcu, Jbo, Jbu, Jd6, Jd7, Jd5, Jd8, Jdd, Jda, Jdb, Jd9, Jc3, Jc8, Jd0, Jcz, Jc7, Jch, Jcy, Jcx, Jcb, Jbs, Jcw, Jcg, Jbk, Jcj, Jc5, Jbj, Jci, Jcf, Jd2, Jd1, Jd4, Jbp, Jcd, Jcm, Jc2, Jct, Jcc, Jbq, Jcp, Jcv, Jdf, Jdg, Jc9, Jcq, Jcr, Jc4, Jbr, Jc1, Jbx, Jca, gt, st, Jbc, Jba, Jbb, Jb8, Jbi, Ja5, atI0, atI1, atI2, atI3, atI4, ixN20, ixN21, List.map_cons, List.map_nil, List.cons_append, List.nil_append, List.append_nil, List.length_cons, List.length_nil, List.replicate_succ, List.replicate_zero, Nat.add_one_sub_one, Jd3, Jbt, Jby, Jbz, Jbw, Jaf, Jah, Jai, Jag, Jb7, Jaw, Jax, Jal, Jav, Jb4, Jau, Jat, Jan, Jam, Jb2, Jaj, Jak, Jb0, Jb1, Jaq, Jb3, Jar, Jas, Jao, Jap, Jb6, Jb5, Ja8, Ja9, Jad, Jac, Ja0, Jaa, Jab, Jbg, Jbh, Ja7, Jae, Jbd, Jbf, Jbe, Jb9, Ja2, Ja1, Ja4, Ja3, tup_sq h1, up_same, ndO, putN, up_up]
    refine ⟨trivial, by decide, q fun y hy => ?_⟩
    obtain ⟨i, hi⟩ := List.getElem?_of_mem hy
    exact hj i y (List.getElem?_eq_some_iff.mp hi).1 hi
/-- Program(..) of steps -/
theorem mk_Program {Q X : QD} {ds : List D} (h : sqD μ d = some ds) (hs : ∀ ns, d ≠ .script ns) (hl : ds.length ≤ 2 ^ 20) (hg : ∀ x ∈ ds, Good x ∧ stepB x = true) (q : Q (progE ds) μ) (p : Addr) (hp : μ p = Option.none) :
    wp_Program___init__ [.cell p, d] (up μ p (.obj "Program" [] [])) (mkQ false Q p) X := by
  refine ok_Program_init h hs hp hl (fun x hx => (hg x hx).1) (fun _ => mkQ_f hp q) fun i y hy hb => ?_
  have := (hg y (List.mem_of_getElem? hy)).2
  rw [hb] at this
  cases this
theorem mkRule {Q X : QD} {ns : List Int} (h : sqD μ d = some (iL ns)) (hs : ∀ ns, d ≠ .script ns) (hl : ns.length ≤ 2 ^ 20) (q : Q (ruleD (M.trim ns)) μ) (p : Addr) (hp : μ p = Option.none) :
    wp_Rule___init__ [.cell p, d] (up μ p (.obj "Rule" [] [])) (mkQ false Q p) X := ok_Rule_init h hs hp hl (mkQ_f hp q)
theorem ok_Program_steps {ds : List D} (q : Q (.tup ds) μ) : wp_Program_steps [progE ds] μ Q X := by
  unfold wp_Program_steps
  simp only [Jbv, initE, Jcs, Jce, Jbl, Jbm, Jc0, Jcn, Jco, Jc6, Jck, Jbn, Jcu, Jbo, Jbu, Jd6, Jd7, Jd5, Jd8, Jdd, Jda, Jdb, Jd9, Jc3, Jc8, Jd0, Jcz, Jc7, Jch, Jcy, Jcx, Jcb, Jbs, Jcw, Jcg, Jbk, Jcj, Jc5, Jbj, Jci, Jcf, Jd2, Jd1, Jd4, Jbp, Jcd, Jcm, Jc2, Jct, Jcc, Jbq, Jcp, Jcv, Jdf, Jdg, Jc9, Jcq, Jcr, Jc4, Jbr, Jc1, Jbx, Jca, gt, st, Jbc, Jba, Jbb, Jb8, Jbi, Ja5, atI0, atI1, atI2, atI3, atI4, ixN20, ixN21, List.map_cons, List.map_nil, List.cons_append, List.nil_append, List.append_nil, List.length_cons, List.length_nil, List.replicate_succ, List.replicate_zero, Nat.add_one_sub_one, Jd3, Jbt, Jby, Jbz, Jbw, Jaf, Jah, Jai, Jag, Jb7, Jaw, Jax, Jal, Jav, Jb4, Jau, Jat, Jan, Jam, Jb2, Jaj, Jak, Jb0, Jb1, Jaq, Jb3, Jar, Jas, Jao, Jap, Jb6, Jb5, Ja8, Ja9, Jad, Jac, Ja0, Jaa, Jab, Jbg, Jbh, Ja7, Jae, Jbd, Jbf, Jbe, Jb9, Ja2, Ja1, Ja4, Ja3, progE, asObj, fldD, if_true, true_and]
  exact q
end
end DL

set_option Elab.async false
set_option linter.all false
set_option maxRecDepth 100000
set_option maxHeartbeats 4000000
/-! P9: the laws' own ways there and back. -/
namespace DL
open PySem L2
section
variable {μ : Mu} {Q X : QD} {d : D} {B : Nat}
/-! ### the laws' own ways there and back -/
def wp_law_step_of : WP := (wDef 1 1 (wRet (wIf (wTst (wCall wp_law_is_low [] (waCons (wV 0) waNil))) (wTup (waCons (wOp false oIx (wV 0) (wK (.int 0))) (waCons (wMake false "Rule" wp_Rule___init__ [] (waCons (wCb false cbList (waCons (wOp false oIx (wV 0) (wK (.int 1))) waNil)) waNil)) waNil))) (wV 0))))
def wp_law_program_of : WP := (wDef 1 2 (wRet (wMake false "Program" wp_Program___init__ [] (waCons (wLc false (wiSeq (wV 0)) (wgN 1) wYes (wCall wp_law_step_of [] (waCons (wV 1) waNil)) [1]) waNil))))
theorem ok_step_of {s : Stp} (h : s.Ok B) (q : Q s.p μ) : wp_law_step_of [s.b] μ Q X := by
  unfold wp_law_step_of
  simp only [Jbv, initE, Jcs, Jce, Jbl, Jbm, Jc0, Jcn, Jco, Jc6, Jck, Jbn, Jcu, Jbo, Jbu, Jd6, Jd7, Jd5, Jd8, Jdd, Jda, Jdb, Jd9, Jc3, Jc8, Jd0, Jcz, Jc7, Jch, Jcy, Jcx, Jcb, Jbs, Jcw, Jcg, Jbk, Jcj, Jc5, Jbj, Jci, Jcf, Jd2, Jd1, Jd4, Jbp, Jcd, Jcm, Jc2, Jct, Jcc, Jbq, Jcp, Jcv, Jdf, Jdg, Jc9, Jcq, Jcr, Jc4, Jbr, Jc1, Jbx, Jca, gt, st, Jbc, Jba, Jbb, Jb8, Jbi, Ja5, atI0, atI1, atI2, atI3, atI4, ixN20, ixN21, List.map_cons, List.map_nil, List.cons_append, List.nil_append, List.append_nil, List.length_cons, List.length_nil, List.replicate_succ, List.replicate_zero, Nat.add_one_sub_one, Jd3, Jbt, Jby, Jbz, Jbw, Jaf, Jah, Jai, Jag, Jb7, Jaw, Jax, Jal, Jav, Jb4, Jau, Jat, Jan, Jam, Jb2, Jaj, Jak, Jb0, Jb1, Jaq, Jb3, Jar, Jas, Jao, Jap, Jb6, Jb5, Ja8, Ja9, Jad, Jac, Ja0, Jaa, Jab, Jbg, Jbh, Ja7, Jae, Jbd, Jbf, Jbe, Jb9, Ja2, Ja1, Ja4, Ja3]
  refine ⟨trivial, ok_is_low ?_⟩
  cases s with
  | x ns =>
    simp only [Stp.low, if_true, Stp.b, Jbv, initE, Jcs, Jce, Jbl, Jbm, Jc0, Jcn, Jco, Jc6, Jck, Jbn, Jcu, Jbo, Jbu, Jd6, Jd7, Jd5, Jd8, Jdd, Jda, Jdb, Jd9, Jc3, Jc8, Jd0, Jcz, Jc7, Jch, Jcy, Jcx, Jcb, Jbs, Jcw, Jcg, Jbk, Jcj, Jc5, Jbj, Jci, Jcf, Jd2, Jd1, Jd4, Jbp, Jcd, Jcm, Jc2, Jct, Jcc, Jbq, Jcp, Jcv, Jdf, Jdg, Jc9, Jcq, Jcr, Jc4, Jbr, Jc1, Jbx, Jca, gt, st, Jbc, Jba, Jbb, Jb8, Jbi, Ja5, atI0, atI1, atI2, atI3, atI4, ixN20, ixN21, List.map_cons, List.map_nil, List.cons_append, List.nil_append, List.append_nil, List.length_cons, List.length_nil, List.replicate_succ, List.replicate_zero, Nat.add_one_sub_one, Jd3, Jbt, Jby, Jbz, Jbw, Jaf, Jah, Jai, Jag, Jb7, Jaw, Jax, Jal, Jav, Jb4, Jau, Jat, Jan, Jam, Jb2, Jaj, Jak, Jb0, Jb1, Jaq, Jb3, Jar, Jas, Jao, Jap, Jb6, Jb5, Ja8, Ja9, Jad, Jac, Ja0, Jaa, Jab, Jbg, Jbh, Ja7, Jae, Jbd, Jbf, Jbe, Jb9, Ja2, Ja1, Ja4, Ja3]
    intro p hp
    refine mkRule (ns := ns) rfl (fun _ z => by cases z) (by have := h.2.1; omega) ?_ p hp
    rw [h.1]
    exact ⟨by simp [sizeLine_eq], q⟩
  | y ns =>
    simp only [Stp.low, if_true, Stp.b, Jbv, initE, Jcs, Jce, Jbl, Jbm, Jc0, Jcn, Jco, Jc6, Jck, Jbn, Jcu, Jbo, Jbu, Jd6, Jd7, Jd5, Jd8, Jdd, Jda, Jdb, Jd9, Jc3, Jc8, Jd0, Jcz, Jc7, Jch, Jcy, Jcx, Jcb, Jbs, Jcw, Jcg, Jbk, Jcj, Jc5, Jbj, Jci, Jcf, Jd2, Jd1, Jd4, Jbp, Jcd, Jcm, Jc2, Jct, Jcc, Jbq, Jcp, Jcv, Jdf, Jdg, Jc9, Jcq, Jcr, Jc4, Jbr, Jc1, Jbx, Jca, gt, st, Jbc, Jba, Jbb, Jb8, Jbi, Ja5, atI0, atI1, atI2, atI3, atI4, ixN20, ixN21, List.map_cons, List.map_nil, List.cons_append, List.nil_append, List.append_nil, List.length_cons, List.length_nil, List.replicate_succ, List.replicate_zero, Nat.add_one_sub_one, Jd3, Jbt, Jby, Jbz, Jbw, Jaf, Jah, Jai, Jag, Jb7, Jaw, Jax, Jal, Jav, Jb4, Jau, Jat, Jan, Jam, Jb2, Jaj, Jak, Jb0, Jb1, Jaq, Jb3, Jar, Jas, Jao, Jap, Jb6, Jb5, Ja8, Ja9, Jad, Jac, Ja0, Jaa, Jab, Jbg, Jbh, Ja7, Jae, Jbd, Jbf, Jbe, Jb9, Ja2, Ja1, Ja4, Ja3]
    intro p hp
    refine mkRule (ns := ns) rfl (fun _ z => by cases z) (by have := h.2.1; omega) ?_ p hp
    rw [h.1]
    exact ⟨by simp [sizeLine_eq], q⟩
  | move a b => exact q
  | turn a b c d => exact q
theorem map_get {α : Type} {f : α → D} {ss : List α} {i : Nat} {x : D} (h : (ss.map f)[i]? = some x) : ∃ s, ss[i]? = some s ∧ x = f s := by
  rw [List.getElem?_map] at h
  cases e : ss[i]? with
  | none => rw [e] at h; cases h
  | some s => rw [e] at h; cases h; exact ⟨s, rfl, rfl⟩
theorem all_good {ss : List Stp} (h : ∀ s ∈ ss, s.Ok B) (hB : B ≤ HUGE) : ∀ x ∈ ss.map Stp.p, Good x ∧ stepB x = true := fun x hx => by
  obtain ⟨s, hs, rfl⟩ := List.mem_map.mp hx
  exact step_good (h s hs) hB
theorem ok_program_of {ss : List Stp} (hl : ss.length ≤ 1000) (h : ∀ s ∈ ss, s.Ok B) (hB : B ≤ HUGE) (q : Q (progD ss) μ) : wp_law_program_of [.list (ss.map Stp.b)] μ Q X := by
  unfold wp_law_program_of
  simp only [Jbv, initE, Jcs, Jce, Jbl, Jbm, Jc0, Jcn, Jco, Jc6, Jck, Jbn, Jcu, Jbo, Jbu, Jd6, Jd7, Jd5, Jd8, Jdd, Jda, Jdb, Jd9, Jc3, Jc8, Jd0, Jcz, Jc7, Jch, Jcy, Jcx, Jcb, Jbs, Jcw, Jcg, Jbk, Jcj, Jc5, Jbj, Jci, Jcf, Jd2, Jd1, Jd4, Jbp, Jcd, Jcm, Jc2, Jct, Jcc, Jbq, Jcp, Jcv, Jdf, Jdg, Jc9, Jcq, Jcr, Jc4, Jbr, Jc1, Jbx, Jca, gt, st, Jbc, Jba, Jbb, Jb8, Jbi, Ja5, atI0, atI1, atI2, atI3, atI4, ixN20, ixN21, List.map_cons, List.map_nil, List.cons_append, List.nil_append, List.append_nil, List.length_cons, List.length_nil, List.replicate_succ, List.replicate_zero, Nat.add_one_sub_one, Jd3, Jbt, Jby, Jbz, Jbw, Jaf, Jah, Jai, Jag, Jb7, Jaw, Jax, Jal, Jav, Jb4, Jau, Jat, Jan, Jam, Jb2, Jaj, Jak, Jb0, Jb1, Jaq, Jb3, Jar, Jas, Jao, Jap, Jb6, Jb5, Ja8, Ja9, Jad, Jac, Ja0, Jaa, Jab, Jbg, Jbh, Ja7, Jae, Jbd, Jbf, Jbe, Jb9, Ja2, Ja1, Ja4, Ja3]
  refine ⟨trivial, by rw [List.length_map, sizeLine_eq]; omega, lc_inv (fun i acc μ' => μ' = μ ∧ acc = (ss.take i).map Stp.p) ⟨rfl, rfl⟩ ?_ ?_⟩
  · rintro i x acc μ' N hx ⟨rfl, rfl⟩ hN
    obtain ⟨s, hs, rfl⟩ := map_get hx
    refine ⟨trivial, ?_⟩
    simp only [Jbv, initE, Jcs, Jce, Jbl, Jbm, Jc0, Jcn, Jco, Jc6, Jck, Jbn, Jcu, Jbo, Jbu, Jd6, Jd7, Jd5, Jd8, Jdd, Jda, Jdb, Jd9, Jc3, Jc8, Jd0, Jcz, Jc7, Jch, Jcy, Jcx, Jcb, Jbs, Jcw, Jcg, Jbk, Jcj, Jc5, Jbj, Jci, Jcf, Jd2, Jd1, Jd4, Jbp, Jcd, Jcm, Jc2, Jct, Jcc, Jbq, Jcp, Jcv, Jdf, Jdg, Jc9, Jcq, Jcr, Jc4, Jbr, Jc1, Jbx, Jca, gt, st, Jbc, Jba, Jbb, Jb8, Jbi, Ja5, atI0, atI1, atI2, atI3, atI4, ixN20, ixN21, List.map_cons, List.map_nil, List.cons_append, List.nil_append, List.append_nil, List.length_cons, List.length_nil, List.replicate_succ, List.replicate_zero, Nat.add_one_sub_one, Jd3, Jbt, Jby, Jbz, Jbw, Jaf, Jah, Jai, Jag, Jb7, Jaw, Jax, Jal, Jav, Jb4, Jau, Jat, Jan, Jam, Jb2, Jaj, Jak, Jb0, Jb1, Jaq, Jb3, Jar, Jas, Jao, Jap, Jb6, Jb5, Ja8, Ja9, Jad, Jac, Ja0, Jaa, Jab, Jbg, Jbh, Ja7, Jae, Jbd, Jbf, Jbe, Jb9, Ja2, Ja1, Ja4, Ja3, wipeE, if_true]
    refine ok_step_of (h s (List.mem_of_getElem? hs)) (hN _ _ ⟨rfl, ?_⟩)
    rw [List.take_succ, hs, List.map_append]
    rfl
  · rintro acc μ' ⟨rfl, rfl⟩
    refine ⟨trivial, ?_⟩
    rw [List.length_map, List.take_length]
    intro p hp
    exact mk_Program (ds := ss.map Stp.p) rfl (fun _ z => by cases z) (by rw [List.length_map]; omega) (all_good h hB) q p hp
end
end DL

set_option Elab.async false
set_option linter.all false
set_option maxRecDepth 100000
set_option maxHeartbeats 4000000
/-! P10: == of programs and of steps. -/
namespace DL
open PySem L2
section
variable {μ : Mu} {Q X : QD} {d : D} {B : Nat}
end
/-! ### == of the laws' own steps -/
theorem eqv_word (a b : Str) (xs ys : List PyData) : PyData.eqv (.tuple (.str a :: xs)) (.tuple (.str b :: ys)) = (decide (a = b) && PyData.eqvAll xs ys) := by
  rw [PyData.eqv, PyData.eqvAll, PyData.eqv]
  congr 1
theorem int_eqv (i j : Int) : PyData.eqv (.int i) (.int j) = decide (i = j) := by
  rw [PyData.eqv, Bool.eq_iff_iff, beq_iff_eq, decide_eq_true_iff]
theorem one_eqv (x y : PyData) : PyData.eqvAll [x] [y] = PyData.eqv x y := by rw [PyData.eqvAll, PyData.eqvAll, Bool.and_true]
end DL

set_option Elab.async false
set_option linter.all false
set_option maxRecDepth 100000
set_option maxHeartbeats 4000000
/-! P11: odd values, slices, padded steps. -/
namespace DL
open PySem L2
theorem cut_drop (ds : List D) (n : Nat) : cutD ds (some (n : Int)) none = ds.drop n := by
  unfold cutD
  rw [HT.sIx_nat, HT.sIx_none]
  by_cases h : n ≤ ds.length
  · rw [Nat.min_eq_left h]
    exact List.take_of_length_le (by rw [List.length_drop]; omega)
  · rw [Nat.min_eq_right (by omega), List.drop_length, List.drop_of_length_le (by omega)]
    simp
theorem iL_app (a b : List Int) : iL a ++ iL b = iL (a ++ b) := by
  unfold iL
  rw [List.map_append]
section
variable {μ : Mu} {Q X : QD} {d : D} {B : Nat}
/-- a value that is no step, of a known kind -/
structure NoStep (d : D) : Prop where
  good : Good d
  no : stepB d = false
end
end DL

set_option Elab.async false
set_option linter.all false
set_option maxRecDepth 100000
set_option maxHeartbeats 4000000
/-! P12: programs run and undone. -/
namespace DL
open PySem L2
def wp_need_point : WP := (wDef 2 2 (wIfS (wOrT (wNotT (wTst (wCall wp_is_number [] (waCons (wV 0) waNil)))) (wNotT (wTst (wCall wp_is_number [] (waCons (wV 1) waNil))))) (wRz "BadPoint") wNext))
def wp_done : WP := (wDef 3 3 (wSeq (wIfS (wTst (wOp false oEq (wOp false oIx (wV 0) (wK (.int 0))) (wK (.str "x")))) (wRet (wTup (waCons (wOp false oAdd (wV 1) (wCall wp_row_value [] (waCons (wFld "Rule" "own_numbers" (wOp false oIx (wV 0) (wK (.int 1)))) (waCons (wV 2) waNil)))) (waCons (wV 2) waNil)))) wNext)
    (wSeq (wIfS (wTst (wOp false oEq (wOp false oIx (wV 0) (wK (.int 0))) (wK (.str "y")))) (wRet (wTup (waCons (wV 1) (waCons (wOp false oAdd (wV 2) (wCall wp_row_value [] (waCons (wFld "Rule" "own_numbers" (wOp false oIx (wV 0) (wK (.int 1)))) (waCons (wV 1) waNil)))) waNil)))) wNext)
    (wSeq (wIfS (wTst (wOp false oEq (wOp false oIx (wV 0) (wK (.int 0))) (wK (.str "move")))) (wRet (wTup (waCons (wOp false oAdd (wV 1) (wOp false oIx (wV 0) (wK (.int 1)))) (waCons (wOp false oAdd (wV 2) (wOp false oIx (wV 0) (wK (.int 2)))) waNil)))) wNext)
    (wRet (wTup (waCons (wOp false oAdd (wOp false oMul (wOp false oIx (wV 0) (wK (.int 1))) (wV 1)) (wOp false oMul (wOp false oIx (wV 0) (wK (.int 2))) (wV 2))) (waCons (wOp false oAdd (wOp false oMul (wOp false oIx (wV 0) (wK (.int 3))) (wV 1)) (wOp false oMul (wOp false oIx (wV 0) (wK (.int 4))) (wV 2))) waNil))))))))
def wp_Program___call__ : WP := (wDef 3 4 (wSeq (wDrop (wCall wp_need_point [] (waCons (wV 1) (waCons (wV 2) waNil))))
    (wSeq (wFor (wiSeq (wFld "Program" "own_steps" (wV 0))) (wgN 3) (wAsgG (wgTup 2 (wgCons (wgN 1) (wgCons (wgN 2) wgNil))) (wCall wp_done [] (waCons (wV 3) (waCons (wV 1) (waCons (wV 2) waNil))))))
    (wRet (wTup (waCons (wV 1) (waCons (wV 2) waNil)))))))
def wp_law_step_done : WP := (wDef 3 3 (wSeq (wIfS (wTst (wCall wp_law_is_low [] (waCons (wV 0) waNil))) (wRet (wIf (wTst (wOp false oEq (wOp false oIx (wV 0) (wK (.int 0))) (wK (.str "x")))) (wTup (waCons (wOp false oAdd (wV 1) (wCall wp_law_rule_at [] (waCons (wOp false oIx (wV 0) (wK (.int 1))) (waCons (wV 2) waNil)))) (waCons (wV 2) waNil))) (wTup (waCons (wV 1) (waCons (wOp false oAdd (wV 2) (wCall wp_law_rule_at [] (waCons (wOp false oIx (wV 0) (wK (.int 1))) (waCons (wV 1) waNil)))) waNil))))) wNext)
    (wSeq (wIfS (wTst (wOp false oEq (wOp false oIx (wV 0) (wK (.int 0))) (wK (.str "move")))) (wRet (wTup (waCons (wOp false oAdd (wV 1) (wOp false oIx (wV 0) (wK (.int 1)))) (waCons (wOp false oAdd (wV 2) (wOp false oIx (wV 0) (wK (.int 2)))) waNil)))) wNext)
    (wRet (wTup (waCons (wOp false oAdd (wOp false oMul (wOp false oIx (wV 0) (wK (.int 1))) (wV 1)) (wOp false oMul (wOp false oIx (wV 0) (wK (.int 2))) (wV 2))) (waCons (wOp false oAdd (wOp false oMul (wOp false oIx (wV 0) (wK (.int 3))) (wV 1)) (wOp false oMul (wOp false oIx (wV 0) (wK (.int 4))) (wV 2))) waNil)))))))
def wp_law_run : WP := (wDef 3 4 (wSeq (wFor (wiSeq (wV 0)) (wgN 3) (wAsgG (wgTup 2 (wgCons (wgN 1) (wgCons (wgN 2) wgNil))) (wCall wp_law_step_done [] (waCons (wV 3) (waCons (wV 1) (waCons (wV 2) waNil))))))
    (wRet (wTup (waCons (wV 1) (waCons (wV 2) waNil))))))
/-- what a step does -/
def Stp.act : Stp → Int × Int → Int × Int
  | .x ns, (u, v) => (u + M.ev ns v, v)
  | .y ns, (u, v) => (u, v + M.ev ns u)
  | .move s t, (u, v) => (u + s, v + t)
  | .turn a b c d, (u, v) => (a * u + b * v, c * u + d * v)
def acts : List Stp → Int × Int → Int × Int
  | [], p => p
  | s :: ss, p => acts ss (s.act p)
def bits (C : Nat) : List Stp → Nat → Nat
  | [], b => b
  | s :: ss, b => bits C ss (s.deg * b + (C + 4))
def Fit (p : Int × Int) (b : Nat) : Prop := p.1.natAbs < 2 ^ b ∧ p.2.natAbs < 2 ^ b
theorem bits_le (C : Nat) : ∀ (ss : List Stp) (b : Nat), bits C ss b ≤ degs ss * (b + (C + 4) * ss.length)
  | [], b => by simp [bits, degs]
  | s :: ss, b => by
    have h := bits_le C ss (s.deg * b + (C + 4))
    have hd : 1 ≤ s.deg := Nat.le_max_left _ _
    rw [bits]
    refine Nat.le_trans h ?_
    show degs ss * (s.deg * b + (C + 4) + (C + 4) * ss.length) ≤ s.deg * degs ss * (b + (C + 4) * (ss.length + 1))
    rw [Nat.mul_comm s.deg (degs ss), Nat.mul_assoc]
    refine Nat.mul_le_mul_left _ ?_
    rw [Nat.mul_add s.deg b]
    have := Nat.mul_le_mul_right ((C + 4) * (ss.length + 1)) hd
    have e : (C + 4) * (ss.length + 1) = (C + 4) + (C + 4) * ss.length := by rw [Nat.mul_add, Nat.mul_one, Nat.add_comm]
    omega
theorem ev_fit {b C : Nat} {t : Int} (hb : 0 < b) (ht : t.natAbs < 2 ^ b) : ∀ {ns : List Int}, (∀ n ∈ ns, n.natAbs ≤ 2 ^ C) → (M.ev ns t).natAbs ≤ ns.length * (2 ^ C * 2 ^ (b * (ns.length - 1)))
  | [], _ => by simp [M.ev]
  | n :: ns, h => by
    have ih := ev_fit hb ht (ns := ns) fun m hm => h m (List.mem_cons_of_mem _ hm)
    have hn := h n List.mem_cons_self
    have e : M.ev (n :: ns) t = n + t * M.ev ns t := by rfl
    have h1 := Int.natAbs_add_le n (t * M.ev ns t)
    rw [Int.natAbs_mul] at h1
    have h2 : t.natAbs * (M.ev ns t).natAbs ≤ 2 ^ b * (ns.length * (2 ^ C * 2 ^ (b * (ns.length - 1)))) := Nat.mul_le_mul (Nat.le_of_lt ht) ih
    rw [e]
    cases ns with
    | nil =>
      simp [M.ev]
      exact hn
    | cons m r =>
      simp only [List.length_cons, Nat.add_sub_cancel] at h2 ⊢
      have e2 : 2 ^ b * ((r.length + 1) * (2 ^ C * 2 ^ (b * r.length))) = (r.length + 1) * (2 ^ C * 2 ^ (b * (r.length + 1))) := by
        rw [Nat.mul_add b, Nat.mul_one, Nat.pow_add]
        simp only [Nat.mul_comm, Nat.mul_left_comm, Nat.mul_assoc]
      rw [e2] at h2
      have h3 : 2 ^ C ≤ 2 ^ C * 2 ^ (b * (r.length + 1)) := Nat.le_mul_of_pos_right _ (Nat.two_pow_pos _)
      have h4 : (r.length + 1 + 1) * (2 ^ C * 2 ^ (b * (r.length + 1))) = (r.length + 1) * (2 ^ C * 2 ^ (b * (r.length + 1))) + 2 ^ C * 2 ^ (b * (r.length + 1)) := by rw [Nat.add_mul (r.length + 1) 1, Nat.one_mul]
      omega
theorem low_fit {b C : Nat} {ns : List Int} {u v : Int} (hb : 1 ≤ b) (hl : ns.length ≤ 7) (hn : ∀ n ∈ ns, n.natAbs ≤ 2 ^ C) (hu : u.natAbs < 2 ^ b) (hv : v.natAbs < 2 ^ b) : (u + M.ev ns v).natAbs < 2 ^ (max 1 (ns.length - 1) * b + (C + 4)) := by
  have h1 := ev_fit (by omega) hv hn
  have h2 := Int.natAbs_add_le u (M.ev ns v)
  have h3 : b * (ns.length - 1) ≤ max 1 (ns.length - 1) * b := by
    rw [Nat.mul_comm b]
    exact Nat.mul_le_mul_right _ (Nat.le_max_right _ _)
  have h4 : b ≤ max 1 (ns.length - 1) * b := by
    have := Nat.mul_le_mul_right b (Nat.le_max_left 1 (ns.length - 1))
    omega
  have h5 : 2 ^ (b * (ns.length - 1)) ≤ 2 ^ (max 1 (ns.length - 1) * b) := Nat.pow_le_pow_right (by decide) h3
  have h6 : 2 ^ b ≤ 2 ^ (max 1 (ns.length - 1) * b) := Nat.pow_le_pow_right (by decide) h4
  have e : 2 ^ (max 1 (ns.length - 1) * b + (C + 4)) = 16 * (2 ^ C * 2 ^ (max 1 (ns.length - 1) * b)) := by
    rw [Nat.pow_add, Nat.pow_add, show 2 ^ 4 = 16 from rfl, Nat.mul_comm, Nat.mul_comm (2 ^ C) 16, Nat.mul_assoc]
  rw [e]
  generalize 2 ^ (max 1 (ns.length - 1) * b) = P at *
  have h7 : ns.length * (2 ^ C * 2 ^ (b * (ns.length - 1))) ≤ 7 * (2 ^ C * P) := Nat.mul_le_mul hl (Nat.mul_le_mul_left _ h5)
  have h8 : P ≤ 2 ^ C * P := Nat.le_mul_of_pos_left _ (Nat.two_pow_pos _)
  omega
theorem act_fit {b C : Nat} {s : Stp} {p : Int × Int} (hb : 1 ≤ b) (hs : s.Ok (2 ^ C)) (h : Fit p b) : Fit (s.act p) (s.deg * b + (C + 4)) := by
  obtain ⟨u, v⟩ := p
  obtain ⟨hu, hv⟩ := h
  have hd : 1 ≤ s.deg := Nat.le_max_left _ _
  have hd2 : b ≤ s.deg * b := by
    have := Nat.mul_le_mul_right b hd
    omega
  have up : ∀ {i : Int}, i.natAbs < 2 ^ b → i.natAbs < 2 ^ (s.deg * b + (C + 4)) := fun h => Nat.lt_of_lt_of_le h (Nat.pow_le_pow_right (by decide) (by omega))
  have ee : 2 ^ (b + (C + 4)) = 16 * (2 ^ C * 2 ^ b) := by
    rw [Nat.pow_add, Nat.pow_add, show 2 ^ 4 = 16 from rfl, Nat.mul_comm, Nat.mul_comm (2 ^ C) 16, Nat.mul_assoc]
  have hp1 : 2 ^ b ≤ 2 ^ C * 2 ^ b := Nat.le_mul_of_pos_left _ (Nat.two_pow_pos _)
  have hp2 : 2 ^ C ≤ 2 ^ C * 2 ^ b := Nat.le_mul_of_pos_right _ (Nat.two_pow_pos _)
  cases s with
  | x ns => exact ⟨low_fit hb hs.2.1 hs.2.2 hu hv, up hv⟩
  | y ns => exact ⟨up hu, low_fit hb hs.2.1 hs.2.2 hv hu⟩
  | move s t =>
    have e : (Stp.move s t).deg = 1 := rfl
    have s1 := hs.1
    have s2 := hs.2
    have a1 := Int.natAbs_add_le u s
    have a2 := Int.natAbs_add_le v t
    rw [e, Nat.one_mul]
    constructor <;> (rw [ee]; simp only [Stp.act] at *; omega)
  | turn a b' c d =>
    have e : (Stp.turn a b' c d).deg = 1 := rfl
    obtain ⟨_, s1, s2, s3, s4⟩ := hs
    have m : ∀ {i j : Int}, i.natAbs ≤ 2 ^ C → j.natAbs < 2 ^ b → (i * j).natAbs ≤ 2 ^ C * 2 ^ b := fun h1 h2 => mul_le h1 (Nat.le_of_lt h2)
    have a1 := Int.natAbs_add_le (a * u) (b' * v)
    have a2 := Int.natAbs_add_le (c * u) (d * v)
    have m1 := m s1 hu
    have m2 := m s2 hv
    have m3 := m s3 hu
    have m4 := m s4 hv
    rw [e, Nat.one_mul]
    constructor <;> (rw [ee]; simp only [Stp.act] at *; omega)
section
variable {μ : Mu} {Q X : QD} {d : D} {B : Nat}
theorem row_fit {b C : Nat} {ns : List Int} (hb : C + 1 ≤ b) (hn : ∀ n ∈ ns, n.natAbs ≤ 2 ^ C) : ∀ n ∈ ns, n.natAbs < 2 ^ b := fun n h => Nat.lt_of_le_of_lt (hn n h) (Nat.pow_lt_pow_right (by decide) (by omega))
theorem big_le {b c n m : Nat} (hb : b ≤ c) (hn : n ≤ m) (h : (c + 1) * m + c ≤ 40000000) : (b + 1) * n + b ≤ 40000000 := by
  have : (b + 1) * n ≤ (c + 1) * m := Nat.mul_le_mul (by omega) hn
  omega
theorem big_two {c m : Nat} (hm : 2 ≤ m) (h : (c + 1) * m + c ≤ 40000000) : c ≤ 16000000 := by
  have : (c + 1) * 2 ≤ (c + 1) * m := Nat.mul_le_mul_left _ hm
  omega
theorem turn_mul {b C : Nat} {i j : Int} (hC : C + 1 ≤ b) (hb : b ≤ 16000000) (hi : i.natAbs ≤ 2 ^ C) (hj : j.natAbs < 2 ^ b) : CMulU i j := mulU_of (a := C + 1) (b := b) (Nat.lt_of_le_of_lt hi (Nat.pow_lt_pow_right (by decide) (by omega))) hj (by omega)
theorem ok_done {b C : Nat} {s : Stp} {u v : Int} (hb : C + 1 ≤ b) (hb3 : (b + 1) * s.len + b ≤ 40000000) (hb2 : b ≤ 16000000) (hs : s.Ok (2 ^ C)) (hu : u.natAbs < 2 ^ b) (hv : v.natAbs < 2 ^ b) (q : Q (.tup [.int (s.act (u, v)).1, .int (s.act (u, v)).2]) μ) : wp_done [s.p, .int u, .int v] μ Q X := by
  unfold wp_done
  cases s with
  | x ns =>
    simp only [Jbv, initE, Jcs, Jce, Jbl, Jbm, Jc0, Jcn, Jco, Jc6, Jck, Jbn, Jcu, Jbo, Jbu, Jd6, Jd7, Jd5, Jd8, Jdd, Jda, Jdb, Jd9, Jc3, Jc8, Jd0, Jcz, Jc7, Jch, Jcy, Jcx, Jcb, Jbs, Jcw, Jcg, Jbk, Jcj, Jc5, Jbj, Jci, Jcf, Jd2, Jd1, Jd4, Jbp, Jcd, Jcm, Jc2, Jct, Jcc, Jbq, Jcp, Jcv, Jdf, Jdg, Jc9, Jcq, Jcr, Jc4, Jbr, Jc1, Jbx, Jca, gt, st, Jbc, Jba, Jbb, Jb8, Jbi, Ja5, atI0, atI1, atI2, atI3, atI4, ixN20, ixN21, List.map_cons, List.map_nil, List.cons_append, List.nil_append, List.append_nil, List.length_cons, List.length_nil, List.replicate_succ, List.replicate_zero, Nat.add_one_sub_one, Jd3, Jbt, Jby, Jbz, Jbw, Jaf, Jah, Jai, Jag, Jb7, Jaw, Jax, Jal, Jav, Jb4, Jau, Jat, Jan, Jam, Jb2, Jaj, Jak, Jb0, Jb1, Jaq, Jb3, Jar, Jas, Jao, Jap, Jb6, Jb5, Ja8, Ja9, Jad, Jac, Ja0, Jaa, Jab, Jbg, Jbh, Ja7, Jae, Jbd, Jbf, Jbe, Jb9, Ja2, Ja1, Ja4, Ja3, Jay, Jaz, decide_true, decide_false, Bool.not_true, Bool.not_false, Bool.false_eq_true, if_true, if_false, true_and, Stp.p, ruleD, asObj, fldD]
    refine ok_row_value (b := b) (row_fit hb hs.2.2) hv (by have := hs.2.1; omega) hb3 ?_
    simp only [Jbv, initE, Jcs, Jce, Jbl, Jbm, Jc0, Jcn, Jco, Jc6, Jck, Jbn, Jcu, Jbo, Jbu, Jd6, Jd7, Jd5, Jd8, Jdd, Jda, Jdb, Jd9, Jc3, Jc8, Jd0, Jcz, Jc7, Jch, Jcy, Jcx, Jcb, Jbs, Jcw, Jcg, Jbk, Jcj, Jc5, Jbj, Jci, Jcf, Jd2, Jd1, Jd4, Jbp, Jcd, Jcm, Jc2, Jct, Jcc, Jbq, Jcp, Jcv, Jdf, Jdg, Jc9, Jcq, Jcr, Jc4, Jbr, Jc1, Jbx, Jca, gt, st, Jbc, Jba, Jbb, Jb8, Jbi, Ja5, atI0, atI1, atI2, atI3, atI4, ixN20, ixN21, List.map_cons, List.map_nil, List.cons_append, List.nil_append, List.append_nil, List.length_cons, List.length_nil, List.replicate_succ, List.replicate_zero, Nat.add_one_sub_one, Jd3, Jbt, Jby, Jbz, Jbw, Jaf, Jah, Jai, Jag, Jb7, Jaw, Jax, Jal, Jav, Jb4, Jau, Jat, Jan, Jam, Jb2, Jaj, Jak, Jb0, Jb1, Jaq, Jb3, Jar, Jas, Jao, Jap, Jb6, Jb5, Ja8, Ja9, Jad, Jac, Ja0, Jaa, Jab, Jbg, Jbh, Ja7, Jae, Jbd, Jbf, Jbe, Jb9, Ja2, Ja1, Ja4, Ja3, Jay, Jaz, decide_true, decide_false, Bool.not_true, Bool.not_false, Bool.false_eq_true, if_true, if_false, true_and]
    exact ⟨by simp [sizeLine_eq], q⟩
  | y ns =>
    simp only [Jbv, initE, Jcs, Jce, Jbl, Jbm, Jc0, Jcn, Jco, Jc6, Jck, Jbn, Jcu, Jbo, Jbu, Jd6, Jd7, Jd5, Jd8, Jdd, Jda, Jdb, Jd9, Jc3, Jc8, Jd0, Jcz, Jc7, Jch, Jcy, Jcx, Jcb, Jbs, Jcw, Jcg, Jbk, Jcj, Jc5, Jbj, Jci, Jcf, Jd2, Jd1, Jd4, Jbp, Jcd, Jcm, Jc2, Jct, Jcc, Jbq, Jcp, Jcv, Jdf, Jdg, Jc9, Jcq, Jcr, Jc4, Jbr, Jc1, Jbx, Jca, gt, st, Jbc, Jba, Jbb, Jb8, Jbi, Ja5, atI0, atI1, atI2, atI3, atI4, ixN20, ixN21, List.map_cons, List.map_nil, List.cons_append, List.nil_append, List.append_nil, List.length_cons, List.length_nil, List.replicate_succ, List.replicate_zero, Nat.add_one_sub_one, Jd3, Jbt, Jby, Jbz, Jbw, Jaf, Jah, Jai, Jag, Jb7, Jaw, Jax, Jal, Jav, Jb4, Jau, Jat, Jan, Jam, Jb2, Jaj, Jak, Jb0, Jb1, Jaq, Jb3, Jar, Jas, Jao, Jap, Jb6, Jb5, Ja8, Ja9, Jad, Jac, Ja0, Jaa, Jab, Jbg, Jbh, Ja7, Jae, Jbd, Jbf, Jbe, Jb9, Ja2, Ja1, Ja4, Ja3, Jay, Jaz, decide_true, decide_false, Bool.not_true, Bool.not_false, Bool.false_eq_true, if_true, if_false, true_and, Stp.p, ruleD, asObj, fldD]
    rw [if_neg (by decide)]
    refine ok_row_value (b := b) (row_fit hb hs.2.2) hu (by have := hs.2.1; omega) hb3 ?_
    simp only [Jbv, initE, Jcs, Jce, Jbl, Jbm, Jc0, Jcn, Jco, Jc6, Jck, Jbn, Jcu, Jbo, Jbu, Jd6, Jd7, Jd5, Jd8, Jdd, Jda, Jdb, Jd9, Jc3, Jc8, Jd0, Jcz, Jc7, Jch, Jcy, Jcx, Jcb, Jbs, Jcw, Jcg, Jbk, Jcj, Jc5, Jbj, Jci, Jcf, Jd2, Jd1, Jd4, Jbp, Jcd, Jcm, Jc2, Jct, Jcc, Jbq, Jcp, Jcv, Jdf, Jdg, Jc9, Jcq, Jcr, Jc4, Jbr, Jc1, Jbx, Jca, gt, st, Jbc, Jba, Jbb, Jb8, Jbi, Ja5, atI0, atI1, atI2, atI3, atI4, ixN20, ixN21, List.map_cons, List.map_nil, List.cons_append, List.nil_append, List.append_nil, List.length_cons, List.length_nil, List.replicate_succ, List.replicate_zero, Nat.add_one_sub_one, Jd3, Jbt, Jby, Jbz, Jbw, Jaf, Jah, Jai, Jag, Jb7, Jaw, Jax, Jal, Jav, Jb4, Jau, Jat, Jan, Jam, Jb2, Jaj, Jak, Jb0, Jb1, Jaq, Jb3, Jar, Jas, Jao, Jap, Jb6, Jb5, Ja8, Ja9, Jad, Jac, Ja0, Jaa, Jab, Jbg, Jbh, Ja7, Jae, Jbd, Jbf, Jbe, Jb9, Ja2, Ja1, Ja4, Ja3, Jay, Jaz, decide_true, decide_false, Bool.not_true, Bool.not_false, Bool.false_eq_true, if_true, if_false, true_and]
    exact ⟨by simp [sizeLine_eq], q⟩
  | move s t =>
    simp only [Jbv, initE, Jcs, Jce, Jbl, Jbm, Jc0, Jcn, Jco, Jc6, Jck, Jbn, Jcu, Jbo, Jbu, Jd6, Jd7, Jd5, Jd8, Jdd, Jda, Jdb, Jd9, Jc3, Jc8, Jd0, Jcz, Jc7, Jch, Jcy, Jcx, Jcb, Jbs, Jcw, Jcg, Jbk, Jcj, Jc5, Jbj, Jci, Jcf, Jd2, Jd1, Jd4, Jbp, Jcd, Jcm, Jc2, Jct, Jcc, Jbq, Jcp, Jcv, Jdf, Jdg, Jc9, Jcq, Jcr, Jc4, Jbr, Jc1, Jbx, Jca, gt, st, Jbc, Jba, Jbb, Jb8, Jbi, Ja5, atI0, atI1, atI2, atI3, atI4, ixN20, ixN21, List.map_cons, List.map_nil, List.cons_append, List.nil_append, List.append_nil, List.length_cons, List.length_nil, List.replicate_succ, List.replicate_zero, Nat.add_one_sub_one, Jd3, Jbt, Jby, Jbz, Jbw, Jaf, Jah, Jai, Jag, Jb7, Jaw, Jax, Jal, Jav, Jb4, Jau, Jat, Jan, Jam, Jb2, Jaj, Jak, Jb0, Jb1, Jaq, Jb3, Jar, Jas, Jao, Jap, Jb6, Jb5, Ja8, Ja9, Jad, Jac, Ja0, Jaa, Jab, Jbg, Jbh, Ja7, Jae, Jbd, Jbf, Jbe, Jb9, Ja2, Ja1, Ja4, Ja3, Jay, Jaz, decide_true, decide_false, Bool.not_true, Bool.not_false, Bool.false_eq_true, if_true, if_false, true_and, Stp.p]
    exact ⟨by simp [sizeLine_eq], q⟩
  | turn a b' c d =>
    obtain ⟨_, s1, s2, s3, s4⟩ := hs
    simp only [Jbv, initE, Jcs, Jce, Jbl, Jbm, Jc0, Jcn, Jco, Jc6, Jck, Jbn, Jcu, Jbo, Jbu, Jd6, Jd7, Jd5, Jd8, Jdd, Jda, Jdb, Jd9, Jc3, Jc8, Jd0, Jcz, Jc7, Jch, Jcy, Jcx, Jcb, Jbs, Jcw, Jcg, Jbk, Jcj, Jc5, Jbj, Jci, Jcf, Jd2, Jd1, Jd4, Jbp, Jcd, Jcm, Jc2, Jct, Jcc, Jbq, Jcp, Jcv, Jdf, Jdg, Jc9, Jcq, Jcr, Jc4, Jbr, Jc1, Jbx, Jca, gt, st, Jbc, Jba, Jbb, Jb8, Jbi, Ja5, atI0, atI1, atI2, atI3, atI4, ixN20, ixN21, List.map_cons, List.map_nil, List.cons_append, List.nil_append, List.append_nil, List.length_cons, List.length_nil, List.replicate_succ, List.replicate_zero, Nat.add_one_sub_one, Jd3, Jbt, Jby, Jbz, Jbw, Jaf, Jah, Jai, Jag, Jb7, Jaw, Jax, Jal, Jav, Jb4, Jau, Jat, Jan, Jam, Jb2, Jaj, Jak, Jb0, Jb1, Jaq, Jb3, Jar, Jas, Jao, Jap, Jb6, Jb5, Ja8, Ja9, Jad, Jac, Ja0, Jaa, Jab, Jbg, Jbh, Ja7, Jae, Jbd, Jbf, Jbe, Jb9, Ja2, Ja1, Ja4, Ja3, Jay, Jaz, decide_true, decide_false, Bool.not_true, Bool.not_false, Bool.false_eq_true, if_true, if_false, true_and, Stp.p]
    rw [if_neg (by decide), if_neg (by decide), if_neg (by decide)]
    exact ⟨turn_mul hb hb2 s1 hu, turn_mul hb hb2 s2 hv, turn_mul hb hb2 s3 hu, turn_mul hb hb2 s4 hv, by simp [sizeLine_eq], q⟩
theorem ok_step_done {b C : Nat} {s : Stp} {u v : Int} (hb : C + 1 ≤ b) (hb3 : (b + 1) * s.len + b ≤ 40000000) (hb2 : b ≤ 16000000) (hs : s.Ok (2 ^ C)) (hu : u.natAbs < 2 ^ b) (hv : v.natAbs < 2 ^ b) (q : Q (.tup [.int (s.act (u, v)).1, .int (s.act (u, v)).2]) μ) : wp_law_step_done [s.b, .int u, .int v] μ Q X := by
  unfold wp_law_step_done
  simp only [Jbv, initE, Jcs, Jce, Jbl, Jbm, Jc0, Jcn, Jco, Jc6, Jck, Jbn, Jcu, Jbo, Jbu, Jd6, Jd7, Jd5, Jd8, Jdd, Jda, Jdb, Jd9, Jc3, Jc8, Jd0, Jcz, Jc7, Jch, Jcy, Jcx, Jcb, Jbs, Jcw, Jcg, Jbk, Jcj, Jc5, Jbj, Jci, Jcf, Jd2, Jd1, Jd4, Jbp, Jcd, Jcm, Jc2, Jct, Jcc, Jbq, Jcp, Jcv, Jdf, Jdg, Jc9, Jcq, Jcr, Jc4, Jbr, Jc1, Jbx, Jca, gt, st, Jbc, Jba, Jbb, Jb8, Jbi, Ja5, atI0, atI1, atI2, atI3, atI4, ixN20, ixN21, List.map_cons, List.map_nil, List.cons_append, List.nil_append, List.append_nil, List.length_cons, List.length_nil, List.replicate_succ, List.replicate_zero, Nat.add_one_sub_one, Jd3, Jbt, Jby, Jbz, Jbw, Jaf, Jah, Jai, Jag, Jb7, Jaw, Jax, Jal, Jav, Jb4, Jau, Jat, Jan, Jam, Jb2, Jaj, Jak, Jb0, Jb1, Jaq, Jb3, Jar, Jas, Jao, Jap, Jb6, Jb5, Ja8, Ja9, Jad, Jac, Ja0, Jaa, Jab, Jbg, Jbh, Ja7, Jae, Jbd, Jbf, Jbe, Jb9, Ja2, Ja1, Ja4, Ja3, Jay, Jaz, decide_true, decide_false, Bool.not_true, Bool.not_false, Bool.false_eq_true, if_true, if_false, true_and]
  refine ok_is_low ?_
  cases s with
  | x ns =>
    simp only [Jbv, initE, Jcs, Jce, Jbl, Jbm, Jc0, Jcn, Jco, Jc6, Jck, Jbn, Jcu, Jbo, Jbu, Jd6, Jd7, Jd5, Jd8, Jdd, Jda, Jdb, Jd9, Jc3, Jc8, Jd0, Jcz, Jc7, Jch, Jcy, Jcx, Jcb, Jbs, Jcw, Jcg, Jbk, Jcj, Jc5, Jbj, Jci, Jcf, Jd2, Jd1, Jd4, Jbp, Jcd, Jcm, Jc2, Jct, Jcc, Jbq, Jcp, Jcv, Jdf, Jdg, Jc9, Jcq, Jcr, Jc4, Jbr, Jc1, Jbx, Jca, gt, st, Jbc, Jba, Jbb, Jb8, Jbi, Ja5, atI0, atI1, atI2, atI3, atI4, ixN20, ixN21, List.map_cons, List.map_nil, List.cons_append, List.nil_append, List.append_nil, List.length_cons, List.length_nil, List.replicate_succ, List.replicate_zero, Nat.add_one_sub_one, Jd3, Jbt, Jby, Jbz, Jbw, Jaf, Jah, Jai, Jag, Jb7, Jaw, Jax, Jal, Jav, Jb4, Jau, Jat, Jan, Jam, Jb2, Jaj, Jak, Jb0, Jb1, Jaq, Jb3, Jar, Jas, Jao, Jap, Jb6, Jb5, Ja8, Ja9, Jad, Jac, Ja0, Jaa, Jab, Jbg, Jbh, Ja7, Jae, Jbd, Jbf, Jbe, Jb9, Ja2, Ja1, Ja4, Ja3, Jay, Jaz, decide_true, decide_false, Bool.not_true, Bool.not_false, Bool.false_eq_true, if_true, if_false, true_and, Stp.b, Stp.low]
    refine ok_rule_at (b := b) (row_fit hb hs.2.2) hv (by have := hs.2.1; omega) hb3 ?_
    simp only [Jbv, initE, Jcs, Jce, Jbl, Jbm, Jc0, Jcn, Jco, Jc6, Jck, Jbn, Jcu, Jbo, Jbu, Jd6, Jd7, Jd5, Jd8, Jdd, Jda, Jdb, Jd9, Jc3, Jc8, Jd0, Jcz, Jc7, Jch, Jcy, Jcx, Jcb, Jbs, Jcw, Jcg, Jbk, Jcj, Jc5, Jbj, Jci, Jcf, Jd2, Jd1, Jd4, Jbp, Jcd, Jcm, Jc2, Jct, Jcc, Jbq, Jcp, Jcv, Jdf, Jdg, Jc9, Jcq, Jcr, Jc4, Jbr, Jc1, Jbx, Jca, gt, st, Jbc, Jba, Jbb, Jb8, Jbi, Ja5, atI0, atI1, atI2, atI3, atI4, ixN20, ixN21, List.map_cons, List.map_nil, List.cons_append, List.nil_append, List.append_nil, List.length_cons, List.length_nil, List.replicate_succ, List.replicate_zero, Nat.add_one_sub_one, Jd3, Jbt, Jby, Jbz, Jbw, Jaf, Jah, Jai, Jag, Jb7, Jaw, Jax, Jal, Jav, Jb4, Jau, Jat, Jan, Jam, Jb2, Jaj, Jak, Jb0, Jb1, Jaq, Jb3, Jar, Jas, Jao, Jap, Jb6, Jb5, Ja8, Ja9, Jad, Jac, Ja0, Jaa, Jab, Jbg, Jbh, Ja7, Jae, Jbd, Jbf, Jbe, Jb9, Ja2, Ja1, Ja4, Ja3, Jay, Jaz, decide_true, decide_false, Bool.not_true, Bool.not_false, Bool.false_eq_true, if_true, if_false, true_and]
    exact ⟨by simp [sizeLine_eq], q⟩
  | y ns =>
    simp only [Jbv, initE, Jcs, Jce, Jbl, Jbm, Jc0, Jcn, Jco, Jc6, Jck, Jbn, Jcu, Jbo, Jbu, Jd6, Jd7, Jd5, Jd8, Jdd, Jda, Jdb, Jd9, Jc3, Jc8, Jd0, Jcz, Jc7, Jch, Jcy, Jcx, Jcb, Jbs, Jcw, Jcg, Jbk, Jcj, Jc5, Jbj, Jci, Jcf, Jd2, Jd1, Jd4, Jbp, Jcd, Jcm, Jc2, Jct, Jcc, Jbq, Jcp, Jcv, Jdf, Jdg, Jc9, Jcq, Jcr, Jc4, Jbr, Jc1, Jbx, Jca, gt, st, Jbc, Jba, Jbb, Jb8, Jbi, Ja5, atI0, atI1, atI2, atI3, atI4, ixN20, ixN21, List.map_cons, List.map_nil, List.cons_append, List.nil_append, List.append_nil, List.length_cons, List.length_nil, List.replicate_succ, List.replicate_zero, Nat.add_one_sub_one, Jd3, Jbt, Jby, Jbz, Jbw, Jaf, Jah, Jai, Jag, Jb7, Jaw, Jax, Jal, Jav, Jb4, Jau, Jat, Jan, Jam, Jb2, Jaj, Jak, Jb0, Jb1, Jaq, Jb3, Jar, Jas, Jao, Jap, Jb6, Jb5, Ja8, Ja9, Jad, Jac, Ja0, Jaa, Jab, Jbg, Jbh, Ja7, Jae, Jbd, Jbf, Jbe, Jb9, Ja2, Ja1, Ja4, Ja3, Jay, Jaz, decide_true, decide_false, Bool.not_true, Bool.not_false, Bool.false_eq_true, if_true, if_false, true_and, Stp.b, Stp.low]
    rw [if_neg (by decide)]
    refine ok_rule_at (b := b) (row_fit hb hs.2.2) hu (by have := hs.2.1; omega) hb3 ?_
    simp only [Jbv, initE, Jcs, Jce, Jbl, Jbm, Jc0, Jcn, Jco, Jc6, Jck, Jbn, Jcu, Jbo, Jbu, Jd6, Jd7, Jd5, Jd8, Jdd, Jda, Jdb, Jd9, Jc3, Jc8, Jd0, Jcz, Jc7, Jch, Jcy, Jcx, Jcb, Jbs, Jcw, Jcg, Jbk, Jcj, Jc5, Jbj, Jci, Jcf, Jd2, Jd1, Jd4, Jbp, Jcd, Jcm, Jc2, Jct, Jcc, Jbq, Jcp, Jcv, Jdf, Jdg, Jc9, Jcq, Jcr, Jc4, Jbr, Jc1, Jbx, Jca, gt, st, Jbc, Jba, Jbb, Jb8, Jbi, Ja5, atI0, atI1, atI2, atI3, atI4, ixN20, ixN21, List.map_cons, List.map_nil, List.cons_append, List.nil_append, List.append_nil, List.length_cons, List.length_nil, List.replicate_succ, List.replicate_zero, Nat.add_one_sub_one, Jd3, Jbt, Jby, Jbz, Jbw, Jaf, Jah, Jai, Jag, Jb7, Jaw, Jax, Jal, Jav, Jb4, Jau, Jat, Jan, Jam, Jb2, Jaj, Jak, Jb0, Jb1, Jaq, Jb3, Jar, Jas, Jao, Jap, Jb6, Jb5, Ja8, Ja9, Jad, Jac, Ja0, Jaa, Jab, Jbg, Jbh, Ja7, Jae, Jbd, Jbf, Jbe, Jb9, Ja2, Ja1, Ja4, Ja3, Jay, Jaz, decide_true, decide_false, Bool.not_true, Bool.not_false, Bool.false_eq_true, if_true, if_false, true_and]
    exact ⟨by simp [sizeLine_eq], q⟩
  | move s t =>
    simp only [Jbv, initE, Jcs, Jce, Jbl, Jbm, Jc0, Jcn, Jco, Jc6, Jck, Jbn, Jcu, Jbo, Jbu, Jd6, Jd7, Jd5, Jd8, Jdd, Jda, Jdb, Jd9, Jc3, Jc8, Jd0, Jcz, Jc7, Jch, Jcy, Jcx, Jcb, Jbs, Jcw, Jcg, Jbk, Jcj, Jc5, Jbj, Jci, Jcf, Jd2, Jd1, Jd4, Jbp, Jcd, Jcm, Jc2, Jct, Jcc, Jbq, Jcp, Jcv, Jdf, Jdg, Jc9, Jcq, Jcr, Jc4, Jbr, Jc1, Jbx, Jca, gt, st, Jbc, Jba, Jbb, Jb8, Jbi, Ja5, atI0, atI1, atI2, atI3, atI4, ixN20, ixN21, List.map_cons, List.map_nil, List.cons_append, List.nil_append, List.append_nil, List.length_cons, List.length_nil, List.replicate_succ, List.replicate_zero, Nat.add_one_sub_one, Jd3, Jbt, Jby, Jbz, Jbw, Jaf, Jah, Jai, Jag, Jb7, Jaw, Jax, Jal, Jav, Jb4, Jau, Jat, Jan, Jam, Jb2, Jaj, Jak, Jb0, Jb1, Jaq, Jb3, Jar, Jas, Jao, Jap, Jb6, Jb5, Ja8, Ja9, Jad, Jac, Ja0, Jaa, Jab, Jbg, Jbh, Ja7, Jae, Jbd, Jbf, Jbe, Jb9, Ja2, Ja1, Ja4, Ja3, Jay, Jaz, decide_true, decide_false, Bool.not_true, Bool.not_false, Bool.false_eq_true, if_true, if_false, true_and, Stp.b, Stp.low]
    exact ⟨by simp [sizeLine_eq], q⟩
  | turn a b' c d =>
    obtain ⟨_, s1, s2, s3, s4⟩ := hs
    simp only [Jbv, initE, Jcs, Jce, Jbl, Jbm, Jc0, Jcn, Jco, Jc6, Jck, Jbn, Jcu, Jbo, Jbu, Jd6, Jd7, Jd5, Jd8, Jdd, Jda, Jdb, Jd9, Jc3, Jc8, Jd0, Jcz, Jc7, Jch, Jcy, Jcx, Jcb, Jbs, Jcw, Jcg, Jbk, Jcj, Jc5, Jbj, Jci, Jcf, Jd2, Jd1, Jd4, Jbp, Jcd, Jcm, Jc2, Jct, Jcc, Jbq, Jcp, Jcv, Jdf, Jdg, Jc9, Jcq, Jcr, Jc4, Jbr, Jc1, Jbx, Jca, gt, st, Jbc, Jba, Jbb, Jb8, Jbi, Ja5, atI0, atI1, atI2, atI3, atI4, ixN20, ixN21, List.map_cons, List.map_nil, List.cons_append, List.nil_append, List.append_nil, List.length_cons, List.length_nil, List.replicate_succ, List.replicate_zero, Nat.add_one_sub_one, Jd3, Jbt, Jby, Jbz, Jbw, Jaf, Jah, Jai, Jag, Jb7, Jaw, Jax, Jal, Jav, Jb4, Jau, Jat, Jan, Jam, Jb2, Jaj, Jak, Jb0, Jb1, Jaq, Jb3, Jar, Jas, Jao, Jap, Jb6, Jb5, Ja8, Ja9, Jad, Jac, Ja0, Jaa, Jab, Jbg, Jbh, Ja7, Jae, Jbd, Jbf, Jbe, Jb9, Ja2, Ja1, Ja4, Ja3, Jay, Jaz, decide_true, decide_false, Bool.not_true, Bool.not_false, Bool.false_eq_true, if_true, if_false, true_and, Stp.b, Stp.low]
    rw [if_neg (by decide)]
    exact ⟨turn_mul hb hb2 s1 hu, turn_mul hb hb2 s2 hv, turn_mul hb hb2 s3 hu, turn_mul hb hb2 s4 hv, by simp [sizeLine_eq], q⟩
theorem acts_take : ∀ (ss : List Stp) (i : Nat) (s : Stp) (p : Int × Int), ss[i]? = some s → acts (ss.take (i + 1)) p = s.act (acts (ss.take i) p)
  | [], i, s, p, h => by cases h
  | t :: ss, 0, s, p, h => by
    cases h
    simp [acts]
  | t :: ss, i + 1, s, p, h => by
    have := acts_take ss i s (t.act p) (by simpa using h)
    simpa [acts] using this
theorem bits_mono (C : Nat) : ∀ (ss : List Stp) (b : Nat), b ≤ bits C ss b
  | [], b => Nat.le_refl _
  | s :: ss, b => by
    have hd : 1 ≤ s.deg := Nat.le_max_left _ _
    have h1 := Nat.mul_le_mul_right b hd
    have := bits_mono C ss (s.deg * b + (C + 4))
    rw [bits]
    omega
theorem bits_app (C : Nat) : ∀ (ss tt : List Stp) (b : Nat), bits C (ss ++ tt) b = bits C tt (bits C ss b)
  | [], tt, b => rfl
  | s :: ss, tt, b => bits_app C ss tt _
theorem bits_take (C : Nat) (ss : List Stp) (i b : Nat) : bits C (ss.take i) b ≤ bits C ss b := by
  have := bits_app C (ss.take i) (ss.drop i) b
  rw [List.take_append_drop] at this
  rw [this]
  exact bits_mono _ _ _
theorem acts_fit {C : Nat} : ∀ (ss : List Stp) (b : Nat) (p : Int × Int), 1 ≤ b → (∀ s ∈ ss, s.Ok (2 ^ C)) → Fit p b → Fit (acts ss p) (bits C ss b)
  | [], b, p, _, _, h => h
  | s :: ss, b, p, hb, hs, h => acts_fit ss _ _ (by omega) (fun t ht => hs t (List.mem_cons_of_mem _ ht)) (act_fit hb (hs s List.mem_cons_self) h)
theorem ok_law_run {b C : Nat} {ss : List Stp} {u v : Int} (hb : C + 1 ≤ b) {m : Nat} (hm : ∀ s ∈ ss, s.len ≤ m) (hm2 : 2 ≤ m) (hb2 : (bits C ss b + 1) * m + bits C ss b ≤ 40000000) (hl : ss.length ≤ 1000) (hs : ∀ s ∈ ss, s.Ok (2 ^ C)) (hu : u.natAbs < 2 ^ b) (hv : v.natAbs < 2 ^ b) (q : Q (.tup [.int (acts ss (u, v)).1, .int (acts ss (u, v)).2]) μ) : wp_law_run [.list (ss.map Stp.b), .int u, .int v] μ Q X := by
  unfold wp_law_run
  simp only [Jbv, initE, Jcs, Jce, Jbl, Jbm, Jc0, Jcn, Jco, Jc6, Jck, Jbn, Jcu, Jbo, Jbu, Jd6, Jd7, Jd5, Jd8, Jdd, Jda, Jdb, Jd9, Jc3, Jc8, Jd0, Jcz, Jc7, Jch, Jcy, Jcx, Jcb, Jbs, Jcw, Jcg, Jbk, Jcj, Jc5, Jbj, Jci, Jcf, Jd2, Jd1, Jd4, Jbp, Jcd, Jcm, Jc2, Jct, Jcc, Jbq, Jcp, Jcv, Jdf, Jdg, Jc9, Jcq, Jcr, Jc4, Jbr, Jc1, Jbx, Jca, gt, st, Jbc, Jba, Jbb, Jb8, Jbi, Ja5, atI0, atI1, atI2, atI3, atI4, ixN20, ixN21, List.map_cons, List.map_nil, List.cons_append, List.nil_append, List.append_nil, List.length_cons, List.length_nil, List.replicate_succ, List.replicate_zero, Nat.add_one_sub_one, Jd3, Jbt, Jby, Jbz, Jbw, Jaf, Jah, Jai, Jag, Jb7, Jaw, Jax, Jal, Jav, Jb4, Jau, Jat, Jan, Jam, Jb2, Jaj, Jak, Jb0, Jb1, Jaq, Jb3, Jar, Jas, Jao, Jap, Jb6, Jb5, Ja8, Ja9, Jad, Jac, Ja0, Jaa, Jab, Jbg, Jbh, Ja7, Jae, Jbd, Jbf, Jbe, Jb9, Ja2, Ja1, Ja4, Ja3, Jay, Jaz, decide_true, decide_false, Bool.not_true, Bool.not_false, Bool.false_eq_true, if_true, if_false, true_and]
  refine ⟨by rw [List.length_map]; omega, for_inv (fun i e μ' => μ' = μ ∧ ∃ x, e = [some (.list (ss.map Stp.b)), some (.int (acts (ss.take i) (u, v)).1), some (.int (acts (ss.take i) (u, v)).2), x]) ⟨rfl, _, rfl⟩ ?_ ?_⟩
  · rintro i x e μ' N hx ⟨rfl, y, rfl⟩ hN
    obtain ⟨s, h1, rfl⟩ := map_get hx
    have hf := acts_fit (ss.take i) b (u, v) (by omega) (fun t ht => hs t (List.mem_of_mem_take ht)) ⟨hu, hv⟩
    have hmo := bits_mono C (ss.take i) b
    have ht := bits_take C ss i b
    have h4 := big_two hm2 hb2
    refine ⟨trivial, ?_⟩
    simp only [Jbv, initE, Jcs, Jce, Jbl, Jbm, Jc0, Jcn, Jco, Jc6, Jck, Jbn, Jcu, Jbo, Jbu, Jd6, Jd7, Jd5, Jd8, Jdd, Jda, Jdb, Jd9, Jc3, Jc8, Jd0, Jcz, Jc7, Jch, Jcy, Jcx, Jcb, Jbs, Jcw, Jcg, Jbk, Jcj, Jc5, Jbj, Jci, Jcf, Jd2, Jd1, Jd4, Jbp, Jcd, Jcm, Jc2, Jct, Jcc, Jbq, Jcp, Jcv, Jdf, Jdg, Jc9, Jcq, Jcr, Jc4, Jbr, Jc1, Jbx, Jca, gt, st, Jbc, Jba, Jbb, Jb8, Jbi, Ja5, atI0, atI1, atI2, atI3, atI4, ixN20, ixN21, List.map_cons, List.map_nil, List.cons_append, List.nil_append, List.append_nil, List.length_cons, List.length_nil, List.replicate_succ, List.replicate_zero, Nat.add_one_sub_one, Jd3, Jbt, Jby, Jbz, Jbw, Jaf, Jah, Jai, Jag, Jb7, Jaw, Jax, Jal, Jav, Jb4, Jau, Jat, Jan, Jam, Jb2, Jaj, Jak, Jb0, Jb1, Jaq, Jb3, Jar, Jas, Jao, Jap, Jb6, Jb5, Ja8, Ja9, Jad, Jac, Ja0, Jaa, Jab, Jbg, Jbh, Ja7, Jae, Jbd, Jbf, Jbe, Jb9, Ja2, Ja1, Ja4, Ja3, Jay, Jaz, decide_true, decide_false, Bool.not_true, Bool.not_false, Bool.false_eq_true, if_true, if_false, true_and]
    refine ok_step_done (b := bits C (ss.take i) b) (by omega) (big_le ht (hm s (List.mem_of_getElem? h1)) hb2) (by omega) (hs s (List.mem_of_getElem? h1)) hf.1 hf.2 ?_
    simp only [Jbv, initE, Jcs, Jce, Jbl, Jbm, Jc0, Jcn, Jco, Jc6, Jck, Jbn, Jcu, Jbo, Jbu, Jd6, Jd7, Jd5, Jd8, Jdd, Jda, Jdb, Jd9, Jc3, Jc8, Jd0, Jcz, Jc7, Jch, Jcy, Jcx, Jcb, Jbs, Jcw, Jcg, Jbk, Jcj, Jc5, Jbj, Jci, Jcf, Jd2, Jd1, Jd4, Jbp, Jcd, Jcm, Jc2, Jct, Jcc, Jbq, Jcp, Jcv, Jdf, Jdg, Jc9, Jcq, Jcr, Jc4, Jbr, Jc1, Jbx, Jca, gt, st, Jbc, Jba, Jbb, Jb8, Jbi, Ja5, atI0, atI1, atI2, atI3, atI4, ixN20, ixN21, List.map_cons, List.map_nil, List.cons_append, List.nil_append, List.append_nil, List.length_cons, List.length_nil, List.replicate_succ, List.replicate_zero, Nat.add_one_sub_one, Jd3, Jbt, Jby, Jbz, Jbw, Jaf, Jah, Jai, Jag, Jb7, Jaw, Jax, Jal, Jav, Jb4, Jau, Jat, Jan, Jam, Jb2, Jaj, Jak, Jb0, Jb1, Jaq, Jb3, Jar, Jas, Jao, Jap, Jb6, Jb5, Ja8, Ja9, Jad, Jac, Ja0, Jaa, Jab, Jbg, Jbh, Ja7, Jae, Jbd, Jbf, Jbe, Jb9, Ja2, Ja1, Ja4, Ja3, Jay, Jaz, decide_true, decide_false, Bool.not_true, Bool.not_false, Bool.false_eq_true, if_true, if_false, true_and]
    refine hN _ _ ⟨rfl, some s.b, ?_⟩
    rw [acts_take ss i s _ h1]
  · rintro e μ' ⟨rfl, y, rfl⟩
    refine ⟨trivial, ?_⟩
    simp only [Jbv, initE, Jcs, Jce, Jbl, Jbm, Jc0, Jcn, Jco, Jc6, Jck, Jbn, Jcu, Jbo, Jbu, Jd6, Jd7, Jd5, Jd8, Jdd, Jda, Jdb, Jd9, Jc3, Jc8, Jd0, Jcz, Jc7, Jch, Jcy, Jcx, Jcb, Jbs, Jcw, Jcg, Jbk, Jcj, Jc5, Jbj, Jci, Jcf, Jd2, Jd1, Jd4, Jbp, Jcd, Jcm, Jc2, Jct, Jcc, Jbq, Jcp, Jcv, Jdf, Jdg, Jc9, Jcq, Jcr, Jc4, Jbr, Jc1, Jbx, Jca, gt, st, Jbc, Jba, Jbb, Jb8, Jbi, Ja5, atI0, atI1, atI2, atI3, atI4, ixN20, ixN21, List.map_cons, List.map_nil, List.cons_append, List.nil_append, List.append_nil, List.length_cons, List.length_nil, List.replicate_succ, List.replicate_zero, Nat.add_one_sub_one, Jd3, Jbt, Jby, Jbz, Jbw, Jaf, Jah, Jai, Jag, Jb7, Jaw, Jax, Jal, Jav, Jb4, Jau, Jat, Jan, Jam, Jb2, Jaj, Jak, Jb0, Jb1, Jaq, Jb3, Jar, Jas, Jao, Jap, Jb6, Jb5, Ja8, Ja9, Jad, Jac, Ja0, Jaa, Jab, Jbg, Jbh, Ja7, Jae, Jbd, Jbf, Jbe, Jb9, Ja2, Ja1, Ja4, Ja3, Jay, Jaz, decide_true, decide_false, Bool.not_true, Bool.not_false, Bool.false_eq_true, if_true, if_false, true_and, List.length_map, List.take_length]
    exact ⟨by simp [sizeLine_eq], q⟩
theorem ok_Program_call {b C : Nat} {ss : List Stp} {u v : Int} (hb : C + 1 ≤ b) {m : Nat} (hm : ∀ s ∈ ss, s.len ≤ m) (hm2 : 2 ≤ m) (hb2 : (bits C ss b + 1) * m + bits C ss b ≤ 40000000) (hl : ss.length ≤ 1000) (hs : ∀ s ∈ ss, s.Ok (2 ^ C)) (hu : u.natAbs < 2 ^ b) (hv : v.natAbs < 2 ^ b) (q : Q (.tup [.int (acts ss (u, v)).1, .int (acts ss (u, v)).2]) μ) : wp_Program___call__ [progD ss, .int u, .int v] μ Q X := by
  unfold wp_Program___call__ wp_need_point
  simp only [Jbv, initE, Jcs, Jce, Jbl, Jbm, Jc0, Jcn, Jco, Jc6, Jck, Jbn, Jcu, Jbo, Jbu, Jd6, Jd7, Jd5, Jd8, Jdd, Jda, Jdb, Jd9, Jc3, Jc8, Jd0, Jcz, Jc7, Jch, Jcy, Jcx, Jcb, Jbs, Jcw, Jcg, Jbk, Jcj, Jc5, Jbj, Jci, Jcf, Jd2, Jd1, Jd4, Jbp, Jcd, Jcm, Jc2, Jct, Jcc, Jbq, Jcp, Jcv, Jdf, Jdg, Jc9, Jcq, Jcr, Jc4, Jbr, Jc1, Jbx, Jca, gt, st, Jbc, Jba, Jbb, Jb8, Jbi, Ja5, atI0, atI1, atI2, atI3, atI4, ixN20, ixN21, List.map_cons, List.map_nil, List.cons_append, List.nil_append, List.append_nil, List.length_cons, List.length_nil, List.replicate_succ, List.replicate_zero, Nat.add_one_sub_one, Jd3, Jbt, Jby, Jbz, Jbw, Jaf, Jah, Jai, Jag, Jb7, Jaw, Jax, Jal, Jav, Jb4, Jau, Jat, Jan, Jam, Jb2, Jaj, Jak, Jb0, Jb1, Jaq, Jb3, Jar, Jas, Jao, Jap, Jb6, Jb5, Ja8, Ja9, Jad, Jac, Ja0, Jaa, Jab, Jbg, Jbh, Ja7, Jae, Jbd, Jbf, Jbe, Jb9, Ja2, Ja1, Ja4, Ja3, Jay, Jaz, decide_true, decide_false, Bool.not_true, Bool.not_false, Bool.false_eq_true, if_true, if_false, true_and]
  refine ok_is_number (t := .b "int") rfl ?_
  simp only [Jbv, initE, Jcs, Jce, Jbl, Jbm, Jc0, Jcn, Jco, Jc6, Jck, Jbn, Jcu, Jbo, Jbu, Jd6, Jd7, Jd5, Jd8, Jdd, Jda, Jdb, Jd9, Jc3, Jc8, Jd0, Jcz, Jc7, Jch, Jcy, Jcx, Jcb, Jbs, Jcw, Jcg, Jbk, Jcj, Jc5, Jbj, Jci, Jcf, Jd2, Jd1, Jd4, Jbp, Jcd, Jcm, Jc2, Jct, Jcc, Jbq, Jcp, Jcv, Jdf, Jdg, Jc9, Jcq, Jcr, Jc4, Jbr, Jc1, Jbx, Jca, gt, st, Jbc, Jba, Jbb, Jb8, Jbi, Ja5, atI0, atI1, atI2, atI3, atI4, ixN20, ixN21, List.map_cons, List.map_nil, List.cons_append, List.nil_append, List.append_nil, List.length_cons, List.length_nil, List.replicate_succ, List.replicate_zero, Nat.add_one_sub_one, Jd3, Jbt, Jby, Jbz, Jbw, Jaf, Jah, Jai, Jag, Jb7, Jaw, Jax, Jal, Jav, Jb4, Jau, Jat, Jan, Jam, Jb2, Jaj, Jak, Jb0, Jb1, Jaq, Jb3, Jar, Jas, Jao, Jap, Jb6, Jb5, Ja8, Ja9, Jad, Jac, Ja0, Jaa, Jab, Jbg, Jbh, Ja7, Jae, Jbd, Jbf, Jbe, Jb9, Ja2, Ja1, Ja4, Ja3, Jay, Jaz, decide_true, decide_false, Bool.not_true, Bool.not_false, Bool.false_eq_true, if_true, if_false, true_and, numD]
  refine ok_is_number (t := .b "int") rfl ?_
  simp only [Jbv, initE, Jcs, Jce, Jbl, Jbm, Jc0, Jcn, Jco, Jc6, Jck, Jbn, Jcu, Jbo, Jbu, Jd6, Jd7, Jd5, Jd8, Jdd, Jda, Jdb, Jd9, Jc3, Jc8, Jd0, Jcz, Jc7, Jch, Jcy, Jcx, Jcb, Jbs, Jcw, Jcg, Jbk, Jcj, Jc5, Jbj, Jci, Jcf, Jd2, Jd1, Jd4, Jbp, Jcd, Jcm, Jc2, Jct, Jcc, Jbq, Jcp, Jcv, Jdf, Jdg, Jc9, Jcq, Jcr, Jc4, Jbr, Jc1, Jbx, Jca, gt, st, Jbc, Jba, Jbb, Jb8, Jbi, Ja5, atI0, atI1, atI2, atI3, atI4, ixN20, ixN21, List.map_cons, List.map_nil, List.cons_append, List.nil_append, List.append_nil, List.length_cons, List.length_nil, List.replicate_succ, List.replicate_zero, Nat.add_one_sub_one, Jd3, Jbt, Jby, Jbz, Jbw, Jaf, Jah, Jai, Jag, Jb7, Jaw, Jax, Jal, Jav, Jb4, Jau, Jat, Jan, Jam, Jb2, Jaj, Jak, Jb0, Jb1, Jaq, Jb3, Jar, Jas, Jao, Jap, Jb6, Jb5, Ja8, Ja9, Jad, Jac, Ja0, Jaa, Jab, Jbg, Jbh, Ja7, Jae, Jbd, Jbf, Jbe, Jb9, Ja2, Ja1, Ja4, Ja3, Jay, Jaz, decide_true, decide_false, Bool.not_true, Bool.not_false, Bool.false_eq_true, if_true, if_false, true_and, numD, progD, progE, asObj, fldD]
  refine ⟨by rw [List.length_map]; omega, for_inv (fun i e μ' => μ' = μ ∧ ∃ x, e = [some (progD ss), some (.int (acts (ss.take i) (u, v)).1), some (.int (acts (ss.take i) (u, v)).2), x]) ⟨rfl, _, rfl⟩ ?_ ?_⟩
  · rintro i x e μ' N hx ⟨rfl, y, rfl⟩ hN
    obtain ⟨s, h1, rfl⟩ := map_get hx
    have hf := acts_fit (ss.take i) b (u, v) (by omega) (fun t ht => hs t (List.mem_of_mem_take ht)) ⟨hu, hv⟩
    have hmo := bits_mono C (ss.take i) b
    have ht := bits_take C ss i b
    have h4 := big_two hm2 hb2
    refine ⟨trivial, ?_⟩
    simp only [Jbv, initE, Jcs, Jce, Jbl, Jbm, Jc0, Jcn, Jco, Jc6, Jck, Jbn, Jcu, Jbo, Jbu, Jd6, Jd7, Jd5, Jd8, Jdd, Jda, Jdb, Jd9, Jc3, Jc8, Jd0, Jcz, Jc7, Jch, Jcy, Jcx, Jcb, Jbs, Jcw, Jcg, Jbk, Jcj, Jc5, Jbj, Jci, Jcf, Jd2, Jd1, Jd4, Jbp, Jcd, Jcm, Jc2, Jct, Jcc, Jbq, Jcp, Jcv, Jdf, Jdg, Jc9, Jcq, Jcr, Jc4, Jbr, Jc1, Jbx, Jca, gt, st, Jbc, Jba, Jbb, Jb8, Jbi, Ja5, atI0, atI1, atI2, atI3, atI4, ixN20, ixN21, List.map_cons, List.map_nil, List.cons_append, List.nil_append, List.append_nil, List.length_cons, List.length_nil, List.replicate_succ, List.replicate_zero, Nat.add_one_sub_one, Jd3, Jbt, Jby, Jbz, Jbw, Jaf, Jah, Jai, Jag, Jb7, Jaw, Jax, Jal, Jav, Jb4, Jau, Jat, Jan, Jam, Jb2, Jaj, Jak, Jb0, Jb1, Jaq, Jb3, Jar, Jas, Jao, Jap, Jb6, Jb5, Ja8, Ja9, Jad, Jac, Ja0, Jaa, Jab, Jbg, Jbh, Ja7, Jae, Jbd, Jbf, Jbe, Jb9, Ja2, Ja1, Ja4, Ja3, Jay, Jaz, decide_true, decide_false, Bool.not_true, Bool.not_false, Bool.false_eq_true, if_true, if_false, true_and]
    refine ok_done (b := bits C (ss.take i) b) (by omega) (big_le ht (hm s (List.mem_of_getElem? h1)) hb2) (by omega) (hs s (List.mem_of_getElem? h1)) hf.1 hf.2 ?_
    simp only [Jbv, initE, Jcs, Jce, Jbl, Jbm, Jc0, Jcn, Jco, Jc6, Jck, Jbn, Jcu, Jbo, Jbu, Jd6, Jd7, Jd5, Jd8, Jdd, Jda, Jdb, Jd9, Jc3, Jc8, Jd0, Jcz, Jc7, Jch, Jcy, Jcx, Jcb, Jbs, Jcw, Jcg, Jbk, Jcj, Jc5, Jbj, Jci, Jcf, Jd2, Jd1, Jd4, Jbp, Jcd, Jcm, Jc2, Jct, Jcc, Jbq, Jcp, Jcv, Jdf, Jdg, Jc9, Jcq, Jcr, Jc4, Jbr, Jc1, Jbx, Jca, gt, st, Jbc, Jba, Jbb, Jb8, Jbi, Ja5, atI0, atI1, atI2, atI3, atI4, ixN20, ixN21, List.map_cons, List.map_nil, List.cons_append, List.nil_append, List.append_nil, List.length_cons, List.length_nil, List.replicate_succ, List.replicate_zero, Nat.add_one_sub_one, Jd3, Jbt, Jby, Jbz, Jbw, Jaf, Jah, Jai, Jag, Jb7, Jaw, Jax, Jal, Jav, Jb4, Jau, Jat, Jan, Jam, Jb2, Jaj, Jak, Jb0, Jb1, Jaq, Jb3, Jar, Jas, Jao, Jap, Jb6, Jb5, Ja8, Ja9, Jad, Jac, Ja0, Jaa, Jab, Jbg, Jbh, Ja7, Jae, Jbd, Jbf, Jbe, Jb9, Ja2, Ja1, Ja4, Ja3, Jay, Jaz, decide_true, decide_false, Bool.not_true, Bool.not_false, Bool.false_eq_true, if_true, if_false, true_and]
    refine hN _ _ ⟨rfl, some s.p, ?_⟩
    rw [acts_take ss i s _ h1]
  · rintro e μ' ⟨rfl, y, rfl⟩
    refine ⟨trivial, ?_⟩
    simp only [Jbv, initE, Jcs, Jce, Jbl, Jbm, Jc0, Jcn, Jco, Jc6, Jck, Jbn, Jcu, Jbo, Jbu, Jd6, Jd7, Jd5, Jd8, Jdd, Jda, Jdb, Jd9, Jc3, Jc8, Jd0, Jcz, Jc7, Jch, Jcy, Jcx, Jcb, Jbs, Jcw, Jcg, Jbk, Jcj, Jc5, Jbj, Jci, Jcf, Jd2, Jd1, Jd4, Jbp, Jcd, Jcm, Jc2, Jct, Jcc, Jbq, Jcp, Jcv, Jdf, Jdg, Jc9, Jcq, Jcr, Jc4, Jbr, Jc1, Jbx, Jca, gt, st, Jbc, Jba, Jbb, Jb8, Jbi, Ja5, atI0, atI1, atI2, atI3, atI4, ixN20, ixN21, List.map_cons, List.map_nil, List.cons_append, List.nil_append, List.append_nil, List.length_cons, List.length_nil, List.replicate_succ, List.replicate_zero, Nat.add_one_sub_one, Jd3, Jbt, Jby, Jbz, Jbw, Jaf, Jah, Jai, Jag, Jb7, Jaw, Jax, Jal, Jav, Jb4, Jau, Jat, Jan, Jam, Jb2, Jaj, Jak, Jb0, Jb1, Jaq, Jb3, Jar, Jas, Jao, Jap, Jb6, Jb5, Ja8, Ja9, Jad, Jac, Ja0, Jaa, Jab, Jbg, Jbh, Ja7, Jae, Jbd, Jbf, Jbe, Jb9, Ja2, Ja1, Ja4, Ja3, Jay, Jaz, decide_true, decide_false, Bool.not_true, Bool.not_false, Bool.false_eq_true, if_true, if_false, true_and, List.length_map, List.take_length]
    exact ⟨by simp [sizeLine_eq], q⟩
/-! ### back -/
def Stp.inv : Stp → Stp
  | .x ns => .x (ns.map fun n => 0 - n)
  | .y ns => .y (ns.map fun n => 0 - n)
  | .move s t => .move (0 - s) (0 - t)
  | .turn a b c d => .turn ((a * d - b * c) * d) (0 - (a * d - b * c) * b) (0 - (a * d - b * c) * c) ((a * d - b * c) * a)
theorem ev_neg (t : Int) : ∀ ns : List Int, M.ev (ns.map fun n => 0 - n) t = 0 - M.ev ns t
  | [] => rfl
  | n :: ns => by
    have e : ∀ (m : Int) (l : List Int), M.ev (m :: l) t = m + t * M.ev l t := fun _ _ => rfl
    rw [List.map_cons, e, e, ev_neg t ns, Int.mul_sub, Int.mul_zero]
    omega
end
end DL

set_option Elab.async false
set_option linter.all false
set_option maxRecDepth 100000
set_option maxHeartbeats 4000000
/-! P13: programs undone, joined, repeated. -/
namespace DL
open PySem L2
theorem turn_back (e a b c d u v : Int) (he : e = a * d - b * c) (h1 : e * e = 1) : (e * d * (a * u + b * v) + (0 - e * b) * (c * u + d * v) = u) ∧ ((0 - e * c) * (a * u + b * v) + e * a * (c * u + d * v) = v) := by
  have k1 : e * d * (a * u + b * v) + (0 - e * b) * (c * u + d * v) = e * (a * d - b * c) * u := by
    simp only [Int.mul_add, Int.sub_mul, Int.mul_sub, Int.zero_mul, Int.mul_assoc]
    rw [show e * (d * (b * v)) = e * (b * (d * v)) by rw [Int.mul_left_comm d b v], show e * (d * (a * u)) = e * (a * (d * u)) by rw [Int.mul_left_comm d a u]]
    omega
  have k2 : (0 - e * c) * (a * u + b * v) + e * a * (c * u + d * v) = e * (a * d - b * c) * v := by
    simp only [Int.mul_add, Int.sub_mul, Int.mul_sub, Int.zero_mul, Int.mul_assoc]
    rw [show e * (c * (a * u)) = e * (a * (c * u)) by rw [Int.mul_left_comm c a u], show e * (c * (b * v)) = e * (b * (c * v)) by rw [Int.mul_left_comm c b v]]
    omega
  rw [k1, k2, ← he, h1, Int.one_mul, Int.one_mul]
  exact ⟨rfl, rfl⟩
theorem act_inv {B : Nat} {s : Stp} (h : s.Ok B) (p : Int × Int) : s.inv.act (s.act p) = p := by
  obtain ⟨u, v⟩ := p
  cases s with
  | x ns =>
    simp only [Stp.act, Stp.inv, ev_neg]
    congr 1
    omega
  | y ns =>
    simp only [Stp.act, Stp.inv, ev_neg]
    congr 1
    omega
  | move s t =>
    simp only [Stp.act, Stp.inv]
    congr 1 <;> omega
  | turn a b c d =>
    have hs : a * d - b * c = 1 ∨ a * d - b * c = -1 := h.1
    have h1 : (a * d - b * c) * (a * d - b * c) = 1 := by
      rcases hs with z | z <;> rw [z] <;> rfl
    obtain ⟨k1, k2⟩ := turn_back _ a b c d u v rfl h1
    simp only [Stp.act, Stp.inv]
    rw [k1, k2]
section
variable {μ : Mu} {Q X : QD} {d : D} {B : Nat}
/-- a program run backwards -/
def back (ss : List Stp) : List Stp := ss.reverse.map Stp.inv
/-- so many passes -/
def many (ss : List Stp) (n : Nat) : List Stp := (List.replicate n ss).flatten
theorem acts_app : ∀ (ss tt : List Stp) (p : Int × Int), acts (ss ++ tt) p = acts tt (acts ss p)
  | [], _, _ => rfl
  | s :: ss, tt, p => acts_app ss tt (s.act p)
theorem back_cons (s : Stp) (ss : List Stp) : back (s :: ss) = back ss ++ [s.inv] := by simp [back]
theorem acts_back : ∀ (ss : List Stp) (p : Int × Int), (∀ s ∈ ss, s.Ok B) → acts (back ss) (acts ss p) = p
  | [], _, _ => rfl
  | s :: ss, p, h => by
    rw [back_cons, acts_app, show acts (s :: ss) p = acts ss (s.act p) from rfl, acts_back ss _ fun t ht => h t (List.mem_cons_of_mem _ ht)]
    exact act_inv (h s List.mem_cons_self) p
end
end DL

set_option Elab.async false
set_option linter.all false
set_option maxRecDepth 100000
set_option maxHeartbeats 4000000
/-! W0: words (parts of a plain program, its end), led on step by step. -/
namespace DL
open PySem L2
/-- stk: the parts, the last one first -/
structure Wrd where
  stk : List Stp
  e : Int
  n : Int
  s : Int
  f : Int
  t : Int
def Wrd.one : Wrd := ⟨[], 1, 0, 0, 1, 0⟩
def Wrd.fin (w : Wrd) : Int × Int → Int × Int := fun p => (w.e * p.1 + w.n * p.2 + w.s, w.f * p.2 + w.t)
/-! ### rows -/
def innerR (t f : Int) (ns : List Int) : List Int := M.trim (M.comp ns (M.trim [t, f]))
def moreR (e : Int) (r : List Int) : List Int := M.trim ((M.trim (0 :: 0 :: r.drop 2)).map fun x => e * x)
/-- two zeros ahead, and something else behind -/
def Hi (r : List Int) : Prop := M.trim r = r ∧ ∃ k, k ≠ [] ∧ r = 0 :: 0 :: k
/-! ### bends -/
def pushX (m : List Int) (k : List Stp) : List Stp := if m.length ≤ 1 then k else match k with
  | .x r :: k => if (M.trim (M.addS 1 r m)).length ≤ 1 then k else .x (M.trim (M.addS 1 r m)) :: k
  | k => .x m :: k
def Wrd.bend (ns : List Int) (w : Wrd) : Wrd := ⟨pushX (moreR w.e (innerR w.t w.f ns)) w.stk, w.e, w.n + (innerR w.t w.f ns).getD 1 0, w.s + (innerR w.t w.f ns).getD 0 0, w.f, w.t⟩
/-- a part -/
def PartP : Stp → Prop
  | .x r => Hi r
  | .turn a b c d => 0 ≤ a ∧ a < c ∧ a * d - b * c = 1
  | _ => False
/-- parts by turns -/
def AltS : List Stp → Prop
  | [] => True
  | [s] => PartP s
  | s :: t :: k => PartP s ∧ s.low ≠ t.low ∧ AltS (t :: k)
structure Wrd.Ok (w : Wrd) : Prop where
  alt : AltS w.stk
  e1 : w.e = 1 ∨ w.e = -1
  f1 : w.f = 1 ∨ w.f = -1
theorem AltS.head : ∀ {k : List Stp} {s : Stp}, AltS (s :: k) → PartP s
  | [], _, h => h
  | _ :: _, _, h => h.1
theorem AltS.tail : ∀ {k : List Stp} {s : Stp}, AltS (s :: k) → AltS k
  | [], _, _ => True.intro
  | _ :: _, _, h => h.2.2
/-! ### moves -/
def Wrd.move (s t : Int) (w : Wrd) : Wrd := ⟨w.stk, w.e, w.n, w.s + s, w.f, w.t + t⟩
/-! ### turns -/
def sg (c : Int) : Int := if 0 < c then 1 else -1
/-- the parts and the end behind a turn that is mixed with what stood -/
def Wrd.put (k : List Stp) (a b c d s t : Int) : Wrd := if c = 0 then ⟨k, a, b, s, d, t⟩ else
  let size := sg c * c
  let low := sg c * d
  let turned := (a * d - b * c) * sg c
  let high := (turned * a) % size
  ⟨.turn high ((high * low - 1) / size) size low :: k, turned, (a - turned * high) / size, s, sg c, t⟩
def Wrd.turn (a b c d : Int) (w : Wrd) : Wrd :=
  let a1 := a * w.e
  let b1 := a * w.n + b * w.f
  let c1 := c * w.e
  let d1 := c * w.n + d * w.f
  let s1 := a * w.s + b * w.t
  let t1 := c * w.s + d * w.t
  match w.stk with
  | .turn i j k m :: r => if c1 = 0 then Wrd.put w.stk a1 b1 c1 d1 s1 t1 else Wrd.put r (a1 * i + b1 * k) (a1 * j + b1 * m) (c1 * i + d1 * k) (c1 * j + d1 * m) s1 t1
  | r => Wrd.put r a1 b1 c1 d1 s1 t1
/-! ### steps -/
def Wrd.step (w : Wrd) : Stp → Wrd
  | .x ns => w.bend ns
  | .y ns => ((w.turn 0 1 1 0).bend ns).turn 0 1 1 0
  | .move s t => w.move s t
  | .turn a b c d => w.turn a b c d
def Wrd.steps (w : Wrd) : List Stp → Wrd
  | [] => w
  | s :: ss => (w.step s).steps ss
/-- a turn is one -/
def Stp.Det : Stp → Prop
  | .turn a b c d => det1 a b c d
  | _ => True
theorem Stp.Ok.det {s : Stp} {B : Nat} (h : s.Ok B) : s.Det := by
  cases s with
  | turn a b c d => exact h.1
  | _ => trivial
/-- the steps of the plain program -/
def Wrd.out (w : Wrd) : List Stp := w.stk.reverse ++ [.turn w.e w.n 0 w.f, .move w.s w.t]
/-! ### a plain program is led to itself -/
end DL

set_option Elab.async false
set_option linter.all false
set_option maxRecDepth 100000
set_option maxHeartbeats 4000000
/-! W1: rows added, multiplied, put behind rows. -/
namespace DL
open PySem L2
section
variable {μ : Mu} {Q X : QD} {d : D} {QQ : QR}
/-- a row that stays as it is -/
def RowD (d : D) (ns : List Int) : Prop := d = .tup (iL ns) ∨ d = .list (iL ns)
theorem RowD.ok {ns : List Int} (h : RowD d ns) (ds : List D) (μ : Mu) : okS d ds μ := by rcases h with rfl | rfl <;> trivial
end
end DL

set_option Elab.async false
set_option linter.all false
set_option maxRecDepth 100000
set_option maxHeartbeats 4000000
/-! K26a: plain programs judged, by the package and by the laws. -/
namespace DL
open PySem L2
def wp_need_program : WP := (wDef 1 1 (wIfS (wNotT (wTst (wCb false cbIsi (waCons (wV 0) (waCons (wK (.cls "Program")) waNil))))) (wRzA "BadProgram" "at" (wK .none)) wNext))
def wp_is_bend : WP := (wDef 1 1 (wRet (wAnd (wOp false oEq (wOp false oIx (wV 0) (wK (.int 0))) (wK (.str "x"))) (wAnd (wOp false oGt (wProp "Rule" "degree" wp_Rule_degree (wOp false oIx (wV 0) (wK (.int 1)))) (wK (.int 1))) (wAnd (wOp false oEq (wOp false (oOwnIx "Rule" wp_Rule___getitem__) (wOp false oIx (wV 0) (wK (.int 1))) (wK (.int 0))) (wK (.int 0))) (wOp false oEq (wOp false (oOwnIx "Rule" wp_Rule___getitem__) (wOp false oIx (wV 0) (wK (.int 1))) (wK (.int 1))) (wK (.int 0))))))))
def wp_is_quarter : WP := (wDef 1 1 (wRet (wAnd (wOp false oEq (wOp false oIx (wV 0) (wK (.int 0))) (wK (.str "turn"))) (wAnd (wChain (fun i j => decide (i ≤ j)) (fun i j => decide (i < j)) (wK (.int 0)) (wOp false oIx (wV 0) (wK (.int 1))) (wOp false oIx (wV 0) (wK (.int 3)))) (wOp false oEq (wOp false oSub (wOp false oMul (wOp false oIx (wV 0) (wK (.int 1))) (wOp false oIx (wV 0) (wK (.int 4)))) (wOp false oMul (wOp false oIx (wV 0) (wK (.int 2))) (wOp false oIx (wV 0) (wK (.int 3))))) (wK (.int 1)))))))
def wp_is_plain : WP := (wDef 1 6 (wSeq (wDrop (wCall wp_need_program [] (waCons (wV 0) waNil)))
    (wSeq (wAsg 1 (wFld "Program" "own_steps" (wV 0)))
    (wSeq (wIfS (wOrT (wTst (wOp false oLt (wCb false cbLen (waCons (wV 1) waNil)) (wK (.int 2)))) (wOrT (wTst (wOp false oNe (wOp false oIx (wOp false oIx (wV 1) (wUn false oNeg (wK (.int 1)))) (wK (.int 0))) (wK (.str "move")))) (wOrT (wTst (wOp false oNe (wOp false oIx (wOp false oIx (wV 1) (wUn false oNeg (wK (.int 2)))) (wK (.int 0))) (wK (.str "turn")))) (wTst (wOp false oNe (wOp false oIx (wOp false oIx (wV 1) (wUn false oNeg (wK (.int 2)))) (wK (.int 3))) (wK (.int 0))))))) (wRet (wK (.bool false))) wNext)
    (wSeq (wAsg 2 (wSl false oSl (wV 1) woNone (woSome (wUn false oNeg (wK (.int 2))))))
    (wSeq (wIfS (wNotT (wTst (wCb false cbAll (waCons (wLc false (wiSeq (wV 2)) (wgN 3) wYes (wOr (wCall wp_is_bend [] (waCons (wV 3) waNil)) (wCall wp_is_quarter [] (waCons (wV 3) waNil))) [3]) waNil)))) (wRet (wK (.bool false))) wNext)
    (wRet (wCb false cbAll (waCons (wLc false (wiZip (waCons (wV 2) (waCons (wSl false oSl (wV 2) (woSome (wK (.int 1))) woNone) waNil))) (wgTup 2 (wgCons (wgN 4) (wgCons (wgN 5) wgNil))) wYes (wOp false oNe (wOp false oIx (wV 4) (wK (.int 0))) (wOp false oIx (wV 5) (wK (.int 0)))) [4, 5]) waNil)))))))))
def bendB : Stp → Bool
  | .x ns => decide (2 < ns.length) && (decide (ns.getD 0 0 = 0) && decide (ns.getD 1 0 = 0))
  | _ => false
def quarB : Stp → Bool
  | .turn a b c d => decide (0 ≤ a) && (decide (a < c) && decide (a * d - b * c = 1))
  | _ => false
def Stp.word : Stp → Str
  | .x _ => "x"
  | .y _ => "y"
  | .move _ _ => "move"
  | .turn _ _ _ _ => "turn"
def endB : Stp → Stp → Bool
  | .turn _ _ c _, .move _ _ => decide (c = 0)
  | _, _ => false
def AltN (ps : List Stp) (k : Nat) : Prop := ∀ i s t, i < k → ps[i]? = some s → ps[i + 1]? = some t → s.word ≠ t.word
def PlainP (ss : List Stp) : Prop := ∃ ps t m, ss = ps ++ [t, m] ∧ endB t m = true ∧ (∀ s ∈ ps, (bendB s || quarB s) = true) ∧ AltN ps ps.length
section
variable {μ : Mu} {Q X : QD} {d : D} {B : Nat}
theorem ok_need_program {ds : List D} (q : Q .none μ) : wp_need_program [progE ds] μ Q X := by
  unfold wp_need_program
  simp only [Jbv, initE, Jcs, Jce, Jbl, Jbm, Jc0, Jcn, Jco, Jc6, Jck, Jbn, Jcu, Jbo, Jbu, Jd6, Jd7, Jd5, Jd8, Jdd, Jda, Jdb, Jd9, Jc3, Jc8, Jd0, Jcz, Jc7, Jch, Jcy, Jcx, Jcb, Jbs, Jcw, Jcg, Jbk, Jcj, Jc5, Jbj, Jci, Jcf, Jd2, Jd1, Jd4, Jbp, Jcd, Jcm, Jc2, Jct, Jcc, Jbq, Jcp, Jcv, Jdf, Jdg, Jc9, Jcq, Jcr, Jc4, Jbr, Jc1, Jbx, Jca, gt, st, Jbc, Jba, Jbb, Jb8, Jbi, Ja5, atI0, atI1, atI2, atI3, atI4, ixN20, ixN21, List.map_cons, List.map_nil, List.cons_append, List.nil_append, List.append_nil, List.length_cons, List.length_nil, List.replicate_succ, List.replicate_zero, Nat.add_one_sub_one, Jd3, Jbt, Jby, Jbz, Jbw, Jaf, Jah, Jai, Jag, Jb7, Jaw, Jax, Jal, Jav, Jb4, Jau, Jat, Jan, Jam, Jb2, Jaj, Jak, Jb0, Jb1, Jaq, Jb3, Jar, Jas, Jao, Jap, Jb6, Jb5, Ja8, Ja9, Jad, Jac, Ja0, Jaa, Jab, Jbg, Jbh, Ja7, Jae, Jbd, Jbf, Jbe, Jb9, Ja2, Ja1, Ja4, Ja3, Jay, Jaz, decide_true, decide_false, Bool.not_true, Bool.not_false, Bool.false_eq_true, if_true, if_false, true_and, cbIsi, progE, tyD]
  exact q
theorem get_nat {ns : List Int} {j : Nat} (q : Q (.int (ns.getD j 0)) μ) : wp_Rule___getitem__ [ruleD ns, .int (j : Int)] μ Q X := by
  refine ok_Rule_getitem (t := .b "int") rfl (fun i hi => ?_) fun z => ?_
  · have e : (j : Int) = (i : Int) := D.int.inj hi
    rw [← Int.ofNat.inj e]
    exact q
  · exact absurd z (by simp [fromD])
theorem gt1 (n : Nat) : decide ((1 : Int) < (n : Int) - 1) = decide (2 < n) := by
  rw [decide_eq_decide]
  omega
theorem ok_is_bend {s : Stp} (q : Q (.bool (bendB s)) μ) : wp_is_bend [s.p] μ Q X := by
  unfold wp_is_bend
  cases s with
  | x ns =>
    simp only [Jbv, initE, Jcs, Jce, Jbl, Jbm, Jc0, Jcn, Jco, Jc6, Jck, Jbn, Jcu, Jbo, Jbu, Jd6, Jd7, Jd5, Jd8, Jdd, Jda, Jdb, Jd9, Jc3, Jc8, Jd0, Jcz, Jc7, Jch, Jcy, Jcx, Jcb, Jbs, Jcw, Jcg, Jbk, Jcj, Jc5, Jbj, Jci, Jcf, Jd2, Jd1, Jd4, Jbp, Jcd, Jcm, Jc2, Jct, Jcc, Jbq, Jcp, Jcv, Jdf, Jdg, Jc9, Jcq, Jcr, Jc4, Jbr, Jc1, Jbx, Jca, gt, st, Jbc, Jba, Jbb, Jb8, Jbi, Ja5, atI0, atI1, atI2, atI3, atI4, ixN20, ixN21, List.map_cons, List.map_nil, List.cons_append, List.nil_append, List.append_nil, List.length_cons, List.length_nil, List.replicate_succ, List.replicate_zero, Nat.add_one_sub_one, Jd3, Jbt, Jby, Jbz, Jbw, Jaf, Jah, Jai, Jag, Jb7, Jaw, Jax, Jal, Jav, Jb4, Jau, Jat, Jan, Jam, Jb2, Jaj, Jak, Jb0, Jb1, Jaq, Jb3, Jar, Jas, Jao, Jap, Jb6, Jb5, Ja8, Ja9, Jad, Jac, Ja0, Jaa, Jab, Jbg, Jbh, Ja7, Jae, Jbd, Jbf, Jbe, Jb9, Ja2, Ja1, Ja4, Ja3, Jay, Jaz, decide_true, decide_false, Bool.not_true, Bool.not_false, Bool.false_eq_true, if_true, if_false, true_and, Stp.p, isOf, asObj, ruleD]
    refine ⟨by decide, ok_Rule_degree ?_⟩
    simp only [Jbv, initE, Jcs, Jce, Jbl, Jbm, Jc0, Jcn, Jco, Jc6, Jck, Jbn, Jcu, Jbo, Jbu, Jd6, Jd7, Jd5, Jd8, Jdd, Jda, Jdb, Jd9, Jc3, Jc8, Jd0, Jcz, Jc7, Jch, Jcy, Jcx, Jcb, Jbs, Jcw, Jcg, Jbk, Jcj, Jc5, Jbj, Jci, Jcf, Jd2, Jd1, Jd4, Jbp, Jcd, Jcm, Jc2, Jct, Jcc, Jbq, Jcp, Jcv, Jdf, Jdg, Jc9, Jcq, Jcr, Jc4, Jbr, Jc1, Jbx, Jca, gt, st, Jbc, Jba, Jbb, Jb8, Jbi, Ja5, atI0, atI1, atI2, atI3, atI4, ixN20, ixN21, List.map_cons, List.map_nil, List.cons_append, List.nil_append, List.append_nil, List.length_cons, List.length_nil, List.replicate_succ, List.replicate_zero, Nat.add_one_sub_one, Jd3, Jbt, Jby, Jbz, Jbw, Jaf, Jah, Jai, Jag, Jb7, Jaw, Jax, Jal, Jav, Jb4, Jau, Jat, Jan, Jam, Jb2, Jaj, Jak, Jb0, Jb1, Jaq, Jb3, Jar, Jas, Jao, Jap, Jb6, Jb5, Ja8, Ja9, Jad, Jac, Ja0, Jaa, Jab, Jbg, Jbh, Ja7, Jae, Jbd, Jbf, Jbe, Jb9, Ja2, Ja1, Ja4, Ja3, Jay, Jaz, decide_true, decide_false, Bool.not_true, Bool.not_false, Bool.false_eq_true, if_true, if_false, true_and, gt1]
    simp only [bendB] at q
    by_cases h1 : 2 < ns.length
    · rw [if_pos (decide_eq_true h1)]
      rw [decide_eq_true h1, Bool.true_and] at q
      refine ⟨rfl, get_nat (j := 0) ?_⟩
      simp only [Jbv, initE, Jcs, Jce, Jbl, Jbm, Jc0, Jcn, Jco, Jc6, Jck, Jbn, Jcu, Jbo, Jbu, Jd6, Jd7, Jd5, Jd8, Jdd, Jda, Jdb, Jd9, Jc3, Jc8, Jd0, Jcz, Jc7, Jch, Jcy, Jcx, Jcb, Jbs, Jcw, Jcg, Jbk, Jcj, Jc5, Jbj, Jci, Jcf, Jd2, Jd1, Jd4, Jbp, Jcd, Jcm, Jc2, Jct, Jcc, Jbq, Jcp, Jcv, Jdf, Jdg, Jc9, Jcq, Jcr, Jc4, Jbr, Jc1, Jbx, Jca, gt, st, Jbc, Jba, Jbb, Jb8, Jbi, Ja5, atI0, atI1, atI2, atI3, atI4, ixN20, ixN21, List.map_cons, List.map_nil, List.cons_append, List.nil_append, List.append_nil, List.length_cons, List.length_nil, List.replicate_succ, List.replicate_zero, Nat.add_one_sub_one, Jd3, Jbt, Jby, Jbz, Jbw, Jaf, Jah, Jai, Jag, Jb7, Jaw, Jax, Jal, Jav, Jb4, Jau, Jat, Jan, Jam, Jb2, Jaj, Jak, Jb0, Jb1, Jaq, Jb3, Jar, Jas, Jao, Jap, Jb6, Jb5, Ja8, Ja9, Jad, Jac, Ja0, Jaa, Jab, Jbg, Jbh, Ja7, Jae, Jbd, Jbf, Jbe, Jb9, Ja2, Ja1, Ja4, Ja3, Jay, Jaz, decide_true, decide_false, Bool.not_true, Bool.not_false, Bool.false_eq_true, if_true, if_false, true_and, vR]
      by_cases h2 : ns.getD 0 0 = 0
      · rw [if_pos (decide_eq_true h2)]
        rw [decide_eq_true h2, Bool.true_and] at q
        refine ⟨rfl, get_nat (j := 1) ?_⟩
        simp only [Jbv, initE, Jcs, Jce, Jbl, Jbm, Jc0, Jcn, Jco, Jc6, Jck, Jbn, Jcu, Jbo, Jbu, Jd6, Jd7, Jd5, Jd8, Jdd, Jda, Jdb, Jd9, Jc3, Jc8, Jd0, Jcz, Jc7, Jch, Jcy, Jcx, Jcb, Jbs, Jcw, Jcg, Jbk, Jcj, Jc5, Jbj, Jci, Jcf, Jd2, Jd1, Jd4, Jbp, Jcd, Jcm, Jc2, Jct, Jcc, Jbq, Jcp, Jcv, Jdf, Jdg, Jc9, Jcq, Jcr, Jc4, Jbr, Jc1, Jbx, Jca, gt, st, Jbc, Jba, Jbb, Jb8, Jbi, Ja5, atI0, atI1, atI2, atI3, atI4, ixN20, ixN21, List.map_cons, List.map_nil, List.cons_append, List.nil_append, List.append_nil, List.length_cons, List.length_nil, List.replicate_succ, List.replicate_zero, Nat.add_one_sub_one, Jd3, Jbt, Jby, Jbz, Jbw, Jaf, Jah, Jai, Jag, Jb7, Jaw, Jax, Jal, Jav, Jb4, Jau, Jat, Jan, Jam, Jb2, Jaj, Jak, Jb0, Jb1, Jaq, Jb3, Jar, Jas, Jao, Jap, Jb6, Jb5, Ja8, Ja9, Jad, Jac, Ja0, Jaa, Jab, Jbg, Jbh, Ja7, Jae, Jbd, Jbf, Jbe, Jb9, Ja2, Ja1, Ja4, Ja3, Jay, Jaz, decide_true, decide_false, Bool.not_true, Bool.not_false, Bool.false_eq_true, if_true, if_false, true_and, vR]
        exact q
      · rw [if_neg (by simpa using h2)]
        rw [decide_eq_false h2, Bool.false_and] at q
        exact q
    · rw [if_neg (by simpa using h1)]
      rw [decide_eq_false h1, Bool.false_and] at q
      exact q
  | y ns => simp only [Jbv, initE, Jcs, Jce, Jbl, Jbm, Jc0, Jcn, Jco, Jc6, Jck, Jbn, Jcu, Jbo, Jbu, Jd6, Jd7, Jd5, Jd8, Jdd, Jda, Jdb, Jd9, Jc3, Jc8, Jd0, Jcz, Jc7, Jch, Jcy, Jcx, Jcb, Jbs, Jcw, Jcg, Jbk, Jcj, Jc5, Jbj, Jci, Jcf, Jd2, Jd1, Jd4, Jbp, Jcd, Jcm, Jc2, Jct, Jcc, Jbq, Jcp, Jcv, Jdf, Jdg, Jc9, Jcq, Jcr, Jc4, Jbr, Jc1, Jbx, Jca, gt, st, Jbc, Jba, Jbb, Jb8, Jbi, Ja5, atI0, atI1, atI2, atI3, atI4, ixN20, ixN21, List.map_cons, List.map_nil, List.cons_append, List.nil_append, List.append_nil, List.length_cons, List.length_nil, List.replicate_succ, List.replicate_zero, Nat.add_one_sub_one, Jd3, Jbt, Jby, Jbz, Jbw, Jaf, Jah, Jai, Jag, Jb7, Jaw, Jax, Jal, Jav, Jb4, Jau, Jat, Jan, Jam, Jb2, Jaj, Jak, Jb0, Jb1, Jaq, Jb3, Jar, Jas, Jao, Jap, Jb6, Jb5, Ja8, Ja9, Jad, Jac, Ja0, Jaa, Jab, Jbg, Jbh, Ja7, Jae, Jbd, Jbf, Jbe, Jb9, Ja2, Ja1, Ja4, Ja3, Jay, Jaz, decide_true, decide_false, Bool.not_true, Bool.not_false, Bool.false_eq_true, if_true, if_false, true_and, Stp.p]; exact q
  | move a b => simp only [Jbv, initE, Jcs, Jce, Jbl, Jbm, Jc0, Jcn, Jco, Jc6, Jck, Jbn, Jcu, Jbo, Jbu, Jd6, Jd7, Jd5, Jd8, Jdd, Jda, Jdb, Jd9, Jc3, Jc8, Jd0, Jcz, Jc7, Jch, Jcy, Jcx, Jcb, Jbs, Jcw, Jcg, Jbk, Jcj, Jc5, Jbj, Jci, Jcf, Jd2, Jd1, Jd4, Jbp, Jcd, Jcm, Jc2, Jct, Jcc, Jbq, Jcp, Jcv, Jdf, Jdg, Jc9, Jcq, Jcr, Jc4, Jbr, Jc1, Jbx, Jca, gt, st, Jbc, Jba, Jbb, Jb8, Jbi, Ja5, atI0, atI1, atI2, atI3, atI4, ixN20, ixN21, List.map_cons, List.map_nil, List.cons_append, List.nil_append, List.append_nil, List.length_cons, List.length_nil, List.replicate_succ, List.replicate_zero, Nat.add_one_sub_one, Jd3, Jbt, Jby, Jbz, Jbw, Jaf, Jah, Jai, Jag, Jb7, Jaw, Jax, Jal, Jav, Jb4, Jau, Jat, Jan, Jam, Jb2, Jaj, Jak, Jb0, Jb1, Jaq, Jb3, Jar, Jas, Jao, Jap, Jb6, Jb5, Ja8, Ja9, Jad, Jac, Ja0, Jaa, Jab, Jbg, Jbh, Ja7, Jae, Jbd, Jbf, Jbe, Jb9, Ja2, Ja1, Ja4, Ja3, Jay, Jaz, decide_true, decide_false, Bool.not_true, Bool.not_false, Bool.false_eq_true, if_true, if_false, true_and, Stp.p]; exact q
  | turn a b c d => simp only [Jbv, initE, Jcs, Jce, Jbl, Jbm, Jc0, Jcn, Jco, Jc6, Jck, Jbn, Jcu, Jbo, Jbu, Jd6, Jd7, Jd5, Jd8, Jdd, Jda, Jdb, Jd9, Jc3, Jc8, Jd0, Jcz, Jc7, Jch, Jcy, Jcx, Jcb, Jbs, Jcw, Jcg, Jbk, Jcj, Jc5, Jbj, Jci, Jcf, Jd2, Jd1, Jd4, Jbp, Jcd, Jcm, Jc2, Jct, Jcc, Jbq, Jcp, Jcv, Jdf, Jdg, Jc9, Jcq, Jcr, Jc4, Jbr, Jc1, Jbx, Jca, gt, st, Jbc, Jba, Jbb, Jb8, Jbi, Ja5, atI0, atI1, atI2, atI3, atI4, ixN20, ixN21, List.map_cons, List.map_nil, List.cons_append, List.nil_append, List.append_nil, List.length_cons, List.length_nil, List.replicate_succ, List.replicate_zero, Nat.add_one_sub_one, Jd3, Jbt, Jby, Jbz, Jbw, Jaf, Jah, Jai, Jag, Jb7, Jaw, Jax, Jal, Jav, Jb4, Jau, Jat, Jan, Jam, Jb2, Jaj, Jak, Jb0, Jb1, Jaq, Jb3, Jar, Jas, Jao, Jap, Jb6, Jb5, Ja8, Ja9, Jad, Jac, Ja0, Jaa, Jab, Jbg, Jbh, Ja7, Jae, Jbd, Jbf, Jbe, Jb9, Ja2, Ja1, Ja4, Ja3, Jay, Jaz, decide_true, decide_false, Bool.not_true, Bool.not_false, Bool.false_eq_true, if_true, if_false, true_and, Stp.p]; exact q
theorem quar_end {a b c d : Int} (h : (Stp.turn a b c d).Ok HUGE) (q : Q (.bool (quarB (.turn a b c d))) μ) : if decide (0 ≤ a) = true then
    if decide (a < c) = true then CMulU a d ∧ CMulU b c ∧ Q (D.bool (decide (a * d - b * c = 1))) μ
    else Q (D.bool false) μ
  else Q (D.bool false) μ := by
  obtain ⟨_, ha, hb, hc, hd⟩ := h
  have up : ∀ {i : Int}, i.natAbs ≤ HUGE → i.natAbs ≤ HUGE := fun h => h
  simp only [quarB] at q
  by_cases h1 : 0 ≤ a
  · rw [if_pos (decide_eq_true h1)]
    rw [decide_eq_true h1, Bool.true_and] at q
    by_cases h2 : a < c
    · rw [if_pos (decide_eq_true h2)]
      rw [decide_eq_true h2, Bool.true_and] at q
      exact ⟨mulU_huge (up ha) (up hd), mulU_huge (up hb) (up hc), q⟩
    · rw [if_neg (by simpa using h2)]
      rw [decide_eq_false h2, Bool.false_and] at q
      exact q
  · rw [if_neg (by simpa using h1)]
    rw [decide_eq_false h1, Bool.false_and] at q
    exact q
theorem ok_is_quarter {s : Stp} (h : s.Ok HUGE) (q : Q (.bool (quarB s)) μ) : wp_is_quarter [s.p] μ Q X := by
  unfold wp_is_quarter
  cases s with
  | turn a b c d =>
    simp only [Jbv, initE, Jcs, Jce, Jbl, Jbm, Jc0, Jcn, Jco, Jc6, Jck, Jbn, Jcu, Jbo, Jbu, Jd6, Jd7, Jd5, Jd8, Jdd, Jda, Jdb, Jd9, Jc3, Jc8, Jd0, Jcz, Jc7, Jch, Jcy, Jcx, Jcb, Jbs, Jcw, Jcg, Jbk, Jcj, Jc5, Jbj, Jci, Jcf, Jd2, Jd1, Jd4, Jbp, Jcd, Jcm, Jc2, Jct, Jcc, Jbq, Jcp, Jcv, Jdf, Jdg, Jc9, Jcq, Jcr, Jc4, Jbr, Jc1, Jbx, Jca, gt, st, Jbc, Jba, Jbb, Jb8, Jbi, Ja5, atI0, atI1, atI2, atI3, atI4, ixN20, ixN21, List.map_cons, List.map_nil, List.cons_append, List.nil_append, List.append_nil, List.length_cons, List.length_nil, List.replicate_succ, List.replicate_zero, Nat.add_one_sub_one, Jd3, Jbt, Jby, Jbz, Jbw, Jaf, Jah, Jai, Jag, Jb7, Jaw, Jax, Jal, Jav, Jb4, Jau, Jat, Jan, Jam, Jb2, Jaj, Jak, Jb0, Jb1, Jaq, Jb3, Jar, Jas, Jao, Jap, Jb6, Jb5, Ja8, Ja9, Jad, Jac, Ja0, Jaa, Jab, Jbg, Jbh, Ja7, Jae, Jbd, Jbf, Jbe, Jb9, Ja2, Ja1, Ja4, Ja3, Jay, Jaz, decide_true, decide_false, Bool.not_true, Bool.not_false, Bool.false_eq_true, if_true, if_false, true_and, Stp.p]
    exact quar_end h q
  | x ns => simp only [Jbv, initE, Jcs, Jce, Jbl, Jbm, Jc0, Jcn, Jco, Jc6, Jck, Jbn, Jcu, Jbo, Jbu, Jd6, Jd7, Jd5, Jd8, Jdd, Jda, Jdb, Jd9, Jc3, Jc8, Jd0, Jcz, Jc7, Jch, Jcy, Jcx, Jcb, Jbs, Jcw, Jcg, Jbk, Jcj, Jc5, Jbj, Jci, Jcf, Jd2, Jd1, Jd4, Jbp, Jcd, Jcm, Jc2, Jct, Jcc, Jbq, Jcp, Jcv, Jdf, Jdg, Jc9, Jcq, Jcr, Jc4, Jbr, Jc1, Jbx, Jca, gt, st, Jbc, Jba, Jbb, Jb8, Jbi, Ja5, atI0, atI1, atI2, atI3, atI4, ixN20, ixN21, List.map_cons, List.map_nil, List.cons_append, List.nil_append, List.append_nil, List.length_cons, List.length_nil, List.replicate_succ, List.replicate_zero, Nat.add_one_sub_one, Jd3, Jbt, Jby, Jbz, Jbw, Jaf, Jah, Jai, Jag, Jb7, Jaw, Jax, Jal, Jav, Jb4, Jau, Jat, Jan, Jam, Jb2, Jaj, Jak, Jb0, Jb1, Jaq, Jb3, Jar, Jas, Jao, Jap, Jb6, Jb5, Ja8, Ja9, Jad, Jac, Ja0, Jaa, Jab, Jbg, Jbh, Ja7, Jae, Jbd, Jbf, Jbe, Jb9, Ja2, Ja1, Ja4, Ja3, Jay, Jaz, decide_true, decide_false, Bool.not_true, Bool.not_false, Bool.false_eq_true, if_true, if_false, true_and, Stp.p]; exact q
  | move a b => simp only [Jbv, initE, Jcs, Jce, Jbl, Jbm, Jc0, Jcn, Jco, Jc6, Jck, Jbn, Jcu, Jbo, Jbu, Jd6, Jd7, Jd5, Jd8, Jdd, Jda, Jdb, Jd9, Jc3, Jc8, Jd0, Jcz, Jc7, Jch, Jcy, Jcx, Jcb, Jbs, Jcw, Jcg, Jbk, Jcj, Jc5, Jbj, Jci, Jcf, Jd2, Jd1, Jd4, Jbp, Jcd, Jcm, Jc2, Jct, Jcc, Jbq, Jcp, Jcv, Jdf, Jdg, Jc9, Jcq, Jcr, Jc4, Jbr, Jc1, Jbx, Jca, gt, st, Jbc, Jba, Jbb, Jb8, Jbi, Ja5, atI0, atI1, atI2, atI3, atI4, ixN20, ixN21, List.map_cons, List.map_nil, List.cons_append, List.nil_append, List.append_nil, List.length_cons, List.length_nil, List.replicate_succ, List.replicate_zero, Nat.add_one_sub_one, Jd3, Jbt, Jby, Jbz, Jbw, Jaf, Jah, Jai, Jag, Jb7, Jaw, Jax, Jal, Jav, Jb4, Jau, Jat, Jan, Jam, Jb2, Jaj, Jak, Jb0, Jb1, Jaq, Jb3, Jar, Jas, Jao, Jap, Jb6, Jb5, Ja8, Ja9, Jad, Jac, Ja0, Jaa, Jab, Jbg, Jbh, Ja7, Jae, Jbd, Jbf, Jbe, Jb9, Ja2, Ja1, Ja4, Ja3, Jay, Jaz, decide_true, decide_false, Bool.not_true, Bool.not_false, Bool.false_eq_true, if_true, if_false, true_and, Stp.p]; exact q
  | y ns => simp only [Jbv, initE, Jcs, Jce, Jbl, Jbm, Jc0, Jcn, Jco, Jc6, Jck, Jbn, Jcu, Jbo, Jbu, Jd6, Jd7, Jd5, Jd8, Jdd, Jda, Jdb, Jd9, Jc3, Jc8, Jd0, Jcz, Jc7, Jch, Jcy, Jcx, Jcb, Jbs, Jcw, Jcg, Jbk, Jcj, Jc5, Jbj, Jci, Jcf, Jd2, Jd1, Jd4, Jbp, Jcd, Jcm, Jc2, Jct, Jcc, Jbq, Jcp, Jcv, Jdf, Jdg, Jc9, Jcq, Jcr, Jc4, Jbr, Jc1, Jbx, Jca, gt, st, Jbc, Jba, Jbb, Jb8, Jbi, Ja5, atI0, atI1, atI2, atI3, atI4, ixN20, ixN21, List.map_cons, List.map_nil, List.cons_append, List.nil_append, List.append_nil, List.length_cons, List.length_nil, List.replicate_succ, List.replicate_zero, Nat.add_one_sub_one, Jd3, Jbt, Jby, Jbz, Jbw, Jaf, Jah, Jai, Jag, Jb7, Jaw, Jax, Jal, Jav, Jb4, Jau, Jat, Jan, Jam, Jb2, Jaj, Jak, Jb0, Jb1, Jaq, Jb3, Jar, Jas, Jao, Jap, Jb6, Jb5, Ja8, Ja9, Jad, Jac, Ja0, Jaa, Jab, Jbg, Jbh, Ja7, Jae, Jbd, Jbf, Jbe, Jb9, Ja2, Ja1, Ja4, Ja3, Jay, Jaz, decide_true, decide_false, Bool.not_true, Bool.not_false, Bool.false_eq_true, if_true, if_false, true_and, Stp.p]; exact q
/-! ### the last two -/
theorem at_last (ds : List D) (x y : D) : atI (ds ++ [x, y]) (-1) = some y := by
  have e : ixN (ds.length + 2) (-1) = some (ds.length + 1) := by
    unfold ixN
    rw [if_neg (by decide), if_pos (by omega)]
    congr 1
    omega
  unfold atI
  simp [e]
theorem at_last2 (ds : List D) (x y : D) : atI (ds ++ [x, y]) (-2) = some x := by
  have e : ixN (ds.length + 2) (-2) = some ds.length := by
    unfold ixN
    rw [if_neg (by decide), if_pos (by omega)]
    congr 1
    omega
  unfold atI
  simp [e]
theorem cut_last2 (ds : List D) (x y : D) : cutD (ds ++ [x, y]) none (some (-2)) = ds := by
  unfold cutD
  rw [HT.sIx_none]
  have e : HT.sIx (ds ++ [x, y]).length (ds ++ [x, y]).length (some (-2)) = ds.length := by
    rw [List.length_append, show [x, y].length = 2 from rfl]
    unfold HT.sIx
    simp
    try omega
  rw [e]
  simp
theorem two_last (ss : List Stp) (h : 2 ≤ ss.length) : ∃ ps t m, ss = ps ++ [t, m] := by
  have e := List.reverse_reverse ss
  cases h1 : ss.reverse with
  | nil =>
    rw [List.reverse_eq_nil_iff] at h1
    subst h1
    simp at h
  | cons m r =>
    cases r with
    | nil =>
      have := congrArg List.length h1
      rw [List.length_reverse] at this
      simp at this
      omega
    | cons t r =>
      rw [h1] at e
      exact ⟨r.reverse, t, m, by rw [← e]; simp⟩
theorem app_inj {ps qs : List Stp} {t m u n : Stp} (h : ps ++ [t, m] = qs ++ [u, n]) : ps = qs ∧ t = u ∧ m = n := by
  have h2 := List.append_inj' h rfl
  have h3 := h2.2
  simp at h3
  exact ⟨h2.1, h3.1, h3.2⟩
theorem plain_app {ps : List Stp} {t m : Stp} : PlainP (ps ++ [t, m]) ↔ endB t m = true ∧ (∀ s ∈ ps, (bendB s || quarB s) = true) ∧ AltN ps ps.length := by
  constructor
  · rintro ⟨qs, u, n, e, h⟩
    obtain ⟨rfl, rfl, rfl⟩ := app_inj e
    exact h
  · exact fun h => ⟨ps, t, m, rfl, h⟩
theorem plain_short {ss : List Stp} (h : ss.length < 2) : ¬PlainP ss := by
  rintro ⟨ps, t, m, rfl, _⟩
  simp at h
  omega
theorem altN_succ {ps : List Stp} {k : Nat} {s t : Stp} (h1 : ps[k]? = some s) (h2 : ps[k + 1]? = some t) : AltN ps (k + 1) ↔ AltN ps k ∧ s.word ≠ t.word := by
  constructor
  · exact fun h => ⟨fun i s t hi => h i s t (by omega), h k s t (Nat.lt_succ_self k) h1 h2⟩
  · rintro ⟨h3, h4⟩ i s' t' hi e1 e2
    by_cases e : i = k
    · subst e
      rw [h1] at e1
      rw [h2] at e2
      cases e1
      cases e2
      exact h4
    · exact h3 i s' t' (by omega) e1 e2
theorem altN_last {ps : List Stp} {k : Nat} (h : ps.length ≤ k + 1) : AltN ps ps.length ↔ AltN ps k := by
  constructor
  · intro h2 i s t hi e1 e2
    refine h2 i s t ?_ e1 e2
    exact (List.getElem?_eq_some_iff.mp e1).1
  · intro h2 i s t hi e1 e2
    refine h2 i s t ?_ e1 e2
    have := (List.getElem?_eq_some_iff.mp e2).1
    omega
theorem word_p (s : Stp) : ∃ r, s.p = .tup (.str s.word :: r) := by
  cases s <;> exact ⟨_, rfl⟩
theorem zipD_min : ∀ ds es : List D, (zipD ds es).length = min ds.length es.length
  | [], es => by simp [zipD]
  | d :: ds, [] => by simp [zipD]
  | d :: ds, e :: es => by
    rw [zipD, List.length_cons, List.length_cons, List.length_cons, zipD_min ds es]
    omega
theorem all_snoc (bs : List Bool) (b : Bool) : (bs ++ [b]).all id = true ↔ bs.all id = true ∧ b = true := by
  rw [List.all_append, Bool.and_eq_true]
  simp
theorem map_snocK (bs : List Bool) (b : Bool) : bs.map D.bool ++ [D.bool b] = (bs ++ [b]).map D.bool := by simp
theorem take_mem {ps : List Stp} {i : Nat} {s : Stp} (h : ps[i]? = some s) (P : Stp → Prop) : (∀ x ∈ ps.take (i + 1), P x) ↔ (∀ x ∈ ps.take i, P x) ∧ P s := by
  rw [List.take_succ, h]
  constructor
  · exact fun z => ⟨fun x hx => z x (List.mem_append.mpr (.inl hx)), z s (List.mem_append.mpr (.inr (by simp)))⟩
  · rintro ⟨z1, z2⟩ x hx
    rcases List.mem_append.mp hx with w | w
    · exact z1 x w
    · simp at w
      rw [w]
      exact z2
theorem bools_all {Q : QR} {X : QD} (bs : List Bool) : cbAll [D.list (bs.map D.bool)] μ Q X = Q (.v (.bool (bs.all id))) μ := by
  simp only [cbBs, Jb8, seqL, boolsD_map]
theorem ok_is_plain {ss : List Stp} (hl : ss.length ≤ 1000) (h : ∀ s ∈ ss, s.Ok HUGE) (q : ∀ b : Bool, (b = true ↔ PlainP ss) → Q (.bool b) μ) : wp_is_plain [progD ss] μ Q X := by
  unfold wp_is_plain
  simp only [Jbv, initE, Jcs, Jce, Jbl, Jbm, Jc0, Jcn, Jco, Jc6, Jck, Jbn, Jcu, Jbo, Jbu, Jd6, Jd7, Jd5, Jd8, Jdd, Jda, Jdb, Jd9, Jc3, Jc8, Jd0, Jcz, Jc7, Jch, Jcy, Jcx, Jcb, Jbs, Jcw, Jcg, Jbk, Jcj, Jc5, Jbj, Jci, Jcf, Jd2, Jd1, Jd4, Jbp, Jcd, Jcm, Jc2, Jct, Jcc, Jbq, Jcp, Jcv, Jdf, Jdg, Jc9, Jcq, Jcr, Jc4, Jbr, Jc1, Jbx, Jca, gt, st, Jbc, Jba, Jbb, Jb8, Jbi, Ja5, atI0, atI1, atI2, atI3, atI4, ixN20, ixN21, List.map_cons, List.map_nil, List.cons_append, List.nil_append, List.append_nil, List.length_cons, List.length_nil, List.replicate_succ, List.replicate_zero, Nat.add_one_sub_one, Jd3, Jbt, Jby, Jbz, Jbw, Jaf, Jah, Jai, Jag, Jb7, Jaw, Jax, Jal, Jav, Jb4, Jau, Jat, Jan, Jam, Jb2, Jaj, Jak, Jb0, Jb1, Jaq, Jb3, Jar, Jas, Jao, Jap, Jb6, Jb5, Ja8, Ja9, Jad, Jac, Ja0, Jaa, Jab, Jbg, Jbh, Ja7, Jae, Jbd, Jbf, Jbe, Jb9, Ja2, Ja1, Ja4, Ja3, Jay, Jaz, decide_true, decide_false, Bool.not_true, Bool.not_false, Bool.false_eq_true, if_true, if_false, true_and]
  refine ok_need_program ?_
  simp only [Jbv, initE, Jcs, Jce, Jbl, Jbm, Jc0, Jcn, Jco, Jc6, Jck, Jbn, Jcu, Jbo, Jbu, Jd6, Jd7, Jd5, Jd8, Jdd, Jda, Jdb, Jd9, Jc3, Jc8, Jd0, Jcz, Jc7, Jch, Jcy, Jcx, Jcb, Jbs, Jcw, Jcg, Jbk, Jcj, Jc5, Jbj, Jci, Jcf, Jd2, Jd1, Jd4, Jbp, Jcd, Jcm, Jc2, Jct, Jcc, Jbq, Jcp, Jcv, Jdf, Jdg, Jc9, Jcq, Jcr, Jc4, Jbr, Jc1, Jbx, Jca, gt, st, Jbc, Jba, Jbb, Jb8, Jbi, Ja5, atI0, atI1, atI2, atI3, atI4, ixN20, ixN21, List.map_cons, List.map_nil, List.cons_append, List.nil_append, List.append_nil, List.length_cons, List.length_nil, List.replicate_succ, List.replicate_zero, Nat.add_one_sub_one, Jd3, Jbt, Jby, Jbz, Jbw, Jaf, Jah, Jai, Jag, Jb7, Jaw, Jax, Jal, Jav, Jb4, Jau, Jat, Jan, Jam, Jb2, Jaj, Jak, Jb0, Jb1, Jaq, Jb3, Jar, Jas, Jao, Jap, Jb6, Jb5, Ja8, Ja9, Jad, Jac, Ja0, Jaa, Jab, Jbg, Jbh, Ja7, Jae, Jbd, Jbf, Jbe, Jb9, Ja2, Ja1, Ja4, Ja3, Jay, Jaz, decide_true, decide_false, Bool.not_true, Bool.not_false, Bool.false_eq_true, if_true, if_false, true_and, progD, progE, asObj, fldD]
  have no : ¬PlainP ss → Q (.bool false) μ := fun z => q false ⟨fun w => (nomatch w), fun w => absurd w z⟩
  by_cases h2 : ss.length < 2
  · rw [if_pos (decide_eq_true (by rw [List.length_map]; omega))]
    exact no (plain_short h2)
  rw [if_neg (by rw [List.length_map]; simp; omega)]
  obtain ⟨ps, t, m, rfl⟩ := two_last ss (by omega)
  have em : List.map Stp.p (ps ++ [t, m]) = List.map Stp.p ps ++ [t.p, m.p] := by simp
  have no2 : endB t m = false → Q (.bool false) μ := fun z => no fun w => by
    have := (plain_app.mp w).1
    rw [z] at this
    cases this
  simp only [em, at_last, at_last2, cut_last2]
  have hps : ps.length ≤ 1000 := by
    rw [List.length_append] at hl
    omega
  have hok : ∀ s ∈ ps, s.Ok HUGE := fun s hs => h s (List.mem_append.mpr (.inl hs))
  cases m with
  | x ns => simp only [Jbv, initE, Jcs, Jce, Jbl, Jbm, Jc0, Jcn, Jco, Jc6, Jck, Jbn, Jcu, Jbo, Jbu, Jd6, Jd7, Jd5, Jd8, Jdd, Jda, Jdb, Jd9, Jc3, Jc8, Jd0, Jcz, Jc7, Jch, Jcy, Jcx, Jcb, Jbs, Jcw, Jcg, Jbk, Jcj, Jc5, Jbj, Jci, Jcf, Jd2, Jd1, Jd4, Jbp, Jcd, Jcm, Jc2, Jct, Jcc, Jbq, Jcp, Jcv, Jdf, Jdg, Jc9, Jcq, Jcr, Jc4, Jbr, Jc1, Jbx, Jca, gt, st, Jbc, Jba, Jbb, Jb8, Jbi, Ja5, atI0, atI1, atI2, atI3, atI4, ixN20, ixN21, List.map_cons, List.map_nil, List.cons_append, List.nil_append, List.append_nil, List.length_cons, List.length_nil, List.replicate_succ, List.replicate_zero, Nat.add_one_sub_one, Jd3, Jbt, Jby, Jbz, Jbw, Jaf, Jah, Jai, Jag, Jb7, Jaw, Jax, Jal, Jav, Jb4, Jau, Jat, Jan, Jam, Jb2, Jaj, Jak, Jb0, Jb1, Jaq, Jb3, Jar, Jas, Jao, Jap, Jb6, Jb5, Ja8, Ja9, Jad, Jac, Ja0, Jaa, Jab, Jbg, Jbh, Ja7, Jae, Jbd, Jbf, Jbe, Jb9, Ja2, Ja1, Ja4, Ja3, Jay, Jaz, decide_true, decide_false, Bool.not_true, Bool.not_false, Bool.false_eq_true, if_true, if_false, true_and, Stp.p]; cases t <;> exact no2 rfl
  | y ns => simp only [Jbv, initE, Jcs, Jce, Jbl, Jbm, Jc0, Jcn, Jco, Jc6, Jck, Jbn, Jcu, Jbo, Jbu, Jd6, Jd7, Jd5, Jd8, Jdd, Jda, Jdb, Jd9, Jc3, Jc8, Jd0, Jcz, Jc7, Jch, Jcy, Jcx, Jcb, Jbs, Jcw, Jcg, Jbk, Jcj, Jc5, Jbj, Jci, Jcf, Jd2, Jd1, Jd4, Jbp, Jcd, Jcm, Jc2, Jct, Jcc, Jbq, Jcp, Jcv, Jdf, Jdg, Jc9, Jcq, Jcr, Jc4, Jbr, Jc1, Jbx, Jca, gt, st, Jbc, Jba, Jbb, Jb8, Jbi, Ja5, atI0, atI1, atI2, atI3, atI4, ixN20, ixN21, List.map_cons, List.map_nil, List.cons_append, List.nil_append, List.append_nil, List.length_cons, List.length_nil, List.replicate_succ, List.replicate_zero, Nat.add_one_sub_one, Jd3, Jbt, Jby, Jbz, Jbw, Jaf, Jah, Jai, Jag, Jb7, Jaw, Jax, Jal, Jav, Jb4, Jau, Jat, Jan, Jam, Jb2, Jaj, Jak, Jb0, Jb1, Jaq, Jb3, Jar, Jas, Jao, Jap, Jb6, Jb5, Ja8, Ja9, Jad, Jac, Ja0, Jaa, Jab, Jbg, Jbh, Ja7, Jae, Jbd, Jbf, Jbe, Jb9, Ja2, Ja1, Ja4, Ja3, Jay, Jaz, decide_true, decide_false, Bool.not_true, Bool.not_false, Bool.false_eq_true, if_true, if_false, true_and, Stp.p]; cases t <;> exact no2 rfl
  | turn a b c d => simp only [Jbv, initE, Jcs, Jce, Jbl, Jbm, Jc0, Jcn, Jco, Jc6, Jck, Jbn, Jcu, Jbo, Jbu, Jd6, Jd7, Jd5, Jd8, Jdd, Jda, Jdb, Jd9, Jc3, Jc8, Jd0, Jcz, Jc7, Jch, Jcy, Jcx, Jcb, Jbs, Jcw, Jcg, Jbk, Jcj, Jc5, Jbj, Jci, Jcf, Jd2, Jd1, Jd4, Jbp, Jcd, Jcm, Jc2, Jct, Jcc, Jbq, Jcp, Jcv, Jdf, Jdg, Jc9, Jcq, Jcr, Jc4, Jbr, Jc1, Jbx, Jca, gt, st, Jbc, Jba, Jbb, Jb8, Jbi, Ja5, atI0, atI1, atI2, atI3, atI4, ixN20, ixN21, List.map_cons, List.map_nil, List.cons_append, List.nil_append, List.append_nil, List.length_cons, List.length_nil, List.replicate_succ, List.replicate_zero, Nat.add_one_sub_one, Jd3, Jbt, Jby, Jbz, Jbw, Jaf, Jah, Jai, Jag, Jb7, Jaw, Jax, Jal, Jav, Jb4, Jau, Jat, Jan, Jam, Jb2, Jaj, Jak, Jb0, Jb1, Jaq, Jb3, Jar, Jas, Jao, Jap, Jb6, Jb5, Ja8, Ja9, Jad, Jac, Ja0, Jaa, Jab, Jbg, Jbh, Ja7, Jae, Jbd, Jbf, Jbe, Jb9, Ja2, Ja1, Ja4, Ja3, Jay, Jaz, decide_true, decide_false, Bool.not_true, Bool.not_false, Bool.false_eq_true, if_true, if_false, true_and, Stp.p]; cases t <;> exact no2 rfl
  | move m1 m2 =>
    cases t with
    | x ns => simp only [Jbv, initE, Jcs, Jce, Jbl, Jbm, Jc0, Jcn, Jco, Jc6, Jck, Jbn, Jcu, Jbo, Jbu, Jd6, Jd7, Jd5, Jd8, Jdd, Jda, Jdb, Jd9, Jc3, Jc8, Jd0, Jcz, Jc7, Jch, Jcy, Jcx, Jcb, Jbs, Jcw, Jcg, Jbk, Jcj, Jc5, Jbj, Jci, Jcf, Jd2, Jd1, Jd4, Jbp, Jcd, Jcm, Jc2, Jct, Jcc, Jbq, Jcp, Jcv, Jdf, Jdg, Jc9, Jcq, Jcr, Jc4, Jbr, Jc1, Jbx, Jca, gt, st, Jbc, Jba, Jbb, Jb8, Jbi, Ja5, atI0, atI1, atI2, atI3, atI4, ixN20, ixN21, List.map_cons, List.map_nil, List.cons_append, List.nil_append, List.append_nil, List.length_cons, List.length_nil, List.replicate_succ, List.replicate_zero, Nat.add_one_sub_one, Jd3, Jbt, Jby, Jbz, Jbw, Jaf, Jah, Jai, Jag, Jb7, Jaw, Jax, Jal, Jav, Jb4, Jau, Jat, Jan, Jam, Jb2, Jaj, Jak, Jb0, Jb1, Jaq, Jb3, Jar, Jas, Jao, Jap, Jb6, Jb5, Ja8, Ja9, Jad, Jac, Ja0, Jaa, Jab, Jbg, Jbh, Ja7, Jae, Jbd, Jbf, Jbe, Jb9, Ja2, Ja1, Ja4, Ja3, Jay, Jaz, decide_true, decide_false, Bool.not_true, Bool.not_false, Bool.false_eq_true, if_true, if_false, true_and, Stp.p]; exact no2 rfl
    | y ns => simp only [Jbv, initE, Jcs, Jce, Jbl, Jbm, Jc0, Jcn, Jco, Jc6, Jck, Jbn, Jcu, Jbo, Jbu, Jd6, Jd7, Jd5, Jd8, Jdd, Jda, Jdb, Jd9, Jc3, Jc8, Jd0, Jcz, Jc7, Jch, Jcy, Jcx, Jcb, Jbs, Jcw, Jcg, Jbk, Jcj, Jc5, Jbj, Jci, Jcf, Jd2, Jd1, Jd4, Jbp, Jcd, Jcm, Jc2, Jct, Jcc, Jbq, Jcp, Jcv, Jdf, Jdg, Jc9, Jcq, Jcr, Jc4, Jbr, Jc1, Jbx, Jca, gt, st, Jbc, Jba, Jbb, Jb8, Jbi, Ja5, atI0, atI1, atI2, atI3, atI4, ixN20, ixN21, List.map_cons, List.map_nil, List.cons_append, List.nil_append, List.append_nil, List.length_cons, List.length_nil, List.replicate_succ, List.replicate_zero, Nat.add_one_sub_one, Jd3, Jbt, Jby, Jbz, Jbw, Jaf, Jah, Jai, Jag, Jb7, Jaw, Jax, Jal, Jav, Jb4, Jau, Jat, Jan, Jam, Jb2, Jaj, Jak, Jb0, Jb1, Jaq, Jb3, Jar, Jas, Jao, Jap, Jb6, Jb5, Ja8, Ja9, Jad, Jac, Ja0, Jaa, Jab, Jbg, Jbh, Ja7, Jae, Jbd, Jbf, Jbe, Jb9, Ja2, Ja1, Ja4, Ja3, Jay, Jaz, decide_true, decide_false, Bool.not_true, Bool.not_false, Bool.false_eq_true, if_true, if_false, true_and, Stp.p]; exact no2 rfl
    | move a b => simp only [Jbv, initE, Jcs, Jce, Jbl, Jbm, Jc0, Jcn, Jco, Jc6, Jck, Jbn, Jcu, Jbo, Jbu, Jd6, Jd7, Jd5, Jd8, Jdd, Jda, Jdb, Jd9, Jc3, Jc8, Jd0, Jcz, Jc7, Jch, Jcy, Jcx, Jcb, Jbs, Jcw, Jcg, Jbk, Jcj, Jc5, Jbj, Jci, Jcf, Jd2, Jd1, Jd4, Jbp, Jcd, Jcm, Jc2, Jct, Jcc, Jbq, Jcp, Jcv, Jdf, Jdg, Jc9, Jcq, Jcr, Jc4, Jbr, Jc1, Jbx, Jca, gt, st, Jbc, Jba, Jbb, Jb8, Jbi, Ja5, atI0, atI1, atI2, atI3, atI4, ixN20, ixN21, List.map_cons, List.map_nil, List.cons_append, List.nil_append, List.append_nil, List.length_cons, List.length_nil, List.replicate_succ, List.replicate_zero, Nat.add_one_sub_one, Jd3, Jbt, Jby, Jbz, Jbw, Jaf, Jah, Jai, Jag, Jb7, Jaw, Jax, Jal, Jav, Jb4, Jau, Jat, Jan, Jam, Jb2, Jaj, Jak, Jb0, Jb1, Jaq, Jb3, Jar, Jas, Jao, Jap, Jb6, Jb5, Ja8, Ja9, Jad, Jac, Ja0, Jaa, Jab, Jbg, Jbh, Ja7, Jae, Jbd, Jbf, Jbe, Jb9, Ja2, Ja1, Ja4, Ja3, Jay, Jaz, decide_true, decide_false, Bool.not_true, Bool.not_false, Bool.false_eq_true, if_true, if_false, true_and, Stp.p]; exact no2 rfl
    | turn a b c d =>
      have ep : (Stp.turn a b c d).p = .tup [.str "turn", .int a, .int b, .int c, .int d] := rfl
      have em2 : (Stp.move m1 m2).p = .tup [.str "move", .int m1, .int m2] := rfl
      simp only [Jbv, initE, Jcs, Jce, Jbl, Jbm, Jc0, Jcn, Jco, Jc6, Jck, Jbn, Jcu, Jbo, Jbu, Jd6, Jd7, Jd5, Jd8, Jdd, Jda, Jdb, Jd9, Jc3, Jc8, Jd0, Jcz, Jc7, Jch, Jcy, Jcx, Jcb, Jbs, Jcw, Jcg, Jbk, Jcj, Jc5, Jbj, Jci, Jcf, Jd2, Jd1, Jd4, Jbp, Jcd, Jcm, Jc2, Jct, Jcc, Jbq, Jcp, Jcv, Jdf, Jdg, Jc9, Jcq, Jcr, Jc4, Jbr, Jc1, Jbx, Jca, gt, st, Jbc, Jba, Jbb, Jb8, Jbi, Ja5, atI0, atI1, atI2, atI3, atI4, ixN20, ixN21, List.map_cons, List.map_nil, List.cons_append, List.nil_append, List.append_nil, List.length_cons, List.length_nil, List.replicate_succ, List.replicate_zero, Nat.add_one_sub_one, Jd3, Jbt, Jby, Jbz, Jbw, Jaf, Jah, Jai, Jag, Jb7, Jaw, Jax, Jal, Jav, Jb4, Jau, Jat, Jan, Jam, Jb2, Jaj, Jak, Jb0, Jb1, Jaq, Jb3, Jar, Jas, Jao, Jap, Jb6, Jb5, Ja8, Ja9, Jad, Jac, Ja0, Jaa, Jab, Jbg, Jbh, Ja7, Jae, Jbd, Jbf, Jbe, Jb9, Ja2, Ja1, Ja4, Ja3, Jay, Jaz, decide_true, decide_false, Bool.not_true, Bool.not_false, Bool.false_eq_true, if_true, if_false, true_and, ep, em2, Jde]
      by_cases hc : c = 0
      · have pl := plain_app (ps := ps) (t := .turn a b c d) (m := .move m1 m2)
        rw [show endB (.turn a b c d) (.move m1 m2) = true from decide_eq_true hc] at pl
        simp only [hc, Jbv, initE, Jcs, Jce, Jbl, Jbm, Jc0, Jcn, Jco, Jc6, Jck, Jbn, Jcu, Jbo, Jbu, Jd6, Jd7, Jd5, Jd8, Jdd, Jda, Jdb, Jd9, Jc3, Jc8, Jd0, Jcz, Jc7, Jch, Jcy, Jcx, Jcb, Jbs, Jcw, Jcg, Jbk, Jcj, Jc5, Jbj, Jci, Jcf, Jd2, Jd1, Jd4, Jbp, Jcd, Jcm, Jc2, Jct, Jcc, Jbq, Jcp, Jcv, Jdf, Jdg, Jc9, Jcq, Jcr, Jc4, Jbr, Jc1, Jbx, Jca, gt, st, Jbc, Jba, Jbb, Jb8, Jbi, Ja5, atI0, atI1, atI2, atI3, atI4, ixN20, ixN21, List.map_cons, List.map_nil, List.cons_append, List.nil_append, List.append_nil, List.length_cons, List.length_nil, List.replicate_succ, List.replicate_zero, Nat.add_one_sub_one, Jd3, Jbt, Jby, Jbz, Jbw, Jaf, Jah, Jai, Jag, Jb7, Jaw, Jax, Jal, Jav, Jb4, Jau, Jat, Jan, Jam, Jb2, Jaj, Jak, Jb0, Jb1, Jaq, Jb3, Jar, Jas, Jao, Jap, Jb6, Jb5, Ja8, Ja9, Jad, Jac, Ja0, Jaa, Jab, Jbg, Jbh, Ja7, Jae, Jbd, Jbf, Jbe, Jb9, Ja2, Ja1, Ja4, Ja3, Jay, Jaz, decide_true, decide_false, Bool.not_true, Bool.not_false, Bool.false_eq_true, if_true, if_false, true_and]
        refine ⟨by rw [List.length_map, sizeLine_eq]; omega, lc_inv (fun i acc μ' => μ' = μ ∧ ∃ bs : List Bool, acc = bs.map D.bool ∧ (bs.all id = true ↔ ∀ s ∈ ps.take i, (bendB s || quarB s) = true)) ⟨rfl, [], rfl, ⟨fun _ s z => (nomatch z), fun _ => rfl⟩⟩ ?_ ?_⟩
        · rintro i x acc μ' N hx ⟨rfl, bs, rfl, hb⟩ hN
          obtain ⟨s, hs, rfl⟩ := map_get hx
          refine ⟨trivial, ?_⟩
          simp only [Jbv, initE, Jcs, Jce, Jbl, Jbm, Jc0, Jcn, Jco, Jc6, Jck, Jbn, Jcu, Jbo, Jbu, Jd6, Jd7, Jd5, Jd8, Jdd, Jda, Jdb, Jd9, Jc3, Jc8, Jd0, Jcz, Jc7, Jch, Jcy, Jcx, Jcb, Jbs, Jcw, Jcg, Jbk, Jcj, Jc5, Jbj, Jci, Jcf, Jd2, Jd1, Jd4, Jbp, Jcd, Jcm, Jc2, Jct, Jcc, Jbq, Jcp, Jcv, Jdf, Jdg, Jc9, Jcq, Jcr, Jc4, Jbr, Jc1, Jbx, Jca, gt, st, Jbc, Jba, Jbb, Jb8, Jbi, Ja5, atI0, atI1, atI2, atI3, atI4, ixN20, ixN21, List.map_cons, List.map_nil, List.cons_append, List.nil_append, List.append_nil, List.length_cons, List.length_nil, List.replicate_succ, List.replicate_zero, Nat.add_one_sub_one, Jd3, Jbt, Jby, Jbz, Jbw, Jaf, Jah, Jai, Jag, Jb7, Jaw, Jax, Jal, Jav, Jb4, Jau, Jat, Jan, Jam, Jb2, Jaj, Jak, Jb0, Jb1, Jaq, Jb3, Jar, Jas, Jao, Jap, Jb6, Jb5, Ja8, Ja9, Jad, Jac, Ja0, Jaa, Jab, Jbg, Jbh, Ja7, Jae, Jbd, Jbf, Jbe, Jb9, Ja2, Ja1, Ja4, Ja3, Jay, Jaz, decide_true, decide_false, Bool.not_true, Bool.not_false, Bool.false_eq_true, if_true, if_false, true_and, wipeE]
          refine ok_is_bend ?_
          cases e1 : bendB s with
          | true =>
            refine hN _ _ ⟨rfl, bs ++ [true], map_snocK bs true, ?_⟩
            rw [all_snoc, take_mem hs (fun s => (bendB s || quarB s) = true), hb, e1]
            simp
          | false =>
            simp only [Jbv, initE, Jcs, Jce, Jbl, Jbm, Jc0, Jcn, Jco, Jc6, Jck, Jbn, Jcu, Jbo, Jbu, Jd6, Jd7, Jd5, Jd8, Jdd, Jda, Jdb, Jd9, Jc3, Jc8, Jd0, Jcz, Jc7, Jch, Jcy, Jcx, Jcb, Jbs, Jcw, Jcg, Jbk, Jcj, Jc5, Jbj, Jci, Jcf, Jd2, Jd1, Jd4, Jbp, Jcd, Jcm, Jc2, Jct, Jcc, Jbq, Jcp, Jcv, Jdf, Jdg, Jc9, Jcq, Jcr, Jc4, Jbr, Jc1, Jbx, Jca, gt, st, Jbc, Jba, Jbb, Jb8, Jbi, Ja5, atI0, atI1, atI2, atI3, atI4, ixN20, ixN21, List.map_cons, List.map_nil, List.cons_append, List.nil_append, List.append_nil, List.length_cons, List.length_nil, List.replicate_succ, List.replicate_zero, Nat.add_one_sub_one, Jd3, Jbt, Jby, Jbz, Jbw, Jaf, Jah, Jai, Jag, Jb7, Jaw, Jax, Jal, Jav, Jb4, Jau, Jat, Jan, Jam, Jb2, Jaj, Jak, Jb0, Jb1, Jaq, Jb3, Jar, Jas, Jao, Jap, Jb6, Jb5, Ja8, Ja9, Jad, Jac, Ja0, Jaa, Jab, Jbg, Jbh, Ja7, Jae, Jbd, Jbf, Jbe, Jb9, Ja2, Ja1, Ja4, Ja3, Jay, Jaz, decide_true, decide_false, Bool.not_true, Bool.not_false, Bool.false_eq_true, if_true, if_false, true_and]
            refine ok_is_quarter (hok s (List.mem_of_getElem? hs)) (hN _ _ ⟨rfl, bs ++ [quarB s], map_snocK bs _, ?_⟩)
            rw [all_snoc, take_mem hs (fun s => (bendB s || quarB s) = true), hb, e1, Bool.false_or]
        · rintro acc μ' ⟨rfl, bs, rfl, hb⟩
          rw [List.length_map, List.take_length] at hb
          refine ⟨trivial, ?_⟩
          rw [bools_all]
          cases e1 : bs.all id with
          | false =>
            refine no fun w => ?_
            have := hb.mpr (pl.mp w).2.1
            rw [e1] at this
            cases this
          | true =>
            have cut1 : cutD (ps.map Stp.p) (some 1) none = (ps.map Stp.p).drop 1 := cut_drop (ps.map Stp.p) 1
            have hz : (zipD (ps.map Stp.p) ((ps.map Stp.p).drop 1)).length = ps.length - 1 := by
              rw [zipD_min, List.length_drop, List.length_map]
              omega
            simp only [Jbv, initE, Jcs, Jce, Jbl, Jbm, Jc0, Jcn, Jco, Jc6, Jck, Jbn, Jcu, Jbo, Jbu, Jd6, Jd7, Jd5, Jd8, Jdd, Jda, Jdb, Jd9, Jc3, Jc8, Jd0, Jcz, Jc7, Jch, Jcy, Jcx, Jcb, Jbs, Jcw, Jcg, Jbk, Jcj, Jc5, Jbj, Jci, Jcf, Jd2, Jd1, Jd4, Jbp, Jcd, Jcm, Jc2, Jct, Jcc, Jbq, Jcp, Jcv, Jdf, Jdg, Jc9, Jcq, Jcr, Jc4, Jbr, Jc1, Jbx, Jca, gt, st, Jbc, Jba, Jbb, Jb8, Jbi, Ja5, atI0, atI1, atI2, atI3, atI4, ixN20, ixN21, List.map_cons, List.map_nil, List.cons_append, List.nil_append, List.append_nil, List.length_cons, List.length_nil, List.replicate_succ, List.replicate_zero, Nat.add_one_sub_one, Jd3, Jbt, Jby, Jbz, Jbw, Jaf, Jah, Jai, Jag, Jb7, Jaw, Jax, Jal, Jav, Jb4, Jau, Jat, Jan, Jam, Jb2, Jaj, Jak, Jb0, Jb1, Jaq, Jb3, Jar, Jas, Jao, Jap, Jb6, Jb5, Ja8, Ja9, Jad, Jac, Ja0, Jaa, Jab, Jbg, Jbh, Ja7, Jae, Jbd, Jbf, Jbe, Jb9, Ja2, Ja1, Ja4, Ja3, Jay, Jaz, decide_true, decide_false, Bool.not_true, Bool.not_false, Bool.false_eq_true, if_true, if_false, true_and, cut1]
            refine ⟨by rw [hz, sizeLine_eq]; omega, lc_inv (fun i acc μ2 => μ2 = μ' ∧ ∃ bs : List Bool, acc = bs.map D.bool ∧ (bs.all id = true ↔ AltN ps i)) ⟨rfl, [], rfl, ⟨fun _ i s t z => absurd z (Nat.not_lt_zero _), fun _ => rfl⟩⟩ ?_ ?_⟩
            · rintro i x acc μ' N hx ⟨rfl, bs2, rfl, hb2⟩ hN
              rw [zipD_get, List.getElem?_drop, Nat.add_comm 1 i] at hx
              cases g1 : (ps.map Stp.p)[i]? with
              | none => rw [g1] at hx; cases hx
              | some x1 =>
                cases g2 : (ps.map Stp.p)[i + 1]? with
                | none => rw [g1, g2] at hx; cases hx
                | some x2 =>
                  rw [g1, g2] at hx
                  cases hx
                  obtain ⟨s1, hs1, rfl⟩ := map_get g1
                  obtain ⟨s2, hs2, rfl⟩ := map_get g2
                  obtain ⟨r1, er1⟩ := word_p s1
                  obtain ⟨r2, er2⟩ := word_p s2
                  refine ⟨trivial, ?_⟩
                  simp only [Jbv, initE, Jcs, Jce, Jbl, Jbm, Jc0, Jcn, Jco, Jc6, Jck, Jbn, Jcu, Jbo, Jbu, Jd6, Jd7, Jd5, Jd8, Jdd, Jda, Jdb, Jd9, Jc3, Jc8, Jd0, Jcz, Jc7, Jch, Jcy, Jcx, Jcb, Jbs, Jcw, Jcg, Jbk, Jcj, Jc5, Jbj, Jci, Jcf, Jd2, Jd1, Jd4, Jbp, Jcd, Jcm, Jc2, Jct, Jcc, Jbq, Jcp, Jcv, Jdf, Jdg, Jc9, Jcq, Jcr, Jc4, Jbr, Jc1, Jbx, Jca, gt, st, Jbc, Jba, Jbb, Jb8, Jbi, Ja5, atI0, atI1, atI2, atI3, atI4, ixN20, ixN21, List.map_cons, List.map_nil, List.cons_append, List.nil_append, List.append_nil, List.length_cons, List.length_nil, List.replicate_succ, List.replicate_zero, Nat.add_one_sub_one, Jd3, Jbt, Jby, Jbz, Jbw, Jaf, Jah, Jai, Jag, Jb7, Jaw, Jax, Jal, Jav, Jb4, Jau, Jat, Jan, Jam, Jb2, Jaj, Jak, Jb0, Jb1, Jaq, Jb3, Jar, Jas, Jao, Jap, Jb6, Jb5, Ja8, Ja9, Jad, Jac, Ja0, Jaa, Jab, Jbg, Jbh, Ja7, Jae, Jbd, Jbf, Jbe, Jb9, Ja2, Ja1, Ja4, Ja3, Jay, Jaz, decide_true, decide_false, Bool.not_true, Bool.not_false, Bool.false_eq_true, if_true, if_false, true_and, wipeE, er1, er2]
                  refine hN _ _ ⟨rfl, bs2 ++ [!decide (s1.word = s2.word)], map_snocK bs2 _, ?_⟩
                  rw [all_snoc, altN_succ hs1 hs2, hb2]
                  simp
            · rintro acc μ' ⟨rfl, bs2, rfl, hb2⟩
              rw [hz] at hb2
              refine ⟨trivial, ?_⟩
              rw [bools_all]
              refine q _ ?_
              rw [pl, hb2, altN_last (k := ps.length - 1) (by omega)]
              exact ⟨fun z => ⟨rfl, hb.mp e1, z⟩, fun z => z.2.2⟩
      · simp only [Jbv, initE, Jcs, Jce, Jbl, Jbm, Jc0, Jcn, Jco, Jc6, Jck, Jbn, Jcu, Jbo, Jbu, Jd6, Jd7, Jd5, Jd8, Jdd, Jda, Jdb, Jd9, Jc3, Jc8, Jd0, Jcz, Jc7, Jch, Jcy, Jcx, Jcb, Jbs, Jcw, Jcg, Jbk, Jcj, Jc5, Jbj, Jci, Jcf, Jd2, Jd1, Jd4, Jbp, Jcd, Jcm, Jc2, Jct, Jcc, Jbq, Jcp, Jcv, Jdf, Jdg, Jc9, Jcq, Jcr, Jc4, Jbr, Jc1, Jbx, Jca, gt, st, Jbc, Jba, Jbb, Jb8, Jbi, Ja5, atI0, atI1, atI2, atI3, atI4, ixN20, ixN21, List.map_cons, List.map_nil, List.cons_append, List.nil_append, List.append_nil, List.length_cons, List.length_nil, List.replicate_succ, List.replicate_zero, Nat.add_one_sub_one, Jd3, Jbt, Jby, Jbz, Jbw, Jaf, Jah, Jai, Jag, Jb7, Jaw, Jax, Jal, Jav, Jb4, Jau, Jat, Jan, Jam, Jb2, Jaj, Jak, Jb0, Jb1, Jaq, Jb3, Jar, Jas, Jao, Jap, Jb6, Jb5, Ja8, Ja9, Jad, Jac, Ja0, Jaa, Jab, Jbg, Jbh, Ja7, Jae, Jbd, Jbf, Jbe, Jb9, Ja2, Ja1, Ja4, Ja3, Jay, Jaz, decide_true, decide_false, Bool.not_true, Bool.not_false, Bool.false_eq_true, if_true, if_false, true_and, decide_eq_false hc]
        exact no2 (decide_eq_false hc)
end
end DL

set_option Elab.async false
set_option linter.all false
set_option maxRecDepth 100000
set_option maxHeartbeats 4000000
/-! A48: whole divisions by numbers of any size. -/
namespace DL
open PySem PySem.Spec PyProof.Rows L2 PySem.W
section
variable {X : Cx} {c : Ctx} {W : WX}
end
end DL

set_option Elab.async false
set_option linter.all false
set_option maxRecDepth 100000
set_option maxHeartbeats 4000000
/-! W2: the inverse modulo, words, plain programs. -/
namespace DL
open PySem L2
section
variable {μ : Mu} {Q X : QD} {d : D} {QQ : QR}
/-- what stands in the loop: high, low, past, found -/
structure Euc (a m : Int) (hi lo past fd : Int) : Prop where
  h0 : 0 ≤ lo
  h1 : lo < hi
  bez : ∃ u v, u * hi + v * lo = 1
  h2 : hi = 1 → m = 1
  c1 : ∃ z, past * a - hi = z * m
  c2 : ∃ z, fd * a - lo = z * m
  sgn : 0 ≤ past ∧ fd ≤ 0 ∨ past ≤ 0 ∧ 0 ≤ fd
  wt : hi * fd.natAbs + lo * past.natAbs = m
theorem half {hi lo : Int} (h0 : 1 < lo) (h1 : lo < hi) : 2 * (hi - hi / lo * lo) < hi := by
  have e := Int.emod_add_mul_ediv hi lo
  have h2 : hi % lo < lo := Int.emod_lt_of_pos _ (by omega)
  have h3 : 0 ≤ hi % lo := Int.emod_nonneg _ (by omega)
  have h4 : 1 ≤ hi / lo := Int.le_ediv_of_mul_le (by omega) (by omega)
  have h5 : lo * 1 ≤ lo * (hi / lo) := Int.mul_le_mul_of_nonneg_left h4 (by omega)
  rw [Int.mul_comm (hi / lo)]
  omega
end
end DL

set_option Elab.async false
set_option linter.all false
set_option maxRecDepth 100000
set_option maxHeartbeats 4000000
/-! W3: words as objects. -/
namespace DL
open PySem L2
section
variable {μ : Mu} {Q X : QD} {d : D} {QQ : QR} {p q : Addr} {w : Wrd}
/-! ### the list of parts -/
/-! ### bends -/
structure Wrd.Small (w : Wrd) (b : Nat) : Prop where
  n : w.n.natAbs < 2 ^ b
  s : w.s.natAbs < 2 ^ b
  t : w.t.natAbs < 2 ^ b
  part : ∀ x ∈ w.stk, x.Ok (2 ^ b)
  len : w.stk.length ≤ 500
/-! ### turns -/
end
end DL

set_option Elab.async false
set_option linter.all false
set_option maxRecDepth 100000
set_option maxHeartbeats 4000000
/-! W4: steps of words, plain programs. -/
namespace DL
open PySem L2
section
variable {μ : Mu} {Q X : QD} {d : D} {QQ : QR} {p q : Addr} {w : Wrd}
end
end DL

set_option Elab.async false
set_option linter.all false
set_option maxRecDepth 100000
set_option maxHeartbeats 4000000
/-! W5: how great the numbers of a word are. -/
namespace DL
open PySem L2
/-! ### sums of the absolute values of a row -/
/-! ### quarters -/
def hn : Stp → Nat
  | .turn _ _ k m => k.natAbs + m.natAbs
  | _ => 1
def nrm : List Stp → Nat
  | [] => 1
  | s :: k => hn s * nrm k
def Wrd.N (w : Wrd) : Nat := (w.n.natAbs + 1) * nrm w.stk
/-- the second number of a quarter -/
theorem quar_j {a b c d : Int} (h0 : 0 ≤ a) (h1 : a < c) (hd : a * d - b * c = 1) : b.natAbs ≤ d.natAbs + 1 := by
  have e : b.natAbs * c.natAbs ≤ a.natAbs * d.natAbs + 1 := by
    rw [← Int.natAbs_mul, ← Int.natAbs_mul]
    have := Int.natAbs_sub_le (a * d) 1
    have e2 : b * c = a * d - 1 := by omega
    rw [e2]
    simpa using this
  have h2 : a.natAbs * d.natAbs ≤ (c.natAbs - 1) * d.natAbs := Nat.mul_le_mul_right _ (by omega)
  refine Nat.le_of_not_lt fun hb => ?_
  have h3 : (d.natAbs + 2) * c.natAbs ≤ b.natAbs * c.natAbs := Nat.mul_le_mul_right _ hb
  have h4 : (c.natAbs - 1) * d.natAbs + d.natAbs = c.natAbs * d.natAbs := by
    have : 1 ≤ c.natAbs := by omega
    rw [Nat.sub_mul, Nat.one_mul]
    have := Nat.mul_le_mul_right d.natAbs this
    omega
  rw [Nat.add_mul, Nat.mul_comm d.natAbs] at h3
  omega
end DL

set_option Elab.async false
set_option linter.all false
set_option maxRecDepth 100000
set_option maxHeartbeats 4000000
/-! W6: bounds of words, led along; plain programs of drawn ones. -/
namespace DL
open PySem L2
structure Wrd.Bnd (w : Wrd) (ν τ κ l : Nat) : Prop where
  ok : w.Ok
  N : w.N ≤ 2 ^ ν
  s : w.s.natAbs < 2 ^ τ
  t : w.t.natAbs < 2 ^ τ
  row : ∀ r, Stp.x r ∈ w.stk → r.length ≤ 7 ∧ ∀ n ∈ r, n.natAbs ≤ 2 ^ κ
  len : w.stk.length ≤ l
theorem pow_le {a b : Nat} (h : a ≤ b) : 2 ^ a ≤ 2 ^ b := Nat.pow_le_pow_right (by decide) h
theorem Wrd.Bnd.up {w : Wrd} {ν τ κ l ν' τ' κ' l' : Nat} (h : w.Bnd ν τ κ l) (h1 : ν ≤ ν') (h2 : τ ≤ τ') (h3 : κ ≤ κ') (h4 : l ≤ l') : w.Bnd ν' τ' κ' l' :=
  ⟨h.ok, Nat.le_trans h.N (pow_le h1), Nat.lt_of_lt_of_le h.s (pow_le h2), Nat.lt_of_lt_of_le h.t (pow_le h2), fun r hr => ⟨(h.row r hr).1, fun n hn => Nat.le_trans ((h.row r hr).2 n hn) (pow_le h3)⟩, Nat.le_trans h.len h4⟩
end DL

set_option Elab.async false
set_option linter.all false
set_option maxRecDepth 100000
set_option maxHeartbeats 4000000
/-! W7: plain programs: what is returned. -/
namespace DL
open PySem L2
/-! ### degrees -/
theorem degs_app' (a b : List Stp) : degs (a ++ b) = degs a * degs b := by
  induction a with
  | nil => simp [degs]
  | cons s a ih =>
    show s.deg * degs (a ++ b) = s.deg * degs a * degs b
    rw [ih, Nat.mul_assoc]
/-! ### lengths of rows -/
def Rows (m : Nat) (k : List Stp) : Prop := ∀ r, Stp.x r ∈ k → r.length ≤ m
/-! ### it is plain -/
theorem xw : ("x" : Str) ≠ "turn" := by decide
/-- what a drawn program is, plainly -/
structure PlainOf (ss tt : List Stp) (C m : Nat) : Prop where
  eq : tt = (Wrd.one.steps ss).out
  ok : (Wrd.one.steps ss).Ok
  num : ∀ s ∈ tt, s.Ok (2 ^ C)
  len : ∀ s ∈ tt, s.len ≤ m
  deg : degs tt ≤ degs ss
  many : tt.length ≤ 3 * ss.length + 2
section
variable {μ : Mu} {Q X : QD}
end
end DL

set_option Elab.async false
set_option linter.all false
set_option maxRecDepth 100000
set_option maxHeartbeats 4000000
/-! K26b: the laws' own plain steps. -/
namespace DL
open PySem L2
section
variable {μ : Mu} {Q X : QD} {d : D} {B : Nat}
theorem trim_snoc (l : List Int) {n : Int} (h : n ≠ 0) : M.trim (l ++ [n]) = l ++ [n] := M.trim_self _ fun _ => by
  simpa using h
theorem altN_snoc {ps : List Stp} {t : Stp} (h : AltN ps ps.length) (h2 : ∀ s, ps.getLast? = some s → s.word ≠ t.word) : AltN (ps ++ [t]) (ps ++ [t]).length := by
  intro i s u hi e1 e2
  by_cases hi2 : i + 1 < ps.length
  · rw [List.getElem?_append_left (by omega)] at e1
    rw [List.getElem?_append_left hi2] at e2
    exact h i s u (by omega) e1 e2
  · have hl := (List.getElem?_eq_some_iff.mp e2).1
    rw [List.length_append, List.length_singleton] at hl
    have e : i + 1 = ps.length := by omega
    rw [List.getElem?_append_left (by omega)] at e1
    rw [List.getElem?_append_right (by omega), e, Nat.sub_self] at e2
    cases e2
    refine h2 s ?_
    rw [List.getLast?_eq_getElem?, show ps.length - 1 = i by omega]
    exact e1
structure Pl (B : Nat) (ps : List Stp) (b : Bool) : Prop where
  ok : ∀ s ∈ ps, s.Ok B ∧ s.len ≤ 4
  part : ∀ s ∈ ps, (bendB s || quarB s) = true
  alt : AltN ps ps.length
  last : ∀ s, ps.getLast? = some s → s.word ≠ (if b then "x" else "turn")
end
end DL

set_option Elab.async false
set_option linter.all false
set_option maxRecDepth 100000
set_option maxHeartbeats 4000000
/-! W8: plain programs again; running them. -/
namespace DL
open PySem L2
section
variable {μ : Mu} {Q X : QD}
end
/-! ### a plain program as a word -/
/-! ### how great the numbers are when a plain program runs -/
end DL

set_option Elab.async false
set_option linter.all false
set_option maxRecDepth 100000
set_option maxHeartbeats 4000000
/-! C0: cores, judged by the package and by the laws. -/
namespace DL
open PySem L2
def wp_need_program_cores : WP := (wDef 1 1 (wIfS (wNotT (wTst (wCb false cbIsi (waCons (wV 0) (waCons (wK (.cls "Program")) waNil))))) (wRzA "BadProgram" "at" (wK .none)) wNext))
def wp_parts_of_cores : WP := (wDef 1 1 (wRet (wSl false oSl (wProp "Program" "steps" wp_Program_steps (wV 0)) woNone (woSome (wUn false oNeg (wK (.int 2)))))))
def wp_are_core_parts : WP := (wDef 1 1 (wRet (wAnd (wOp false oGt (wCb false cbLen (waCons (wV 0) waNil)) (wK (.int 1))) (wAnd (wOp false oEq (wOp false oMod (wCb false cbLen (waCons (wV 0) waNil)) (wK (.int 2))) (wK (.int 0))) (wOp false oEq (wOp false oIx (wOp false oIx (wV 0) (wK (.int 0))) (wK (.int 0))) (wK (.str "x")))))))
def wp_is_core : WP := (wDef 1 1 (wSeq (wDrop (wCall wp_need_program_cores [] (waCons (wV 0) waNil)))
    (wRet (wAnd (wCall wp_is_plain [] (waCons (wV 0) waNil)) (wCall wp_are_core_parts [] (waCons (wCall wp_parts_of_cores [] (waCons (wV 0) waNil)) waNil))))))
section
variable {μ : Mu} {Q X : QD} {QQ : QR} {d : D}
/-! ### cores -/
def CoreP (ss : List Stp) : Prop := PlainP ss ∧ 4 ≤ ss.length ∧ ss.length % 2 = 0 ∧ ∃ s, ss[0]? = some s ∧ bendB s = true
theorem at0 {ss : List Stp} {s : Stp} (f : Stp → D) (h : ss[0]? = some s) : atI (ss.map f) 0 = some (f s) := by
  cases ss with
  | nil => cases h
  | cons a r =>
    cases h
    exact atI0 _ _
theorem ok_need_program_cores {ds : List D} (q : Q .none μ) : wp_need_program_cores [progE ds] μ Q X := by
  unfold wp_need_program_cores
  simp only [Jbv, initE, Jcs, Jce, Jbl, Jbm, Jc0, Jcn, Jco, Jc6, Jck, Jbn, Jcu, Jbo, Jbu, Jd6, Jd7, Jd5, Jd8, Jdd, Jda, Jdb, Jd9, Jc3, Jc8, Jd0, Jcz, Jc7, Jch, Jcy, Jcx, Jcb, Jbs, Jcw, Jcg, Jbk, Jcj, Jc5, Jbj, Jci, Jcf, Jd2, Jd1, Jd4, Jbp, Jcd, Jcm, Jc2, Jct, Jcc, Jbq, Jcp, Jcv, Jdf, Jdg, Jc9, Jcq, Jcr, Jc4, Jbr, Jc1, Jbx, Jca, gt, st, Jbc, Jba, Jbb, Jb8, Jbi, Ja5, atI0, atI1, atI2, atI3, atI4, ixN20, ixN21, List.map_cons, List.map_nil, List.cons_append, List.nil_append, List.append_nil, List.length_cons, List.length_nil, List.replicate_succ, List.replicate_zero, Nat.add_one_sub_one, Jd3, Jbt, Jby, Jbz, Jbw, Jaf, Jah, Jai, Jag, Jb7, Jaw, Jax, Jal, Jav, Jb4, Jau, Jat, Jan, Jam, Jb2, Jaj, Jak, Jb0, Jb1, Jaq, Jb3, Jar, Jas, Jao, Jap, Jb6, Jb5, Ja8, Ja9, Jad, Jac, Ja0, Jaa, Jab, Jbg, Jbh, Ja7, Jae, Jbd, Jbf, Jbe, Jb9, Ja2, Ja1, Ja4, Ja3, Jay, Jaz, decide_true, decide_false, Bool.not_true, Bool.not_false, Bool.false_eq_true, if_true, if_false, true_and, cbIsi, progE, tyD]
  exact q
theorem cut_m2 (ds : List D) (h : 2 ≤ ds.length) : cutD ds none (some (-2)) = ds.take (ds.length - 2) := by
  obtain ⟨ps, x, y, rfl⟩ : ∃ ps x y, ds = ps ++ [x, y] := by
    refine ⟨ds.take (ds.length - 2), ds[ds.length - 2]'(by omega), ds[ds.length - 1]'(by omega), ?_⟩
    conv => lhs; rw [← List.take_append_drop (ds.length - 2) ds]
    congr 1
    rw [List.drop_eq_getElem_cons (by omega), List.drop_eq_getElem_cons (by omega)]
    simp only [show ds.length - 2 + 1 = ds.length - 1 by omega]
    rw [List.drop_eq_nil_of_le (by omega)]
  rw [cut_last2]
  simp
theorem ok_parts_of_cores {ss : List Stp} (h : 2 ≤ ss.length) (q : Q (.tup ((ss.take (ss.length - 2)).map Stp.p)) μ) : wp_parts_of_cores [progD ss] μ Q X := by
  unfold wp_parts_of_cores
  simp only [Jbv, initE, Jcs, Jce, Jbl, Jbm, Jc0, Jcn, Jco, Jc6, Jck, Jbn, Jcu, Jbo, Jbu, Jd6, Jd7, Jd5, Jd8, Jdd, Jda, Jdb, Jd9, Jc3, Jc8, Jd0, Jcz, Jc7, Jch, Jcy, Jcx, Jcb, Jbs, Jcw, Jcg, Jbk, Jcj, Jc5, Jbj, Jci, Jcf, Jd2, Jd1, Jd4, Jbp, Jcd, Jcm, Jc2, Jct, Jcc, Jbq, Jcp, Jcv, Jdf, Jdg, Jc9, Jcq, Jcr, Jc4, Jbr, Jc1, Jbx, Jca, gt, st, Jbc, Jba, Jbb, Jb8, Jbi, Ja5, atI0, atI1, atI2, atI3, atI4, ixN20, ixN21, List.map_cons, List.map_nil, List.cons_append, List.nil_append, List.append_nil, List.length_cons, List.length_nil, List.replicate_succ, List.replicate_zero, Nat.add_one_sub_one, Jd3, Jbt, Jby, Jbz, Jbw, Jaf, Jah, Jai, Jag, Jb7, Jaw, Jax, Jal, Jav, Jb4, Jau, Jat, Jan, Jam, Jb2, Jaj, Jak, Jb0, Jb1, Jaq, Jb3, Jar, Jas, Jao, Jap, Jb6, Jb5, Ja8, Ja9, Jad, Jac, Ja0, Jaa, Jab, Jbg, Jbh, Ja7, Jae, Jbd, Jbf, Jbe, Jb9, Ja2, Ja1, Ja4, Ja3, Jay, Jaz, decide_true, decide_false, Bool.not_true, Bool.not_false, Bool.false_eq_true, if_true, if_false, true_and]
  refine ⟨rfl, by decide, ok_Program_steps ?_⟩
  simp only [Jbv, initE, Jcs, Jce, Jbl, Jbm, Jc0, Jcn, Jco, Jc6, Jck, Jbn, Jcu, Jbo, Jbu, Jd6, Jd7, Jd5, Jd8, Jdd, Jda, Jdb, Jd9, Jc3, Jc8, Jd0, Jcz, Jc7, Jch, Jcy, Jcx, Jcb, Jbs, Jcw, Jcg, Jbk, Jcj, Jc5, Jbj, Jci, Jcf, Jd2, Jd1, Jd4, Jbp, Jcd, Jcm, Jc2, Jct, Jcc, Jbq, Jcp, Jcv, Jdf, Jdg, Jc9, Jcq, Jcr, Jc4, Jbr, Jc1, Jbx, Jca, gt, st, Jbc, Jba, Jbb, Jb8, Jbi, Ja5, atI0, atI1, atI2, atI3, atI4, ixN20, ixN21, List.map_cons, List.map_nil, List.cons_append, List.nil_append, List.append_nil, List.length_cons, List.length_nil, List.replicate_succ, List.replicate_zero, Nat.add_one_sub_one, Jd3, Jbt, Jby, Jbz, Jbw, Jaf, Jah, Jai, Jag, Jb7, Jaw, Jax, Jal, Jav, Jb4, Jau, Jat, Jan, Jam, Jb2, Jaj, Jak, Jb0, Jb1, Jaq, Jb3, Jar, Jas, Jao, Jap, Jb6, Jb5, Ja8, Ja9, Jad, Jac, Ja0, Jaa, Jab, Jbg, Jbh, Ja7, Jae, Jbd, Jbf, Jbe, Jb9, Ja2, Ja1, Ja4, Ja3, Jay, Jaz, decide_true, decide_false, Bool.not_true, Bool.not_false, Bool.false_eq_true, if_true, if_false, true_and]
  rw [cut_m2 _ (by rw [List.length_map]; exact h), List.length_map, ← List.map_take]
  exact q
theorem ok_are_core_parts {ps : List Stp} (hl : ps.length ≤ 1000) (q : ∀ b : Bool, (b = true ↔ 2 ≤ ps.length ∧ ps.length % 2 = 0 ∧ ∃ s, ps[0]? = some s ∧ s.word = ("x" : Str)) → Q (.bool b) μ) : wp_are_core_parts [.tup (ps.map Stp.p)] μ Q X := by
  unfold wp_are_core_parts
  simp only [Jbv, initE, Jcs, Jce, Jbl, Jbm, Jc0, Jcn, Jco, Jc6, Jck, Jbn, Jcu, Jbo, Jbu, Jd6, Jd7, Jd5, Jd8, Jdd, Jda, Jdb, Jd9, Jc3, Jc8, Jd0, Jcz, Jc7, Jch, Jcy, Jcx, Jcb, Jbs, Jcw, Jcg, Jbk, Jcj, Jc5, Jbj, Jci, Jcf, Jd2, Jd1, Jd4, Jbp, Jcd, Jcm, Jc2, Jct, Jcc, Jbq, Jcp, Jcv, Jdf, Jdg, Jc9, Jcq, Jcr, Jc4, Jbr, Jc1, Jbx, Jca, gt, st, Jbc, Jba, Jbb, Jb8, Jbi, Ja5, atI0, atI1, atI2, atI3, atI4, ixN20, ixN21, List.map_cons, List.map_nil, List.cons_append, List.nil_append, List.append_nil, List.length_cons, List.length_nil, List.replicate_succ, List.replicate_zero, Nat.add_one_sub_one, Jd3, Jbt, Jby, Jbz, Jbw, Jaf, Jah, Jai, Jag, Jb7, Jaw, Jax, Jal, Jav, Jb4, Jau, Jat, Jan, Jam, Jb2, Jaj, Jak, Jb0, Jb1, Jaq, Jb3, Jar, Jas, Jao, Jap, Jb6, Jb5, Ja8, Ja9, Jad, Jac, Ja0, Jaa, Jab, Jbg, Jbh, Ja7, Jae, Jbd, Jbf, Jbe, Jb9, Ja2, Ja1, Ja4, Ja3, Jay, Jaz, decide_true, decide_false, Bool.not_true, Bool.not_false, Bool.false_eq_true, if_true, if_false, true_and, List.length_map]
  by_cases h2 : 1 < ps.length
  · rw [if_pos (decide_eq_true (by omega))]
    by_cases h3 : ps.length % 2 = 0
    · have e3 : ((ps.length : Int) % 2 = 0) := by omega
      refine ⟨by decide, ?_⟩
      rw [if_pos (decide_eq_true e3)]
      obtain ⟨s, hs⟩ : ∃ s, ps[0]? = some s := ⟨_, List.getElem?_eq_getElem (by omega)⟩
      obtain ⟨r, er⟩ := word_p s
      simp only [at0 Stp.p hs, er, Jbv, initE, Jcs, Jce, Jbl, Jbm, Jc0, Jcn, Jco, Jc6, Jck, Jbn, Jcu, Jbo, Jbu, Jd6, Jd7, Jd5, Jd8, Jdd, Jda, Jdb, Jd9, Jc3, Jc8, Jd0, Jcz, Jc7, Jch, Jcy, Jcx, Jcb, Jbs, Jcw, Jcg, Jbk, Jcj, Jc5, Jbj, Jci, Jcf, Jd2, Jd1, Jd4, Jbp, Jcd, Jcm, Jc2, Jct, Jcc, Jbq, Jcp, Jcv, Jdf, Jdg, Jc9, Jcq, Jcr, Jc4, Jbr, Jc1, Jbx, Jca, gt, st, Jbc, Jba, Jbb, Jb8, Jbi, Ja5, atI0, atI1, atI2, atI3, atI4, ixN20, ixN21, List.map_cons, List.map_nil, List.cons_append, List.nil_append, List.append_nil, List.length_cons, List.length_nil, List.replicate_succ, List.replicate_zero, Nat.add_one_sub_one, Jd3, Jbt, Jby, Jbz, Jbw, Jaf, Jah, Jai, Jag, Jb7, Jaw, Jax, Jal, Jav, Jb4, Jau, Jat, Jan, Jam, Jb2, Jaj, Jak, Jb0, Jb1, Jaq, Jb3, Jar, Jas, Jao, Jap, Jb6, Jb5, Ja8, Ja9, Jad, Jac, Ja0, Jaa, Jab, Jbg, Jbh, Ja7, Jae, Jbd, Jbf, Jbe, Jb9, Ja2, Ja1, Ja4, Ja3, Jay, Jaz, decide_true, decide_false, Bool.not_true, Bool.not_false, Bool.false_eq_true, if_true, if_false, true_and]
      refine q _ ?_
      rw [decide_eq_true_iff]
      constructor
      · intro z
        exact ⟨h2, h3, s, hs, z⟩
      · rintro ⟨_, _, t, ht, hw⟩
        rw [hs] at ht
        cases ht
        exact hw
    · refine ⟨by decide, ?_⟩
      rw [if_neg (by simp; omega)]
      exact q false ⟨fun w => (nomatch w), fun w => absurd w.2.1 h3⟩
  · rw [if_neg (by simp; omega)]
    exact q false ⟨fun w => (nomatch w), fun w => absurd w.1 (by omega)⟩
theorem core_iff {ss : List Stp} (h : PlainP ss) : CoreP ss ↔ 2 ≤ (ss.take (ss.length - 2)).length ∧ (ss.take (ss.length - 2)).length % 2 = 0 ∧ ∃ s, (ss.take (ss.length - 2))[0]? = some s ∧ s.word = ("x" : Str) := by
  obtain ⟨ps, t, m, rfl, he, hp, ha⟩ := id h
  have el : (ps ++ [t, m]).take ((ps ++ [t, m]).length - 2) = ps := by simp
  have e2 : (ps ++ [t, m]).length = ps.length + 2 := by simp
  rw [el]
  unfold CoreP
  rw [e2]
  constructor
  · rintro ⟨_, h1, h2, s, hs, hb⟩
    rw [List.getElem?_append_left (by omega)] at hs
    refine ⟨by omega, by omega, s, hs, ?_⟩
    cases s with
    | x ns => rfl
    | _ => cases hb
  · rintro ⟨h1, h2, s, hs, hb⟩
    refine ⟨h, by omega, by omega, s, by rw [List.getElem?_append_left (by omega)]; exact hs, ?_⟩
    have := hp s (List.mem_of_getElem? hs)
    cases s with
    | x ns => simpa [quarB] using this
    | y ns => simp [bendB, quarB] at this
    | move a b => simp [bendB, quarB] at this
    | turn a b c d => exact absurd hb (Ne.symm xw)
theorem ok_is_core {ss : List Stp} (hl : ss.length ≤ 1000) (h : ∀ s ∈ ss, s.Ok HUGE) (q : ∀ b : Bool, (b = true ↔ CoreP ss) → Q (.bool b) μ) : wp_is_core [progD ss] μ Q X := by
  unfold wp_is_core
  simp only [Jbv, initE, Jcs, Jce, Jbl, Jbm, Jc0, Jcn, Jco, Jc6, Jck, Jbn, Jcu, Jbo, Jbu, Jd6, Jd7, Jd5, Jd8, Jdd, Jda, Jdb, Jd9, Jc3, Jc8, Jd0, Jcz, Jc7, Jch, Jcy, Jcx, Jcb, Jbs, Jcw, Jcg, Jbk, Jcj, Jc5, Jbj, Jci, Jcf, Jd2, Jd1, Jd4, Jbp, Jcd, Jcm, Jc2, Jct, Jcc, Jbq, Jcp, Jcv, Jdf, Jdg, Jc9, Jcq, Jcr, Jc4, Jbr, Jc1, Jbx, Jca, gt, st, Jbc, Jba, Jbb, Jb8, Jbi, Ja5, atI0, atI1, atI2, atI3, atI4, ixN20, ixN21, List.map_cons, List.map_nil, List.cons_append, List.nil_append, List.append_nil, List.length_cons, List.length_nil, List.replicate_succ, List.replicate_zero, Nat.add_one_sub_one, Jd3, Jbt, Jby, Jbz, Jbw, Jaf, Jah, Jai, Jag, Jb7, Jaw, Jax, Jal, Jav, Jb4, Jau, Jat, Jan, Jam, Jb2, Jaj, Jak, Jb0, Jb1, Jaq, Jb3, Jar, Jas, Jao, Jap, Jb6, Jb5, Ja8, Ja9, Jad, Jac, Ja0, Jaa, Jab, Jbg, Jbh, Ja7, Jae, Jbd, Jbf, Jbe, Jb9, Ja2, Ja1, Ja4, Ja3, Jay, Jaz, decide_true, decide_false, Bool.not_true, Bool.not_false, Bool.false_eq_true, if_true, if_false, true_and]
  refine ok_need_program_cores (ok_is_plain hl h fun b hb => ?_)
  cases b with
  | false => exact q false ⟨fun w => (nomatch w), fun w => absurd (hb.mpr w.1) Bool.false_ne_true⟩
  | true =>
    have hp := hb.mp rfl
    have h2 : 2 ≤ ss.length := by
      refine Nat.le_of_not_lt fun z => plain_short z hp
    simp only [Jbv, initE, Jcs, Jce, Jbl, Jbm, Jc0, Jcn, Jco, Jc6, Jck, Jbn, Jcu, Jbo, Jbu, Jd6, Jd7, Jd5, Jd8, Jdd, Jda, Jdb, Jd9, Jc3, Jc8, Jd0, Jcz, Jc7, Jch, Jcy, Jcx, Jcb, Jbs, Jcw, Jcg, Jbk, Jcj, Jc5, Jbj, Jci, Jcf, Jd2, Jd1, Jd4, Jbp, Jcd, Jcm, Jc2, Jct, Jcc, Jbq, Jcp, Jcv, Jdf, Jdg, Jc9, Jcq, Jcr, Jc4, Jbr, Jc1, Jbx, Jca, gt, st, Jbc, Jba, Jbb, Jb8, Jbi, Ja5, atI0, atI1, atI2, atI3, atI4, ixN20, ixN21, List.map_cons, List.map_nil, List.cons_append, List.nil_append, List.append_nil, List.length_cons, List.length_nil, List.replicate_succ, List.replicate_zero, Nat.add_one_sub_one, Jd3, Jbt, Jby, Jbz, Jbw, Jaf, Jah, Jai, Jag, Jb7, Jaw, Jax, Jal, Jav, Jb4, Jau, Jat, Jan, Jam, Jb2, Jaj, Jak, Jb0, Jb1, Jaq, Jb3, Jar, Jas, Jao, Jap, Jb6, Jb5, Ja8, Ja9, Jad, Jac, Ja0, Jaa, Jab, Jbg, Jbh, Ja7, Jae, Jbd, Jbf, Jbe, Jb9, Ja2, Ja1, Ja4, Ja3, Jay, Jaz, decide_true, decide_false, Bool.not_true, Bool.not_false, Bool.false_eq_true, if_true, if_false, true_and]
    refine ok_parts_of_cores h2 (ok_are_core_parts (by rw [List.length_take]; omega) fun c hc => q c ?_)
    rw [hc, core_iff hp]
end
end DL

set_option Elab.async false
set_option linter.all false
set_option maxRecDepth 100000
set_option maxHeartbeats 4000000
/-! C1: drawn cores. -/
namespace DL
open PySem L2
def wp_law_curl : WP := (wDef 3 5 (wSeq (wAsg 3 (wOp false oAdd (wLst false (waCons (wK (.int 0)) (waCons (wK (.int 0)) waNil))) (wLc false (wiRng1 (waCons (wCall wp_law_take [] (waCons (wV 0) (waCons (wOp false oSub (wV 1) (wK (.int 1))) waNil))) waNil)) (wgN 4) wYes (wCall wp_law_number [] (waCons (wV 0) (waCons (wV 2) waNil))) [4])))
    (wRet (wTup (waCons (wK (.str "x")) (waCons (wOp false oAdd (wV 3) (wLst false (waCons (wCall wp_law_pick [] (waCons (wV 0) (waCons (wLst false (waCons (wK (.int 1)) (waCons (wUn false oNeg (wK (.int 1))) (waCons (wOp false oAdd (wK (.int 1)) (wCall wp_law_take [] (waCons (wV 0) (waCons (wV 2) waNil)))) waNil)))) waNil))) waNil))) waNil))))))
def wp_law_swing : WP := (wDef 3 7 (wSeq (wAsg 3 (wOp false oAdd (wK (.int 1)) (wCall wp_law_take [] (waCons (wV 0) (waCons (wV 1) waNil)))))
    (wSeq (wAsg 4 (wLst false waNil))
    (wSeq (wFor (wiRng1 (waCons (wV 3) waNil)) (wgN 5) (wAsg 4 (wOp false oAdd (wV 4) (wLc false (wiRng1 (waCons (wV 3) waNil)) (wgN 6) (wTst (wOp false oEq (wOp false oMod (wCb false cbInt (waCons (wOp false oSub (wOp false oMul (wV 5) (wV 6)) (wK (.int 1))) waNil)) (wV 3)) (wK (.int 0)))) (wTup (waCons (wV 5) (waCons (wV 6) waNil))) [6]))))
    (wSeq (wAsgG (wgTup 2 (wgCons (wgN 5) (wgCons (wgN 6) wgNil))) (wCall wp_law_pick [] (waCons (wV 0) (waCons (wV 4) waNil))))
    (wSeq (wAsg 6 (wOp false oAdd (wV 6) (wOp false oMul (wV 3) (wCall wp_law_pick [] (waCons (wV 0) (waCons (wLst false (waCons (wK (.int 0)) (waCons (wK (.int 0)) (waCons (wK (.int 1)) (waCons (wUn false oNeg (wK (.int 1))) (waCons (wCall wp_law_number [] (waCons (wV 0) (waCons (wV 2) waNil))) waNil)))))) waNil))))))
    (wRet (wTup (waCons (wK (.str "turn")) (waCons (wV 5) (waCons (wOp false oFdiv (wOp false oSub (wOp false oMul (wV 5) (wV 6)) (wK (.int 1))) (wV 3)) (waCons (wV 3) (waCons (wV 6) waNil)))))))))))))
def wp_law_tail : WP := (wDef 2 3 (wSeq (wAsg 2 (wTup (waCons (wK (.str "turn")) (waCons (wCall wp_law_pick [] (waCons (wV 0) (waCons (wLst false (waCons (wK (.int 1)) (waCons (wK (.int 1)) (waCons (wUn false oNeg (wK (.int 1))) waNil)))) waNil))) (waCons (wCall wp_law_number [] (waCons (wV 0) (waCons (wV 1) waNil))) (waCons (wK (.int 0)) (waCons (wCall wp_law_pick [] (waCons (wV 0) (waCons (wLst false (waCons (wK (.int 1)) (waCons (wK (.int 1)) (waCons (wUn false oNeg (wK (.int 1))) waNil)))) waNil))) waNil)))))))
    (wRet (wLst false (waCons (wV 2) (waCons (wTup (waCons (wK (.str "move")) (waCons (wCall wp_law_number [] (waCons (wV 0) (waCons (wV 1) waNil))) (waCons (wCall wp_law_number [] (waCons (wV 0) (waCons (wV 1) waNil))) waNil)))) waNil))))))
def wp_law_core : WP := (wDef 4 6 (wSeq (wAsg 4 (wLst false waNil))
    (wSeq (wFor (wiRng1 (waCons (wOp false oAdd (wK (.int 1)) (wCall wp_law_take [] (waCons (wV 0) (waCons (wV 1) waNil)))) waNil)) (wgN 5) (wAsg 4 (wOp false oAdd (wV 4) (wLst false (waCons (wCall wp_law_curl [] (waCons (wV 0) (waCons (wV 2) (waCons (wV 3) waNil)))) (waCons (wCall wp_law_swing [] (waCons (wV 0) (waCons (wK (.int 3)) (waCons (wV 3) waNil)))) waNil))))))
    (wRet (wOp false oAdd (wV 4) (wCall wp_law_tail [] (waCons (wV 0) (waCons (wV 3) waNil))))))))
section
variable {μ : Mu} {Q X : QD} {QQ : QR} {d : D}
theorem Ja6 (i : Int) : cbInt [.int i] μ QQ X = QQ (.v (.int i)) μ := propext Iff.rfl
theorem ok_law_curl {most g : Int} {B : Nat} (h1 : 2 ≤ most) (h2 : most ≤ 6) (g1 : 1 ≤ g) (g2 : g ≤ B) (hB : B ≤ 10000000) (q : ∀ ns : List Int, bendB (.x ns) = true → (Stp.x ns).Ok B → (ns.length : Int) ≤ most + 1 → Q (Stp.x ns).b μ) : wp_law_curl [.state, .int most, .int g] μ Q X := by
  unfold wp_law_curl
  simp only [Jbv, initE, Jcs, Jce, Jbl, Jbm, Jc0, Jcn, Jco, Jc6, Jck, Jbn, Jcu, Jbo, Jbu, Jd6, Jd7, Jd5, Jd8, Jdd, Jda, Jdb, Jd9, Jc3, Jc8, Jd0, Jcz, Jc7, Jch, Jcy, Jcx, Jcb, Jbs, Jcw, Jcg, Jbk, Jcj, Jc5, Jbj, Jci, Jcf, Jd2, Jd1, Jd4, Jbp, Jcd, Jcm, Jc2, Jct, Jcc, Jbq, Jcp, Jcv, Jdf, Jdg, Jc9, Jcq, Jcr, Jc4, Jbr, Jc1, Jbx, Jca, gt, st, Jbc, Jba, Jbb, Jb8, Jbi, Ja5, atI0, atI1, atI2, atI3, atI4, ixN20, ixN21, List.map_cons, List.map_nil, List.cons_append, List.nil_append, List.append_nil, List.length_cons, List.length_nil, List.replicate_succ, List.replicate_zero, Nat.add_one_sub_one, Jd3, Jbt, Jby, Jbz, Jbw, Jaf, Jah, Jai, Jag, Jb7, Jaw, Jax, Jal, Jav, Jb4, Jau, Jat, Jan, Jam, Jb2, Jaj, Jak, Jb0, Jb1, Jaq, Jb3, Jar, Jas, Jao, Jap, Jb6, Jb5, Ja8, Ja9, Jad, Jac, Ja0, Jaa, Jab, Jbg, Jbh, Ja7, Jae, Jbd, Jbf, Jbe, Jb9, Ja2, Ja1, Ja4, Ja3, Jay, Jaz, decide_true, decide_false, Bool.not_true, Bool.not_false, Bool.false_eq_true, if_true, if_false, true_and]
  refine ⟨by simp [sizeLine_eq], ok_take (by omega) (Nat.lt_of_lt_of_le (by omega : (most - 1).natAbs < 2 ^ 20) (Nat.pow_le_pow_right (by decide) (by decide))) fun k k1 k2 => ⟨⟨by omega, by omega⟩, by rw [rangeD_len, sizeLine_eq]; omega, ?_⟩⟩
  refine lc_inv (fun i acc μ' => μ' = μ ∧ ∃ ns : List Int, acc = iL ns ∧ ns.length = i ∧ ∀ n ∈ ns, n.natAbs ≤ B) ⟨rfl, [], rfl, rfl, fun _ z => nomatch z⟩ ?_ ?_
  · rintro k x acc μ' N hx ⟨rfl, ns, rfl, hk, hn⟩ hN
    refine ⟨trivial, ?_⟩
    simp only [Jbv, initE, Jcs, Jce, Jbl, Jbm, Jc0, Jcn, Jco, Jc6, Jck, Jbn, Jcu, Jbo, Jbu, Jd6, Jd7, Jd5, Jd8, Jdd, Jda, Jdb, Jd9, Jc3, Jc8, Jd0, Jcz, Jc7, Jch, Jcy, Jcx, Jcb, Jbs, Jcw, Jcg, Jbk, Jcj, Jc5, Jbj, Jci, Jcf, Jd2, Jd1, Jd4, Jbp, Jcd, Jcm, Jc2, Jct, Jcc, Jbq, Jcp, Jcv, Jdf, Jdg, Jc9, Jcq, Jcr, Jc4, Jbr, Jc1, Jbx, Jca, gt, st, Jbc, Jba, Jbb, Jb8, Jbi, Ja5, atI0, atI1, atI2, atI3, atI4, ixN20, ixN21, List.map_cons, List.map_nil, List.cons_append, List.nil_append, List.append_nil, List.length_cons, List.length_nil, List.replicate_succ, List.replicate_zero, Nat.add_one_sub_one, Jd3, Jbt, Jby, Jbz, Jbw, Jaf, Jah, Jai, Jag, Jb7, Jaw, Jax, Jal, Jav, Jb4, Jau, Jat, Jan, Jam, Jb2, Jaj, Jak, Jb0, Jb1, Jaq, Jb3, Jar, Jas, Jao, Jap, Jb6, Jb5, Ja8, Ja9, Jad, Jac, Ja0, Jaa, Jab, Jbg, Jbh, Ja7, Jae, Jbd, Jbf, Jbe, Jb9, Ja2, Ja1, Ja4, Ja3, Jay, Jaz, decide_true, decide_false, Bool.not_true, Bool.not_false, Bool.false_eq_true, if_true, if_false, true_and, wipeE]
    refine ok_number (by omega) (by omega) fun j hj => hN _ _ ⟨rfl, ns ++ [j], iL_snoc ns j, by rw [List.length_append, hk]; rfl, fun n hm => ?_⟩
    rcases List.mem_append.mp hm with z | z
    · exact hn n z
    · rw [List.mem_singleton.mp z]
      omega
  · rintro acc μ' ⟨rfl, ns, rfl, hk, hn⟩
    rw [rangeD_len] at hk
    have fin : ∀ n : Int, n ≠ 0 → n.natAbs ≤ B → Q (Stp.x (0 :: 0 :: (ns ++ [n]))).b μ' := fun n n0 n1 => by
      refine q _ ?_ ⟨trim_snoc (0 :: 0 :: ns) n0, ?_, fun k hk2 => ?_⟩ ?_
      · simp only [bendB]
        rw [decide_eq_true (by simp)]
        rfl
      · simp
        omega
      · simp only [List.mem_cons, List.mem_append, List.not_mem_nil, or_false] at hk2
        rcases hk2 with rfl | rfl | z | rfl
        · exact Nat.zero_le _
        · exact Nat.zero_le _
        · exact hn k z
        · exact n1
      · simp
        omega
    refine ⟨trivial, by rw [iL_len, sizeLine_eq]; omega, ok_take (by omega) (Nat.lt_of_lt_of_le (by omega : g.natAbs < 2 ^ 30) (Nat.pow_le_pow_right (by decide) (by decide))) fun k k1 k2 => ?_⟩
    simp only [Jbv, initE, Jcs, Jce, Jbl, Jbm, Jc0, Jcn, Jco, Jc6, Jck, Jbn, Jcu, Jbo, Jbu, Jd6, Jd7, Jd5, Jd8, Jdd, Jda, Jdb, Jd9, Jc3, Jc8, Jd0, Jcz, Jc7, Jch, Jcy, Jcx, Jcb, Jbs, Jcw, Jcg, Jbk, Jcj, Jc5, Jbj, Jci, Jcf, Jd2, Jd1, Jd4, Jbp, Jcd, Jcm, Jc2, Jct, Jcc, Jbq, Jcp, Jcv, Jdf, Jdg, Jc9, Jcq, Jcr, Jc4, Jbr, Jc1, Jbx, Jca, gt, st, Jbc, Jba, Jbb, Jb8, Jbi, Ja5, atI0, atI1, atI2, atI3, atI4, ixN20, ixN21, List.map_cons, List.map_nil, List.cons_append, List.nil_append, List.append_nil, List.length_cons, List.length_nil, List.replicate_succ, List.replicate_zero, Nat.add_one_sub_one, Jd3, Jbt, Jby, Jbz, Jbw, Jaf, Jah, Jai, Jag, Jb7, Jaw, Jax, Jal, Jav, Jb4, Jau, Jat, Jan, Jam, Jb2, Jaj, Jak, Jb0, Jb1, Jaq, Jb3, Jar, Jas, Jao, Jap, Jb6, Jb5, Ja8, Ja9, Jad, Jac, Ja0, Jaa, Jab, Jbg, Jbh, Ja7, Jae, Jbd, Jbf, Jbe, Jb9, Ja2, Ja1, Ja4, Ja3, Jay, Jaz, decide_true, decide_false, Bool.not_true, Bool.not_false, Bool.false_eq_true, if_true, if_false, true_and]
    refine ⟨by simp [sizeLine_eq], ok_pick rfl (fun z => by cases z) (by simp) fun x hx => ?_⟩
    have hx2 : ∃ n : Int, x = .int n ∧ n ≠ 0 ∧ n.natAbs ≤ B := by
      simp only [List.mem_cons, List.not_mem_nil, or_false] at hx
      rcases hx with rfl | rfl | rfl
      · exact ⟨1, rfl, by decide, by omega⟩
      · exact ⟨-1, rfl, by decide, by omega⟩
      · exact ⟨1 + k, rfl, by omega, by omega⟩
    obtain ⟨n, rfl, n0, n1⟩ := hx2
    refine ⟨by simp [sizeLine_eq], ?_, by simp [sizeLine_eq], ?_⟩
    · simp only [List.length_cons, iL_len, List.length_nil, sizeLine_eq]
      omega
    have := fin n n0 n1
    rw [show (Stp.x (0 :: 0 :: (ns ++ [n]))).b = .tup [.str "x", .list (.int 0 :: .int 0 :: (iL ns ++ [.int n]))] by simp [Stp.b, iL]] at this
    exact this
/-- a pair of numbers that makes a quarter -/
def PrP (c : Int) (p : Int × Int) : Prop := 0 ≤ p.1 ∧ p.1 < c ∧ 0 ≤ p.2 ∧ p.2 < c ∧ (p.1 * p.2 - 1) % c = 0
def prDc (p : Int × Int) : D := .tup [.int p.1, .int p.2]
theorem ok_law_swing {most g : Int} {B : Nat} (h1 : 1 ≤ most) (h2 : most ≤ 7) (g1 : 1 ≤ g) (g2 : 7 * g + 20 ≤ B) (hB : B ≤ 10000000) (q : ∀ a b c d : Int, quarB (.turn a b c d) = true → (Stp.turn a b c d).Ok B → Q (Stp.turn a b c d).b μ) : wp_law_swing [.state, .int most, .int g] μ Q X := by
  unfold wp_law_swing
  simp only [Jbv, initE, Jcs, Jce, Jbl, Jbm, Jc0, Jcn, Jco, Jc6, Jck, Jbn, Jcu, Jbo, Jbu, Jd6, Jd7, Jd5, Jd8, Jdd, Jda, Jdb, Jd9, Jc3, Jc8, Jd0, Jcz, Jc7, Jch, Jcy, Jcx, Jcb, Jbs, Jcw, Jcg, Jbk, Jcj, Jc5, Jbj, Jci, Jcf, Jd2, Jd1, Jd4, Jbp, Jcd, Jcm, Jc2, Jct, Jcc, Jbq, Jcp, Jcv, Jdf, Jdg, Jc9, Jcq, Jcr, Jc4, Jbr, Jc1, Jbx, Jca, gt, st, Jbc, Jba, Jbb, Jb8, Jbi, Ja5, atI0, atI1, atI2, atI3, atI4, ixN20, ixN21, List.map_cons, List.map_nil, List.cons_append, List.nil_append, List.append_nil, List.length_cons, List.length_nil, List.replicate_succ, List.replicate_zero, Nat.add_one_sub_one, Jd3, Jbt, Jby, Jbz, Jbw, Jaf, Jah, Jai, Jag, Jb7, Jaw, Jax, Jal, Jav, Jb4, Jau, Jat, Jan, Jam, Jb2, Jaj, Jak, Jb0, Jb1, Jaq, Jb3, Jar, Jas, Jao, Jap, Jb6, Jb5, Ja8, Ja9, Jad, Jac, Ja0, Jaa, Jab, Jbg, Jbh, Ja7, Jae, Jbd, Jbf, Jbe, Jb9, Ja2, Ja1, Ja4, Ja3, Jay, Jaz, decide_true, decide_false, Bool.not_true, Bool.not_false, Bool.false_eq_true, if_true, if_false, true_and]
  refine ok_take (by omega) (Nat.lt_of_lt_of_le (by omega : most.natAbs < 2 ^ 20) (Nat.pow_le_pow_right (by decide) (by decide))) fun k k1 k2 => ?_
  obtain ⟨c, hc⟩ : ∃ c : Nat, 1 + k = (c : Int) := ⟨(1 + k).toNat, by omega⟩
  simp only [Jbv, initE, Jcs, Jce, Jbl, Jbm, Jc0, Jcn, Jco, Jc6, Jck, Jbn, Jcu, Jbo, Jbu, Jd6, Jd7, Jd5, Jd8, Jdd, Jda, Jdb, Jd9, Jc3, Jc8, Jd0, Jcz, Jc7, Jch, Jcy, Jcx, Jcb, Jbs, Jcw, Jcg, Jbk, Jcj, Jc5, Jbj, Jci, Jcf, Jd2, Jd1, Jd4, Jbp, Jcd, Jcm, Jc2, Jct, Jcc, Jbq, Jcp, Jcv, Jdf, Jdg, Jc9, Jcq, Jcr, Jc4, Jbr, Jc1, Jbx, Jca, gt, st, Jbc, Jba, Jbb, Jb8, Jbi, Ja5, atI0, atI1, atI2, atI3, atI4, ixN20, ixN21, List.map_cons, List.map_nil, List.cons_append, List.nil_append, List.append_nil, List.length_cons, List.length_nil, List.replicate_succ, List.replicate_zero, Nat.add_one_sub_one, Jd3, Jbt, Jby, Jbz, Jbw, Jaf, Jah, Jai, Jag, Jb7, Jaw, Jax, Jal, Jav, Jb4, Jau, Jat, Jan, Jam, Jb2, Jaj, Jak, Jb0, Jb1, Jaq, Jb3, Jar, Jas, Jao, Jap, Jb6, Jb5, Ja8, Ja9, Jad, Jac, Ja0, Jaa, Jab, Jbg, Jbh, Ja7, Jae, Jbd, Jbf, Jbe, Jb9, Ja2, Ja1, Ja4, Ja3, Jay, Jaz, decide_true, decide_false, Bool.not_true, Bool.not_false, Bool.false_eq_true, if_true, if_false, true_and, hc]
  have c1 : 1 ≤ c := by omega
  have c7 : c ≤ 7 := by omega
  have mu : ∀ {i j : Nat}, i < c → j < c → CMulU (i : Int) (j : Int) := fun hi hj => mulU_small (Nat.le_trans (by omega : _ ≤ 7) (by decide)) (Nat.le_trans (by omega : _ ≤ 7) (by decide))
  have start : c = 1 ∨ (1 * 1 - 1 : Int) % (c : Int) = 0 := .inr (by simp)
  refine ⟨Nat.zero_le _, ⟨by omega, by omega⟩, by rw [rangeD_len]; omega, for_inv (fun i e μ' => μ' = μ ∧ ∃ (L : List (Int × Int)) (x5 x6 : Option D), e = [some .state, some (.int most), some (.int g), some (.int (c : Int)), some (.list (L.map prDc)), x5, x6] ∧ (∀ p ∈ L, PrP c p) ∧ L.length ≤ i * c ∧ ((if c = 1 then 0 else 1) < i → L ≠ [])) ⟨rfl, [], _, _, rfl, (fun _ z => nomatch z), Nat.zero_le _, fun z => absurd z (Nat.not_lt_zero _)⟩ ?_ ?_⟩
  · rintro i x e μ' N hx ⟨rfl, L, x5, x6, rfl, hL, hlen, hne⟩ hN
    rw [rangeD_get] at hx
    split at hx
    · rename_i hi
      cases hx
      have hic : i < c := by omega
      have hmul : i * c ≤ 7 * 7 := Nat.mul_le_mul (by omega) c7
      refine ⟨trivial, ?_⟩
      simp only [Jbv, initE, Jcs, Jce, Jbl, Jbm, Jc0, Jcn, Jco, Jc6, Jck, Jbn, Jcu, Jbo, Jbu, Jd6, Jd7, Jd5, Jd8, Jdd, Jda, Jdb, Jd9, Jc3, Jc8, Jd0, Jcz, Jc7, Jch, Jcy, Jcx, Jcb, Jbs, Jcw, Jcg, Jbk, Jcj, Jc5, Jbj, Jci, Jcf, Jd2, Jd1, Jd4, Jbp, Jcd, Jcm, Jc2, Jct, Jcc, Jbq, Jcp, Jcv, Jdf, Jdg, Jc9, Jcq, Jcr, Jc4, Jbr, Jc1, Jbx, Jca, gt, st, Jbc, Jba, Jbb, Jb8, Jbi, Ja5, atI0, atI1, atI2, atI3, atI4, ixN20, ixN21, List.map_cons, List.map_nil, List.cons_append, List.nil_append, List.append_nil, List.length_cons, List.length_nil, List.replicate_succ, List.replicate_zero, Nat.add_one_sub_one, Jd3, Jbt, Jby, Jbz, Jbw, Jaf, Jah, Jai, Jag, Jb7, Jaw, Jax, Jal, Jav, Jb4, Jau, Jat, Jan, Jam, Jb2, Jaj, Jak, Jb0, Jb1, Jaq, Jb3, Jar, Jas, Jao, Jap, Jb6, Jb5, Ja8, Ja9, Jad, Jac, Ja0, Jaa, Jab, Jbg, Jbh, Ja7, Jae, Jbd, Jbf, Jbe, Jb9, Ja2, Ja1, Ja4, Ja3, Jay, Jaz, decide_true, decide_false, Bool.not_true, Bool.not_false, Bool.false_eq_true, if_true, if_false, true_and, Int.zero_add]
      refine ⟨⟨by omega, by omega⟩, by rw [rangeD_len, sizeLine_eq]; omega, lc_inv (fun j acc μ2 => μ2 = μ' ∧ ∃ L2 : List (Int × Int), acc = L2.map prDc ∧ (∀ p ∈ L2, PrP c p) ∧ L2.length ≤ j ∧ (i = (if c = 1 then 0 else 1) → i < j → L2 ≠ [])) ⟨rfl, [], rfl, (fun _ z => nomatch z), Nat.zero_le _, fun _ z => absurd z (Nat.not_lt_zero _)⟩ ?_ ?_⟩
      · rintro j y acc μ2 N2 hy ⟨rfl, L2, rfl, hL2, hlen2, hne2⟩ hN2
        rw [rangeD_get] at hy
        split at hy
        · rename_i hj
          cases hy
          have hjc : j < c := by omega
          refine ⟨trivial, ?_⟩
          simp only [Jbv, initE, Jcs, Jce, Jbl, Jbm, Jc0, Jcn, Jco, Jc6, Jck, Jbn, Jcu, Jbo, Jbu, Jd6, Jd7, Jd5, Jd8, Jdd, Jda, Jdb, Jd9, Jc3, Jc8, Jd0, Jcz, Jc7, Jch, Jcy, Jcx, Jcb, Jbs, Jcw, Jcg, Jbk, Jcj, Jc5, Jbj, Jci, Jcf, Jd2, Jd1, Jd4, Jbp, Jcd, Jcm, Jc2, Jct, Jcc, Jbq, Jcp, Jcv, Jdf, Jdg, Jc9, Jcq, Jcr, Jc4, Jbr, Jc1, Jbx, Jca, gt, st, Jbc, Jba, Jbb, Jb8, Jbi, Ja5, atI0, atI1, atI2, atI3, atI4, ixN20, ixN21, List.map_cons, List.map_nil, List.cons_append, List.nil_append, List.append_nil, List.length_cons, List.length_nil, List.replicate_succ, List.replicate_zero, Nat.add_one_sub_one, Jd3, Jbt, Jby, Jbz, Jbw, Jaf, Jah, Jai, Jag, Jb7, Jaw, Jax, Jal, Jav, Jb4, Jau, Jat, Jan, Jam, Jb2, Jaj, Jak, Jb0, Jb1, Jaq, Jb3, Jar, Jas, Jao, Jap, Jb6, Jb5, Ja8, Ja9, Jad, Jac, Ja0, Jaa, Jab, Jbg, Jbh, Ja7, Jae, Jbd, Jbf, Jbe, Jb9, Ja2, Ja1, Ja4, Ja3, Jay, Jaz, decide_true, decide_false, Bool.not_true, Bool.not_false, Bool.false_eq_true, if_true, if_false, true_and, wipeE, Int.zero_add, Ja6]
          refine ⟨mu hic hjc, by omega, ?_⟩
          by_cases hz : ((i : Int) * (j : Int) - 1) % (c : Int) = 0
          · rw [if_pos (decide_eq_true hz)]
            refine ⟨by simp [sizeLine_eq], hN2 _ _ ⟨rfl, L2 ++ [((i : Int), (j : Int))], by rw [List.map_append]; rfl, fun p hp => ?_, by rw [List.length_append]; exact Nat.add_le_add_right hlen2 1, fun _ _ => by simp⟩⟩
            rcases List.mem_append.mp hp with z | z
            · exact hL2 p z
            · rw [List.mem_singleton.mp z]
              exact ⟨by omega, by show (i : Int) < c; omega, by show (0 : Int) ≤ j; omega, by show (j : Int) < c; omega, hz⟩
          · rw [if_neg (by simpa using hz)]
            refine hN2 _ _ ⟨rfl, L2, rfl, hL2, by omega, fun e1 e2 => ?_⟩
            refine hne2 e1 ?_
            refine Nat.lt_of_le_of_ne (by omega) fun e3 => hz ?_
            subst e3
            split at e1
            · subst e1
              rename_i hc1
              subst hc1
              decide
            · subst e1
              simp
        · cases hy
      · rintro acc μ2 ⟨rfl, L2, rfl, hL2, hlen2, hne2⟩
        rw [rangeD_len, Int.toNat_natCast] at hlen2 hne2
        refine ⟨trivial, by rw [List.length_map, List.length_map, sizeLine_eq]; omega, hN _ _ ⟨rfl, L ++ L2, _, _, by rw [List.map_append], fun p hp => ?_, ?_, fun z => ?_⟩⟩
        · rcases List.mem_append.mp hp with z | z
          · exact hL p z
          · exact hL2 p z
        · rw [List.length_append, Nat.add_mul]
          omega
        · by_cases e1 : i = (if c = 1 then 0 else 1)
          · have := hne2 e1 hic
            simp [this]
          · have := hne (by omega)
            simp [this]
    · cases hx
  · rintro e μ' ⟨rfl, L, x5, x6, rfl, hL, hlen, hne⟩
    rw [rangeD_len, Int.toNat_natCast] at hlen hne
    have hmul : c * c ≤ 7 * 7 := Nat.mul_le_mul c7 c7
    have hL0 : L ≠ [] := hne (by split <;> omega)
    refine ⟨trivial, ok_pick (ds := L.map prDc) rfl (by simpa using hL0) (by rw [List.length_map]; omega) fun x hx => ?_⟩
    obtain ⟨⟨a, d0⟩, hp, rfl⟩ := List.mem_map.mp hx
    obtain ⟨p0, p1, p2, p3, p4⟩ := hL _ hp
    simp only at p0 p1 p2 p3 p4
    simp only [Jbv, initE, Jcs, Jce, Jbl, Jbm, Jc0, Jcn, Jco, Jc6, Jck, Jbn, Jcu, Jbo, Jbu, Jd6, Jd7, Jd5, Jd8, Jdd, Jda, Jdb, Jd9, Jc3, Jc8, Jd0, Jcz, Jc7, Jch, Jcy, Jcx, Jcb, Jbs, Jcw, Jcg, Jbk, Jcj, Jc5, Jbj, Jci, Jcf, Jd2, Jd1, Jd4, Jbp, Jcd, Jcm, Jc2, Jct, Jcc, Jbq, Jcp, Jcv, Jdf, Jdg, Jc9, Jcq, Jcr, Jc4, Jbr, Jc1, Jbx, Jca, gt, st, Jbc, Jba, Jbb, Jb8, Jbi, Ja5, atI0, atI1, atI2, atI3, atI4, ixN20, ixN21, List.map_cons, List.map_nil, List.cons_append, List.nil_append, List.append_nil, List.length_cons, List.length_nil, List.replicate_succ, List.replicate_zero, Nat.add_one_sub_one, Jd3, Jbt, Jby, Jbz, Jbw, Jaf, Jah, Jai, Jag, Jb7, Jaw, Jax, Jal, Jav, Jb4, Jau, Jat, Jan, Jam, Jb2, Jaj, Jak, Jb0, Jb1, Jaq, Jb3, Jar, Jas, Jao, Jap, Jb6, Jb5, Ja8, Ja9, Jad, Jac, Ja0, Jaa, Jab, Jbg, Jbh, Ja7, Jae, Jbd, Jbf, Jbe, Jb9, Ja2, Ja1, Ja4, Ja3, Jay, Jaz, decide_true, decide_false, Bool.not_true, Bool.not_false, Bool.false_eq_true, if_true, if_false, true_and, prDc]
    refine ok_number (by omega) (by omega) fun n hn => ⟨by simp [sizeLine_eq], ok_pick rfl (fun z => by cases z) (by simp) fun y hy => ?_⟩
    have hy2 : ∃ m : Int, y = .int m ∧ m.natAbs ≤ g.natAbs := by
      simp only [List.mem_cons, List.not_mem_nil, or_false] at hy
      rcases hy with rfl | rfl | rfl | rfl | rfl
      · exact ⟨0, rfl, by simp⟩
      · exact ⟨0, rfl, by simp⟩
      · exact ⟨1, rfl, by omega⟩
      · exact ⟨-1, rfl, by omega⟩
      · exact ⟨n, rfl, hn⟩
    obtain ⟨m, rfl, hm⟩ := hy2
    simp only [Jbv, initE, Jcs, Jce, Jbl, Jbm, Jc0, Jcn, Jco, Jc6, Jck, Jbn, Jcu, Jbo, Jbu, Jd6, Jd7, Jd5, Jd8, Jdd, Jda, Jdb, Jd9, Jc3, Jc8, Jd0, Jcz, Jc7, Jch, Jcy, Jcx, Jcb, Jbs, Jcw, Jcg, Jbk, Jcj, Jc5, Jbj, Jci, Jcf, Jd2, Jd1, Jd4, Jbp, Jcd, Jcm, Jc2, Jct, Jcc, Jbq, Jcp, Jcv, Jdf, Jdg, Jc9, Jcq, Jcr, Jc4, Jbr, Jc1, Jbx, Jca, gt, st, Jbc, Jba, Jbb, Jb8, Jbi, Ja5, atI0, atI1, atI2, atI3, atI4, ixN20, ixN21, List.map_cons, List.map_nil, List.cons_append, List.nil_append, List.append_nil, List.length_cons, List.length_nil, List.replicate_succ, List.replicate_zero, Nat.add_one_sub_one, Jd3, Jbt, Jby, Jbz, Jbw, Jaf, Jah, Jai, Jag, Jb7, Jaw, Jax, Jal, Jav, Jb4, Jau, Jat, Jan, Jam, Jb2, Jaj, Jak, Jb0, Jb1, Jaq, Jb3, Jar, Jas, Jao, Jap, Jb6, Jb5, Ja8, Ja9, Jad, Jac, Ja0, Jaa, Jab, Jbg, Jbh, Ja7, Jae, Jbd, Jbf, Jbe, Jb9, Ja2, Ja1, Ja4, Ja3, Jay, Jaz, decide_true, decide_false, Bool.not_true, Bool.not_false, Bool.false_eq_true, if_true, if_false, true_and]
    have cm : ((c : Int) * m).natAbs ≤ 7 * g.natAbs := by
      rw [Int.natAbs_mul]
      exact Nat.mul_le_mul (by omega) hm
    have hz : (a * (d0 + c * m) - 1) % (c : Int) = 0 := by
      have : a * (d0 + c * m) - 1 = (a * d0 - 1) + (a * m) * (c : Int) := by grind
      rw [this, Int.add_mul_emod_self_right]
      exact p4
    obtain ⟨b, hb⟩ : ∃ b, a * (d0 + c * m) - 1 = b * (c : Int) := ⟨(a * (d0 + c * m) - 1) / c, by
      have := Int.emod_add_mul_ediv (a * (d0 + c * m) - 1) c
      rw [hz, Int.zero_add, Int.mul_comm (c : Int)] at this
      exact this.symm⟩
    have hdiv : (a * (d0 + c * m) - 1) / (c : Int) = b := by rw [hb]; exact Int.mul_ediv_cancel _ (by omega)
    have dB : (d0 + c * m).natAbs ≤ 7 + 7 * g.natAbs := by
      have := Int.natAbs_add_le d0 (c * m)
      omega
    have hq : a * (d0 + c * m) - b * c = 1 := by omega
    have hj := quar_j p0 p1 hq
    refine ⟨mulU_small (Nat.le_trans (by omega : _ ≤ 7) (by decide)) (Nat.le_trans (by omega : _ ≤ 10000000) (by decide)), mulU_small (Nat.le_trans (by omega : _ ≤ 7) (by decide)) (Nat.le_trans (by omega : _ ≤ 100000000) (by decide)), wide_div (b := 10) (by omega) (by omega) (by decide) (by decide), by simp [sizeLine_eq], ?_⟩
    rw [hdiv]
    refine q a b c (d0 + c * m) ?_ ⟨.inl hq, by omega, by omega, by omega, by omega⟩
    show (decide (0 ≤ a) && (decide (a < (c : Int)) && decide (a * (d0 + c * m) - b * c = 1))) = true
    rw [decide_eq_true p0, decide_eq_true p1, decide_eq_true hq]
    rfl
theorem ok_law_tail {g : Int} {B : Nat} (g1 : 1 ≤ g) (g2 : g ≤ B) (hB : B ≤ 10000000) (q : ∀ t m : Stp, endB t m = true → t.Ok B → m.Ok B → t.low = false → m.low = false → Q (.list [t.b, m.b]) μ) : wp_law_tail [.state, .int g] μ Q X := by
  unfold wp_law_tail
  simp only [Jbv, initE, Jcs, Jce, Jbl, Jbm, Jc0, Jcn, Jco, Jc6, Jck, Jbn, Jcu, Jbo, Jbu, Jd6, Jd7, Jd5, Jd8, Jdd, Jda, Jdb, Jd9, Jc3, Jc8, Jd0, Jcz, Jc7, Jch, Jcy, Jcx, Jcb, Jbs, Jcw, Jcg, Jbk, Jcj, Jc5, Jbj, Jci, Jcf, Jd2, Jd1, Jd4, Jbp, Jcd, Jcm, Jc2, Jct, Jcc, Jbq, Jcp, Jcv, Jdf, Jdg, Jc9, Jcq, Jcr, Jc4, Jbr, Jc1, Jbx, Jca, gt, st, Jbc, Jba, Jbb, Jb8, Jbi, Ja5, atI0, atI1, atI2, atI3, atI4, ixN20, ixN21, List.map_cons, List.map_nil, List.cons_append, List.nil_append, List.append_nil, List.length_cons, List.length_nil, List.replicate_succ, List.replicate_zero, Nat.add_one_sub_one, Jd3, Jbt, Jby, Jbz, Jbw, Jaf, Jah, Jai, Jag, Jb7, Jaw, Jax, Jal, Jav, Jb4, Jau, Jat, Jan, Jam, Jb2, Jaj, Jak, Jb0, Jb1, Jaq, Jb3, Jar, Jas, Jao, Jap, Jb6, Jb5, Ja8, Ja9, Jad, Jac, Ja0, Jaa, Jab, Jbg, Jbh, Ja7, Jae, Jbd, Jbf, Jbe, Jb9, Ja2, Ja1, Ja4, Ja3, Jay, Jaz, decide_true, decide_false, Bool.not_true, Bool.not_false, Bool.false_eq_true, if_true, if_false, true_and]
  have sg : ∀ x ∈ [D.int 1, D.int 1, D.int (-1)], ∃ a : Int, x = .int a ∧ (a = 1 ∨ a = -1) := fun x hx => by
    simp only [List.mem_cons, List.not_mem_nil, or_false] at hx
    rcases hx with rfl | rfl | rfl
    · exact ⟨1, rfl, .inl rfl⟩
    · exact ⟨1, rfl, .inl rfl⟩
    · exact ⟨-1, rfl, .inr rfl⟩
  refine ⟨by simp [sizeLine_eq], ok_pick rfl (fun z => by cases z) (by simp) fun x hx => ?_⟩
  obtain ⟨a, rfl, ha⟩ := sg x hx
  refine ok_number (by omega) (by omega) fun b hb => ⟨by simp [sizeLine_eq], ok_pick rfl (fun z => by cases z) (by simp) fun x hx => ?_⟩
  obtain ⟨d, rfl, hd⟩ := sg x hx
  refine ⟨by simp [sizeLine_eq], ok_number (by omega) (by omega) fun m1 h1 => ok_number (by omega) (by omega) fun m2 h2 => ⟨by simp [sizeLine_eq], by simp [sizeLine_eq], ?_⟩⟩
  refine q (.turn a b 0 d) (.move m1 m2) rfl ⟨?_, by omega, by omega, Nat.zero_le _, by omega⟩ ⟨by omega, by omega⟩ rfl rfl
  rcases ha with rfl | rfl <;> rcases hd with rfl | rfl <;> simp [det1]
/-- bends and quarters by turns, a bend first, a quarter last -/
structure CoP (B m : Nat) (ps : List Stp) : Prop where
  ok : ∀ s ∈ ps, s.Ok B ∧ s.len ≤ m
  part : ∀ s ∈ ps, (bendB s || quarB s) = true
  alt : AltN ps ps.length
  last : ∀ s, ps.getLast? = some s → s.word = ("turn" : Str)
  even : ps.length % 2 = 0
  head : ∀ s, ps[0]? = some s → bendB s = true
theorem CoP.two {B m : Nat} {ps : List Stp} {ns : List Int} {a b c d : Int} (h : CoP B m ps) (h1 : bendB (.x ns) = true) (h2 : (Stp.x ns).Ok B) (h3 : ns.length ≤ m) (h4 : quarB (.turn a b c d) = true) (h5 : (Stp.turn a b c d).Ok B) : CoP B m (ps ++ [.x ns, .turn a b c d]) := by
  have e : ps ++ [.x ns, .turn a b c d] = (ps ++ [.x ns]) ++ [.turn a b c d] := by simp
  refine ⟨fun s hs => ?_, fun s hs => ?_, ?_, fun s hs => ?_, ?_, fun s hs => ?_⟩
  · rcases List.mem_append.mp hs with z | z
    · exact h.ok s z
    · simp only [List.mem_cons, List.not_mem_nil, or_false] at z
      rcases z with rfl | rfl
      · exact ⟨h2, h3⟩
      · exact ⟨h5, Nat.zero_le _⟩
  · rcases List.mem_append.mp hs with z | z
    · exact h.part s z
    · simp only [List.mem_cons, List.not_mem_nil, or_false] at z
      rcases z with rfl | rfl
      · rw [h1]; rfl
      · rw [h4, Bool.or_true]
  · rw [e]
    refine altN_snoc (altN_snoc h.alt fun s hs => ?_) fun s hs => ?_
    · rw [h.last s hs]
      exact Ne.symm xw
    · simp at hs
      rw [← hs]
      exact xw
  · rw [e] at hs
    simp at hs
    rw [← hs]
    rfl
  · have := h.even
    simp
    omega
  · cases ps with
    | nil =>
      cases hs
      exact h1
    | cons x r => exact h.head s (by simpa using hs)
theorem len_low {s : Stp} (h : s.low = false) : s.len = 0 := by
  cases s with
  | x ns => cases h
  | y ns => cases h
  | move a b => rfl
  | turn a b c d => rfl
theorem ok_law_core {couples most g : Int} {B : Nat} (c1 : 1 ≤ couples) (c2 : couples ≤ 10) (h1 : 2 ≤ most) (h2 : most ≤ 6) (g1 : 1 ≤ g) (g2 : 7 * g + 20 ≤ B) (hB : B ≤ 10000000) (q : ∀ ss : List Stp, CoreP ss → (ss.length : Int) ≤ 2 * couples + 2 → (∀ s ∈ ss, s.Ok B ∧ (s.len : Int) ≤ most + 1) → Q (.list (ss.map Stp.b)) μ) : wp_law_core [.state, .int couples, .int most, .int g] μ Q X := by
  unfold wp_law_core
  simp only [Jbv, initE, Jcs, Jce, Jbl, Jbm, Jc0, Jcn, Jco, Jc6, Jck, Jbn, Jcu, Jbo, Jbu, Jd6, Jd7, Jd5, Jd8, Jdd, Jda, Jdb, Jd9, Jc3, Jc8, Jd0, Jcz, Jc7, Jch, Jcy, Jcx, Jcb, Jbs, Jcw, Jcg, Jbk, Jcj, Jc5, Jbj, Jci, Jcf, Jd2, Jd1, Jd4, Jbp, Jcd, Jcm, Jc2, Jct, Jcc, Jbq, Jcp, Jcv, Jdf, Jdg, Jc9, Jcq, Jcr, Jc4, Jbr, Jc1, Jbx, Jca, gt, st, Jbc, Jba, Jbb, Jb8, Jbi, Ja5, atI0, atI1, atI2, atI3, atI4, ixN20, ixN21, List.map_cons, List.map_nil, List.cons_append, List.nil_append, List.append_nil, List.length_cons, List.length_nil, List.replicate_succ, List.replicate_zero, Nat.add_one_sub_one, Jd3, Jbt, Jby, Jbz, Jbw, Jaf, Jah, Jai, Jag, Jb7, Jaw, Jax, Jal, Jav, Jb4, Jau, Jat, Jan, Jam, Jb2, Jaj, Jak, Jb0, Jb1, Jaq, Jb3, Jar, Jas, Jao, Jap, Jb6, Jb5, Ja8, Ja9, Jad, Jac, Ja0, Jaa, Jab, Jbg, Jbh, Ja7, Jae, Jbd, Jbf, Jbe, Jb9, Ja2, Ja1, Ja4, Ja3, Jay, Jaz, decide_true, decide_false, Bool.not_true, Bool.not_false, Bool.false_eq_true, if_true, if_false, true_and]
  refine ⟨Nat.zero_le _, ok_take (by omega) (Nat.lt_of_lt_of_le (by omega : couples.natAbs < 2 ^ 20) (Nat.pow_le_pow_right (by decide) (by decide))) fun k k1 k2 => ?_⟩
  simp only [Jbv, initE, Jcs, Jce, Jbl, Jbm, Jc0, Jcn, Jco, Jc6, Jck, Jbn, Jcu, Jbo, Jbu, Jd6, Jd7, Jd5, Jd8, Jdd, Jda, Jdb, Jd9, Jc3, Jc8, Jd0, Jcz, Jc7, Jch, Jcy, Jcx, Jcb, Jbs, Jcw, Jcg, Jbk, Jcj, Jc5, Jbj, Jci, Jcf, Jd2, Jd1, Jd4, Jbp, Jcd, Jcm, Jc2, Jct, Jcc, Jbq, Jcp, Jcv, Jdf, Jdg, Jc9, Jcq, Jcr, Jc4, Jbr, Jc1, Jbx, Jca, gt, st, Jbc, Jba, Jbb, Jb8, Jbi, Ja5, atI0, atI1, atI2, atI3, atI4, ixN20, ixN21, List.map_cons, List.map_nil, List.cons_append, List.nil_append, List.append_nil, List.length_cons, List.length_nil, List.replicate_succ, List.replicate_zero, Nat.add_one_sub_one, Jd3, Jbt, Jby, Jbz, Jbw, Jaf, Jah, Jai, Jag, Jb7, Jaw, Jax, Jal, Jav, Jb4, Jau, Jat, Jan, Jam, Jb2, Jaj, Jak, Jb0, Jb1, Jaq, Jb3, Jar, Jas, Jao, Jap, Jb6, Jb5, Ja8, Ja9, Jad, Jac, Ja0, Jaa, Jab, Jbg, Jbh, Ja7, Jae, Jbd, Jbf, Jbe, Jb9, Ja2, Ja1, Ja4, Ja3, Jay, Jaz, decide_true, decide_false, Bool.not_true, Bool.not_false, Bool.false_eq_true, if_true, if_false, true_and]
  refine ⟨⟨by omega, by omega⟩, by rw [rangeD_len]; omega, for_inv (fun i e μ' => μ' = μ ∧ ∃ (ps : List Stp) (x5 : Option D), e = [some .state, some (.int couples), some (.int most), some (.int g), some (.list (ps.map Stp.b)), x5] ∧ CoP B (most + 1).toNat ps ∧ ps.length = 2 * i) ⟨rfl, [], _, rfl, ⟨(fun _ z => nomatch z), (fun _ z => nomatch z), (fun i s t z => absurd z (Nat.not_lt_zero _)), (fun s z => by cases z), rfl, (fun s z => by cases z)⟩, rfl⟩ ?_ ?_⟩
  · rintro i x e μ' N hx ⟨rfl, ps, x5, rfl, hP, hl⟩ hN
    have hi : (i : Int) < 1 + k := by
      have := (List.getElem?_eq_some_iff.mp hx).1
      rw [rangeD_len] at this
      omega
    refine ⟨trivial, ?_⟩
    simp only [Jbv, initE, Jcs, Jce, Jbl, Jbm, Jc0, Jcn, Jco, Jc6, Jck, Jbn, Jcu, Jbo, Jbu, Jd6, Jd7, Jd5, Jd8, Jdd, Jda, Jdb, Jd9, Jc3, Jc8, Jd0, Jcz, Jc7, Jch, Jcy, Jcx, Jcb, Jbs, Jcw, Jcg, Jbk, Jcj, Jc5, Jbj, Jci, Jcf, Jd2, Jd1, Jd4, Jbp, Jcd, Jcm, Jc2, Jct, Jcc, Jbq, Jcp, Jcv, Jdf, Jdg, Jc9, Jcq, Jcr, Jc4, Jbr, Jc1, Jbx, Jca, gt, st, Jbc, Jba, Jbb, Jb8, Jbi, Ja5, atI0, atI1, atI2, atI3, atI4, ixN20, ixN21, List.map_cons, List.map_nil, List.cons_append, List.nil_append, List.append_nil, List.length_cons, List.length_nil, List.replicate_succ, List.replicate_zero, Nat.add_one_sub_one, Jd3, Jbt, Jby, Jbz, Jbw, Jaf, Jah, Jai, Jag, Jb7, Jaw, Jax, Jal, Jav, Jb4, Jau, Jat, Jan, Jam, Jb2, Jaj, Jak, Jb0, Jb1, Jaq, Jb3, Jar, Jas, Jao, Jap, Jb6, Jb5, Ja8, Ja9, Jad, Jac, Ja0, Jaa, Jab, Jbg, Jbh, Ja7, Jae, Jbd, Jbf, Jbe, Jb9, Ja2, Ja1, Ja4, Ja3, Jay, Jaz, decide_true, decide_false, Bool.not_true, Bool.not_false, Bool.false_eq_true, if_true, if_false, true_and]
    refine ok_law_curl h1 h2 g1 (by omega) hB fun ns n1 n2 n3 => ok_law_swing (by decide) (by decide) g1 g2 hB fun a b c d t1 t2 => ⟨by simp [sizeLine_eq], by rw [List.length_map, sizeLine_eq]; omega, ?_⟩
    refine hN _ _ ⟨rfl, ps ++ [.x ns, .turn a b c d], _, by rw [List.map_append]; rfl, hP.two n1 n2 (by omega) t1 t2, by simp; omega⟩
  · rintro e μ' ⟨rfl, ps, x5, rfl, hP, hl⟩
    rw [rangeD_len] at hl
    refine ⟨trivial, ?_⟩
    simp only [Jbv, initE, Jcs, Jce, Jbl, Jbm, Jc0, Jcn, Jco, Jc6, Jck, Jbn, Jcu, Jbo, Jbu, Jd6, Jd7, Jd5, Jd8, Jdd, Jda, Jdb, Jd9, Jc3, Jc8, Jd0, Jcz, Jc7, Jch, Jcy, Jcx, Jcb, Jbs, Jcw, Jcg, Jbk, Jcj, Jc5, Jbj, Jci, Jcf, Jd2, Jd1, Jd4, Jbp, Jcd, Jcm, Jc2, Jct, Jcc, Jbq, Jcp, Jcv, Jdf, Jdg, Jc9, Jcq, Jcr, Jc4, Jbr, Jc1, Jbx, Jca, gt, st, Jbc, Jba, Jbb, Jb8, Jbi, Ja5, atI0, atI1, atI2, atI3, atI4, ixN20, ixN21, List.map_cons, List.map_nil, List.cons_append, List.nil_append, List.append_nil, List.length_cons, List.length_nil, List.replicate_succ, List.replicate_zero, Nat.add_one_sub_one, Jd3, Jbt, Jby, Jbz, Jbw, Jaf, Jah, Jai, Jag, Jb7, Jaw, Jax, Jal, Jav, Jb4, Jau, Jat, Jan, Jam, Jb2, Jaj, Jak, Jb0, Jb1, Jaq, Jb3, Jar, Jas, Jao, Jap, Jb6, Jb5, Ja8, Ja9, Jad, Jac, Ja0, Jaa, Jab, Jbg, Jbh, Ja7, Jae, Jbd, Jbf, Jbe, Jb9, Ja2, Ja1, Ja4, Ja3, Jay, Jaz, decide_true, decide_false, Bool.not_true, Bool.not_false, Bool.false_eq_true, if_true, if_false, true_and]
    refine ok_law_tail g1 (by omega) hB fun t m e1 e2 e3 e4 e5 => ?_
    simp only [Jbv, initE, Jcs, Jce, Jbl, Jbm, Jc0, Jcn, Jco, Jc6, Jck, Jbn, Jcu, Jbo, Jbu, Jd6, Jd7, Jd5, Jd8, Jdd, Jda, Jdb, Jd9, Jc3, Jc8, Jd0, Jcz, Jc7, Jch, Jcy, Jcx, Jcb, Jbs, Jcw, Jcg, Jbk, Jcj, Jc5, Jbj, Jci, Jcf, Jd2, Jd1, Jd4, Jbp, Jcd, Jcm, Jc2, Jct, Jcc, Jbq, Jcp, Jcv, Jdf, Jdg, Jc9, Jcq, Jcr, Jc4, Jbr, Jc1, Jbx, Jca, gt, st, Jbc, Jba, Jbb, Jb8, Jbi, Ja5, atI0, atI1, atI2, atI3, atI4, ixN20, ixN21, List.map_cons, List.map_nil, List.cons_append, List.nil_append, List.append_nil, List.length_cons, List.length_nil, List.replicate_succ, List.replicate_zero, Nat.add_one_sub_one, Jd3, Jbt, Jby, Jbz, Jbw, Jaf, Jah, Jai, Jag, Jb7, Jaw, Jax, Jal, Jav, Jb4, Jau, Jat, Jan, Jam, Jb2, Jaj, Jak, Jb0, Jb1, Jaq, Jb3, Jar, Jas, Jao, Jap, Jb6, Jb5, Ja8, Ja9, Jad, Jac, Ja0, Jaa, Jab, Jbg, Jbh, Ja7, Jae, Jbd, Jbf, Jbe, Jb9, Ja2, Ja1, Ja4, Ja3, Jay, Jaz, decide_true, decide_false, Bool.not_true, Bool.not_false, Bool.false_eq_true, if_true, if_false, true_and]
    refine ⟨by rw [List.length_map, sizeLine_eq]; omega, ?_⟩
    have hlen : 2 ≤ ps.length := by omega
    have := q (ps ++ [t, m]) ⟨plain_app.mpr ⟨e1, hP.part, hP.alt⟩, by simp; omega, by have := hP.even; simp; omega, ?_⟩ (by simp; omega) fun s hs => ?_
    · simpa using this
    · obtain ⟨s, hs⟩ : ∃ s, ps[0]? = some s := ⟨_, List.getElem?_eq_getElem (by omega)⟩
      exact ⟨s, by rw [List.getElem?_append_left (by omega)]; exact hs, hP.head s hs⟩
    · rcases List.mem_append.mp hs with z | z
      · have := hP.ok s z
        exact ⟨this.1, by omega⟩
      · simp at z
        rcases z with rfl | rfl
        · exact ⟨e2, by rw [len_low e4]; omega⟩
        · exact ⟨e3, by rw [len_low e5]; omega⟩
end
end DL

set_option Elab.async false
set_option linter.all false
set_option maxRecDepth 100000
set_option maxHeartbeats 4000000
/-! A49: any; names of tuples. -/
namespace DL
open PySem PyProof.Rows L2
variable [Gds]
section
variable {X : Cx} {c : Ctx} {W : WX}
end
/-! ### names of tuples -/
section
variable {X : Cx} {c : Ctx} {W : WX} {x : Str} {a : Addr} {ds : List D} {pos : Pos}
end
/-! ### != of tuples with own things, or None -/
section
variable {X : Cx} {c : Ctx} {W : WX} {k : Nat} {n : Str} {fs : List Str} {P : List D → Bool}
end
end DL

set_option Elab.async false
set_option linter.all false
set_option maxRecDepth 100000
set_option maxHeartbeats 4000000
/-! A50: {k: v, k: v} of two texts; d[e] of such a dict. -/
namespace DL
open PySem PyProof.Rows L2
section
variable {X : Cx} {c : Ctx} {W : WX} {ka kb ko : Nat} {a b o : Expr} {wa wb wo : WE} {m : Bool} {pos p1 p2 : Pos} {q1 q2 : Nat} {k1 k2 : Str}
end
end DL

set_option Elab.async false
set_option linter.all false
set_option maxRecDepth 100000
set_option maxHeartbeats 4000000
/-! A51: in and not in by an own __contains__. -/
namespace DL
open PySem PyProof.Rows L2
variable [Gds]
open PySem.W in
theorem in_own51 {prog : Program} {w : World} {A : Around} {E : Value → Shared → Prop} {s : Shared} {K : PySem.W.Frag} {x C f : Addr} {ox : Obj} {od : Option Obj} {b : Value} {Q : Bool → Shared → Prop} (X : K.In s.heap) (I : PySem.W.InstAt s.heap x ox C od) (hs : findIn K (.ref C) "__contains__" = some (some (.ref f))) (hf : isFn K (.ref f) = true)
    (h : wpAny (model prog w) A (call (.ref f) [.ref x, b]) (fun r s' => ∃ q, r = .bool q ∧ Q q s') E s) : wpAny (model prog w) A (contains (.ref x) b) Q E s := by
  unfold contains
  refine wpAny_holding ?_
  show wpAny _ _ (specialOf (.ref x) (Str.ofString "__contains__") >>= _) _ _ _
  refine wpAny_bind (wpAny_bind (I.type.here ((looks_findIn X hs).here ?_)))
  refine wpAny_ite_false (by rfl) ?_
  show wpAny _ _ (callSpecialUnlessNone? (.ref x) (Str.ofString "__contains__") [b] _ >>= _) _ _ _
  refine wpAny_bind ?_
  unfold callSpecialUnlessNone?
  refine wpAny_bind (wpAny_bind (I.type.here ((looks_findIn X hs).here (wpAny_holding (wpAny_bind ((bind_fn X _ (beq_iff_eq.mp hf)).here ?_))))))
  refine wpAny_ite_false (by rfl) ?_
  refine wpAny_bind (wpAny_mono h (fun r s' z => wpAny_pure ?_) fun _ _ z => z)
  obtain ⟨q, rfl, hq⟩ := z
  exact wpAny_truthy_bool hq
def oNotInO (n : Str) (s : WP) : WOp := fun x y μ Q X => clsOf μ y = some n ∧ s [y, x] μ (fun d μ1 => match d with
  | .bool b => Q (.v (.bool (!b))) μ1
  | _ => False) X
section
variable {X : Cx} {c : Ctx} {W : WX} {k kf : Nat} {n : Str} {s : WP} {f : Addr} {fd : FuncData} {ps : List Str}
theorem w_notInO (G : FnW X.prog X.w X.K X.mg X.base k f fd ps (SpW c s kf)) (gd : Gds.ok X.A) (hr : Room k X.A) (hb : Binds X.K fd ps []) (tk : Takes X W) (hs : Spl X.K (c.cl n) "__contains__" f) : Op2 X c W kf (compareOp .NotIn) (oNotInO n s) := by
  intro pins sh σ H vx vy v u Q J rx ry h
  obtain ⟨S, F, m, I, μ, dx, dy, Qd, Xd, hl, w, ra, rb, ⟨h1, h⟩, q, x⟩ := h
  obtain ⟨fs, ds, e1⟩ := clsOf_some h1
  obtain ⟨a, _, _, rfl, ha, _⟩ := asObj_rep w rb e1
  cases ry
  obtain ⟨mA, Oa, _⟩ := ins_get J.hok ha
  obtain ⟨od, Ja, _⟩ := Oa.look
  unfold compareOp
  dsimp only
  refine wpAny_bind (m := contains (.ref a) v) (in_own51 J.kIn Ja hs.at_ hs.fn ?_)
  refine thn (run_fnW (us := [.ref a, v]) (vs := [.ref a, vx]) (Q := fun v H' => ∃ r, v = .bl r ∧ Q (.bl (!r)) H') (dvs := []) G gd hr hb .nil tk J (.cons rfl (.cons rx .nil)) (sp_of hl w (.cons rb (.cons ra .nil)) h (fun d μ' v I' H' p s w r => ?_) x)) fun r s' z => ?_
  · cases r <;> first | exact False.elim p | exact ⟨_, rfl, q _ μ' _ I' H' p s w .bool⟩
  · obtain ⟨z, H', I', rz, b', rfl, q'⟩ := z
    cases rz
    exact ⟨b', rfl, wpAny_pure ⟨.bl _, H', I', rfl, q'⟩⟩
end
end DL

set_option Elab.async false
set_option linter.all false
set_option maxRecDepth 100000
set_option maxHeartbeats 4000000
/-! A31: try, of which no exception is asked; names of whole numbers and texts. -/
namespace DL
open PySem PyProof.Rows L2
section
variable {X : Cx} {c : Ctx} {W : WX} {k : Nat} {x s : Str} {i : Int} {pos : Pos}
end
section
variable {X : Cx} {c : Ctx} {W : WX} {k : Nat} {a b d tg : Expr} {wr : WA} {pos : Pos}
end
end DL

set_option Elab.async false
set_option linter.all false
set_option maxRecDepth 100000
set_option maxHeartbeats 4000000
/-! A52: range by twos. -/
namespace DL
open PySem PyProof.Rows L2
/-- lo, lo + 2, .. (n of them) -/
def twoD (lo : Int) (n : Nat) : List D := (List.range n).map fun (i : Nat) => .int (lo + (i : Nat) * 2)
def wiRng3U (a : WA) : WI := fun e μ Q X => a e μ (fun ds μ1 => match ds with
  | [.int lo, .int hi, .int z] => z = 2 ∧ (-1000000 ≤ lo ∧ lo ≤ hi ∧ hi ≤ 1000000) ∧ Q ⟨twoD lo ((hi - lo + 1) / 2).toNat, fun _ => True⟩ μ1
  | _ => False) X
theorem Jdc (a : WA) (e : EnvD) (μ : Mu) (Q : Src → Mu → Prop) (X : QD) : wiRng3U a e μ Q X = a e μ (fun ds μ1 => match ds with
  | [.int lo, .int hi, .int z] => z = 2 ∧ (-1000000 ≤ lo ∧ lo ≤ hi ∧ hi ≤ 1000000) ∧ Q ⟨twoD lo ((hi - lo + 1) / 2).toNat, fun _ => True⟩ μ1
  | _ => False) X := propext Iff.rfl
theorem twoD_get (lo : Int) (n i : Nat) : (twoD lo n)[i]? = if i < n then some (.int (lo + (i : Nat) * 2)) else Option.none := by
  unfold twoD
  rw [List.getElem?_map]
  by_cases h : i < n
  · rw [if_pos h, List.getElem?_range h]
    rfl
  · rw [if_neg h, List.getElem?_eq_none (by rw [List.length_range]; omega)]
    rfl
theorem twoD_len (lo : Int) (n : Nat) : (twoD lo n).length = n := by
  unfold twoD
  rw [List.length_map, List.length_range]
theorem rgc_two {lo hi : Int} (h0 : -1000000 ≤ lo) (h1 : lo ≤ hi) (h2 : hi ≤ 1000000) : RgC lo hi 2 ((hi - lo + 1) / 2).toNat := by
  have size : Builtin.Range.rangeSize lo hi 2 = (hi - lo + 1) / 2 := by
    unfold Builtin.Range.rangeSize
    rw [if_pos (by decide)]
    split <;> omega
  refine ⟨by decide, by decide, ?_, by rw [size]; omega⟩
  unfold Builtin.Range.small
  rw [size]
  simp only [Builtin.Range.rangeFitsLong, Bool.and_eq_true, Bool.or_eq_true, decide_eq_true_eq, beq_iff_eq, show ((2 : Int) > 0) by decide, if_true]
  omega
section
variable {X : Cx} {c : Ctx} {W : WX} {k : Nat} {a b d tg : Expr} {wr : WA} {pos : Pos}
theorem itr_two {S : Option SA} {F0 I : Hp} {ok : Mu → Prop} (lo : Int) (n : Nat) : ItD c S F0 (Itc lo 2 n) I ⟨twoD lo n, ok⟩ := fun F i m I2 O2 H2 _ s2 w2 o => by
  show (∀ d, (twoD lo n)[i]? = some d → _) ∧ ((twoD lo n)[i]? = _ → _)
  rw [twoD_get]
  by_cases h : i < n
  · rw [if_pos h]
    refine ⟨fun d hd => ⟨h, fun v H' ⟨e1, e2⟩ => ⟨I2, Same.refl I2, by rw [e1]; exact w2, ?_⟩⟩, fun hd => by cases hd⟩
    rw [← Option.some.inj hd, e2]
    exact .int
  · rw [if_neg h]
    refine ⟨fun d hd => (by cases hd), fun _ => ?_⟩
    show n ≤ i
    omega
theorem gi_rng3U {p : Pos} (hg : Gl X "range") (hm : X.mg "range" = none) (ha : GA X c W k [a, b, d] wr) (hs : starEach [a, b, d] X.env = (false, eval a X.env) :: starEach [b, d] X.env := by rfl) (hpl : (backTo pos (starEach [b, d] X.env)).any (·.1) = false := by rfl) : GI X c W k tg (.Call (.Name "range" p) [a, b, d] [] pos) (wiRng3U wr) := L2.PI.imp (pi_range3 hg hm ha hs hpl) fun σ H R h => by
  obtain ⟨S, F, n, I, μ, e, Qd, Xd, hl, he, hw, h, q, x⟩ := h
  refine ⟨S, F, n, I, μ, e, _, Xd, hl, he, hw, h, fun ds μ1 vs I1 H1 p s1 u1 r1 => ?_, x⟩
  dsimp only at p
  split at p
  · rename_i lo hi z
    obtain ⟨rfl, ⟨p0, p1, p2⟩, p3⟩ := p
    cases r1 with
    | cons r1 rr =>
    cases rr with
    | cons r2 rr =>
    cases rr with
    | cons r3 rr =>
    cases rr
    cases r1
    cases r2
    cases r3
    exact ⟨lo, hi, 2, _, rfl, rgc_two p0 p1 p2, q _ μ1 _ I1 H1 F (fun _ _ z => z) p3 s1 u1 (itr_two lo _)⟩
  · exact p.elim
end
end DL

set_option Elab.async false
set_option linter.all false
set_option maxRecDepth 100000
set_option maxHeartbeats 4000000
/-! A29: dicts with tuple keys: {}, d[k], d.get(k, x), d[k] = v. -/
namespace DL
open PySem PyProof.Rows L2
section
variable {c : Ctx} {S : Option SA} {F : Hp} {n : Nat} {I H : Hp} {μ : Mu}
end
/-! ### wishes -/
section
variable {X : Cx} {c : Ctx} {W : WX} {k ka kb kc ko kf : Nat} {a b d o v : Expr} {wa wb wd wo wv wk : WE} {m : Bool} {pos pos' apos cpos : Pos}
end
end DL

set_option Elab.async false
set_option linter.all false
set_option maxRecDepth 100000
set_option maxHeartbeats 4000000
/-! A30: dicts with tuple keys are walked: by keys, by items. -/
namespace L2
open PySem PySem.Spec PyProof.Rows
section
variable {P : Program} {w : World} {K : PySem.W.Frag} {tg : Expr} {d : Addr} {o : Obj} {es : Array DictEntry} {ep : Nat}
end
section
variable {X : Cx} {tg e : Expr} {td : TE} {apos cpos : Pos}
end
end L2
namespace DL
open PySem PyProof.Rows L2
section
variable {c : Ctx} {S : Option SA} {F : Hp} {n : Nat} {I H : Hp} {μ : Mu} {a : Addr} {u : HO}
end
section
variable {X : Cx} {c : Ctx} {W : WX} {k : Nat} {a tg : Expr} {wa : WE} {apos cpos : Pos}
end
end DL

set_option Elab.async false
set_option linter.all false
set_option maxRecDepth 100000
set_option maxHeartbeats 4000000
/-! A32: sorted(d), the keys pairs of whole numbers. -/
namespace L2
open PySem PySem.Spec PyProof.Rows
section
variable {prog : Program} {w : World} {A : Around} {E : Value → Shared → Prop} {s : Shared} {d : Addr} {o : Obj} {es : Array DictEntry} {ep : Nat}
end
section
variable {X : Cx}
end
end L2
namespace DL
open PySem PyProof.Rows L2
section
variable {X : Cx} {c : Ctx} {S : Option SA} {F : Hp} {n : Nat} {I H : Hp} {μ : Mu}
end
end DL

set_option Elab.async false
set_option linter.all false
set_option maxRecDepth 100000
set_option maxHeartbeats 4000000
/-! A33: {k: v for .. in .. if ..}, the keys tuples. -/
namespace L2
open PySem PySem.Spec PyProof.Rows
section
variable {X : Cx}
end
end L2
namespace DL
open PySem PyProof.Rows L2
section
variable {X : Cx} {c : Ctx} {W : WX} {k ka kb kc kt kk kv : Nat} {m : Bool} {js : List Nat} {g : WG} {wi : WI} {wt : WT} {wa wb : WE} {vs : List Nat}
end
end DL

set_option Elab.async false
set_option linter.all false
set_option maxRecDepth 100000
set_option maxHeartbeats 4000000
/-! A34: dict(d), dict(list of pairs), the keys pairs of small whole numbers. -/
namespace L2
open PySem PySem.Spec PyProof.Rows
/-! ### the hashes of small pairs are apart -/
end L2
namespace L2
open PySem PySem.Spec PyProof.Rows
end L2

set_option Elab.async false
set_option linter.all false
set_option maxRecDepth 100000
set_option maxHeartbeats 4000000
/-! A35: dict(d), dict(list of pairs), the keys tuples. -/
namespace L2
open PySem PySem.Spec PyProof.Rows
section
variable {X : Cx}
end
end L2

set_option Elab.async false
set_option linter.all false
set_option maxRecDepth 100000
set_option maxHeartbeats 4000000
/-! A36: max(.., default=..), sum, max of a list; dict(..). -/
namespace L2
open PySem PySem.Spec PyProof.Rows
section
variable {prog : Program} {w : World} {A : Around} {E : Value → Shared → Prop} {s : Shared} {l : Addr} {its : List Value} {ns : List Int}
end
section
variable {X : Cx}
end
end L2
namespace DL
open PySem PyProof.Rows L2
theorem reps_ints {c : Ctx} {S : Option SA} {I : Hp} : ∀ {ns : List Int} {xs : List V}, Reps c S I (ns.map D.int) xs → xs = ns.map V.int
  | [], _, .nil => rfl
  | n :: ns, _, .cons r rs => by
    cases r
    rw [List.map_cons, reps_ints rs]
/-- sum of a list of whole numbers -/
def cbSum : WC := fun ds μ Q _ => one ds fun x => match seqL μ x with
  | some zs => ∃ ns : List Int, zs = ns.map D.int ∧ Q (.v (.int ns.sum)) μ
  | Option.none => False
/-- max of a list of whole numbers -/
def cbMaxL : WC := fun ds μ Q _ => one ds fun x => match seqL μ x with
  | some zs => ∃ ns : List Int, zs = ns.map D.int ∧ ns ≠ [] ∧ ∀ m, m ∈ ns → (∀ y, y ∈ ns → y ≤ m) → Q (.v (.int m)) μ
  | Option.none => False
section
variable {X : Cx} {c : Ctx} {W : WX} {ka kb : Nat} {wa wb : WA}
theorem w_sum (hc : X.calm = true := by rfl) : CbW X c (.builtin "sum") cbSum := cbw_of (cr_sum hc) fun S F n I μ ds vs H Qd Xd Q w rs h q => by
  obtain ⟨x, rfl, g⟩ := one_cases h
  obtain ⟨v, rfl, rv⟩ := reps1 rs
  clear h
  revert g
  intro h
  split at h
  · rename_i zs e
    obtain ⟨ns, rfl, h⟩ := h
    obtain ⟨l, xs, rfl, h1, r1⟩ := seqL_rep w rv e
    obtain rfl := reps_ints r1
    exact ⟨l, ns, rfl, SqL.of h1, q _ μ _ I H h (Same.refl I) w .int⟩
  · exact h.elim
theorem w_maxL (hc : X.calm = true := by rfl) : CbW X c (.builtin "max") cbMaxL := cbw_of (cr_max hc) fun S F n I μ ds vs H Qd Xd Q w rs h q => by
  obtain ⟨x, rfl, g⟩ := one_cases h
  obtain ⟨v, rfl, rv⟩ := reps1 rs
  clear h
  revert g
  intro h
  split at h
  · rename_i zs e
    obtain ⟨ns, rfl, h0, h⟩ := h
    obtain ⟨l, xs, rfl, h1, r1⟩ := seqL_rep w rv e
    obtain rfl := reps_ints r1
    exact ⟨l, ns, rfl, SqL.of h1, List.length_pos_iff.mpr h0, fun m hm hx => q _ μ _ I H (h m hm hx) (Same.refl I) w .int⟩
  · exact h.elim
end
end DL

set_option Elab.async false
set_option linter.all false
set_option maxRecDepth 100000
set_option maxHeartbeats 4000000
/-! Q0: the bends and quarters of a core, one after the other. -/
namespace DL
open PySem L2
def wp_with_end : WP := (wDef 3 11 (wSeq (wAsgG (wgTup 4 (wgCons (wgN 3) (wgCons (wgN 4) (wgCons (wgN 5) (wgCons (wgN 6) wgNil))))) (wSl false oSl (wV 0) (woSome (wK (.int 1))) woNone))
    (wSeq (wAsgG (wgTup 4 (wgCons (wgN 7) (wgCons (wgN 8) (wgCons (wgN 9) (wgCons (wgN 10) wgNil))))) (wSl false oSl (wV 1) (woSome (wK (.int 1))) woNone))
    (wRet (wTup (waCons (wOp false oAdd (wOp false oMul (wV 7) (wV 3)) (wOp false oMul (wV 8) (wV 5))) (waCons (wOp false oAdd (wOp false oMul (wV 7) (wV 4)) (wOp false oMul (wV 8) (wV 6))) (waCons (wOp false oMul (wV 10) (wV 5)) (waCons (wOp false oMul (wV 10) (wV 6)) (waCons (wOp false oIx (wV 2) (wK (.int 1))) (waCons (wOp false oIx (wV 2) (wK (.int 2))) waNil)))))))))))
def wp_couples_of : WP := (wDef 1 4 (wSeq (wPar 1 2 (waCons (wProp "Program" "steps" wp_Program_steps (wV 0)) (waCons (wLst true waNil) waNil)))
    (wSeq (wFor (wiRng3U (waCons (wK (.int 0)) (waCons (wOp false oSub (wCb false cbLen (waCons (wV 1) waNil)) (wK (.int 4))) (waCons (wK (.int 2)) waNil)))) (wgN 3) (wDrop (wLm false mApp (wV 2) (waCons (wTup (waCons (wOp false oIx (wOp false oIx (wV 1) (wV 3)) (wK (.int 1))) (waCons (wTup (waStar (wSl false oSl (wOp false oIx (wV 1) (wOp false oAdd (wV 3) (wK (.int 1)))) (woSome (wK (.int 1))) woNone) (waCons (wK (.int 0)) (waCons (wK (.int 0)) waNil)))) waNil))) waNil))))
    (wFz 2 (wRet (wLst false (waStar (wV 2) (waCons (wTup (waCons (wOp false oIx (wOp false oIx (wV 1) (wUn false oNeg (wK (.int 4)))) (wK (.int 1))) (waCons (wCall wp_with_end [] (waCons (wOp false oIx (wV 1) (wUn false oNeg (wK (.int 3)))) (waCons (wOp false oIx (wV 1) (wUn false oNeg (wK (.int 2)))) (waCons (wOp false oIx (wV 1) (wUn false oNeg (wK (.int 1)))) waNil)))) waNil))) waNil))))))))
abbrev Cp := List Int × Int × Int × Int × Int
def cpS : List Cp → List Stp
  | [] => []
  | (r, a, b, c, d) :: cs => .x r :: .turn a b c d :: cpS cs
structure En where
  e : Int
  n : Int
  f : Int
  s : Int
  t : Int
def En.S (g : En) : List Stp := [.turn g.e g.n 0 g.f, .move g.s g.t]
structure Sx where
  r : List Int
  a : Int
  b : Int
  c : Int
  d : Int
  s : Int
  t : Int
def sx0 : Cp → Sx
  | (r, a, b, c, d) => ⟨r, a, b, c, d, 0, 0⟩
def sxL : Cp → En → Sx
  | (r, a, b, c, d), g => ⟨r, g.e * a + g.n * c, g.e * b + g.n * d, g.f * c, g.f * d, g.s, g.t⟩
def Sx.n (x : Sx) : List Int := [x.a, x.b, x.c, x.d, x.s, x.t]
def Sx.p (x : Sx) : D := .tup [ruleD x.r, .tup (iL x.n)]
def Sx.l (x : Sx) : D := .tup [.list (iL x.r), .tup (iL x.n)]
/-- a core, told by its bends and quarters and its end -/
structure Cor (ss : List Stp) (cs : List Cp) (q : Cp) (g : En) : Prop where
  e : ss = cpS (cs ++ [q]) ++ g.S
theorem cpS_app : ∀ a b : List Cp, cpS (a ++ b) = cpS a ++ cpS b
  | [], _ => rfl
  | (r, x, y, z, w) :: a, b => by rw [List.cons_append, cpS, cpS, cpS_app a b]; rfl
theorem cpS_len : ∀ a : List Cp, (cpS a).length = 2 * a.length
  | [] => rfl
  | (r, x, y, z, w) :: a => by
    rw [cpS, List.length_cons, List.length_cons, cpS_len a, List.length_cons]
    omega
theorem cpS_get : ∀ (cs : List Cp) (k : List Stp) (i : Nat) (q : Cp), cs[i]? = some q → (cpS cs ++ k)[2 * i]? = some (.x q.1) ∧ (cpS cs ++ k)[2 * i + 1]? = some (.turn q.2.1 q.2.2.1 q.2.2.2.1 q.2.2.2.2)
  | (r, x, y, z, w) :: cs, k, 0, q, h => by
    cases h
    exact ⟨rfl, rfl⟩
  | (r, x, y, z, w) :: cs, k, i + 1, q, h => by
    have := cpS_get cs k i q (by simpa using h)
    rw [show 2 * (i + 1) = 2 * i + 1 + 1 by omega]
    exact this
theorem parts_cp : ∀ (n : Nat) (ps : List Stp), ps.length = 2 * n → (∀ s ∈ ps, (bendB s || quarB s) = true) → AltN ps ps.length → (∀ s, ps[0]? = some s → bendB s = true) → ∃ cs, ps = cpS cs ∧ cs.length = n
  | 0, ps, hl, _, _, _ => ⟨[], List.eq_nil_of_length_eq_zero (by omega), rfl⟩
  | n + 1, ps, hl, hp, ha, h0 => by
    match ps, hl, hp, ha, h0 with
    | a :: b :: ps, hl, hp, ha, h0 =>
      have ba := h0 a rfl
      have ne := ha 0 a b (by simp) rfl rfl
      have hb := hp b (by simp)
      simp only [List.length_cons] at hl
      have up : AltN ps ps.length := fun i s t hi h1 h2 => ha (i + 2) s t (by simp only [List.length_cons]; omega) (by simpa using h1) (by simpa using h2)
      have first : ∀ s, ps[0]? = some s → bendB s = true := fun s hs => by
        have ne2 := ha 1 b s (by simp) rfl (by simpa using hs)
        have hs2 := hp s (by
          have := List.mem_of_getElem? hs
          simp [this])
        cases a with
        | x r =>
          cases b with
          | turn i j k l =>
            cases s with
            | x r => simpa [quarB] using hs2
            | turn i' j' k' l' => exact absurd rfl ne2
            | y r => simp [bendB, quarB] at hs2
            | move i j => simp [bendB, quarB] at hs2
          | x r' => exact absurd rfl ne
          | y r' => simp [bendB, quarB] at hb
          | move i j => simp [bendB, quarB] at hb
        | y r => cases ba
        | move i j => cases ba
        | turn i j k l => cases ba
      obtain ⟨cs, e1, e2⟩ := parts_cp n ps (by omega) (fun s hs => hp s (by simp [hs])) up first
      cases a with
      | x r =>
        cases b with
        | turn i j k l => exact ⟨(r, i, j, k, l) :: cs, by rw [cpS, e1], by rw [List.length_cons, e2]⟩
        | x r' => exact absurd rfl ne
        | y r' => simp [bendB, quarB] at hb
        | move i j => simp [bendB, quarB] at hb
      | y r => cases ba
      | move i j => cases ba
      | turn i j k l => cases ba
    | [], hl, _, _, _ => simp at hl
    | [_], hl, _, _, _ => simp at hl; omega
theorem core_cor {ss : List Stp} (h : CoreP ss) : ∃ cs q g, Cor ss cs q g := by
  obtain ⟨⟨ps, t, m, rfl, he, hp, ha⟩, l4, ev, s, hs, hb⟩ := h
  simp only [List.length_append, List.length_cons, List.length_nil] at l4 ev
  obtain ⟨cs, e1, e2⟩ := parts_cp (ps.length / 2) ps (by omega) hp ha fun s' hs' => by
    rw [List.getElem?_append_left (by omega), hs'] at hs
    cases hs
    exact hb
  have ne : cs ≠ [] := fun z => by
    rw [z] at e2
    simp at e2
    omega
  cases t with
  | turn e n c f =>
    cases m with
    | move x y =>
      have c0 : c = 0 := by simpa [endB] using he
      subst c0
      refine ⟨cs.dropLast, cs.getLast ne, ⟨e, n, f, x, y⟩, ⟨?_⟩⟩
      rw [List.dropLast_concat_getLast, e1]
      rfl
    | x r => cases he
    | y r => cases he
    | turn i j k l => cases he
  | x r => cases he
  | y r => cases he
  | move i j => cases he
section
variable {μ : Mu} {Q X : QD} {ss : List Stp} {cs : List Cp} {q : Cp} {g : En} {B : Nat}
theorem cut4 (x : D) (a b c d : Int) : cutD [x, D.int a, D.int b, D.int c, D.int d] (some 1) Option.none = [D.int a, D.int b, D.int c, D.int d] := by
  have := cut_drop [x, D.int a, D.int b, D.int c, D.int d] 1
  rw [show ((1 : Nat) : Int) = 1 from rfl] at this
  rw [this]
  rfl
theorem ok_with_end (h : ∀ s ∈ (Stp.turn q.2.1 q.2.2.1 q.2.2.2.1 q.2.2.2.2) :: g.S, s.Ok B) (hB : B ≤ 10 ^ 30) (k : Q (.tup (iL (sxL q g).n)) μ) : wp_with_end [(Stp.turn q.2.1 q.2.2.1 q.2.2.2.1 q.2.2.2.2).p, (Stp.turn g.e g.n 0 g.f).p, (Stp.move g.s g.t).p] μ Q X := by
  unfold wp_with_end
  have h1 := h _ List.mem_cons_self
  have h2 := h (.turn g.e g.n 0 g.f) (by simp [En.S])
  obtain ⟨_, a1, a2, a3, a4⟩ := h1
  obtain ⟨_, b1, b2, _, b4⟩ := h2
  have m : ∀ {i j : Int}, i.natAbs ≤ B → j.natAbs ≤ B → CMulU i j := fun hi hj => mulU_small (Nat.le_trans hi hB) (Nat.le_trans hj hB)
  simp only [Jbv, initE, Jcs, Jce, Jbl, Jbm, Jc0, Jcn, Jco, Jc6, Jck, Jbn, Jcu, Jbo, Jbu, Jd6, Jd7, Jd5, Jd8, Jdd, Jda, Jdb, Jd9, Jc3, Jc8, Jd0, Jcz, Jc7, Jch, Jcy, Jcx, Jcb, Jbs, Jcw, Jcg, Jbk, Jcj, Jc5, Jbj, Jci, Jcf, Jd2, Jd1, Jd4, Jbp, Jcd, Jcm, Jc2, Jct, Jcc, Jbq, Jcp, Jcv, Jdf, Jdg, Jc9, Jcq, Jcr, Jc4, Jbr, Jc1, Jbx, Jca, gt, st, Jbc, Jba, Jbb, Jb8, Jbi, Ja5, atI0, atI1, atI2, atI3, atI4, ixN20, ixN21, List.map_cons, List.map_nil, List.cons_append, List.nil_append, List.append_nil, List.length_cons, List.length_nil, List.replicate_succ, List.replicate_zero, Nat.add_one_sub_one, Jd3, Jbt, Jby, Jbz, Jbw, Jaf, Jah, Jai, Jag, Jb7, Jaw, Jax, Jal, Jav, Jb4, Jau, Jat, Jan, Jam, Jb2, Jaj, Jak, Jb0, Jb1, Jaq, Jb3, Jar, Jas, Jao, Jap, Jb6, Jb5, Ja8, Ja9, Jad, Jac, Ja0, Jaa, Jab, Jbg, Jbh, Ja7, Jae, Jbd, Jbf, Jbe, Jb9, Ja2, Ja1, Ja4, Ja3, Jay, Jaz, decide_true, decide_false, Bool.not_true, Bool.not_false, Bool.false_eq_true, if_true, if_false, true_and, Stp.p, cut4]
  exact ⟨m b1 a1, m b2 a3, m b1 a2, m b2 a4, m b4 a3, m b4 a4, by simp [sizeLine_eq], k⟩
theorem at_q {l : List D} {j : Nat} {x : D} (h : l[j]? = some x) : atI l (j : Int) = some x := by
  have hj := (List.getElem?_eq_some_iff.mp h).1
  unfold atI ixN
  rw [if_pos (by omega), if_pos (by omega)]
  simpa using h
theorem at_m4 (xs : List D) (a b c d : D) : atI (xs ++ [a, b, c, d]) (-4) = some a := by
  unfold atI ixN
  rw [if_neg (by decide), if_pos (by simp; omega)]
  simp
  rw [show (-4 + ((xs.length : Int) + 4)).toNat = xs.length + 0 by omega]
  simp
theorem at_m3 (xs : List D) (a b c d : D) : atI (xs ++ [a, b, c, d]) (-3) = some b := by
  unfold atI ixN
  rw [if_neg (by decide), if_pos (by simp; omega)]
  simp
  rw [show (-3 + ((xs.length : Int) + 4)).toNat = xs.length + 1 by omega]
  simp
theorem at_m2 (xs : List D) (a b c d : D) : atI (xs ++ [a, b, c, d]) (-2) = some c := by
  unfold atI ixN
  rw [if_neg (by decide), if_pos (by simp; omega)]
  simp
  rw [show (-2 + ((xs.length : Int) + 4)).toNat = xs.length + 2 by omega]
  simp
theorem at_m1 (xs : List D) (a b c d : D) : atI (xs ++ [a, b, c, d]) (-1) = some d := by
  unfold atI ixN
  rw [if_neg (by decide), if_pos (by simp; omega)]
  simp
  rw [show (-1 + ((xs.length : Int) + 4)).toNat = xs.length + 3 by omega]
  simp
theorem cor_p (h : Cor ss cs q g) : ss.map Stp.p = (cpS cs).map Stp.p ++ [(Stp.x q.1).p, (Stp.turn q.2.1 q.2.2.1 q.2.2.2.1 q.2.2.2.2).p, (Stp.turn g.e g.n 0 g.f).p, (Stp.move g.s g.t).p] := by
  rw [h.e, cpS_app, List.map_append, List.map_append]
  obtain ⟨r, a, b, c, d⟩ := q
  simp [cpS, En.S]
theorem cor_b (h : Cor ss cs q g) : ss.map Stp.b = (cpS cs).map Stp.b ++ [(Stp.x q.1).b, (Stp.turn q.2.1 q.2.2.1 q.2.2.2.1 q.2.2.2.2).b, (Stp.turn g.e g.n 0 g.f).b, (Stp.move g.s g.t).b] := by
  rw [h.e, cpS_app, List.map_append, List.map_append]
  obtain ⟨r, a, b, c, d⟩ := q
  simp [cpS, En.S]
theorem cor_len (h : Cor ss cs q g) : ss.length = 2 * cs.length + 4 := by
  rw [h.e, List.length_append, cpS_len, List.length_append]
  simp [En.S]
  omega
abbrev sxs (cs : List Cp) (q : Cp) (g : En) : List Sx := cs.map sx0 ++ [sxL q g]
theorem ok_couples_of (h : Cor ss cs q g) (ho : ∀ s ∈ ss, s.Ok B) (hB : B ≤ 10 ^ 30) (hl : ss.length ≤ 100) (k : Q (.list ((sxs cs q g).map Sx.p)) μ) : wp_couples_of [progD ss] μ Q X := by
  have ln := cor_len h
  unfold wp_couples_of
  simp only [Jbv, initE, Jcs, Jce, Jbl, Jbm, Jc0, Jcn, Jco, Jc6, Jck, Jbn, Jcu, Jbo, Jbu, Jd6, Jd7, Jd5, Jd8, Jdd, Jda, Jdb, Jd9, Jc3, Jc8, Jd0, Jcz, Jc7, Jch, Jcy, Jcx, Jcb, Jbs, Jcw, Jcg, Jbk, Jcj, Jc5, Jbj, Jci, Jcf, Jd2, Jd1, Jd4, Jbp, Jcd, Jcm, Jc2, Jct, Jcc, Jbq, Jcp, Jcv, Jdf, Jdg, Jc9, Jcq, Jcr, Jc4, Jbr, Jc1, Jbx, Jca, gt, st, Jbc, Jba, Jbb, Jb8, Jbi, Ja5, atI0, atI1, atI2, atI3, atI4, ixN20, ixN21, List.map_cons, List.map_nil, List.cons_append, List.nil_append, List.append_nil, List.length_cons, List.length_nil, List.replicate_succ, List.replicate_zero, Nat.add_one_sub_one, Jd3, Jbt, Jby, Jbz, Jbw, Jaf, Jah, Jai, Jag, Jb7, Jaw, Jax, Jal, Jav, Jb4, Jau, Jat, Jan, Jam, Jb2, Jaj, Jak, Jb0, Jb1, Jaq, Jb3, Jar, Jas, Jao, Jap, Jb6, Jb5, Ja8, Ja9, Jad, Jac, Ja0, Jaa, Jab, Jbg, Jbh, Ja7, Jae, Jbd, Jbf, Jbe, Jb9, Ja2, Ja1, Ja4, Ja3, Jay, Jaz, decide_true, decide_false, Bool.not_true, Bool.not_false, Bool.false_eq_true, if_true, if_false, true_and, Jdc, progD, isOf, progE, asObj]
  refine ⟨by decide, ok_Program_steps ⟨Nat.zero_le _, fun p hp => ?_⟩⟩
  simp only [Jbv, initE, Jcs, Jce, Jbl, Jbm, Jc0, Jcn, Jco, Jc6, Jck, Jbn, Jcu, Jbo, Jbu, Jd6, Jd7, Jd5, Jd8, Jdd, Jda, Jdb, Jd9, Jc3, Jc8, Jd0, Jcz, Jc7, Jch, Jcy, Jcx, Jcb, Jbs, Jcw, Jcg, Jbk, Jcj, Jc5, Jbj, Jci, Jcf, Jd2, Jd1, Jd4, Jbp, Jcd, Jcm, Jc2, Jct, Jcc, Jbq, Jcp, Jcv, Jdf, Jdg, Jc9, Jcq, Jcr, Jc4, Jbr, Jc1, Jbx, Jca, gt, st, Jbc, Jba, Jbb, Jb8, Jbi, Ja5, atI0, atI1, atI2, atI3, atI4, ixN20, ixN21, List.map_cons, List.map_nil, List.cons_append, List.nil_append, List.append_nil, List.length_cons, List.length_nil, List.replicate_succ, List.replicate_zero, Nat.add_one_sub_one, Jd3, Jbt, Jby, Jbz, Jbw, Jaf, Jah, Jai, Jag, Jb7, Jaw, Jax, Jal, Jav, Jb4, Jau, Jat, Jan, Jam, Jb2, Jaj, Jak, Jb0, Jb1, Jaq, Jb3, Jar, Jas, Jao, Jap, Jb6, Jb5, Ja8, Ja9, Jad, Jac, Ja0, Jaa, Jab, Jbg, Jbh, Ja7, Jae, Jbd, Jbf, Jbe, Jb9, Ja2, Ja1, Ja4, Ja3, Jay, Jaz, decide_true, decide_false, Bool.not_true, Bool.not_false, Bool.false_eq_true, if_true, if_false, true_and, List.length_map]
  refine ⟨⟨by omega, by omega, by omega⟩, by rw [twoD_len]; omega, ?_⟩
  have en : (((ss.length : Int) - 4 - 0 + 1) / 2).toNat = cs.length := by omega
  rw [en]
  refine for_inv (fun i e μ' => ∃ x3, e = [some (progD ss), some (.tup (ss.map Stp.p)), some (.cell p), x3] ∧ μ' = up μ p (.list ((cs.take i).map fun x => (sx0 x).p))) ⟨_, rfl, rfl⟩ ?_ ?_
  · rintro i x e μ' N hx ⟨x3, rfl, rfl⟩ hN
    rw [twoD_get] at hx
    split at hx
    · rename_i li
      cases hx
      refine ⟨trivial, ?_⟩
      obtain ⟨c, hc⟩ : ∃ c, cs[i]? = some c := ⟨_, List.getElem?_eq_getElem li⟩
      obtain ⟨g1, g2⟩ := cpS_get cs (cpS [q] ++ g.S) i c hc
      have es : cpS cs ++ (cpS [q] ++ g.S) = ss := by rw [h.e, cpS_app, List.append_assoc]
      rw [es] at g1 g2
      have a1 : atI (ss.map Stp.p) (0 + (i : Int) * 2) = some (Stp.x c.1).p := by
        have := at_q (l := ss.map Stp.p) (j := 2 * i) (x := (Stp.x c.1).p) (by rw [List.getElem?_map, g1]; rfl)
        rwa [show ((2 * i : Nat) : Int) = 0 + (i : Int) * 2 by omega] at this
      have a2 : atI (ss.map Stp.p) (0 + (i : Int) * 2 + 1) = some (Stp.turn c.2.1 c.2.2.1 c.2.2.2.1 c.2.2.2.2).p := by
        have := at_q (l := ss.map Stp.p) (j := 2 * i + 1) (x := (Stp.turn c.2.1 c.2.2.1 c.2.2.2.1 c.2.2.2.2).p) (by rw [List.getElem?_map, g2]; rfl)
        rwa [show ((2 * i + 1 : Nat) : Int) = 0 + (i : Int) * 2 + 1 by omega] at this
      simp only [Jbv, initE, Jcs, Jce, Jbl, Jbm, Jc0, Jcn, Jco, Jc6, Jck, Jbn, Jcu, Jbo, Jbu, Jd6, Jd7, Jd5, Jd8, Jdd, Jda, Jdb, Jd9, Jc3, Jc8, Jd0, Jcz, Jc7, Jch, Jcy, Jcx, Jcb, Jbs, Jcw, Jcg, Jbk, Jcj, Jc5, Jbj, Jci, Jcf, Jd2, Jd1, Jd4, Jbp, Jcd, Jcm, Jc2, Jct, Jcc, Jbq, Jcp, Jcv, Jdf, Jdg, Jc9, Jcq, Jcr, Jc4, Jbr, Jc1, Jbx, Jca, gt, st, Jbc, Jba, Jbb, Jb8, Jbi, Ja5, atI0, atI1, atI2, atI3, atI4, ixN20, ixN21, List.map_cons, List.map_nil, List.cons_append, List.nil_append, List.append_nil, List.length_cons, List.length_nil, List.replicate_succ, List.replicate_zero, Nat.add_one_sub_one, Jd3, Jbt, Jby, Jbz, Jbw, Jaf, Jah, Jai, Jag, Jb7, Jaw, Jax, Jal, Jav, Jb4, Jau, Jat, Jan, Jam, Jb2, Jaj, Jak, Jb0, Jb1, Jaq, Jb3, Jar, Jas, Jao, Jap, Jb6, Jb5, Ja8, Ja9, Jad, Jac, Ja0, Jaa, Jab, Jbg, Jbh, Ja7, Jae, Jbd, Jbf, Jbe, Jb9, Ja2, Ja1, Ja4, Ja3, Jay, Jaz, decide_true, decide_false, Bool.not_true, Bool.not_false, Bool.false_eq_true, if_true, if_false, true_and, a1, a2, Stp.p, cut4]
      refine ⟨by simp [isL, seqL, up_same, ndL], by simp [sizeLine_eq], by simp [sizeLine_eq], ?_⟩
      simp only [mApp, lstC, up_same, ndL, one, up_up]
      refine ⟨by rw [List.length_map, List.length_take, sizeLine_eq]; omega, hN _ _ ⟨_, rfl, ?_⟩⟩
      rw [List.take_succ, hc, List.map_append]
      obtain ⟨r, a, b, cc, d⟩ := c
      rfl
    · cases hx
  · rintro e μ' ⟨x3, rfl, rfl⟩
    refine ⟨trivial, ?_⟩
    rw [twoD_len, List.take_length]
    simp only [Jbv, initE, Jcs, Jce, Jbl, Jbm, Jc0, Jcn, Jco, Jc6, Jck, Jbn, Jcu, Jbo, Jbu, Jd6, Jd7, Jd5, Jd8, Jdd, Jda, Jdb, Jd9, Jc3, Jc8, Jd0, Jcz, Jc7, Jch, Jcy, Jcx, Jcb, Jbs, Jcw, Jcg, Jbk, Jcj, Jc5, Jbj, Jci, Jcf, Jd2, Jd1, Jd4, Jbp, Jcd, Jcm, Jc2, Jct, Jcc, Jbq, Jcp, Jcv, Jdf, Jdg, Jc9, Jcq, Jcr, Jc4, Jbr, Jc1, Jbx, Jca, gt, st, Jbc, Jba, Jbb, Jb8, Jbi, Ja5, atI0, atI1, atI2, atI3, atI4, ixN20, ixN21, List.map_cons, List.map_nil, List.cons_append, List.nil_append, List.append_nil, List.length_cons, List.length_nil, List.replicate_succ, List.replicate_zero, Nat.add_one_sub_one, Jd3, Jbt, Jby, Jbz, Jbw, Jaf, Jah, Jai, Jag, Jb7, Jaw, Jax, Jal, Jav, Jb4, Jau, Jat, Jan, Jam, Jb2, Jaj, Jak, Jb0, Jb1, Jaq, Jb3, Jar, Jas, Jao, Jap, Jb6, Jb5, Ja8, Ja9, Jad, Jac, Ja0, Jaa, Jab, Jbg, Jbh, Ja7, Jae, Jbd, Jbf, Jbe, Jb9, Ja2, Ja1, Ja4, Ja3, Jay, Jaz, decide_true, decide_false, Bool.not_true, Bool.not_false, Bool.false_eq_true, if_true, if_false, true_and, up_same, cor_p h, at_m4, at_m3, at_m2, at_m1]
    rw [del_up hp]
    simp only [Jbv, initE, Jcs, Jce, Jbl, Jbm, Jc0, Jcn, Jco, Jc6, Jck, Jbn, Jcu, Jbo, Jbu, Jd6, Jd7, Jd5, Jd8, Jdd, Jda, Jdb, Jd9, Jc3, Jc8, Jd0, Jcz, Jc7, Jch, Jcy, Jcx, Jcb, Jbs, Jcw, Jcg, Jbk, Jcj, Jc5, Jbj, Jci, Jcf, Jd2, Jd1, Jd4, Jbp, Jcd, Jcm, Jc2, Jct, Jcc, Jbq, Jcp, Jcv, Jdf, Jdg, Jc9, Jcq, Jcr, Jc4, Jbr, Jc1, Jbx, Jca, gt, st, Jbc, Jba, Jbb, Jb8, Jbi, Ja5, atI0, atI1, atI2, atI3, atI4, ixN20, ixN21, List.map_cons, List.map_nil, List.cons_append, List.nil_append, List.append_nil, List.length_cons, List.length_nil, List.replicate_succ, List.replicate_zero, Nat.add_one_sub_one, Jd3, Jbt, Jby, Jbz, Jbw, Jaf, Jah, Jai, Jag, Jb7, Jaw, Jax, Jal, Jav, Jb4, Jau, Jat, Jan, Jam, Jb2, Jaj, Jak, Jb0, Jb1, Jaq, Jb3, Jar, Jas, Jao, Jap, Jb6, Jb5, Ja8, Ja9, Jad, Jac, Ja0, Jaa, Jab, Jbg, Jbh, Ja7, Jae, Jbd, Jbf, Jbe, Jb9, Ja2, Ja1, Ja4, Ja3, Jay, Jaz, decide_true, decide_false, Bool.not_true, Bool.not_false, Bool.false_eq_true, if_true, if_false, true_and, Stp.p]
    refine ok_with_end (q := q) (g := g) (B := B) (fun s hs => ho s ?_) hB ?_
    · rw [h.e, cpS_app]
      obtain ⟨r, a, b, c, d⟩ := q
      simp only [List.mem_cons] at hs
      rcases hs with rfl | z
      · simp [cpS]
      · exact List.mem_append_right _ z
    · refine ⟨by simp [sizeLine_eq], by rw [List.length_append, List.length_map, sizeLine_eq]; simp; omega, ?_⟩
      have e : (sxs cs q g).map Sx.p = cs.map (fun x => (sx0 x).p) ++ [.tup [ruleD q.1, .tup (iL (sxL q g).n)]] := by
        obtain ⟨r, a, b, c, d⟩ := q
        simp [sxL, Sx.p]
      rw [e] at k
      exact k
end
end DL

set_option Elab.async false
set_option linter.all false
set_option maxRecDepth 100000
set_option maxHeartbeats 4000000
/-! A37: == of dicts with tuple keys. -/
namespace L2
open PySem PySem.Spec PyProof.Rows
section
variable {prog : Program} {w : World} {K : Type} [DecidableEq K] {kind : HeapKind prog w K} {A : Around} {Er : Value → Shared → Prop} {s : Shared} {d1 d2 : Addr} {l1 l2 : List (K × Addr × Value)} {eqv : K × Addr × Value → Bool}
/-- a dict's object, its entries, that they are l -/
structure Laid (kind : HeapKind prog w K) (h : Heap) (d : Addr) (l : List (K × Addr × Value)) (o : Obj) (es : Array DictEntry) (ep : Nat) : Prop where
  at_ : h.get? d = some o
  dat : o.data = .dict es ep
  ents : es.toList = l.map (entryOfKey kind)
  keys : ∀ x ∈ l, kind.is h x.1 x.2.1
  nodup : (l.map (·.1)).Nodup
end
/-! ### by values: whole numbers -/
section
variable {X : Cx}
end
end L2

set_option Elab.async false
set_option linter.all false
set_option maxRecDepth 100000
set_option maxHeartbeats 4000000
/-! A38: == and != of dicts with tuple keys and whole numbers, as wishes. -/
namespace DL
open PySem PyProof.Rows L2
section
variable {X : Cx} {c : Ctx} {W : WX}
end
end DL

set_option Elab.async false
set_option linter.all false
set_option maxRecDepth 100000
set_option maxHeartbeats 4000000
/-! A39: repr of lists that hold dicts with tuple keys. -/
namespace PySem
section
variable {prog : Program} {w : World} {h₀ : Heap} {A : Around} {E : Value → Shared → Prop} {s : Shared}
end
end PySem

set_option Elab.async false
set_option linter.all false
set_option maxRecDepth 100000
set_option maxHeartbeats 4000000
/-! A40: repr([..]) of lists that hold dicts of whole numbers with tuple keys, as a wish. -/
namespace DL
open PySem PyProof.Rows L2
def kp : Key → PyData
  | .inl i => .int i
  | .inr x => .str x
section
variable {X : Cx} {pins : List (Addr × Obj)} {σ : L2.St} {H : Hp} {s : Shared}
end
section
variable {X : Cx} {c : Ctx}
end
end DL

set_option Elab.async false
set_option linter.all false
set_option maxRecDepth 100000
set_option maxHeartbeats 4000000
/-! A41: list(d), the keys tuples. -/
namespace DL
open PySem PyProof.Rows L2
section
variable {X : Cx} {c : Ctx} {S : Option SA} {F : Hp} {n : Nat} {H : Hp} {μ : Mu}
end
end DL

set_option Elab.async false
set_option linter.all false
set_option maxRecDepth 100000
set_option maxHeartbeats 4000000
/-! A42: == and != of lists and tuples whose items are dicts with tuple keys and whole numbers. -/
namespace DL
open PySem PyProof.Rows L2
/-! ### items that are compared by some test -/
/-! ### two dicts -/
section
variable {X : Cx} {c : Ctx} {W : WX} {m : Nat} {S : Option SA} {F : Hp} {μ : Mu}
section
variable {Ok : Around → Prop} {E : D → D → Bool} {xs ys : List D} {I : Hp} {vs us : List V} {its its2 : List Value} {pins : List (Addr × Obj)} {σ : L2.St}
end
section
variable {Ok : Around → Prop} {E : D → D → Bool} {xs ys : List D} {I H : Hp} {pins : List (Addr × Obj)} {σ : L2.St} {s : Shared} {A : Around} {a b : Addr}
end
/-! ### as wishes -/
end
end DL

set_option Elab.async false
set_option linter.all false
set_option maxRecDepth 100000
set_option maxHeartbeats 4000000
/-! A43: zip of two lists. -/
namespace DL
open PySem PyProof.Rows L2
section
variable {X : Cx} {c : Ctx} {W : WX} {k ka kb : Nat} {a b tg : Expr} {wa : WE} {pos p : Pos} {es : List Expr} {wr : WA} {m : Bool}
end
end DL

set_option Elab.async false
set_option linter.all false
set_option maxRecDepth 100000
set_option maxHeartbeats 4000000
/-! A44: == of lists and tuples of instances whose own == is told by some test. -/
namespace DL
open PySem PyProof.Rows L2
variable [Gds]
/-- the own == of instances: a def that tells E of the fields -/
structure OwnI (X : Cx) (c : Ctx) (k : Nat) (n : Str) (fs : List Str) (P : List D → Prop) (E : List D → List D → Bool) : Prop where
  ex : ∃ (f : Addr) (fd : FuncData) (ps : List Str) (s : WP), FnW X.prog X.w X.K X.mg X.base k f fd ps (SpW c s 0) ∧ Binds X.K fd ps [] ∧ PySem.W.notFirst X.K (c.cl n) (.ref (c.cl n)) = true ∧ Spl X.K (c.cl n) "__eq__" f ∧
    ∀ μ xs ys (Q : QD) (Z : QD), P xs → P ys → Q (.bool (E xs ys)) μ → s [.obj n fs xs, .obj n fs ys] μ Q Z
section
variable {X : Cx} {c : Ctx} {W : WX} {m k : Nat} {S : Option SA} {F : Hp} {μ : Mu} {n : Str} {fs : List Str} {P : List D → Prop} {E : List D → List D → Bool}
/-! ### as wishes -/
end
end DL

set_option Elab.async false
set_option linter.all false
set_option maxRecDepth 100000
set_option maxHeartbeats 4000000
/-! A45: a, b, c = x, y, z. -/
namespace DL
open PySem PyProof.Rows L2
def wPar3 (i j l : Nat) (a : WA) : WS := fun e μ E => a e μ (fun ds μ1 => match ds with
  | [x, y, z] => E.nx (st (st (st e i (some x)) j (some y)) l (some z)) μ1
  | _ => False) fun d μ1 => E.xp d e μ1
theorem Jcl (i j l : Nat) (a : WA) (e : EnvD) (μ : Mu) (E : WEnds) : wPar3 i j l a e μ E = a e μ (fun ds μ1 => match ds with
  | [x, y, z] => E.nx (st (st (st e i (some x)) j (some y)) l (some z)) μ1
  | _ => False) fun d μ1 => E.xp d e μ1 := propext Iff.rfl
section
variable {X : Cx} {c : Ctx} {W : WX} {k i j l : Nat} {s : Stmt} {wr : WA}
theorem g_par3N {hp : PS X s (tPar3 i j l (ldA c W k wr))} : GS X c W k s (wPar3 i j l wr) := L2.PS.imp hp fun K σ H h => by
  obtain ⟨S, F, n, I, μ, e, E, hl, he, hw, h, q⟩ := h
  refine ⟨S, F, n, I, μ, e, _, _, hl, he, hw, h, fun ds μ1 vs I1 H1 p s1 u1 r1 => ?_, q.x he⟩
  rcases r1 with _ | ⟨r1, _ | ⟨r2, _ | ⟨r3, _ | _⟩⟩⟩
  · exact False.elim p
  · exact False.elim p
  · exact False.elim p
  · exact ⟨_, _, _, rfl, q.nx _ μ1 _ I1 H1 p s1 ((((he.mono s1).put r1 i).put r2 j).put r3 l) u1⟩
  · exact False.elim p
end
end DL

set_option Elab.async false
set_option linter.all false
set_option maxRecDepth 100000
set_option maxHeartbeats 4000000
/-! Q1: the sizes of a wedge. -/
namespace DL
open PySem L2
def wp_lower_sum : WP := (wDef 1 2 (wRet (wCb false cbSum (waCons (wLc false (wiSeq (wSl false oSl (wProp "Rule" "coefficients" wp_Rule_coefficients (wV 0)) woNone (woSome (wUn false oNeg (wK (.int 1)))))) (wgN 1) wYes (wCb false cbAbs (waCons (wV 1) waNil)) [1]) waNil))))
def wp_least_height : WP := (wDef 3 9 (wSeq (wAsgG (wgTup 6 (wgCons (wgN 3) (wgCons (wgN 4) (wgCons (wgN 5) (wgCons (wgN 6) (wgCons (wgN 7) (wgCons (wgN 8) wgNil))))))) (wV 1))
    (wRet (wOp false oAdd (wOp false oAdd (wCall wp_lower_sum [] (waCons (wV 0) waNil)) (wV 2)) (wOp false oMul (wK (.int 2)) (wOp false oAdd (wOp false oAdd (wOp false oAdd (wOp false oAdd (wCb false cbAbs (waCons (wV 4) waNil)) (wCb false cbAbs (waCons (wV 6) waNil))) (wCb false cbAbs (waCons (wV 7) waNil))) (wCb false cbAbs (waCons (wV 8) waNil))) (wK (.int 1))))))))
def wp_least_reach : WP := (wDef 3 12 (wSeq (wAsgG (wgTup 6 (wgCons (wgN 3) (wgCons (wgN 4) (wgCons (wgN 5) (wgCons (wgN 6) (wgCons (wgN 7) (wgCons (wgN 8) wgNil))))))) (wV 1))
    (wSeq (wPar3 9 10 11 (waCons (wOp false oAdd (wCb false cbAbs (waCons (wV 4) waNil)) (wCb false cbAbs (waCons (wV 6) waNil))) (waCons (wOp false oAdd (wCb false cbAbs (waCons (wOp false oMul (wV 5) (wV 7)) waNil)) (wCb false cbAbs (waCons (wOp false oMul (wV 3) (wV 8)) waNil))) (waCons (wOp false oAdd (wCb false cbAbs (waCons (wOp false oMul (wV 6) (wV 7)) waNil)) (wCb false cbAbs (waCons (wOp false oMul (wV 4) (wV 8)) waNil))) waNil))))
    (wRet (wOp false oMul (wK (.int 2)) (wOp false oAdd (wOp false oAdd (wOp false oAdd (wOp false oAdd (wOp false oAdd (wCall wp_lower_sum [] (waCons (wV 0) waNil)) (wV 2)) (wK (.int 3))) (wOp false oMul (wK (.int 2)) (wV 9))) (wOp false oMul (wOp false oAdd (wOp false oMul (wK (.int 2)) (wV 9)) (wK (.int 3))) (wV 10))) (wV 11)))))))
def ab (i : Int) : Int := if i < 0 then -i else i
theorem ab_n (i : Int) : (ab i).natAbs = i.natAbs := by
  unfold ab
  split <;> omega
theorem ab_0 (i : Int) : 0 ≤ ab i := by
  unfold ab
  split <;> omega
theorem ab_e (i : Int) : (if i < 0 then -i else i) = ab i := rfl
def lowS (r : List Int) : Int := (r.dropLast.map ab).sum
def Sx.height (x : Sx) (w : Int) : Int := lowS x.r + w + 2 * (ab x.b + ab x.d + ab x.s + ab x.t + 1)
def Sx.reach (x : Sx) (w : Int) : Int := 2 * (lowS x.r + w + 3 + 2 * (ab x.b + ab x.d) + (2 * (ab x.b + ab x.d) + 3) * (ab (x.c * x.s) + ab (x.a * x.t)) + (ab (x.d * x.s) + ab (x.b * x.t)))
section
variable {μ : Mu} {Q X : QD} {QQ : QR} {x : Sx} {w : Int} {r : List Int}
theorem cut_q (ds : List D) (x : D) : cutD (ds ++ [x]) none (some (-1)) = ds := by
  unfold cutD
  rw [HT.sIx_none]
  have e : HT.sIx (ds ++ [x]).length (ds ++ [x]).length (some (-1)) = ds.length := by
    rw [List.length_append, show [x].length = 1 from rfl]
    unfold HT.sIx
    simp
    try omega
  rw [e]
  simp
theorem cut_last {r : List Int} : cutD (iL r) Option.none (some (-1)) = iL r.dropLast := by
  by_cases h : r = []
  · subst h
    rfl
  · have e : r = r.dropLast ++ [r.getLast h] := (List.dropLast_concat_getLast h).symm
    have e2 : iL r = iL r.dropLast ++ [.int (r.getLast h)] := by rw [iL_snoc, ← e]
    rw [e2]
    exact cut_q _ _
theorem ok_lower_sum (hl : r.length ≤ 100) (k : Q (.int (lowS r)) μ) : wp_lower_sum [ruleD r] μ Q X := by
  unfold wp_lower_sum
  simp only [Jbv, initE, Jcs, Jce, Jbl, Jbm, Jc0, Jcn, Jco, Jc6, Jck, Jbn, Jcu, Jbo, Jbu, Jd6, Jd7, Jd5, Jd8, Jdd, Jda, Jdb, Jd9, Jc3, Jc8, Jd0, Jcz, Jc7, Jch, Jcy, Jcx, Jcb, Jbs, Jcw, Jcg, Jbk, Jcj, Jc5, Jbj, Jci, Jcf, Jd2, Jd1, Jd4, Jbp, Jcd, Jcm, Jc2, Jct, Jcc, Jbq, Jcp, Jcv, Jdf, Jdg, Jc9, Jcq, Jcr, Jc4, Jbr, Jc1, Jbx, Jca, gt, st, Jbc, Jba, Jbb, Jb8, Jbi, Ja5, atI0, atI1, atI2, atI3, atI4, ixN20, ixN21, List.map_cons, List.map_nil, List.cons_append, List.nil_append, List.append_nil, List.length_cons, List.length_nil, List.replicate_succ, List.replicate_zero, Nat.add_one_sub_one, Jd3, Jbt, Jby, Jbz, Jbw, Jaf, Jah, Jai, Jag, Jb7, Jaw, Jax, Jal, Jav, Jb4, Jau, Jat, Jan, Jam, Jb2, Jaj, Jak, Jb0, Jb1, Jaq, Jb3, Jar, Jas, Jao, Jap, Jb6, Jb5, Ja8, Ja9, Jad, Jac, Ja0, Jaa, Jab, Jbg, Jbh, Ja7, Jae, Jbd, Jbf, Jbe, Jb9, Ja2, Ja1, Ja4, Ja3, Jay, Jaz, decide_true, decide_false, Bool.not_true, Bool.not_false, Bool.false_eq_true, if_true, if_false, true_and]
  refine ⟨rfl, by decide, ok_Rule_coefficients ?_⟩
  simp only [Jbv, initE, Jcs, Jce, Jbl, Jbm, Jc0, Jcn, Jco, Jc6, Jck, Jbn, Jcu, Jbo, Jbu, Jd6, Jd7, Jd5, Jd8, Jdd, Jda, Jdb, Jd9, Jc3, Jc8, Jd0, Jcz, Jc7, Jch, Jcy, Jcx, Jcb, Jbs, Jcw, Jcg, Jbk, Jcj, Jc5, Jbj, Jci, Jcf, Jd2, Jd1, Jd4, Jbp, Jcd, Jcm, Jc2, Jct, Jcc, Jbq, Jcp, Jcv, Jdf, Jdg, Jc9, Jcq, Jcr, Jc4, Jbr, Jc1, Jbx, Jca, gt, st, Jbc, Jba, Jbb, Jb8, Jbi, Ja5, atI0, atI1, atI2, atI3, atI4, ixN20, ixN21, List.map_cons, List.map_nil, List.cons_append, List.nil_append, List.append_nil, List.length_cons, List.length_nil, List.replicate_succ, List.replicate_zero, Nat.add_one_sub_one, Jd3, Jbt, Jby, Jbz, Jbw, Jaf, Jah, Jai, Jag, Jb7, Jaw, Jax, Jal, Jav, Jb4, Jau, Jat, Jan, Jam, Jb2, Jaj, Jak, Jb0, Jb1, Jaq, Jb3, Jar, Jas, Jao, Jap, Jb6, Jb5, Ja8, Ja9, Jad, Jac, Ja0, Jaa, Jab, Jbg, Jbh, Ja7, Jae, Jbd, Jbf, Jbe, Jb9, Ja2, Ja1, Ja4, Ja3, Jay, Jaz, decide_true, decide_false, Bool.not_true, Bool.not_false, Bool.false_eq_true, if_true, if_false, true_and, cut_last]
  refine ⟨by rw [iL_len, List.length_dropLast, sizeLine_eq]; omega, lc_inv (fun i acc μ' => μ' = μ ∧ acc = iL ((r.dropLast.take i).map ab)) ⟨rfl, rfl⟩ ?_ ?_⟩
  · rintro i x acc μ' N hx ⟨rfl, rfl⟩ hN
    obtain ⟨n, hn, rfl⟩ := map_get hx
    refine ⟨trivial, ?_⟩
    simp only [Jbv, initE, Jcs, Jce, Jbl, Jbm, Jc0, Jcn, Jco, Jc6, Jck, Jbn, Jcu, Jbo, Jbu, Jd6, Jd7, Jd5, Jd8, Jdd, Jda, Jdb, Jd9, Jc3, Jc8, Jd0, Jcz, Jc7, Jch, Jcy, Jcx, Jcb, Jbs, Jcw, Jcg, Jbk, Jcj, Jc5, Jbj, Jci, Jcf, Jd2, Jd1, Jd4, Jbp, Jcd, Jcm, Jc2, Jct, Jcc, Jbq, Jcp, Jcv, Jdf, Jdg, Jc9, Jcq, Jcr, Jc4, Jbr, Jc1, Jbx, Jca, gt, st, Jbc, Jba, Jbb, Jb8, Jbi, Ja5, atI0, atI1, atI2, atI3, atI4, ixN20, ixN21, List.map_cons, List.map_nil, List.cons_append, List.nil_append, List.append_nil, List.length_cons, List.length_nil, List.replicate_succ, List.replicate_zero, Nat.add_one_sub_one, Jd3, Jbt, Jby, Jbz, Jbw, Jaf, Jah, Jai, Jag, Jb7, Jaw, Jax, Jal, Jav, Jb4, Jau, Jat, Jan, Jam, Jb2, Jaj, Jak, Jb0, Jb1, Jaq, Jb3, Jar, Jas, Jao, Jap, Jb6, Jb5, Ja8, Ja9, Jad, Jac, Ja0, Jaa, Jab, Jbg, Jbh, Ja7, Jae, Jbd, Jbf, Jbe, Jb9, Ja2, Ja1, Ja4, Ja3, Jay, Jaz, decide_true, decide_false, Bool.not_true, Bool.not_false, Bool.false_eq_true, if_true, if_false, true_and, wipeE, ab_e]
    refine hN _ _ ⟨rfl, ?_⟩
    rw [List.take_succ, hn, List.map_append]
    exact iL_snoc _ _
  · rintro acc μ' ⟨rfl, rfl⟩
    rw [iL_len, List.take_length]
    refine ⟨trivial, ?_⟩
    simp only [cbSum, one, seqL, sett]
    exact ⟨_, rfl, k⟩
structure Sx.Sm (x : Sx) (w : Int) : Prop where
  r : x.r.length ≤ 100
  a : x.a.natAbs ≤ 10000
  b : x.b.natAbs ≤ 10000
  c : x.c.natAbs ≤ 10000
  d : x.d.natAbs ≤ 10000
  s : x.s.natAbs ≤ 10000
  t : x.t.natAbs ≤ 10000
  w : w.natAbs ≤ 100000
  low : (lowS x.r).natAbs ≤ 100000000
theorem small {i j : Int} (hi : i.natAbs ≤ 10 ^ 10) (hj : j.natAbs ≤ 10 ^ 10) : CMulU i j := mulU_small (Nat.le_trans hi (by decide)) (Nat.le_trans hj (by decide))
theorem sm14 {i j : Int} (hi : i.natAbs ≤ 2) (hj : j.natAbs ≤ 100000000000000) : CMulU i j := mulU_of (a := 2) (b := 47) (Nat.lt_of_le_of_lt hi (by decide)) (Nat.lt_of_le_of_lt hj (by decide)) (by decide)
theorem ok_least_height (h : x.Sm w) (k : Q (.int (x.height w)) μ) : wp_least_height [ruleD x.r, .tup (iL x.n), .int w] μ Q X := by
  obtain ⟨hr, ha, hb, hc, hd, hs, ht, hw, hlow⟩ := h
  unfold wp_least_height
  simp only [Jbv, initE, Jcs, Jce, Jbl, Jbm, Jc0, Jcn, Jco, Jc6, Jck, Jbn, Jcu, Jbo, Jbu, Jd6, Jd7, Jd5, Jd8, Jdd, Jda, Jdb, Jd9, Jc3, Jc8, Jd0, Jcz, Jc7, Jch, Jcy, Jcx, Jcb, Jbs, Jcw, Jcg, Jbk, Jcj, Jc5, Jbj, Jci, Jcf, Jd2, Jd1, Jd4, Jbp, Jcd, Jcm, Jc2, Jct, Jcc, Jbq, Jcp, Jcv, Jdf, Jdg, Jc9, Jcq, Jcr, Jc4, Jbr, Jc1, Jbx, Jca, gt, st, Jbc, Jba, Jbb, Jb8, Jbi, Ja5, atI0, atI1, atI2, atI3, atI4, ixN20, ixN21, List.map_cons, List.map_nil, List.cons_append, List.nil_append, List.append_nil, List.length_cons, List.length_nil, List.replicate_succ, List.replicate_zero, Nat.add_one_sub_one, Jd3, Jbt, Jby, Jbz, Jbw, Jaf, Jah, Jai, Jag, Jb7, Jaw, Jax, Jal, Jav, Jb4, Jau, Jat, Jan, Jam, Jb2, Jaj, Jak, Jb0, Jb1, Jaq, Jb3, Jar, Jas, Jao, Jap, Jb6, Jb5, Ja8, Ja9, Jad, Jac, Ja0, Jaa, Jab, Jbg, Jbh, Ja7, Jae, Jbd, Jbf, Jbe, Jb9, Ja2, Ja1, Ja4, Ja3, Jay, Jaz, decide_true, decide_false, Bool.not_true, Bool.not_false, Bool.false_eq_true, if_true, if_false, true_and, Sx.n, iL, ab_e]
  refine ok_lower_sum hr ?_
  have n1 := ab_n x.b
  have n2 := ab_n x.d
  have n3 := ab_n x.s
  have n4 := ab_n x.t
  simp only [Jbv, initE, Jcs, Jce, Jbl, Jbm, Jc0, Jcn, Jco, Jc6, Jck, Jbn, Jcu, Jbo, Jbu, Jd6, Jd7, Jd5, Jd8, Jdd, Jda, Jdb, Jd9, Jc3, Jc8, Jd0, Jcz, Jc7, Jch, Jcy, Jcx, Jcb, Jbs, Jcw, Jcg, Jbk, Jcj, Jc5, Jbj, Jci, Jcf, Jd2, Jd1, Jd4, Jbp, Jcd, Jcm, Jc2, Jct, Jcc, Jbq, Jcp, Jcv, Jdf, Jdg, Jc9, Jcq, Jcr, Jc4, Jbr, Jc1, Jbx, Jca, gt, st, Jbc, Jba, Jbb, Jb8, Jbi, Ja5, atI0, atI1, atI2, atI3, atI4, ixN20, ixN21, List.map_cons, List.map_nil, List.cons_append, List.nil_append, List.append_nil, List.length_cons, List.length_nil, List.replicate_succ, List.replicate_zero, Nat.add_one_sub_one, Jd3, Jbt, Jby, Jbz, Jbw, Jaf, Jah, Jai, Jag, Jb7, Jaw, Jax, Jal, Jav, Jb4, Jau, Jat, Jan, Jam, Jb2, Jaj, Jak, Jb0, Jb1, Jaq, Jb3, Jar, Jas, Jao, Jap, Jb6, Jb5, Ja8, Ja9, Jad, Jac, Ja0, Jaa, Jab, Jbg, Jbh, Ja7, Jae, Jbd, Jbf, Jbe, Jb9, Ja2, Ja1, Ja4, Ja3, Jay, Jaz, decide_true, decide_false, Bool.not_true, Bool.not_false, Bool.false_eq_true, if_true, if_false, true_and]
  exact ⟨small (by decide) (by omega), k⟩
theorem ab_le {i : Int} {n : Nat} (h : i.natAbs ≤ n) : 0 ≤ ab i ∧ ab i ≤ n := by
  have := ab_0 i
  have := ab_n i
  omega
theorem nat_le {i : Int} {n : Nat} (h : i.natAbs ≤ n) : -(n : Int) ≤ i ∧ i ≤ n := by omega
theorem le_nat {i : Int} {n : Nat} (h : -(n : Int) ≤ i ∧ i ≤ n) : i.natAbs ≤ n := by omega
theorem ok_least_reach (h : x.Sm w) (k : Q (.int (x.reach w)) μ) : wp_least_reach [ruleD x.r, .tup (iL x.n), .int w] μ Q X := by
  obtain ⟨hr, ha, hb, hc, hd, hs, ht, hw, hlow⟩ := h
  have m : ∀ {i j : Int}, i.natAbs ≤ 10000 → j.natAbs ≤ 10000 → (i * j).natAbs ≤ 100000000 := fun hi hj => mul_le (a := 10000) (b := 10000) hi hj
  have S : ∀ {i j : Int}, i.natAbs ≤ 10000 → j.natAbs ≤ 10000 → CMulU i j := fun hi hj => small (Nat.le_trans hi (by decide)) (Nat.le_trans hj (by decide))
  have c1 := S hc hs
  have c2 := S ha ht
  have c3 := S hd hs
  have c4 := S hb ht
  have u1 := ab_le hb
  have u2 := ab_le hd
  have u3 := ab_le (m hc hs)
  have u4 := ab_le (m ha ht)
  have u5 := ab_le (m hd hs)
  have u6 := ab_le (m hb ht)
  have u7 := nat_le hw
  have u8 := nat_le hlow
  unfold wp_least_reach
  simp only [Jbv, initE, Jcs, Jce, Jbl, Jbm, Jc0, Jcn, Jco, Jc6, Jck, Jbn, Jcu, Jbo, Jbu, Jd6, Jd7, Jd5, Jd8, Jdd, Jda, Jdb, Jd9, Jc3, Jc8, Jd0, Jcz, Jc7, Jch, Jcy, Jcx, Jcb, Jbs, Jcw, Jcg, Jbk, Jcj, Jc5, Jbj, Jci, Jcf, Jd2, Jd1, Jd4, Jbp, Jcd, Jcm, Jc2, Jct, Jcc, Jbq, Jcp, Jcv, Jdf, Jdg, Jc9, Jcq, Jcr, Jc4, Jbr, Jc1, Jbx, Jca, gt, st, Jbc, Jba, Jbb, Jb8, Jbi, Ja5, atI0, atI1, atI2, atI3, atI4, ixN20, ixN21, List.map_cons, List.map_nil, List.cons_append, List.nil_append, List.append_nil, List.length_cons, List.length_nil, List.replicate_succ, List.replicate_zero, Nat.add_one_sub_one, Jd3, Jbt, Jby, Jbz, Jbw, Jaf, Jah, Jai, Jag, Jb7, Jaw, Jax, Jal, Jav, Jb4, Jau, Jat, Jan, Jam, Jb2, Jaj, Jak, Jb0, Jb1, Jaq, Jb3, Jar, Jas, Jao, Jap, Jb6, Jb5, Ja8, Ja9, Jad, Jac, Ja0, Jaa, Jab, Jbg, Jbh, Ja7, Jae, Jbd, Jbf, Jbe, Jb9, Ja2, Ja1, Ja4, Ja3, Jay, Jaz, decide_true, decide_false, Bool.not_true, Bool.not_false, Bool.false_eq_true, if_true, if_false, true_and, Sx.n, iL, ab_e, Jcl]
  refine ⟨c1, c2, c3, c4, ok_lower_sum hr ?_⟩
  clear c1 c2 c3 c4 ha hb hc hd hs ht hw hlow m S hr
  simp only [Jbv, initE, Jcs, Jce, Jbl, Jbm, Jc0, Jcn, Jco, Jc6, Jck, Jbn, Jcu, Jbo, Jbu, Jd6, Jd7, Jd5, Jd8, Jdd, Jda, Jdb, Jd9, Jc3, Jc8, Jd0, Jcz, Jc7, Jch, Jcy, Jcx, Jcb, Jbs, Jcw, Jcg, Jbk, Jcj, Jc5, Jbj, Jci, Jcf, Jd2, Jd1, Jd4, Jbp, Jcd, Jcm, Jc2, Jct, Jcc, Jbq, Jcp, Jcv, Jdf, Jdg, Jc9, Jcq, Jcr, Jc4, Jbr, Jc1, Jbx, Jca, gt, st, Jbc, Jba, Jbb, Jb8, Jbi, Ja5, atI0, atI1, atI2, atI3, atI4, ixN20, ixN21, List.map_cons, List.map_nil, List.cons_append, List.nil_append, List.append_nil, List.length_cons, List.length_nil, List.replicate_succ, List.replicate_zero, Nat.add_one_sub_one, Jd3, Jbt, Jby, Jbz, Jbw, Jaf, Jah, Jai, Jag, Jb7, Jaw, Jax, Jal, Jav, Jb4, Jau, Jat, Jan, Jam, Jb2, Jaj, Jak, Jb0, Jb1, Jaq, Jb3, Jar, Jas, Jao, Jap, Jb6, Jb5, Ja8, Ja9, Jad, Jac, Ja0, Jaa, Jab, Jbg, Jbh, Ja7, Jae, Jbd, Jbf, Jbe, Jb9, Ja2, Ja1, Ja4, Ja3, Jay, Jaz, decide_true, decide_false, Bool.not_true, Bool.not_false, Bool.false_eq_true, if_true, if_false, true_and]
  unfold Sx.reach at k
  generalize ab x.b = b at u1 k ⊢
  generalize ab x.d = d at u2 k ⊢
  generalize ab (x.c * x.s) = cs at u3 k ⊢
  generalize ab (x.a * x.t) = at_ at u4 k ⊢
  generalize ab (x.d * x.s) = ds at u5 k ⊢
  generalize ab (x.b * x.t) = bt at u6 k ⊢
  generalize lowS x.r = l at u8 k ⊢
  have v1 : (2 * (b + d) + 3).natAbs ≤ 40003 := le_nat (by omega)
  have v2 : (cs + at_).natAbs ≤ 200000000 := le_nat (by omega)
  have v3 : (b + d).natAbs ≤ 20000 := le_nat (by omega)
  have mm := nat_le (mul_le (a := 40003) (b := 200000000) v1 v2)
  refine ⟨sm14 (by decide) (Nat.le_trans v3 (by decide)), sm14 (by decide) (Nat.le_trans v3 (by decide)), small (Nat.le_trans v1 (by decide)) (Nat.le_trans v2 (by decide)), ?_, k⟩
  clear v1 v2 v3 k
  generalize (2 * (b + d) + 3) * (cs + at_) = z at mm ⊢
  exact sm14 (by decide) (le_nat (by omega))
/-! ### the greatest one -/
structure IsMax (m : Int) (L : List Int) : Prop where
  i : m ∈ L
  u : ∀ y ∈ L, y ≤ m
theorem IsMax.one {m n : Int} {L : List Int} (h : IsMax m L) (h' : IsMax n L) : m = n := by
  have := h.u n h'.i
  have := h'.u m h.i
  omega
theorem ismax : ∀ (L : List Int), L ≠ [] → ∃ m, IsMax m L
  | [], h => absurd rfl h
  | [a], _ => ⟨a, List.mem_cons_self, fun y hy => by rw [List.mem_singleton.mp hy]; exact Int.le_refl _⟩
  | a :: b :: L, _ => by
    obtain ⟨m, h1, h2⟩ := ismax (b :: L) (by simp)
    by_cases q : m ≤ a
    · exact ⟨a, List.mem_cons_self, fun y hy => by
        rcases List.mem_cons.mp hy with rfl | z
        · exact Int.le_refl _
        · exact Int.le_trans (h2 y z) q⟩
    · exact ⟨m, List.mem_cons_of_mem _ h1, fun y hy => by
        rcases List.mem_cons.mp hy with rfl | z
        · omega
        · exact h2 y z⟩
theorem ok_max {L : List Int} {m : Int} (h : IsMax m L) (k : QQ (.v (.int m)) μ) : cbMaxL [.list (iL L)] μ QQ X := by
  simp only [cbMaxL, one, seqL]
  refine ⟨L, rfl, fun z => ?_, fun n h1 h2 => ?_⟩
  · have := h.i
    rw [z] at this
    cases this
  · rw [h.one ⟨h1, h2⟩] at k
    exact k
end
end DL

set_option Elab.async false
set_option linter.all false
set_option maxRecDepth 100000
set_option maxHeartbeats 4000000
/-! Q2: wedges. -/
namespace DL
open PySem L2
def wp_need_core : WP := (wDef 1 1 (wIfS (wOrT (wNotT (wTst (wCb false cbIsi (waCons (wV 0) (waCons (wK (.cls "Program")) waNil))))) (wNotT (wTst (wCall wp_is_core [] (waCons (wV 0) waNil))))) (wRz "NoCore") wNext))
def wp_Wedge___init__ : WP := (wDef 2 7 (wSeq (wDrop (wCall wp_need_core [] (waCons (wV 1) waNil)))
    (wSeq (wAsg 2 (wCall wp_couples_of [] (waCons (wV 1) waNil)))
    (wSeq (wAsg 3 (wCb false cbMaxL (waCons (wLc false (wiSeq (wV 2)) (wgTup 2 (wgCons (wgN 5) (wgCons (wgN 6) wgNil))) wYes (wOp false oAdd (wOp false oMul (wK (.int 2)) (wCb false cbAbs (waCons (wOp false oIx (wV 6) (wK (.int 0))) waNil))) (wK (.int 1))) [5, 6]) waNil)))
    (wSeq (wAsg 4 (wCb false cbMaxL (waCons (wLc false (wiSeq (wV 2)) (wgTup 2 (wgCons (wgN 5) (wgCons (wgN 6) wgNil))) wYes (wCall wp_least_height [] (waCons (wV 5) (waCons (wV 6) (waCons (wV 3) waNil)))) [5, 6]) waNil)))
    (wSeq (wSetF "Wedge" "own_core" (wV 0) (wV 1))
    (wSeq (wSetF "Wedge" "own_width" (wV 0) (wV 3))
    (wSeq (wSetF "Wedge" "own_height" (wV 0) (wV 4))
    (wSetF "Wedge" "own_reach" (wV 0) (wCb false cbMaxL (waCons (wLst false (waCons (wV 4) (waStar (wLc false (wiSeq (wV 2)) (wgTup 2 (wgCons (wgN 5) (wgCons (wgN 6) wgNil))) wYes (wCall wp_least_reach [] (waCons (wV 5) (waCons (wV 6) (waCons (wV 3) waNil)))) [5, 6]) waNil))) waNil)))))))))))
def wedD (ss : List Stp) (w h r : Int) : D := .obj "Wedge" ["own_core", "own_width", "own_height", "own_reach"] [progD ss, .int w, .int h, .int r]
/-- the sizes of a wedge -/
structure Wg (xs : List Sx) (w h r : Int) : Prop where
  mw : IsMax w (xs.map fun x => 2 * ab x.a + 1)
  mh : IsMax h (xs.map fun x => x.height w)
  mr : IsMax r (h :: xs.map fun x => x.reach w)
theorem pn1 (x : D) : putN "own_core" x [] [] = ((["own_core"] : List Str), [x]) := rfl
theorem pn2 (x y : D) : putN "own_width" y ["own_core"] [x] = ((["own_core", "own_width"] : List Str), [x, y]) := rfl
theorem pn3 (x y z : D) : putN "own_height" z ["own_core", "own_width"] [x, y] = ((["own_core", "own_width", "own_height"] : List Str), [x, y, z]) := rfl
theorem pn4 (x y z u : D) : putN "own_reach" u ["own_core", "own_width", "own_height"] [x, y, z] = ((["own_core", "own_width", "own_height", "own_reach"] : List Str), [x, y, z, u]) := rfl
section
variable {μ : Mu} {Q X : QD} {ss : List Stp} {cs : List Cp} {q : Cp} {g : En} {B : Nat} {w h r : Int}
theorem ok_need_core (hl : ss.length ≤ 1000) (ho : ∀ s ∈ ss, s.Ok HUGE) (hc : CoreP ss) (k : Q .none μ) : wp_need_core [progD ss] μ Q X := by
  have ei : ∀ (QQ : QR) (X : QD), cbIsi [progD ss, .cls "Program"] μ QQ X = QQ (.v (.bool true)) μ := fun _ _ => propext Iff.rfl
  unfold wp_need_core
  simp only [Jbv, initE, Jcs, Jce, Jbl, Jbm, Jc0, Jcn, Jco, Jc6, Jck, Jbn, Jcu, Jbo, Jbu, Jd6, Jd7, Jd5, Jd8, Jdd, Jda, Jdb, Jd9, Jc3, Jc8, Jd0, Jcz, Jc7, Jch, Jcy, Jcx, Jcb, Jbs, Jcw, Jcg, Jbk, Jcj, Jc5, Jbj, Jci, Jcf, Jd2, Jd1, Jd4, Jbp, Jcd, Jcm, Jc2, Jct, Jcc, Jbq, Jcp, Jcv, Jdf, Jdg, Jc9, Jcq, Jcr, Jc4, Jbr, Jc1, Jbx, Jca, gt, st, Jbc, Jba, Jbb, Jb8, Jbi, Ja5, atI0, atI1, atI2, atI3, atI4, ixN20, ixN21, List.map_cons, List.map_nil, List.cons_append, List.nil_append, List.append_nil, List.length_cons, List.length_nil, List.replicate_succ, List.replicate_zero, Nat.add_one_sub_one, Jd3, Jbt, Jby, Jbz, Jbw, Jaf, Jah, Jai, Jag, Jb7, Jaw, Jax, Jal, Jav, Jb4, Jau, Jat, Jan, Jam, Jb2, Jaj, Jak, Jb0, Jb1, Jaq, Jb3, Jar, Jas, Jao, Jap, Jb6, Jb5, Ja8, Ja9, Jad, Jac, Ja0, Jaa, Jab, Jbg, Jbh, Ja7, Jae, Jbd, Jbf, Jbe, Jb9, Ja2, Ja1, Ja4, Ja3, Jay, Jaz, decide_true, decide_false, Bool.not_true, Bool.not_false, Bool.false_eq_true, if_true, if_false, true_and, ei]
  refine ok_is_core hl ho fun b hb => ?_
  obtain rfl : b = true := hb.mpr hc
  simp only [Jbv, initE, Jcs, Jce, Jbl, Jbm, Jc0, Jcn, Jco, Jc6, Jck, Jbn, Jcu, Jbo, Jbu, Jd6, Jd7, Jd5, Jd8, Jdd, Jda, Jdb, Jd9, Jc3, Jc8, Jd0, Jcz, Jc7, Jch, Jcy, Jcx, Jcb, Jbs, Jcw, Jcg, Jbk, Jcj, Jc5, Jbj, Jci, Jcf, Jd2, Jd1, Jd4, Jbp, Jcd, Jcm, Jc2, Jct, Jcc, Jbq, Jcp, Jcv, Jdf, Jdg, Jc9, Jcq, Jcr, Jc4, Jbr, Jc1, Jbx, Jca, gt, st, Jbc, Jba, Jbb, Jb8, Jbi, Ja5, atI0, atI1, atI2, atI3, atI4, ixN20, ixN21, List.map_cons, List.map_nil, List.cons_append, List.nil_append, List.append_nil, List.length_cons, List.length_nil, List.replicate_succ, List.replicate_zero, Nat.add_one_sub_one, Jd3, Jbt, Jby, Jbz, Jbw, Jaf, Jah, Jai, Jag, Jb7, Jaw, Jax, Jal, Jav, Jb4, Jau, Jat, Jan, Jam, Jb2, Jaj, Jak, Jb0, Jb1, Jaq, Jb3, Jar, Jas, Jao, Jap, Jb6, Jb5, Ja8, Ja9, Jad, Jac, Ja0, Jaa, Jab, Jbg, Jbh, Ja7, Jae, Jbd, Jbf, Jbe, Jb9, Ja2, Ja1, Ja4, Ja3, Jay, Jaz, decide_true, decide_false, Bool.not_true, Bool.not_false, Bool.false_eq_true, if_true, if_false, true_and]
  exact k
theorem ok_Wedge_init {p : Addr} {xs : List Sx} (hp : μ p = Option.none) (hl : ss.length ≤ 100) (ho : ∀ s ∈ ss, s.Ok B) (hB : B ≤ 10000) (hc : CoreP ss) (e : Cor ss cs q g) (hx : xs = sxs cs q g) (hw : Wg xs w h r) (sm : ∀ x ∈ xs, x.Sm w) (k : Q .none (up μ p (.obj "Wedge" ["own_core", "own_width", "own_height", "own_reach"] [progD ss, .int w, .int h, .int r]))) : wp_Wedge___init__ [.cell p, progD ss] (up μ p (.obj "Wedge" [] [])) Q X := by
  have lx : xs.length ≤ 100 := by
    rw [hx]
    have := cor_len e
    simp
    omega
  unfold wp_Wedge___init__
  simp only [Jbv, initE, Jcs, Jce, Jbl, Jbm, Jc0, Jcn, Jco, Jc6, Jck, Jbn, Jcu, Jbo, Jbu, Jd6, Jd7, Jd5, Jd8, Jdd, Jda, Jdb, Jd9, Jc3, Jc8, Jd0, Jcz, Jc7, Jch, Jcy, Jcx, Jcb, Jbs, Jcw, Jcg, Jbk, Jcj, Jc5, Jbj, Jci, Jcf, Jd2, Jd1, Jd4, Jbp, Jcd, Jcm, Jc2, Jct, Jcc, Jbq, Jcp, Jcv, Jdf, Jdg, Jc9, Jcq, Jcr, Jc4, Jbr, Jc1, Jbx, Jca, gt, st, Jbc, Jba, Jbb, Jb8, Jbi, Ja5, atI0, atI1, atI2, atI3, atI4, ixN20, ixN21, List.map_cons, List.map_nil, List.cons_append, List.nil_append, List.append_nil, List.length_cons, List.length_nil, List.replicate_succ, List.replicate_zero, Nat.add_one_sub_one, Jd3, Jbt, Jby, Jbz, Jbw, Jaf, Jah, Jai, Jag, Jb7, Jaw, Jax, Jal, Jav, Jb4, Jau, Jat, Jan, Jam, Jb2, Jaj, Jak, Jb0, Jb1, Jaq, Jb3, Jar, Jas, Jao, Jap, Jb6, Jb5, Ja8, Ja9, Jad, Jac, Ja0, Jaa, Jab, Jbg, Jbh, Ja7, Jae, Jbd, Jbf, Jbe, Jb9, Ja2, Ja1, Ja4, Ja3, Jay, Jaz, decide_true, decide_false, Bool.not_true, Bool.not_false, Bool.false_eq_true, if_true, if_false, true_and]
  refine ok_need_core (by omega) (fun s hs => (ho s hs).up (Nat.le_trans hB (Nat.le_trans (by decide : 10000 ≤ 2 ^ 20) (pow_huge (by decide))))) hc ?_
  refine ok_couples_of e ho (Nat.le_trans hB (by decide)) hl ?_
  rw [← hx]
  simp only [Jbv, initE, Jcs, Jce, Jbl, Jbm, Jc0, Jcn, Jco, Jc6, Jck, Jbn, Jcu, Jbo, Jbu, Jd6, Jd7, Jd5, Jd8, Jdd, Jda, Jdb, Jd9, Jc3, Jc8, Jd0, Jcz, Jc7, Jch, Jcy, Jcx, Jcb, Jbs, Jcw, Jcg, Jbk, Jcj, Jc5, Jbj, Jci, Jcf, Jd2, Jd1, Jd4, Jbp, Jcd, Jcm, Jc2, Jct, Jcc, Jbq, Jcp, Jcv, Jdf, Jdg, Jc9, Jcq, Jcr, Jc4, Jbr, Jc1, Jbx, Jca, gt, st, Jbc, Jba, Jbb, Jb8, Jbi, Ja5, atI0, atI1, atI2, atI3, atI4, ixN20, ixN21, List.map_cons, List.map_nil, List.cons_append, List.nil_append, List.append_nil, List.length_cons, List.length_nil, List.replicate_succ, List.replicate_zero, Nat.add_one_sub_one, Jd3, Jbt, Jby, Jbz, Jbw, Jaf, Jah, Jai, Jag, Jb7, Jaw, Jax, Jal, Jav, Jb4, Jau, Jat, Jan, Jam, Jb2, Jaj, Jak, Jb0, Jb1, Jaq, Jb3, Jar, Jas, Jao, Jap, Jb6, Jb5, Ja8, Ja9, Jad, Jac, Ja0, Jaa, Jab, Jbg, Jbh, Ja7, Jae, Jbd, Jbf, Jbe, Jb9, Ja2, Ja1, Ja4, Ja3, Jay, Jaz, decide_true, decide_false, Bool.not_true, Bool.not_false, Bool.false_eq_true, if_true, if_false, true_and]
  refine ⟨by rw [List.length_map, sizeLine_eq]; omega, lc_inv (fun i acc μ' => μ' = up μ p (.obj "Wedge" [] []) ∧ acc = iL ((xs.take i).map fun x => 2 * ab x.a + 1)) ⟨rfl, rfl⟩ ?_ ?_⟩
  · rintro i y acc μ' N hy ⟨rfl, rfl⟩ hN
    obtain ⟨x, hx1, rfl⟩ := map_get hy
    have sx := sm x (List.mem_of_getElem? hx1)
    have nx : N (iL ((xs.take i).map fun x => 2 * ab x.a + 1) ++ [.int (2 * ab x.a + 1)]) (up μ p (.obj "Wedge" [] [])) := hN _ _ ⟨rfl, by
      rw [List.take_succ, hx1, List.map_append]
      exact iL_snoc _ _⟩
    refine ⟨trivial, ?_⟩
    simp only [Jbv, initE, Jcs, Jce, Jbl, Jbm, Jc0, Jcn, Jco, Jc6, Jck, Jbn, Jcu, Jbo, Jbu, Jd6, Jd7, Jd5, Jd8, Jdd, Jda, Jdb, Jd9, Jc3, Jc8, Jd0, Jcz, Jc7, Jch, Jcy, Jcx, Jcb, Jbs, Jcw, Jcg, Jbk, Jcj, Jc5, Jbj, Jci, Jcf, Jd2, Jd1, Jd4, Jbp, Jcd, Jcm, Jc2, Jct, Jcc, Jbq, Jcp, Jcv, Jdf, Jdg, Jc9, Jcq, Jcr, Jc4, Jbr, Jc1, Jbx, Jca, gt, st, Jbc, Jba, Jbb, Jb8, Jbi, Ja5, atI0, atI1, atI2, atI3, atI4, ixN20, ixN21, List.map_cons, List.map_nil, List.cons_append, List.nil_append, List.append_nil, List.length_cons, List.length_nil, List.replicate_succ, List.replicate_zero, Nat.add_one_sub_one, Jd3, Jbt, Jby, Jbz, Jbw, Jaf, Jah, Jai, Jag, Jb7, Jaw, Jax, Jal, Jav, Jb4, Jau, Jat, Jan, Jam, Jb2, Jaj, Jak, Jb0, Jb1, Jaq, Jb3, Jar, Jas, Jao, Jap, Jb6, Jb5, Ja8, Ja9, Jad, Jac, Ja0, Jaa, Jab, Jbg, Jbh, Ja7, Jae, Jbd, Jbf, Jbe, Jb9, Ja2, Ja1, Ja4, Ja3, Jay, Jaz, decide_true, decide_false, Bool.not_true, Bool.not_false, Bool.false_eq_true, if_true, if_false, true_and, Sx.p, wipeE]
    simp only [Sx.n, iL, List.map_cons, Jbv, initE, Jcs, Jce, Jbl, Jbm, Jc0, Jcn, Jco, Jc6, Jck, Jbn, Jcu, Jbo, Jbu, Jd6, Jd7, Jd5, Jd8, Jdd, Jda, Jdb, Jd9, Jc3, Jc8, Jd0, Jcz, Jc7, Jch, Jcy, Jcx, Jcb, Jbs, Jcw, Jcg, Jbk, Jcj, Jc5, Jbj, Jci, Jcf, Jd2, Jd1, Jd4, Jbp, Jcd, Jcm, Jc2, Jct, Jcc, Jbq, Jcp, Jcv, Jdf, Jdg, Jc9, Jcq, Jcr, Jc4, Jbr, Jc1, Jbx, Jca, gt, st, Jbc, Jba, Jbb, Jb8, Jbi, Ja5, atI0, atI1, atI2, atI3, atI4, ixN20, ixN21, List.map_cons, List.map_nil, List.cons_append, List.nil_append, List.append_nil, List.length_cons, List.length_nil, List.replicate_succ, List.replicate_zero, Nat.add_one_sub_one, Jd3, Jbt, Jby, Jbz, Jbw, Jaf, Jah, Jai, Jag, Jb7, Jaw, Jax, Jal, Jav, Jb4, Jau, Jat, Jan, Jam, Jb2, Jaj, Jak, Jb0, Jb1, Jaq, Jb3, Jar, Jas, Jao, Jap, Jb6, Jb5, Ja8, Ja9, Jad, Jac, Ja0, Jaa, Jab, Jbg, Jbh, Ja7, Jae, Jbd, Jbf, Jbe, Jb9, Ja2, Ja1, Ja4, Ja3, Jay, Jaz, decide_true, decide_false, Bool.not_true, Bool.not_false, Bool.false_eq_true, if_true, if_false, true_and, ab_e]
    have n1 := ab_n x.a
    have n2 := sx.a
    exact ⟨sm14 (by decide) (by omega), nx⟩
  rintro acc μ' ⟨rfl, rfl⟩
  rw [List.length_map, List.take_length]
  refine ⟨trivial, ?_⟩
  refine ok_max hw.mw ?_
  simp only [Jbv, initE, Jcs, Jce, Jbl, Jbm, Jc0, Jcn, Jco, Jc6, Jck, Jbn, Jcu, Jbo, Jbu, Jd6, Jd7, Jd5, Jd8, Jdd, Jda, Jdb, Jd9, Jc3, Jc8, Jd0, Jcz, Jc7, Jch, Jcy, Jcx, Jcb, Jbs, Jcw, Jcg, Jbk, Jcj, Jc5, Jbj, Jci, Jcf, Jd2, Jd1, Jd4, Jbp, Jcd, Jcm, Jc2, Jct, Jcc, Jbq, Jcp, Jcv, Jdf, Jdg, Jc9, Jcq, Jcr, Jc4, Jbr, Jc1, Jbx, Jca, gt, st, Jbc, Jba, Jbb, Jb8, Jbi, Ja5, atI0, atI1, atI2, atI3, atI4, ixN20, ixN21, List.map_cons, List.map_nil, List.cons_append, List.nil_append, List.append_nil, List.length_cons, List.length_nil, List.replicate_succ, List.replicate_zero, Nat.add_one_sub_one, Jd3, Jbt, Jby, Jbz, Jbw, Jaf, Jah, Jai, Jag, Jb7, Jaw, Jax, Jal, Jav, Jb4, Jau, Jat, Jan, Jam, Jb2, Jaj, Jak, Jb0, Jb1, Jaq, Jb3, Jar, Jas, Jao, Jap, Jb6, Jb5, Ja8, Ja9, Jad, Jac, Ja0, Jaa, Jab, Jbg, Jbh, Ja7, Jae, Jbd, Jbf, Jbe, Jb9, Ja2, Ja1, Ja4, Ja3, Jay, Jaz, decide_true, decide_false, Bool.not_true, Bool.not_false, Bool.false_eq_true, if_true, if_false, true_and]
  refine ⟨by simp [sizeLine_eq]; omega, lc_inv (fun i acc μ' => μ' = up μ p (.obj "Wedge" [] []) ∧ acc = iL ((xs.take i).map fun x => x.height w)) ⟨rfl, rfl⟩ ?_ ?_⟩
  · rintro i y acc μ' N hy ⟨rfl, rfl⟩ hN
    obtain ⟨x, hx1, rfl⟩ := map_get hy
    have sx := sm x (List.mem_of_getElem? hx1)
    have nx : N (iL ((xs.take i).map fun x => x.height w) ++ [.int (x.height w)]) (up μ p (.obj "Wedge" [] [])) := hN _ _ ⟨rfl, by
      rw [List.take_succ, hx1, List.map_append]
      exact iL_snoc _ _⟩
    refine ⟨trivial, ?_⟩
    simp only [Jbv, initE, Jcs, Jce, Jbl, Jbm, Jc0, Jcn, Jco, Jc6, Jck, Jbn, Jcu, Jbo, Jbu, Jd6, Jd7, Jd5, Jd8, Jdd, Jda, Jdb, Jd9, Jc3, Jc8, Jd0, Jcz, Jc7, Jch, Jcy, Jcx, Jcb, Jbs, Jcw, Jcg, Jbk, Jcj, Jc5, Jbj, Jci, Jcf, Jd2, Jd1, Jd4, Jbp, Jcd, Jcm, Jc2, Jct, Jcc, Jbq, Jcp, Jcv, Jdf, Jdg, Jc9, Jcq, Jcr, Jc4, Jbr, Jc1, Jbx, Jca, gt, st, Jbc, Jba, Jbb, Jb8, Jbi, Ja5, atI0, atI1, atI2, atI3, atI4, ixN20, ixN21, List.map_cons, List.map_nil, List.cons_append, List.nil_append, List.append_nil, List.length_cons, List.length_nil, List.replicate_succ, List.replicate_zero, Nat.add_one_sub_one, Jd3, Jbt, Jby, Jbz, Jbw, Jaf, Jah, Jai, Jag, Jb7, Jaw, Jax, Jal, Jav, Jb4, Jau, Jat, Jan, Jam, Jb2, Jaj, Jak, Jb0, Jb1, Jaq, Jb3, Jar, Jas, Jao, Jap, Jb6, Jb5, Ja8, Ja9, Jad, Jac, Ja0, Jaa, Jab, Jbg, Jbh, Ja7, Jae, Jbd, Jbf, Jbe, Jb9, Ja2, Ja1, Ja4, Ja3, Jay, Jaz, decide_true, decide_false, Bool.not_true, Bool.not_false, Bool.false_eq_true, if_true, if_false, true_and, Sx.p, wipeE]
    exact ok_least_height sx nx
  rintro acc μ' ⟨rfl, rfl⟩
  rw [List.length_map, List.take_length]
  refine ⟨trivial, ?_⟩
  refine ok_max hw.mh ?_
  simp only [Jbv, initE, Jcs, Jce, Jbl, Jbm, Jc0, Jcn, Jco, Jc6, Jck, Jbn, Jcu, Jbo, Jbu, Jd6, Jd7, Jd5, Jd8, Jdd, Jda, Jdb, Jd9, Jc3, Jc8, Jd0, Jcz, Jc7, Jch, Jcy, Jcx, Jcb, Jbs, Jcw, Jcg, Jbk, Jcj, Jc5, Jbj, Jci, Jcf, Jd2, Jd1, Jd4, Jbp, Jcd, Jcm, Jc2, Jct, Jcc, Jbq, Jcp, Jcv, Jdf, Jdg, Jc9, Jcq, Jcr, Jc4, Jbr, Jc1, Jbx, Jca, gt, st, Jbc, Jba, Jbb, Jb8, Jbi, Ja5, atI0, atI1, atI2, atI3, atI4, ixN20, ixN21, List.map_cons, List.map_nil, List.cons_append, List.nil_append, List.append_nil, List.length_cons, List.length_nil, List.replicate_succ, List.replicate_zero, Nat.add_one_sub_one, Jd3, Jbt, Jby, Jbz, Jbw, Jaf, Jah, Jai, Jag, Jb7, Jaw, Jax, Jal, Jav, Jb4, Jau, Jat, Jan, Jam, Jb2, Jaj, Jak, Jb0, Jb1, Jaq, Jb3, Jar, Jas, Jao, Jap, Jb6, Jb5, Ja8, Ja9, Jad, Jac, Ja0, Jaa, Jab, Jbg, Jbh, Ja7, Jae, Jbd, Jbf, Jbe, Jb9, Ja2, Ja1, Ja4, Ja3, Jay, Jaz, decide_true, decide_false, Bool.not_true, Bool.not_false, Bool.false_eq_true, if_true, if_false, true_and, up_same, ndO, pn1, pn2, pn3, pn4, up_up]
  refine ⟨by decide, by decide, by decide, by rw [sizeLine_eq]; omega, lc_inv (fun i acc μ' => μ' = up μ p (.obj "Wedge" ["own_core", "own_width", "own_height"] [progD ss, .int w, .int h]) ∧ acc = iL ((xs.take i).map fun x => x.reach w)) ⟨rfl, rfl⟩ ?_ ?_⟩
  · rintro i y acc μ' N hy ⟨rfl, rfl⟩ hN
    obtain ⟨x, hx1, rfl⟩ := map_get hy
    have sx := sm x (List.mem_of_getElem? hx1)
    have nx : N (iL ((xs.take i).map fun x => x.reach w) ++ [.int (x.reach w)]) (up μ p (.obj "Wedge" ["own_core", "own_width", "own_height"] [progD ss, .int w, .int h])) := hN _ _ ⟨rfl, by
      rw [List.take_succ, hx1, List.map_append]
      exact iL_snoc _ _⟩
    refine ⟨trivial, ?_⟩
    simp only [Jbv, initE, Jcs, Jce, Jbl, Jbm, Jc0, Jcn, Jco, Jc6, Jck, Jbn, Jcu, Jbo, Jbu, Jd6, Jd7, Jd5, Jd8, Jdd, Jda, Jdb, Jd9, Jc3, Jc8, Jd0, Jcz, Jc7, Jch, Jcy, Jcx, Jcb, Jbs, Jcw, Jcg, Jbk, Jcj, Jc5, Jbj, Jci, Jcf, Jd2, Jd1, Jd4, Jbp, Jcd, Jcm, Jc2, Jct, Jcc, Jbq, Jcp, Jcv, Jdf, Jdg, Jc9, Jcq, Jcr, Jc4, Jbr, Jc1, Jbx, Jca, gt, st, Jbc, Jba, Jbb, Jb8, Jbi, Ja5, atI0, atI1, atI2, atI3, atI4, ixN20, ixN21, List.map_cons, List.map_nil, List.cons_append, List.nil_append, List.append_nil, List.length_cons, List.length_nil, List.replicate_succ, List.replicate_zero, Nat.add_one_sub_one, Jd3, Jbt, Jby, Jbz, Jbw, Jaf, Jah, Jai, Jag, Jb7, Jaw, Jax, Jal, Jav, Jb4, Jau, Jat, Jan, Jam, Jb2, Jaj, Jak, Jb0, Jb1, Jaq, Jb3, Jar, Jas, Jao, Jap, Jb6, Jb5, Ja8, Ja9, Jad, Jac, Ja0, Jaa, Jab, Jbg, Jbh, Ja7, Jae, Jbd, Jbf, Jbe, Jb9, Ja2, Ja1, Ja4, Ja3, Jay, Jaz, decide_true, decide_false, Bool.not_true, Bool.not_false, Bool.false_eq_true, if_true, if_false, true_and, Sx.p, wipeE]
    exact ok_least_reach sx nx
  rintro acc μ' ⟨rfl, rfl⟩
  simp only [List.length_map]
  rw [List.take_length]
  refine ⟨trivial, by simp [sizeLine_eq]; omega, ?_⟩
  have mr := hw.mr
  refine ok_max (L := h :: xs.map fun x => x.reach w) mr ?_
  simp only [up_same, ndO, pn4, up_up, sett]
  exact ⟨trivial, by decide, k⟩
end
end DL

set_option Elab.async false
set_option linter.all false
set_option maxRecDepth 100000
set_option maxHeartbeats 4000000
/-! Q3: points and wedges; the law's sizes. -/
namespace DL
open PySem L2
def wp_is_point : WP := (wDef 1 1 (wRet (wAnd (wCb false cbIsi (waCons (wV 0) (waCons (wK (.ty "tuple")) waNil))) (wAnd (wOp false oEq (wCb false cbLen (waCons (wV 0) waNil)) (wK (.int 2))) (wAnd (wCall wp_is_number [] (waCons (wOp false oIx (wV 0) (wK (.int 0))) waNil)) (wCall wp_is_number [] (waCons (wOp false oIx (wV 0) (wK (.int 1))) waNil)))))))
def wp_Wedge___contains__ : WP := (wDef 2 2 (wSeq (wIfS (wOrT (wNotT (wTst (wCall wp_is_point [] (waCons (wV 1) waNil)))) (wTst (wOp false oLt (wCb false cbAbs (waCons (wOp false oIx (wV 1) (wK (.int 1))) waNil)) (wFld "Wedge" "own_height" (wV 0))))) (wRet (wK (.bool false))) wNext)
    (wRet (wOp false oLe (wCb false cbAbs (waCons (wOp false oIx (wV 1) (wK (.int 0))) waNil)) (wOp false oMul (wFld "Wedge" "own_width" (wV 0)) (wCb false cbAbs (waCons (wOp false oIx (wV 1) (wK (.int 1))) waNil)))))))
def wp_law_couples : WP := (wDef 1 12 (wSeq (wPar3 1 2 3 (waCons (wLst true waNil) (waCons (wOp false oIx (wV 0) (wUn false oNeg (wK (.int 2)))) (waCons (wOp false oIx (wV 0) (wUn false oNeg (wK (.int 1)))) waNil))))
    (wSeq (wFor (wiRng3U (waCons (wK (.int 0)) (waCons (wOp false oSub (wCb false cbLen (waCons (wV 0) waNil)) (wK (.int 2))) (waCons (wK (.int 2)) waNil)))) (wgN 4) (wSeq (wAsgG (wgTup 5 (wgCons (wgN 5) (wgCons (wgN 6) (wgCons (wgN 7) (wgCons (wgN 8) (wgCons (wgN 9) wgNil)))))) (wOp false oIx (wV 0) (wOp false oAdd (wV 4) (wK (.int 1)))))
    (wSeq (wAsg 10 (wTup (waCons (wV 6) (waCons (wV 7) (waCons (wV 8) (waCons (wV 9) (waCons (wK (.int 0)) (waCons (wK (.int 0)) waNil))))))))
    (wSeq (wIfS (wTst (wOp false oEq (wOp false oAdd (wV 4) (wK (.int 4))) (wCb false cbLen (waCons (wV 0) waNil)))) (wSeq (wAsg 11 (wTup (waCons (wOp false oAdd (wOp false oMul (wOp false oIx (wV 2) (wK (.int 1))) (wV 6)) (wOp false oMul (wOp false oIx (wV 2) (wK (.int 2))) (wV 8))) (waCons (wOp false oAdd (wOp false oMul (wOp false oIx (wV 2) (wK (.int 1))) (wV 7)) (wOp false oMul (wOp false oIx (wV 2) (wK (.int 2))) (wV 9))) waNil))))
    (wAsg 10 (wOp false oAdd (wV 11) (wTup (waCons (wOp false oMul (wOp false oIx (wV 2) (wK (.int 4))) (wV 8)) (waCons (wOp false oMul (wOp false oIx (wV 2) (wK (.int 4))) (wV 9)) (waCons (wOp false oIx (wV 3) (wK (.int 1))) (waCons (wOp false oIx (wV 3) (wK (.int 2))) waNil)))))))) wNext)
    (wDrop (wLm false mApp (wV 1) (waCons (wTup (waCons (wOp false oIx (wOp false oIx (wV 0) (wV 4)) (wK (.int 1))) (waCons (wV 10) waNil))) waNil)))))))
    (wFz 1 (wRet (wV 1))))))
def wp_law_is_within : WP := (wDef 2 2 (wRet (wAnd (wOp false oGe (wCb false cbAbs (waCons (wOp false oIx (wV 1) (wK (.int 1))) waNil)) (wOp false oIx (wV 0) (wK (.int 1)))) (wOp false oLe (wCb false cbAbs (waCons (wOp false oIx (wV 1) (wK (.int 0))) waNil)) (wOp false oMul (wOp false oIx (wV 0) (wK (.int 0))) (wCb false cbAbs (waCons (wOp false oIx (wV 1) (wK (.int 1))) waNil)))))))
section
variable {μ : Mu} {Q X : QD} {ss : List Stp} {cs : List Cp} {q : Cp} {g : En} {B : Nat} {w h r x y : Int}
abbrev inW (w h x y : Int) : Bool := decide (h ≤ ab y) && decide (ab x ≤ w * ab y)
theorem ok_is_point (k : Q (.bool true) μ) : wp_is_point [.tup [.int x, .int y]] μ Q X := by
  have ei : ∀ (QQ : QR) (X : QD), cbIsi [.tup [.int x, .int y], .ty "tuple"] μ QQ X = QQ (.v (.bool true)) μ := fun _ _ => propext Iff.rfl
  unfold wp_is_point
  simp only [Jbv, initE, Jcs, Jce, Jbl, Jbm, Jc0, Jcn, Jco, Jc6, Jck, Jbn, Jcu, Jbo, Jbu, Jd6, Jd7, Jd5, Jd8, Jdd, Jda, Jdb, Jd9, Jc3, Jc8, Jd0, Jcz, Jc7, Jch, Jcy, Jcx, Jcb, Jbs, Jcw, Jcg, Jbk, Jcj, Jc5, Jbj, Jci, Jcf, Jd2, Jd1, Jd4, Jbp, Jcd, Jcm, Jc2, Jct, Jcc, Jbq, Jcp, Jcv, Jdf, Jdg, Jc9, Jcq, Jcr, Jc4, Jbr, Jc1, Jbx, Jca, gt, st, Jbc, Jba, Jbb, Jb8, Jbi, Ja5, atI0, atI1, atI2, atI3, atI4, ixN20, ixN21, List.map_cons, List.map_nil, List.cons_append, List.nil_append, List.append_nil, List.length_cons, List.length_nil, List.replicate_succ, List.replicate_zero, Nat.add_one_sub_one, Jd3, Jbt, Jby, Jbz, Jbw, Jaf, Jah, Jai, Jag, Jb7, Jaw, Jax, Jal, Jav, Jb4, Jau, Jat, Jan, Jam, Jb2, Jaj, Jak, Jb0, Jb1, Jaq, Jb3, Jar, Jas, Jao, Jap, Jb6, Jb5, Ja8, Ja9, Jad, Jac, Ja0, Jaa, Jab, Jbg, Jbh, Ja7, Jae, Jbd, Jbf, Jbe, Jb9, Ja2, Ja1, Ja4, Ja3, Jay, Jaz, decide_true, decide_false, Bool.not_true, Bool.not_false, Bool.false_eq_true, if_true, if_false, true_and, ei]
  rw [if_pos (by decide)]
  refine ok_is_number (t := .b "int") rfl ?_
  simp only [numD, Jbv, initE, Jcs, Jce, Jbl, Jbm, Jc0, Jcn, Jco, Jc6, Jck, Jbn, Jcu, Jbo, Jbu, Jd6, Jd7, Jd5, Jd8, Jdd, Jda, Jdb, Jd9, Jc3, Jc8, Jd0, Jcz, Jc7, Jch, Jcy, Jcx, Jcb, Jbs, Jcw, Jcg, Jbk, Jcj, Jc5, Jbj, Jci, Jcf, Jd2, Jd1, Jd4, Jbp, Jcd, Jcm, Jc2, Jct, Jcc, Jbq, Jcp, Jcv, Jdf, Jdg, Jc9, Jcq, Jcr, Jc4, Jbr, Jc1, Jbx, Jca, gt, st, Jbc, Jba, Jbb, Jb8, Jbi, Ja5, atI0, atI1, atI2, atI3, atI4, ixN20, ixN21, List.map_cons, List.map_nil, List.cons_append, List.nil_append, List.append_nil, List.length_cons, List.length_nil, List.replicate_succ, List.replicate_zero, Nat.add_one_sub_one, Jd3, Jbt, Jby, Jbz, Jbw, Jaf, Jah, Jai, Jag, Jb7, Jaw, Jax, Jal, Jav, Jb4, Jau, Jat, Jan, Jam, Jb2, Jaj, Jak, Jb0, Jb1, Jaq, Jb3, Jar, Jas, Jao, Jap, Jb6, Jb5, Ja8, Ja9, Jad, Jac, Ja0, Jaa, Jab, Jbg, Jbh, Ja7, Jae, Jbd, Jbf, Jbe, Jb9, Ja2, Ja1, Ja4, Ja3, Jay, Jaz, decide_true, decide_false, Bool.not_true, Bool.not_false, Bool.false_eq_true, if_true, if_false, true_and]
  refine ok_is_number (t := .b "int") rfl ?_
  exact k
theorem ok_law_couples (e : Cor ss cs q g) (ho : ∀ s ∈ ss, s.Ok B) (hB : B ≤ 10 ^ 30) (hl : ss.length ≤ 100) (k : ∀ p, μ p = Option.none → Q (.list ((sxs cs q g).map Sx.l)) μ) : wp_law_couples [.list (ss.map Stp.b)] μ Q X := by
  have ln := cor_len e
  have b1 : atI (ss.map Stp.b) (-1) = some (Stp.move g.s g.t).b := by rw [cor_b e]; exact at_m1 _ _ _ _ _
  have b2 : atI (ss.map Stp.b) (-2) = some (Stp.turn g.e g.n 0 g.f).b := by rw [cor_b e]; exact at_m2 _ _ _ _ _
  unfold wp_law_couples
  simp only [Jbv, initE, Jcs, Jce, Jbl, Jbm, Jc0, Jcn, Jco, Jc6, Jck, Jbn, Jcu, Jbo, Jbu, Jd6, Jd7, Jd5, Jd8, Jdd, Jda, Jdb, Jd9, Jc3, Jc8, Jd0, Jcz, Jc7, Jch, Jcy, Jcx, Jcb, Jbs, Jcw, Jcg, Jbk, Jcj, Jc5, Jbj, Jci, Jcf, Jd2, Jd1, Jd4, Jbp, Jcd, Jcm, Jc2, Jct, Jcc, Jbq, Jcp, Jcv, Jdf, Jdg, Jc9, Jcq, Jcr, Jc4, Jbr, Jc1, Jbx, Jca, gt, st, Jbc, Jba, Jbb, Jb8, Jbi, Ja5, atI0, atI1, atI2, atI3, atI4, ixN20, ixN21, List.map_cons, List.map_nil, List.cons_append, List.nil_append, List.append_nil, List.length_cons, List.length_nil, List.replicate_succ, List.replicate_zero, Nat.add_one_sub_one, Jd3, Jbt, Jby, Jbz, Jbw, Jaf, Jah, Jai, Jag, Jb7, Jaw, Jax, Jal, Jav, Jb4, Jau, Jat, Jan, Jam, Jb2, Jaj, Jak, Jb0, Jb1, Jaq, Jb3, Jar, Jas, Jao, Jap, Jb6, Jb5, Ja8, Ja9, Jad, Jac, Ja0, Jaa, Jab, Jbg, Jbh, Ja7, Jae, Jbd, Jbf, Jbe, Jb9, Ja2, Ja1, Ja4, Ja3, Jay, Jaz, decide_true, decide_false, Bool.not_true, Bool.not_false, Bool.false_eq_true, if_true, if_false, true_and, Jcl, Jdc, b1, b2, List.length_map]
  refine ⟨Nat.zero_le _, fun p hp => ⟨⟨by omega, by omega, by omega⟩, by rw [twoD_len]; omega, ?_⟩⟩
  have en : (((ss.length : Int) - 2 - 0 + 1) / 2).toNat = cs.length + 1 := by omega
  rw [en]
  refine for_inv (fun i e μ' => ∃ x4 x5 x6 x7 x8 x9 x10 x11, e = [some (.list (ss.map Stp.b)), some (.cell p), some (Stp.turn g.e g.n 0 g.f).b, some (Stp.move g.s g.t).b, x4, x5, x6, x7, x8, x9, x10, x11] ∧ μ' = up μ p (.list (((sxs cs q g).take i).map Sx.l))) ⟨_, _, _, _, _, _, _, _, rfl, rfl⟩ ?_ ?_
  · rintro i x e' μ' N hx ⟨x4, x5, x6, x7, x8, x9, x10, x11, rfl, rfl⟩ hN
    rw [twoD_get] at hx
    split at hx
    · rename_i li
      cases hx
      refine ⟨trivial, ?_⟩
      obtain ⟨c, hc⟩ : ∃ c, (cs ++ [q])[i]? = some c := ⟨_, List.getElem?_eq_getElem (by simp; omega)⟩
      obtain ⟨g1, g2⟩ := cpS_get (cs ++ [q]) g.S i c hc
      rw [← e.e] at g1 g2
      have a1 : atI (ss.map Stp.b) (0 + (i : Int) * 2) = some (Stp.x c.1).b := by
        have := at_q (l := ss.map Stp.b) (j := 2 * i) (x := (Stp.x c.1).b) (by rw [List.getElem?_map, g1]; rfl)
        rwa [show ((2 * i : Nat) : Int) = 0 + (i : Int) * 2 by omega] at this
      have a2 : atI (ss.map Stp.b) (0 + (i : Int) * 2 + 1) = some (Stp.turn c.2.1 c.2.2.1 c.2.2.2.1 c.2.2.2.2).b := by
        have := at_q (l := ss.map Stp.b) (j := 2 * i + 1) (x := (Stp.turn c.2.1 c.2.2.1 c.2.2.2.1 c.2.2.2.2).b) (by rw [List.getElem?_map, g2]; rfl)
        rwa [show ((2 * i + 1 : Nat) : Int) = 0 + (i : Int) * 2 + 1 by omega] at this
      simp only [Jbv, initE, Jcs, Jce, Jbl, Jbm, Jc0, Jcn, Jco, Jc6, Jck, Jbn, Jcu, Jbo, Jbu, Jd6, Jd7, Jd5, Jd8, Jdd, Jda, Jdb, Jd9, Jc3, Jc8, Jd0, Jcz, Jc7, Jch, Jcy, Jcx, Jcb, Jbs, Jcw, Jcg, Jbk, Jcj, Jc5, Jbj, Jci, Jcf, Jd2, Jd1, Jd4, Jbp, Jcd, Jcm, Jc2, Jct, Jcc, Jbq, Jcp, Jcv, Jdf, Jdg, Jc9, Jcq, Jcr, Jc4, Jbr, Jc1, Jbx, Jca, gt, st, Jbc, Jba, Jbb, Jb8, Jbi, Ja5, atI0, atI1, atI2, atI3, atI4, ixN20, ixN21, List.map_cons, List.map_nil, List.cons_append, List.nil_append, List.append_nil, List.length_cons, List.length_nil, List.replicate_succ, List.replicate_zero, Nat.add_one_sub_one, Jd3, Jbt, Jby, Jbz, Jbw, Jaf, Jah, Jai, Jag, Jb7, Jaw, Jax, Jal, Jav, Jb4, Jau, Jat, Jan, Jam, Jb2, Jaj, Jak, Jb0, Jb1, Jaq, Jb3, Jar, Jas, Jao, Jap, Jb6, Jb5, Ja8, Ja9, Jad, Jac, Ja0, Jaa, Jab, Jbg, Jbh, Ja7, Jae, Jbd, Jbf, Jbe, Jb9, Ja2, Ja1, Ja4, Ja3, Jay, Jaz, decide_true, decide_false, Bool.not_true, Bool.not_false, Bool.false_eq_true, if_true, if_false, true_and, a1, a2, Stp.b, List.length_map]
      have lt : ((sxs cs q g).take i).length ≤ 1000 := by rw [List.length_take]; simp; omega
      obtain ⟨_, o1, o2, o3, o4⟩ := ho _ (List.mem_of_getElem? g2)
      obtain ⟨_, p1, p2, _, p4⟩ := ho (.turn g.e g.n 0 g.f) (by rw [e.e]; simp [En.S])
      have m : ∀ {i j : Int}, i.natAbs ≤ B → j.natAbs ≤ B → CMulU i j := fun hi hj => mulU_small (Nat.le_trans hi hB) (Nat.le_trans hj hB)
      have fin : ∀ (y : Sx), (sxs cs q g)[i]? = some y → ((sxs cs q g).take i).map Sx.l ++ [y.l] = ((sxs cs q g).take (i + 1)).map Sx.l := fun y hy => by
        rw [List.take_succ, hy, List.map_append]
        rfl
      refine ⟨by simp [sizeLine_eq], ?_⟩
      by_cases last : i = cs.length
      · subst last
        have ec : c = q := by simpa using hc.symm
        subst ec
        rw [if_pos (decide_eq_true (by omega))]
        refine ⟨m p1 o1, m p2 o3, m p1 o2, m p2 o4, by simp [sizeLine_eq], m p4 o3, m p4 o4, by simp [sizeLine_eq], by simp [sizeLine_eq], by simp [isL, seqL, up_same, ndL], by simp [sizeLine_eq], ?_⟩
        simp only [mApp, lstC, up_same, ndL, one, up_up]
        refine ⟨by rw [List.length_map, sizeLine_eq]; omega, hN _ _ ⟨_, _, _, _, _, _, _, _, rfl, ?_⟩⟩
        rw [← fin (sxL c g) (by simp)]
        obtain ⟨r, a, b, cc, d⟩ := c
        rfl
      · have li2 : i < cs.length := by omega
        rw [List.getElem?_append_left li2] at hc
        rw [if_neg (by rw [decide_eq_true_iff]; omega)]
        refine ⟨by simp [isL, seqL, up_same, ndL], by simp [sizeLine_eq], ?_⟩
        simp only [mApp, lstC, up_same, ndL, one, up_up]
        refine ⟨by rw [List.length_map, sizeLine_eq]; omega, hN _ _ ⟨_, _, _, _, _, _, _, _, rfl, ?_⟩⟩
        rw [← fin (sx0 c) (by rw [List.getElem?_append_left (by simpa using li2), List.getElem?_map, hc]; rfl)]
        obtain ⟨r, a, b, cc, d⟩ := c
        rfl
    · cases hx
  · rintro e' μ' ⟨x4, x5, x6, x7, x8, x9, x10, x11, rfl, rfl⟩
    refine ⟨trivial, ?_⟩
    rw [twoD_len]
    simp only [Jbv, initE, Jcs, Jce, Jbl, Jbm, Jc0, Jcn, Jco, Jc6, Jck, Jbn, Jcu, Jbo, Jbu, Jd6, Jd7, Jd5, Jd8, Jdd, Jda, Jdb, Jd9, Jc3, Jc8, Jd0, Jcz, Jc7, Jch, Jcy, Jcx, Jcb, Jbs, Jcw, Jcg, Jbk, Jcj, Jc5, Jbj, Jci, Jcf, Jd2, Jd1, Jd4, Jbp, Jcd, Jcm, Jc2, Jct, Jcc, Jbq, Jcp, Jcv, Jdf, Jdg, Jc9, Jcq, Jcr, Jc4, Jbr, Jc1, Jbx, Jca, gt, st, Jbc, Jba, Jbb, Jb8, Jbi, Ja5, atI0, atI1, atI2, atI3, atI4, ixN20, ixN21, List.map_cons, List.map_nil, List.cons_append, List.nil_append, List.append_nil, List.length_cons, List.length_nil, List.replicate_succ, List.replicate_zero, Nat.add_one_sub_one, Jd3, Jbt, Jby, Jbz, Jbw, Jaf, Jah, Jai, Jag, Jb7, Jaw, Jax, Jal, Jav, Jb4, Jau, Jat, Jan, Jam, Jb2, Jaj, Jak, Jb0, Jb1, Jaq, Jb3, Jar, Jas, Jao, Jap, Jb6, Jb5, Ja8, Ja9, Jad, Jac, Ja0, Jaa, Jab, Jbg, Jbh, Ja7, Jae, Jbd, Jbf, Jbe, Jb9, Ja2, Ja1, Ja4, Ja3, Jay, Jaz, decide_true, decide_false, Bool.not_true, Bool.not_false, Bool.false_eq_true, if_true, if_false, true_and, up_same]
    rw [del_up hp, List.take_of_length_le (by simp)]
    exact k p hp
end
end DL

set_option Elab.async false
set_option linter.all false
set_option maxRecDepth 100000
set_option maxHeartbeats 4000000
/-! Q4: points among values of any kind; the law's own sizes. -/
namespace DL
open PySem L2
def wp_law_sizes_0 : WS := (wAsg 1 (wLc false (wiSeq (wCall wp_law_couples [] (waCons (wV 0) waNil))) (wgTup 2 (wgCons (wgN 15) (wgCons (wgN 16) wgNil))) wYes (wTup (waCons (wCb false cbSum (waCons (wLc false (wiSeq (wSl false oSl (wV 15) woNone (woSome (wUn false oNeg (wK (.int 1)))))) (wgN 17) wYes (wCb false cbAbs (waCons (wV 17) waNil)) [17]) waNil)) (waCons (wV 16) waNil))) [15, 16]))
def wp_law_sizes_1 : WS := (wAsg 2 (wCb false cbMaxL (waCons (wLc false (wiSeq (wV 1)) (wgTup 2 (wgCons (wgN 5) (wgCons (wgN 16) wgNil))) wYes (wOp false oAdd (wOp false oMul (wK (.int 2)) (wCb false cbAbs (waCons (wOp false oIx (wV 16) (wK (.int 0))) waNil))) (wK (.int 1))) [5, 16]) waNil)))
def wp_law_sizes_2 : WS := (wPar 3 4 (waCons (wLst true waNil) (waCons (wLst true waNil) waNil)))
def wp_law_sizes_3 : WS := (wFor (wiSeq (wV 1)) (wgTup 2 (wgCons (wgN 5) (wgCons (wgTup 6 (wgCons (wgN 6) (wgCons (wgN 7) (wgCons (wgN 8) (wgCons (wgN 9) (wgCons (wgN 10) (wgCons (wgN 11) wgNil))))))) wgNil))) (wSeq (wDrop (wLm false mApp (wV 3) (waCons (wOp false oAdd (wOp false oAdd (wV 5) (wV 2)) (wOp false oMul (wK (.int 2)) (wOp false oAdd (wOp false oAdd (wOp false oAdd (wOp false oAdd (wCb false cbAbs (waCons (wV 7) waNil)) (wCb false cbAbs (waCons (wV 9) waNil))) (wCb false cbAbs (waCons (wV 10) waNil))) (wCb false cbAbs (waCons (wV 11) waNil))) (wK (.int 1))))) waNil)))
    (wSeq (wPar 12 13 (waCons (wOp false oAdd (wCb false cbAbs (waCons (wV 7) waNil)) (wCb false cbAbs (waCons (wV 9) waNil))) (waCons (wOp false oAdd (wCb false cbAbs (waCons (wOp false oMul (wV 9) (wV 10)) waNil)) (wCb false cbAbs (waCons (wOp false oMul (wV 7) (wV 11)) waNil))) waNil)))
    (wSeq (wAsg 14 (wOp false oAdd (wCb false cbAbs (waCons (wOp false oMul (wV 8) (wV 10)) waNil)) (wCb false cbAbs (waCons (wOp false oMul (wV 6) (wV 11)) waNil))))
    (wDrop (wLm false mApp (wV 4) (waCons (wOp false oMul (wK (.int 2)) (wOp false oAdd (wOp false oAdd (wOp false oAdd (wOp false oAdd (wOp false oAdd (wV 5) (wV 2)) (wK (.int 3))) (wOp false oMul (wK (.int 2)) (wV 12))) (wOp false oMul (wOp false oAdd (wOp false oMul (wK (.int 2)) (wV 12)) (wK (.int 3))) (wV 14))) (wV 13))) waNil)))))))
def wp_law_sizes_4 : WS := (wFz 4 (wFz 3 (wRet (wTup (waCons (wV 2) (waCons (wCb false cbMaxL (waCons (wV 3) waNil)) (waCons (wCb false cbMaxL (waCons (wOp false oAdd (wV 3) (wV 4)) waNil)) waNil)))))))
def wp_law_sizes : WP := wDef 1 18 (wSeq wp_law_sizes_0 (wSeq wp_law_sizes_1 (wSeq wp_law_sizes_2 (wSeq wp_law_sizes_3 wp_law_sizes_4))))
theorem Sx.Sm.muls {x : Sx} {w : Int} (h : x.Sm w) : CMulU x.c x.s ∧ CMulU x.a x.t ∧ CMulU x.d x.s ∧ CMulU x.b x.t := by
  have S : ∀ {i j : Int}, i.natAbs ≤ 10000 → j.natAbs ≤ 10000 → CMulU i j := fun hi hj => small (Nat.le_trans hi (by decide)) (Nat.le_trans hj (by decide))
  exact ⟨S h.c h.s, S h.a h.t, S h.d h.s, S h.b h.t⟩
theorem Sx.Sm.reach_mul {x : Sx} {w : Int} (h : x.Sm w) : CMulU 2 (ab x.b + ab x.d + ab x.s + ab x.t + 1) ∧ CMulU 2 (ab x.b + ab x.d) ∧ CMulU (2 * (ab x.b + ab x.d) + 3) (ab (x.c * x.s) + ab (x.a * x.t)) ∧
    CMulU 2 (lowS x.r + w + 3 + 2 * (ab x.b + ab x.d) + (2 * (ab x.b + ab x.d) + 3) * (ab (x.c * x.s) + ab (x.a * x.t)) + (ab (x.d * x.s) + ab (x.b * x.t))) := by
  obtain ⟨hr, ha, hb, hc, hd, hs, ht, hw, hlow⟩ := h
  have m : ∀ {i j : Int}, i.natAbs ≤ 10000 → j.natAbs ≤ 10000 → (i * j).natAbs ≤ 100000000 := fun hi hj => mul_le (a := 10000) (b := 10000) hi hj
  have u1 := ab_le hb
  have u2 := ab_le hd
  have u3 := ab_le (m hc hs)
  have u4 := ab_le (m ha ht)
  have u5 := ab_le (m hd hs)
  have u6 := ab_le (m hb ht)
  have u7 := nat_le hw
  have u8 := nat_le hlow
  have u9 := ab_le hs
  have u0 := ab_le ht
  clear ha hb hc hd hs ht hw hlow m hr
  generalize ab x.b = b at *
  generalize ab x.d = d at *
  generalize ab x.s = s at *
  generalize ab x.t = t at *
  generalize ab (x.c * x.s) = cs at *
  generalize ab (x.a * x.t) = at_ at *
  generalize ab (x.d * x.s) = ds at *
  generalize ab (x.b * x.t) = bt at *
  generalize lowS x.r = l at *
  have v1 : (2 * (b + d) + 3).natAbs ≤ 40003 := le_nat (by omega)
  have v2 : (cs + at_).natAbs ≤ 200000000 := le_nat (by omega)
  have v3 : (b + d).natAbs ≤ 20000 := le_nat (by omega)
  have v4 : (b + d + s + t + 1).natAbs ≤ 40001 := le_nat (by omega)
  have mm := nat_le (mul_le (a := 40003) (b := 200000000) v1 v2)
  refine ⟨sm14 (by decide) (Nat.le_trans v4 (by decide)), sm14 (by decide) (Nat.le_trans v3 (by decide)), small (Nat.le_trans v1 (by decide)) (Nat.le_trans v2 (by decide)), ?_⟩
  clear v1 v2 v3 v4 u9 u0
  generalize (2 * (b + d) + 3) * (cs + at_) = z at mm ⊢
  exact sm14 (by decide) (le_nat (by omega))
theorem up_swap {μ : Mu} {p q : Addr} {x y z : Nd} (h : p ≠ q) : up (up (up μ p x) q y) p z = up (up μ p z) q y := by
  funext b
  by_cases h1 : b = p
  · subst h1
    rw [up_same, up_ne h, up_same]
  · rw [up_ne h1]
    by_cases h2 : b = q
    · subst h2
      rw [up_same, up_same]
    · rw [up_ne h2, up_ne h1, up_ne h2, up_ne h1]
section
variable {μ : Mu} {Q X : QD} {d : D} {ss : List Stp} {cs : List Cp} {q : Cp} {g : En} {B : Nat} {w h r x y : Int}
theorem max_app {L M : List Int} {h r : Int} (hh : IsMax h L) (hr : IsMax r (h :: M)) : IsMax r (L ++ M) := by
  refine ⟨?_, fun y hy => ?_⟩
  · rcases List.mem_cons.mp hr.i with z | z
    · rw [z]
      exact List.mem_append_left _ hh.i
    · exact List.mem_append_right _ z
  · rcases List.mem_append.mp hy with z | z
    · exact Int.le_trans (hh.u y z) (hr.u h List.mem_cons_self)
    · exact hr.u y (List.mem_cons_of_mem _ z)
/-- a row of the law's sizes -/
def Sx.k (x : Sx) : D := .tup [.int (lowS x.r), .tup (iL x.n)]
theorem ok_law_sizes {xs : List Sx} (e : Cor ss cs q g) (ho : ∀ s ∈ ss, s.Ok B) (hB : B ≤ 10000) (hl : ss.length ≤ 100) (hx : xs = sxs cs q g) (hw : Wg xs w h r) (sm : ∀ x ∈ xs, x.Sm w) (k : Q (.tup [.int w, .int h, .int r]) μ) : wp_law_sizes [.list (ss.map Stp.b)] μ Q X := by
  have lx : xs.length ≤ 100 := by
    rw [hx]
    have := cor_len e
    simp
    omega
  unfold wp_law_sizes wp_law_sizes_0
  simp only [Jbv, initE, Jcs, Jce, Jbl, Jbm, Jc0, Jcn, Jco, Jc6, Jck, Jbn, Jcu, Jbo, Jbu, Jd6, Jd7, Jd5, Jd8, Jdd, Jda, Jdb, Jd9, Jc3, Jc8, Jd0, Jcz, Jc7, Jch, Jcy, Jcx, Jcb, Jbs, Jcw, Jcg, Jbk, Jcj, Jc5, Jbj, Jci, Jcf, Jd2, Jd1, Jd4, Jbp, Jcd, Jcm, Jc2, Jct, Jcc, Jbq, Jcp, Jcv, Jdf, Jdg, Jc9, Jcq, Jcr, Jc4, Jbr, Jc1, Jbx, Jca, gt, st, Jbc, Jba, Jbb, Jb8, Jbi, Ja5, atI0, atI1, atI2, atI3, atI4, ixN20, ixN21, List.map_cons, List.map_nil, List.cons_append, List.nil_append, List.append_nil, List.length_cons, List.length_nil, List.replicate_succ, List.replicate_zero, Nat.add_one_sub_one, Jd3, Jbt, Jby, Jbz, Jbw, Jaf, Jah, Jai, Jag, Jb7, Jaw, Jax, Jal, Jav, Jb4, Jau, Jat, Jan, Jam, Jb2, Jaj, Jak, Jb0, Jb1, Jaq, Jb3, Jar, Jas, Jao, Jap, Jb6, Jb5, Ja8, Ja9, Jad, Jac, Ja0, Jaa, Jab, Jbg, Jbh, Ja7, Jae, Jbd, Jbf, Jbe, Jb9, Ja2, Ja1, Ja4, Ja3, Jay, Jaz, decide_true, decide_false, Bool.not_true, Bool.not_false, Bool.false_eq_true, if_true, if_false, true_and]
  refine ok_law_couples e ho (Nat.le_trans hB (by decide)) hl fun p0 hp0 => ?_
  rw [← hx]
  simp only [Jbv, initE, Jcs, Jce, Jbl, Jbm, Jc0, Jcn, Jco, Jc6, Jck, Jbn, Jcu, Jbo, Jbu, Jd6, Jd7, Jd5, Jd8, Jdd, Jda, Jdb, Jd9, Jc3, Jc8, Jd0, Jcz, Jc7, Jch, Jcy, Jcx, Jcb, Jbs, Jcw, Jcg, Jbk, Jcj, Jc5, Jbj, Jci, Jcf, Jd2, Jd1, Jd4, Jbp, Jcd, Jcm, Jc2, Jct, Jcc, Jbq, Jcp, Jcv, Jdf, Jdg, Jc9, Jcq, Jcr, Jc4, Jbr, Jc1, Jbx, Jca, gt, st, Jbc, Jba, Jbb, Jb8, Jbi, Ja5, atI0, atI1, atI2, atI3, atI4, ixN20, ixN21, List.map_cons, List.map_nil, List.cons_append, List.nil_append, List.append_nil, List.length_cons, List.length_nil, List.replicate_succ, List.replicate_zero, Nat.add_one_sub_one, Jd3, Jbt, Jby, Jbz, Jbw, Jaf, Jah, Jai, Jag, Jb7, Jaw, Jax, Jal, Jav, Jb4, Jau, Jat, Jan, Jam, Jb2, Jaj, Jak, Jb0, Jb1, Jaq, Jb3, Jar, Jas, Jao, Jap, Jb6, Jb5, Ja8, Ja9, Jad, Jac, Ja0, Jaa, Jab, Jbg, Jbh, Ja7, Jae, Jbd, Jbf, Jbe, Jb9, Ja2, Ja1, Ja4, Ja3, Jay, Jaz, decide_true, decide_false, Bool.not_true, Bool.not_false, Bool.false_eq_true, if_true, if_false, true_and]
  refine ⟨by rw [List.length_map, sizeLine_eq]; omega, lc_inv (fun i acc μ' => μ' = μ ∧ acc = (xs.take i).map Sx.k) ⟨rfl, rfl⟩ ?_ ?_⟩
  · rintro i y acc μ' N hy ⟨rfl, rfl⟩ hN
    obtain ⟨x, hx1, rfl⟩ := map_get hy
    have sx := sm x (List.mem_of_getElem? hx1)
    have nx : N ((xs.take i).map Sx.k ++ [Sx.k x]) μ' := hN _ _ ⟨rfl, by
      rw [List.take_succ, hx1, List.map_append]
      rfl⟩
    have lr := sx.r
    refine ⟨trivial, ?_⟩
    simp only [Jbv, initE, Jcs, Jce, Jbl, Jbm, Jc0, Jcn, Jco, Jc6, Jck, Jbn, Jcu, Jbo, Jbu, Jd6, Jd7, Jd5, Jd8, Jdd, Jda, Jdb, Jd9, Jc3, Jc8, Jd0, Jcz, Jc7, Jch, Jcy, Jcx, Jcb, Jbs, Jcw, Jcg, Jbk, Jcj, Jc5, Jbj, Jci, Jcf, Jd2, Jd1, Jd4, Jbp, Jcd, Jcm, Jc2, Jct, Jcc, Jbq, Jcp, Jcv, Jdf, Jdg, Jc9, Jcq, Jcr, Jc4, Jbr, Jc1, Jbx, Jca, gt, st, Jbc, Jba, Jbb, Jb8, Jbi, Ja5, atI0, atI1, atI2, atI3, atI4, ixN20, ixN21, List.map_cons, List.map_nil, List.cons_append, List.nil_append, List.append_nil, List.length_cons, List.length_nil, List.replicate_succ, List.replicate_zero, Nat.add_one_sub_one, Jd3, Jbt, Jby, Jbz, Jbw, Jaf, Jah, Jai, Jag, Jb7, Jaw, Jax, Jal, Jav, Jb4, Jau, Jat, Jan, Jam, Jb2, Jaj, Jak, Jb0, Jb1, Jaq, Jb3, Jar, Jas, Jao, Jap, Jb6, Jb5, Ja8, Ja9, Jad, Jac, Ja0, Jaa, Jab, Jbg, Jbh, Ja7, Jae, Jbd, Jbf, Jbe, Jb9, Ja2, Ja1, Ja4, Ja3, Jay, Jaz, decide_true, decide_false, Bool.not_true, Bool.not_false, Bool.false_eq_true, if_true, if_false, true_and, Sx.l, wipeE]
    simp only [Jbv, initE, Jcs, Jce, Jbl, Jbm, Jc0, Jcn, Jco, Jc6, Jck, Jbn, Jcu, Jbo, Jbu, Jd6, Jd7, Jd5, Jd8, Jdd, Jda, Jdb, Jd9, Jc3, Jc8, Jd0, Jcz, Jc7, Jch, Jcy, Jcx, Jcb, Jbs, Jcw, Jcg, Jbk, Jcj, Jc5, Jbj, Jci, Jcf, Jd2, Jd1, Jd4, Jbp, Jcd, Jcm, Jc2, Jct, Jcc, Jbq, Jcp, Jcv, Jdf, Jdg, Jc9, Jcq, Jcr, Jc4, Jbr, Jc1, Jbx, Jca, gt, st, Jbc, Jba, Jbb, Jb8, Jbi, Ja5, atI0, atI1, atI2, atI3, atI4, ixN20, ixN21, List.map_cons, List.map_nil, List.cons_append, List.nil_append, List.append_nil, List.length_cons, List.length_nil, List.replicate_succ, List.replicate_zero, Nat.add_one_sub_one, Jd3, Jbt, Jby, Jbz, Jbw, Jaf, Jah, Jai, Jag, Jb7, Jaw, Jax, Jal, Jav, Jb4, Jau, Jat, Jan, Jam, Jb2, Jaj, Jak, Jb0, Jb1, Jaq, Jb3, Jar, Jas, Jao, Jap, Jb6, Jb5, Ja8, Ja9, Jad, Jac, Ja0, Jaa, Jab, Jbg, Jbh, Ja7, Jae, Jbd, Jbf, Jbe, Jb9, Ja2, Ja1, Ja4, Ja3, Jay, Jaz, decide_true, decide_false, Bool.not_true, Bool.not_false, Bool.false_eq_true, if_true, if_false, true_and, cut_last]
    refine ⟨by rw [iL_len, List.length_dropLast, sizeLine_eq]; omega, lc_inv (fun j acc μ2 => μ2 = μ' ∧ acc = iL ((x.r.dropLast.take j).map ab)) ⟨rfl, rfl⟩ ?_ ?_⟩
    · rintro j z acc μ2 N2 hz ⟨rfl, rfl⟩ hN2
      obtain ⟨n, hn, rfl⟩ := map_get hz
      refine ⟨trivial, ?_⟩
      simp only [Jbv, initE, Jcs, Jce, Jbl, Jbm, Jc0, Jcn, Jco, Jc6, Jck, Jbn, Jcu, Jbo, Jbu, Jd6, Jd7, Jd5, Jd8, Jdd, Jda, Jdb, Jd9, Jc3, Jc8, Jd0, Jcz, Jc7, Jch, Jcy, Jcx, Jcb, Jbs, Jcw, Jcg, Jbk, Jcj, Jc5, Jbj, Jci, Jcf, Jd2, Jd1, Jd4, Jbp, Jcd, Jcm, Jc2, Jct, Jcc, Jbq, Jcp, Jcv, Jdf, Jdg, Jc9, Jcq, Jcr, Jc4, Jbr, Jc1, Jbx, Jca, gt, st, Jbc, Jba, Jbb, Jb8, Jbi, Ja5, atI0, atI1, atI2, atI3, atI4, ixN20, ixN21, List.map_cons, List.map_nil, List.cons_append, List.nil_append, List.append_nil, List.length_cons, List.length_nil, List.replicate_succ, List.replicate_zero, Nat.add_one_sub_one, Jd3, Jbt, Jby, Jbz, Jbw, Jaf, Jah, Jai, Jag, Jb7, Jaw, Jax, Jal, Jav, Jb4, Jau, Jat, Jan, Jam, Jb2, Jaj, Jak, Jb0, Jb1, Jaq, Jb3, Jar, Jas, Jao, Jap, Jb6, Jb5, Ja8, Ja9, Jad, Jac, Ja0, Jaa, Jab, Jbg, Jbh, Ja7, Jae, Jbd, Jbf, Jbe, Jb9, Ja2, Ja1, Ja4, Ja3, Jay, Jaz, decide_true, decide_false, Bool.not_true, Bool.not_false, Bool.false_eq_true, if_true, if_false, true_and, wipeE, ab_e]
      refine hN2 _ _ ⟨rfl, ?_⟩
      rw [List.take_succ, hn, List.map_append]
      exact iL_snoc _ _
    · rintro acc μ2 ⟨rfl, rfl⟩
      rw [iL_len, List.take_length]
      refine ⟨trivial, ?_⟩
      simp only [cbSum, one, seqL, sett]
      exact ⟨_, rfl, by decide, nx⟩
  rintro acc μ' ⟨rfl, rfl⟩
  rw [List.length_map, List.take_length]
  refine ⟨trivial, ?_⟩
  unfold wp_law_sizes_1
  simp only [Jbv, initE, Jcs, Jce, Jbl, Jbm, Jc0, Jcn, Jco, Jc6, Jck, Jbn, Jcu, Jbo, Jbu, Jd6, Jd7, Jd5, Jd8, Jdd, Jda, Jdb, Jd9, Jc3, Jc8, Jd0, Jcz, Jc7, Jch, Jcy, Jcx, Jcb, Jbs, Jcw, Jcg, Jbk, Jcj, Jc5, Jbj, Jci, Jcf, Jd2, Jd1, Jd4, Jbp, Jcd, Jcm, Jc2, Jct, Jcc, Jbq, Jcp, Jcv, Jdf, Jdg, Jc9, Jcq, Jcr, Jc4, Jbr, Jc1, Jbx, Jca, gt, st, Jbc, Jba, Jbb, Jb8, Jbi, Ja5, atI0, atI1, atI2, atI3, atI4, ixN20, ixN21, List.map_cons, List.map_nil, List.cons_append, List.nil_append, List.append_nil, List.length_cons, List.length_nil, List.replicate_succ, List.replicate_zero, Nat.add_one_sub_one, Jd3, Jbt, Jby, Jbz, Jbw, Jaf, Jah, Jai, Jag, Jb7, Jaw, Jax, Jal, Jav, Jb4, Jau, Jat, Jan, Jam, Jb2, Jaj, Jak, Jb0, Jb1, Jaq, Jb3, Jar, Jas, Jao, Jap, Jb6, Jb5, Ja8, Ja9, Jad, Jac, Ja0, Jaa, Jab, Jbg, Jbh, Ja7, Jae, Jbd, Jbf, Jbe, Jb9, Ja2, Ja1, Ja4, Ja3, Jay, Jaz, decide_true, decide_false, Bool.not_true, Bool.not_false, Bool.false_eq_true, if_true, if_false, true_and]
  refine ⟨by rw [List.length_map, sizeLine_eq]; omega, lc_inv (fun i acc μ2 => μ2 = μ' ∧ acc = iL ((xs.take i).map fun x => 2 * ab x.a + 1)) ⟨rfl, rfl⟩ ?_ ?_⟩
  · rintro i y acc μ2 N hy ⟨rfl, rfl⟩ hN
    obtain ⟨x, hx1, rfl⟩ := map_get hy
    have sx := sm x (List.mem_of_getElem? hx1)
    have nx : N (iL ((xs.take i).map fun x => 2 * ab x.a + 1) ++ [.int (2 * ab x.a + 1)]) μ2 := hN _ _ ⟨rfl, by
      rw [List.take_succ, hx1, List.map_append]
      exact iL_snoc _ _⟩
    refine ⟨trivial, ?_⟩
    simp only [Jbv, initE, Jcs, Jce, Jbl, Jbm, Jc0, Jcn, Jco, Jc6, Jck, Jbn, Jcu, Jbo, Jbu, Jd6, Jd7, Jd5, Jd8, Jdd, Jda, Jdb, Jd9, Jc3, Jc8, Jd0, Jcz, Jc7, Jch, Jcy, Jcx, Jcb, Jbs, Jcw, Jcg, Jbk, Jcj, Jc5, Jbj, Jci, Jcf, Jd2, Jd1, Jd4, Jbp, Jcd, Jcm, Jc2, Jct, Jcc, Jbq, Jcp, Jcv, Jdf, Jdg, Jc9, Jcq, Jcr, Jc4, Jbr, Jc1, Jbx, Jca, gt, st, Jbc, Jba, Jbb, Jb8, Jbi, Ja5, atI0, atI1, atI2, atI3, atI4, ixN20, ixN21, List.map_cons, List.map_nil, List.cons_append, List.nil_append, List.append_nil, List.length_cons, List.length_nil, List.replicate_succ, List.replicate_zero, Nat.add_one_sub_one, Jd3, Jbt, Jby, Jbz, Jbw, Jaf, Jah, Jai, Jag, Jb7, Jaw, Jax, Jal, Jav, Jb4, Jau, Jat, Jan, Jam, Jb2, Jaj, Jak, Jb0, Jb1, Jaq, Jb3, Jar, Jas, Jao, Jap, Jb6, Jb5, Ja8, Ja9, Jad, Jac, Ja0, Jaa, Jab, Jbg, Jbh, Ja7, Jae, Jbd, Jbf, Jbe, Jb9, Ja2, Ja1, Ja4, Ja3, Jay, Jaz, decide_true, decide_false, Bool.not_true, Bool.not_false, Bool.false_eq_true, if_true, if_false, true_and, Sx.k, wipeE]
    simp only [Sx.n, iL, List.map_cons, Jbv, initE, Jcs, Jce, Jbl, Jbm, Jc0, Jcn, Jco, Jc6, Jck, Jbn, Jcu, Jbo, Jbu, Jd6, Jd7, Jd5, Jd8, Jdd, Jda, Jdb, Jd9, Jc3, Jc8, Jd0, Jcz, Jc7, Jch, Jcy, Jcx, Jcb, Jbs, Jcw, Jcg, Jbk, Jcj, Jc5, Jbj, Jci, Jcf, Jd2, Jd1, Jd4, Jbp, Jcd, Jcm, Jc2, Jct, Jcc, Jbq, Jcp, Jcv, Jdf, Jdg, Jc9, Jcq, Jcr, Jc4, Jbr, Jc1, Jbx, Jca, gt, st, Jbc, Jba, Jbb, Jb8, Jbi, Ja5, atI0, atI1, atI2, atI3, atI4, ixN20, ixN21, List.map_cons, List.map_nil, List.cons_append, List.nil_append, List.append_nil, List.length_cons, List.length_nil, List.replicate_succ, List.replicate_zero, Nat.add_one_sub_one, Jd3, Jbt, Jby, Jbz, Jbw, Jaf, Jah, Jai, Jag, Jb7, Jaw, Jax, Jal, Jav, Jb4, Jau, Jat, Jan, Jam, Jb2, Jaj, Jak, Jb0, Jb1, Jaq, Jb3, Jar, Jas, Jao, Jap, Jb6, Jb5, Ja8, Ja9, Jad, Jac, Ja0, Jaa, Jab, Jbg, Jbh, Ja7, Jae, Jbd, Jbf, Jbe, Jb9, Ja2, Ja1, Ja4, Ja3, Jay, Jaz, decide_true, decide_false, Bool.not_true, Bool.not_false, Bool.false_eq_true, if_true, if_false, true_and, ab_e]
    have n1 := ab_n x.a
    have n2 := sx.a
    exact ⟨sm14 (by decide) (by omega), nx⟩
  rintro acc μ2 ⟨rfl, rfl⟩
  rw [List.length_map, List.take_length]
  refine ⟨trivial, ?_⟩
  refine ok_max hw.mw ?_
  unfold wp_law_sizes_2
  simp only [Jbv, initE, Jcs, Jce, Jbl, Jbm, Jc0, Jcn, Jco, Jc6, Jck, Jbn, Jcu, Jbo, Jbu, Jd6, Jd7, Jd5, Jd8, Jdd, Jda, Jdb, Jd9, Jc3, Jc8, Jd0, Jcz, Jc7, Jch, Jcy, Jcx, Jcb, Jbs, Jcw, Jcg, Jbk, Jcj, Jc5, Jbj, Jci, Jcf, Jd2, Jd1, Jd4, Jbp, Jcd, Jcm, Jc2, Jct, Jcc, Jbq, Jcp, Jcv, Jdf, Jdg, Jc9, Jcq, Jcr, Jc4, Jbr, Jc1, Jbx, Jca, gt, st, Jbc, Jba, Jbb, Jb8, Jbi, Ja5, atI0, atI1, atI2, atI3, atI4, ixN20, ixN21, List.map_cons, List.map_nil, List.cons_append, List.nil_append, List.append_nil, List.length_cons, List.length_nil, List.replicate_succ, List.replicate_zero, Nat.add_one_sub_one, Jd3, Jbt, Jby, Jbz, Jbw, Jaf, Jah, Jai, Jag, Jb7, Jaw, Jax, Jal, Jav, Jb4, Jau, Jat, Jan, Jam, Jb2, Jaj, Jak, Jb0, Jb1, Jaq, Jb3, Jar, Jas, Jao, Jap, Jb6, Jb5, Ja8, Ja9, Jad, Jac, Ja0, Jaa, Jab, Jbg, Jbh, Ja7, Jae, Jbd, Jbf, Jbe, Jb9, Ja2, Ja1, Ja4, Ja3, Jay, Jaz, decide_true, decide_false, Bool.not_true, Bool.not_false, Bool.false_eq_true, if_true, if_false, true_and]
  refine ⟨Nat.zero_le _, fun p1 hp1 => ⟨Nat.zero_le _, fun p2 hp2 => ?_⟩⟩
  have ne : p2 ≠ p1 := fun z => by
    rw [z, up_same] at hp2
    cases hp2
  unfold wp_law_sizes_3
  simp only [Jbv, initE, Jcs, Jce, Jbl, Jbm, Jc0, Jcn, Jco, Jc6, Jck, Jbn, Jcu, Jbo, Jbu, Jd6, Jd7, Jd5, Jd8, Jdd, Jda, Jdb, Jd9, Jc3, Jc8, Jd0, Jcz, Jc7, Jch, Jcy, Jcx, Jcb, Jbs, Jcw, Jcg, Jbk, Jcj, Jc5, Jbj, Jci, Jcf, Jd2, Jd1, Jd4, Jbp, Jcd, Jcm, Jc2, Jct, Jcc, Jbq, Jcp, Jcv, Jdf, Jdg, Jc9, Jcq, Jcr, Jc4, Jbr, Jc1, Jbx, Jca, gt, st, Jbc, Jba, Jbb, Jb8, Jbi, Ja5, atI0, atI1, atI2, atI3, atI4, ixN20, ixN21, List.map_cons, List.map_nil, List.cons_append, List.nil_append, List.append_nil, List.length_cons, List.length_nil, List.replicate_succ, List.replicate_zero, Nat.add_one_sub_one, Jd3, Jbt, Jby, Jbz, Jbw, Jaf, Jah, Jai, Jag, Jb7, Jaw, Jax, Jal, Jav, Jb4, Jau, Jat, Jan, Jam, Jb2, Jaj, Jak, Jb0, Jb1, Jaq, Jb3, Jar, Jas, Jao, Jap, Jb6, Jb5, Ja8, Ja9, Jad, Jac, Ja0, Jaa, Jab, Jbg, Jbh, Ja7, Jae, Jbd, Jbf, Jbe, Jb9, Ja2, Ja1, Ja4, Ja3, Jay, Jaz, decide_true, decide_false, Bool.not_true, Bool.not_false, Bool.false_eq_true, if_true, if_false, true_and, Jcl]
  refine ⟨by rw [List.length_map]; omega, ?_⟩
  refine for_inv (fun i e μ' => ∃ a5 a6 a7 a8 a9 a10 a11 a12 a13 a14 a15 a16 a17, e = [some (.list (ss.map Stp.b)), some (.list (xs.map Sx.k)), some (.int w), some (.cell p1), some (.cell p2), a5, a6, a7, a8, a9, a10, a11, a12, a13, a14, a15, a16, a17] ∧ μ' = up (up μ2 p1 (.list (iL ((xs.take i).map fun x => x.height w)))) p2 (.list (iL ((xs.take i).map fun x => x.reach w)))) ⟨_, _, _, _, _, _, _, _, _, _, _, _, _, rfl, rfl⟩ ?_ ?_
  · rintro i y e μ' N hy ⟨a5, a6, a7, a8, a9, a10, a11, a12, a13, a14, a15, a16, a17, rfl, rfl⟩ hN
    obtain ⟨x, hx1, rfl⟩ := map_get hy
    have sx := sm x (List.mem_of_getElem? hx1)
    refine ⟨trivial, ?_⟩
    simp only [Jbv, initE, Jcs, Jce, Jbl, Jbm, Jc0, Jcn, Jco, Jc6, Jck, Jbn, Jcu, Jbo, Jbu, Jd6, Jd7, Jd5, Jd8, Jdd, Jda, Jdb, Jd9, Jc3, Jc8, Jd0, Jcz, Jc7, Jch, Jcy, Jcx, Jcb, Jbs, Jcw, Jcg, Jbk, Jcj, Jc5, Jbj, Jci, Jcf, Jd2, Jd1, Jd4, Jbp, Jcd, Jcm, Jc2, Jct, Jcc, Jbq, Jcp, Jcv, Jdf, Jdg, Jc9, Jcq, Jcr, Jc4, Jbr, Jc1, Jbx, Jca, gt, st, Jbc, Jba, Jbb, Jb8, Jbi, Ja5, atI0, atI1, atI2, atI3, atI4, ixN20, ixN21, List.map_cons, List.map_nil, List.cons_append, List.nil_append, List.append_nil, List.length_cons, List.length_nil, List.replicate_succ, List.replicate_zero, Nat.add_one_sub_one, Jd3, Jbt, Jby, Jbz, Jbw, Jaf, Jah, Jai, Jag, Jb7, Jaw, Jax, Jal, Jav, Jb4, Jau, Jat, Jan, Jam, Jb2, Jaj, Jak, Jb0, Jb1, Jaq, Jb3, Jar, Jas, Jao, Jap, Jb6, Jb5, Ja8, Ja9, Jad, Jac, Ja0, Jaa, Jab, Jbg, Jbh, Ja7, Jae, Jbd, Jbf, Jbe, Jb9, Ja2, Ja1, Ja4, Ja3, Jay, Jaz, decide_true, decide_false, Bool.not_true, Bool.not_false, Bool.false_eq_true, if_true, if_false, true_and, Sx.k]
    have en : iL x.n = [.int x.a, .int x.b, .int x.c, .int x.d, .int x.s, .int x.t] := rfl
    simp only [en, Jbv, initE, Jcs, Jce, Jbl, Jbm, Jc0, Jcn, Jco, Jc6, Jck, Jbn, Jcu, Jbo, Jbu, Jd6, Jd7, Jd5, Jd8, Jdd, Jda, Jdb, Jd9, Jc3, Jc8, Jd0, Jcz, Jc7, Jch, Jcy, Jcx, Jcb, Jbs, Jcw, Jcg, Jbk, Jcj, Jc5, Jbj, Jci, Jcf, Jd2, Jd1, Jd4, Jbp, Jcd, Jcm, Jc2, Jct, Jcc, Jbq, Jcp, Jcv, Jdf, Jdg, Jc9, Jcq, Jcr, Jc4, Jbr, Jc1, Jbx, Jca, gt, st, Jbc, Jba, Jbb, Jb8, Jbi, Ja5, atI0, atI1, atI2, atI3, atI4, ixN20, ixN21, List.map_cons, List.map_nil, List.cons_append, List.nil_append, List.append_nil, List.length_cons, List.length_nil, List.replicate_succ, List.replicate_zero, Nat.add_one_sub_one, Jd3, Jbt, Jby, Jbz, Jbw, Jaf, Jah, Jai, Jag, Jb7, Jaw, Jax, Jal, Jav, Jb4, Jau, Jat, Jan, Jam, Jb2, Jaj, Jak, Jb0, Jb1, Jaq, Jb3, Jar, Jas, Jao, Jap, Jb6, Jb5, Ja8, Ja9, Jad, Jac, Ja0, Jaa, Jab, Jbg, Jbh, Ja7, Jae, Jbd, Jbf, Jbe, Jb9, Ja2, Ja1, Ja4, Ja3, Jay, Jaz, decide_true, decide_false, Bool.not_true, Bool.not_false, Bool.false_eq_true, if_true, if_false, true_and, ab_e]
    obtain ⟨c1, c2, c3, c4⟩ := sx.muls
    obtain ⟨m0, m1, m2, m3⟩ := sx.reach_mul
    refine ⟨by simp [isL, seqL, up_ne (Ne.symm ne), up_same, ndL], m0, ?_⟩
    simp only [mApp, lstC, up_ne (Ne.symm ne), up_same, ndL, one]
    rw [up_swap (Ne.symm ne)]
    refine ⟨by rw [iL_len, List.length_map, List.length_take, sizeLine_eq]; omega, c3, c4, c1, c2, by simp [isL, seqL, up_same, ndL], m1, m1, m2, m3, ?_⟩
    simp only [up_same, ndL, up_up, sett]
    refine ⟨by rw [iL_len, List.length_map, List.length_take, sizeLine_eq]; omega, hN _ _ ⟨_, _, _, _, _, _, _, _, _, _, _, _, _, rfl, ?_⟩⟩
    rw [List.take_succ, hx1]
    simp only [Option.toList, List.map_append, List.map_cons, List.map_nil]
    rfl
  · rintro e μ' ⟨a5, a6, a7, a8, a9, a10, a11, a12, a13, a14, a15, a16, a17, rfl, rfl⟩
    refine ⟨trivial, ?_⟩
    rw [List.length_map, List.take_length]
    unfold wp_law_sizes_4
    simp only [Jbv, initE, Jcs, Jce, Jbl, Jbm, Jc0, Jcn, Jco, Jc6, Jck, Jbn, Jcu, Jbo, Jbu, Jd6, Jd7, Jd5, Jd8, Jdd, Jda, Jdb, Jd9, Jc3, Jc8, Jd0, Jcz, Jc7, Jch, Jcy, Jcx, Jcb, Jbs, Jcw, Jcg, Jbk, Jcj, Jc5, Jbj, Jci, Jcf, Jd2, Jd1, Jd4, Jbp, Jcd, Jcm, Jc2, Jct, Jcc, Jbq, Jcp, Jcv, Jdf, Jdg, Jc9, Jcq, Jcr, Jc4, Jbr, Jc1, Jbx, Jca, gt, st, Jbc, Jba, Jbb, Jb8, Jbi, Ja5, atI0, atI1, atI2, atI3, atI4, ixN20, ixN21, List.map_cons, List.map_nil, List.cons_append, List.nil_append, List.append_nil, List.length_cons, List.length_nil, List.replicate_succ, List.replicate_zero, Nat.add_one_sub_one, Jd3, Jbt, Jby, Jbz, Jbw, Jaf, Jah, Jai, Jag, Jb7, Jaw, Jax, Jal, Jav, Jb4, Jau, Jat, Jan, Jam, Jb2, Jaj, Jak, Jb0, Jb1, Jaq, Jb3, Jar, Jas, Jao, Jap, Jb6, Jb5, Ja8, Ja9, Jad, Jac, Ja0, Jaa, Jab, Jbg, Jbh, Ja7, Jae, Jbd, Jbf, Jbe, Jb9, Ja2, Ja1, Ja4, Ja3, Jay, Jaz, decide_true, decide_false, Bool.not_true, Bool.not_false, Bool.false_eq_true, if_true, if_false, true_and, up_same, del_ne (Ne.symm ne), up_ne (Ne.symm ne), Nd.frz]
    have e1 : del (del (up (up μ2 p1 (.list (iL (xs.map fun x => x.height w)))) p2 (.list (iL (xs.map fun x => x.reach w)))) p2) p1 = μ2 := by
      rw [del_up (by rw [up_ne ne] at hp2 ⊢; exact hp2), del_up hp1]
    rw [e1]
    refine ok_max hw.mh ?_
    simp only [Jbv, initE, Jcs, Jce, Jbl, Jbm, Jc0, Jcn, Jco, Jc6, Jck, Jbn, Jcu, Jbo, Jbu, Jd6, Jd7, Jd5, Jd8, Jdd, Jda, Jdb, Jd9, Jc3, Jc8, Jd0, Jcz, Jc7, Jch, Jcy, Jcx, Jcb, Jbs, Jcw, Jcg, Jbk, Jcj, Jc5, Jbj, Jci, Jcf, Jd2, Jd1, Jd4, Jbp, Jcd, Jcm, Jc2, Jct, Jcc, Jbq, Jcp, Jcv, Jdf, Jdg, Jc9, Jcq, Jcr, Jc4, Jbr, Jc1, Jbx, Jca, gt, st, Jbc, Jba, Jbb, Jb8, Jbi, Ja5, atI0, atI1, atI2, atI3, atI4, ixN20, ixN21, List.map_cons, List.map_nil, List.cons_append, List.nil_append, List.append_nil, List.length_cons, List.length_nil, List.replicate_succ, List.replicate_zero, Nat.add_one_sub_one, Jd3, Jbt, Jby, Jbz, Jbw, Jaf, Jah, Jai, Jag, Jb7, Jaw, Jax, Jal, Jav, Jb4, Jau, Jat, Jan, Jam, Jb2, Jaj, Jak, Jb0, Jb1, Jaq, Jb3, Jar, Jas, Jao, Jap, Jb6, Jb5, Ja8, Ja9, Jad, Jac, Ja0, Jaa, Jab, Jbg, Jbh, Ja7, Jae, Jbd, Jbf, Jbe, Jb9, Ja2, Ja1, Ja4, Ja3, Jay, Jaz, decide_true, decide_false, Bool.not_true, Bool.not_false, Bool.false_eq_true, if_true, if_false, true_and]
    rw [iL_app]
    refine ⟨by rw [iL_len, iL_len, List.length_map, List.length_map, sizeLine_eq]; omega, ok_max (max_app hw.mh hw.mr) ?_⟩
    exact ⟨by decide, k⟩
end
end DL

set_option Elab.async false
set_option linter.all false
set_option maxRecDepth 100000
set_option maxHeartbeats 4000000
/-! Q5: drawn cores have small wedges. -/
namespace DL
open PySem L2
theorem sum_ab {B : Nat} : ∀ {l : List Int}, (∀ n ∈ l, n.natAbs ≤ B) → 0 ≤ (l.map ab).sum ∧ (l.map ab).sum ≤ (l.length : Int) * B
  | [], _ => by simp
  | n :: l, h => by
    obtain ⟨h1, h2⟩ := sum_ab (l := l) fun m hm => h m (List.mem_cons_of_mem _ hm)
    obtain ⟨h3, h4⟩ := ab_le (h n List.mem_cons_self)
    rw [List.map_cons, List.sum_cons, List.length_cons]
    refine ⟨by omega, ?_⟩
    have e : ((l.length + 1 : Nat) : Int) * B = (l.length : Int) * B + B := by
      rw [Int.natCast_add, Int.add_mul]
      simp
    rw [e]
    omega
theorem lowS_le {B : Nat} {r : List Int} (h : ∀ n ∈ r, n.natAbs ≤ B) (hl : r.length ≤ 7) : 0 ≤ lowS r ∧ lowS r ≤ 7 * B := by
  obtain ⟨h1, h2⟩ := sum_ab (l := r.dropLast) fun n hn => h n (List.dropLast_subset _ hn)
  refine ⟨h1, Int.le_trans h2 ?_⟩
  have : (r.dropLast.length : Int) ≤ 7 := by
    rw [List.length_dropLast]
    omega
  exact Int.mul_le_mul_of_nonneg_right this (by omega)
theorem cpS_mem : ∀ {cs : List Cp} {c : Cp}, c ∈ cs → Stp.x c.1 ∈ cpS cs ∧ Stp.turn c.2.1 c.2.2.1 c.2.2.2.1 c.2.2.2.2 ∈ cpS cs
  | (r, x, y, z, w) :: cs, c, h => by
    rcases List.mem_cons.mp h with rfl | h
    · simp [cpS]
    · obtain ⟨h1, h2⟩ := cpS_mem h
      simp [cpS, h1, h2]
theorem Sx.Sm.height {x : Sx} {w : Int} (h : x.Sm w) (h0 : 0 ≤ lowS x.r) (w1 : 1 ≤ w) : 3 ≤ x.height w ∧ x.height w ≤ 1000000000 := by
  have u1 := ab_le h.b
  have u2 := ab_le h.d
  have u3 := ab_le h.s
  have u4 := ab_le h.t
  have u5 := h.w
  have u6 := h.low
  unfold Sx.height
  omega
theorem Sx.Sm.reach {x : Sx} {w : Int} (h : x.Sm w) : -100000000000000 ≤ x.reach w ∧ x.reach w ≤ 100000000000000 := by
  obtain ⟨hr, ha, hb, hc, hd, hs, ht, hw, hlow⟩ := h
  have m : ∀ {i j : Int}, i.natAbs ≤ 10000 → j.natAbs ≤ 10000 → (i * j).natAbs ≤ 100000000 := fun hi hj => mul_le (a := 10000) (b := 10000) hi hj
  have u1 := ab_le hb
  have u2 := ab_le hd
  have u3 := ab_le (m hc hs)
  have u4 := ab_le (m ha ht)
  have u5 := ab_le (m hd hs)
  have u6 := ab_le (m hb ht)
  have u7 := nat_le hw
  have u8 := nat_le hlow
  unfold Sx.reach
  clear ha hb hc hd hs ht hw hlow m hr
  generalize ab x.b = b at *
  generalize ab x.d = d at *
  generalize ab (x.c * x.s) = cs at *
  generalize ab (x.a * x.t) = at_ at *
  generalize ab (x.d * x.s) = ds at *
  generalize ab (x.b * x.t) = bt at *
  generalize lowS x.r = l at *
  have v1 : (2 * (b + d) + 3).natAbs ≤ 40003 := le_nat (by omega)
  have v2 : (cs + at_).natAbs ≤ 200000000 := le_nat (by omega)
  have mm := nat_le (mul_le (a := 40003) (b := 200000000) v1 v2)
  clear v1 v2
  generalize (2 * (b + d) + 3) * (cs + at_) = z at mm ⊢
  omega
/-- a core with a small wedge -/
structure Wd5 (ss : List Stp) (w h r : Int) : Prop where
  ex : ∃ cs q g, Cor ss cs q g ∧ Wg (sxs cs q g) w h r ∧ ∀ x ∈ sxs cs q g, x.Sm w
  w1 : 1 ≤ w
  w2 : w ≤ 20001
  h1 : 3 ≤ h
  h2 : h ≤ 1000000000
  r1 : h ≤ r
  r2 : r ≤ 100000000000000
theorem det_one {e f n : Int} (h : e * f - n * 0 = 1 ∨ e * f - n * 0 = -1) : e.natAbs = 1 ∧ f.natAbs = 1 := by
  have : (e * f).natAbs = 1 := by omega
  rw [Int.natAbs_mul] at this
  exact ⟨Nat.eq_one_of_mul_eq_one_right this, Nat.eq_one_of_mul_eq_one_left this⟩
theorem wd5 {ss : List Stp} (hc : CoreP ss) (ho : ∀ s ∈ ss, s.Ok 83) : ∃ w h r, Wd5 ss w h r := by
  obtain ⟨cs, q, g, e⟩ := core_cor hc
  have mem : ∀ c ∈ cs ++ [q], Stp.x c.1 ∈ ss ∧ Stp.turn c.2.1 c.2.2.1 c.2.2.2.1 c.2.2.2.2 ∈ ss := fun c hc => by
    obtain ⟨h1, h2⟩ := cpS_mem hc
    rw [e.e]
    exact ⟨List.mem_append_left _ h1, List.mem_append_left _ h2⟩
  have ot := ho (.turn g.e g.n 0 g.f) (by rw [e.e]; simp [En.S])
  have om := ho (.move g.s g.t) (by rw [e.e]; simp [En.S])
  obtain ⟨dt, _, n2, _, _⟩ := ot
  obtain ⟨m1, m2⟩ := om
  obtain ⟨e1, f1⟩ := det_one dt
  have low : ∀ x ∈ sxs cs q g, x.r.length ≤ 7 ∧ (∀ n ∈ x.r, n.natAbs ≤ 83) ∧ x.a.natAbs ≤ 10000 ∧ x.b.natAbs ≤ 10000 ∧ x.c.natAbs ≤ 10000 ∧ x.d.natAbs ≤ 10000 ∧ x.s.natAbs ≤ 10000 ∧ x.t.natAbs ≤ 10000 := by
    intro x hx
    rcases List.mem_append.mp hx with z | z
    · obtain ⟨⟨r, a, b, c, d⟩, hc, rfl⟩ := List.mem_map.mp z
      obtain ⟨h1, h2⟩ := mem _ (List.mem_append_left _ hc)
      obtain ⟨_, x1, x2⟩ := ho _ h1
      obtain ⟨_, a1, a2, a3, a4⟩ := ho _ h2
      exact ⟨x1, x2, Nat.le_trans a1 (by decide), Nat.le_trans a2 (by decide), Nat.le_trans a3 (by decide), Nat.le_trans a4 (by decide), by simp [sx0], by simp [sx0]⟩
    · rw [List.mem_singleton.mp z]
      obtain ⟨h1, h2⟩ := mem q (by simp)
      obtain ⟨r, a, b, c, d⟩ := q
      obtain ⟨_, x1, x2⟩ := ho _ h1
      obtain ⟨_, a1, a2, a3, a4⟩ := ho _ h2
      dsimp only at a1 a2 a3 a4
      have p : ∀ {i j u v : Int}, i.natAbs ≤ 1 → j.natAbs ≤ 83 → u.natAbs ≤ 83 → v.natAbs ≤ 83 → (i * j + u * v).natAbs ≤ 10000 := fun {i j u v} hi hj hu hv => by
        have q1 := nat_le (mul_le (a := 1) (b := 83) hi hj)
        have q2 := nat_le (mul_le (a := 83) (b := 83) hu hv)
        exact le_nat (by omega)
      have p2 : ∀ {i j : Int}, i.natAbs ≤ 1 → j.natAbs ≤ 83 → (i * j).natAbs ≤ 10000 := fun {i j} hi hj => Nat.le_trans (mul_le (a := 1) (b := 83) hi hj) (by decide)
      exact ⟨x1, x2, p (by omega) a1 n2 a3, p (by omega) a2 n2 a4, p2 (by omega) a3, p2 (by omega) a4, Nat.le_trans m1 (by decide), Nat.le_trans m2 (by decide)⟩
  have ne : sxs cs q g ≠ [] := by simp
  obtain ⟨w, hw⟩ := ismax ((sxs cs q g).map fun x => 2 * ab x.a + 1) (by simp)
  have wb : 1 ≤ w ∧ w ≤ 20001 := by
    obtain ⟨x, hx, rfl⟩ := List.mem_map.mp hw.i
    have := ab_le (low x hx).2.2.1
    omega
  have sm : ∀ x ∈ sxs cs q g, x.Sm w := fun x hx => by
    obtain ⟨l1, l2, l3, l4, l5, l6, l7, l8⟩ := low x hx
    have := lowS_le l2 l1
    exact ⟨by omega, l3, l4, l5, l6, l7, l8, by omega, by omega⟩
  obtain ⟨h, hh⟩ := ismax ((sxs cs q g).map fun x => x.height w) (by simp)
  obtain ⟨r, hr⟩ := ismax (h :: (sxs cs q g).map fun x => x.reach w) (by simp)
  have hb : 3 ≤ h ∧ h ≤ 1000000000 := by
    obtain ⟨x, hx, rfl⟩ := List.mem_map.mp hh.i
    exact (sm x hx).height (lowS_le (low x hx).2.1 (low x hx).1).1 wb.1
  have rb : r ≤ 100000000000000 := by
    rcases List.mem_cons.mp hr.i with z | z
    · omega
    · obtain ⟨x, hx, rfl⟩ := List.mem_map.mp z
      exact (sm x hx).reach.2
  exact ⟨w, h, r, ⟨cs, q, g, e, ⟨hw, hh, hr⟩, sm⟩, wb.1, wb.2, hb.1, hb.2, hr.u h List.mem_cons_self, rb⟩
end DL

set_option Elab.async false
set_option linter.all false
set_option maxRecDepth 100000
set_option maxHeartbeats 4000000
/-! Q6: what a core does to points: wedges are kept, and what is high outside of them comes down. -/
namespace DL
open PySem L2
theorem ab_mul (i j : Int) : ab (i * j) = ab i * ab j := by
  have h := Int.natAbs_mul i j
  have e : ∀ i : Int, ab i = (i.natAbs : Int) := fun i => by
    unfold ab
    split <;> omega
  rw [e, e, e, h, Int.natCast_mul]
theorem ab_add (i j : Int) : ab (i + j) ≤ ab i + ab j := by
  unfold ab
  split <;> split <;> split <;> omega
theorem ab_add_ge (i j : Int) : ab i - ab j ≤ ab (i + j) := by
  unfold ab
  split <;> split <;> split <;> omega
theorem ab_one {i : Int} (h : i ≠ 0) : 1 ≤ ab i := by
  unfold ab
  split <;> omega
theorem ab_neg (i : Int) : ab (-i) = ab i := by
  unfold ab
  split <;> split <;> omega
/-- the last number is not nought -/
def LastNz : List Int → Prop
  | [] => False
  | [n] => n ≠ 0
  | _ :: m :: ns => LastNz (m :: ns)
theorem last_nz : ∀ {r : List Int}, M.trim r = r → r ≠ [] → LastNz r
  | [], _, h => h rfl
  | [n], h, _ => by
    unfold M.trim at h
    split at h
    · cases h
    · rename_i z
      exact fun e => z ⟨rfl, e⟩
  | n :: m :: ns, h, _ => by
    have : M.trim (m :: ns) = m :: ns := by
      rw [M.trim] at h
      split at h
      · cases h
      · exact (List.cons.inj h).2
    exact last_nz (r := m :: ns) this (by simp)
theorem lowS_cons (n m : Int) (ns : List Int) : lowS (n :: m :: ns) = ab n + lowS (m :: ns) := by
  unfold lowS
  rw [List.dropLast_cons₂, List.map_cons, List.sum_cons]
theorem lowS_0 (r : List Int) : 0 ≤ lowS r := by
  unfold lowS
  induction r.dropLast with
  | nil => exact Int.le_refl _
  | cons n l ih =>
    have := ab_0 n
    rw [List.map_cons, List.sum_cons]
    omega
theorem ev_lo1 {y : Int} (h1 : 1 ≤ ab y) : ∀ {r : List Int}, 2 ≤ r.length → LastNz r → lowS r ≤ ab y → ab y - lowS r ≤ ab (M.ev r y)
  | [n, m], _, hz, hl => by
    have hz : m ≠ 0 := hz
    have m1 := ab_one hz
    have e : lowS [n, m] = ab n := by
      rw [lowS_cons]
      show ab n + 0 = ab n
      omega
    rw [e]
    have e2 : M.ev [n, m] y = y * m + n := by simp [M.ev]; omega
    rw [e2]
    have h3 := ab_add_ge (y * m) n
    rw [ab_mul] at h3
    have : ab y * 1 ≤ ab y * ab m := Int.mul_le_mul_of_nonneg_left m1 (ab_0 y)
    omega
  | n :: m :: k :: ns, _, hz, hl => by
    rw [lowS_cons] at hl ⊢
    have n0 := ab_0 n
    have ih := ev_lo1 (r := m :: k :: ns) h1 (by simp) hz (by omega)
    have e2 : M.ev (n :: m :: k :: ns) y = y * M.ev (m :: k :: ns) y + n := by rw [M.ev]; omega
    rw [e2]
    have h3 := ab_add_ge (y * M.ev (m :: k :: ns) y) n
    rw [ab_mul] at h3
    have : 1 * ab (M.ev (m :: k :: ns) y) ≤ ab y * ab (M.ev (m :: k :: ns) y) := Int.mul_le_mul_of_nonneg_right h1 (ab_0 _)
    omega
theorem ev_lo {y : Int} (h1 : 1 ≤ ab y) {r : List Int} (h3 : 3 ≤ r.length) (hz : LastNz r) (hl : lowS r ≤ ab y) : ab y * (ab y - lowS r) ≤ ab (M.ev r y) := by
  match r, h3, hz, hl with
  | n :: m :: k :: ns, _, hz, hl =>
    rw [lowS_cons] at hl ⊢
    have n0 := ab_0 n
    have ih := ev_lo1 (r := m :: k :: ns) h1 (by simp) hz (by omega)
    have e2 : M.ev (n :: m :: k :: ns) y = y * M.ev (m :: k :: ns) y + n := by rw [M.ev]; omega
    rw [e2]
    have h3 := ab_add_ge (y * M.ev (m :: k :: ns) y) n
    rw [ab_mul] at h3
    have q1 : ab y * (ab y - lowS (m :: k :: ns)) ≤ ab y * ab (M.ev (m :: k :: ns) y) := Int.mul_le_mul_of_nonneg_left ih (ab_0 y)
    have q2 : 1 * ab n ≤ ab y * ab n := Int.mul_le_mul_of_nonneg_right h1 n0
    rw [Int.mul_sub] at q1
    rw [Int.mul_sub, Int.mul_add]
    omega
/-- what a bend and a quarter do -/
def Sx.f (x : Sx) (p : Int × Int) : Int × Int := (x.a * (p.1 + M.ev x.r p.2) + x.b * p.2 + x.s, x.c * (p.1 + M.ev x.r p.2) + x.d * p.2 + x.t)
structure Sx.Ok (x : Sx) (w h R : Int) : Prop where
  l : 3 ≤ x.r.length
  z : LastNz x.r
  c : x.c ≠ 0
  det : x.a * x.d - x.b * x.c = 1 ∨ x.a * x.d - x.b * x.c = -1
  ow : 2 * ab x.a + 1 ≤ w
  oh : x.height w ≤ h
  orr : x.reach w ≤ R
  hr : h ≤ R
section
variable {x : Sx} {w h R : Int} {p : Int × Int}
/-- in the wedge it stays there, and heights double -/
theorem Sx.Ok.keep (o : x.Ok w h R) (hp : inW w h p.1 p.2 = true) : inW w h (x.f p).1 (x.f p).2 = true ∧ 2 * ab p.2 ≤ ab (x.f p).2 := by
  obtain ⟨u, v⟩ := p
  simp only [inW, Bool.and_eq_true, decide_eq_true_iff] at hp ⊢
  obtain ⟨p1, p2⟩ := hp
  have oh := o.oh
  have ow := o.ow
  unfold Sx.height at oh
  have A0 := ab_0 x.a
  have B0 := ab_0 x.b
  have D0 := ab_0 x.d
  have S0 := ab_0 x.s
  have T0 := ab_0 x.t
  have l0 := lowS_0 x.r
  have C1 := ab_one o.c
  have ev := ev_lo (y := v) (by omega) o.l o.z (by omega)
  have X1 := ab_add_ge (M.ev x.r v) u
  rw [Int.add_comm] at X1
  have y1 := ab_add_ge (x.c * (u + M.ev x.r v) + x.d * v) x.t
  have y2 := ab_add_ge (x.c * (u + M.ev x.r v)) (x.d * v)
  have x1 := ab_add (x.a * (u + M.ev x.r v) + x.b * v) x.s
  have x2 := ab_add (x.a * (u + M.ev x.r v)) (x.b * v)
  rw [ab_mul, ab_mul] at y2 x2
  show (h ≤ ab (x.c * (u + M.ev x.r v) + x.d * v + x.t) ∧ ab (x.a * (u + M.ev x.r v) + x.b * v + x.s) ≤ w * ab (x.c * (u + M.ev x.r v) + x.d * v + x.t)) ∧ 2 * ab v ≤ ab (x.c * (u + M.ev x.r v) + x.d * v + x.t)
  generalize ab (x.c * (u + M.ev x.r v) + x.d * v + x.t) = y' at *
  generalize ab (x.c * (u + M.ev x.r v) + x.d * v) = y'' at *
  generalize ab (x.a * (u + M.ev x.r v) + x.b * v + x.s) = x' at *
  generalize ab (x.a * (u + M.ev x.r v) + x.b * v) = x'' at *
  have X0 := ab_0 (u + M.ev x.r v)
  generalize ab (u + M.ev x.r v) = X at *
  generalize ab (M.ev x.r v) = P at *
  generalize ab u = U at *
  generalize ab x.a = A at *
  generalize ab x.b = B at *
  generalize ab x.c = C at *
  generalize ab x.d = D at *
  generalize ab x.s = S at *
  generalize ab x.t = T at *
  generalize lowS x.r = l at *
  have Y0 : 1 ≤ ab v := by omega
  generalize ab v = Y at *
  have q1 : Y * (w + 2 * (B + D + S + T + 1)) ≤ Y * (Y - l) := Int.mul_le_mul_of_nonneg_left (by omega) (by omega)
  have e1 : Y * (w + 2 * (B + D + S + T + 1)) = w * Y + 2 * (B * Y) + 2 * (D * Y) + 2 * (S * Y) + 2 * (T * Y) + 2 * Y := by grind
  rw [e1] at q1
  have bY : 0 ≤ B * Y := Int.mul_nonneg B0 (by omega)
  have dY : 0 ≤ D * Y := Int.mul_nonneg D0 (by omega)
  have sY : S * 1 ≤ S * Y := Int.mul_le_mul_of_nonneg_left Y0 S0
  have tY : T * 1 ≤ T * Y := Int.mul_le_mul_of_nonneg_left Y0 T0
  have cX : 1 * X ≤ C * X := Int.mul_le_mul_of_nonneg_right C1 X0
  have g1 : 2 * Y ≤ y' := by omega
  have e2 : A * (2 * (D * Y) + 2 * T) ≤ A * X := Int.mul_le_mul_of_nonneg_left (by omega) A0
  have e3 : (2 * A + 1) * y' ≤ w * y' := Int.mul_le_mul_of_nonneg_right ow (by omega)
  have e4 : A * (X - D * Y - T) ≤ A * y' := Int.mul_le_mul_of_nonneg_left (by omega) A0
  have f2 : A * (2 * (D * Y) + 2 * T) = 2 * (A * (D * Y)) + 2 * (A * T) := by grind
  have f3 : (2 * A + 1) * y' = 2 * (A * y') + y' := by grind
  have f4 : A * (X - D * Y - T) = A * X - A * (D * Y) - A * T := by grind
  rw [f2] at e2
  rw [f3] at e3
  rw [f4] at e4
  refine ⟨⟨by omega, ?_⟩, g1⟩
  omega
/-- the point behind tells of the height ahead -/
theorem Sx.Ok.back (o : x.Ok w h R) : ab (x.f p).1 ≤ ab p.2 + ab x.a * ab (x.f p).2 + (ab (x.c * x.s) + ab (x.a * x.t)) := by
  obtain ⟨u, v⟩ := p
  have C1 := ab_one o.c
  show ab (x.a * (u + M.ev x.r v) + x.b * v + x.s) ≤ ab v + ab x.a * ab (x.c * (u + M.ev x.r v) + x.d * v + x.t) + _
  generalize u + M.ev x.r v = X
  have e : x.c * (x.a * X + x.b * v + x.s) = -(x.a * x.d - x.b * x.c) * v + x.a * (x.c * X + x.d * v + x.t) + (x.c * x.s + -(x.a * x.t)) := by grind
  have h1 := ab_add (-(x.a * x.d - x.b * x.c) * v + x.a * (x.c * X + x.d * v + x.t)) (x.c * x.s + -(x.a * x.t))
  have h2 := ab_add (-(x.a * x.d - x.b * x.c) * v) (x.a * (x.c * X + x.d * v + x.t))
  have h3 := ab_add (x.c * x.s) (-(x.a * x.t))
  rw [ab_neg] at h3
  rw [← e, ab_mul] at h1
  rw [ab_mul x.a] at h2
  have h4 : ab (-(x.a * x.d - x.b * x.c) * v) = ab v := by
    rcases o.det with z | z <;> rw [z]
    · rw [show -(1 : Int) * v = -v by omega, ab_neg]
    · rw [show -(-1 : Int) * v = v by omega]
  have h5 : 1 * ab (x.a * X + x.b * v + x.s) ≤ ab x.c * ab (x.a * X + x.b * v + x.s) := Int.mul_le_mul_of_nonneg_right C1 (ab_0 _)
  omega
theorem Sx.Ok.mid (o : x.Ok w h R) : ab (p.1 + M.ev x.r p.2) ≤ ab x.d * ab (x.f p).1 + ab x.b * ab (x.f p).2 + (ab (x.d * x.s) + ab (x.b * x.t)) := by
  obtain ⟨u, v⟩ := p
  show ab (u + M.ev x.r v) ≤ ab x.d * ab (x.a * (u + M.ev x.r v) + x.b * v + x.s) + ab x.b * ab (x.c * (u + M.ev x.r v) + x.d * v + x.t) + _
  generalize u + M.ev x.r v = X
  have e : (x.a * x.d - x.b * x.c) * X = x.d * (x.a * X + x.b * v + x.s) + -(x.b * (x.c * X + x.d * v + x.t)) + (-(x.d * x.s) + x.b * x.t) := by grind
  have h1 := ab_add (x.d * (x.a * X + x.b * v + x.s) + -(x.b * (x.c * X + x.d * v + x.t))) (-(x.d * x.s) + x.b * x.t)
  have h2 := ab_add (x.d * (x.a * X + x.b * v + x.s)) (-(x.b * (x.c * X + x.d * v + x.t)))
  have h3 := ab_add (-(x.d * x.s)) (x.b * x.t)
  rw [ab_neg] at h3 h2
  rw [← e] at h1
  rw [ab_mul x.d, ab_mul x.b] at h2
  have h4 : ab ((x.a * x.d - x.b * x.c) * X) = ab X := by
    rcases o.det with z | z <;> rw [z]
    · rw [show (1 : Int) * X = X by omega]
    · rw [show (-1 : Int) * X = -X by omega, ab_neg]
  omega
theorem Sx.Ok.mid2 (o : x.Ok w h R) : ab (p.1 + M.ev x.r p.2) ≤ ab (x.f p).2 + ab x.d * ab p.2 + ab x.t := by
  obtain ⟨u, v⟩ := p
  have C1 := ab_one o.c
  show ab (u + M.ev x.r v) ≤ ab (x.c * (u + M.ev x.r v) + x.d * v + x.t) + ab x.d * ab v + ab x.t
  generalize u + M.ev x.r v = X
  have y1 := ab_add_ge (x.c * X + x.d * v) x.t
  have y2 := ab_add_ge (x.c * X) (x.d * v)
  rw [ab_mul, ab_mul] at y2
  have h5 : 1 * ab X ≤ ab x.c * ab X := Int.mul_le_mul_of_nonneg_right C1 (ab_0 _)
  omega
/-- a high point whose next is outside of the wedge lies far outside itself -/
theorem Sx.Ok.far (o : x.Ok w h R) (h1 : 1 ≤ h) (hR : R ≤ ab p.2) (hn : inW w h (x.f p).1 (x.f p).2 = false) : (w + 2) * ab p.2 ≤ ab p.1 := by
  have q1 := o.back (p := p)
  have q2 := o.mid (p := p)
  have q3 := o.mid2 (p := p)
  have oh := o.oh
  have ow := o.ow
  have orr := o.orr
  have ohr := o.hr
  unfold Sx.height at oh
  unfold Sx.reach at orr
  have A0 := ab_0 x.a
  have B0 := ab_0 x.b
  have D0 := ab_0 x.d
  have S0 := ab_0 x.s
  have T0 := ab_0 x.t
  have l0 := lowS_0 x.r
  have F1 := ab_0 (x.c * x.s)
  have F2 := ab_0 (x.a * x.t)
  have G1 := ab_0 (x.d * x.s)
  have G2 := ab_0 (x.b * x.t)
  have X'0 := ab_0 (x.f p).1
  have Y'0 := ab_0 (x.f p).2
  have ev := ev_lo (y := p.2) (by omega) o.l o.z (by omega)
  have X1 : ab (M.ev x.r p.2) - ab (p.1 + M.ev x.r p.2) ≤ ab p.1 := by
    have := ab_add_ge (M.ev x.r p.2) (-(p.1 + M.ev x.r p.2))
    rw [ab_neg, show M.ev x.r p.2 + -(p.1 + M.ev x.r p.2) = -p.1 by omega, ab_neg] at this
    exact this
  simp only [inW, Bool.and_eq_false_iff, decide_eq_false_iff_not] at hn
  generalize ab (x.f p).1 = X' at *
  generalize ab (x.f p).2 = Y' at *
  generalize ab (p.1 + M.ev x.r p.2) = X at *
  generalize ab (M.ev x.r p.2) = P at *
  generalize ab p.1 = U at *
  generalize ab p.2 = Y at *
  generalize ab (x.c * x.s) = F at *
  generalize ab (x.a * x.t) = F' at *
  generalize ab (x.d * x.s) = G at *
  generalize ab (x.b * x.t) = G' at *
  generalize ab x.a = A at *
  generalize ab x.b = B at *
  generalize ab x.d = D at *
  generalize ab x.s = S at *
  generalize ab x.t = T at *
  generalize lowS x.r = l at *
  have fz : 0 ≤ F + F' := by omega
  generalize F + F' = FF at *
  have m0 : 0 ≤ (2 * (B + D) + 3) * FF := Int.mul_nonneg (by omega) fz
  by_cases hy : h ≤ Y'
  · have hx : ¬X' ≤ w * Y' := hn.resolve_left (fun z => z hy)
    have w1 : (2 * A + 1) * Y' ≤ w * Y' := Int.mul_le_mul_of_nonneg_right ow Y'0
    rw [show (2 * A + 1) * Y' = 2 * (A * Y') + Y' by grind] at w1
    have a0 : 0 ≤ A * Y' := Int.mul_nonneg A0 Y'0
    have x1 : X' ≤ 2 * Y + 2 * FF := by omega
    have y1 : Y' ≤ X' := by omega
    have b1 : B * Y' ≤ B * (2 * Y + 2 * FF) := Int.mul_le_mul_of_nonneg_left (by omega) B0
    have d1 : D * X' ≤ D * (2 * Y + 2 * FF) := Int.mul_le_mul_of_nonneg_left (by omega) D0
    rw [show B * (2 * Y + 2 * FF) = 2 * (B * Y) + 2 * (B * FF) by grind] at b1
    rw [show D * (2 * Y + 2 * FF) = 2 * (D * Y) + 2 * (D * FF) by grind] at d1
    rw [show (2 * (B + D) + 3) * FF = 2 * (B * FF) + 2 * (D * FF) + 3 * FF by grind] at orr m0
    have bF : 0 ≤ B * FF := Int.mul_nonneg B0 fz
    have dF : 0 ≤ D * FF := Int.mul_nonneg D0 fz
    generalize hZ : 2 * (B * FF) + 2 * (D * FF) + 3 * FF + (G + G') = Z at *
    have Z0 : 0 ≤ Z := by omega
    have q : Y * (w + 2 + 2 * (B + D) + 1 + Z) ≤ Y * (Y - l) := Int.mul_le_mul_of_nonneg_left (by omega) (by omega)
    rw [show Y * (w + 2 + 2 * (B + D) + 1 + Z) = (w + 2) * Y + 2 * (B * Y) + 2 * (D * Y) + Y + Z * Y by grind] at q
    have zY : Z * 1 ≤ Z * Y := Int.mul_le_mul_of_nonneg_left (by omega) Z0
    omega
  · have q : Y * (w + 2 + 1 + D + T) ≤ Y * (Y - l) := Int.mul_le_mul_of_nonneg_left (by omega) (by omega)
    rw [show Y * (w + 2 + 1 + D + T) = (w + 2) * Y + Y + D * Y + T * Y by grind] at q
    have tY : T * 1 ≤ T * Y := Int.mul_le_mul_of_nonneg_left (by omega) T0
    omega
/-- heights halve -/
theorem Sx.Ok.half (o : x.Ok w h R) (h1 : 1 ≤ h) (hR : R ≤ ab (x.f p).2) (hf : (w + 2) * ab (x.f p).2 ≤ ab (x.f p).1) : 2 * ab (x.f p).2 ≤ ab p.2 := by
  have q1 := o.back (p := p)
  have ow := o.ow
  have orr := o.orr
  have ohr := o.hr
  unfold Sx.reach at orr
  have A0 := ab_0 x.a
  have B0 := ab_0 x.b
  have D0 := ab_0 x.d
  have l0 := lowS_0 x.r
  have F1 := ab_0 (x.c * x.s)
  have F2 := ab_0 (x.a * x.t)
  have G1 := ab_0 (x.d * x.s)
  have G2 := ab_0 (x.b * x.t)
  have Y'0 := ab_0 (x.f p).2
  generalize ab (x.f p).1 = X' at *
  generalize ab (x.f p).2 = Y' at *
  generalize ab p.2 = Y at *
  generalize ab (x.c * x.s) = F at *
  generalize ab (x.a * x.t) = F' at *
  generalize ab (x.d * x.s) = G at *
  generalize ab (x.b * x.t) = G' at *
  generalize ab x.a = A at *
  generalize ab x.b = B at *
  generalize ab x.d = D at *
  generalize lowS x.r = l at *
  have w1 : (2 * A + 3) * Y' ≤ (w + 2) * Y' := Int.mul_le_mul_of_nonneg_right (by omega) Y'0
  rw [show (2 * A + 3) * Y' = 2 * (A * Y') + 3 * Y' by grind] at w1
  have a0 : 0 ≤ A * Y' := Int.mul_nonneg A0 Y'0
  have fz : 0 ≤ F + F' := by omega
  have m0 : 1 * (F + F') ≤ (2 * (B + D) + 3) * (F + F') := Int.mul_le_mul_of_nonneg_right (by omega) fz
  omega
end
end DL

set_option Elab.async false
set_option linter.all false
set_option maxRecDepth 100000
set_option maxHeartbeats 4000000
/-! Q7: orbits under a core: each ends in the wedge or comes back. -/
namespace DL
open PySem L2
theorem pigeon : ∀ (S k : Nat) (f : Nat → Nat), (∀ i, i < k → f i < S) → (∀ i j, i < k → j < k → f i = f j → i = j) → k ≤ S
  | 0, k, f, h, _ => by
    rcases Nat.eq_zero_or_pos k with z | z
    · omega
    · exact absurd (h 0 z) (Nat.not_lt_zero _)
  | S + 1, k, f, h, inj => by
    by_cases ex : ∃ i, i < k ∧ f i = S
    · obtain ⟨i0, hi, e0⟩ := ex
      have ne : ∀ i, i < k → i ≠ i0 → f i < S := fun i hi2 hn => by
        have h1 := h i hi2
        have : f i ≠ S := fun z => hn (inj i i0 hi2 hi (by rw [z, e0]))
        omega
      have := pigeon S (k - 1) (fun i => f (if i < i0 then i else i + 1)) (fun i hi2 => by
        apply ne
        · split <;> omega
        · split <;> omega) (fun i j h1 h2 e => by
        have := inj _ _ (by split <;> omega) (by split <;> omega) e
        split at this <;> split at this <;> omega)
      omega
    · have := pigeon S k f (fun i hi => by
        have h1 := h i hi
        have : f i ≠ S := fun z => ex ⟨i, hi, z⟩
        omega) inj
      omega
abbrev inP (w h : Int) (p : Int × Int) : Bool := inW w h p.1 p.2
structure Orb (z : Nat → Int × Int) (x : Nat → Sx) (w h R : Int) : Prop where
  ok : ∀ j, (x j).Ok w h R
  st : ∀ j, z (j + 1) = (x j).f (z j)
  h1 : 1 ≤ h
section
variable {z : Nat → Int × Int} {x : Nat → Sx} {w h R M : Int} {m j : Nat}
theorem Orb.R1 (o : Orb z x w h R) : 1 ≤ R := Int.le_trans o.h1 (o.ok 0).hr
theorem Orb.stay (o : Orb z x w h R) (hj : inP w h (z j) = true) : ∀ i, inP w h (z (j + i)) = true
  | 0 => hj
  | i + 1 => by
    have := ((o.ok (j + i)).keep (o.stay hj i)).1
    rw [← o.st] at this
    exact this
theorem Orb.outs (o : Orb z x w h R) (hm : inP w h (z m) = false) {i : Nat} (hi : i ≤ m) : inP w h (z i) = false := by
  cases e : inP w h (z i) with
  | false => rfl
  | true =>
    have := o.stay e (m - i)
    rw [show i + (m - i) = m by omega, hm] at this
    cases this
theorem Orb.double (o : Orb z x w h R) (hj : inP w h (z j) = true) : ∀ i, ab (z j).2 ≤ ab (z (j + i)).2 ∧ (1 ≤ i → 2 * ab (z j).2 ≤ ab (z (j + i)).2)
  | 0 => ⟨Int.le_refl _, fun z => absurd z (by decide)⟩
  | i + 1 => by
    have h1 := ((o.ok (j + i)).keep (o.stay hj i)).2
    rw [← o.st] at h1
    obtain ⟨h2, _⟩ := o.double hj i
    have h3 := ab_0 (z j).2
    have e : z (j + i + 1) = z (j + (i + 1)) := rfl
    rw [e] at h1
    exact ⟨by omega, fun _ => by omega⟩
theorem Orb.half (o : Orb z x w h R) (hm : inP w h (z m) = false) (hj : j + 2 ≤ m) (hR : R ≤ ab (z (j + 1)).2) : 2 * ab (z (j + 1)).2 ≤ ab (z j).2 := by
  have n2 := o.outs hm hj
  have e2 : z (j + 2) = (x (j + 1)).f (z (j + 1)) := o.st (j + 1)
  have e1 := o.st j
  rw [e2] at n2
  have f := (o.ok (j + 1)).far o.h1 hR n2
  rw [e1] at f hR ⊢
  exact (o.ok j).half o.h1 hR f
theorem Orb.low (o : Orb z x w h R) (hm : inP w h (z m) = false) : ∀ j, j + 1 ≤ m → ab (z j).2 ≤ R ∨ 2 ^ j * ab (z j).2 ≤ ab (z 0).2
  | 0, _ => .inr (by omega)
  | j + 1, hj => by
    by_cases hR : R ≤ ab (z (j + 1)).2
    · have h2 := o.half hm hj hR
      rcases o.low hm j (by omega) with q | q
      · have := o.R1
        left
        omega
      · right
        refine Int.le_trans ?_ q
        rw [Int.pow_succ, Int.mul_assoc]
        exact Int.mul_le_mul_of_nonneg_left h2 (Int.le_of_lt (Int.pow_pos (by decide)))
    · left
      omega
theorem Orb.low40 (o : Orb z x w h R) (hm : inP w h (z m) = false) (h0 : ab (z 0).2 < 2 ^ 40) (h40 : 40 ≤ j) (hj : j + 1 ≤ m) : ab (z j).2 ≤ R := by
  rcases o.low hm j hj with q | q
  · exact q
  · have y0 := ab_0 (z j).2
    have R1 := o.R1
    by_cases y : ab (z j).2 = 0
    · omega
    · have e : (2 : Int) ^ j = 2 ^ 40 * 2 ^ (j - 40) := by rw [← Int.pow_add]; congr 1; omega
      have p1 : (1 : Int) ≤ 2 ^ (j - 40) := Int.pow_pos (by decide)
      have p2 : (2 : Int) ^ 40 * 1 ≤ 2 ^ 40 * 2 ^ (j - 40) := Int.mul_le_mul_of_nonneg_left p1 (by decide)
      have p3 : (2 : Int) ^ j * 1 ≤ 2 ^ j * ab (z j).2 := Int.mul_le_mul_of_nonneg_left (by omega) (Int.le_of_lt (Int.pow_pos (by decide)))
      rw [← e] at p2
      omega
theorem Orb.lowM (o : Orb z x w h R) (hm : inP w h (z m) = false) (h0 : ab (z 0).2 ≤ M) (hR : R ≤ M) (hj : j + 1 ≤ m) : ab (z j).2 ≤ M := by
  rcases o.low hm j hj with q | q
  · omega
  · have y0 := ab_0 (z j).2
    have p1 : (1 : Int) ≤ 2 ^ j := Int.pow_pos (by decide)
    have p3 : 1 * ab (z j).2 ≤ 2 ^ j * ab (z j).2 := Int.mul_le_mul_of_nonneg_right p1 y0
    omega
end
/-! ### passes of a core -/
def dfx : Sx := ⟨[], 0, 0, 0, 0, 0, 0⟩
def orb (xs : List Sx) (p : Int × Int) : Nat → Int × Int
  | 0 => p
  | j + 1 => (xs.getD (j % xs.length) dfx).f (orb xs p j)
def fold (xs : List Sx) (p : Int × Int) : Int × Int := xs.foldl (fun q x => x.f q) p
theorem fold_app (xs ys : List Sx) (p : Int × Int) : fold (xs ++ ys) p = fold ys (fold xs p) := List.foldl_append ..
theorem orb_pass (xs : List Sx) (p : Int × Int) (k : Nat) : ∀ i, i ≤ xs.length → orb xs p (xs.length * k + i) = fold (xs.take i) (orb xs p (xs.length * k))
  | 0, _ => rfl
  | i + 1, h => by
    have hi : i < xs.length := h
    have e : (xs.length * k + i) % xs.length = i := by
      rw [Nat.mul_add_mod, Nat.mod_eq_of_lt hi]
    have e2 : xs.getD i dfx = xs[i] := by simp [List.getD, hi]
    show (xs.getD ((xs.length * k + i) % xs.length) dfx).f (orb xs p (xs.length * k + i)) = _
    rw [e, e2, orb_pass xs p k i (by omega), List.take_add_one, List.getElem?_eq_getElem hi, fold_app]
    rfl
theorem acts_cps : ∀ (cs : List Cp) (l : List Stp) (p : Int × Int), acts (cpS cs ++ l) p = acts l (fold (cs.map sx0) p)
  | [], _, _ => rfl
  | (r, a, b, c, d) :: cs, l, (u, v) => by
    have e : fold (((r, a, b, c, d) :: cs).map sx0) (u, v) = fold (cs.map sx0) ((Stp.turn a b c d).act ((Stp.x r).act (u, v))) := by
      show fold (cs.map sx0) ((sx0 (r, a, b, c, d)).f (u, v)) = _
      congr 1
      simp [sx0, Sx.f, Stp.act]
    rw [e]
    exact acts_cps cs l _
theorem acts_cor {ss : List Stp} {cs : List Cp} {q : Cp} {g : En} (e : Cor ss cs q g) (p : Int × Int) : acts ss p = fold (sxs cs q g) p := by
  obtain ⟨r, a, b, c, d⟩ := q
  rw [e.e, cpS_app, List.append_assoc, acts_cps]
  show _ = fold (cs.map sx0 ++ [sxL (r, a, b, c, d) g]) p
  rw [fold_app]
  generalize fold (cs.map sx0) p = z
  obtain ⟨u, v⟩ := z
  show acts [.x r, .turn a b c d, .turn g.e g.n 0 g.f, .move g.s g.t] (u, v) = (sxL (r, a, b, c, d) g).f (u, v)
  simp only [acts, Stp.act, sxL, Sx.f, Prod.mk.injEq]
  constructor <;> grind
/-- passes -/
def it (ss : List Stp) (p : Int × Int) : Nat → Int × Int
  | 0 => p
  | k + 1 => acts ss (it ss p k)
theorem it_orb {ss : List Stp} {cs : List Cp} {q : Cp} {g : En} (e : Cor ss cs q g) (p : Int × Int) : ∀ k, it ss p k = orb (sxs cs q g) p ((sxs cs q g).length * k)
  | 0 => rfl
  | k + 1 => by
    rw [it, it_orb e p k, acts_cor e, Nat.mul_succ, orb_pass _ _ _ _ (Nat.le_refl _), List.take_length]
theorem it_inj {ss : List Stp} {B : Nat} (ho : ∀ s ∈ ss, s.Ok B) {p : Int × Int} : ∀ {i j : Nat}, i ≤ j → it ss p i = it ss p j → it ss p (j - i) = p
  | 0, _, _, e => e.symm
  | i + 1, 0, h, _ => absurd h (by omega)
  | i + 1, j + 1, h, e => by
    have e2 : acts (back ss) (acts ss (it ss p i)) = acts (back ss) (acts ss (it ss p j)) := congrArg (acts (back ss)) e
    rw [acts_back (B := B) _ _ ho, acts_back (B := B) _ _ ho] at e2
    have := it_inj ho (i := i) (j := j) (by omega) e2
    rwa [show j + 1 - (i + 1) = j - i by omega]
end DL

set_option Elab.async false
set_option linter.all false
set_option maxRecDepth 100000
set_option maxHeartbeats 4000000
/-! Q8: the fates of points under small cores. -/
namespace DL
open PySem L2
theorem cor_parts {ss : List Stp} {cs : List Cp} {q : Cp} {g : En} (hc : CoreP ss) (e : Cor ss cs q g) : ∀ s ∈ cpS (cs ++ [q]), (bendB s || quarB s) = true := by
  obtain ⟨⟨ps, t, m, h1, _, hp, _⟩, _⟩ := hc
  have h2 := e.e
  rw [h1] at h2
  have := (List.append_inj' h2 rfl).1
  rw [← this]
  exact hp
structure Tiny (x : Sx) : Prop where
  a : ab x.a ≤ 2000
  f : ab (x.c * x.s) + ab (x.a * x.t) ≤ 100000
  g : ab (x.d * x.s) + ab (x.b * x.t) ≤ 100000
  b : ab x.b ≤ 2000
  d : ab x.d ≤ 2000
  s : ab x.s ≤ 34
  t : ab x.t ≤ 34
  l : lowS x.r ≤ 102
theorem tiny_of {x : Sx} (h : ab x.a ≤ 1190 ∧ ab x.b ≤ 1190 ∧ ab x.c ≤ 34 ∧ ab x.d ≤ 34 ∧ ab x.s ≤ 34 ∧ ab x.t ≤ 34 ∧ lowS x.r ≤ 102) : Tiny x := by
  obtain ⟨a, b, c, d, s, t, l⟩ := h
  have m : ∀ {i j : Int}, ab i ≤ 34 → ab j ≤ 34 → ab (i * j) ≤ 1156 := fun {i j} hi hj => by
    rw [ab_mul]
    exact Int.mul_le_mul hi hj (ab_0 j) (by decide)
  have m2 : ∀ {i j : Int}, ab i ≤ 1190 → ab j ≤ 34 → ab (i * j) ≤ 40460 := fun {i j} hi hj => by
    rw [ab_mul]
    exact Int.mul_le_mul hi hj (ab_0 j) (by decide)
  have q1 := m c s
  have q2 := m2 a t
  have q3 := m d s
  have q4 := m2 b t
  exact ⟨by omega, by omega, by omega, by omega, by omega, s, t, l⟩
theorem Tiny.reach {x : Sx} {w : Int} (h : Tiny x) (hd : ab x.d ≤ 34) (hb : ab x.b ≤ 1190) (hf : ab (x.c * x.s) + ab (x.a * x.t) ≤ 41616) (hw : w ≤ 4001) : x.reach w ≤ 1000000000 := by
  have b0 := ab_0 x.b
  have d0 := ab_0 x.d
  have f1 := ab_0 (x.c * x.s)
  have f2 := ab_0 (x.a * x.t)
  have l := h.l
  have g := h.g
  unfold Sx.reach
  have F0 : 0 ≤ ab (x.c * x.s) + ab (x.a * x.t) := by omega
  generalize ab (x.c * x.s) + ab (x.a * x.t) = F at *
  have : (2 * (ab x.b + ab x.d) + 3) * F ≤ (2 * (1190 + 34) + 3) * 41616 := Int.mul_le_mul (by omega) hf F0 (by decide)
  omega
/-- a core of the fates' laws -/
structure F51 (ss : List Stp) (w h R : Int) : Prop where
  c : CoreP ss
  l : ss.length ≤ 6
  o : ∀ s ∈ ss, s.Ok 34
  ln : ∀ s ∈ ss, s.len ≤ 4
  d : Wd5 ss w h R
theorem len3 : ∀ {r : List Int} {B : Nat}, (∀ n ∈ r, n.natAbs ≤ B) → r.length ≤ 4 → lowS r ≤ 3 * B := fun {r B} h hl => by
  obtain ⟨_, h2⟩ := sum_ab (l := r.dropLast) fun n hn => h n (List.dropLast_subset _ hn)
  refine Int.le_trans h2 ?_
  have : (r.dropLast.length : Int) ≤ 3 := by
    rw [List.length_dropLast]
    omega
  exact Int.mul_le_mul_of_nonneg_right this (by omega)
section
variable {ss : List Stp} {w h R : Int} {p : Int × Int}
theorem F51.ok4 (c : F51 ss w h R) : ∃ cs q g, Cor ss cs q g ∧ (∀ x ∈ sxs cs q g, x.Ok w h R ∧ Tiny x) ∧ R ≤ 1000000000 ∧ Wg (sxs cs q g) w h R := by
  obtain ⟨cs, q, g, e, hw, sm⟩ := c.d.ex
  have parts := cor_parts c.c e
  have mem : ∀ k ∈ cs ++ [q], 3 ≤ k.1.length ∧ LastNz k.1 ∧ lowS k.1 ≤ 102 ∧ k.2.2.2.1 ≠ 0 ∧ k.2.1 * k.2.2.2.2 - k.2.2.1 * k.2.2.2.1 = 1 ∧ k.2.1.natAbs ≤ 34 ∧ k.2.2.1.natAbs ≤ 34 ∧ k.2.2.2.1.natAbs ≤ 34 ∧ k.2.2.2.2.natAbs ≤ 34 := fun k hk => by
    obtain ⟨h1, h2⟩ := cpS_mem hk
    have b1 := parts _ h1
    have b2 := parts _ h2
    have m1 : Stp.x k.1 ∈ ss := by rw [e.e]; exact List.mem_append_left _ h1
    have m2 : Stp.turn k.2.1 k.2.2.1 k.2.2.2.1 k.2.2.2.2 ∈ ss := by rw [e.e]; exact List.mem_append_left _ h2
    obtain ⟨t1, t2, t3⟩ := c.o _ m1
    obtain ⟨_, u1, u2, u3, u4⟩ := c.o _ m2
    have l4 : k.1.length ≤ 4 := c.ln _ m1
    have b1' : 2 < k.1.length := by
      simp only [bendB, quarB, Bool.or_false, Bool.and_eq_true, decide_eq_true_iff] at b1
      exact b1.1
    simp only [bendB, quarB, Bool.false_or, Bool.and_eq_true, decide_eq_true_iff] at b2
    have ne : k.1 ≠ [] := fun z => by rw [z] at b1'; simp at b1'
    exact ⟨b1', last_nz t1 ne, by have := len3 t3 l4; omega, by omega, b2.2.2, u1, u2, u3, u4⟩
  have ot := c.o (.turn g.e g.n 0 g.f) (by rw [e.e]; simp [En.S])
  have om := c.o (.move g.s g.t) (by rw [e.e]; simp [En.S])
  obtain ⟨dt, _, n2, _, _⟩ := ot
  obtain ⟨m1, m2⟩ := om
  obtain ⟨e1, f1⟩ := det_one dt
  have low : ∀ x ∈ sxs cs q g, (3 ≤ x.r.length ∧ LastNz x.r ∧ x.c ≠ 0 ∧ (x.a * x.d - x.b * x.c = 1 ∨ x.a * x.d - x.b * x.c = -1)) ∧ ab x.a ≤ 1190 ∧ ab x.b ≤ 1190 ∧ ab x.c ≤ 34 ∧ ab x.d ≤ 34 ∧ ab x.s ≤ 34 ∧ ab x.t ≤ 34 ∧ lowS x.r ≤ 102 := by
    intro x hx
    rcases List.mem_append.mp hx with z | z
    · obtain ⟨k, hk, rfl⟩ := List.mem_map.mp z
      obtain ⟨h1, h2, h3, h4, h5, h6, h7, h8, h9⟩ := mem k (List.mem_append_left _ hk)
      obtain ⟨r, a, b, c, d⟩ := k
      dsimp only at h1 h2 h3 h4 h5 h6 h7 h8 h9
      have a1 := ab_le h6
      have a2 := ab_le h7
      have a3 := ab_le h8
      have a4 := ab_le h9
      exact ⟨⟨h1, h2, h4, .inl h5⟩, by show ab a ≤ 1190; omega, by show ab b ≤ 1190; omega, a3.2, a4.2, (show ab 0 ≤ 34 by decide), (show ab 0 ≤ 34 by decide), h3⟩
    · rw [List.mem_singleton.mp z]
      obtain ⟨h1, h2, h3, h4, h5, h6, h7, h8, h9⟩ := mem q (by simp)
      obtain ⟨r, a, b, c, d⟩ := q
      dsimp only at h1 h2 h3 h4 h5 h6 h7 h8 h9
      have a1 := ab_le h6
      have a2 := ab_le h7
      have a3 := ab_le h8
      have a4 := ab_le h9
      have a5 := ab_le n2
      have a6 := ab_le m1
      have a7 := ab_le m2
      have E1 := ab_le (Nat.le_of_eq e1)
      have F1 := ab_le (Nat.le_of_eq f1)
      have p1 : ∀ {i j u v : Int}, ab i ≤ 1 → ab j ≤ 34 → ab u ≤ 34 → ab v ≤ 34 → ab (i * j + u * v) ≤ 1190 := fun {i j u v} hi hj hu hv => by
        have q1 := ab_add (i * j) (u * v)
        rw [ab_mul, ab_mul] at q1
        have q2 : ab i * ab j ≤ 1 * 34 := Int.mul_le_mul hi hj (ab_0 j) (by decide)
        have q3 : ab u * ab v ≤ 34 * 34 := Int.mul_le_mul hu hv (ab_0 v) (by decide)
        omega
      have p2 : ∀ {i j : Int}, ab i ≤ 1 → ab j ≤ 34 → ab (i * j) ≤ 34 := fun {i j} hi hj => by
        rw [ab_mul]
        exact Int.mul_le_mul hi hj (ab_0 j) (by decide)
      refine ⟨⟨h1, h2, ?_, ?_⟩, p1 (by omega) a1.2 a5.2 a3.2, p1 (by omega) a2.2 a5.2 a4.2, p2 (by omega) a3.2, p2 (by omega) a4.2, a6.2, a7.2, h3⟩
      · show g.f * c ≠ 0
        have f0 : g.f ≠ 0 := fun z => by rw [z] at f1; simp at f1
        exact Int.mul_ne_zero f0 h4
      · show (g.e * a + g.n * c) * (g.f * d) - (g.e * b + g.n * d) * (g.f * c) = 1 ∨ (g.e * a + g.n * c) * (g.f * d) - (g.e * b + g.n * d) * (g.f * c) = -1
        have ee : (g.e * a + g.n * c) * (g.f * d) - (g.e * b + g.n * d) * (g.f * c) = (g.e * g.f) * (a * d - b * c) := by grind
        rw [ee, h5, Int.mul_one]
        have dt2 : g.e * g.f - g.n * 0 = 1 ∨ g.e * g.f - g.n * 0 = -1 := dt
        omega
  have wb : w ≤ 4001 := by
    obtain ⟨x, hx, e⟩ := List.mem_map.mp hw.mw.i
    have := (low x hx).2.1
    omega
  have rr : R ≤ 1000000000 := by
    have hx : ∀ x ∈ sxs cs q g, x.reach w ≤ 1000000000 ∧ x.height w ≤ 1000000000 := fun x hx => by
      have l := (low x hx).2
      have t := tiny_of l
      obtain ⟨a, b, c, d, s, t2, l3⟩ := l
      have m : ∀ {i j : Int}, ab i ≤ 34 → ab j ≤ 34 → ab (i * j) ≤ 1156 := fun {i j} hi hj => by
        rw [ab_mul]
        exact Int.mul_le_mul hi hj (ab_0 j) (by decide)
      have m2 : ∀ {i j : Int}, ab i ≤ 1190 → ab j ≤ 34 → ab (i * j) ≤ 40460 := fun {i j} hi hj => by
        rw [ab_mul]
        exact Int.mul_le_mul hi hj (ab_0 j) (by decide)
      have q1 := m c s
      have q2 := m2 a t2
      refine ⟨t.reach d b (by omega) wb, ?_⟩
      unfold Sx.height
      omega
    rcases List.mem_cons.mp hw.mr.i with z | z
    · rw [z]
      obtain ⟨x, hx2, e⟩ := List.mem_map.mp hw.mh.i
      rw [← e]
      exact (hx x hx2).2
    · obtain ⟨x, hx2, e⟩ := List.mem_map.mp z
      rw [← e]
      exact (hx x hx2).1
  refine ⟨cs, q, g, e, fun x hx => ?_, rr, hw⟩
  obtain ⟨⟨l1, l2, l3, l4⟩, l5⟩ := low x hx
  exact ⟨⟨l1, l2, l3, l4, hw.mw.u _ (List.mem_map_of_mem hx), hw.mh.u _ (List.mem_map_of_mem hx), hw.mr.u _ (List.mem_cons_of_mem _ (List.mem_map_of_mem hx)), hw.mr.u _ List.mem_cons_self⟩, tiny_of l5⟩
theorem F51.ok (c : F51 ss w h R) : ∃ cs q g, Cor ss cs q g ∧ (∀ x ∈ sxs cs q g, x.Ok w h R ∧ Tiny x) ∧ R ≤ 1000000000 := by
  obtain ⟨cs, q, g, h1, h2, h3, _⟩ := c.ok4
  exact ⟨cs, q, g, h1, h2, h3⟩
theorem F51.wh (c : F51 ss w h R) : w ≤ 4001 ∧ h ≤ 20000 := by
  obtain ⟨cs, q, g, e, hx, _, hw⟩ := c.ok4
  have wb : w ≤ 4001 := by
    obtain ⟨x, hx2, e⟩ := List.mem_map.mp hw.mw.i
    have := (hx x hx2).2.a
    omega
  refine ⟨wb, ?_⟩
  obtain ⟨x, hx2, e⟩ := List.mem_map.mp hw.mh.i
  have t := (hx x hx2).2
  have := t.b
  have := t.d
  have := t.s
  have := t.t
  have := t.l
  unfold Sx.height at e
  omega
end
end DL

set_option Elab.async false
set_option linter.all false
set_option maxRecDepth 100000
set_option maxHeartbeats 4000000
/-! Q9: every point has its fate under a small core; the sizes on the way. -/
namespace DL
open PySem L2
theorem least {P : Nat → Prop} : ∀ n, P n → ∃ m, m ≤ n ∧ P m ∧ ∀ k, k < m → ¬P k := fun n => by
  induction n using Nat.strongRecOn with
  | ind n ih =>
    intro h
    by_cases ex : ∃ k, k < n ∧ P k
    · obtain ⟨k, hk, hp⟩ := ex
      obtain ⟨m, h1, h2, h3⟩ := ih k hk hp
      exact ⟨m, by omega, h2, h3⟩
    · exact ⟨n, Nat.le_refl _, h, fun k hk hp => ex ⟨k, hk, hp⟩⟩
theorem Sx.inj {x : Sx} (c : x.c ≠ 0) {p q : Int × Int} (h1 : p.2 = q.2) (h2 : (x.f p).2 = (x.f q).2) : p = q := by
  obtain ⟨u, v⟩ := p
  obtain ⟨u', v'⟩ := q
  simp only at h1
  subst h1
  have h3 : x.c * (u + M.ev x.r v) + x.d * v + x.t = x.c * (u' + M.ev x.r v) + x.d * v + x.t := h2
  have h4 : x.c * (u + M.ev x.r v) = x.c * (u' + M.ev x.r v) := by omega
  have h5 : u + M.ev x.r v = u' + M.ev x.r v := Int.eq_of_mul_eq_mul_left c h4
  have h6 : u = u' := by omega
  rw [h6]
theorem code_inj {a b c d S : Nat} (hb : b < S) (hd : d < S) (h : a * S + b = c * S + d) : a = c ∧ b = d := by
  have S0 : 0 < S := by omega
  have h1 : (a * S + b) / S = a := by rw [Nat.mul_comm, Nat.mul_add_div S0, Nat.div_eq_of_lt hb, Nat.add_zero]
  have h2 : (c * S + d) / S = c := by rw [Nat.mul_comm, Nat.mul_add_div S0, Nat.div_eq_of_lt hd, Nat.add_zero]
  have h3 : a = c := by rw [← h1, h, h2]
  subst h3
  exact ⟨rfl, by omega⟩
theorem ab_between {i R : Int} (h : ab i ≤ R) : 0 ≤ i + R ∧ i + R < 2 * R + 1 := by
  unfold ab at h
  split at h <;> omega
section
variable {ss : List Stp} {w h R : Int} {p : Int × Int} {cs : List Cp} {q : Cp} {g : En}
theorem orb_is (hx : ∀ x ∈ sxs cs q g, x.Ok w h R ∧ Tiny x) (h1 : 1 ≤ h) (p : Int × Int) : Orb (orb (sxs cs q g) p) (fun j => (sxs cs q g).getD (j % (sxs cs q g).length) dfx) w h R := by
  have n0 : 0 < (sxs cs q g).length := by simp
  refine ⟨fun j => ?_, fun j => rfl, h1⟩
  have hj := Nat.mod_lt j n0
  have e : (sxs cs q g).getD (j % (sxs cs q g).length) dfx = (sxs cs q g)[j % (sxs cs q g).length] := by simp only [List.getD, List.getElem?_eq_getElem hj, Option.getD_some]
  rw [e]
  exact (hx _ (List.getElem_mem hj)).1
theorem orb_pre (hx : ∀ x ∈ sxs cs q g, x.Ok w h R ∧ Tiny x) (p : Int × Int) (k : Nat) : ∃ x ∈ sxs cs q g, (∀ k', k' = k ∨ True → orb (sxs cs q g) p ((sxs cs q g).length * (k' + 1)) = x.f (orb (sxs cs q g) p ((sxs cs q g).length * (k' + 1) - 1))) := by
  have n0 : 0 < (sxs cs q g).length := by simp
  have hj : (sxs cs q g).length - 1 < (sxs cs q g).length := by omega
  refine ⟨(sxs cs q g)[(sxs cs q g).length - 1], List.getElem_mem hj, fun k' _ => ?_⟩
  have e1 : (sxs cs q g).length * (k' + 1) = (sxs cs q g).length * k' + ((sxs cs q g).length - 1) + 1 := by rw [Nat.mul_succ]; omega
  have e2 : ((sxs cs q g).length * k' + ((sxs cs q g).length - 1)) % (sxs cs q g).length = (sxs cs q g).length - 1 := by
    rw [Nat.mul_add_mod, Nat.mod_eq_of_lt hj]
  have e : (sxs cs q g).getD ((sxs cs q g).length - 1) dfx = (sxs cs q g)[(sxs cs q g).length - 1] := by simp only [List.getD, List.getElem?_eq_getElem hj, Option.getD_some]
  rw [e1, Nat.add_sub_cancel, orb, e2, e]
theorem F51.ends (c : F51 ss w h R) (h0 : ab p.2 < 2 ^ 40) : ∃ N, N ≤ 2 ^ 62 ∧ (inP w h (it ss p N) = true ∨ (0 < N ∧ it ss p N = p)) := by
  obtain ⟨cs, q, g, e, hx, R9⟩ := c.ok
  have h1 : 1 ≤ h := by have := c.d.h1; omega
  have O := orb_is hx h1 p
  have R1 := O.R1
  obtain ⟨xl, hxl, pre⟩ := orb_pre hx p 0
  have itz := it_orb e p
  have n0 : 0 < (sxs cs q g).length := by simp
  generalize (sxs cs q g).length = n at *
  generalize hz : orb (sxs cs q g) p = z at *
  have z0 : z 0 = p := by rw [← hz]; rfl
  obtain ⟨S, hS⟩ : ∃ S : Nat, S = (2 * R + 1).toNat := ⟨_, rfl⟩
  have S9 : S ≤ 2000000001 := by omega
  have SS : S * S ≤ 2000000001 * 2000000001 := Nat.mul_le_mul S9 S9
  apply Classical.byContradiction
  intro no
  have out : ∀ i, i ≤ S * S + 42 → inP w h (it ss p i) = false ∧ (0 < i → it ss p i ≠ p) := fun i hi => by
    have hi2 : i ≤ 2 ^ 62 := by omega
    refine ⟨?_, fun ip ie => no ⟨i, hi2, .inr ⟨ip, ie⟩⟩⟩
    cases e : inP w h (it ss p i) with
    | false => rfl
    | true => exact absurd ⟨i, hi2, .inl e⟩ no
  have hm := (out (S * S + 42) (Nat.le_refl _)).1
  rw [itz] at hm
  have idx : ∀ i, i < S * S + 1 → 41 ≤ n * (41 + i) ∧ n * (41 + i) + 1 ≤ n * (S * S + 42) := fun i hi => by
    have a1 : 1 * (41 + i) ≤ n * (41 + i) := Nat.mul_le_mul_right _ n0
    have a2 : n * (41 + i + 1) ≤ n * (S * S + 42) := Nat.mul_le_mul_left _ (by omega)
    rw [Nat.mul_succ] at a2
    omega
  have b1 : ∀ i, i < S * S + 1 → ab (z (n * (41 + i) - 1)).2 ≤ R ∧ ab (z (n * (41 + i))).2 ≤ R := fun i hi => by
    obtain ⟨i1, i2⟩ := idx i hi
    exact ⟨O.low40 hm (by rw [z0]; exact h0) (by omega) (by omega), O.low40 hm (by rw [z0]; exact h0) (by omega) (by omega)⟩
  have key := pigeon (S * S) (S * S + 1) (fun i => ((z (n * (41 + i) - 1)).2 + R).toNat * S + ((z (n * (41 + i))).2 + R).toNat) (fun i hi => by
    obtain ⟨q1, q2⟩ := b1 i hi
    have r1 := ab_between q1
    have r2 := ab_between q2
    have t1 : ((z (n * (41 + i) - 1)).2 + R).toNat + 1 ≤ S := by omega
    have t2 : ((z (n * (41 + i))).2 + R).toNat < S := by omega
    have t3 := Nat.mul_le_mul_right S t1
    rw [Nat.succ_mul] at t3
    show ((z (n * (41 + i) - 1)).2 + R).toNat * S + ((z (n * (41 + i))).2 + R).toNat < S * S
    omega) (fun i j hi hj he => by
    obtain ⟨q1, q2⟩ := b1 i hi
    obtain ⟨q3, q4⟩ := b1 j hj
    have r1 := ab_between q1
    have r2 := ab_between q2
    have r3 := ab_between q3
    have r4 := ab_between q4
    have ci := code_inj (S := S) (by omega) (by omega) he
    have y1 : (z (n * (41 + i) - 1)).2 = (z (n * (41 + j) - 1)).2 := by omega
    have y2 : (z (n * (41 + i))).2 = (z (n * (41 + j))).2 := by omega
    have p1 := pre (40 + i) (.inr trivial)
    have p2 := pre (40 + j) (.inr trivial)
    rw [show 40 + i + 1 = 41 + i by omega] at p1
    rw [show 40 + j + 1 = 41 + j by omega] at p2
    rw [p1, p2] at y2
    have ez := Sx.inj (hx xl hxl).1.c y1 y2
    have ei : it ss p (41 + i) = it ss p (41 + j) := by rw [itz, itz, p1, p2, ez]
    rcases Nat.lt_trichotomy i j with z | z | z
    · exact absurd (it_inj c.o (by omega) ei) ((out (41 + j - (41 + i)) (by omega)).2 (by omega))
    · exact z
    · exact absurd (it_inj c.o (by omega) ei.symm) ((out (41 + i - (41 + j)) (by omega)).2 (by omega)))
  omega
/-- the fate of a point -/
theorem F51.fate (c : F51 ss w h R) (h0 : ab p.2 < 2 ^ 40) : ∃ N, N ≤ 2 ^ 62 ∧ (inP w h (it ss p N) = true ∨ (0 < N ∧ it ss p N = p)) ∧ ∀ i, i < N → inP w h (it ss p i) = false ∧ (0 < i → it ss p i ≠ p) := by
  obtain ⟨n, hn, hp⟩ := c.ends h0
  obtain ⟨N, h1, h2, h3⟩ := least (P := fun N => inP w h (it ss p N) = true ∨ (0 < N ∧ it ss p N = p)) n hp
  refine ⟨N, by omega, h2, fun i hi => ?_⟩
  have := h3 i hi
  refine ⟨?_, fun ip ie => this (.inr ⟨ip, ie⟩)⟩
  cases e : inP w h (it ss p i) with
  | false => rfl
  | true => exact absurd (.inl e) this
theorem fit_up9 {p : Int × Int} {b c : Nat} (h : Fit p b) (hc : b ≤ c) : Fit p c := ⟨Nat.lt_of_lt_of_le h.1 (Nat.pow_le_pow_right (by decide) hc), Nat.lt_of_lt_of_le h.2 (Nat.pow_le_pow_right (by decide) hc)⟩
theorem degs_cpS : ∀ {l : List Cp}, (∀ s ∈ cpS l, s.len ≤ 4) → degs (cpS l) ≤ 3 ^ l.length
  | [], _ => Nat.le_refl _
  | (r, a, b, c, d) :: l, h => by
    have h1 := degs_cpS (l := l) fun s hs => h s (by rw [cpS]; exact List.mem_cons_of_mem _ (List.mem_cons_of_mem _ hs))
    have h2 : (Stp.x r).deg ≤ 3 := by
      have := h (.x r) (by rw [cpS]; exact List.mem_cons_self)
      unfold Stp.deg
      omega
    have h3 : (Stp.turn a b c d).deg = 1 := rfl
    rw [cpS, degs, degs, h3, Nat.one_mul, List.length_cons, Nat.pow_succ, Nat.mul_comm (3 ^ l.length)]
    exact Nat.mul_le_mul h2 h1
theorem F51.degs (c : F51 ss w h R) : degs ss ≤ 9 := by
  obtain ⟨cs, q, g, e, _, _⟩ := c.ok
  have l := c.l
  have ee := e.e
  have l2 : (cs ++ [q]).length ≤ 2 := by
    rw [ee, List.length_append, cpS_len] at l
    have : g.S.length = 2 := rfl
    omega
  have h1 := degs_cpS (l := cs ++ [q]) fun s hs => c.ln s (by rw [ee]; exact List.mem_append_left _ hs)
  rw [ee, degs_app', show DL.degs g.S = 1 from rfl, Nat.mul_one]
  exact Nat.le_trans h1 (Nat.pow_le_pow_right (by decide) l2)
theorem F51.o6 (c : F51 ss w h R) : ∀ s ∈ ss, s.Ok (2 ^ 6) := fun s hs => (c.o s hs).up (by decide)
theorem F51.act (c : F51 ss w h R) {b : Nat} (hb : 1 ≤ b) (hp : Fit p b) : Fit (acts ss p) (9 * (b + 60)) := by
  refine fit_up9 (acts_fit ss b p hb c.o6 hp) (Nat.le_trans (bits_le 6 ss b) ?_)
  have l := c.l
  exact Nat.mul_le_mul c.degs (by omega)
theorem fit_ab {p : Int × Int} {b : Nat} (h1 : ab p.1 < 2 ^ b) (h2 : ab p.2 < 2 ^ b) : Fit p b := by
  have e : ∀ i : Int, (i.natAbs : Int) = ab i := fun i => by unfold ab; split <;> omega
  constructor
  · apply Int.ofNat_lt.mp
    rw [e, Int.natCast_pow]
    exact h1
  · apply Int.ofNat_lt.mp
    rw [e, Int.natCast_pow]
    exact h2
theorem ab_fit {i : Int} {b : Nat} (h : i.natAbs < 2 ^ b) : ab i < 2 ^ b := by
  have e : (i.natAbs : Int) = ab i := by unfold ab; split <;> omega
  rw [← e]
  have := Int.ofNat_lt.mpr h
  rwa [Int.natCast_pow] at this
theorem F51.sizes (c : F51 ss w h R) (hp : Fit p 40) : ∀ k, inP w h (it ss p k) = false → Fit (it ss p k) 1008
  | 0, _ => fit_up9 hp (by decide)
  | k + 1, hk => by
    obtain ⟨cs, q, g, e, hx, R9⟩ := c.ok
    have h1 : 1 ≤ h := by have := c.d.h1; omega
    have O := orb_is hx h1 p
    rw [it_orb e p] at hk
    have n0 : 0 < (sxs cs q g).length := by simp
    have f52 : Fit (it ss p k) 52 := by
      cases k with
      | zero => exact fit_up9 hp (by decide)
      | succ k =>
        obtain ⟨xl, hxl, pre⟩ := orb_pre hx p 0
        have pk := pre k (.inr trivial)
        have itk := it_orb e p (k + 1)
        generalize (sxs cs q g).length = n at *
        have m1 : 1 ≤ n * (k + 1) := Nat.mul_pos n0 (by omega)
        have m2 : n * (k + 1 + 1) = n * (k + 1) + n := Nat.mul_succ n (k + 1)
        have y0 : ab p.2 ≤ 2 ^ 40 := Int.le_of_lt (ab_fit hp.2)
        have l1 := O.lowM (M := 2 ^ 40) hk y0 (by omega) (j := n * (k + 1)) (by omega)
        have l2 := O.lowM (M := 2 ^ 40) hk y0 (by omega) (j := n * (k + 1) - 1) (by omega)
        have b := ((hx xl hxl).1).back (p := orb (sxs cs q g) p (n * (k + 1) - 1))
        rw [← pk] at b
        have t := (hx xl hxl).2
        have ta := t.a
        have tf := t.f
        have : ab xl.a * ab (orb (sxs cs q g) p (n * (k + 1))).2 ≤ 2000 * 2 ^ 40 := Int.mul_le_mul ta l1 (ab_0 _) (by decide)
        rw [itk]
        exact fit_ab (by omega) (by omega)
    exact fit_up9 (c.act (by decide) f52) (by decide)
end
end DL

set_option Elab.async false
set_option linter.all false
set_option maxRecDepth 100000
set_option maxHeartbeats 4000000
/-! R0: repr of data with great numbers. -/
namespace DL
open PySem L2
theorem shB_int {i : Int} (h : i.natAbs < 2 ^ 12900) : ShB 4301 0 (.int i) := by
  have h10 : i.natAbs < 10 ^ 4300 := Nat.lt_of_lt_of_le h PyProof.Rows.pow_lo
  have e := int_text_length_le10 (k := 4300) (by decide) h10
  refine ⟨?_, Nat.zero_le _, ?_⟩
  · rw [PyData.shown_int, PySem.ofString_length]
    exact e
  · rw [PyData.big]
    refine decide_eq_true ?_
    by_cases h0 : i.natAbs = 0
    · rw [h0]; decide
    · exact (Nat.log2_lt h0).mpr h
theorem ShB.up {L k L' k' : Nat} {p : PyData} (h : ShB L k p) (h1 : L ≤ L') (h2 : k ≤ k') : ShB L' k' p := ⟨Nat.le_trans h.len h1, Nat.le_trans h.dep h2, h.can⟩
theorem bigAll_sum {L k : Nat} : ∀ {ps : List PyData}, (∀ p ∈ ps, ShB L k p) → ((PyData.shownAll ps).map (·.length)).sum ≤ L * ps.length ∧ PyData.depthAll ps ≤ k ∧ PyData.bigAll ps = true
  | [], _ => ⟨Nat.zero_le _, Nat.zero_le _, rfl⟩
  | p :: ps, h => by
    obtain ⟨h1, h2, h3⟩ := bigAll_sum (ps := ps) fun q hq => h q (List.mem_cons_of_mem _ hq)
    have hp := h p List.mem_cons_self
    refine ⟨?_, ?_, ?_⟩
    · rw [PyData.shownAll_cons, List.map_cons, List.sum_cons, List.length_cons, Nat.mul_succ]
      have := hp.len
      omega
    · rw [PyData.depthAll]
      exact Nat.max_le.mpr ⟨hp.dep, h2⟩
    · rw [PyData.bigAll, hp.can, h3]
      rfl
theorem shB_list {L k m : Nat} {ps : List PyData} (h : ∀ p ∈ ps, ShB L k p) (hm : ps.length ≤ m) : ShB ((L + 2) * m + 3) (k + 1) (.list ps) := by
  obtain ⟨h1, h2, h3⟩ := bigAll_sum h
  refine ⟨?_, ?_, ?_⟩
  · have e := listText_len_le (PyData.shownAll ps)
    rw [PyData.shownAll_length] at e
    rw [PyData.shown]
    have : (L + 2) * ps.length ≤ (L + 2) * m := Nat.mul_le_mul_left _ hm
    rw [Nat.add_mul] at this
    omega
  · rw [PyData.depth]; omega
  · rw [PyData.big]; exact h3
theorem shB_tup {L k m : Nat} {ps : List PyData} (h : ∀ p ∈ ps, ShB L k p) (hm : ps.length ≤ m) : ShB ((L + 2) * m + 3) (k + 1) (.tuple ps) := by
  obtain ⟨h1, h2, h3⟩ := bigAll_sum h
  refine ⟨?_, ?_, ?_⟩
  · have e := tupleText_len_le (PyData.shownAll ps)
    rw [PyData.shownAll_length] at e
    rw [PyData.shown]
    have : (L + 2) * ps.length ≤ (L + 2) * m := Nat.mul_le_mul_left _ hm
    rw [Nat.add_mul] at this
    omega
  · rw [PyData.depth]; omega
  · rw [PyData.big]; exact h3
theorem shB_all2 {L k : Nat} {a b : PyData} (h1 : ShB L k a) (h2 : ShB L k b) : ∀ p ∈ [a, b], ShB L k p := fun p hp => by
  rcases List.mem_cons.mp hp with rfl | hp
  · exact h1
  · rcases List.mem_cons.mp hp with rfl | hp
    · exact h2
    · cases hp
section
variable {μ : Mu} {QQ : QR} {X : QD}
theorem ok_reprB {L k : Nat} {d : D} (hd : drf μ d = d) (hp : plainD d = true) (sh : ShB L k (pd d)) (hL : L ≤ 16000000) (hk : k ≤ 60) (q : QQ (.v (.str (pd d).shown)) μ) : cbReprB [d] μ QQ X := by
  show plainD (drf μ d) = true ∧ ShB sizeLine 60 (pd (drf μ d)) ∧ QQ (.v (.str (pd (drf μ d)).shown)) μ
  rw [hd]
  exact ⟨hp, sh.up (Nat.le_trans hL (by rw [sizeLine_eq]; decide)) hk, q⟩
theorem fit_up {p : Int × Int} {b c : Nat} (h : Fit p b) (hc : b ≤ c) : Fit p c := ⟨Nat.lt_of_lt_of_le h.1 (Nat.pow_le_pow_right (by decide) hc), Nat.lt_of_lt_of_le h.2 (Nat.pow_le_pow_right (by decide) hc)⟩
end
end DL

set_option Elab.async false
set_option linter.all false
set_option maxRecDepth 100000
set_option maxHeartbeats 4000000
/-! K51a: fates, by the package and by the laws. -/
namespace DL
open PySem L2
def wp_fate_by : WP := (wDef 3 5 (wSeq (wPar 3 4 (waCons (wV 2) (waCons (wK (.int 0)) waNil)))
    (wSeq (wWhile (wTst (wOp false (oNotInO "Wedge" wp_Wedge___contains__) (wV 3) (wV 1))) (wSeq (wAsg 3 (wCallI "Program" wp_Program___call__ (wV 0) (waCons (wOp false oIx (wV 3) (wK (.int 0))) (waCons (wOp false oIx (wV 3) (wK (.int 1))) waNil))))
    (wSeq (wAug 4 (fun i j => i + j) (wK (.int 1)))
    (wIfS (wTst (wOp false oEq (wV 3) (wV 2))) (wRet (wTup (waCons (wK (.str "back")) (waCons (wV 4) waNil)))) wNext))))
    (wRet (wTup (waCons (wK (.str "away")) (waCons (wV 4) waNil)))))))
def wp_fate : WP := (wDef 3 4 (wSeq (wAsg 3 (wMake false "Wedge" wp_Wedge___init__ [] (waCons (wV 0) waNil)))
    (wSeq (wIfS (wOrT (wNotT (wTst (wCall wp_is_number [] (waCons (wV 1) waNil)))) (wNotT (wTst (wCall wp_is_number [] (waCons (wV 2) waNil))))) (wRz "BadPoint") wNext)
    (wRet (wCall wp_fate_by [] (waCons (wV 0) (waCons (wV 3) (waCons (wTup (waCons (wV 1) (waCons (wV 2) waNil))) waNil))))))))
def wp_law_fate : WP := (wDef 3 5 (wSeq (wPar 3 4 (waCons (wV 2) (waCons (wK (.int 0)) waNil)))
    (wSeq (wWhile (wNotT (wTst (wCall wp_law_is_within [] (waCons (wV 1) (waCons (wV 3) waNil))))) (wSeq (wAsg 3 (wCall wp_law_run [] (waCons (wV 0) (waCons (wOp false oIx (wV 3) (wK (.int 0))) (waCons (wOp false oIx (wV 3) (wK (.int 1))) waNil)))))
    (wSeq (wAsg 4 (wOp false oAdd (wV 4) (wK (.int 1))))
    (wIfS (wTst (wOp false oEq (wV 3) (wV 2))) (wRet (wTup (waCons (wK (.str "back")) (waCons (wV 4) waNil)))) wNext))))
    (wRet (wTup (waCons (wK (.str "away")) (waCons (wV 4) waNil)))))))
/-- points as values -/
abbrev pF (p : Int × Int) : D := .tup [.int p.1, .int p.2]
def fD (w h : Int) (ss : List Stp) (p : Int × Int) (N : Nat) : D := if inP w h (it ss p N) = true then .tup [.str "away", .int (N : Int)] else .tup [.str "back", .int (N : Int)]
/-- so many passes to the fate -/
structure Fate (ss : List Stp) (w h : Int) (p : Int × Int) (N : Nat) : Prop where
  n : N ≤ 2 ^ 62
  e : inP w h (it ss p N) = true ∨ (0 < N ∧ it ss p N = p)
  u : ∀ i, i < N → inP w h (it ss p i) = false ∧ (0 < i → it ss p i ≠ p)
section
variable {μ : Mu} {Q X : QD} {QQ : QR} {ss : List Stp} {w h r x y : Int} {p : Int × Int} {N : Nat}
theorem ok_contains9 (sm : w.natAbs ≤ 100000) (hy : y.natAbs < 2 ^ 12000) (k : Q (.bool (inW w h x y)) μ) : wp_Wedge___contains__ [wedD ss w h r, .tup [.int x, .int y]] μ Q X := by
  unfold wp_Wedge___contains__
  simp only [Jbv, initE, Jcs, Jce, Jbl, Jbm, Jc0, Jcn, Jco, Jc6, Jck, Jbn, Jcu, Jbo, Jbu, Jd6, Jd7, Jd5, Jd8, Jdd, Jda, Jdb, Jd9, Jc3, Jc8, Jd0, Jcz, Jc7, Jch, Jcy, Jcx, Jcb, Jbs, Jcw, Jcg, Jbk, Jcj, Jc5, Jbj, Jci, Jcf, Jd2, Jd1, Jd4, Jbp, Jcd, Jcm, Jc2, Jct, Jcc, Jbq, Jcp, Jcv, Jdf, Jdg, Jc9, Jcq, Jcr, Jc4, Jbr, Jc1, Jbx, Jca, gt, st, Jbc, Jba, Jbb, Jb8, Jbi, Ja5, atI0, atI1, atI2, atI3, atI4, ixN20, ixN21, List.map_cons, List.map_nil, List.cons_append, List.nil_append, List.append_nil, List.length_cons, List.length_nil, List.replicate_succ, List.replicate_zero, Nat.add_one_sub_one, Jd3, Jbt, Jby, Jbz, Jbw, Jaf, Jah, Jai, Jag, Jb7, Jaw, Jax, Jal, Jav, Jb4, Jau, Jat, Jan, Jam, Jb2, Jaj, Jak, Jb0, Jb1, Jaq, Jb3, Jar, Jas, Jao, Jap, Jb6, Jb5, Ja8, Ja9, Jad, Jac, Ja0, Jaa, Jab, Jbg, Jbh, Ja7, Jae, Jbd, Jbf, Jbe, Jb9, Ja2, Ja1, Ja4, Ja3, Jay, Jaz, decide_true, decide_false, Bool.not_true, Bool.not_false, Bool.false_eq_true, if_true, if_false, true_and]
  refine ok_is_point ?_
  simp only [Jbv, initE, Jcs, Jce, Jbl, Jbm, Jc0, Jcn, Jco, Jc6, Jck, Jbn, Jcu, Jbo, Jbu, Jd6, Jd7, Jd5, Jd8, Jdd, Jda, Jdb, Jd9, Jc3, Jc8, Jd0, Jcz, Jc7, Jch, Jcy, Jcx, Jcb, Jbs, Jcw, Jcg, Jbk, Jcj, Jc5, Jbj, Jci, Jcf, Jd2, Jd1, Jd4, Jbp, Jcd, Jcm, Jc2, Jct, Jcc, Jbq, Jcp, Jcv, Jdf, Jdg, Jc9, Jcq, Jcr, Jc4, Jbr, Jc1, Jbx, Jca, gt, st, Jbc, Jba, Jbb, Jb8, Jbi, Ja5, atI0, atI1, atI2, atI3, atI4, ixN20, ixN21, List.map_cons, List.map_nil, List.cons_append, List.nil_append, List.append_nil, List.length_cons, List.length_nil, List.replicate_succ, List.replicate_zero, Nat.add_one_sub_one, Jd3, Jbt, Jby, Jbz, Jbw, Jaf, Jah, Jai, Jag, Jb7, Jaw, Jax, Jal, Jav, Jb4, Jau, Jat, Jan, Jam, Jb2, Jaj, Jak, Jb0, Jb1, Jaq, Jb3, Jar, Jas, Jao, Jap, Jb6, Jb5, Ja8, Ja9, Jad, Jac, Ja0, Jaa, Jab, Jbg, Jbh, Ja7, Jae, Jbd, Jbf, Jbe, Jb9, Ja2, Ja1, Ja4, Ja3, Jay, Jaz, decide_true, decide_false, Bool.not_true, Bool.not_false, Bool.false_eq_true, if_true, if_false, true_and, ab_e, wedD, asObj, fldD]
  rw [if_neg (by decide), if_neg (by decide)]
  simp only [Jbv, initE, Jcs, Jce, Jbl, Jbm, Jc0, Jcn, Jco, Jc6, Jck, Jbn, Jcu, Jbo, Jbu, Jd6, Jd7, Jd5, Jd8, Jdd, Jda, Jdb, Jd9, Jc3, Jc8, Jd0, Jcz, Jc7, Jch, Jcy, Jcx, Jcb, Jbs, Jcw, Jcg, Jbk, Jcj, Jc5, Jbj, Jci, Jcf, Jd2, Jd1, Jd4, Jbp, Jcd, Jcm, Jc2, Jct, Jcc, Jbq, Jcp, Jcv, Jdf, Jdg, Jc9, Jcq, Jcr, Jc4, Jbr, Jc1, Jbx, Jca, gt, st, Jbc, Jba, Jbb, Jb8, Jbi, Ja5, atI0, atI1, atI2, atI3, atI4, ixN20, ixN21, List.map_cons, List.map_nil, List.cons_append, List.nil_append, List.append_nil, List.length_cons, List.length_nil, List.replicate_succ, List.replicate_zero, Nat.add_one_sub_one, Jd3, Jbt, Jby, Jbz, Jbw, Jaf, Jah, Jai, Jag, Jb7, Jaw, Jax, Jal, Jav, Jb4, Jau, Jat, Jan, Jam, Jb2, Jaj, Jak, Jb0, Jb1, Jaq, Jb3, Jar, Jas, Jao, Jap, Jb6, Jb5, Ja8, Ja9, Jad, Jac, Ja0, Jaa, Jab, Jbg, Jbh, Ja7, Jae, Jbd, Jbf, Jbe, Jb9, Ja2, Ja1, Ja4, Ja3, Jay, Jaz, decide_true, decide_false, Bool.not_true, Bool.not_false, Bool.false_eq_true, if_true, if_false, true_and]
  have cm : CMulU w (ab y) := mulU_of (a := 20) (b := 12000) (Nat.lt_of_le_of_lt sm (by decide)) (by rw [ab_n]; exact hy) (by decide)
  by_cases q : ab y < h
  · rw [if_pos (decide_eq_true q)]
    have e : inW w h x y = false := by
      unfold inW
      rw [decide_eq_false (by omega), Bool.false_and]
    rw [e] at k
    exact k
  · rw [if_neg (by rw [decide_eq_true_iff]; exact q)]
    rw [if_neg (by decide)]
    simp only [Jbv, initE, Jcs, Jce, Jbl, Jbm, Jc0, Jcn, Jco, Jc6, Jck, Jbn, Jcu, Jbo, Jbu, Jd6, Jd7, Jd5, Jd8, Jdd, Jda, Jdb, Jd9, Jc3, Jc8, Jd0, Jcz, Jc7, Jch, Jcy, Jcx, Jcb, Jbs, Jcw, Jcg, Jbk, Jcj, Jc5, Jbj, Jci, Jcf, Jd2, Jd1, Jd4, Jbp, Jcd, Jcm, Jc2, Jct, Jcc, Jbq, Jcp, Jcv, Jdf, Jdg, Jc9, Jcq, Jcr, Jc4, Jbr, Jc1, Jbx, Jca, gt, st, Jbc, Jba, Jbb, Jb8, Jbi, Ja5, atI0, atI1, atI2, atI3, atI4, ixN20, ixN21, List.map_cons, List.map_nil, List.cons_append, List.nil_append, List.append_nil, List.length_cons, List.length_nil, List.replicate_succ, List.replicate_zero, Nat.add_one_sub_one, Jd3, Jbt, Jby, Jbz, Jbw, Jaf, Jah, Jai, Jag, Jb7, Jaw, Jax, Jal, Jav, Jb4, Jau, Jat, Jan, Jam, Jb2, Jaj, Jak, Jb0, Jb1, Jaq, Jb3, Jar, Jas, Jao, Jap, Jb6, Jb5, Ja8, Ja9, Jad, Jac, Ja0, Jaa, Jab, Jbg, Jbh, Ja7, Jae, Jbd, Jbf, Jbe, Jb9, Ja2, Ja1, Ja4, Ja3, Jay, Jaz, decide_true, decide_false, Bool.not_true, Bool.not_false, Bool.false_eq_true, if_true, if_false, true_and]
    have e : inW w h x y = decide (ab x ≤ w * ab y) := by
      unfold inW
      rw [decide_eq_true (by omega), Bool.true_and]
    rw [e] at k
    exact ⟨cm, k⟩
theorem ok_is_within9 (sm : w.natAbs ≤ 100000) (hy : y.natAbs < 2 ^ 12000) (k : Q (.bool (inW w h x y)) μ) : wp_law_is_within [.tup [.int w, .int h, .int r], .tup [.int x, .int y]] μ Q X := by
  unfold wp_law_is_within
  simp only [Jbv, initE, Jcs, Jce, Jbl, Jbm, Jc0, Jcn, Jco, Jc6, Jck, Jbn, Jcu, Jbo, Jbu, Jd6, Jd7, Jd5, Jd8, Jdd, Jda, Jdb, Jd9, Jc3, Jc8, Jd0, Jcz, Jc7, Jch, Jcy, Jcx, Jcb, Jbs, Jcw, Jcg, Jbk, Jcj, Jc5, Jbj, Jci, Jcf, Jd2, Jd1, Jd4, Jbp, Jcd, Jcm, Jc2, Jct, Jcc, Jbq, Jcp, Jcv, Jdf, Jdg, Jc9, Jcq, Jcr, Jc4, Jbr, Jc1, Jbx, Jca, gt, st, Jbc, Jba, Jbb, Jb8, Jbi, Ja5, atI0, atI1, atI2, atI3, atI4, ixN20, ixN21, List.map_cons, List.map_nil, List.cons_append, List.nil_append, List.append_nil, List.length_cons, List.length_nil, List.replicate_succ, List.replicate_zero, Nat.add_one_sub_one, Jd3, Jbt, Jby, Jbz, Jbw, Jaf, Jah, Jai, Jag, Jb7, Jaw, Jax, Jal, Jav, Jb4, Jau, Jat, Jan, Jam, Jb2, Jaj, Jak, Jb0, Jb1, Jaq, Jb3, Jar, Jas, Jao, Jap, Jb6, Jb5, Ja8, Ja9, Jad, Jac, Ja0, Jaa, Jab, Jbg, Jbh, Ja7, Jae, Jbd, Jbf, Jbe, Jb9, Ja2, Ja1, Ja4, Ja3, Jay, Jaz, decide_true, decide_false, Bool.not_true, Bool.not_false, Bool.false_eq_true, if_true, if_false, true_and, ab_e]
  have cm : CMulU w (ab y) := mulU_of (a := 20) (b := 12000) (Nat.lt_of_le_of_lt sm (by decide)) (by rw [ab_n]; exact hy) (by decide)
  by_cases q : h ≤ ab y
  · rw [if_pos (decide_eq_true q)]
    have e : inW w h x y = decide (ab x ≤ w * ab y) := by
      unfold inW
      rw [decide_eq_true q, Bool.true_and]
    rw [e] at k
    exact ⟨cm, k⟩
  · rw [if_neg (by rw [decide_eq_true_iff]; exact q)]
    have e : inW w h x y = false := by
      unfold inW
      rw [decide_eq_false q, Bool.false_and]
    rw [e] at k
    exact k
theorem eq_pF (a c : Int × Int) (q : QQ (.v (.bool (decide (a = c)))) μ) : oEq (pF a) (pF c) μ QQ X := by
  have e : decide ([a.1, a.2] = [c.1, c.2]) = decide (a = c) := by
    rw [decide_eq_decide]
    simp [Prod.ext_iff]
  exact eq_tups [a.1, a.2] [c.1, c.2] (fun b => QQ (.v (.bool b)) μ) (by rw [e]; exact q)
theorem F51.ex (c : F51 ss w h r) (hp : Fit p 40) : ∃ N, Fate ss w h p N := by
  obtain ⟨N, h1, h2, h3⟩ := c.fate (p := p) (ab_fit hp.2)
  exact ⟨N, h1, h2, h3⟩
theorem F51.fits (c : F51 ss w h r) (hp : Fit p 40) (F : Fate ss w h p N) {i : Nat} (hi : i ≤ N) : Fit (it ss p i) 9612 := by
  by_cases z : i < N
  · exact fit_up (c.sizes hp i (F.u i z).1) (by decide)
  · cases i with
    | zero => exact fit_up hp (by decide)
    | succ i => exact fit_up (c.act (b := 1008) (by decide) (c.sizes hp i (F.u i (by omega)).1)) (by decide)
theorem F51.huge (c : F51 ss w h r) : ∀ s ∈ ss, s.Ok HUGE := fun s hs => (c.o6 s hs).up (pow_huge (by decide))
theorem F51.big (c : F51 ss w h r) {b : Nat} (hb : b ≤ 1008) : (bits 6 ss b + 1) * 4 + bits 6 ss b ≤ 40000000 := by
  have h1 := bits_le 6 ss b
  have l := c.l
  have := Nat.mul_le_mul c.degs (show b + (6 + 4) * ss.length ≤ 1068 by omega)
  omega
theorem F51.call (c : F51 ss w h r) (hp : Fit p 1008) (k : Q (pF (acts ss p)) μ) : wp_Program___call__ [progD ss, .int p.1, .int p.2] μ Q X := by
  have l := c.l
  exact ok_Program_call (b := 1008) (C := 6) (m := 4) (by decide) c.ln (by decide) (c.big (Nat.le_refl _)) (by omega) c.o6 hp.1 hp.2 k
theorem F51.run (c : F51 ss w h r) (hp : Fit p 1008) (k : Q (pF (acts ss p)) μ) : wp_law_run [.list (ss.map Stp.b), .int p.1, .int p.2] μ Q X := by
  have l := c.l
  exact ok_law_run (b := 1008) (C := 6) (m := 4) (by decide) c.ln (by decide) (c.big (Nat.le_refl _)) (by omega) c.o6 hp.1 hp.2 k
theorem F51.make (c : F51 ss w h r) (k : Q (wedD ss w h r) μ) (p : Addr) (hp : μ p = Option.none) : wp_Wedge___init__ [.cell p, progD ss] (up μ p (.obj "Wedge" [] [])) (mkQ false Q p) X := by
  obtain ⟨cs, q, g, e, hw, sm⟩ := c.d.ex
  have := c.l
  exact ok_Wedge_init hp (by omega) c.o (by decide) c.c e rfl hw sm (mkQ_f hp k)
theorem F51.wn (c : F51 ss w h r) : w.natAbs ≤ 100000 := by
  have := c.d.w1
  have := c.d.w2
  omega
theorem fate_back (F : Fate ss w h p N) (i : Nat) (hi : i < N) (e : it ss p (i + 1) = p) : i + 1 = N ∧ fD w h ss p N = .tup [.str "back", .int ((i : Int) + 1)] := by
  have h1 : i + 1 = N := by
    by_cases z : i + 1 < N
    · exact absurd e ((F.u (i + 1) z).2 (by omega))
    · omega
  refine ⟨h1, ?_⟩
  subst h1
  have h2 := (F.u 0 (by omega)).1
  have e2 : inP w h (it ss p (i + 1)) = false := by rw [e]; exact h2
  unfold fD
  rw [e2, if_neg (by decide)]
  rfl
theorem fate_away (F : Fate ss w h p N) (hn : 0 < N → it ss p N ≠ p) : inP w h (it ss p N) = true ∧ fD w h ss p N = .tup [.str "away", .int (N : Int)] := by
  have e : inP w h (it ss p N) = true := F.e.resolve_right fun z => hn z.1 z.2
  refine ⟨e, ?_⟩
  unfold fD
  rw [if_pos e]
theorem ok_fate_by (c : F51 ss w h r) (hp : Fit p 40) (F : Fate ss w h p N) (k : Q (fD w h ss p N) μ) : wp_fate_by [progD ss, wedD ss w h r, pF p] μ Q X := by
  unfold wp_fate_by
  simp only [Jbv, initE, Jcs, Jce, Jbl, Jbm, Jc0, Jcn, Jco, Jc6, Jck, Jbn, Jcu, Jbo, Jbu, Jd6, Jd7, Jd5, Jd8, Jdd, Jda, Jdb, Jd9, Jc3, Jc8, Jd0, Jcz, Jc7, Jch, Jcy, Jcx, Jcb, Jbs, Jcw, Jcg, Jbk, Jcj, Jc5, Jbj, Jci, Jcf, Jd2, Jd1, Jd4, Jbp, Jcd, Jcm, Jc2, Jct, Jcc, Jbq, Jcp, Jcv, Jdf, Jdg, Jc9, Jcq, Jcr, Jc4, Jbr, Jc1, Jbx, Jca, gt, st, Jbc, Jba, Jbb, Jb8, Jbi, Ja5, atI0, atI1, atI2, atI3, atI4, ixN20, ixN21, List.map_cons, List.map_nil, List.cons_append, List.nil_append, List.append_nil, List.length_cons, List.length_nil, List.replicate_succ, List.replicate_zero, Nat.add_one_sub_one, Jd3, Jbt, Jby, Jbz, Jbw, Jaf, Jah, Jai, Jag, Jb7, Jaw, Jax, Jal, Jav, Jb4, Jau, Jat, Jan, Jam, Jb2, Jaj, Jak, Jb0, Jb1, Jaq, Jb3, Jar, Jas, Jao, Jap, Jb6, Jb5, Ja8, Ja9, Jad, Jac, Ja0, Jaa, Jab, Jbg, Jbh, Ja7, Jae, Jbd, Jbf, Jbe, Jb9, Ja2, Ja1, Ja4, Ja3, Jay, Jaz, decide_true, decide_false, Bool.not_true, Bool.not_false, Bool.false_eq_true, if_true, if_false, true_and, wWhile]
  refine ⟨N + 1, by have := F.n; omega, while_inv (fun n e μ' => μ' = μ ∧ ∃ i, i ≤ N ∧ n = N - i ∧ (0 < i → it ss p i ≠ p) ∧ e = [some (progD ss), some (wedD ss w h r), some (pF p), some (pF (it ss p i)), some (.int (i : Int))]) ?_ _ _ _ _ (Nat.lt_succ_of_le (Nat.sub_le N 0)) ⟨rfl, 0, Nat.zero_le _, rfl, (fun z => absurd z (by decide)), rfl⟩⟩
  rintro n e μ' K ⟨rfl, i, hi, rfl, hne, rfl⟩ hK
  have ft := c.fits hp F hi
  simp only [Jbv, initE, Jcs, Jce, Jbl, Jbm, Jc0, Jcn, Jco, Jc6, Jck, Jbn, Jcu, Jbo, Jbu, Jd6, Jd7, Jd5, Jd8, Jdd, Jda, Jdb, Jd9, Jc3, Jc8, Jd0, Jcz, Jc7, Jch, Jcy, Jcx, Jcb, Jbs, Jcw, Jcg, Jbk, Jcj, Jc5, Jbj, Jci, Jcf, Jd2, Jd1, Jd4, Jbp, Jcd, Jcm, Jc2, Jct, Jcc, Jbq, Jcp, Jcv, Jdf, Jdg, Jc9, Jcq, Jcr, Jc4, Jbr, Jc1, Jbx, Jca, gt, st, Jbc, Jba, Jbb, Jb8, Jbi, Ja5, atI0, atI1, atI2, atI3, atI4, ixN20, ixN21, List.map_cons, List.map_nil, List.cons_append, List.nil_append, List.append_nil, List.length_cons, List.length_nil, List.replicate_succ, List.replicate_zero, Nat.add_one_sub_one, Jd3, Jbt, Jby, Jbz, Jbw, Jaf, Jah, Jai, Jag, Jb7, Jaw, Jax, Jal, Jav, Jb4, Jau, Jat, Jan, Jam, Jb2, Jaj, Jak, Jb0, Jb1, Jaq, Jb3, Jar, Jas, Jao, Jap, Jb6, Jb5, Ja8, Ja9, Jad, Jac, Ja0, Jaa, Jab, Jbg, Jbh, Ja7, Jae, Jbd, Jbf, Jbe, Jb9, Ja2, Ja1, Ja4, Ja3, Jay, Jaz, decide_true, decide_false, Bool.not_true, Bool.not_false, Bool.false_eq_true, if_true, if_false, true_and, oNotInO]
  refine ⟨rfl, ok_contains9 c.wn (Nat.lt_of_lt_of_le ft.2 (Nat.pow_le_pow_right (by decide) (by decide))) ?_⟩
  by_cases z : i < N
  · have q := F.u i z
    have sz := c.sizes hp i q.1
    rw [show inW w h (it ss p i).1 (it ss p i).2 = false from q.1]
    simp only [Jbv, initE, Jcs, Jce, Jbl, Jbm, Jc0, Jcn, Jco, Jc6, Jck, Jbn, Jcu, Jbo, Jbu, Jd6, Jd7, Jd5, Jd8, Jdd, Jda, Jdb, Jd9, Jc3, Jc8, Jd0, Jcz, Jc7, Jch, Jcy, Jcx, Jcb, Jbs, Jcw, Jcg, Jbk, Jcj, Jc5, Jbj, Jci, Jcf, Jd2, Jd1, Jd4, Jbp, Jcd, Jcm, Jc2, Jct, Jcc, Jbq, Jcp, Jcv, Jdf, Jdg, Jc9, Jcq, Jcr, Jc4, Jbr, Jc1, Jbx, Jca, gt, st, Jbc, Jba, Jbb, Jb8, Jbi, Ja5, atI0, atI1, atI2, atI3, atI4, ixN20, ixN21, List.map_cons, List.map_nil, List.cons_append, List.nil_append, List.append_nil, List.length_cons, List.length_nil, List.replicate_succ, List.replicate_zero, Nat.add_one_sub_one, Jd3, Jbt, Jby, Jbz, Jbw, Jaf, Jah, Jai, Jag, Jb7, Jaw, Jax, Jal, Jav, Jb4, Jau, Jat, Jan, Jam, Jb2, Jaj, Jak, Jb0, Jb1, Jaq, Jb3, Jar, Jas, Jao, Jap, Jb6, Jb5, Ja8, Ja9, Jad, Jac, Ja0, Jaa, Jab, Jbg, Jbh, Ja7, Jae, Jbd, Jbf, Jbe, Jb9, Ja2, Ja1, Ja4, Ja3, Jay, Jaz, decide_true, decide_false, Bool.not_true, Bool.not_false, Bool.false_eq_true, if_true, if_false, true_and]
    refine ⟨rfl, rfl, c.call sz ?_⟩
    refine eq_pF (it ss p (i + 1)) p ?_
    by_cases b : it ss p (i + 1) = p
    · obtain ⟨e1, e2⟩ := fate_back F i z b
      rw [decide_eq_true b]
      simp only [Jbv, initE, Jcs, Jce, Jbl, Jbm, Jc0, Jcn, Jco, Jc6, Jck, Jbn, Jcu, Jbo, Jbu, Jd6, Jd7, Jd5, Jd8, Jdd, Jda, Jdb, Jd9, Jc3, Jc8, Jd0, Jcz, Jc7, Jch, Jcy, Jcx, Jcb, Jbs, Jcw, Jcg, Jbk, Jcj, Jc5, Jbj, Jci, Jcf, Jd2, Jd1, Jd4, Jbp, Jcd, Jcm, Jc2, Jct, Jcc, Jbq, Jcp, Jcv, Jdf, Jdg, Jc9, Jcq, Jcr, Jc4, Jbr, Jc1, Jbx, Jca, gt, st, Jbc, Jba, Jbb, Jb8, Jbi, Ja5, atI0, atI1, atI2, atI3, atI4, ixN20, ixN21, List.map_cons, List.map_nil, List.cons_append, List.nil_append, List.append_nil, List.length_cons, List.length_nil, List.replicate_succ, List.replicate_zero, Nat.add_one_sub_one, Jd3, Jbt, Jby, Jbz, Jbw, Jaf, Jah, Jai, Jag, Jb7, Jaw, Jax, Jal, Jav, Jb4, Jau, Jat, Jan, Jam, Jb2, Jaj, Jak, Jb0, Jb1, Jaq, Jb3, Jar, Jas, Jao, Jap, Jb6, Jb5, Ja8, Ja9, Jad, Jac, Ja0, Jaa, Jab, Jbg, Jbh, Ja7, Jae, Jbd, Jbf, Jbe, Jb9, Ja2, Ja1, Ja4, Ja3, Jay, Jaz, decide_true, decide_false, Bool.not_true, Bool.not_false, Bool.false_eq_true, if_true, if_false, true_and]
      rw [e2] at k
      exact ⟨by rw [sizeLine_eq]; decide, k⟩
    · rw [decide_eq_false b]
      simp only [Jbv, initE, Jcs, Jce, Jbl, Jbm, Jc0, Jcn, Jco, Jc6, Jck, Jbn, Jcu, Jbo, Jbu, Jd6, Jd7, Jd5, Jd8, Jdd, Jda, Jdb, Jd9, Jc3, Jc8, Jd0, Jcz, Jc7, Jch, Jcy, Jcx, Jcb, Jbs, Jcw, Jcg, Jbk, Jcj, Jc5, Jbj, Jci, Jcf, Jd2, Jd1, Jd4, Jbp, Jcd, Jcm, Jc2, Jct, Jcc, Jbq, Jcp, Jcv, Jdf, Jdg, Jc9, Jcq, Jcr, Jc4, Jbr, Jc1, Jbx, Jca, gt, st, Jbc, Jba, Jbb, Jb8, Jbi, Ja5, atI0, atI1, atI2, atI3, atI4, ixN20, ixN21, List.map_cons, List.map_nil, List.cons_append, List.nil_append, List.append_nil, List.length_cons, List.length_nil, List.replicate_succ, List.replicate_zero, Nat.add_one_sub_one, Jd3, Jbt, Jby, Jbz, Jbw, Jaf, Jah, Jai, Jag, Jb7, Jaw, Jax, Jal, Jav, Jb4, Jau, Jat, Jan, Jam, Jb2, Jaj, Jak, Jb0, Jb1, Jaq, Jb3, Jar, Jas, Jao, Jap, Jb6, Jb5, Ja8, Ja9, Jad, Jac, Ja0, Jaa, Jab, Jbg, Jbh, Ja7, Jae, Jbd, Jbf, Jbe, Jb9, Ja2, Ja1, Ja4, Ja3, Jay, Jaz, decide_true, decide_false, Bool.not_true, Bool.not_false, Bool.false_eq_true, if_true, if_false, true_and]
      exact hK (N - (i + 1)) _ _ (by omega) ⟨rfl, i + 1, z, rfl, fun _ => b, rfl⟩
  · have e0 : i = N := by omega
    subst e0
    obtain ⟨e1, e2⟩ := fate_away F hne
    rw [show inW w h (it ss p i).1 (it ss p i).2 = true from e1]
    simp only [Jbv, initE, Jcs, Jce, Jbl, Jbm, Jc0, Jcn, Jco, Jc6, Jck, Jbn, Jcu, Jbo, Jbu, Jd6, Jd7, Jd5, Jd8, Jdd, Jda, Jdb, Jd9, Jc3, Jc8, Jd0, Jcz, Jc7, Jch, Jcy, Jcx, Jcb, Jbs, Jcw, Jcg, Jbk, Jcj, Jc5, Jbj, Jci, Jcf, Jd2, Jd1, Jd4, Jbp, Jcd, Jcm, Jc2, Jct, Jcc, Jbq, Jcp, Jcv, Jdf, Jdg, Jc9, Jcq, Jcr, Jc4, Jbr, Jc1, Jbx, Jca, gt, st, Jbc, Jba, Jbb, Jb8, Jbi, Ja5, atI0, atI1, atI2, atI3, atI4, ixN20, ixN21, List.map_cons, List.map_nil, List.cons_append, List.nil_append, List.append_nil, List.length_cons, List.length_nil, List.replicate_succ, List.replicate_zero, Nat.add_one_sub_one, Jd3, Jbt, Jby, Jbz, Jbw, Jaf, Jah, Jai, Jag, Jb7, Jaw, Jax, Jal, Jav, Jb4, Jau, Jat, Jan, Jam, Jb2, Jaj, Jak, Jb0, Jb1, Jaq, Jb3, Jar, Jas, Jao, Jap, Jb6, Jb5, Ja8, Ja9, Jad, Jac, Ja0, Jaa, Jab, Jbg, Jbh, Ja7, Jae, Jbd, Jbf, Jbe, Jb9, Ja2, Ja1, Ja4, Ja3, Jay, Jaz, decide_true, decide_false, Bool.not_true, Bool.not_false, Bool.false_eq_true, if_true, if_false, true_and]
    rw [e2] at k
    exact ⟨by rw [sizeLine_eq]; decide, k⟩
theorem ok_fate (c : F51 ss w h r) (hp : Fit p 40) (F : Fate ss w h p N) (k : Q (fD w h ss p N) μ) : wp_fate [progD ss, .int p.1, .int p.2] μ Q X := by
  unfold wp_fate
  simp only [Jbv, initE, Jcs, Jce, Jbl, Jbm, Jc0, Jcn, Jco, Jc6, Jck, Jbn, Jcu, Jbo, Jbu, Jd6, Jd7, Jd5, Jd8, Jdd, Jda, Jdb, Jd9, Jc3, Jc8, Jd0, Jcz, Jc7, Jch, Jcy, Jcx, Jcb, Jbs, Jcw, Jcg, Jbk, Jcj, Jc5, Jbj, Jci, Jcf, Jd2, Jd1, Jd4, Jbp, Jcd, Jcm, Jc2, Jct, Jcc, Jbq, Jcp, Jcv, Jdf, Jdg, Jc9, Jcq, Jcr, Jc4, Jbr, Jc1, Jbx, Jca, gt, st, Jbc, Jba, Jbb, Jb8, Jbi, Ja5, atI0, atI1, atI2, atI3, atI4, ixN20, ixN21, List.map_cons, List.map_nil, List.cons_append, List.nil_append, List.append_nil, List.length_cons, List.length_nil, List.replicate_succ, List.replicate_zero, Nat.add_one_sub_one, Jd3, Jbt, Jby, Jbz, Jbw, Jaf, Jah, Jai, Jag, Jb7, Jaw, Jax, Jal, Jav, Jb4, Jau, Jat, Jan, Jam, Jb2, Jaj, Jak, Jb0, Jb1, Jaq, Jb3, Jar, Jas, Jao, Jap, Jb6, Jb5, Ja8, Ja9, Jad, Jac, Ja0, Jaa, Jab, Jbg, Jbh, Ja7, Jae, Jbd, Jbf, Jbe, Jb9, Ja2, Ja1, Ja4, Ja3, Jay, Jaz, decide_true, decide_false, Bool.not_true, Bool.not_false, Bool.false_eq_true, if_true, if_false, true_and]
  intro a ha
  refine c.make ?_ a ha
  refine ok_is_number (t := .b "int") rfl ?_
  simp only [Jbv, initE, Jcs, Jce, Jbl, Jbm, Jc0, Jcn, Jco, Jc6, Jck, Jbn, Jcu, Jbo, Jbu, Jd6, Jd7, Jd5, Jd8, Jdd, Jda, Jdb, Jd9, Jc3, Jc8, Jd0, Jcz, Jc7, Jch, Jcy, Jcx, Jcb, Jbs, Jcw, Jcg, Jbk, Jcj, Jc5, Jbj, Jci, Jcf, Jd2, Jd1, Jd4, Jbp, Jcd, Jcm, Jc2, Jct, Jcc, Jbq, Jcp, Jcv, Jdf, Jdg, Jc9, Jcq, Jcr, Jc4, Jbr, Jc1, Jbx, Jca, gt, st, Jbc, Jba, Jbb, Jb8, Jbi, Ja5, atI0, atI1, atI2, atI3, atI4, ixN20, ixN21, List.map_cons, List.map_nil, List.cons_append, List.nil_append, List.append_nil, List.length_cons, List.length_nil, List.replicate_succ, List.replicate_zero, Nat.add_one_sub_one, Jd3, Jbt, Jby, Jbz, Jbw, Jaf, Jah, Jai, Jag, Jb7, Jaw, Jax, Jal, Jav, Jb4, Jau, Jat, Jan, Jam, Jb2, Jaj, Jak, Jb0, Jb1, Jaq, Jb3, Jar, Jas, Jao, Jap, Jb6, Jb5, Ja8, Ja9, Jad, Jac, Ja0, Jaa, Jab, Jbg, Jbh, Ja7, Jae, Jbd, Jbf, Jbe, Jb9, Ja2, Ja1, Ja4, Ja3, Jay, Jaz, decide_true, decide_false, Bool.not_true, Bool.not_false, Bool.false_eq_true, if_true, if_false, true_and, numD]
  refine ok_is_number (t := .b "int") rfl ?_
  simp only [Jbv, initE, Jcs, Jce, Jbl, Jbm, Jc0, Jcn, Jco, Jc6, Jck, Jbn, Jcu, Jbo, Jbu, Jd6, Jd7, Jd5, Jd8, Jdd, Jda, Jdb, Jd9, Jc3, Jc8, Jd0, Jcz, Jc7, Jch, Jcy, Jcx, Jcb, Jbs, Jcw, Jcg, Jbk, Jcj, Jc5, Jbj, Jci, Jcf, Jd2, Jd1, Jd4, Jbp, Jcd, Jcm, Jc2, Jct, Jcc, Jbq, Jcp, Jcv, Jdf, Jdg, Jc9, Jcq, Jcr, Jc4, Jbr, Jc1, Jbx, Jca, gt, st, Jbc, Jba, Jbb, Jb8, Jbi, Ja5, atI0, atI1, atI2, atI3, atI4, ixN20, ixN21, List.map_cons, List.map_nil, List.cons_append, List.nil_append, List.append_nil, List.length_cons, List.length_nil, List.replicate_succ, List.replicate_zero, Nat.add_one_sub_one, Jd3, Jbt, Jby, Jbz, Jbw, Jaf, Jah, Jai, Jag, Jb7, Jaw, Jax, Jal, Jav, Jb4, Jau, Jat, Jan, Jam, Jb2, Jaj, Jak, Jb0, Jb1, Jaq, Jb3, Jar, Jas, Jao, Jap, Jb6, Jb5, Ja8, Ja9, Jad, Jac, Ja0, Jaa, Jab, Jbg, Jbh, Ja7, Jae, Jbd, Jbf, Jbe, Jb9, Ja2, Ja1, Ja4, Ja3, Jay, Jaz, decide_true, decide_false, Bool.not_true, Bool.not_false, Bool.false_eq_true, if_true, if_false, true_and, numD]
  exact ⟨by rw [sizeLine_eq]; decide, ok_fate_by c hp F k⟩
theorem ok_law_fate (c : F51 ss w h r) (hp : Fit p 40) (F : Fate ss w h p N) (k : Q (fD w h ss p N) μ) : wp_law_fate [.list (ss.map Stp.b), .tup [.int w, .int h, .int r], pF p] μ Q X := by
  unfold wp_law_fate
  simp only [Jbv, initE, Jcs, Jce, Jbl, Jbm, Jc0, Jcn, Jco, Jc6, Jck, Jbn, Jcu, Jbo, Jbu, Jd6, Jd7, Jd5, Jd8, Jdd, Jda, Jdb, Jd9, Jc3, Jc8, Jd0, Jcz, Jc7, Jch, Jcy, Jcx, Jcb, Jbs, Jcw, Jcg, Jbk, Jcj, Jc5, Jbj, Jci, Jcf, Jd2, Jd1, Jd4, Jbp, Jcd, Jcm, Jc2, Jct, Jcc, Jbq, Jcp, Jcv, Jdf, Jdg, Jc9, Jcq, Jcr, Jc4, Jbr, Jc1, Jbx, Jca, gt, st, Jbc, Jba, Jbb, Jb8, Jbi, Ja5, atI0, atI1, atI2, atI3, atI4, ixN20, ixN21, List.map_cons, List.map_nil, List.cons_append, List.nil_append, List.append_nil, List.length_cons, List.length_nil, List.replicate_succ, List.replicate_zero, Nat.add_one_sub_one, Jd3, Jbt, Jby, Jbz, Jbw, Jaf, Jah, Jai, Jag, Jb7, Jaw, Jax, Jal, Jav, Jb4, Jau, Jat, Jan, Jam, Jb2, Jaj, Jak, Jb0, Jb1, Jaq, Jb3, Jar, Jas, Jao, Jap, Jb6, Jb5, Ja8, Ja9, Jad, Jac, Ja0, Jaa, Jab, Jbg, Jbh, Ja7, Jae, Jbd, Jbf, Jbe, Jb9, Ja2, Ja1, Ja4, Ja3, Jay, Jaz, decide_true, decide_false, Bool.not_true, Bool.not_false, Bool.false_eq_true, if_true, if_false, true_and, wWhile]
  refine ⟨N + 1, by have := F.n; omega, while_inv (fun n e μ' => μ' = μ ∧ ∃ i, i ≤ N ∧ n = N - i ∧ (0 < i → it ss p i ≠ p) ∧ e = [some (.list (ss.map Stp.b)), some (.tup [.int w, .int h, .int r]), some (pF p), some (pF (it ss p i)), some (.int (i : Int))]) ?_ _ _ _ _ (Nat.lt_succ_of_le (Nat.sub_le N 0)) ⟨rfl, 0, Nat.zero_le _, rfl, (fun z => absurd z (by decide)), rfl⟩⟩
  rintro n e μ' K ⟨rfl, i, hi, rfl, hne, rfl⟩ hK
  have ft := c.fits hp F hi
  simp only [Jbv, initE, Jcs, Jce, Jbl, Jbm, Jc0, Jcn, Jco, Jc6, Jck, Jbn, Jcu, Jbo, Jbu, Jd6, Jd7, Jd5, Jd8, Jdd, Jda, Jdb, Jd9, Jc3, Jc8, Jd0, Jcz, Jc7, Jch, Jcy, Jcx, Jcb, Jbs, Jcw, Jcg, Jbk, Jcj, Jc5, Jbj, Jci, Jcf, Jd2, Jd1, Jd4, Jbp, Jcd, Jcm, Jc2, Jct, Jcc, Jbq, Jcp, Jcv, Jdf, Jdg, Jc9, Jcq, Jcr, Jc4, Jbr, Jc1, Jbx, Jca, gt, st, Jbc, Jba, Jbb, Jb8, Jbi, Ja5, atI0, atI1, atI2, atI3, atI4, ixN20, ixN21, List.map_cons, List.map_nil, List.cons_append, List.nil_append, List.append_nil, List.length_cons, List.length_nil, List.replicate_succ, List.replicate_zero, Nat.add_one_sub_one, Jd3, Jbt, Jby, Jbz, Jbw, Jaf, Jah, Jai, Jag, Jb7, Jaw, Jax, Jal, Jav, Jb4, Jau, Jat, Jan, Jam, Jb2, Jaj, Jak, Jb0, Jb1, Jaq, Jb3, Jar, Jas, Jao, Jap, Jb6, Jb5, Ja8, Ja9, Jad, Jac, Ja0, Jaa, Jab, Jbg, Jbh, Ja7, Jae, Jbd, Jbf, Jbe, Jb9, Ja2, Ja1, Ja4, Ja3, Jay, Jaz, decide_true, decide_false, Bool.not_true, Bool.not_false, Bool.false_eq_true, if_true, if_false, true_and]
  refine ok_is_within9 c.wn (Nat.lt_of_lt_of_le ft.2 (Nat.pow_le_pow_right (by decide) (by decide))) ?_
  by_cases z : i < N
  · have q := F.u i z
    have sz := c.sizes hp i q.1
    rw [show inW w h (it ss p i).1 (it ss p i).2 = false from q.1]
    simp only [Jbv, initE, Jcs, Jce, Jbl, Jbm, Jc0, Jcn, Jco, Jc6, Jck, Jbn, Jcu, Jbo, Jbu, Jd6, Jd7, Jd5, Jd8, Jdd, Jda, Jdb, Jd9, Jc3, Jc8, Jd0, Jcz, Jc7, Jch, Jcy, Jcx, Jcb, Jbs, Jcw, Jcg, Jbk, Jcj, Jc5, Jbj, Jci, Jcf, Jd2, Jd1, Jd4, Jbp, Jcd, Jcm, Jc2, Jct, Jcc, Jbq, Jcp, Jcv, Jdf, Jdg, Jc9, Jcq, Jcr, Jc4, Jbr, Jc1, Jbx, Jca, gt, st, Jbc, Jba, Jbb, Jb8, Jbi, Ja5, atI0, atI1, atI2, atI3, atI4, ixN20, ixN21, List.map_cons, List.map_nil, List.cons_append, List.nil_append, List.append_nil, List.length_cons, List.length_nil, List.replicate_succ, List.replicate_zero, Nat.add_one_sub_one, Jd3, Jbt, Jby, Jbz, Jbw, Jaf, Jah, Jai, Jag, Jb7, Jaw, Jax, Jal, Jav, Jb4, Jau, Jat, Jan, Jam, Jb2, Jaj, Jak, Jb0, Jb1, Jaq, Jb3, Jar, Jas, Jao, Jap, Jb6, Jb5, Ja8, Ja9, Jad, Jac, Ja0, Jaa, Jab, Jbg, Jbh, Ja7, Jae, Jbd, Jbf, Jbe, Jb9, Ja2, Ja1, Ja4, Ja3, Jay, Jaz, decide_true, decide_false, Bool.not_true, Bool.not_false, Bool.false_eq_true, if_true, if_false, true_and]
    refine c.run sz ?_
    refine eq_pF (it ss p (i + 1)) p ?_
    by_cases b : it ss p (i + 1) = p
    · obtain ⟨e1, e2⟩ := fate_back F i z b
      rw [decide_eq_true b]
      simp only [Jbv, initE, Jcs, Jce, Jbl, Jbm, Jc0, Jcn, Jco, Jc6, Jck, Jbn, Jcu, Jbo, Jbu, Jd6, Jd7, Jd5, Jd8, Jdd, Jda, Jdb, Jd9, Jc3, Jc8, Jd0, Jcz, Jc7, Jch, Jcy, Jcx, Jcb, Jbs, Jcw, Jcg, Jbk, Jcj, Jc5, Jbj, Jci, Jcf, Jd2, Jd1, Jd4, Jbp, Jcd, Jcm, Jc2, Jct, Jcc, Jbq, Jcp, Jcv, Jdf, Jdg, Jc9, Jcq, Jcr, Jc4, Jbr, Jc1, Jbx, Jca, gt, st, Jbc, Jba, Jbb, Jb8, Jbi, Ja5, atI0, atI1, atI2, atI3, atI4, ixN20, ixN21, List.map_cons, List.map_nil, List.cons_append, List.nil_append, List.append_nil, List.length_cons, List.length_nil, List.replicate_succ, List.replicate_zero, Nat.add_one_sub_one, Jd3, Jbt, Jby, Jbz, Jbw, Jaf, Jah, Jai, Jag, Jb7, Jaw, Jax, Jal, Jav, Jb4, Jau, Jat, Jan, Jam, Jb2, Jaj, Jak, Jb0, Jb1, Jaq, Jb3, Jar, Jas, Jao, Jap, Jb6, Jb5, Ja8, Ja9, Jad, Jac, Ja0, Jaa, Jab, Jbg, Jbh, Ja7, Jae, Jbd, Jbf, Jbe, Jb9, Ja2, Ja1, Ja4, Ja3, Jay, Jaz, decide_true, decide_false, Bool.not_true, Bool.not_false, Bool.false_eq_true, if_true, if_false, true_and]
      rw [e2] at k
      exact ⟨by rw [sizeLine_eq]; decide, k⟩
    · rw [decide_eq_false b]
      simp only [Jbv, initE, Jcs, Jce, Jbl, Jbm, Jc0, Jcn, Jco, Jc6, Jck, Jbn, Jcu, Jbo, Jbu, Jd6, Jd7, Jd5, Jd8, Jdd, Jda, Jdb, Jd9, Jc3, Jc8, Jd0, Jcz, Jc7, Jch, Jcy, Jcx, Jcb, Jbs, Jcw, Jcg, Jbk, Jcj, Jc5, Jbj, Jci, Jcf, Jd2, Jd1, Jd4, Jbp, Jcd, Jcm, Jc2, Jct, Jcc, Jbq, Jcp, Jcv, Jdf, Jdg, Jc9, Jcq, Jcr, Jc4, Jbr, Jc1, Jbx, Jca, gt, st, Jbc, Jba, Jbb, Jb8, Jbi, Ja5, atI0, atI1, atI2, atI3, atI4, ixN20, ixN21, List.map_cons, List.map_nil, List.cons_append, List.nil_append, List.append_nil, List.length_cons, List.length_nil, List.replicate_succ, List.replicate_zero, Nat.add_one_sub_one, Jd3, Jbt, Jby, Jbz, Jbw, Jaf, Jah, Jai, Jag, Jb7, Jaw, Jax, Jal, Jav, Jb4, Jau, Jat, Jan, Jam, Jb2, Jaj, Jak, Jb0, Jb1, Jaq, Jb3, Jar, Jas, Jao, Jap, Jb6, Jb5, Ja8, Ja9, Jad, Jac, Ja0, Jaa, Jab, Jbg, Jbh, Ja7, Jae, Jbd, Jbf, Jbe, Jb9, Ja2, Ja1, Ja4, Ja3, Jay, Jaz, decide_true, decide_false, Bool.not_true, Bool.not_false, Bool.false_eq_true, if_true, if_false, true_and]
      exact hK (N - (i + 1)) _ _ (by omega) ⟨rfl, i + 1, z, rfl, fun _ => b, rfl⟩
  · have e0 : i = N := by omega
    subst e0
    obtain ⟨e1, e2⟩ := fate_away F hne
    rw [show inW w h (it ss p i).1 (it ss p i).2 = true from e1]
    simp only [Jbv, initE, Jcs, Jce, Jbl, Jbm, Jc0, Jcn, Jco, Jc6, Jck, Jbn, Jcu, Jbo, Jbu, Jd6, Jd7, Jd5, Jd8, Jdd, Jda, Jdb, Jd9, Jc3, Jc8, Jd0, Jcz, Jc7, Jch, Jcy, Jcx, Jcb, Jbs, Jcw, Jcg, Jbk, Jcj, Jc5, Jbj, Jci, Jcf, Jd2, Jd1, Jd4, Jbp, Jcd, Jcm, Jc2, Jct, Jcc, Jbq, Jcp, Jcv, Jdf, Jdg, Jc9, Jcq, Jcr, Jc4, Jbr, Jc1, Jbx, Jca, gt, st, Jbc, Jba, Jbb, Jb8, Jbi, Ja5, atI0, atI1, atI2, atI3, atI4, ixN20, ixN21, List.map_cons, List.map_nil, List.cons_append, List.nil_append, List.append_nil, List.length_cons, List.length_nil, List.replicate_succ, List.replicate_zero, Nat.add_one_sub_one, Jd3, Jbt, Jby, Jbz, Jbw, Jaf, Jah, Jai, Jag, Jb7, Jaw, Jax, Jal, Jav, Jb4, Jau, Jat, Jan, Jam, Jb2, Jaj, Jak, Jb0, Jb1, Jaq, Jb3, Jar, Jas, Jao, Jap, Jb6, Jb5, Ja8, Ja9, Jad, Jac, Ja0, Jaa, Jab, Jbg, Jbh, Ja7, Jae, Jbd, Jbf, Jbe, Jb9, Ja2, Ja1, Ja4, Ja3, Jay, Jaz, decide_true, decide_false, Bool.not_true, Bool.not_false, Bool.false_eq_true, if_true, if_false, true_and]
    rw [e2] at k
    exact ⟨by rw [sizeLine_eq]; decide, k⟩
end
end DL

set_option Elab.async false
set_option linter.all false
set_option maxRecDepth 100000
set_option maxHeartbeats 4000000
/-! K51: the law k51, plainly. -/
namespace DL
open PySem L2
def wp_law_small_core : WP := (wDef 1 4 (wSeq (wAsg 1 (wLst false waNil))
    (wSeq (wFor (wiRng1 (waCons (wCall wp_law_pick [] (waCons (wV 0) (waCons (wLst false (waCons (wK (.int 1)) (waCons (wK (.int 1)) (waCons (wK (.int 1)) (waCons (wK (.int 2)) waNil))))) waNil))) waNil)) (wgN 2) (wAsg 1 (wOp false oAdd (wV 1) (wLst false (waCons (wCall wp_law_curl [] (waCons (wV 0) (waCons (wK (.int 3)) (waCons (wK (.int 2)) waNil)))) (waCons (wTup (waCons (wK (.str "turn")) (waCons (wK (.int 0)) (waCons (wUn false oNeg (wK (.int 1))) (waCons (wK (.int 1)) (waCons (wCall wp_law_pick [] (waCons (wV 0) (waCons (wLst false (waCons (wK (.int 0)) (waCons (wK (.int 0)) (waCons (wK (.int 1)) (waCons (wUn false oNeg (wK (.int 1))) waNil))))) waNil))) waNil)))))) waNil))))))
    (wSeq (wAsg 3 (wCall wp_law_pick [] (waCons (wV 0) (waCons (wLst false (waCons (wTup (waCons (wK (.str "move")) (waCons (wK (.int 0)) (waCons (wK (.int 0)) waNil)))) (waCons (wTup (waCons (wK (.str "move")) (waCons (wK (.int 0)) (waCons (wK (.int 0)) waNil)))) (waCons (wTup (waCons (wK (.str "move")) (waCons (wK (.int 0)) (waCons (wK (.int 1)) waNil)))) (waCons (wTup (waCons (wK (.str "move")) (waCons (wUn false oNeg (wK (.int 1))) (waCons (wK (.int 0)) waNil)))) waNil))))) waNil))))
    (wRet (wOp false oAdd (wV 1) (wLst false (waCons (wTup (waCons (wK (.str "turn")) (waCons (wCall wp_law_pick [] (waCons (wV 0) (waCons (wLst false (waCons (wK (.int 1)) (waCons (wK (.int 1)) (waCons (wUn false oNeg (wK (.int 1))) waNil)))) waNil))) (waCons (wK (.int 0)) (waCons (wK (.int 0)) (waCons (wCall wp_law_pick [] (waCons (wV 0) (waCons (wLst false (waCons (wK (.int 1)) (waCons (wK (.int 1)) (waCons (wUn false oNeg (wK (.int 1))) waNil)))) waNil))) waNil)))))) (waCons (wV 3) waNil)))))))))
def wp_law_places_0 : WS := (wPar 2 3 (waCons (wOp false oIx (wV 1) (wK (.int 0))) (waCons (wOp false oIx (wV 1) (wK (.int 1))) waNil)))
def wp_law_places_1 : WS := (wAsg 4 (wLst true (waCons (wTup (waCons (wOp false oMul (wV 2) (wV 3)) (waCons (wV 3) waNil))) (waCons (wTup (waCons (wOp false oAdd (wOp false oMul (wV 2) (wV 3)) (wK (.int 1))) (waCons (wV 3) waNil))) (waCons (wTup (waCons (wK (.int 0)) (waCons (wOp false oSub (wK (.int 1)) (wV 3)) waNil))) waNil)))))
def wp_law_places_2 : WS := (wFor (wiSeq (wTup (waCons (wUn false oNeg (wK (.int 1))) (waCons (wK (.int 0)) (waCons (wK (.int 1)) waNil))))) (wgN 5) (wAsg 4 (wOp true oAdd (wV 4) (wLc false (wiSeq (wTup (waCons (wUn false oNeg (wK (.int 1))) (waCons (wK (.int 0)) (waCons (wK (.int 1)) waNil))))) (wgN 7) wYes (wTup (waCons (wV 5) (waCons (wV 7) waNil))) [7]))))
def wp_law_places_3 : WS := (wFor (wiRng1 (waCons (wK (.int 4)) waNil)) (wgN 6) (wDrop (wLm false mApp (wV 4) (waCons (wTup (waCons (wCall wp_law_number [] (waCons (wV 0) (waCons (wK (.int 30)) waNil))) (waCons (wCall wp_law_number [] (waCons (wV 0) (waCons (wK (.int 30)) waNil))) waNil))) waNil))))
def wp_law_places_4 : WS := (wDrop (wLm false mApp (wV 4) (waCons (wTup (waCons (wCall wp_law_number [] (waCons (wV 0) (waCons (wOp false oPow (wK (.int 10)) (wK (.int 12))) waNil))) (waCons (wCall wp_law_number [] (waCons (wV 0) (waCons (wOp false oPow (wK (.int 10)) (wK (.int 12))) waNil))) waNil))) waNil)))
def wp_law_places_5 : WS := (wFz 4 (wRet (wOp false oAdd (wV 4) (wLst false (waCons (wTup (waCons (wOp false oPow (wK (.int 10)) (wK (.int 12))) (waCons (wK (.int 0)) waNil))) (waCons (wTup (waCons (wK (.int 0)) (waCons (wOp false oSub (wK (.int 0)) (wOp false oPow (wK (.int 10)) (wK (.int 12)))) waNil))) waNil))))))
def wp_law_places : WP := wDef 2 8 (wSeq wp_law_places_0 (wSeq wp_law_places_1 (wSeq wp_law_places_2 (wSeq wp_law_places_3 (wSeq wp_law_places_4 wp_law_places_5)))))
def ws_0_0 : WS := (wAsg 3 (wCall wp_law_pick [] (waCons (wV 1) (waCons (wLst false (waCons (wCall wp_law_core [] (waCons (wV 1) (waCons (wK (.int 2)) (waCons (wK (.int 3)) (waCons (wK (.int 2)) waNil))))) (waCons (wCall wp_law_small_core [] (waCons (wV 1) waNil)) waNil))) waNil))))
def ws_0_1 : WS := (wPar 4 5 (waCons (wCall wp_law_program_of [] (waCons (wV 3) waNil)) (waCons (wCall wp_law_sizes [] (waCons (wV 3) waNil)) waNil)))
def ws_0_2 : WS := (wAsg 6 (wMake false "Wedge" wp_Wedge___init__ [] (waCons (wV 4) waNil)))
def ws_0_3 : WS := (wFor (wiSeq (wCall wp_law_places [] (waCons (wV 1) (waCons (wV 5) waNil)))) (wgN 7) (wSeq (wAsg 8 (wCall wp_law_fate [] (waCons (wV 3) (waCons (wV 5) (waCons (wV 7) waNil)))))
    (wSeq (wAsg 9 (wLst false (waCons (wCall wp_fate [] (waCons (wV 4) (waCons (wOp false oIx (wV 7) (wK (.int 0))) (waCons (wOp false oIx (wV 7) (wK (.int 1))) waNil)))) (waCons (wCall wp_fate [] (waCons (wCall wp_law_program_of [] (waCons (wV 3) waNil)) (waCons (wOp false oIx (wV 7) (wK (.int 0))) (waCons (wOp false oIx (wV 7) (wK (.int 1))) waNil)))) waNil))))
    (wSeq (wIfS (wTst (wOp false oNe (wCb false cbReprB (waCons (wV 9) waNil)) (wCb false cbReprB (waCons (wLst false (waCons (wV 8) (waCons (wV 8) waNil))) waNil)))) (wRet (wK (.bool false))) wNext)
    (wIfS (wTst (wOp false oEq (wV 8) (wTup (waCons (wK (.str "away")) (waCons (wK (.int 0)) waNil))))) (wSeq (wAsg 10 (wCallI "Program" wp_Program___call__ (wV 4) (waCons (wOp false oIx (wV 7) (wK (.int 0))) (waCons (wOp false oIx (wV 7) (wK (.int 1))) waNil))))
    (wSeq (wIfS (wOrT (wTst (wOp false oNe (wV 10) (wCall wp_law_run [] (waCons (wV 3) (waCons (wOp false oIx (wV 7) (wK (.int 0))) (waCons (wOp false oIx (wV 7) (wK (.int 1))) waNil)))))) (wTst (wOp false (oNotInO "Wedge" wp_Wedge___contains__) (wV 10) (wV 6)))) (wRet (wK (.bool false))) wNext)
    (wIfS (wTst (wOp false oLt (wCb false cbAbs (waCons (wOp false oIx (wV 10) (wK (.int 1))) waNil)) (wOp false oMul (wK (.int 2)) (wCb false cbAbs (waCons (wOp false oIx (wV 7) (wK (.int 1))) waNil))))) (wRet (wK (.bool false))) wNext))) wNext)))))
def wb_0 : WS := (wSeq ws_0_0 (wSeq ws_0_1 (wSeq ws_0_2 ws_0_3)))
def ws_0 : WS := wFor (wiRng1 (waCons (wOp false oAdd (wK (.int 3)) (wCb false cbMin2 (waCons (wCb false cbLen (waCons (wV 0) waNil)) (waCons (wK (.int 9)) waNil)))) waNil)) (wgN 2) wb_0
def ws_1 : WS := (wRet (wK (.bool true)))
def wr_law : WS := (wSeq ws_0 ws_1)
section
variable {μ : Mu} {Q X : QD} {QQ : QR} {E : WEnds} {ss : List Stp} {w h r : Int} {p : Int × Int} {N : Nat}
/-! ### draws -/
theorem f51_of (h1 : CoreP ss) (h2 : ss.length ≤ 6) (h3 : ∀ s ∈ ss, s.Ok 34 ∧ s.len ≤ 4) : ∃ w h r, F51 ss w h r := by
  obtain ⟨w, h, r, hd⟩ := wd5 h1 fun s hs => (h3 s hs).1.up (by decide)
  exact ⟨w, h, r, h1, h2, fun s hs => (h3 s hs).1, fun s hs => (h3 s hs).2, hd⟩
theorem core51 (k : ∀ ss, (∃ w h r, F51 ss w h r) → Q (.list (ss.map Stp.b)) μ) : wp_law_core [.state, .int 2, .int 3, .int 2] μ Q X :=
  ok_law_core (B := 34) (by decide) (by decide) (by decide) (by decide) (by decide) (by decide) (by decide) fun ss h1 h2 h3 => k ss (f51_of h1 (by omega) fun s hs => ⟨(h3 s hs).1, by have := (h3 s hs).2; omega⟩)
theorem ones {x : D} (hx : x ∈ [D.int 1, D.int 1, D.int (-1)]) : ∃ a : Int, x = .int a ∧ (a = 1 ∨ a = -1) := by
  simp only [List.mem_cons, List.not_mem_nil, or_false] at hx
  rcases hx with rfl | rfl | rfl
  · exact ⟨1, rfl, .inl rfl⟩
  · exact ⟨1, rfl, .inl rfl⟩
  · exact ⟨-1, rfl, .inr rfl⟩
theorem ok_small_core (k : ∀ ss, (∃ w h r, F51 ss w h r) → Q (.list (ss.map Stp.b)) μ) : wp_law_small_core [.state] μ Q X := by
  unfold wp_law_small_core
  simp only [Jbv, initE, Jcs, Jce, Jbl, Jbm, Jc0, Jcn, Jco, Jc6, Jck, Jbn, Jcu, Jbo, Jbu, Jd6, Jd7, Jd5, Jd8, Jdd, Jda, Jdb, Jd9, Jc3, Jc8, Jd0, Jcz, Jc7, Jch, Jcy, Jcx, Jcb, Jbs, Jcw, Jcg, Jbk, Jcj, Jc5, Jbj, Jci, Jcf, Jd2, Jd1, Jd4, Jbp, Jcd, Jcm, Jc2, Jct, Jcc, Jbq, Jcp, Jcv, Jdf, Jdg, Jc9, Jcq, Jcr, Jc4, Jbr, Jc1, Jbx, Jca, gt, st, Jbc, Jba, Jbb, Jb8, Jbi, Ja5, atI0, atI1, atI2, atI3, atI4, ixN20, ixN21, List.map_cons, List.map_nil, List.cons_append, List.nil_append, List.append_nil, List.length_cons, List.length_nil, List.replicate_succ, List.replicate_zero, Nat.add_one_sub_one, Jd3, Jbt, Jby, Jbz, Jbw, Jaf, Jah, Jai, Jag, Jb7, Jaw, Jax, Jal, Jav, Jb4, Jau, Jat, Jan, Jam, Jb2, Jaj, Jak, Jb0, Jb1, Jaq, Jb3, Jar, Jas, Jao, Jap, Jb6, Jb5, Ja8, Ja9, Jad, Jac, Ja0, Jaa, Jab, Jbg, Jbh, Ja7, Jae, Jbd, Jbf, Jbe, Jb9, Ja2, Ja1, Ja4, Ja3, Jay, Jaz, decide_true, decide_false, Bool.not_true, Bool.not_false, Bool.false_eq_true, if_true, if_false, true_and]
  refine ⟨by decide, by decide, ok_pick rfl (by simp) (by simp) fun z hz => ?_⟩
  obtain ⟨n, rfl, n1, n2⟩ : ∃ n : Int, z = .int n ∧ 1 ≤ n ∧ n ≤ 2 := by
    simp only [List.mem_cons, List.not_mem_nil, or_false] at hz
    rcases hz with rfl | rfl | rfl | rfl <;> exact ⟨_, rfl, by decide, by decide⟩
  refine ⟨⟨by omega, by omega⟩, by rw [rangeD_len]; omega, for_inv (fun i e μ' => μ' = μ ∧ ∃ (ps : List Stp) (x5 : Option D), e = [some .state, some (.list (ps.map Stp.b)), x5, none] ∧ CoP 34 4 ps ∧ ps.length = 2 * i) ⟨rfl, [], _, rfl, ⟨(fun _ z => nomatch z), (fun _ z => nomatch z), (fun i s t z => absurd z (Nat.not_lt_zero _)), (fun s z => by cases z), rfl, (fun s z => by cases z)⟩, rfl⟩ ?_ ?_⟩
  · rintro i x e μ' N hx ⟨rfl, ps, x5, rfl, hP, hl⟩ hN
    have hi : (i : Int) < n := by
      have := (List.getElem?_eq_some_iff.mp hx).1
      rw [rangeD_len] at this
      omega
    refine ⟨trivial, ?_⟩
    simp only [Jbv, initE, Jcs, Jce, Jbl, Jbm, Jc0, Jcn, Jco, Jc6, Jck, Jbn, Jcu, Jbo, Jbu, Jd6, Jd7, Jd5, Jd8, Jdd, Jda, Jdb, Jd9, Jc3, Jc8, Jd0, Jcz, Jc7, Jch, Jcy, Jcx, Jcb, Jbs, Jcw, Jcg, Jbk, Jcj, Jc5, Jbj, Jci, Jcf, Jd2, Jd1, Jd4, Jbp, Jcd, Jcm, Jc2, Jct, Jcc, Jbq, Jcp, Jcv, Jdf, Jdg, Jc9, Jcq, Jcr, Jc4, Jbr, Jc1, Jbx, Jca, gt, st, Jbc, Jba, Jbb, Jb8, Jbi, Ja5, atI0, atI1, atI2, atI3, atI4, ixN20, ixN21, List.map_cons, List.map_nil, List.cons_append, List.nil_append, List.append_nil, List.length_cons, List.length_nil, List.replicate_succ, List.replicate_zero, Nat.add_one_sub_one, Jd3, Jbt, Jby, Jbz, Jbw, Jaf, Jah, Jai, Jag, Jb7, Jaw, Jax, Jal, Jav, Jb4, Jau, Jat, Jan, Jam, Jb2, Jaj, Jak, Jb0, Jb1, Jaq, Jb3, Jar, Jas, Jao, Jap, Jb6, Jb5, Ja8, Ja9, Jad, Jac, Ja0, Jaa, Jab, Jbg, Jbh, Ja7, Jae, Jbd, Jbf, Jbe, Jb9, Ja2, Ja1, Ja4, Ja3, Jay, Jaz, decide_true, decide_false, Bool.not_true, Bool.not_false, Bool.false_eq_true, if_true, if_false, true_and]
    refine ok_law_curl (B := 34) (by decide) (by decide) (by decide) (by decide) (by decide) fun ns m1 m2 m3 => ⟨by decide, ok_pick rfl (by simp) (by simp) fun z hz => ?_⟩
    obtain ⟨d, rfl, d1⟩ : ∃ d : Int, z = .int d ∧ d.natAbs ≤ 1 := by
      simp only [List.mem_cons, List.not_mem_nil, or_false] at hz
      rcases hz with rfl | rfl | rfl | rfl <;> exact ⟨_, rfl, by decide⟩
    refine ⟨by decide, by decide, by rw [List.length_map, sizeLine_eq]; simp; omega, ?_⟩
    have qq : quarB (.turn 0 (-1) 1 d) = true := by simp [quarB]
    refine hN _ _ ⟨rfl, ps ++ [.x ns, .turn 0 (-1) 1 d], _, by rw [List.map_append]; rfl, hP.two m1 m2 (by omega) qq ⟨.inl (by simp [det1]), by decide, by decide, by decide, by omega⟩, by simp; omega⟩
  · rintro e μ' ⟨rfl, ps, x5, rfl, hP, hl⟩
    rw [rangeD_len] at hl
    refine ⟨trivial, ?_⟩
    simp only [Jbv, initE, Jcs, Jce, Jbl, Jbm, Jc0, Jcn, Jco, Jc6, Jck, Jbn, Jcu, Jbo, Jbu, Jd6, Jd7, Jd5, Jd8, Jdd, Jda, Jdb, Jd9, Jc3, Jc8, Jd0, Jcz, Jc7, Jch, Jcy, Jcx, Jcb, Jbs, Jcw, Jcg, Jbk, Jcj, Jc5, Jbj, Jci, Jcf, Jd2, Jd1, Jd4, Jbp, Jcd, Jcm, Jc2, Jct, Jcc, Jbq, Jcp, Jcv, Jdf, Jdg, Jc9, Jcq, Jcr, Jc4, Jbr, Jc1, Jbx, Jca, gt, st, Jbc, Jba, Jbb, Jb8, Jbi, Ja5, atI0, atI1, atI2, atI3, atI4, ixN20, ixN21, List.map_cons, List.map_nil, List.cons_append, List.nil_append, List.append_nil, List.length_cons, List.length_nil, List.replicate_succ, List.replicate_zero, Nat.add_one_sub_one, Jd3, Jbt, Jby, Jbz, Jbw, Jaf, Jah, Jai, Jag, Jb7, Jaw, Jax, Jal, Jav, Jb4, Jau, Jat, Jan, Jam, Jb2, Jaj, Jak, Jb0, Jb1, Jaq, Jb3, Jar, Jas, Jao, Jap, Jb6, Jb5, Ja8, Ja9, Jad, Jac, Ja0, Jaa, Jab, Jbg, Jbh, Ja7, Jae, Jbd, Jbf, Jbe, Jb9, Ja2, Ja1, Ja4, Ja3, Jay, Jaz, decide_true, decide_false, Bool.not_true, Bool.not_false, Bool.false_eq_true, if_true, if_false, true_and]
    refine ⟨by decide, by decide, by decide, by decide, by decide, ok_pick rfl (by simp) (by simp) fun z hz => ?_⟩
    obtain ⟨m1, m2, rfl, b1, b2⟩ : ∃ m1 m2 : Int, z = (Stp.move m1 m2).b ∧ m1.natAbs ≤ 1 ∧ m2.natAbs ≤ 1 := by
      simp only [List.mem_cons, List.not_mem_nil, or_false] at hz
      rcases hz with rfl | rfl | rfl | rfl
      · exact ⟨0, 0, rfl, by decide, by decide⟩
      · exact ⟨0, 0, rfl, by decide, by decide⟩
      · exact ⟨0, 1, rfl, by decide, by decide⟩
      · exact ⟨-1, 0, rfl, by decide, by decide⟩
    refine ⟨by decide, ok_pick rfl (by simp) (by simp) fun x hx => ?_⟩
    obtain ⟨a, rfl, ha⟩ := ones hx
    refine ⟨by decide, ok_pick rfl (by simp) (by simp) fun x hx => ?_⟩
    obtain ⟨d, rfl, hd⟩ := ones hx
    refine ⟨by decide, by decide, by rw [List.length_map, sizeLine_eq]; simp; omega, ?_⟩
    have hlen : 2 ≤ ps.length := by omega
    have to : (Stp.turn a 0 0 d).Ok 34 := ⟨by rcases ha with rfl | rfl <;> rcases hd with rfl | rfl <;> simp [det1], by omega, by decide, by decide, by omega⟩
    have := k (ps ++ [.turn a 0 0 d, .move m1 m2]) (f51_of ⟨plain_app.mpr ⟨rfl, hP.part, hP.alt⟩, by simp; omega, by have := hP.even; simp; omega, ?_⟩ (by simp; omega) fun s hs => ?_)
    · simpa [Stp.b] using this
    · obtain ⟨s, hs⟩ : ∃ s, ps[0]? = some s := ⟨_, List.getElem?_eq_getElem (by omega)⟩
      exact ⟨s, by rw [List.getElem?_append_left (by omega)]; exact hs, hP.head s hs⟩
    · rcases List.mem_append.mp hs with z | z
      · exact hP.ok s z
      · simp only [List.mem_cons, List.not_mem_nil, or_false] at z
        rcases z with rfl | rfl
        · exact ⟨to, Nat.zero_le _⟩
        · exact ⟨⟨by omega, by omega⟩, Nat.zero_le _⟩
/-! ### places -/
theorem pow12 : (10 : Int) ^ (12 : Int).toNat = 1000000000000 := by decide +kernel
theorem add_cell {a : Addr} {l m : List D} (ha : μ a = some (.list l)) (hl : l.length + m.length ≤ sizeLine) (k : QQ (.n (.list (l ++ m))) μ) : oAdd (.cell a) (.list m) μ QQ X := by
  have e : oAdd (.cell a) (.list m) μ QQ X = (l.length + m.length ≤ sizeLine ∧ QQ (.n (.list (l ++ m))) μ) := by
    simp [oAdd, seqL, ha, ndL]
  rw [e]
  exact ⟨hl, k⟩
theorem ok_places (w0 : 0 ≤ w) (w1 : w ≤ 4001) (h0 : 0 ≤ h) (h1 : h ≤ 20000) (k : ∀ ps : List (Int × Int), ps.length ≤ 40 → (∀ p ∈ ps, Fit p 40) → ∀ μ', Q (.list (ps.map pF)) μ') : wp_law_places [.state, .tup [.int w, .int h, .int r]] μ Q X := by
  unfold wp_law_places
  simp only [Jbv, Jcs]
  unfold wp_law_places_0 wp_law_places_1
  simp only [Jbv, initE, Jcs, Jce, Jbl, Jbm, Jc0, Jcn, Jco, Jc6, Jck, Jbn, Jcu, Jbo, Jbu, Jd6, Jd7, Jd5, Jd8, Jdd, Jda, Jdb, Jd9, Jc3, Jc8, Jd0, Jcz, Jc7, Jch, Jcy, Jcx, Jcb, Jbs, Jcw, Jcg, Jbk, Jcj, Jc5, Jbj, Jci, Jcf, Jd2, Jd1, Jd4, Jbp, Jcd, Jcm, Jc2, Jct, Jcc, Jbq, Jcp, Jcv, Jdf, Jdg, Jc9, Jcq, Jcr, Jc4, Jbr, Jc1, Jbx, Jca, gt, st, Jbc, Jba, Jbb, Jb8, Jbi, Ja5, atI0, atI1, atI2, atI3, atI4, ixN20, ixN21, List.map_cons, List.map_nil, List.cons_append, List.nil_append, List.append_nil, List.length_cons, List.length_nil, List.replicate_succ, List.replicate_zero, Nat.add_one_sub_one, Jd3, Jbt, Jby, Jbz, Jbw, Jaf, Jah, Jai, Jag, Jb7, Jaw, Jax, Jal, Jav, Jb4, Jau, Jat, Jan, Jam, Jb2, Jaj, Jak, Jb0, Jb1, Jaq, Jb3, Jar, Jas, Jao, Jap, Jb6, Jb5, Ja8, Ja9, Jad, Jac, Ja0, Jaa, Jab, Jbg, Jbh, Ja7, Jae, Jbd, Jbf, Jbe, Jb9, Ja2, Ja1, Ja4, Ja3, Jay, Jaz, decide_true, decide_false, Bool.not_true, Bool.not_false, Bool.false_eq_true, if_true, if_false, true_and]
  have c1 : CMulU w h := small (by omega) (by omega)
  refine ⟨c1, by decide, c1, by decide, by decide, by decide, fun a ha => ?_⟩
  have wh : w * h ≤ 4001 * 20000 := Int.mul_le_mul w1 h1 h0 (by decide)
  have wh0 : 0 ≤ w * h := Int.mul_nonneg w0 h0
  have F : ∀ {x y : Int}, x.natAbs ≤ 1000000000000 → y.natAbs ≤ 1000000000000 → Fit (x, y) 40 := fun {x y} hx hy => ⟨Nat.lt_of_le_of_lt hx (by decide), Nat.lt_of_le_of_lt hy (by decide)⟩
  have ps0 : ∃ ps : List (Int × Int), [D.tup [D.int (w * h), D.int h], D.tup [D.int (w * h + 1), D.int h], D.tup [D.int 0, D.int (1 - h)]] = ps.map pF ∧ ps.length ≤ 3 ∧ ∀ p ∈ ps, Fit p 40 := by
    refine ⟨[(w * h, h), (w * h + 1, h), (0, 1 - h)], rfl, Nat.le_refl 3, fun p hp => ?_⟩
    simp only [List.mem_cons, List.not_mem_nil, or_false] at hp
    rcases hp with rfl | rfl | rfl
    · exact F (by omega) (by omega)
    · exact F (by omega) (by omega)
    · exact F (by omega) (by omega)
  obtain ⟨ps0, e0, l0, f0⟩ := ps0
  rw [e0]
  unfold wp_law_places_2
  simp only [Jbv, initE, Jcs, Jce, Jbl, Jbm, Jc0, Jcn, Jco, Jc6, Jck, Jbn, Jcu, Jbo, Jbu, Jd6, Jd7, Jd5, Jd8, Jdd, Jda, Jdb, Jd9, Jc3, Jc8, Jd0, Jcz, Jc7, Jch, Jcy, Jcx, Jcb, Jbs, Jcw, Jcg, Jbk, Jcj, Jc5, Jbj, Jci, Jcf, Jd2, Jd1, Jd4, Jbp, Jcd, Jcm, Jc2, Jct, Jcc, Jbq, Jcp, Jcv, Jdf, Jdg, Jc9, Jcq, Jcr, Jc4, Jbr, Jc1, Jbx, Jca, gt, st, Jbc, Jba, Jbb, Jb8, Jbi, Ja5, atI0, atI1, atI2, atI3, atI4, ixN20, ixN21, List.map_cons, List.map_nil, List.cons_append, List.nil_append, List.append_nil, List.length_cons, List.length_nil, List.replicate_succ, List.replicate_zero, Nat.add_one_sub_one, Jd3, Jbt, Jby, Jbz, Jbw, Jaf, Jah, Jai, Jag, Jb7, Jaw, Jax, Jal, Jav, Jb4, Jau, Jat, Jan, Jam, Jb2, Jaj, Jak, Jb0, Jb1, Jaq, Jb3, Jar, Jas, Jao, Jap, Jb6, Jb5, Ja8, Ja9, Jad, Jac, Ja0, Jaa, Jab, Jbg, Jbh, Ja7, Jae, Jbd, Jbf, Jbe, Jb9, Ja2, Ja1, Ja4, Ja3, Jay, Jaz, decide_true, decide_false, Bool.not_true, Bool.not_false, Bool.false_eq_true, if_true, if_false, true_and]
  have one : ∀ {z : D}, z ∈ [D.int (-1), D.int 0, D.int 1] → ∃ n : Int, z = .int n ∧ n.natAbs ≤ 1 := fun {z} hz => by
    simp only [List.mem_cons, List.not_mem_nil, or_false] at hz
    rcases hz with rfl | rfl | rfl <;> exact ⟨_, rfl, by decide⟩
  refine ⟨by decide, by decide, for_inv (fun i e μ' => ∃ a x5 x7 ps, e = [some .state, some (.tup [.int w, .int h, .int r]), some (.int w), some (.int h), some (.cell a), x5, none, x7] ∧ μ' a = some (.list (ps.map pF)) ∧ ps.length ≤ 3 + 3 * i ∧ ∀ p ∈ ps, Fit p 40) ⟨a, _, _, ps0, rfl, up_same, l0, f0⟩ ?_ ?_⟩
  · rintro i x e μ' N hx ⟨a, x5, x7, ps, rfl, ha, hl, hf⟩ hN
    obtain ⟨n, rfl, n1⟩ := one (List.mem_of_getElem? hx)
    have hi : i < 3 := (List.getElem?_eq_some_iff.mp hx).1
    refine ⟨trivial, ?_⟩
    simp only [Jbv, initE, Jcs, Jce, Jbl, Jbm, Jc0, Jcn, Jco, Jc6, Jck, Jbn, Jcu, Jbo, Jbu, Jd6, Jd7, Jd5, Jd8, Jdd, Jda, Jdb, Jd9, Jc3, Jc8, Jd0, Jcz, Jc7, Jch, Jcy, Jcx, Jcb, Jbs, Jcw, Jcg, Jbk, Jcj, Jc5, Jbj, Jci, Jcf, Jd2, Jd1, Jd4, Jbp, Jcd, Jcm, Jc2, Jct, Jcc, Jbq, Jcp, Jcv, Jdf, Jdg, Jc9, Jcq, Jcr, Jc4, Jbr, Jc1, Jbx, Jca, gt, st, Jbc, Jba, Jbb, Jb8, Jbi, Ja5, atI0, atI1, atI2, atI3, atI4, ixN20, ixN21, List.map_cons, List.map_nil, List.cons_append, List.nil_append, List.append_nil, List.length_cons, List.length_nil, List.replicate_succ, List.replicate_zero, Nat.add_one_sub_one, Jd3, Jbt, Jby, Jbz, Jbw, Jaf, Jah, Jai, Jag, Jb7, Jaw, Jax, Jal, Jav, Jb4, Jau, Jat, Jan, Jam, Jb2, Jaj, Jak, Jb0, Jb1, Jaq, Jb3, Jar, Jas, Jao, Jap, Jb6, Jb5, Ja8, Ja9, Jad, Jac, Ja0, Jaa, Jab, Jbg, Jbh, Ja7, Jae, Jbd, Jbf, Jbe, Jb9, Ja2, Ja1, Ja4, Ja3, Jay, Jaz, decide_true, decide_false, Bool.not_true, Bool.not_false, Bool.false_eq_true, if_true, if_false, true_and]
    refine ⟨by decide, by decide, lc_inv (fun j acc μ2 => μ2 = μ' ∧ ∃ qs : List (Int × Int), acc = qs.map pF ∧ qs.length = j ∧ ∀ p ∈ qs, Fit p 40) ⟨rfl, [], rfl, rfl, fun _ z => nomatch z⟩ ?_ ?_⟩
    · rintro j y acc μ2 N2 hy ⟨rfl, qs, rfl, ql, qf⟩ hN2
      obtain ⟨m, rfl, m1⟩ := one (List.mem_of_getElem? hy)
      refine ⟨trivial, ?_⟩
      simp only [Jbv, initE, Jcs, Jce, Jbl, Jbm, Jc0, Jcn, Jco, Jc6, Jck, Jbn, Jcu, Jbo, Jbu, Jd6, Jd7, Jd5, Jd8, Jdd, Jda, Jdb, Jd9, Jc3, Jc8, Jd0, Jcz, Jc7, Jch, Jcy, Jcx, Jcb, Jbs, Jcw, Jcg, Jbk, Jcj, Jc5, Jbj, Jci, Jcf, Jd2, Jd1, Jd4, Jbp, Jcd, Jcm, Jc2, Jct, Jcc, Jbq, Jcp, Jcv, Jdf, Jdg, Jc9, Jcq, Jcr, Jc4, Jbr, Jc1, Jbx, Jca, gt, st, Jbc, Jba, Jbb, Jb8, Jbi, Ja5, atI0, atI1, atI2, atI3, atI4, ixN20, ixN21, List.map_cons, List.map_nil, List.cons_append, List.nil_append, List.append_nil, List.length_cons, List.length_nil, List.replicate_succ, List.replicate_zero, Nat.add_one_sub_one, Jd3, Jbt, Jby, Jbz, Jbw, Jaf, Jah, Jai, Jag, Jb7, Jaw, Jax, Jal, Jav, Jb4, Jau, Jat, Jan, Jam, Jb2, Jaj, Jak, Jb0, Jb1, Jaq, Jb3, Jar, Jas, Jao, Jap, Jb6, Jb5, Ja8, Ja9, Jad, Jac, Ja0, Jaa, Jab, Jbg, Jbh, Ja7, Jae, Jbd, Jbf, Jbe, Jb9, Ja2, Ja1, Ja4, Ja3, Jay, Jaz, decide_true, decide_false, Bool.not_true, Bool.not_false, Bool.false_eq_true, if_true, if_false, true_and, wipeE]
      refine ⟨by decide, hN2 _ _ ⟨rfl, qs ++ [(n, m)], by rw [List.map_append]; rfl, by rw [List.length_append, ql]; rfl, fun p hp => ?_⟩⟩
      rcases List.mem_append.mp hp with z | z
      · exact qf p z
      · rw [List.mem_singleton.mp z]
        exact F (by omega) (by omega)
    · rintro acc μ2 ⟨rfl, qs, rfl, ql, qf⟩
      refine ⟨trivial, ?_⟩
      have q3 : qs.length = 3 := ql
      have i3 : i < 3 := hi
      refine add_cell ha (by rw [List.length_map, List.length_map, sizeLine_eq]; omega) fun b hb => ?_
      rw [← List.map_append]
      refine hN _ _ ⟨b, _, _, ps ++ qs, rfl, up_same, by rw [List.length_append]; omega, fun p hp => ?_⟩
      rcases List.mem_append.mp hp with z | z
      · exact hf p z
      · exact qf p z
  · rintro e μ' ⟨a, x5, x7, ps, rfl, ha, hl, hf⟩
    refine ⟨trivial, ?_⟩
    have l12 : ps.length ≤ 12 := hl
    unfold wp_law_places_3
    simp only [Jbv, initE, Jcs, Jce, Jbl, Jbm, Jc0, Jcn, Jco, Jc6, Jck, Jbn, Jcu, Jbo, Jbu, Jd6, Jd7, Jd5, Jd8, Jdd, Jda, Jdb, Jd9, Jc3, Jc8, Jd0, Jcz, Jc7, Jch, Jcy, Jcx, Jcb, Jbs, Jcw, Jcg, Jbk, Jcj, Jc5, Jbj, Jci, Jcf, Jd2, Jd1, Jd4, Jbp, Jcd, Jcm, Jc2, Jct, Jcc, Jbq, Jcp, Jcv, Jdf, Jdg, Jc9, Jcq, Jcr, Jc4, Jbr, Jc1, Jbx, Jca, gt, st, Jbc, Jba, Jbb, Jb8, Jbi, Ja5, atI0, atI1, atI2, atI3, atI4, ixN20, ixN21, List.map_cons, List.map_nil, List.cons_append, List.nil_append, List.append_nil, List.length_cons, List.length_nil, List.replicate_succ, List.replicate_zero, Nat.add_one_sub_one, Jd3, Jbt, Jby, Jbz, Jbw, Jaf, Jah, Jai, Jag, Jb7, Jaw, Jax, Jal, Jav, Jb4, Jau, Jat, Jan, Jam, Jb2, Jaj, Jak, Jb0, Jb1, Jaq, Jb3, Jar, Jas, Jao, Jap, Jb6, Jb5, Ja8, Ja9, Jad, Jac, Ja0, Jaa, Jab, Jbg, Jbh, Ja7, Jae, Jbd, Jbf, Jbe, Jb9, Ja2, Ja1, Ja4, Ja3, Jay, Jaz, decide_true, decide_false, Bool.not_true, Bool.not_false, Bool.false_eq_true, if_true, if_false, true_and]
    refine ⟨⟨by decide, by decide⟩, by rw [rangeD_len]; decide, for_inv (fun i e μ2 => ∃ x6 ps, e = [some .state, some (.tup [.int w, .int h, .int r]), some (.int w), some (.int h), some (.cell a), x5, x6, x7] ∧ μ2 a = some (.list (ps.map pF)) ∧ ps.length ≤ 12 + i ∧ ∀ p ∈ ps, Fit p 40) ⟨_, ps, rfl, ha, by omega, hf⟩ ?_ ?_⟩
    · rintro i x e μ2 N hx ⟨x6, ps, rfl, ha, hl, hf⟩ hN
      have hi : i < 4 := by
        have := (List.getElem?_eq_some_iff.mp hx).1
        rw [rangeD_len] at this
        exact this
      refine ⟨trivial, ?_⟩
      simp only [Jbv, initE, Jcs, Jce, Jbl, Jbm, Jc0, Jcn, Jco, Jc6, Jck, Jbn, Jcu, Jbo, Jbu, Jd6, Jd7, Jd5, Jd8, Jdd, Jda, Jdb, Jd9, Jc3, Jc8, Jd0, Jcz, Jc7, Jch, Jcy, Jcx, Jcb, Jbs, Jcw, Jcg, Jbk, Jcj, Jc5, Jbj, Jci, Jcf, Jd2, Jd1, Jd4, Jbp, Jcd, Jcm, Jc2, Jct, Jcc, Jbq, Jcp, Jcv, Jdf, Jdg, Jc9, Jcq, Jcr, Jc4, Jbr, Jc1, Jbx, Jca, gt, st, Jbc, Jba, Jbb, Jb8, Jbi, Ja5, atI0, atI1, atI2, atI3, atI4, ixN20, ixN21, List.map_cons, List.map_nil, List.cons_append, List.nil_append, List.append_nil, List.length_cons, List.length_nil, List.replicate_succ, List.replicate_zero, Nat.add_one_sub_one, Jd3, Jbt, Jby, Jbz, Jbw, Jaf, Jah, Jai, Jag, Jb7, Jaw, Jax, Jal, Jav, Jb4, Jau, Jat, Jan, Jam, Jb2, Jaj, Jak, Jb0, Jb1, Jaq, Jb3, Jar, Jas, Jao, Jap, Jb6, Jb5, Ja8, Ja9, Jad, Jac, Ja0, Jaa, Jab, Jbg, Jbh, Ja7, Jae, Jbd, Jbf, Jbe, Jb9, Ja2, Ja1, Ja4, Ja3, Jay, Jaz, decide_true, decide_false, Bool.not_true, Bool.not_false, Bool.false_eq_true, if_true, if_false, true_and]
      refine ⟨by simp [isL, seqL, ha, ndL], ok_number (by decide) (by decide) fun u hu => ok_number (by decide) (by decide) fun v hv => ⟨by decide, ?_⟩⟩
      simp only [mApp, lstC, ha, ndL, DL.one]
      refine ⟨by rw [List.length_map, sizeLine_eq]; omega, hN _ _ ⟨_, ps ++ [(u, v)], rfl, ?_, by rw [List.length_append]; simp; omega, fun p hp => ?_⟩⟩
      · rw [List.map_append]
        exact up_same
      · rcases List.mem_append.mp hp with z | z
        · exact hf p z
        · rw [List.mem_singleton.mp z]
          exact F (by omega) (by omega)
    · rintro e μ2 ⟨x6, ps, rfl, ha, hl, hf⟩
      have l16 : ps.length ≤ 16 := by
        rw [rangeD_len] at hl
        exact hl
      refine ⟨trivial, ?_⟩
      unfold wp_law_places_4
      simp only [Jbv, initE, Jcs, Jce, Jbl, Jbm, Jc0, Jcn, Jco, Jc6, Jck, Jbn, Jcu, Jbo, Jbu, Jd6, Jd7, Jd5, Jd8, Jdd, Jda, Jdb, Jd9, Jc3, Jc8, Jd0, Jcz, Jc7, Jch, Jcy, Jcx, Jcb, Jbs, Jcw, Jcg, Jbk, Jcj, Jc5, Jbj, Jci, Jcf, Jd2, Jd1, Jd4, Jbp, Jcd, Jcm, Jc2, Jct, Jcc, Jbq, Jcp, Jcv, Jdf, Jdg, Jc9, Jcq, Jcr, Jc4, Jbr, Jc1, Jbx, Jca, gt, st, Jbc, Jba, Jbb, Jb8, Jbi, Ja5, atI0, atI1, atI2, atI3, atI4, ixN20, ixN21, List.map_cons, List.map_nil, List.cons_append, List.nil_append, List.append_nil, List.length_cons, List.length_nil, List.replicate_succ, List.replicate_zero, Nat.add_one_sub_one, Jd3, Jbt, Jby, Jbz, Jbw, Jaf, Jah, Jai, Jag, Jb7, Jaw, Jax, Jal, Jav, Jb4, Jau, Jat, Jan, Jam, Jb2, Jaj, Jak, Jb0, Jb1, Jaq, Jb3, Jar, Jas, Jao, Jap, Jb6, Jb5, Ja8, Ja9, Jad, Jac, Ja0, Jaa, Jab, Jbg, Jbh, Ja7, Jae, Jbd, Jbf, Jbe, Jb9, Ja2, Ja1, Ja4, Ja3, Jay, Jaz, decide_true, decide_false, Bool.not_true, Bool.not_false, Bool.false_eq_true, if_true, if_false, true_and, pow12]
      have p12 : CPowW 10 12 := ⟨by decide, by decide +kernel⟩
      refine ⟨by simp [isL, seqL, ha, ndL], p12, ok_number (by decide) (by decide) fun u hu => ⟨p12, ok_number (by decide) (by decide) fun v hv => ⟨by decide, ?_⟩⟩⟩
      simp only [mApp, lstC, ha, ndL, DL.one]
      refine ⟨by rw [List.length_map, sizeLine_eq]; omega, ?_⟩
      have e2 : ps.map pF ++ [D.tup [D.int u, D.int v]] = (ps ++ [(u, v)]).map pF := by rw [List.map_append]; rfl
      have l17 : (ps ++ [(u, v)]).length ≤ 17 := by rw [List.length_append]; simp; omega
      have f17 : ∀ p ∈ ps ++ [(u, v)], Fit p 40 := fun p hp => by
        rcases List.mem_append.mp hp with z | z
        · exact hf p z
        · rw [List.mem_singleton.mp z]
          exact F (by omega) (by omega)
      generalize ps ++ [(u, v)] = qs at e2 l17 f17
      rw [e2]
      unfold wp_law_places_5
      simp only [Jbv, initE, Jcs, Jce, Jbl, Jbm, Jc0, Jcn, Jco, Jc6, Jck, Jbn, Jcu, Jbo, Jbu, Jd6, Jd7, Jd5, Jd8, Jdd, Jda, Jdb, Jd9, Jc3, Jc8, Jd0, Jcz, Jc7, Jch, Jcy, Jcx, Jcb, Jbs, Jcw, Jcg, Jbk, Jcj, Jc5, Jbj, Jci, Jcf, Jd2, Jd1, Jd4, Jbp, Jcd, Jcm, Jc2, Jct, Jcc, Jbq, Jcp, Jcv, Jdf, Jdg, Jc9, Jcq, Jcr, Jc4, Jbr, Jc1, Jbx, Jca, gt, st, Jbc, Jba, Jbb, Jb8, Jbi, Ja5, atI0, atI1, atI2, atI3, atI4, ixN20, ixN21, List.map_cons, List.map_nil, List.cons_append, List.nil_append, List.append_nil, List.length_cons, List.length_nil, List.replicate_succ, List.replicate_zero, Nat.add_one_sub_one, Jd3, Jbt, Jby, Jbz, Jbw, Jaf, Jah, Jai, Jag, Jb7, Jaw, Jax, Jal, Jav, Jb4, Jau, Jat, Jan, Jam, Jb2, Jaj, Jak, Jb0, Jb1, Jaq, Jb3, Jar, Jas, Jao, Jap, Jb6, Jb5, Ja8, Ja9, Jad, Jac, Ja0, Jaa, Jab, Jbg, Jbh, Ja7, Jae, Jbd, Jbf, Jbe, Jb9, Ja2, Ja1, Ja4, Ja3, Jay, Jaz, decide_true, decide_false, Bool.not_true, Bool.not_false, Bool.false_eq_true, if_true, if_false, true_and, pow12, up_same]
      refine ⟨p12, by decide, p12, by decide, by decide, by rw [List.length_map, sizeLine_eq]; omega, ?_⟩
      have := k (qs ++ [(1000000000000, 0), (0, 0 - 1000000000000)]) (by rw [List.length_append]; simp; omega) (fun p hp => by
        rcases List.mem_append.mp hp with z | z
        · exact f17 p z
        · simp only [List.mem_cons, List.not_mem_nil, or_false] at z
          rcases z with rfl | rfl
          · exact F (by decide) (by decide)
          · exact F (by decide) (by decide)) (del (up μ2 a (.list (qs.map pF))) a)
      rw [List.map_append] at this
      exact this
/-! ### fates shown and compared -/
theorem fate_cases (w h : Int) (ss : List Stp) (p : Int × Int) (N : Nat) : ∃ b : Bool, fD w h ss p N = .tup [.str (if b = true then "away" else "back"), .int (N : Int)] ∧ (b = true → inP w h (it ss p N) = true) := by
  unfold fD
  by_cases e : inP w h (it ss p N) = true
  · exact ⟨true, by rw [if_pos e, if_pos rfl], fun _ => e⟩
  · exact ⟨false, by rw [if_neg e, if_neg (by decide)], fun z => nomatch z⟩
theorem shB_word (b : Bool) : ShB 4301 0 (.str (if b = true then "away" else "back")) := by
  cases b
  · exact ⟨by decide +kernel, by decide, by decide +kernel⟩
  · exact ⟨by decide +kernel, by decide, by decide +kernel⟩
theorem shB_fate (b : Bool) {n : Int} (hn : n.natAbs < 2 ^ 12900) : ShB 8609 1 (pd (.tup [.str (if b = true then "away" else "back"), .int n])) := by
  rw [pd, pds, pds, pds, pd, pd]
  exact shB_tup (m := 2) (shB_all2 (shB_word b) (shB_int hn)) (Nat.le_refl _)
theorem rep_fate (b : Bool) {n : Int} (hn : n.natAbs < 2 ^ 12900) (k : QQ (.v (.str (pd (.list [.tup [.str (if b = true then "away" else "back"), .int n], .tup [.str (if b = true then "away" else "back"), .int n]])).shown)) μ) : cbReprB [.list [.tup [.str (if b = true then "away" else "back"), .int n], .tup [.str (if b = true then "away" else "back"), .int n]]] μ QQ X := by
  refine ok_reprB (L := 17225) (k := 2) rfl rfl ?_ (by decide) (by decide) k
  have e : pd (.list [.tup [.str (if b = true then "away" else "back"), .int n], .tup [.str (if b = true then "away" else "back"), .int n]]) = .list [pd (.tup [.str (if b = true then "away" else "back"), .int n]), pd (.tup [.str (if b = true then "away" else "back"), .int n])] := by rw [pd, pds, pds, pds]
  rw [e]
  exact shB_list (m := 2) (shB_all2 (shB_fate b hn) (shB_fate b hn)) (Nat.le_refl _)
theorem eq_fate (b : Bool) (n : Int) (k : ∀ t : Bool, (t = true → b = true ∧ n = 0) → QQ (.v (.bool t)) μ) : oEq (.tup [.str (if b = true then "away" else "back"), .int n]) (.tup [.str "away", .int 0]) μ QQ X := by
  have c1 : PyData.canLay0 (.str "away") = true := by decide +kernel
  have c2 : PyData.canLay0 (.str "back") = true := by decide +kernel
  have sh : ∀ (b : Bool) (n : Int), SeqAt.shaped (pd (.tup [.str (if b = true then "away" else "back"), .int n])) = true := fun b n => by
    rw [pd, pds, pds, pds, pd, pd]
    unfold SeqAt.shaped
    have e : PyData.canLay0 (.tuple [.str (if b = true then "away" else "back"), .int n]) = true := by
      show (PyData.canLay0 (.str (if b = true then "away" else "back")) && true) = true
      cases b
      · rw [if_neg (by decide), c2]
        rfl
      · rw [if_pos rfl, c1]
        rfl
    rw [e, PyData.depth, PyData.depthAll, PyData.depthAll, PyData.depthAll, PyData.depth, PyData.depth]
    decide
  have go : eqG (.tup [.str (if b = true then "away" else "back"), .int n]) (.tup [.str "away", .int 0]) (fun t => QQ (.v (.bool t)) μ) := by
    refine ⟨⟨rfl, rfl, sh b n, sh true 0⟩, ?_⟩
    refine k _ fun h => ?_
    have h2 : PyData.eqv (.tuple (.str (if b = true then "away" else "back") :: [.int n])) (.tuple (.str "away" :: [.int 0])) = true := h
    rw [eqv_word, one_eqv, int_eqv, Bool.and_eq_true, decide_eq_true_iff, decide_eq_true_iff] at h2
    refine ⟨?_, h2.2⟩
    cases b with
    | true => rfl
    | false => exact absurd h2.1 (by decide)
  exact go
theorem ne_pt51 (a : Int × Int) (q : QQ (.v (.bool false)) μ) : oNe (pF a) (pF a) μ QQ X := by
  refine eq_tups [a.1, a.2] [a.1, a.2] (fun b => QQ (.v (.bool (!b))) μ) ?_
  rw [decide_eq_true rfl]
  exact q
theorem F51.wedge (c : F51 ss w h r) (hp : inP w h p = true) : inP w h (acts ss p) = true ∧ 2 * ab p.2 ≤ ab (acts ss p).2 := by
  obtain ⟨cs, q, g, e, hx, _⟩ := c.ok
  have h1 : 1 ≤ h := by have := c.d.h1; omega
  have O := orb_is hx h1 p
  have n0 : 0 < (sxs cs q g).length := by simp
  have hz : inP w h (orb (sxs cs q g) p 0) = true := hp
  have e1 : acts ss p = orb (sxs cs q g) p (0 + (sxs cs q g).length) := by
    have := it_orb e p 1
    rw [Nat.mul_one] at this
    rw [Nat.zero_add]
    exact this
  rw [e1]
  exact ⟨O.stay hz _, (O.double hz _).2 n0⟩
end
section
variable {μ : Mu} {E : WEnds} {sc : List Int} {a2 a3 a4 a5 a6 a7 a8 a9 a10 : Option D} {ss : List Stp} {w h r : Int}
theorem s0_ok (k : ∀ ss w h r, F51 ss w h r → E.nx [some (.script sc), some .state, a2, some (.list (ss.map Stp.b)), a4, a5, a6, a7, a8, a9, a10] μ) : ws_0_0 [some (.script sc), some .state, a2, a3, a4, a5, a6, a7, a8, a9, a10] μ E := by
  unfold ws_0_0
  simp only [Jbv, initE, Jcs, Jce, Jbl, Jbm, Jc0, Jcn, Jco, Jc6, Jck, Jbn, Jcu, Jbo, Jbu, Jd6, Jd7, Jd5, Jd8, Jdd, Jda, Jdb, Jd9, Jc3, Jc8, Jd0, Jcz, Jc7, Jch, Jcy, Jcx, Jcb, Jbs, Jcw, Jcg, Jbk, Jcj, Jc5, Jbj, Jci, Jcf, Jd2, Jd1, Jd4, Jbp, Jcd, Jcm, Jc2, Jct, Jcc, Jbq, Jcp, Jcv, Jdf, Jdg, Jc9, Jcq, Jcr, Jc4, Jbr, Jc1, Jbx, Jca, gt, st, Jbc, Jba, Jbb, Jb8, Jbi, Ja5, atI0, atI1, atI2, atI3, atI4, ixN20, ixN21, List.map_cons, List.map_nil, List.cons_append, List.nil_append, List.append_nil, List.length_cons, List.length_nil, List.replicate_succ, List.replicate_zero, Nat.add_one_sub_one, Jd3, Jbt, Jby, Jbz, Jbw, Jaf, Jah, Jai, Jag, Jb7, Jaw, Jax, Jal, Jav, Jb4, Jau, Jat, Jan, Jam, Jb2, Jaj, Jak, Jb0, Jb1, Jaq, Jb3, Jar, Jas, Jao, Jap, Jb6, Jb5, Ja8, Ja9, Jad, Jac, Ja0, Jaa, Jab, Jbg, Jbh, Ja7, Jae, Jbd, Jbf, Jbe, Jb9, Ja2, Ja1, Ja4, Ja3, Jay, Jaz, decide_true, decide_false, Bool.not_true, Bool.not_false, Bool.false_eq_true, if_true, if_false, true_and]
  refine core51 fun s1 c1 => ok_small_core fun s2 c2 => ⟨by decide, ok_pick rfl (by simp) (by simp) fun x hx => ?_⟩
  simp only [List.mem_cons, List.not_mem_nil, or_false] at hx
  rcases hx with rfl | rfl
  · obtain ⟨w, h, r, c⟩ := c1
    exact k s1 w h r c
  · obtain ⟨w, h, r, c⟩ := c2
    exact k s2 w h r c
theorem F51.prog {Q X : QD} (c : F51 ss w h r) (k : Q (progD ss) μ) : wp_law_program_of [.list (ss.map Stp.b)] μ Q X := by
  have := c.l
  exact ok_program_of (by omega) c.huge (Nat.le_refl _) k
theorem F51.lsizes {Q X : QD} (c : F51 ss w h r) (k : Q (.tup [.int w, .int h, .int r]) μ) : wp_law_sizes [.list (ss.map Stp.b)] μ Q X := by
  obtain ⟨cs, q, g, e, hw, sm⟩ := c.d.ex
  have := c.l
  exact ok_law_sizes e c.o (by decide) (by omega) rfl hw sm k
theorem s1_ok (c : F51 ss w h r) (k : E.nx [some (.script sc), some .state, a2, some (.list (ss.map Stp.b)), some (progD ss), some (.tup [.int w, .int h, .int r]), a6, a7, a8, a9, a10] μ) : ws_0_1 [some (.script sc), some .state, a2, some (.list (ss.map Stp.b)), a4, a5, a6, a7, a8, a9, a10] μ E := by
  unfold ws_0_1
  simp only [Jbv, initE, Jcs, Jce, Jbl, Jbm, Jc0, Jcn, Jco, Jc6, Jck, Jbn, Jcu, Jbo, Jbu, Jd6, Jd7, Jd5, Jd8, Jdd, Jda, Jdb, Jd9, Jc3, Jc8, Jd0, Jcz, Jc7, Jch, Jcy, Jcx, Jcb, Jbs, Jcw, Jcg, Jbk, Jcj, Jc5, Jbj, Jci, Jcf, Jd2, Jd1, Jd4, Jbp, Jcd, Jcm, Jc2, Jct, Jcc, Jbq, Jcp, Jcv, Jdf, Jdg, Jc9, Jcq, Jcr, Jc4, Jbr, Jc1, Jbx, Jca, gt, st, Jbc, Jba, Jbb, Jb8, Jbi, Ja5, atI0, atI1, atI2, atI3, atI4, ixN20, ixN21, List.map_cons, List.map_nil, List.cons_append, List.nil_append, List.append_nil, List.length_cons, List.length_nil, List.replicate_succ, List.replicate_zero, Nat.add_one_sub_one, Jd3, Jbt, Jby, Jbz, Jbw, Jaf, Jah, Jai, Jag, Jb7, Jaw, Jax, Jal, Jav, Jb4, Jau, Jat, Jan, Jam, Jb2, Jaj, Jak, Jb0, Jb1, Jaq, Jb3, Jar, Jas, Jao, Jap, Jb6, Jb5, Ja8, Ja9, Jad, Jac, Ja0, Jaa, Jab, Jbg, Jbh, Ja7, Jae, Jbd, Jbf, Jbe, Jb9, Ja2, Ja1, Ja4, Ja3, Jay, Jaz, decide_true, decide_false, Bool.not_true, Bool.not_false, Bool.false_eq_true, if_true, if_false, true_and]
  exact c.prog (c.lsizes k)
theorem s2_ok (c : F51 ss w h r) (k : E.nx [some (.script sc), some .state, a2, some (.list (ss.map Stp.b)), some (progD ss), some (.tup [.int w, .int h, .int r]), some (wedD ss w h r), a7, a8, a9, a10] μ) : ws_0_2 [some (.script sc), some .state, a2, some (.list (ss.map Stp.b)), some (progD ss), some (.tup [.int w, .int h, .int r]), a6, a7, a8, a9, a10] μ E := by
  unfold ws_0_2
  simp only [Jbv, initE, Jcs, Jce, Jbl, Jbm, Jc0, Jcn, Jco, Jc6, Jck, Jbn, Jcu, Jbo, Jbu, Jd6, Jd7, Jd5, Jd8, Jdd, Jda, Jdb, Jd9, Jc3, Jc8, Jd0, Jcz, Jc7, Jch, Jcy, Jcx, Jcb, Jbs, Jcw, Jcg, Jbk, Jcj, Jc5, Jbj, Jci, Jcf, Jd2, Jd1, Jd4, Jbp, Jcd, Jcm, Jc2, Jct, Jcc, Jbq, Jcp, Jcv, Jdf, Jdg, Jc9, Jcq, Jcr, Jc4, Jbr, Jc1, Jbx, Jca, gt, st, Jbc, Jba, Jbb, Jb8, Jbi, Ja5, atI0, atI1, atI2, atI3, atI4, ixN20, ixN21, List.map_cons, List.map_nil, List.cons_append, List.nil_append, List.append_nil, List.length_cons, List.length_nil, List.replicate_succ, List.replicate_zero, Nat.add_one_sub_one, Jd3, Jbt, Jby, Jbz, Jbw, Jaf, Jah, Jai, Jag, Jb7, Jaw, Jax, Jal, Jav, Jb4, Jau, Jat, Jan, Jam, Jb2, Jaj, Jak, Jb0, Jb1, Jaq, Jb3, Jar, Jas, Jao, Jap, Jb6, Jb5, Ja8, Ja9, Jad, Jac, Ja0, Jaa, Jab, Jbg, Jbh, Ja7, Jae, Jbd, Jbf, Jbe, Jb9, Ja2, Ja1, Ja4, Ja3, Jay, Jaz, decide_true, decide_false, Bool.not_true, Bool.not_false, Bool.false_eq_true, if_true, if_false, true_and]
  exact fun p hp => c.make k p hp
theorem s3_ok (c : F51 ss w h r) (k : ∀ a7 a8 a9 a10 μ', E.nx [some (.script sc), some .state, a2, some (.list (ss.map Stp.b)), some (progD ss), some (.tup [.int w, .int h, .int r]), some (wedD ss w h r), a7, a8, a9, a10] μ') : ws_0_3 [some (.script sc), some .state, a2, some (.list (ss.map Stp.b)), some (progD ss), some (.tup [.int w, .int h, .int r]), some (wedD ss w h r), a7, a8, a9, a10] μ E := by
  have wh := c.wh
  have w1 := c.d.w1
  have h1 := c.d.h1
  unfold ws_0_3
  simp only [Jbv, initE, Jcs, Jce, Jbl, Jbm, Jc0, Jcn, Jco, Jc6, Jck, Jbn, Jcu, Jbo, Jbu, Jd6, Jd7, Jd5, Jd8, Jdd, Jda, Jdb, Jd9, Jc3, Jc8, Jd0, Jcz, Jc7, Jch, Jcy, Jcx, Jcb, Jbs, Jcw, Jcg, Jbk, Jcj, Jc5, Jbj, Jci, Jcf, Jd2, Jd1, Jd4, Jbp, Jcd, Jcm, Jc2, Jct, Jcc, Jbq, Jcp, Jcv, Jdf, Jdg, Jc9, Jcq, Jcr, Jc4, Jbr, Jc1, Jbx, Jca, gt, st, Jbc, Jba, Jbb, Jb8, Jbi, Ja5, atI0, atI1, atI2, atI3, atI4, ixN20, ixN21, List.map_cons, List.map_nil, List.cons_append, List.nil_append, List.append_nil, List.length_cons, List.length_nil, List.replicate_succ, List.replicate_zero, Nat.add_one_sub_one, Jd3, Jbt, Jby, Jbz, Jbw, Jaf, Jah, Jai, Jag, Jb7, Jaw, Jax, Jal, Jav, Jb4, Jau, Jat, Jan, Jam, Jb2, Jaj, Jak, Jb0, Jb1, Jaq, Jb3, Jar, Jas, Jao, Jap, Jb6, Jb5, Ja8, Ja9, Jad, Jac, Ja0, Jaa, Jab, Jbg, Jbh, Ja7, Jae, Jbd, Jbf, Jbe, Jb9, Ja2, Ja1, Ja4, Ja3, Jay, Jaz, decide_true, decide_false, Bool.not_true, Bool.not_false, Bool.false_eq_true, if_true, if_false, true_and]
  refine ok_places (by omega) wh.1 (by omega) wh.2 fun ps pl pf μ1 => ?_
  simp only [Jbv, initE, Jcs, Jce, Jbl, Jbm, Jc0, Jcn, Jco, Jc6, Jck, Jbn, Jcu, Jbo, Jbu, Jd6, Jd7, Jd5, Jd8, Jdd, Jda, Jdb, Jd9, Jc3, Jc8, Jd0, Jcz, Jc7, Jch, Jcy, Jcx, Jcb, Jbs, Jcw, Jcg, Jbk, Jcj, Jc5, Jbj, Jci, Jcf, Jd2, Jd1, Jd4, Jbp, Jcd, Jcm, Jc2, Jct, Jcc, Jbq, Jcp, Jcv, Jdf, Jdg, Jc9, Jcq, Jcr, Jc4, Jbr, Jc1, Jbx, Jca, gt, st, Jbc, Jba, Jbb, Jb8, Jbi, Ja5, atI0, atI1, atI2, atI3, atI4, ixN20, ixN21, List.map_cons, List.map_nil, List.cons_append, List.nil_append, List.append_nil, List.length_cons, List.length_nil, List.replicate_succ, List.replicate_zero, Nat.add_one_sub_one, Jd3, Jbt, Jby, Jbz, Jbw, Jaf, Jah, Jai, Jag, Jb7, Jaw, Jax, Jal, Jav, Jb4, Jau, Jat, Jan, Jam, Jb2, Jaj, Jak, Jb0, Jb1, Jaq, Jb3, Jar, Jas, Jao, Jap, Jb6, Jb5, Ja8, Ja9, Jad, Jac, Ja0, Jaa, Jab, Jbg, Jbh, Ja7, Jae, Jbd, Jbf, Jbe, Jb9, Ja2, Ja1, Ja4, Ja3, Jay, Jaz, decide_true, decide_false, Bool.not_true, Bool.not_false, Bool.false_eq_true, if_true, if_false, true_and]
  refine ⟨by rw [List.length_map]; omega, for_inv (fun i e μ' => ∃ a7 a8 a9 a10, e = [some (.script sc), some .state, a2, some (.list (ss.map Stp.b)), some (progD ss), some (.tup [.int w, .int h, .int r]), some (wedD ss w h r), a7, a8, a9, a10]) ⟨_, _, _, _, rfl⟩ ?_ ?_⟩
  · rintro i x e μ' N hx ⟨a7, a8, a9, a10, rfl⟩ hN
    obtain ⟨p, hp, rfl⟩ := map_get hx
    have f := pf _ (List.mem_of_getElem? hp)
    obtain ⟨n, F⟩ := c.ex f
    obtain ⟨b, eb, ib⟩ := fate_cases w h ss p n
    have hn : ((n : Int)).natAbs < 2 ^ 12900 := by
      have := F.n
      exact Nat.lt_of_le_of_lt (show ((n : Int)).natAbs ≤ 2 ^ 62 by omega) (Nat.pow_lt_pow_right (by decide) (by decide))
    refine ⟨trivial, ?_⟩
    simp only [Jbv, initE, Jcs, Jce, Jbl, Jbm, Jc0, Jcn, Jco, Jc6, Jck, Jbn, Jcu, Jbo, Jbu, Jd6, Jd7, Jd5, Jd8, Jdd, Jda, Jdb, Jd9, Jc3, Jc8, Jd0, Jcz, Jc7, Jch, Jcy, Jcx, Jcb, Jbs, Jcw, Jcg, Jbk, Jcj, Jc5, Jbj, Jci, Jcf, Jd2, Jd1, Jd4, Jbp, Jcd, Jcm, Jc2, Jct, Jcc, Jbq, Jcp, Jcv, Jdf, Jdg, Jc9, Jcq, Jcr, Jc4, Jbr, Jc1, Jbx, Jca, gt, st, Jbc, Jba, Jbb, Jb8, Jbi, Ja5, atI0, atI1, atI2, atI3, atI4, ixN20, ixN21, List.map_cons, List.map_nil, List.cons_append, List.nil_append, List.append_nil, List.length_cons, List.length_nil, List.replicate_succ, List.replicate_zero, Nat.add_one_sub_one, Jd3, Jbt, Jby, Jbz, Jbw, Jaf, Jah, Jai, Jag, Jb7, Jaw, Jax, Jal, Jav, Jb4, Jau, Jat, Jan, Jam, Jb2, Jaj, Jak, Jb0, Jb1, Jaq, Jb3, Jar, Jas, Jao, Jap, Jb6, Jb5, Ja8, Ja9, Jad, Jac, Ja0, Jaa, Jab, Jbg, Jbh, Ja7, Jae, Jbd, Jbf, Jbe, Jb9, Ja2, Ja1, Ja4, Ja3, Jay, Jaz, decide_true, decide_false, Bool.not_true, Bool.not_false, Bool.false_eq_true, if_true, if_false, true_and]
    refine ok_law_fate c f F ?_
    rw [eb]
    refine ok_fate c f F ?_
    rw [eb]
    refine c.prog (ok_fate c f F ?_)
    rw [eb]
    refine ⟨by decide, rep_fate b hn ?_⟩
    refine ⟨by decide, rep_fate b hn ?_⟩
    simp only [Jbv, initE, Jcs, Jce, Jbl, Jbm, Jc0, Jcn, Jco, Jc6, Jck, Jbn, Jcu, Jbo, Jbu, Jd6, Jd7, Jd5, Jd8, Jdd, Jda, Jdb, Jd9, Jc3, Jc8, Jd0, Jcz, Jc7, Jch, Jcy, Jcx, Jcb, Jbs, Jcw, Jcg, Jbk, Jcj, Jc5, Jbj, Jci, Jcf, Jd2, Jd1, Jd4, Jbp, Jcd, Jcm, Jc2, Jct, Jcc, Jbq, Jcp, Jcv, Jdf, Jdg, Jc9, Jcq, Jcr, Jc4, Jbr, Jc1, Jbx, Jca, gt, st, Jbc, Jba, Jbb, Jb8, Jbi, Ja5, atI0, atI1, atI2, atI3, atI4, ixN20, ixN21, List.map_cons, List.map_nil, List.cons_append, List.nil_append, List.append_nil, List.length_cons, List.length_nil, List.replicate_succ, List.replicate_zero, Nat.add_one_sub_one, Jd3, Jbt, Jby, Jbz, Jbw, Jaf, Jah, Jai, Jag, Jb7, Jaw, Jax, Jal, Jav, Jb4, Jau, Jat, Jan, Jam, Jb2, Jaj, Jak, Jb0, Jb1, Jaq, Jb3, Jar, Jas, Jao, Jap, Jb6, Jb5, Ja8, Ja9, Jad, Jac, Ja0, Jaa, Jab, Jbg, Jbh, Ja7, Jae, Jbd, Jbf, Jbe, Jb9, Ja2, Ja1, Ja4, Ja3, Jay, Jaz, decide_true, decide_false, Bool.not_true, Bool.not_false, Bool.false_eq_true, if_true, if_false, true_and]
    refine ⟨by decide, eq_fate b n fun t ht => ?_⟩
    cases t with
    | false =>
      simp only [Jbv, initE, Jcs, Jce, Jbl, Jbm, Jc0, Jcn, Jco, Jc6, Jck, Jbn, Jcu, Jbo, Jbu, Jd6, Jd7, Jd5, Jd8, Jdd, Jda, Jdb, Jd9, Jc3, Jc8, Jd0, Jcz, Jc7, Jch, Jcy, Jcx, Jcb, Jbs, Jcw, Jcg, Jbk, Jcj, Jc5, Jbj, Jci, Jcf, Jd2, Jd1, Jd4, Jbp, Jcd, Jcm, Jc2, Jct, Jcc, Jbq, Jcp, Jcv, Jdf, Jdg, Jc9, Jcq, Jcr, Jc4, Jbr, Jc1, Jbx, Jca, gt, st, Jbc, Jba, Jbb, Jb8, Jbi, Ja5, atI0, atI1, atI2, atI3, atI4, ixN20, ixN21, List.map_cons, List.map_nil, List.cons_append, List.nil_append, List.append_nil, List.length_cons, List.length_nil, List.replicate_succ, List.replicate_zero, Nat.add_one_sub_one, Jd3, Jbt, Jby, Jbz, Jbw, Jaf, Jah, Jai, Jag, Jb7, Jaw, Jax, Jal, Jav, Jb4, Jau, Jat, Jan, Jam, Jb2, Jaj, Jak, Jb0, Jb1, Jaq, Jb3, Jar, Jas, Jao, Jap, Jb6, Jb5, Ja8, Ja9, Jad, Jac, Ja0, Jaa, Jab, Jbg, Jbh, Ja7, Jae, Jbd, Jbf, Jbe, Jb9, Ja2, Ja1, Ja4, Ja3, Jay, Jaz, decide_true, decide_false, Bool.not_true, Bool.not_false, Bool.false_eq_true, if_true, if_false, true_and]
      exact hN _ _ ⟨_, _, _, _, rfl⟩
    | true =>
      obtain ⟨b1, n0⟩ := ht rfl
      have n0' : n = 0 := by omega
      subst n0'
      have pw : inP w h p = true := ib b1
      obtain ⟨w1', w2'⟩ := c.wedge pw
      have fa : Fit (acts ss p) 900 := fit_up (c.act (b := 40) (by decide) f) (by decide)
      have f8 : Fit p 1008 := fit_up f (by decide)
      simp only [Jbv, initE, Jcs, Jce, Jbl, Jbm, Jc0, Jcn, Jco, Jc6, Jck, Jbn, Jcu, Jbo, Jbu, Jd6, Jd7, Jd5, Jd8, Jdd, Jda, Jdb, Jd9, Jc3, Jc8, Jd0, Jcz, Jc7, Jch, Jcy, Jcx, Jcb, Jbs, Jcw, Jcg, Jbk, Jcj, Jc5, Jbj, Jci, Jcf, Jd2, Jd1, Jd4, Jbp, Jcd, Jcm, Jc2, Jct, Jcc, Jbq, Jcp, Jcv, Jdf, Jdg, Jc9, Jcq, Jcr, Jc4, Jbr, Jc1, Jbx, Jca, gt, st, Jbc, Jba, Jbb, Jb8, Jbi, Ja5, atI0, atI1, atI2, atI3, atI4, ixN20, ixN21, List.map_cons, List.map_nil, List.cons_append, List.nil_append, List.append_nil, List.length_cons, List.length_nil, List.replicate_succ, List.replicate_zero, Nat.add_one_sub_one, Jd3, Jbt, Jby, Jbz, Jbw, Jaf, Jah, Jai, Jag, Jb7, Jaw, Jax, Jal, Jav, Jb4, Jau, Jat, Jan, Jam, Jb2, Jaj, Jak, Jb0, Jb1, Jaq, Jb3, Jar, Jas, Jao, Jap, Jb6, Jb5, Ja8, Ja9, Jad, Jac, Ja0, Jaa, Jab, Jbg, Jbh, Ja7, Jae, Jbd, Jbf, Jbe, Jb9, Ja2, Ja1, Ja4, Ja3, Jay, Jaz, decide_true, decide_false, Bool.not_true, Bool.not_false, Bool.false_eq_true, if_true, if_false, true_and]
      refine ⟨rfl, rfl, c.call f8 (c.run f8 ?_)⟩
      refine ne_pt51 _ ?_
      simp only [Jbv, initE, Jcs, Jce, Jbl, Jbm, Jc0, Jcn, Jco, Jc6, Jck, Jbn, Jcu, Jbo, Jbu, Jd6, Jd7, Jd5, Jd8, Jdd, Jda, Jdb, Jd9, Jc3, Jc8, Jd0, Jcz, Jc7, Jch, Jcy, Jcx, Jcb, Jbs, Jcw, Jcg, Jbk, Jcj, Jc5, Jbj, Jci, Jcf, Jd2, Jd1, Jd4, Jbp, Jcd, Jcm, Jc2, Jct, Jcc, Jbq, Jcp, Jcv, Jdf, Jdg, Jc9, Jcq, Jcr, Jc4, Jbr, Jc1, Jbx, Jca, gt, st, Jbc, Jba, Jbb, Jb8, Jbi, Ja5, atI0, atI1, atI2, atI3, atI4, ixN20, ixN21, List.map_cons, List.map_nil, List.cons_append, List.nil_append, List.append_nil, List.length_cons, List.length_nil, List.replicate_succ, List.replicate_zero, Nat.add_one_sub_one, Jd3, Jbt, Jby, Jbz, Jbw, Jaf, Jah, Jai, Jag, Jb7, Jaw, Jax, Jal, Jav, Jb4, Jau, Jat, Jan, Jam, Jb2, Jaj, Jak, Jb0, Jb1, Jaq, Jb3, Jar, Jas, Jao, Jap, Jb6, Jb5, Ja8, Ja9, Jad, Jac, Ja0, Jaa, Jab, Jbg, Jbh, Ja7, Jae, Jbd, Jbf, Jbe, Jb9, Ja2, Ja1, Ja4, Ja3, Jay, Jaz, decide_true, decide_false, Bool.not_true, Bool.not_false, Bool.false_eq_true, if_true, if_false, true_and, oNotInO]
      refine ⟨rfl, ok_contains9 c.wn (Nat.lt_of_lt_of_le fa.2 (Nat.pow_le_pow_right (by decide) (by decide))) ?_⟩
      rw [show inW w h (acts ss p).1 (acts ss p).2 = true from w1']
      simp only [Jbv, initE, Jcs, Jce, Jbl, Jbm, Jc0, Jcn, Jco, Jc6, Jck, Jbn, Jcu, Jbo, Jbu, Jd6, Jd7, Jd5, Jd8, Jdd, Jda, Jdb, Jd9, Jc3, Jc8, Jd0, Jcz, Jc7, Jch, Jcy, Jcx, Jcb, Jbs, Jcw, Jcg, Jbk, Jcj, Jc5, Jbj, Jci, Jcf, Jd2, Jd1, Jd4, Jbp, Jcd, Jcm, Jc2, Jct, Jcc, Jbq, Jcp, Jcv, Jdf, Jdg, Jc9, Jcq, Jcr, Jc4, Jbr, Jc1, Jbx, Jca, gt, st, Jbc, Jba, Jbb, Jb8, Jbi, Ja5, atI0, atI1, atI2, atI3, atI4, ixN20, ixN21, List.map_cons, List.map_nil, List.cons_append, List.nil_append, List.append_nil, List.length_cons, List.length_nil, List.replicate_succ, List.replicate_zero, Nat.add_one_sub_one, Jd3, Jbt, Jby, Jbz, Jbw, Jaf, Jah, Jai, Jag, Jb7, Jaw, Jax, Jal, Jav, Jb4, Jau, Jat, Jan, Jam, Jb2, Jaj, Jak, Jb0, Jb1, Jaq, Jb3, Jar, Jas, Jao, Jap, Jb6, Jb5, Ja8, Ja9, Jad, Jac, Ja0, Jaa, Jab, Jbg, Jbh, Ja7, Jae, Jbd, Jbf, Jbe, Jb9, Ja2, Ja1, Ja4, Ja3, Jay, Jaz, decide_true, decide_false, Bool.not_true, Bool.not_false, Bool.false_eq_true, if_true, if_false, true_and]
      have cm : CMulU 2 (ab p.2) := mulU_of (a := 2) (b := 40) (by decide) (by rw [ab_n]; exact f.2) (by decide)
      have lt : ¬(if (acts ss p).2 < 0 then -(acts ss p).2 else (acts ss p).2) < 2 * (if p.2 < 0 then -p.2 else p.2) := by
        unfold ab at w2'
        omega
      refine ⟨cm, ?_⟩
      rw [decide_eq_false lt]
      simp only [Jbv, initE, Jcs, Jce, Jbl, Jbm, Jc0, Jcn, Jco, Jc6, Jck, Jbn, Jcu, Jbo, Jbu, Jd6, Jd7, Jd5, Jd8, Jdd, Jda, Jdb, Jd9, Jc3, Jc8, Jd0, Jcz, Jc7, Jch, Jcy, Jcx, Jcb, Jbs, Jcw, Jcg, Jbk, Jcj, Jc5, Jbj, Jci, Jcf, Jd2, Jd1, Jd4, Jbp, Jcd, Jcm, Jc2, Jct, Jcc, Jbq, Jcp, Jcv, Jdf, Jdg, Jc9, Jcq, Jcr, Jc4, Jbr, Jc1, Jbx, Jca, gt, st, Jbc, Jba, Jbb, Jb8, Jbi, Ja5, atI0, atI1, atI2, atI3, atI4, ixN20, ixN21, List.map_cons, List.map_nil, List.cons_append, List.nil_append, List.append_nil, List.length_cons, List.length_nil, List.replicate_succ, List.replicate_zero, Nat.add_one_sub_one, Jd3, Jbt, Jby, Jbz, Jbw, Jaf, Jah, Jai, Jag, Jb7, Jaw, Jax, Jal, Jav, Jb4, Jau, Jat, Jan, Jam, Jb2, Jaj, Jak, Jb0, Jb1, Jaq, Jb3, Jar, Jas, Jao, Jap, Jb6, Jb5, Ja8, Ja9, Jad, Jac, Ja0, Jaa, Jab, Jbg, Jbh, Ja7, Jae, Jbd, Jbf, Jbe, Jb9, Ja2, Ja1, Ja4, Ja3, Jay, Jaz, decide_true, decide_false, Bool.not_true, Bool.not_false, Bool.false_eq_true, if_true, if_false, true_and]
      exact hN _ _ ⟨_, _, _, _, rfl⟩
  · rintro e μ' ⟨a7, a8, a9, a10, rfl⟩
    exact ⟨trivial, k _ _ _ _ _⟩
end
theorem turn_ok {μ : Mu} {E : WEnds} {sc : List Int} {a2 a3 a4 a5 a6 a7 a8 a9 a10 : Option D} (k : ∀ (a2 a3 a4 a5 a6 a7 a8 a9 a10 : Option D) μ', E.nx [some (.script sc), some .state, a2, a3, a4, a5, a6, a7, a8, a9, a10] μ') : wb_0 [some (.script sc), some .state, a2, a3, a4, a5, a6, a7, a8, a9, a10] μ E := by
  unfold wb_0
  simp only [Jcs]
  refine s0_ok fun ss w h r c => ?_
  dsimp only
  refine s1_ok c (s2_ok c ?_)
  dsimp only
  exact s3_ok c fun a7 a8 a9 a10 μ => k _ _ _ _ _ _ _ _ _ _
theorem law_ok : ∀ ns : List Int, ns.length ≤ 63 → wr_law (some (.script ns) :: some .state :: List.replicate (11 - 2) Option.none) (fun _ => Option.none) lawEnds := by
  intro sc hl
  unfold wr_law ws_0
  have el : cbLen [.script sc] = fun μ Q _ => Q (.v (.int sc.length)) μ := by
    funext μ Q X
    simp [cbLen, one, sqD, iL_len]
  simp only [Jbv, initE, Jcs, Jce, Jbl, Jbm, Jc0, Jcn, Jco, Jc6, Jck, Jbn, Jcu, Jbo, Jbu, Jd6, Jd7, Jd5, Jd8, Jdd, Jda, Jdb, Jd9, Jc3, Jc8, Jd0, Jcz, Jc7, Jch, Jcy, Jcx, Jcb, Jbs, Jcw, Jcg, Jbk, Jcj, Jc5, Jbj, Jci, Jcf, Jd2, Jd1, Jd4, Jbp, Jcd, Jcm, Jc2, Jct, Jcc, Jbq, Jcp, Jcv, Jdf, Jdg, Jc9, Jcq, Jcr, Jc4, Jbr, Jc1, Jbx, Jca, gt, st, Jbc, Jba, Jbb, Jb8, Jbi, Ja5, atI0, atI1, atI2, atI3, atI4, ixN20, ixN21, List.map_cons, List.map_nil, List.cons_append, List.nil_append, List.append_nil, List.length_cons, List.length_nil, List.replicate_succ, List.replicate_zero, Nat.add_one_sub_one, Jd3, Jbt, Jby, Jbz, Jbw, Jaf, Jah, Jai, Jag, Jb7, Jaw, Jax, Jal, Jav, Jb4, Jau, Jat, Jan, Jam, Jb2, Jaj, Jak, Jb0, Jb1, Jaq, Jb3, Jar, Jas, Jao, Jap, Jb6, Jb5, Ja8, Ja9, Jad, Jac, Ja0, Jaa, Jab, Jbg, Jbh, Ja7, Jae, Jbd, Jbf, Jbe, Jb9, Ja2, Ja1, Ja4, Ja3, el]
  refine ⟨⟨by split <;> omega, by split <;> omega⟩, by rw [rangeD_len]; split <;> omega, ?_⟩
  refine for_inv (fun i e μ' => ∃ (a2 a3 a4 a5 a6 a7 a8 a9 a10 : Option D), e = [some (.script sc), some .state, a2, a3, a4, a5, a6, a7, a8, a9, a10]) ⟨_, _, _, _, _, _, _, _, _, rfl⟩ ?_ ?_
  · rintro i x e μ' N hx ⟨a2, a3, a4, a5, a6, a7, a8, a9, a10, rfl⟩ hN
    refine ⟨trivial, ?_⟩
    simp only [Jd6]
    show wb_0 [some (.script sc), some .state, some x, a3, a4, a5, a6, a7, a8, a9, a10] μ' _
    exact turn_ok fun a2 a3 a4 a5 a6 a7 a8 a9 a10 μ2 => hN _ _ ⟨_, _, _, _, _, _, _, _, _, rfl⟩
  · rintro e μ' ⟨a2, a3, a4, a5, a6, a7, a8, a9, a10, rfl⟩
    refine ⟨trivial, ?_⟩
    unfold ws_1
    simp only [Jbv, initE, Jcs, Jce, Jbl, Jbm, Jc0, Jcn, Jco, Jc6, Jck, Jbn, Jcu, Jbo, Jbu, Jd6, Jd7, Jd5, Jd8, Jdd, Jda, Jdb, Jd9, Jc3, Jc8, Jd0, Jcz, Jc7, Jch, Jcy, Jcx, Jcb, Jbs, Jcw, Jcg, Jbk, Jcj, Jc5, Jbj, Jci, Jcf, Jd2, Jd1, Jd4, Jbp, Jcd, Jcm, Jc2, Jct, Jcc, Jbq, Jcp, Jcv, Jdf, Jdg, Jc9, Jcq, Jcr, Jc4, Jbr, Jc1, Jbx, Jca, gt, st, Jbc, Jba, Jbb, Jb8, Jbi, Ja5, atI0, atI1, atI2, atI3, atI4, ixN20, ixN21, List.map_cons, List.map_nil, List.cons_append, List.nil_append, List.append_nil, List.length_cons, List.length_nil, List.replicate_succ, List.replicate_zero, Nat.add_one_sub_one, Jd3, Jbt, Jby, Jbz, Jbw, Jaf, Jah, Jai, Jag, Jb7, Jaw, Jax, Jal, Jav, Jb4, Jau, Jat, Jan, Jam, Jb2, Jaj, Jak, Jb0, Jb1, Jaq, Jb3, Jar, Jas, Jao, Jap, Jb6, Jb5, Ja8, Ja9, Jad, Jac, Ja0, Jaa, Jab, Jbg, Jbh, Ja7, Jae, Jbd, Jbf, Jbe, Jb9, Ja2, Ja1, Ja4, Ja3]
    rfl
end DL

set_option Elab.async false
set_option linter.all false
set_option maxRecDepth 100000
set_option maxHeartbeats 0
set_option exponentiation.threshold 100000
namespace KLaw
open PySem PySem.Spec PyProof.Rows L2 DL
theorem n_Program : ("Program" : Str) ∈ nsL := by decide
theorem n_Rule : ("Rule" : Str) ∈ nsL := by decide
theorem n_Wedge : ("Wedge" : Str) ∈ nsL := by decide
theorem e_BadRule : ("BadRule" : Str) ∈ esL := by decide
theorem e_BadPower : ("BadPower" : Str) ∈ esL := by decide
theorem e_BadProgram : ("BadProgram" : Str) ∈ esL := by decide
theorem e_BadPoint : ("BadPoint" : Str) ∈ esL := by decide
theorem e_NoCore : ("NoCore" : Str) ∈ esL := by decide
theorem i_Program : ("Program" : Str) ∈ nsL ++ esL := by decide
theorem i_Rule : ("Rule" : Str) ∈ nsL ++ esL := by decide
abbrev N_law_mixed : List Str := ["_law_state", "_law_turn", "_law_found", "_law_prime", "_law_blend", "_law_cell"]
theorem sc_law_mixed : FnScope N_law_mixed ["_law_state"] (defScope (topS 62)) := ⟨rfl, rfl, rfl, by decide +kernel, rfl, by decide +kernel, by decide +kernel⟩
abbrev N_law_take : List Str := ["_law_state", "_law_size", "_law_found"]
theorem sc_law_take : FnScope N_law_take ["_law_state", "_law_size"] (defScope (topS 63)) := ⟨rfl, rfl, rfl, by decide +kernel, rfl, by decide +kernel, by decide +kernel⟩
abbrev N_law_pick : List Str := ["_law_state", "_law_some"]
theorem sc_law_pick : FnScope N_law_pick ["_law_state", "_law_some"] (defScope (topS 64)) := ⟨rfl, rfl, rfl, by decide +kernel, rfl, by decide +kernel, by decide +kernel⟩
abbrev N_law_number : List Str := ["_law_state", "_law_great", "_law_size"]
theorem sc_law_number : FnScope N_law_number ["_law_state", "_law_great"] (defScope (topS 65)) := ⟨rfl, rfl, rfl, by decide +kernel, rfl, by decide +kernel, by decide +kernel⟩
abbrev N_law_curl : List Str := ["_law_state", "_law_most", "_law_great", "_law_row", "_law_place"]
theorem sc_law_curl : FnScope N_law_curl ["_law_state", "_law_most", "_law_great"] (defScope (topS 52)) := ⟨rfl, rfl, rfl, by decide +kernel, rfl, by decide +kernel, by decide +kernel⟩
abbrev N_law_swing : List Str := ["_law_state", "_law_most", "_law_great", "_law_c", "_law_some", "_law_a", "_law_d"]
theorem sc_law_swing : FnScope N_law_swing ["_law_state", "_law_most", "_law_great"] (defScope (topS 53)) := ⟨rfl, rfl, rfl, by decide +kernel, rfl, by decide +kernel, by decide +kernel⟩
abbrev N_law_tail : List Str := ["_law_state", "_law_great", "_law_turn"]
theorem sc_law_tail : FnScope N_law_tail ["_law_state", "_law_great"] (defScope (topS 54)) := ⟨rfl, rfl, rfl, by decide +kernel, rfl, by decide +kernel, by decide +kernel⟩
abbrev N_law_core : List Str := ["_law_state", "_law_couples_here", "_law_most", "_law_great", "_law_found", "_law_turn"]
theorem sc_law_core : FnScope N_law_core ["_law_state", "_law_couples_here", "_law_most", "_law_great"] (defScope (topS 55)) := ⟨rfl, rfl, rfl, by decide +kernel, rfl, by decide +kernel, by decide +kernel⟩
abbrev N_law_small_core : List Str := ["_law_state", "_law_found", "_law_turn", "_law_move"]
theorem sc_law_small_core : FnScope N_law_small_core ["_law_state"] (defScope (topS 60)) := ⟨rfl, rfl, rfl, by decide +kernel, rfl, by decide +kernel, by decide +kernel⟩
abbrev N_law_is_low : List Str := ["_law_step"]
theorem sc_law_is_low : FnScope N_law_is_low ["_law_step"] (defScope (topS 67)) := ⟨rfl, rfl, rfl, by decide +kernel, rfl, by decide +kernel, by decide +kernel⟩
abbrev N_is_list : List Str := ["thing"]
theorem sc_is_list : FnScope N_is_list ["thing"] (defScope (topS 13)) := ⟨rfl, rfl, rfl, by decide +kernel, rfl, by decide +kernel, by decide +kernel⟩
abbrev N_is_number : List Str := ["thing"]
theorem sc_is_number : FnScope N_is_number ["thing"] (defScope (topS 10)) := ⟨rfl, rfl, rfl, by decide +kernel, rfl, by decide +kernel, by decide +kernel⟩
abbrev N_without_end : List Str := ["numbers", "many"]
theorem sc_without_end : FnScope N_without_end ["numbers"] (defScope (topS 14)) := ⟨rfl, rfl, rfl, by decide +kernel, rfl, by decide +kernel, by decide +kernel⟩
abbrev N_Rule___init__ : List Str := ["self", "coefficients", "at", "number"]
theorem sc_Rule___init__ : FnScope N_Rule___init__ ["self", "coefficients"] (defScope (inClass (topS 15) 0)) := ⟨rfl, rfl, rfl, by decide +kernel, rfl, by decide +kernel, by decide +kernel⟩
abbrev N_law_step_of : List Str := ["_law_step"]
theorem sc_law_step_of : FnScope N_law_step_of ["_law_step"] (defScope (topS 70)) := ⟨rfl, rfl, rfl, by decide +kernel, rfl, by decide +kernel, by decide +kernel⟩
abbrev N_is_step : List Str := ["thing", "number"]
theorem sc_is_step : FnScope N_is_step ["thing"] (defScope (topS 22)) := ⟨rfl, rfl, rfl, by decide +kernel, rfl, by decide +kernel, by decide +kernel⟩
abbrev N_Program___init__ : List Str := ["self", "steps", "at", "step"]
theorem sc_Program___init__ : FnScope N_Program___init__ ["self", "steps"] (defScope (inClass (topS 25) 0)) := ⟨rfl, rfl, rfl, by decide +kernel, rfl, by decide +kernel, by decide +kernel⟩
abbrev N_law_program_of : List Str := ["_law_steps", "_law_step"]
theorem sc_law_program_of : FnScope N_law_program_of ["_law_steps"] (defScope (topS 71)) := ⟨rfl, rfl, rfl, by decide +kernel, rfl, by decide +kernel, by decide +kernel⟩
abbrev N_law_couples : List Str := ["_law_steps", "_law_found", "_law_turn", "_law_move", "_law_spot", "_law_word", "_law_a", "_law_b", "_law_c", "_law_d", "_law_six", "_law_upper"]
theorem sc_law_couples : FnScope N_law_couples ["_law_steps"] (defScope (topS 56)) := ⟨rfl, rfl, rfl, by decide +kernel, rfl, by decide +kernel, by decide +kernel⟩
abbrev N_law_sizes : List Str := ["_law_steps", "_law_rows", "_law_wide", "_law_heights_here", "_law_reaches", "_law_low", "_law_a", "_law_b", "_law_c", "_law_d", "_law_s", "_law_t", "_law_v", "_law_u", "_law_far", "_law_row", "_law_six", "_law_worth"]
theorem sc_law_sizes : FnScope N_law_sizes ["_law_steps"] (defScope (topS 57)) := ⟨rfl, rfl, rfl, by decide +kernel, rfl, by decide +kernel, by decide +kernel⟩
abbrev N_need_program_cores : List Str := ["program"]
theorem sc_need_program_cores : FnScope N_need_program_cores ["program"] (defScope (topS 33)) := ⟨rfl, rfl, rfl, by decide +kernel, rfl, by decide +kernel, by decide +kernel⟩
abbrev N_need_program : List Str := ["thing"]
theorem sc_need_program : FnScope N_need_program ["thing"] (defScope (topS 26)) := ⟨rfl, rfl, rfl, by decide +kernel, rfl, by decide +kernel, by decide +kernel⟩
abbrev N_Rule_degree : List Str := ["self"]
theorem sc_Rule_degree : FnScope N_Rule_degree ["self"] (defScope (inClass (topS 15) 2)) := ⟨rfl, rfl, rfl, by decide +kernel, rfl, by decide +kernel, by decide +kernel⟩
abbrev N_is_from : List Str := ["thing", "least"]
theorem sc_is_from : FnScope N_is_from ["thing", "least"] (defScope (topS 12)) := ⟨rfl, rfl, rfl, by decide +kernel, rfl, by decide +kernel, by decide +kernel⟩
abbrev N_Rule___getitem__ : List Str := ["self", "power"]
theorem sc_Rule___getitem__ : FnScope N_Rule___getitem__ ["self", "power"] (defScope (inClass (topS 15) 5)) := ⟨rfl, rfl, rfl, by decide +kernel, rfl, by decide +kernel, by decide +kernel⟩
abbrev N_is_bend : List Str := ["step"]
theorem sc_is_bend : FnScope N_is_bend ["step"] (defScope (topS 29)) := ⟨rfl, rfl, rfl, by decide +kernel, rfl, by decide +kernel, by decide +kernel⟩
abbrev N_is_quarter : List Str := ["step"]
theorem sc_is_quarter : FnScope N_is_quarter ["step"] (defScope (topS 30)) := ⟨rfl, rfl, rfl, by decide +kernel, rfl, by decide +kernel, by decide +kernel⟩
abbrev N_is_plain : List Str := ["program", "steps", "parts", "step", "one", "other"]
theorem sc_is_plain : FnScope N_is_plain ["program"] (defScope (topS 31)) := ⟨rfl, rfl, rfl, by decide +kernel, rfl, by decide +kernel, by decide +kernel⟩
abbrev N_Program_steps : List Str := ["self"]
theorem sc_Program_steps : FnScope N_Program_steps ["self"] (defScope (inClass (topS 25) 1)) := ⟨rfl, rfl, rfl, by decide +kernel, rfl, by decide +kernel, by decide +kernel⟩
abbrev N_parts_of_cores : List Str := ["program"]
theorem sc_parts_of_cores : FnScope N_parts_of_cores ["program"] (defScope (topS 35)) := ⟨rfl, rfl, rfl, by decide +kernel, rfl, by decide +kernel, by decide +kernel⟩
abbrev N_are_core_parts : List Str := ["parts"]
theorem sc_are_core_parts : FnScope N_are_core_parts ["parts"] (defScope (topS 36)) := ⟨rfl, rfl, rfl, by decide +kernel, rfl, by decide +kernel, by decide +kernel⟩
abbrev N_is_core : List Str := ["program"]
theorem sc_is_core : FnScope N_is_core ["program"] (defScope (topS 37)) := ⟨rfl, rfl, rfl, by decide +kernel, rfl, by decide +kernel, by decide +kernel⟩
abbrev N_need_core : List Str := ["core"]
theorem sc_need_core : FnScope N_need_core ["core"] (defScope (topS 38)) := ⟨rfl, rfl, rfl, by decide +kernel, rfl, by decide +kernel, by decide +kernel⟩
abbrev N_with_end : List Str := ["quarter", "turn", "move", "a", "b", "c", "d", "left", "mixed", "zero", "right"]
theorem sc_with_end : FnScope N_with_end ["quarter", "turn", "move"] (defScope (topS 43)) := ⟨rfl, rfl, rfl, by decide +kernel, rfl, by decide +kernel, by decide +kernel⟩
abbrev N_couples_of : List Str := ["core", "steps", "found", "at"]
theorem sc_couples_of : FnScope N_couples_of ["core"] (defScope (topS 44)) := ⟨rfl, rfl, rfl, by decide +kernel, rfl, by decide +kernel, by decide +kernel⟩
abbrev N_Rule_coefficients : List Str := ["self"]
theorem sc_Rule_coefficients : FnScope N_Rule_coefficients ["self"] (defScope (inClass (topS 15) 1)) := ⟨rfl, rfl, rfl, by decide +kernel, rfl, by decide +kernel, by decide +kernel⟩
abbrev N_lower_sum : List Str := ["rule", "number"]
theorem sc_lower_sum : FnScope N_lower_sum ["rule"] (defScope (topS 45)) := ⟨rfl, rfl, rfl, by decide +kernel, rfl, by decide +kernel, by decide +kernel⟩
abbrev N_least_height : List Str := ["rule", "numbers", "width", "a", "b", "c", "d", "s", "t"]
theorem sc_least_height : FnScope N_least_height ["rule", "numbers", "width"] (defScope (topS 46)) := ⟨rfl, rfl, rfl, by decide +kernel, rfl, by decide +kernel, by decide +kernel⟩
abbrev N_least_reach : List Str := ["rule", "numbers", "width", "a", "b", "c", "d", "s", "t", "both", "shift", "rest"]
theorem sc_least_reach : FnScope N_least_reach ["rule", "numbers", "width"] (defScope (topS 47)) := ⟨rfl, rfl, rfl, by decide +kernel, rfl, by decide +kernel, by decide +kernel⟩
abbrev N_Wedge___init__ : List Str := ["self", "core", "couples", "width", "height", "rule", "numbers"]
theorem sc_Wedge___init__ : FnScope N_Wedge___init__ ["self", "core"] (defScope (inClass (topS 48) 0)) := ⟨rfl, rfl, rfl, by decide +kernel, rfl, by decide +kernel, by decide +kernel⟩
abbrev N_law_places : List Str := ["_law_state", "_law_sizes_here", "_law_wide", "_law_low", "_law_found", "_law_left", "_law_lap", "_law_right"]
theorem sc_law_places : FnScope N_law_places ["_law_state", "_law_sizes_here"] (defScope (topS 72)) := ⟨rfl, rfl, rfl, by decide +kernel, rfl, by decide +kernel, by decide +kernel⟩
abbrev N_law_is_within : List Str := ["_law_sizes_here", "_law_place"]
theorem sc_law_is_within : FnScope N_law_is_within ["_law_sizes_here", "_law_place"] (defScope (topS 58)) := ⟨rfl, rfl, rfl, by decide +kernel, rfl, by decide +kernel, by decide +kernel⟩
abbrev N_law_rule_at : List Str := ["_law_row", "_law_t", "_law_found", "_law_worth"]
theorem sc_law_rule_at : FnScope N_law_rule_at ["_law_row", "_law_t"] (defScope (topS 66)) := ⟨rfl, rfl, rfl, by decide +kernel, rfl, by decide +kernel, by decide +kernel⟩
abbrev N_law_step_done : List Str := ["_law_step", "_law_x", "_law_y"]
theorem sc_law_step_done : FnScope N_law_step_done ["_law_step", "_law_x", "_law_y"] (defScope (topS 68)) := ⟨rfl, rfl, rfl, by decide +kernel, rfl, by decide +kernel, by decide +kernel⟩
abbrev N_law_run : List Str := ["_law_steps", "_law_x", "_law_y", "_law_step"]
theorem sc_law_run : FnScope N_law_run ["_law_steps", "_law_x", "_law_y"] (defScope (topS 69)) := ⟨rfl, rfl, rfl, by decide +kernel, rfl, by decide +kernel, by decide +kernel⟩
abbrev N_law_fate : List Str := ["_law_steps", "_law_sizes_here", "_law_place", "_law_here", "_law_many"]
theorem sc_law_fate : FnScope N_law_fate ["_law_steps", "_law_sizes_here", "_law_place"] (defScope (topS 59)) := ⟨rfl, rfl, rfl, by decide +kernel, rfl, by decide +kernel, by decide +kernel⟩
abbrev N_is_number_fates : List Str := ["thing"]
theorem sc_is_number_fates : FnScope N_is_number_fates ["thing"] (defScope (topS 40)) := ⟨rfl, rfl, rfl, by decide +kernel, rfl, by decide +kernel, by decide +kernel⟩
abbrev N_is_point : List Str := ["thing"]
theorem sc_is_point : FnScope N_is_point ["thing"] (defScope (topS 42)) := ⟨rfl, rfl, rfl, by decide +kernel, rfl, by decide +kernel, by decide +kernel⟩
abbrev N_Wedge___contains__ : List Str := ["self", "point"]
theorem sc_Wedge___contains__ : FnScope N_Wedge___contains__ ["self", "point"] (defScope (inClass (topS 48) 5)) := ⟨rfl, rfl, rfl, by decide +kernel, rfl, by decide +kernel, by decide +kernel⟩
abbrev N_need_point : List Str := ["x", "y"]
theorem sc_need_point : FnScope N_need_point ["x", "y"] (defScope (topS 20)) := ⟨rfl, rfl, rfl, by decide +kernel, rfl, by decide +kernel, by decide +kernel⟩
abbrev N_row_value : List Str := ["numbers", "t", "found", "number"]
theorem sc_row_value : FnScope N_row_value ["numbers", "t"] (defScope (topS 16)) := ⟨rfl, rfl, rfl, by decide +kernel, rfl, by decide +kernel, by decide +kernel⟩
abbrev N_done : List Str := ["step", "x", "y"]
theorem sc_done : FnScope N_done ["step", "x", "y"] (defScope (topS 23)) := ⟨rfl, rfl, rfl, by decide +kernel, rfl, by decide +kernel, by decide +kernel⟩
abbrev N_Program___call__ : List Str := ["self", "x", "y", "step"]
theorem sc_Program___call__ : FnScope N_Program___call__ ["self", "x", "y"] (defScope (inClass (topS 25) 3)) := ⟨rfl, rfl, rfl, by decide +kernel, rfl, by decide +kernel, by decide +kernel⟩
abbrev N_fate_by : List Str := ["core", "wedge", "point", "here", "passes"]
theorem sc_fate_by : FnScope N_fate_by ["core", "wedge", "point"] (defScope (topS 49)) := ⟨rfl, rfl, rfl, by decide +kernel, rfl, by decide +kernel, by decide +kernel⟩
abbrev N_fate : List Str := ["core", "x", "y", "wedge"]
theorem sc_fate : FnScope N_fate ["core", "x", "y"] (defScope (topS 50)) := ⟨rfl, rfl, rfl, by decide +kernel, rfl, by decide +kernel, by decide +kernel⟩
abbrev N_law_begun : List Str := ["_law_script", "_law_wide", "_law_cell"]
theorem sc_law_begun : FnScope N_law_begun ["_law_script"] (defScope (topS 61)) := ⟨rfl, rfl, rfl, by decide +kernel, rfl, by decide +kernel, by decide +kernel⟩
abbrev N_law : List Str := ["_law_script", "_law_state", "_law_turn", "_law_steps", "_law_made", "_law_sizes_here", "_law_fan", "_law_place", "_law_due", "_law_told", "_law_later"]
theorem sc_law : FnScope N_law ["_law_script"] (defScope (topS 73)) := ⟨rfl, rfl, rfl, by decide +kernel, rfl, by decide +kernel, by decide +kernel⟩
abbrev N_BadProgram___init__ : List Str := ["self", "at"]
theorem sc_BadProgram___init__ : FnScope N_BadProgram___init__ ["self", "at"] (defScope (inClass (topS 5) 0)) := ⟨rfl, rfl, rfl, by decide +kernel, rfl, by decide +kernel, by decide +kernel⟩
abbrev N_BadRule___init__ : List Str := ["self", "at"]
theorem sc_BadRule___init__ : FnScope N_BadRule___init__ ["self", "at"] (defScope (inClass (topS 3) 0)) := ⟨rfl, rfl, rfl, by decide +kernel, rfl, by decide +kernel, by decide +kernel⟩
structure Tx (K : PySem.W.Frag) (mg : Str → Option Value) : Prop where
  g_BadPoint : mg "BadPoint" = some (.ref (He.ga K "BadPoint"))
  g_BadPower : mg "BadPower" = some (.ref (He.ga K "BadPower"))
  g_BadProgram : mg "BadProgram" = some (.ref (He.ga K "BadProgram"))
  g_BadRule : mg "BadRule" = some (.ref (He.ga K "BadRule"))
  g_CrossError : mg "CrossError" = some (.ref (He.ga K "CrossError"))
  g_NoCore : mg "NoCore" = some (.ref (He.ga K "NoCore"))
  g_Program : mg "Program" = some (.ref (He.ga K "Program"))
  g_Rule : mg "Rule" = some (.ref (He.ga K "Rule"))
  g_Wedge : mg "Wedge" = some (.ref (He.ga K "Wedge"))
  g__law_begun : mg "_law_begun" = some (.ref (He.ga K "_law_begun"))
  g__law_core : mg "_law_core" = some (.ref (He.ga K "_law_core"))
  g__law_couples : mg "_law_couples" = some (.ref (He.ga K "_law_couples"))
  g__law_curl : mg "_law_curl" = some (.ref (He.ga K "_law_curl"))
  g__law_fate : mg "_law_fate" = some (.ref (He.ga K "_law_fate"))
  g__law_is_low : mg "_law_is_low" = some (.ref (He.ga K "_law_is_low"))
  g__law_is_within : mg "_law_is_within" = some (.ref (He.ga K "_law_is_within"))
  g__law_mixed : mg "_law_mixed" = some (.ref (He.ga K "_law_mixed"))
  g__law_number : mg "_law_number" = some (.ref (He.ga K "_law_number"))
  g__law_pick : mg "_law_pick" = some (.ref (He.ga K "_law_pick"))
  g__law_places : mg "_law_places" = some (.ref (He.ga K "_law_places"))
  g__law_program_of : mg "_law_program_of" = some (.ref (He.ga K "_law_program_of"))
  g__law_rule_at : mg "_law_rule_at" = some (.ref (He.ga K "_law_rule_at"))
  g__law_run : mg "_law_run" = some (.ref (He.ga K "_law_run"))
  g__law_sizes : mg "_law_sizes" = some (.ref (He.ga K "_law_sizes"))
  g__law_small_core : mg "_law_small_core" = some (.ref (He.ga K "_law_small_core"))
  g__law_step_done : mg "_law_step_done" = some (.ref (He.ga K "_law_step_done"))
  g__law_step_of : mg "_law_step_of" = some (.ref (He.ga K "_law_step_of"))
  g__law_swing : mg "_law_swing" = some (.ref (He.ga K "_law_swing"))
  g__law_tail : mg "_law_tail" = some (.ref (He.ga K "_law_tail"))
  g__law_take : mg "_law_take" = some (.ref (He.ga K "_law_take"))
  g_are_core_parts : mg "are_core_parts" = some (.ref (He.ga K "are_core_parts"))
  g_couples_of : mg "couples_of" = some (.ref (He.ga K "couples_of"))
  g_done : mg "done" = some (.ref (He.ga K "done"))
  g_fate : mg "fate" = some (.ref (He.ga K "fate"))
  g_fate_by : mg "fate_by" = some (.ref (He.ga K "fate_by"))
  g_is_bend : mg "is_bend" = some (.ref (He.ga K "is_bend"))
  g_is_core : mg "is_core" = some (.ref (He.ga K "is_core"))
  g_is_from : mg "is_from" = some (.ref (He.ga K "is_from"))
  g_is_list : mg "is_list" = some (.ref (He.ga K "is_list"))
  g_is_number_fates : mg "is_number_fates" = some (.ref (He.ga K "is_number_fates"))
  g_is_number_rules : mg "is_number_rules" = some (.ref (He.ga K "is_number_rules"))
  g_is_plain : mg "is_plain" = some (.ref (He.ga K "is_plain"))
  g_is_point : mg "is_point" = some (.ref (He.ga K "is_point"))
  g_is_quarter : mg "is_quarter" = some (.ref (He.ga K "is_quarter"))
  g_is_step : mg "is_step" = some (.ref (He.ga K "is_step"))
  g_least_height : mg "least_height" = some (.ref (He.ga K "least_height"))
  g_least_reach : mg "least_reach" = some (.ref (He.ga K "least_reach"))
  g_lower_sum : mg "lower_sum" = some (.ref (He.ga K "lower_sum"))
  g_need_core : mg "need_core" = some (.ref (He.ga K "need_core"))
  g_need_point : mg "need_point" = some (.ref (He.ga K "need_point"))
  g_need_program_cores : mg "need_program_cores" = some (.ref (He.ga K "need_program_cores"))
  g_need_program_programs : mg "need_program_programs" = some (.ref (He.ga K "need_program_programs"))
  g_parts_of : mg "parts_of" = some (.ref (He.ga K "parts_of"))
  g_row_value : mg "row_value" = some (.ref (He.ga K "row_value"))
  g_with_end : mg "with_end" = some (.ref (He.ga K "with_end"))
  g_without_end : mg "without_end" = some (.ref (He.ga K "without_end"))
  g_law : mg "law" = some (.ref (He.ga K "law"))
  n_abs : mg "abs" = none
  n_all : mg "all" = none
  n_bool : mg "bool" = none
  n_enumerate : mg "enumerate" = none
  n_int : mg "int" = none
  n_isinstance : mg "isinstance" = none
  n_len : mg "len" = none
  n_list : mg "list" = none
  n_max : mg "max" = none
  n_min : mg "min" = none
  n_range : mg "range" = none
  n_repr : mg "repr" = none
  n_str : mg "str" = none
  n_sum : mg "sum" = none
  n_tuple : mg "tuple" = none
  n_zip : mg "zip" = none
  ctx : CtxOk (cx K)
  co_Program : StX.CallO K (He.ga K "Program") (He.ma K (He.ga K "Program") "__call__")
  cl_Program : Cls K (He.ga K "Program")
  cl_Rule : Cls K (He.ga K "Rule")
  cl_Wedge : Cls K (He.ga K "Wedge")
  dg : PySem.W.nsIn K cStatics "sys.int_max_str_digits" = some none
  er_BadProgram : ErI K (He.ga K "BadProgram") (He.ma K (He.ga K "BadProgram") "__init__") "at"
  er_BadRule : ErI K (He.ga K "BadRule") (He.ma K (He.ga K "BadRule") "__init__") "at"
  er_BadPoint : ErN K (He.ga K "BadPoint")
  er_BadPower : ErN K (He.ga K "BadPower")
  er_NoCore : ErN K (He.ga K "NoCore")
  fi_Rule_getitem : PySem.W.fnIn K (He.ma K (He.ga K "Rule") "__getitem__") = true
  mk_Program : Mk K (He.ga K "Program") (He.ma K (He.ga K "Program") "__init__")
  mk_Rule : Mk K (He.ga K "Rule") (He.ma K (He.ga K "Rule") "__init__")
  mk_Wedge : Mk K (He.ga K "Wedge") (He.ma K (He.ga K "Wedge") "__init__")
  na_Program_own_steps : NoAttr K (He.ga K "Program") "own_steps"
  na_Rule_own_numbers : NoAttr K (He.ga K "Rule") "own_numbers"
  na_Wedge_own_core : NoAttr K (He.ga K "Wedge") "own_core"
  na_Wedge_own_height : NoAttr K (He.ga K "Wedge") "own_height"
  na_Wedge_own_reach : NoAttr K (He.ga K "Wedge") "own_reach"
  na_Wedge_own_width : NoAttr K (He.ga K "Wedge") "own_width"
  prop_Program_steps : PropOf K (He.ga K "Program") "steps" (He.ma K (He.ga K "Program") "steps") (recAt K "property" (He.ma K (He.ga K "Program") "steps"))
  prop_Rule_coefficients : PropOf K (He.ga K "Rule") "coefficients" (He.ma K (He.ga K "Rule") "coefficients") (recAt K "property" (He.ma K (He.ga K "Rule") "coefficients"))
  prop_Rule_degree : PropOf K (He.ga K "Rule") "degree" (He.ma K (He.ga K "Rule") "degree") (recAt K "property" (He.ma K (He.ga K "Rule") "degree"))
  spl_Rule_getitem : Spl K (He.ga K "Rule") "__getitem__" (He.ma K (He.ga K "Rule") "__getitem__")
  spl_Wedge_contains : Spl K (He.ga K "Wedge") "__contains__" (He.ma K (He.ga K "Wedge") "__contains__")
  cr_CE : ClX.CRead K (He.ga K "CrossError") (.type "type")
  vi_CE : PySem.W.findCls K (.ref (He.ga K "CrossError")) (.type "type") "__init__" = some (.val (.builtin "ValueError.__init__"))
  f_law_mixed : ∃ fd, FunD K "_law_mixed" "_law_mixed" (defArgs (topS 62)) (defBody (topS 62)) (defScope (topS 62)) (d_law_mixed.dvs K) [] (He.ga K "_law_mixed") fd
  f_law_take : ∃ fd, FunD K "_law_take" "_law_take" (defArgs (topS 63)) (defBody (topS 63)) (defScope (topS 63)) (d_law_take.dvs K) [] (He.ga K "_law_take") fd
  f_law_pick : ∃ fd, FunD K "_law_pick" "_law_pick" (defArgs (topS 64)) (defBody (topS 64)) (defScope (topS 64)) (d_law_pick.dvs K) [] (He.ga K "_law_pick") fd
  f_law_number : ∃ fd, FunD K "_law_number" "_law_number" (defArgs (topS 65)) (defBody (topS 65)) (defScope (topS 65)) (d_law_number.dvs K) [] (He.ga K "_law_number") fd
  f_law_curl : ∃ fd, FunD K "_law_curl" "_law_curl" (defArgs (topS 52)) (defBody (topS 52)) (defScope (topS 52)) (d_law_curl.dvs K) [] (He.ga K "_law_curl") fd
  f_law_swing : ∃ fd, FunD K "_law_swing" "_law_swing" (defArgs (topS 53)) (defBody (topS 53)) (defScope (topS 53)) (d_law_swing.dvs K) [] (He.ga K "_law_swing") fd
  f_law_tail : ∃ fd, FunD K "_law_tail" "_law_tail" (defArgs (topS 54)) (defBody (topS 54)) (defScope (topS 54)) (d_law_tail.dvs K) [] (He.ga K "_law_tail") fd
  f_law_core : ∃ fd, FunD K "_law_core" "_law_core" (defArgs (topS 55)) (defBody (topS 55)) (defScope (topS 55)) (d_law_core.dvs K) [] (He.ga K "_law_core") fd
  f_law_small_core : ∃ fd, FunD K "_law_small_core" "_law_small_core" (defArgs (topS 60)) (defBody (topS 60)) (defScope (topS 60)) (d_law_small_core.dvs K) [] (He.ga K "_law_small_core") fd
  f_law_is_low : ∃ fd, FunD K "_law_is_low" "_law_is_low" (defArgs (topS 67)) (defBody (topS 67)) (defScope (topS 67)) (d_law_is_low.dvs K) [] (He.ga K "_law_is_low") fd
  f_is_list : ∃ fd, FunD K "is_list" "is_list" (defArgs (topS 13)) (defBody (topS 13)) (defScope (topS 13)) (d_is_list.dvs K) [] (He.ga K "is_list") fd
  f_is_number : ∃ fd, FunD K "is_number" "is_number" (defArgs (topS 10)) (defBody (topS 10)) (defScope (topS 10)) (d_is_number.dvs K) [] (He.ga K "is_number_rules") fd
  f_without_end : ∃ fd, FunD K "without_end" "without_end" (defArgs (topS 14)) (defBody (topS 14)) (defScope (topS 14)) (d_without_end.dvs K) [] (He.ga K "without_end") fd
  f_Rule___init__ : ∃ fd, FunD K "__init__" "Rule.__init__" (defArgs (inClass (topS 15) 0)) (defBody (inClass (topS 15) 0)) (defScope (inClass (topS 15) 0)) (d_Rule___init__.dvs K) [] (He.ma K (He.ga K "Rule") "__init__") fd
  f_law_step_of : ∃ fd, FunD K "_law_step_of" "_law_step_of" (defArgs (topS 70)) (defBody (topS 70)) (defScope (topS 70)) (d_law_step_of.dvs K) [] (He.ga K "_law_step_of") fd
  f_is_step : ∃ fd, FunD K "is_step" "is_step" (defArgs (topS 22)) (defBody (topS 22)) (defScope (topS 22)) (d_is_step.dvs K) [] (He.ga K "is_step") fd
  f_Program___init__ : ∃ fd, FunD K "__init__" "Program.__init__" (defArgs (inClass (topS 25) 0)) (defBody (inClass (topS 25) 0)) (defScope (inClass (topS 25) 0)) (d_Program___init__.dvs K) [] (He.ma K (He.ga K "Program") "__init__") fd
  f_law_program_of : ∃ fd, FunD K "_law_program_of" "_law_program_of" (defArgs (topS 71)) (defBody (topS 71)) (defScope (topS 71)) (d_law_program_of.dvs K) [] (He.ga K "_law_program_of") fd
  f_law_couples : ∃ fd, FunD K "_law_couples" "_law_couples" (defArgs (topS 56)) (defBody (topS 56)) (defScope (topS 56)) (d_law_couples.dvs K) [] (He.ga K "_law_couples") fd
  f_law_sizes : ∃ fd, FunD K "_law_sizes" "_law_sizes" (defArgs (topS 57)) (defBody (topS 57)) (defScope (topS 57)) (d_law_sizes.dvs K) [] (He.ga K "_law_sizes") fd
  f_need_program_cores : ∃ fd, FunD K "need_program" "need_program" (defArgs (topS 33)) (defBody (topS 33)) (defScope (topS 33)) (d_need_program_cores.dvs K) [] (He.ga K "need_program_cores") fd
  f_need_program : ∃ fd, FunD K "need_program" "need_program" (defArgs (topS 26)) (defBody (topS 26)) (defScope (topS 26)) (d_need_program.dvs K) [] (He.ga K "need_program_programs") fd
  f_Rule_degree : ∃ fd, FunD K "degree" "Rule.degree" (defArgs (inClass (topS 15) 2)) (defBody (inClass (topS 15) 2)) (defScope (inClass (topS 15) 2)) (d_Rule_degree.dvs K) [] (recAt K "property" (He.ma K (He.ga K "Rule") "degree")) fd
  f_is_from : ∃ fd, FunD K "is_from" "is_from" (defArgs (topS 12)) (defBody (topS 12)) (defScope (topS 12)) (d_is_from.dvs K) [] (He.ga K "is_from") fd
  f_Rule___getitem__ : ∃ fd, FunD K "__getitem__" "Rule.__getitem__" (defArgs (inClass (topS 15) 5)) (defBody (inClass (topS 15) 5)) (defScope (inClass (topS 15) 5)) (d_Rule___getitem__.dvs K) [] (He.ma K (He.ga K "Rule") "__getitem__") fd
  f_is_bend : ∃ fd, FunD K "is_bend" "is_bend" (defArgs (topS 29)) (defBody (topS 29)) (defScope (topS 29)) (d_is_bend.dvs K) [] (He.ga K "is_bend") fd
  f_is_quarter : ∃ fd, FunD K "is_quarter" "is_quarter" (defArgs (topS 30)) (defBody (topS 30)) (defScope (topS 30)) (d_is_quarter.dvs K) [] (He.ga K "is_quarter") fd
  f_is_plain : ∃ fd, FunD K "is_plain" "is_plain" (defArgs (topS 31)) (defBody (topS 31)) (defScope (topS 31)) (d_is_plain.dvs K) [] (He.ga K "is_plain") fd
  f_Program_steps : ∃ fd, FunD K "steps" "Program.steps" (defArgs (inClass (topS 25) 1)) (defBody (inClass (topS 25) 1)) (defScope (inClass (topS 25) 1)) (d_Program_steps.dvs K) [] (recAt K "property" (He.ma K (He.ga K "Program") "steps")) fd
  f_parts_of_cores : ∃ fd, FunD K "parts_of" "parts_of" (defArgs (topS 35)) (defBody (topS 35)) (defScope (topS 35)) (d_parts_of_cores.dvs K) [] (He.ga K "parts_of") fd
  f_are_core_parts : ∃ fd, FunD K "are_core_parts" "are_core_parts" (defArgs (topS 36)) (defBody (topS 36)) (defScope (topS 36)) (d_are_core_parts.dvs K) [] (He.ga K "are_core_parts") fd
  f_is_core : ∃ fd, FunD K "is_core" "is_core" (defArgs (topS 37)) (defBody (topS 37)) (defScope (topS 37)) (d_is_core.dvs K) [] (He.ga K "is_core") fd
  f_need_core : ∃ fd, FunD K "need_core" "need_core" (defArgs (topS 38)) (defBody (topS 38)) (defScope (topS 38)) (d_need_core.dvs K) [] (He.ga K "need_core") fd
  f_with_end : ∃ fd, FunD K "with_end" "with_end" (defArgs (topS 43)) (defBody (topS 43)) (defScope (topS 43)) (d_with_end.dvs K) [] (He.ga K "with_end") fd
  f_couples_of : ∃ fd, FunD K "couples_of" "couples_of" (defArgs (topS 44)) (defBody (topS 44)) (defScope (topS 44)) (d_couples_of.dvs K) [] (He.ga K "couples_of") fd
  f_Rule_coefficients : ∃ fd, FunD K "coefficients" "Rule.coefficients" (defArgs (inClass (topS 15) 1)) (defBody (inClass (topS 15) 1)) (defScope (inClass (topS 15) 1)) (d_Rule_coefficients.dvs K) [] (recAt K "property" (He.ma K (He.ga K "Rule") "coefficients")) fd
  f_lower_sum : ∃ fd, FunD K "lower_sum" "lower_sum" (defArgs (topS 45)) (defBody (topS 45)) (defScope (topS 45)) (d_lower_sum.dvs K) [] (He.ga K "lower_sum") fd
  f_least_height : ∃ fd, FunD K "least_height" "least_height" (defArgs (topS 46)) (defBody (topS 46)) (defScope (topS 46)) (d_least_height.dvs K) [] (He.ga K "least_height") fd
  f_least_reach : ∃ fd, FunD K "least_reach" "least_reach" (defArgs (topS 47)) (defBody (topS 47)) (defScope (topS 47)) (d_least_reach.dvs K) [] (He.ga K "least_reach") fd
  f_Wedge___init__ : ∃ fd, FunD K "__init__" "Wedge.__init__" (defArgs (inClass (topS 48) 0)) (defBody (inClass (topS 48) 0)) (defScope (inClass (topS 48) 0)) (d_Wedge___init__.dvs K) [] (He.ma K (He.ga K "Wedge") "__init__") fd
  f_law_places : ∃ fd, FunD K "_law_places" "_law_places" (defArgs (topS 72)) (defBody (topS 72)) (defScope (topS 72)) (d_law_places.dvs K) [] (He.ga K "_law_places") fd
  f_law_is_within : ∃ fd, FunD K "_law_is_within" "_law_is_within" (defArgs (topS 58)) (defBody (topS 58)) (defScope (topS 58)) (d_law_is_within.dvs K) [] (He.ga K "_law_is_within") fd
  f_law_rule_at : ∃ fd, FunD K "_law_rule_at" "_law_rule_at" (defArgs (topS 66)) (defBody (topS 66)) (defScope (topS 66)) (d_law_rule_at.dvs K) [] (He.ga K "_law_rule_at") fd
  f_law_step_done : ∃ fd, FunD K "_law_step_done" "_law_step_done" (defArgs (topS 68)) (defBody (topS 68)) (defScope (topS 68)) (d_law_step_done.dvs K) [] (He.ga K "_law_step_done") fd
  f_law_run : ∃ fd, FunD K "_law_run" "_law_run" (defArgs (topS 69)) (defBody (topS 69)) (defScope (topS 69)) (d_law_run.dvs K) [] (He.ga K "_law_run") fd
  f_law_fate : ∃ fd, FunD K "_law_fate" "_law_fate" (defArgs (topS 59)) (defBody (topS 59)) (defScope (topS 59)) (d_law_fate.dvs K) [] (He.ga K "_law_fate") fd
  f_is_number_fates : ∃ fd, FunD K "is_number" "is_number" (defArgs (topS 40)) (defBody (topS 40)) (defScope (topS 40)) (d_is_number_fates.dvs K) [] (He.ga K "is_number_fates") fd
  f_is_point : ∃ fd, FunD K "is_point" "is_point" (defArgs (topS 42)) (defBody (topS 42)) (defScope (topS 42)) (d_is_point.dvs K) [] (He.ga K "is_point") fd
  f_Wedge___contains__ : ∃ fd, FunD K "__contains__" "Wedge.__contains__" (defArgs (inClass (topS 48) 5)) (defBody (inClass (topS 48) 5)) (defScope (inClass (topS 48) 5)) (d_Wedge___contains__.dvs K) [] (He.ma K (He.ga K "Wedge") "__contains__") fd
  f_need_point : ∃ fd, FunD K "need_point" "need_point" (defArgs (topS 20)) (defBody (topS 20)) (defScope (topS 20)) (d_need_point.dvs K) [] (He.ga K "need_point") fd
  f_row_value : ∃ fd, FunD K "row_value" "row_value" (defArgs (topS 16)) (defBody (topS 16)) (defScope (topS 16)) (d_row_value.dvs K) [] (He.ga K "row_value") fd
  f_done : ∃ fd, FunD K "done" "done" (defArgs (topS 23)) (defBody (topS 23)) (defScope (topS 23)) (d_done.dvs K) [] (He.ga K "done") fd
  f_Program___call__ : ∃ fd, FunD K "__call__" "Program.__call__" (defArgs (inClass (topS 25) 3)) (defBody (inClass (topS 25) 3)) (defScope (inClass (topS 25) 3)) (d_Program___call__.dvs K) [] (He.ma K (He.ga K "Program") "__call__") fd
  f_fate_by : ∃ fd, FunD K "fate_by" "fate_by" (defArgs (topS 49)) (defBody (topS 49)) (defScope (topS 49)) (d_fate_by.dvs K) [] (He.ga K "fate_by") fd
  f_fate : ∃ fd, FunD K "fate" "fate" (defArgs (topS 50)) (defBody (topS 50)) (defScope (topS 50)) (d_fate.dvs K) [] (He.ga K "fate") fd
  f_law_begun : ∃ fd, FunD K "_law_begun" "_law_begun" (defArgs (topS 61)) (defBody (topS 61)) (defScope (topS 61)) (d_law_begun.dvs K) [] (He.ga K "_law_begun") fd
  f_law : ∃ fd, FunD K "law" "law" (defArgs (topS 73)) (defBody (topS 73)) (defScope (topS 73)) (d_law.dvs K) [] (He.ga K "law") fd
  f_BadProgram___init__ : ∃ fd, FunD K "__init__" "BadProgram.__init__" (defArgs (inClass (topS 5) 0)) (defBody (inClass (topS 5) 0)) (defScope (inClass (topS 5) 0)) (d_BadProgram___init__.dvs K) [] (He.ma K (He.ga K "BadProgram") "__init__") fd
  f_BadRule___init__ : ∃ fd, FunD K "__init__" "BadRule.__init__" (defArgs (inClass (topS 3) 0)) (defBody (inClass (topS 3) 0)) (defScope (inClass (topS 3) 0)) (d_BadRule___init__.dvs K) [] (He.ma K (He.ga K "BadRule") "__init__") fd
theorem tx {K : PySem.W.Frag} {h : Heap} {mg : Str → Option Value} (X : K.In h) (G : h.Ns mainGlobals mg) (c : SaysX bs fn K) : Tx K mg where
  g_BadPoint := He.glo_ok X G (c.fact 0)
  g_BadPower := He.glo_ok X G (c.fact 1)
  g_BadProgram := He.glo_ok X G (c.fact 2)
  g_BadRule := He.glo_ok X G (c.fact 3)
  g_CrossError := He.glo_ok X G (c.fact 4)
  g_NoCore := He.glo_ok X G (c.fact 5)
  g_Program := He.glo_ok X G (c.fact 6)
  g_Rule := He.glo_ok X G (c.fact 7)
  g_Wedge := He.glo_ok X G (c.fact 8)
  g__law_begun := He.glo_ok X G (c.fact 9)
  g__law_core := He.glo_ok X G (c.fact 10)
  g__law_couples := He.glo_ok X G (c.fact 11)
  g__law_curl := He.glo_ok X G (c.fact 12)
  g__law_fate := He.glo_ok X G (c.fact 13)
  g__law_is_low := He.glo_ok X G (c.fact 14)
  g__law_is_within := He.glo_ok X G (c.fact 15)
  g__law_mixed := He.glo_ok X G (c.fact 16)
  g__law_number := He.glo_ok X G (c.fact 17)
  g__law_pick := He.glo_ok X G (c.fact 18)
  g__law_places := He.glo_ok X G (c.fact 19)
  g__law_program_of := He.glo_ok X G (c.fact 20)
  g__law_rule_at := He.glo_ok X G (c.fact 21)
  g__law_run := He.glo_ok X G (c.fact 22)
  g__law_sizes := He.glo_ok X G (c.fact 23)
  g__law_small_core := He.glo_ok X G (c.fact 24)
  g__law_step_done := He.glo_ok X G (c.fact 25)
  g__law_step_of := He.glo_ok X G (c.fact 26)
  g__law_swing := He.glo_ok X G (c.fact 27)
  g__law_tail := He.glo_ok X G (c.fact 28)
  g__law_take := He.glo_ok X G (c.fact 29)
  g_are_core_parts := He.glo_ok X G (c.fact 30)
  g_couples_of := He.glo_ok X G (c.fact 31)
  g_done := He.glo_ok X G (c.fact 32)
  g_fate := He.glo_ok X G (c.fact 33)
  g_fate_by := He.glo_ok X G (c.fact 34)
  g_is_bend := He.glo_ok X G (c.fact 35)
  g_is_core := He.glo_ok X G (c.fact 36)
  g_is_from := He.glo_ok X G (c.fact 37)
  g_is_list := He.glo_ok X G (c.fact 38)
  g_is_number_fates := He.glo_ok X G (c.fact 39)
  g_is_number_rules := He.glo_ok X G (c.fact 40)
  g_is_plain := He.glo_ok X G (c.fact 41)
  g_is_point := He.glo_ok X G (c.fact 42)
  g_is_quarter := He.glo_ok X G (c.fact 43)
  g_is_step := He.glo_ok X G (c.fact 44)
  g_least_height := He.glo_ok X G (c.fact 45)
  g_least_reach := He.glo_ok X G (c.fact 46)
  g_lower_sum := He.glo_ok X G (c.fact 47)
  g_need_core := He.glo_ok X G (c.fact 48)
  g_need_point := He.glo_ok X G (c.fact 49)
  g_need_program_cores := He.glo_ok X G (c.fact 50)
  g_need_program_programs := He.glo_ok X G (c.fact 51)
  g_parts_of := He.glo_ok X G (c.fact 52)
  g_row_value := He.glo_ok X G (c.fact 53)
  g_with_end := He.glo_ok X G (c.fact 54)
  g_without_end := He.glo_ok X G (c.fact 55)
  g_law := He.glo_ok X G (c.fact 56)
  n_abs := He.free_ok X G (c.fact 57)
  n_all := He.free_ok X G (c.fact 58)
  n_bool := He.free_ok X G (c.fact 59)
  n_enumerate := He.free_ok X G (c.fact 60)
  n_int := He.free_ok X G (c.fact 61)
  n_isinstance := He.free_ok X G (c.fact 62)
  n_len := He.free_ok X G (c.fact 63)
  n_list := He.free_ok X G (c.fact 64)
  n_max := He.free_ok X G (c.fact 65)
  n_min := He.free_ok X G (c.fact 66)
  n_range := He.free_ok X G (c.fact 67)
  n_repr := He.free_ok X G (c.fact 68)
  n_str := He.free_ok X G (c.fact 69)
  n_sum := He.free_ok X G (c.fact 70)
  n_tuple := He.free_ok X G (c.fact 71)
  n_zip := He.free_ok X G (c.fact 72)
  ctx := ctxB_ok (c.fact 73)
  co_Program := callB_ok (c.fact 74)
  cl_Program := He.cls_ok (c.fact 75)
  cl_Rule := He.cls_ok (c.fact 76)
  cl_Wedge := He.cls_ok (c.fact 77)
  dg := noneB_ok (c.fact 78)
  er_BadProgram := eriB_ok (c.fact 79)
  er_BadRule := eriB_ok (c.fact 80)
  er_BadPoint := erB_ok (c.fact 81)
  er_BadPower := erB_ok (c.fact 82)
  er_NoCore := erB_ok (c.fact 83)
  fi_Rule_getitem := c.fact 84
  mk_Program := He.mkr_ok (c.fact 85)
  mk_Rule := He.mkr_ok (c.fact 86)
  mk_Wedge := He.mkr_ok (c.fact 87)
  na_Program_own_steps := He.noat_ok (c.fact 88)
  na_Rule_own_numbers := He.noat_ok (c.fact 89)
  na_Wedge_own_core := He.noat_ok (c.fact 90)
  na_Wedge_own_height := He.noat_ok (c.fact 91)
  na_Wedge_own_reach := He.noat_ok (c.fact 92)
  na_Wedge_own_width := He.noat_ok (c.fact 93)
  prop_Program_steps := propB_ok (c.fact 94)
  prop_Rule_coefficients := propB_ok (c.fact 95)
  prop_Rule_degree := propB_ok (c.fact 96)
  spl_Rule_getitem := splB_ok (c.fact 97)
  spl_Wedge_contains := splB_ok (c.fact 98)
  cr_CE := creadB_ok (c.fact 99)
  vi_CE := vInit_ok (c.fact 100)
  f_law_mixed := c.def_ 0 (d := d_law_mixed)
  f_law_take := c.def_ 1 (d := d_law_take)
  f_law_pick := c.def_ 2 (d := d_law_pick)
  f_law_number := c.def_ 3 (d := d_law_number)
  f_law_curl := c.def_ 4 (d := d_law_curl)
  f_law_swing := c.def_ 5 (d := d_law_swing)
  f_law_tail := c.def_ 6 (d := d_law_tail)
  f_law_core := c.def_ 7 (d := d_law_core)
  f_law_small_core := c.def_ 8 (d := d_law_small_core)
  f_law_is_low := c.def_ 9 (d := d_law_is_low)
  f_is_list := c.def_ 10 (d := d_is_list)
  f_is_number := c.def_ 11 (d := d_is_number)
  f_without_end := c.def_ 12 (d := d_without_end)
  f_Rule___init__ := c.def_ 13 (d := d_Rule___init__)
  f_law_step_of := c.def_ 14 (d := d_law_step_of)
  f_is_step := c.def_ 15 (d := d_is_step)
  f_Program___init__ := c.def_ 16 (d := d_Program___init__)
  f_law_program_of := c.def_ 17 (d := d_law_program_of)
  f_law_couples := c.def_ 18 (d := d_law_couples)
  f_law_sizes := c.def_ 19 (d := d_law_sizes)
  f_need_program_cores := c.def_ 20 (d := d_need_program_cores)
  f_need_program := c.def_ 21 (d := d_need_program)
  f_Rule_degree := c.def_ 22 (d := d_Rule_degree)
  f_is_from := c.def_ 23 (d := d_is_from)
  f_Rule___getitem__ := c.def_ 24 (d := d_Rule___getitem__)
  f_is_bend := c.def_ 25 (d := d_is_bend)
  f_is_quarter := c.def_ 26 (d := d_is_quarter)
  f_is_plain := c.def_ 27 (d := d_is_plain)
  f_Program_steps := c.def_ 28 (d := d_Program_steps)
  f_parts_of_cores := c.def_ 29 (d := d_parts_of_cores)
  f_are_core_parts := c.def_ 30 (d := d_are_core_parts)
  f_is_core := c.def_ 31 (d := d_is_core)
  f_need_core := c.def_ 32 (d := d_need_core)
  f_with_end := c.def_ 33 (d := d_with_end)
  f_couples_of := c.def_ 34 (d := d_couples_of)
  f_Rule_coefficients := c.def_ 35 (d := d_Rule_coefficients)
  f_lower_sum := c.def_ 36 (d := d_lower_sum)
  f_least_height := c.def_ 37 (d := d_least_height)
  f_least_reach := c.def_ 38 (d := d_least_reach)
  f_Wedge___init__ := c.def_ 39 (d := d_Wedge___init__)
  f_law_places := c.def_ 40 (d := d_law_places)
  f_law_is_within := c.def_ 41 (d := d_law_is_within)
  f_law_rule_at := c.def_ 42 (d := d_law_rule_at)
  f_law_step_done := c.def_ 43 (d := d_law_step_done)
  f_law_run := c.def_ 44 (d := d_law_run)
  f_law_fate := c.def_ 45 (d := d_law_fate)
  f_is_number_fates := c.def_ 46 (d := d_is_number_fates)
  f_is_point := c.def_ 47 (d := d_is_point)
  f_Wedge___contains__ := c.def_ 48 (d := d_Wedge___contains__)
  f_need_point := c.def_ 49 (d := d_need_point)
  f_row_value := c.def_ 50 (d := d_row_value)
  f_done := c.def_ 51 (d := d_done)
  f_Program___call__ := c.def_ 52 (d := d_Program___call__)
  f_fate_by := c.def_ 53 (d := d_fate_by)
  f_fate := c.def_ 54 (d := d_fate)
  f_law_begun := c.def_ 55 (d := d_law_begun)
  f_law := c.def_ 56 (d := d_law)
  f_BadProgram___init__ := c.def_ 57 (d := d_BadProgram___init__)
  f_BadRule___init__ := c.def_ 58 (d := d_BadRule___init__)
abbrev TbB (K : PySem.W.Frag) (base : Heap) (mg : Str → Option Value) : Prop := ∀ f ∈ tf, LamX.TabB base mg (codeAt K (f K)) (tabAt K (f K))
section
variable {P : Program} {w : PySem.World} {K : PySem.W.Frag} {mg : Str → Option Value} {base : Heap}
theorem ok_BadProgram___init__ (T : Tx K mg) : ∃ fd, FnOk P w K mg base C8.CX0 1 (He.ma K (He.ga K "BadProgram") "__init__") fd ["self", "at"] (sp_ei K "at") ∧ Binds K fd ["self", "at"] [] := by
  obtain ⟨fd, F⟩ := T.f_BadProgram___init__
  exact ⟨fd, einit_of F sc_BadProgram___init__ T.g_CrossError rfl rfl rfl T.cr_CE T.vi_CE, F.bindsN fun _ _ _ _ _ _ us hl => match us, hl with | [_, _], _ => rfl⟩
theorem ok_BadRule___init__ (T : Tx K mg) : ∃ fd, FnOk P w K mg base C8.CX0 1 (He.ma K (He.ga K "BadRule") "__init__") fd ["self", "at"] (sp_ei K "at") ∧ Binds K fd ["self", "at"] [] := by
  obtain ⟨fd, F⟩ := T.f_BadRule___init__
  exact ⟨fd, einit_of F sc_BadRule___init__ T.g_CrossError rfl rfl rfl T.cr_CE T.vi_CE, F.bindsN fun _ _ _ _ _ _ us hl => match us, hl with | [_, _], _ => rfl⟩
theorem ok_law_mixed (T : Tx K mg) (TB : TbB K base mg) : OkW P w (cx K) mg base 1 (He.ga K "_law_mixed") ["_law_state"] wp_law_mixed (1) (d_law_mixed.dvs K) := by
  obtain ⟨fd, F⟩ := T.f_law_mixed
  have nd := sc_law_mixed.nd
  have hb : Binds K fd ["_law_state"] [] := F.bindsN fun _ _ _ _ _ _ us hl => match us, hl with | [_], _ => rfl
  refine ⟨fd, fnW_of F sc_law_mixed (fun vs H Q E h => len_mixed h) (fun A outer s H vs Q E gd hr h => ⟨rd_law_mixed (cx K), PSs.nox ?_, run_mixed rfl h⟩), hb, F.kp, ⟨[], .nil, hb⟩⟩
  exact (pss_cons (ps_par (i := 1) (j := 2) (by rfl) nd rfl rfl (by decide) rfl rfl (pa_cons (pe_op op_add (pe_dget (hu_of hr) (pv 0) pe_str (fun _ _ => rfl)) pe_int) (pa_cons pe_int pa_nil)) (by rfl))
      (pss_cons (ps_dput (hu_of hr) (pv 0) pe_str (pv 1) rfl)
      (pss_cons (ps_for PassesOwn.never rfl (pi_list (pe_lst (pa_cons pe_int (pa_cons pe_int (pa_cons pe_int (pa_cons pe_int pa_nil)))))) (pg_name (i := 3) nd rfl (Or.inl rfl)) (pss_cons (ps_set (i := 4) nd rfl (Or.inl rfl) (pe_op op_add (pe_op op_mul pe_int (pv 1)) (pe_op op_fdiv (pv 3) pe_int)))
      (pss_cons (ps_for PassesOwn.never rfl (pi_list (pe_dget (hu_of hr) (pv 0) pe_str (fun _ _ => rfl))) (pg_name (i := 5) nd rfl (Or.inl rfl)) (pss_one (ps_set (i := 4) nd rfl (Or.inl rfl) (pe_op op_mod (pe_callTy call_intG (by rfl) T.n_int (by decide +kernel) (pa_cons (pe_op op_add (pe_op op_add (pe_op op_mul (pv 4) pe_int) (pv 5)) (pv 1)) pa_nil)) (pv 3)))))
      (pss_one (ps_set (i := 2) nd rfl (Or.inl rfl) (pe_op op_add (pe_op op_mul (pv 2) pe_int) (pe_op op_mod (pe_callTy call_intG (by rfl) T.n_int (by decide +kernel) (pa_cons (pe_op op_pow27 (pv 4) pe_int) pa_nil)) (pv 3))))))))
      (pss_one (ps_ret (pv 2))))))
theorem ok_law_take (T : Tx K mg) (TB : TbB K base mg) : OkW P w (cx K) mg base 2 (He.ga K "_law_take") ["_law_state", "_law_size"] wp_law_take (1) (d_law_take.dvs K) := by
  obtain ⟨fd, F⟩ := T.f_law_take
  obtain ⟨_, G_law_mixed, b_law_mixed, k_law_mixed, _, v_law_mixed, c_law_mixed⟩ := ok_law_mixed (P := P) (w := w) (base := base) T TB
  have nd := sc_law_take.nd
  have hb : Binds K fd ["_law_state", "_law_size"] [] := F.bindsN fun _ _ _ _ _ _ us hl => match us, hl with | [_, _], _ => rfl
  refine ⟨fd, fnW_of F sc_law_take (fun vs H Q E h => len_take h) (fun A outer s H vs Q E gd hr h => ⟨rd_law_take (cx K), PSs.nox ?_, run_take rfl h⟩), hb, F.kp, ⟨[], .nil, hb⟩⟩
  exact (pss_cons (ps_if (pt_cmpR op_eq (pe_dget (hu_of hr) (pv 0) pe_str (fun _ _ => rfl)) pe_int (nomark _)) (pss_one (ps_dput (hu_of hr) (pv 0) pe_str (pe_ifExp (pt_cmpR (op_neD hr.units) (pe_dget (hu_of hr) (pv 0) pe_str (fun _ _ => rfl)) (pe_lst pa_nil) (nomark _)) (pe_bm PySem.F.plainAttrs_list PySem.F.slot_list_pop PySem.F.type_list_pop mt_popAt (pe_dget (hu_of hr) (pv 0) pe_str (fun _ _ => rfl)) (pa_cons pe_int pa_nil)) (pe_callW0 G_law_mixed gd (hr.mono (by decide)) rfl T.g__law_mixed k_law_mixed b_law_mixed (pa_cons (pv 0) pa_nil))) rfl)) pss_nil)
      (pss_cons (ps_set (i := 2) nd rfl (Or.inl rfl) (pe_op op_mod (pe_callTy call_intG (by rfl) T.n_int (by decide +kernel) (pa_cons (pe_dget (hu_of hr) (pv 0) pe_str (fun _ _ => rfl)) pa_nil)) (pv 1)))
      (pss_cons (ps_dput (hu_of hr) (pv 0) pe_str (pe_op op_fdivW (pe_dget (hu_of hr) (pv 0) pe_str (fun _ _ => rfl)) (pv 1)) rfl)
      (pss_one (ps_ret (pv 2))))))
theorem okF_law_pick (T : Tx K mg) (TB : TbB K base mg) {fd : FuncData} (F : FunD K "_law_pick" "_law_pick" (defArgs (topS 64)) (defBody (topS 64)) (defScope (topS 64)) (d_law_pick.dvs K) [] (He.ga K "_law_pick") fd) : FnW P w K mg base 3 (He.ga K "_law_pick") fd ["_law_state", "_law_some"] (SpW (cx K) wp_law_pick (1)) := by
  obtain ⟨_, G_law_take, b_law_take, k_law_take, _, v_law_take, c_law_take⟩ := ok_law_take (P := P) (w := w) (base := base) T TB
  have nd := sc_law_pick.nd
  refine fnW_of F sc_law_pick (fun vs H Q E h => SpW.len rfl h) (fun A outer s H vs Q E gd hr h => ?_)
  have tk : Takes (cxOf (L2.CX P w) P w K mg base N_law_pick "_law_pick" (defScope (topS 64)) (He.ga K "_law_pick") (.ref (codeAt K (He.ga K "_law_pick"))) A outer s H E) (fun cls d _ H => E cls d H) := takes_of rfl rfl rfl rfl
  exact ⟨_, gs_le (c := cx K) (W := fun cls d _ H => E cls d H) (kb := 1) (gs_one (g_ret (g_ix (g_var (pv 1)) (g_call G_law_take gd (hr.mono (by decide)) rfl T.g__law_take k_law_take b_law_take .nil (fun _ _ => .nil) tk (ga_cons (g_var (pv 0)) (ga_cons (g_cb w_len (by rfl) T.n_len PySem.boot_len (ga_cons (g_var (pv 1)) ga_nil)) ga_nil)))))) (by decide +kernel), run_wDef (N := N_law_pick) h (Nat.le_refl _)⟩
theorem ok_law_pick (T : Tx K mg) (TB : TbB K base mg) : OkW P w (cx K) mg base 3 (He.ga K "_law_pick") ["_law_state", "_law_some"] wp_law_pick (1) (d_law_pick.dvs K) := by
  obtain ⟨fd, F⟩ := T.f_law_pick
  have hb : Binds K fd ["_law_state", "_law_some"] [] := F.bindsN fun _ _ _ _ _ _ us hl => match us, hl with | [_, _], _ => rfl
  exact ⟨fd, okF_law_pick T TB F, hb, F.kp, ⟨[], .nil, hb⟩⟩
theorem okF_law_number (T : Tx K mg) (TB : TbB K base mg) {fd : FuncData} (F : FunD K "_law_number" "_law_number" (defArgs (topS 65)) (defBody (topS 65)) (defScope (topS 65)) (d_law_number.dvs K) [] (He.ga K "_law_number") fd) : FnW P w K mg base 4 (He.ga K "_law_number") fd ["_law_state", "_law_great"] (SpW (cx K) wp_law_number (2 ^ 2)) := by
  obtain ⟨_, G_law_pick, b_law_pick, k_law_pick, _, v_law_pick, c_law_pick⟩ := ok_law_pick (P := P) (w := w) (base := base) T TB
  obtain ⟨_, G_law_take, b_law_take, k_law_take, _, v_law_take, c_law_take⟩ := ok_law_take (P := P) (w := w) (base := base) T TB
  have nd := sc_law_number.nd
  refine fnW_of F sc_law_number (fun vs H Q E h => SpW.len rfl h) (fun A outer s H vs Q E gd hr h => ?_)
  have tk : Takes (cxOf (L2.CX P w) P w K mg base N_law_number "_law_number" (defScope (topS 65)) (He.ga K "_law_number") (.ref (codeAt K (He.ga K "_law_number"))) A outer s H E) (fun cls d _ H => E cls d H) := takes_of rfl rfl rfl rfl
  exact ⟨_, gs_le (c := cx K) (W := fun cls d _ H => E cls d H) (kb := 2 ^ 2) (gs_cons (g_set (i := 2) nd rfl (Or.inl rfl) (g_call G_law_pick gd (hr.mono (by decide)) rfl T.g__law_pick k_law_pick b_law_pick .nil (fun _ _ => .nil) tk (ga_cons (g_var (pv 0)) (ga_cons (g_lst (ga_cons g_int (ga_cons g_int (ga_cons g_int (ga_cons g_int (ga_cons g_int (ga_cons (g_call G_law_take gd (hr.mono (by decide)) rfl T.g__law_take k_law_take b_law_take .nil (fun _ _ => .nil) tk (ga_cons (g_var (pv 0)) (ga_cons (g_op w_add (g_var (pv 1)) g_int) ga_nil))) ga_nil))))))) ga_nil))))
      (gs_one (g_ret (g_call G_law_pick gd (hr.mono (by decide)) rfl T.g__law_pick k_law_pick b_law_pick .nil (fun _ _ => .nil) tk (ga_cons (g_var (pv 0)) (ga_cons (g_lst (ga_cons (g_cb w_min2 (by rfl) T.n_min (by decide +kernel) (ga_cons (g_var (pv 2)) (ga_cons (g_var (pv 1)) ga_nil))) (ga_cons (g_op w_sub g_int (g_cb w_min2 (by rfl) T.n_min (by decide +kernel) (ga_cons (g_var (pv 2)) (ga_cons (g_var (pv 1)) ga_nil)))) ga_nil))) ga_nil)))))) (by decide +kernel), run_wDef (N := N_law_number) h (Nat.le_refl _)⟩
theorem ok_law_number (T : Tx K mg) (TB : TbB K base mg) : OkW P w (cx K) mg base 4 (He.ga K "_law_number") ["_law_state", "_law_great"] wp_law_number (2 ^ 2) (d_law_number.dvs K) := by
  obtain ⟨fd, F⟩ := T.f_law_number
  have hb : Binds K fd ["_law_state", "_law_great"] [] := F.bindsN fun _ _ _ _ _ _ us hl => match us, hl with | [_, _], _ => rfl
  exact ⟨fd, okF_law_number T TB F, hb, F.kp, ⟨[], .nil, hb⟩⟩
theorem okF_law_curl (T : Tx K mg) (TB : TbB K base mg) {fd : FuncData} (F : FunD K "_law_curl" "_law_curl" (defArgs (topS 52)) (defBody (topS 52)) (defScope (topS 52)) (d_law_curl.dvs K) [] (He.ga K "_law_curl") fd) : FnW P w K mg base 5 (He.ga K "_law_curl") fd ["_law_state", "_law_most", "_law_great"] (SpW (cx K) wp_law_curl (2 ^ 27)) := by
  obtain ⟨_, G_law_number, b_law_number, k_law_number, _, v_law_number, c_law_number⟩ := ok_law_number (P := P) (w := w) (base := base) T TB
  obtain ⟨_, G_law_pick, b_law_pick, k_law_pick, _, v_law_pick, c_law_pick⟩ := ok_law_pick (P := P) (w := w) (base := base) T TB
  obtain ⟨_, G_law_take, b_law_take, k_law_take, _, v_law_take, c_law_take⟩ := ok_law_take (P := P) (w := w) (base := base) T TB
  have nd := sc_law_curl.nd
  refine fnW_of F sc_law_curl (fun vs H Q E h => SpW.len rfl h) (fun A outer s H vs Q E gd hr h => ?_)
  have tk : Takes (cxOf (L2.CX P w) P w K mg base N_law_curl "_law_curl" (defScope (topS 52)) (He.ga K "_law_curl") (.ref (codeAt K (He.ga K "_law_curl"))) A outer s H E) (fun cls d _ H => E cls d H) := takes_of rfl rfl rfl rfl
  exact ⟨_, gs_le (c := cx K) (W := fun cls d _ H => E cls d H) (kb := 2 ^ 27) (gs_cons (g_set (i := 3) nd rfl (Or.inl rfl) (g_op w_add (g_lst (ga_cons g_int (ga_cons g_int ga_nil))) (g_lc (own := [("_law_place", 4)]) nd (gi_rng1 (by rfl) T.n_range (ga_cons (g_call G_law_take gd (hr.mono (by decide)) rfl T.g__law_take k_law_take b_law_take .nil (fun _ _ => .nil) tk (ga_cons (g_var (pv 0)) (ga_cons (g_op w_sub (g_var (pv 1)) g_int) ga_nil))) ga_nil)) (blkOk_by (own := [("_law_place", 4)]) (N := N_law_curl) (sc := defScope (topS 52)) (by decide +kernel)) (fun _ _ _ _ _ => (gg_name (i := 4) nd rfl (Or.inl rfl))) (fun _ _ _ _ _ => gt_yes) (fun _ _ _ _ _ => (g_call G_law_number gd (hr.mono (by decide)) rfl T.g__law_number k_law_number b_law_number .nil (fun _ _ => .nil) LamX.takes0 (ga_cons (g_var (pv 0)) (ga_cons (g_var (pv 2)) ga_nil)))))))
      (gs_one (g_ret (g_tup (ga_cons g_str (ga_cons (g_op w_add (g_var (pv 3)) (g_lst (ga_cons (g_call G_law_pick gd (hr.mono (by decide)) rfl T.g__law_pick k_law_pick b_law_pick .nil (fun _ _ => .nil) tk (ga_cons (g_var (pv 0)) (ga_cons (g_lst (ga_cons g_int (ga_cons (g_un w_neg g_int) (ga_cons (g_op w_add g_int (g_call G_law_take gd (hr.mono (by decide)) rfl T.g__law_take k_law_take b_law_take .nil (fun _ _ => .nil) tk (ga_cons (g_var (pv 0)) (ga_cons (g_var (pv 2)) ga_nil)))) ga_nil)))) ga_nil))) ga_nil))) ga_nil)))))) (by decide +kernel), run_wDef (N := N_law_curl) h (Nat.le_refl _)⟩
theorem ok_law_curl (T : Tx K mg) (TB : TbB K base mg) : OkW P w (cx K) mg base 5 (He.ga K "_law_curl") ["_law_state", "_law_most", "_law_great"] wp_law_curl (2 ^ 27) (d_law_curl.dvs K) := by
  obtain ⟨fd, F⟩ := T.f_law_curl
  have hb : Binds K fd ["_law_state", "_law_most", "_law_great"] [] := F.bindsN fun _ _ _ _ _ _ us hl => match us, hl with | [_, _, _], _ => rfl
  exact ⟨fd, okF_law_curl T TB F, hb, F.kp, ⟨[], .nil, hb⟩⟩
theorem okF_law_swing (T : Tx K mg) (TB : TbB K base mg) {fd : FuncData} (F : FunD K "_law_swing" "_law_swing" (defArgs (topS 53)) (defBody (topS 53)) (defScope (topS 53)) (d_law_swing.dvs K) [] (He.ga K "_law_swing") fd) : FnW P w K mg base 5 (He.ga K "_law_swing") fd ["_law_state", "_law_most", "_law_great"] (SpW (cx K) wp_law_swing (2 ^ 3)) := by
  obtain ⟨_, G_law_number, b_law_number, k_law_number, _, v_law_number, c_law_number⟩ := ok_law_number (P := P) (w := w) (base := base) T TB
  obtain ⟨_, G_law_pick, b_law_pick, k_law_pick, _, v_law_pick, c_law_pick⟩ := ok_law_pick (P := P) (w := w) (base := base) T TB
  obtain ⟨_, G_law_take, b_law_take, k_law_take, _, v_law_take, c_law_take⟩ := ok_law_take (P := P) (w := w) (base := base) T TB
  have nd := sc_law_swing.nd
  refine fnW_of F sc_law_swing (fun vs H Q E h => SpW.len rfl h) (fun A outer s H vs Q E gd hr h => ?_)
  have tk : Takes (cxOf (L2.CX P w) P w K mg base N_law_swing "_law_swing" (defScope (topS 53)) (He.ga K "_law_swing") (.ref (codeAt K (He.ga K "_law_swing"))) A outer s H E) (fun cls d _ H => E cls d H) := takes_of rfl rfl rfl rfl
  exact ⟨_, gs_le (c := cx K) (W := fun cls d _ H => E cls d H) (kb := 2 ^ 3) (gs_cons (g_set (i := 3) nd rfl (Or.inr rfl) (g_op w_add g_int (g_call G_law_take gd (hr.mono (by decide)) rfl T.g__law_take k_law_take b_law_take .nil (fun _ _ => .nil) tk (ga_cons (g_var (pv 0)) (ga_cons (g_var (pv 1)) ga_nil)))))
      (gs_cons (g_set (i := 4) nd rfl (Or.inl rfl) (g_lst ga_nil))
      (gs_cons (g_for (passes_of rfl) (gi_rng1 (by rfl) T.n_range (ga_cons (g_var (pv 3)) ga_nil)) (gg_name (i := 5) nd rfl (Or.inr rfl)) (gs_one (g_set (i := 4) nd rfl (Or.inl rfl) (g_op w_add (g_var (pv 4)) (g_lc (own := [("_law_d", 6)]) nd (gi_rng1 (by rfl) T.n_range (ga_cons (g_var (pv 3)) ga_nil)) (blkOk_by (own := [("_law_d", 6)]) (N := N_law_swing) (sc := defScope (topS 53)) (by decide +kernel)) (fun _ _ _ _ _ => (gg_name (i := 6) nd rfl (Or.inl rfl))) (fun _ _ _ _ _ => (gt_one (g_tcmp (w_eq hr.units) (g_op w_mod (g_cty w_int (by rfl) T.n_int (by decide +kernel) (ga_cons (g_op w_sub (g_op w_mul (g_var (pv 5)) (g_var (pv 6))) g_int) ga_nil)) (g_var (pv 3))) g_int (nomark _)))) (fun _ _ _ _ _ => (g_tup (ga_cons (g_var (pv 5)) (ga_cons (g_var (pv 6)) ga_nil)))))))))
      (gs_cons (g_asg (g_call G_law_pick gd (hr.mono (by decide)) rfl T.g__law_pick k_law_pick b_law_pick .nil (fun _ _ => .nil) tk (ga_cons (g_var (pv 0)) (ga_cons (g_var (pv 4)) ga_nil))) (gg_tup (ggs_cons (gg_name (i := 5) nd rfl (Or.inr rfl)) (ggs_cons (gg_name (i := 6) nd rfl (Or.inl rfl)) ggs_nil))))
      (gs_cons (g_set (i := 6) nd rfl (Or.inl rfl) (g_op w_add (g_var (pv 6)) (g_op w_mul (g_var (pv 3)) (g_call G_law_pick gd (hr.mono (by decide)) rfl T.g__law_pick k_law_pick b_law_pick .nil (fun _ _ => .nil) tk (ga_cons (g_var (pv 0)) (ga_cons (g_lst (ga_cons g_int (ga_cons g_int (ga_cons g_int (ga_cons (g_un w_neg g_int) (ga_cons (g_call G_law_number gd (hr.mono (by decide)) rfl T.g__law_number k_law_number b_law_number .nil (fun _ _ => .nil) tk (ga_cons (g_var (pv 0)) (ga_cons (g_var (pv 2)) ga_nil))) ga_nil)))))) ga_nil))))))
      (gs_one (g_ret (g_tup (ga_cons g_str (ga_cons (g_var (pv 5)) (ga_cons (g_op w_fdiv (g_op w_sub (g_op w_mul (g_var (pv 5)) (g_var (pv 6))) g_int) (g_var (pv 3))) (ga_cons (g_var (pv 3)) (ga_cons (g_var (pv 6)) ga_nil))))))))))))) (by decide +kernel), run_wDef (N := N_law_swing) h (Nat.le_refl _)⟩
theorem ok_law_swing (T : Tx K mg) (TB : TbB K base mg) : OkW P w (cx K) mg base 5 (He.ga K "_law_swing") ["_law_state", "_law_most", "_law_great"] wp_law_swing (2 ^ 3) (d_law_swing.dvs K) := by
  obtain ⟨fd, F⟩ := T.f_law_swing
  have hb : Binds K fd ["_law_state", "_law_most", "_law_great"] [] := F.bindsN fun _ _ _ _ _ _ us hl => match us, hl with | [_, _, _], _ => rfl
  exact ⟨fd, okF_law_swing T TB F, hb, F.kp, ⟨[], .nil, hb⟩⟩
theorem okF_law_tail (T : Tx K mg) (TB : TbB K base mg) {fd : FuncData} (F : FunD K "_law_tail" "_law_tail" (defArgs (topS 54)) (defBody (topS 54)) (defScope (topS 54)) (d_law_tail.dvs K) [] (He.ga K "_law_tail") fd) : FnW P w K mg base 5 (He.ga K "_law_tail") fd ["_law_state", "_law_great"] (SpW (cx K) wp_law_tail (2 ^ 4)) := by
  obtain ⟨_, G_law_number, b_law_number, k_law_number, _, v_law_number, c_law_number⟩ := ok_law_number (P := P) (w := w) (base := base) T TB
  obtain ⟨_, G_law_pick, b_law_pick, k_law_pick, _, v_law_pick, c_law_pick⟩ := ok_law_pick (P := P) (w := w) (base := base) T TB
  have nd := sc_law_tail.nd
  refine fnW_of F sc_law_tail (fun vs H Q E h => SpW.len rfl h) (fun A outer s H vs Q E gd hr h => ?_)
  have tk : Takes (cxOf (L2.CX P w) P w K mg base N_law_tail "_law_tail" (defScope (topS 54)) (He.ga K "_law_tail") (.ref (codeAt K (He.ga K "_law_tail"))) A outer s H E) (fun cls d _ H => E cls d H) := takes_of rfl rfl rfl rfl
  exact ⟨_, gs_le (c := cx K) (W := fun cls d _ H => E cls d H) (kb := 2 ^ 4) (gs_cons (g_set (i := 2) nd rfl (Or.inl rfl) (g_tup (ga_cons g_str (ga_cons (g_call G_law_pick gd (hr.mono (by decide)) rfl T.g__law_pick k_law_pick b_law_pick .nil (fun _ _ => .nil) tk (ga_cons (g_var (pv 0)) (ga_cons (g_lst (ga_cons g_int (ga_cons g_int (ga_cons (g_un w_neg g_int) ga_nil)))) ga_nil))) (ga_cons (g_call G_law_number gd (hr.mono (by decide)) rfl T.g__law_number k_law_number b_law_number .nil (fun _ _ => .nil) tk (ga_cons (g_var (pv 0)) (ga_cons (g_var (pv 1)) ga_nil))) (ga_cons g_int (ga_cons (g_call G_law_pick gd (hr.mono (by decide)) rfl T.g__law_pick k_law_pick b_law_pick .nil (fun _ _ => .nil) tk (ga_cons (g_var (pv 0)) (ga_cons (g_lst (ga_cons g_int (ga_cons g_int (ga_cons (g_un w_neg g_int) ga_nil)))) ga_nil))) ga_nil)))))))
      (gs_one (g_ret (g_lst (ga_cons (g_var (pv 2)) (ga_cons (g_tup (ga_cons g_str (ga_cons (g_call G_law_number gd (hr.mono (by decide)) rfl T.g__law_number k_law_number b_law_number .nil (fun _ _ => .nil) tk (ga_cons (g_var (pv 0)) (ga_cons (g_var (pv 1)) ga_nil))) (ga_cons (g_call G_law_number gd (hr.mono (by decide)) rfl T.g__law_number k_law_number b_law_number .nil (fun _ _ => .nil) tk (ga_cons (g_var (pv 0)) (ga_cons (g_var (pv 1)) ga_nil))) ga_nil)))) ga_nil)))))) (by decide +kernel), run_wDef (N := N_law_tail) h (Nat.le_refl _)⟩
theorem ok_law_tail (T : Tx K mg) (TB : TbB K base mg) : OkW P w (cx K) mg base 5 (He.ga K "_law_tail") ["_law_state", "_law_great"] wp_law_tail (2 ^ 4) (d_law_tail.dvs K) := by
  obtain ⟨fd, F⟩ := T.f_law_tail
  have hb : Binds K fd ["_law_state", "_law_great"] [] := F.bindsN fun _ _ _ _ _ _ us hl => match us, hl with | [_, _], _ => rfl
  exact ⟨fd, okF_law_tail T TB F, hb, F.kp, ⟨[], .nil, hb⟩⟩
theorem okF_law_core (T : Tx K mg) (TB : TbB K base mg) {fd : FuncData} (F : FunD K "_law_core" "_law_core" (defArgs (topS 55)) (defBody (topS 55)) (defScope (topS 55)) (d_law_core.dvs K) [] (He.ga K "_law_core") fd) : FnW P w K mg base 6 (He.ga K "_law_core") fd ["_law_state", "_law_couples_here", "_law_most", "_law_great"] (SpW (cx K) wp_law_core (2 ^ 91)) := by
  obtain ⟨_, G_law_curl, b_law_curl, k_law_curl, _, v_law_curl, c_law_curl⟩ := ok_law_curl (P := P) (w := w) (base := base) T TB
  obtain ⟨_, G_law_swing, b_law_swing, k_law_swing, _, v_law_swing, c_law_swing⟩ := ok_law_swing (P := P) (w := w) (base := base) T TB
  obtain ⟨_, G_law_tail, b_law_tail, k_law_tail, _, v_law_tail, c_law_tail⟩ := ok_law_tail (P := P) (w := w) (base := base) T TB
  obtain ⟨_, G_law_take, b_law_take, k_law_take, _, v_law_take, c_law_take⟩ := ok_law_take (P := P) (w := w) (base := base) T TB
  have nd := sc_law_core.nd
  refine fnW_of F sc_law_core (fun vs H Q E h => SpW.len rfl h) (fun A outer s H vs Q E gd hr h => ?_)
  have tk : Takes (cxOf (L2.CX P w) P w K mg base N_law_core "_law_core" (defScope (topS 55)) (He.ga K "_law_core") (.ref (codeAt K (He.ga K "_law_core"))) A outer s H E) (fun cls d _ H => E cls d H) := takes_of rfl rfl rfl rfl
  exact ⟨_, gs_le (c := cx K) (W := fun cls d _ H => E cls d H) (kb := 2 ^ 91) (gs_cons (g_set (i := 4) nd rfl (Or.inl rfl) (g_lst ga_nil))
      (gs_cons (g_for (passes_of rfl) (gi_rng1 (by rfl) T.n_range (ga_cons (g_op w_add g_int (g_call G_law_take gd (hr.mono (by decide)) rfl T.g__law_take k_law_take b_law_take .nil (fun _ _ => .nil) tk (ga_cons (g_var (pv 0)) (ga_cons (g_var (pv 1)) ga_nil)))) ga_nil)) (gg_name (i := 5) nd rfl (Or.inl rfl)) (gs_one (g_set (i := 4) nd rfl (Or.inl rfl) (g_op w_add (g_var (pv 4)) (g_lst (ga_cons (g_call G_law_curl gd (hr.mono (by decide)) rfl T.g__law_curl k_law_curl b_law_curl .nil (fun _ _ => .nil) tk (ga_cons (g_var (pv 0)) (ga_cons (g_var (pv 2)) (ga_cons (g_var (pv 3)) ga_nil)))) (ga_cons (g_call G_law_swing gd (hr.mono (by decide)) rfl T.g__law_swing k_law_swing b_law_swing .nil (fun _ _ => .nil) tk (ga_cons (g_var (pv 0)) (ga_cons g_int (ga_cons (g_var (pv 3)) ga_nil)))) ga_nil)))))))
      (gs_one (g_ret (g_op w_add (g_var (pv 4)) (g_call G_law_tail gd (hr.mono (by decide)) rfl T.g__law_tail k_law_tail b_law_tail .nil (fun _ _ => .nil) tk (ga_cons (g_var (pv 0)) (ga_cons (g_var (pv 3)) ga_nil)))))))) (by decide +kernel), run_wDef (N := N_law_core) h (Nat.le_refl _)⟩
theorem ok_law_core (T : Tx K mg) (TB : TbB K base mg) : OkW P w (cx K) mg base 6 (He.ga K "_law_core") ["_law_state", "_law_couples_here", "_law_most", "_law_great"] wp_law_core (2 ^ 91) (d_law_core.dvs K) := by
  obtain ⟨fd, F⟩ := T.f_law_core
  have hb : Binds K fd ["_law_state", "_law_couples_here", "_law_most", "_law_great"] [] := F.bindsN fun _ _ _ _ _ _ us hl => match us, hl with | [_, _, _, _], _ => rfl
  exact ⟨fd, okF_law_core T TB F, hb, F.kp, ⟨[], .nil, hb⟩⟩
theorem okF_law_small_core (T : Tx K mg) (TB : TbB K base mg) {fd : FuncData} (F : FunD K "_law_small_core" "_law_small_core" (defArgs (topS 60)) (defBody (topS 60)) (defScope (topS 60)) (d_law_small_core.dvs K) [] (He.ga K "_law_small_core") fd) : FnW P w K mg base 6 (He.ga K "_law_small_core") fd ["_law_state"] (SpW (cx K) wp_law_small_core (2 ^ 91)) := by
  obtain ⟨_, G_law_curl, b_law_curl, k_law_curl, _, v_law_curl, c_law_curl⟩ := ok_law_curl (P := P) (w := w) (base := base) T TB
  obtain ⟨_, G_law_pick, b_law_pick, k_law_pick, _, v_law_pick, c_law_pick⟩ := ok_law_pick (P := P) (w := w) (base := base) T TB
  have nd := sc_law_small_core.nd
  refine fnW_of F sc_law_small_core (fun vs H Q E h => SpW.len rfl h) (fun A outer s H vs Q E gd hr h => ?_)
  have tk : Takes (cxOf (L2.CX P w) P w K mg base N_law_small_core "_law_small_core" (defScope (topS 60)) (He.ga K "_law_small_core") (.ref (codeAt K (He.ga K "_law_small_core"))) A outer s H E) (fun cls d _ H => E cls d H) := takes_of rfl rfl rfl rfl
  exact ⟨_, gs_le (c := cx K) (W := fun cls d _ H => E cls d H) (kb := 2 ^ 91) (gs_cons (g_set (i := 1) nd rfl (Or.inl rfl) (g_lst ga_nil))
      (gs_cons (g_for (passes_of rfl) (gi_rng1 (by rfl) T.n_range (ga_cons (g_call G_law_pick gd (hr.mono (by decide)) rfl T.g__law_pick k_law_pick b_law_pick .nil (fun _ _ => .nil) tk (ga_cons (g_var (pv 0)) (ga_cons (g_lst (ga_cons g_int (ga_cons g_int (ga_cons g_int (ga_cons g_int ga_nil))))) ga_nil))) ga_nil)) (gg_name (i := 2) nd rfl (Or.inl rfl)) (gs_one (g_set (i := 1) nd rfl (Or.inl rfl) (g_op w_add (g_var (pv 1)) (g_lst (ga_cons (g_call G_law_curl gd (hr.mono (by decide)) rfl T.g__law_curl k_law_curl b_law_curl .nil (fun _ _ => .nil) tk (ga_cons (g_var (pv 0)) (ga_cons g_int (ga_cons g_int ga_nil)))) (ga_cons (g_tup (ga_cons g_str (ga_cons g_int (ga_cons (g_un w_neg g_int) (ga_cons g_int (ga_cons (g_call G_law_pick gd (hr.mono (by decide)) rfl T.g__law_pick k_law_pick b_law_pick .nil (fun _ _ => .nil) tk (ga_cons (g_var (pv 0)) (ga_cons (g_lst (ga_cons g_int (ga_cons g_int (ga_cons g_int (ga_cons (g_un w_neg g_int) ga_nil))))) ga_nil))) ga_nil)))))) ga_nil)))))))
      (gs_cons (g_set (i := 3) nd rfl (Or.inl rfl) (g_call G_law_pick gd (hr.mono (by decide)) rfl T.g__law_pick k_law_pick b_law_pick .nil (fun _ _ => .nil) tk (ga_cons (g_var (pv 0)) (ga_cons (g_lst (ga_cons (g_tup (ga_cons g_str (ga_cons g_int (ga_cons g_int ga_nil)))) (ga_cons (g_tup (ga_cons g_str (ga_cons g_int (ga_cons g_int ga_nil)))) (ga_cons (g_tup (ga_cons g_str (ga_cons g_int (ga_cons g_int ga_nil)))) (ga_cons (g_tup (ga_cons g_str (ga_cons (g_un w_neg g_int) (ga_cons g_int ga_nil)))) ga_nil))))) ga_nil))))
      (gs_one (g_ret (g_op w_add (g_var (pv 1)) (g_lst (ga_cons (g_tup (ga_cons g_str (ga_cons (g_call G_law_pick gd (hr.mono (by decide)) rfl T.g__law_pick k_law_pick b_law_pick .nil (fun _ _ => .nil) tk (ga_cons (g_var (pv 0)) (ga_cons (g_lst (ga_cons g_int (ga_cons g_int (ga_cons (g_un w_neg g_int) ga_nil)))) ga_nil))) (ga_cons g_int (ga_cons g_int (ga_cons (g_call G_law_pick gd (hr.mono (by decide)) rfl T.g__law_pick k_law_pick b_law_pick .nil (fun _ _ => .nil) tk (ga_cons (g_var (pv 0)) (ga_cons (g_lst (ga_cons g_int (ga_cons g_int (ga_cons (g_un w_neg g_int) ga_nil)))) ga_nil))) ga_nil)))))) (ga_cons (g_var (pv 3)) ga_nil))))))))) (by decide +kernel), run_wDef (N := N_law_small_core) h (Nat.le_refl _)⟩
theorem ok_law_small_core (T : Tx K mg) (TB : TbB K base mg) : OkW P w (cx K) mg base 6 (He.ga K "_law_small_core") ["_law_state"] wp_law_small_core (2 ^ 91) (d_law_small_core.dvs K) := by
  obtain ⟨fd, F⟩ := T.f_law_small_core
  have hb : Binds K fd ["_law_state"] [] := F.bindsN fun _ _ _ _ _ _ us hl => match us, hl with | [_], _ => rfl
  exact ⟨fd, okF_law_small_core T TB F, hb, F.kp, ⟨[], .nil, hb⟩⟩
theorem okF_law_is_low (T : Tx K mg) (TB : TbB K base mg) {fd : FuncData} (F : FunD K "_law_is_low" "_law_is_low" (defArgs (topS 67)) (defBody (topS 67)) (defScope (topS 67)) (d_law_is_low.dvs K) [] (He.ga K "_law_is_low") fd) : FnW P w K mg base 1 (He.ga K "_law_is_low") fd ["_law_step"] (SpW (cx K) wp_law_is_low (0)) := by
  have nd := sc_law_is_low.nd
  refine fnW_of F sc_law_is_low (fun vs H Q E h => SpW.len rfl h) (fun A outer s H vs Q E gd hr h => ?_)
  have tk : Takes (cxOf (L2.CX P w) P w K mg base N_law_is_low "_law_is_low" (defScope (topS 67)) (He.ga K "_law_is_low") (.ref (codeAt K (He.ga K "_law_is_low"))) A outer s H E) (fun cls d _ H => E cls d H) := takes_of rfl rfl rfl rfl
  exact ⟨_, gs_le (c := cx K) (W := fun cls d _ H => E cls d H) (kb := 0) (gs_one (g_ret (g_cmp w_in (g_ix (g_var (pv 0)) g_int) (g_tup (ga_cons g_str (ga_cons g_str ga_nil))) (by rfl)))) (by decide +kernel), run_wDef (N := N_law_is_low) h (Nat.le_refl _)⟩
theorem ok_law_is_low (T : Tx K mg) (TB : TbB K base mg) : OkW P w (cx K) mg base 1 (He.ga K "_law_is_low") ["_law_step"] wp_law_is_low (0) (d_law_is_low.dvs K) := by
  obtain ⟨fd, F⟩ := T.f_law_is_low
  have hb : Binds K fd ["_law_step"] [] := F.bindsN fun _ _ _ _ _ _ us hl => match us, hl with | [_], _ => rfl
  exact ⟨fd, okF_law_is_low T TB F, hb, F.kp, ⟨[], .nil, hb⟩⟩
theorem okF_is_list (T : Tx K mg) (TB : TbB K base mg) {fd : FuncData} (F : FunD K "is_list" "is_list" (defArgs (topS 13)) (defBody (topS 13)) (defScope (topS 13)) (d_is_list.dvs K) [] (He.ga K "is_list") fd) : FnW P w K mg base 1 (He.ga K "is_list") fd ["thing"] (SpW (cx K) wp_is_list (0)) := by
  have nd := sc_is_list.nd
  refine fnW_of F sc_is_list (fun vs H Q E h => SpW.len rfl h) (fun A outer s H vs Q E gd hr h => ?_)
  have tk : Takes (cxOf (L2.CX P w) P w K mg base N_is_list "is_list" (defScope (topS 13)) (He.ga K "is_list") (.ref (codeAt K (He.ga K "is_list"))) A outer s H E) (fun cls d _ H => E cls d H) := takes_of rfl rfl rfl rfl
  exact ⟨_, gs_le (c := cx K) (W := fun cls d _ H => E cls d H) (kb := 0) (gs_one (g_ret (g_cb (w_isi T.ctx) (by rfl) T.n_isinstance (by decide +kernel) (ga_cons (g_var (pv 0)) (ga_cons (g_tup (ga_cons (g_ty (pe_bltn (by rfl) T.n_list (by decide +kernel) rfl)) (ga_cons (g_ty (pe_bltn (by rfl) T.n_tuple (by decide +kernel) rfl)) ga_nil))) ga_nil))))) (by decide +kernel), run_wDef (N := N_is_list) h (Nat.le_refl _)⟩
theorem ok_is_list (T : Tx K mg) (TB : TbB K base mg) : OkW P w (cx K) mg base 1 (He.ga K "is_list") ["thing"] wp_is_list (0) (d_is_list.dvs K) := by
  obtain ⟨fd, F⟩ := T.f_is_list
  have hb : Binds K fd ["thing"] [] := F.bindsN fun _ _ _ _ _ _ us hl => match us, hl with | [_], _ => rfl
  exact ⟨fd, okF_is_list T TB F, hb, F.kp, ⟨[], .nil, hb⟩⟩
theorem okF_is_number (T : Tx K mg) (TB : TbB K base mg) {fd : FuncData} (F : FunD K "is_number" "is_number" (defArgs (topS 10)) (defBody (topS 10)) (defScope (topS 10)) (d_is_number.dvs K) [] (He.ga K "is_number_rules") fd) : FnW P w K mg base 1 (He.ga K "is_number_rules") fd ["thing"] (SpW (cx K) wp_is_number (0)) := by
  have nd := sc_is_number.nd
  refine fnW_of F sc_is_number (fun vs H Q E h => SpW.len rfl h) (fun A outer s H vs Q E gd hr h => ?_)
  have tk : Takes (cxOf (L2.CX P w) P w K mg base N_is_number "is_number" (defScope (topS 10)) (He.ga K "is_number_rules") (.ref (codeAt K (He.ga K "is_number_rules"))) A outer s H E) (fun cls d _ H => E cls d H) := takes_of rfl rfl rfl rfl
  exact ⟨_, gs_le (c := cx K) (W := fun cls d _ H => E cls d H) (kb := 0) (gs_one (g_ret (g_and (g_cb (w_isi T.ctx) (by rfl) T.n_isinstance (by decide +kernel) (ga_cons (g_var (pv 0)) (ga_cons (g_ty (pe_bltn (by rfl) T.n_int (by decide +kernel) rfl)) ga_nil))) (g_one (g_not (g_cb (w_isi T.ctx) (by rfl) T.n_isinstance (by decide +kernel) (ga_cons (g_var (pv 0)) (ga_cons (g_ty (pe_bltn (by rfl) T.n_bool (by decide +kernel) rfl)) ga_nil)))))))) (by decide +kernel), run_wDef (N := N_is_number) h (Nat.le_refl _)⟩
theorem ok_is_number (T : Tx K mg) (TB : TbB K base mg) : OkW P w (cx K) mg base 1 (He.ga K "is_number_rules") ["thing"] wp_is_number (0) (d_is_number.dvs K) := by
  obtain ⟨fd, F⟩ := T.f_is_number
  have hb : Binds K fd ["thing"] [] := F.bindsN fun _ _ _ _ _ _ us hl => match us, hl with | [_], _ => rfl
  exact ⟨fd, okF_is_number T TB F, hb, F.kp, ⟨[], .nil, hb⟩⟩
theorem okF_without_end (T : Tx K mg) (TB : TbB K base mg) {fd : FuncData} (F : FunD K "without_end" "without_end" (defArgs (topS 14)) (defBody (topS 14)) (defScope (topS 14)) (d_without_end.dvs K) [] (He.ga K "without_end") fd) : FnW P w K mg base 1 (He.ga K "without_end") fd ["numbers"] (SpW (cx K) wp_without_end (0)) := by
  have nd := sc_without_end.nd
  refine fnW_of F sc_without_end (fun vs H Q E h => SpW.len rfl h) (fun A outer s H vs Q E gd hr h => ?_)
  have tk : Takes (cxOf (L2.CX P w) P w K mg base N_without_end "without_end" (defScope (topS 14)) (He.ga K "without_end") (.ref (codeAt K (He.ga K "without_end"))) A outer s H E) (fun cls d _ H => E cls d H) := takes_of rfl rfl rfl rfl
  exact ⟨_, gs_le (c := cx K) (W := fun cls d _ H => E cls d H) (kb := 0) (gs_cons (g_set (i := 1) nd rfl (Or.inl rfl) (g_cb w_len (by rfl) T.n_len PySem.boot_len (ga_cons (g_var (pv 0)) ga_nil)))
      (gs_cons (g_while (passes_of rfl) (g_pt (g_wand (g_tcmp w_gt (g_var (pv 1)) g_int (nomark _)) (g_wand1 (g_tcmp (w_eq hr.units) (g_ix (g_var (pv 0)) (g_op w_sub (g_var (pv 1)) g_int)) g_int (nomark _))))) (gs_one (g_aug (i := 1) nd rfl (Or.inl rfl) g_int ip_sub)))
      (gs_one (g_ret (g_cty w_tuple (by rfl) T.n_tuple (by decide +kernel) (ga_cons (g_sl w_sl (g_var (pv 0)) go_none (go_some (g_var (pv 1)))) ga_nil)))))) (by decide +kernel), run_wDef (N := N_without_end) h (Nat.le_refl _)⟩
theorem ok_without_end (T : Tx K mg) (TB : TbB K base mg) : OkW P w (cx K) mg base 1 (He.ga K "without_end") ["numbers"] wp_without_end (0) (d_without_end.dvs K) := by
  obtain ⟨fd, F⟩ := T.f_without_end
  have hb : Binds K fd ["numbers"] [] := F.bindsN fun _ _ _ _ _ _ us hl => match us, hl with | [_], _ => rfl
  exact ⟨fd, okF_without_end T TB F, hb, F.kp, ⟨[], .nil, hb⟩⟩
theorem okF_Rule___init__ (T : Tx K mg) (TB : TbB K base mg) {fd : FuncData} (F : FunD K "__init__" "Rule.__init__" (defArgs (inClass (topS 15) 0)) (defBody (inClass (topS 15) 0)) (defScope (inClass (topS 15) 0)) (d_Rule___init__.dvs K) [] (He.ma K (He.ga K "Rule") "__init__") fd) : FnW P w K mg base 3 (He.ma K (He.ga K "Rule") "__init__") fd ["self", "coefficients"] (SpW (cx K) wp_Rule___init__ (0)) := by
  obtain ⟨_, G_is_list, b_is_list, k_is_list, _, v_is_list, c_is_list⟩ := ok_is_list (P := P) (w := w) (base := base) T TB
  obtain ⟨_, G_is_number, b_is_number, k_is_number, _, v_is_number, c_is_number⟩ := ok_is_number (P := P) (w := w) (base := base) T TB
  obtain ⟨_, G_without_end, b_without_end, k_without_end, _, v_without_end, c_without_end⟩ := ok_without_end (P := P) (w := w) (base := base) T TB
  obtain ⟨_, GE_BadRule, bE_BadRule⟩ := ok_BadRule___init__ (P := P) (w := w) (base := base) T
  have nd := sc_Rule___init__.nd
  refine fnW_of F sc_Rule___init__ (fun vs H Q E h => SpW.len rfl h) (fun A outer s H vs Q E gd hr h => ?_)
  have tk : Takes (cxOf (L2.CX P w) P w K mg base N_Rule___init__ "Rule.__init__" (defScope (inClass (topS 15) 0)) (He.ma K (He.ga K "Rule") "__init__") (.ref (codeAt K (He.ma K (He.ga K "Rule") "__init__"))) A outer s H E) (fun cls d _ H => E cls d H) := takes_of rfl rfl rfl rfl
  exact ⟨_, gs_le (c := cx K) (W := fun cls d _ H => E cls d H) (kb := 0) (gs_cons (g_ifS (g_tnot (g_tval (g_call G_is_list gd (hr.mono (by decide)) rfl T.g_is_list k_is_list b_is_list .nil (fun _ _ => .nil) tk (ga_cons (g_var (pv 1)) ga_nil)))) (gs_one (g_rzA (n := "BadRule") rfl tk T.er_BadRule.t T.er_BadRule.ini T.er_BadRule.fn T.er_BadRule.nof GE_BadRule (hr.mono (by decide)) bE_BadRule rfl T.g_BadRule g_non e_BadRule)) gs_nil)
      (gs_cons (g_for (passes_of rfl) (gi_enum (by rfl) T.n_enumerate (ga_cons (g_var (pv 1)) ga_nil)) (gg_tup (ggs_cons (gg_name (i := 2) nd rfl (Or.inl rfl)) (ggs_cons (gg_name (i := 3) nd rfl (Or.inl rfl)) ggs_nil))) (gs_one (g_ifS (g_tnot (g_tval (g_call G_is_number gd (hr.mono (by decide)) rfl T.g_is_number_rules k_is_number b_is_number .nil (fun _ _ => .nil) tk (ga_cons (g_var (pv 3)) ga_nil)))) (gs_one (g_rzA (n := "BadRule") rfl tk T.er_BadRule.t T.er_BadRule.ini T.er_BadRule.fn T.er_BadRule.nof GE_BadRule (hr.mono (by decide)) bE_BadRule rfl T.g_BadRule (g_var (pv 2)) e_BadRule)) gs_nil)))
      (gs_one (g_setF (n := "Rule") (g_var (pv 0)) (g_call G_without_end gd (hr.mono (by decide)) rfl T.g_without_end k_without_end b_without_end .nil (fun _ _ => .nil) tk (ga_cons (g_var (pv 1)) ga_nil)) T.cl_Rule T.na_Rule_own_numbers)))) (by decide +kernel), run_wDef (N := N_Rule___init__) h (Nat.le_refl _)⟩
theorem ok_Rule___init__ (T : Tx K mg) (TB : TbB K base mg) : OkW P w (cx K) mg base 3 (He.ma K (He.ga K "Rule") "__init__") ["self", "coefficients"] wp_Rule___init__ (0) (d_Rule___init__.dvs K) := by
  obtain ⟨fd, F⟩ := T.f_Rule___init__
  have hb : Binds K fd ["self", "coefficients"] [] := by
    obtain ⟨ds, r, b⟩ := FunD.binds1 (ps := ["self", "coefficients"]) F 2 1 (by intro z; cases z) rfl fun _ _ _ _ _ _ _ us its hl hi => match us, its, hl, hi with | [_, _], [_], _, _ => ⟨_, rfl, rfl⟩
    cases r
    exact b
  have hc : ∃ ds, Vals (d_Rule___init__.dvs K) ds ∧ Binds K fd ["self", "coefficients"] ds := by
    obtain ⟨ds, r, b⟩ := FunD.binds1 (ps := ["self", "coefficients"]) F 1 0 (by intro z; cases z) rfl fun _ _ _ _ _ _ _ us its hl hi => match us, its, hl, hi with | [_], [_], _, _ => ⟨_, rfl, rfl⟩
    exact ⟨ds, r, b⟩
  exact ⟨fd, okF_Rule___init__ T TB F, hb, F.kp, hc⟩
theorem okF_law_step_of (T : Tx K mg) (TB : TbB K base mg) {fd : FuncData} (F : FunD K "_law_step_of" "_law_step_of" (defArgs (topS 70)) (defBody (topS 70)) (defScope (topS 70)) (d_law_step_of.dvs K) [] (He.ga K "_law_step_of") fd) : FnW P w K mg base 5 (He.ga K "_law_step_of") fd ["_law_step"] (SpW (cx K) wp_law_step_of (0)) := by
  obtain ⟨_, G_Rule___init__, b_Rule___init__, k_Rule___init__, _, v_Rule___init__, c_Rule___init__⟩ := ok_Rule___init__ (P := P) (w := w) (base := base) T TB
  obtain ⟨_, G_law_is_low, b_law_is_low, k_law_is_low, _, v_law_is_low, c_law_is_low⟩ := ok_law_is_low (P := P) (w := w) (base := base) T TB
  have nd := sc_law_step_of.nd
  refine fnW_of F sc_law_step_of (fun vs H Q E h => SpW.len rfl h) (fun A outer s H vs Q E gd hr h => ?_)
  have tk : Takes (cxOf (L2.CX P w) P w K mg base N_law_step_of "_law_step_of" (defScope (topS 70)) (He.ga K "_law_step_of") (.ref (codeAt K (He.ga K "_law_step_of"))) A outer s H E) (fun cls d _ H => E cls d H) := takes_of rfl rfl rfl rfl
  exact ⟨_, gs_le (c := cx K) (W := fun cls d _ H => E cls d H) (kb := 0) (gs_one (g_ret (g_if (g_tval (g_call G_law_is_low gd (hr.mono (by decide)) rfl T.g__law_is_low k_law_is_low b_law_is_low .nil (fun _ _ => .nil) tk (ga_cons (g_var (pv 0)) ga_nil))) (g_tup (ga_cons (g_ix (g_var (pv 0)) g_int) (ga_cons (g_make (n := "Rule") T.mk_Rule G_Rule___init__ gd (hr.mono (by decide)) rfl T.g_Rule b_Rule___init__ .nil (fun _ _ => .nil) tk (ga_cons (g_cty w_list (by rfl) T.n_list (by decide +kernel) (ga_cons (g_ix (g_var (pv 0)) g_int) ga_nil)) ga_nil) n_Rule) ga_nil))) (g_var (pv 0))))) (by decide +kernel), run_wDef (N := N_law_step_of) h (Nat.le_refl _)⟩
theorem ok_law_step_of (T : Tx K mg) (TB : TbB K base mg) : OkW P w (cx K) mg base 5 (He.ga K "_law_step_of") ["_law_step"] wp_law_step_of (0) (d_law_step_of.dvs K) := by
  obtain ⟨fd, F⟩ := T.f_law_step_of
  have hb : Binds K fd ["_law_step"] [] := F.bindsN fun _ _ _ _ _ _ us hl => match us, hl with | [_], _ => rfl
  exact ⟨fd, okF_law_step_of T TB F, hb, F.kp, ⟨[], .nil, hb⟩⟩
theorem okF_is_step (T : Tx K mg) (TB : TbB K base mg) {fd : FuncData} (F : FunD K "is_step" "is_step" (defArgs (topS 22)) (defBody (topS 22)) (defScope (topS 22)) (d_is_step.dvs K) [] (He.ga K "is_step") fd) : FnW P w K mg base 2 (He.ga K "is_step") fd ["thing"] (SpW (cx K) wp_is_step (0)) := by
  obtain ⟨_, G_is_number, b_is_number, k_is_number, _, v_is_number, c_is_number⟩ := ok_is_number (P := P) (w := w) (base := base) T TB
  have nd := sc_is_step.nd
  refine fnW_of F sc_is_step (fun vs H Q E h => SpW.len rfl h) (fun A outer s H vs Q E gd hr h => ?_)
  have tk : Takes (cxOf (L2.CX P w) P w K mg base N_is_step "is_step" (defScope (topS 22)) (He.ga K "is_step") (.ref (codeAt K (He.ga K "is_step"))) A outer s H E) (fun cls d _ H => E cls d H) := takes_of rfl rfl rfl rfl
  exact ⟨_, gs_le (c := cx K) (W := fun cls d _ H => E cls d H) (kb := 0) (gs_cons (g_ifS (g_pt (g_wor (g_tnot (g_tval (g_cb (w_isi T.ctx) (by rfl) T.n_isinstance (by decide +kernel) (ga_cons (g_var (pv 0)) (ga_cons (g_ty (pe_bltn (by rfl) T.n_tuple (by decide +kernel) rfl)) ga_nil))))) (g_wor (g_tcmp (w_eq hr.units) (g_cb w_len (by rfl) T.n_len PySem.boot_len (ga_cons (g_var (pv 0)) ga_nil)) g_int (nomark _)) (g_wor1 (g_tnot (g_tval (g_cb (w_isi T.ctx) (by rfl) T.n_isinstance (by decide +kernel) (ga_cons (g_ix (g_var (pv 0)) g_int) (ga_cons (g_ty (pe_bltn (by rfl) T.n_str (by decide +kernel) rfl)) ga_nil))))))))) (gs_one (g_ret g_bl)) gs_nil)
      (gs_cons (g_ifS (g_tcmp w_in (g_ix (g_var (pv 0)) g_int) (g_tup (ga_cons g_str (ga_cons g_str ga_nil))) (by rfl)) (gs_one (g_ret (g_and (g_cmp (w_eq hr.units) (g_cb w_len (by rfl) T.n_len PySem.boot_len (ga_cons (g_var (pv 0)) ga_nil)) g_int (nomark _)) (g_one (g_cb (w_isi T.ctx) (by rfl) T.n_isinstance (by decide +kernel) (ga_cons (g_ix (g_var (pv 0)) g_int) (ga_cons (g_cls (pe_glob rfl T.g_Rule rfl) i_Rule) ga_nil))))))) gs_nil)
      (gs_cons (g_ifS (g_tnot (g_tval (g_cb w_all (by rfl) T.n_all (by decide +kernel) (ga_cons (g_lc (own := [("number", 1)]) nd (gi_seq (g_sl w_sl (g_var (pv 0)) (go_some g_int) go_none)) (blkOk_by (own := [("number", 1)]) (N := N_is_step) (sc := defScope (topS 22)) (by decide +kernel)) (fun _ _ _ _ _ => (gg_name (i := 1) nd rfl (Or.inl rfl))) (fun _ _ _ _ _ => gt_yes) (fun _ _ _ _ _ => (g_call G_is_number gd (hr.mono (by decide)) rfl T.g_is_number_rules k_is_number b_is_number .nil (fun _ _ => .nil) LamX.takes0 (ga_cons (g_var (pv 1)) ga_nil)))) ga_nil)))) (gs_one (g_ret g_bl)) gs_nil)
      (gs_cons (g_ifS (g_tcmp (w_eq hr.units) (g_ix (g_var (pv 0)) g_int) g_str (nomark _)) (gs_one (g_ret (g_cmp (w_eq hr.units) (g_cb w_len (by rfl) T.n_len PySem.boot_len (ga_cons (g_var (pv 0)) ga_nil)) g_int (nomark _)))) gs_nil)
      (gs_cons (g_ifS (g_pt (g_wor (g_tcmp (w_ne hr.units) (g_ix (g_var (pv 0)) g_int) g_str (nomark _)) (g_wor1 (g_tcmp (w_ne hr.units) (g_cb w_len (by rfl) T.n_len PySem.boot_len (ga_cons (g_var (pv 0)) ga_nil)) g_int (nomark _))))) (gs_one (g_ret g_bl)) gs_nil)
      (gs_one (g_ret (g_cmp w_in (g_op w_sub (g_op w_mul (g_ix (g_var (pv 0)) g_int) (g_ix (g_var (pv 0)) g_int)) (g_op w_mul (g_ix (g_var (pv 0)) g_int) (g_ix (g_var (pv 0)) g_int))) (g_tup (ga_cons g_int (ga_cons (g_un w_neg g_int) ga_nil))) (by rfl))))))))) (by decide +kernel), run_wDef (N := N_is_step) h (Nat.le_refl _)⟩
theorem ok_is_step (T : Tx K mg) (TB : TbB K base mg) : OkW P w (cx K) mg base 2 (He.ga K "is_step") ["thing"] wp_is_step (0) (d_is_step.dvs K) := by
  obtain ⟨fd, F⟩ := T.f_is_step
  have hb : Binds K fd ["thing"] [] := F.bindsN fun _ _ _ _ _ _ us hl => match us, hl with | [_], _ => rfl
  exact ⟨fd, okF_is_step T TB F, hb, F.kp, ⟨[], .nil, hb⟩⟩
theorem okF_Program___init__ (T : Tx K mg) (TB : TbB K base mg) {fd : FuncData} (F : FunD K "__init__" "Program.__init__" (defArgs (inClass (topS 25) 0)) (defBody (inClass (topS 25) 0)) (defScope (inClass (topS 25) 0)) (d_Program___init__.dvs K) [] (He.ma K (He.ga K "Program") "__init__") fd) : FnW P w K mg base 3 (He.ma K (He.ga K "Program") "__init__") fd ["self", "steps"] (SpW (cx K) wp_Program___init__ (0)) := by
  obtain ⟨_, G_is_list, b_is_list, k_is_list, _, v_is_list, c_is_list⟩ := ok_is_list (P := P) (w := w) (base := base) T TB
  obtain ⟨_, G_is_step, b_is_step, k_is_step, _, v_is_step, c_is_step⟩ := ok_is_step (P := P) (w := w) (base := base) T TB
  obtain ⟨_, GE_BadProgram, bE_BadProgram⟩ := ok_BadProgram___init__ (P := P) (w := w) (base := base) T
  have nd := sc_Program___init__.nd
  refine fnW_of F sc_Program___init__ (fun vs H Q E h => SpW.len rfl h) (fun A outer s H vs Q E gd hr h => ?_)
  have tk : Takes (cxOf (L2.CX P w) P w K mg base N_Program___init__ "Program.__init__" (defScope (inClass (topS 25) 0)) (He.ma K (He.ga K "Program") "__init__") (.ref (codeAt K (He.ma K (He.ga K "Program") "__init__"))) A outer s H E) (fun cls d _ H => E cls d H) := takes_of rfl rfl rfl rfl
  exact ⟨_, gs_le (c := cx K) (W := fun cls d _ H => E cls d H) (kb := 0) (gs_cons (g_ifS (g_tnot (g_tval (g_call G_is_list gd (hr.mono (by decide)) rfl T.g_is_list k_is_list b_is_list .nil (fun _ _ => .nil) tk (ga_cons (g_var (pv 1)) ga_nil)))) (gs_one (g_rzA (n := "BadProgram") rfl tk T.er_BadProgram.t T.er_BadProgram.ini T.er_BadProgram.fn T.er_BadProgram.nof GE_BadProgram (hr.mono (by decide)) bE_BadProgram rfl T.g_BadProgram g_non e_BadProgram)) gs_nil)
      (gs_cons (g_for (passes_of rfl) (gi_enum (by rfl) T.n_enumerate (ga_cons (g_var (pv 1)) ga_nil)) (gg_tup (ggs_cons (gg_name (i := 2) nd rfl (Or.inl rfl)) (ggs_cons (gg_name (i := 3) nd rfl (Or.inl rfl)) ggs_nil))) (gs_one (g_ifS (g_tnot (g_tval (g_call G_is_step gd (hr.mono (by decide)) rfl T.g_is_step k_is_step b_is_step .nil (fun _ _ => .nil) tk (ga_cons (g_var (pv 3)) ga_nil)))) (gs_one (g_rzA (n := "BadProgram") rfl tk T.er_BadProgram.t T.er_BadProgram.ini T.er_BadProgram.fn T.er_BadProgram.nof GE_BadProgram (hr.mono (by decide)) bE_BadProgram rfl T.g_BadProgram (g_var (pv 2)) e_BadProgram)) gs_nil)))
      (gs_one (g_setF (n := "Program") (g_var (pv 0)) (g_cty w_tuple (by rfl) T.n_tuple (by decide +kernel) (ga_cons (g_var (pv 1)) ga_nil)) T.cl_Program T.na_Program_own_steps)))) (by decide +kernel), run_wDef (N := N_Program___init__) h (Nat.le_refl _)⟩
theorem ok_Program___init__ (T : Tx K mg) (TB : TbB K base mg) : OkW P w (cx K) mg base 3 (He.ma K (He.ga K "Program") "__init__") ["self", "steps"] wp_Program___init__ (0) (d_Program___init__.dvs K) := by
  obtain ⟨fd, F⟩ := T.f_Program___init__
  have hb : Binds K fd ["self", "steps"] [] := by
    obtain ⟨ds, r, b⟩ := FunD.binds1 (ps := ["self", "steps"]) F 2 1 (by intro z; cases z) rfl fun _ _ _ _ _ _ _ us its hl hi => match us, its, hl, hi with | [_, _], [_], _, _ => ⟨_, rfl, rfl⟩
    cases r
    exact b
  have hc : ∃ ds, Vals (d_Program___init__.dvs K) ds ∧ Binds K fd ["self", "steps"] ds := by
    obtain ⟨ds, r, b⟩ := FunD.binds1 (ps := ["self", "steps"]) F 1 0 (by intro z; cases z) rfl fun _ _ _ _ _ _ _ us its hl hi => match us, its, hl, hi with | [_], [_], _, _ => ⟨_, rfl, rfl⟩
    exact ⟨ds, r, b⟩
  exact ⟨fd, okF_Program___init__ T TB F, hb, F.kp, hc⟩
theorem okF_law_program_of (T : Tx K mg) (TB : TbB K base mg) {fd : FuncData} (F : FunD K "_law_program_of" "_law_program_of" (defArgs (topS 71)) (defBody (topS 71)) (defScope (topS 71)) (d_law_program_of.dvs K) [] (He.ga K "_law_program_of") fd) : FnW P w K mg base 6 (He.ga K "_law_program_of") fd ["_law_steps"] (SpW (cx K) wp_law_program_of (0)) := by
  obtain ⟨_, G_Program___init__, b_Program___init__, k_Program___init__, _, v_Program___init__, c_Program___init__⟩ := ok_Program___init__ (P := P) (w := w) (base := base) T TB
  obtain ⟨_, G_law_step_of, b_law_step_of, k_law_step_of, _, v_law_step_of, c_law_step_of⟩ := ok_law_step_of (P := P) (w := w) (base := base) T TB
  have nd := sc_law_program_of.nd
  refine fnW_of F sc_law_program_of (fun vs H Q E h => SpW.len rfl h) (fun A outer s H vs Q E gd hr h => ?_)
  have tk : Takes (cxOf (L2.CX P w) P w K mg base N_law_program_of "_law_program_of" (defScope (topS 71)) (He.ga K "_law_program_of") (.ref (codeAt K (He.ga K "_law_program_of"))) A outer s H E) (fun cls d _ H => E cls d H) := takes_of rfl rfl rfl rfl
  exact ⟨_, gs_le (c := cx K) (W := fun cls d _ H => E cls d H) (kb := 0) (gs_one (g_ret (g_make (n := "Program") T.mk_Program G_Program___init__ gd (hr.mono (by decide)) rfl T.g_Program b_Program___init__ .nil (fun _ _ => .nil) tk (ga_cons (g_lc (own := [("_law_step", 1)]) nd (gi_seq (g_var (pv 0))) (blkOk_by (own := [("_law_step", 1)]) (N := N_law_program_of) (sc := defScope (topS 71)) (by decide +kernel)) (fun _ _ _ _ _ => (gg_name (i := 1) nd rfl (Or.inl rfl))) (fun _ _ _ _ _ => gt_yes) (fun _ _ _ _ _ => (g_call G_law_step_of gd (hr.mono (by decide)) rfl T.g__law_step_of k_law_step_of b_law_step_of .nil (fun _ _ => .nil) LamX.takes0 (ga_cons (g_var (pv 1)) ga_nil)))) ga_nil) n_Program))) (by decide +kernel), run_wDef (N := N_law_program_of) h (Nat.le_refl _)⟩
theorem ok_law_program_of (T : Tx K mg) (TB : TbB K base mg) : OkW P w (cx K) mg base 6 (He.ga K "_law_program_of") ["_law_steps"] wp_law_program_of (0) (d_law_program_of.dvs K) := by
  obtain ⟨fd, F⟩ := T.f_law_program_of
  have hb : Binds K fd ["_law_steps"] [] := F.bindsN fun _ _ _ _ _ _ us hl => match us, hl with | [_], _ => rfl
  exact ⟨fd, okF_law_program_of T TB F, hb, F.kp, ⟨[], .nil, hb⟩⟩
theorem okF_law_couples (T : Tx K mg) (TB : TbB K base mg) {fd : FuncData} (F : FunD K "_law_couples" "_law_couples" (defArgs (topS 56)) (defBody (topS 56)) (defScope (topS 56)) (d_law_couples.dvs K) [] (He.ga K "_law_couples") fd) : FnW P w K mg base 1 (He.ga K "_law_couples") fd ["_law_steps"] (SpW (cx K) wp_law_couples (0)) := by
  have nd := sc_law_couples.nd
  refine fnW_of F sc_law_couples (fun vs H Q E h => SpW.len rfl h) (fun A outer s H vs Q E gd hr h => ?_)
  have tk : Takes (cxOf (L2.CX P w) P w K mg base N_law_couples "_law_couples" (defScope (topS 56)) (He.ga K "_law_couples") (.ref (codeAt K (He.ga K "_law_couples"))) A outer s H E) (fun cls d _ H => E cls d H) := takes_of rfl rfl rfl rfl
  exact ⟨_, gs_le (c := cx K) (W := fun cls d _ H => E cls d H) (kb := 0) (gs_cons (g_par3N (hp := ps_par3 (i := 1) (j := 2) (l := 3) rfl nd rfl rfl rfl (by decide) (by decide) (by decide) rfl rfl rfl (ga_cons (g_lst ga_nil) (ga_cons (g_ix (g_var (pv 0)) (g_un w_neg g_int)) (ga_cons (g_ix (g_var (pv 0)) (g_un w_neg g_int)) ga_nil))) rfl))
      (gs_cons (g_for (passes_of rfl) (gi_rng3U (by rfl) T.n_range (ga_cons g_int (ga_cons (g_op w_sub (g_cb w_len (by rfl) T.n_len PySem.boot_len (ga_cons (g_var (pv 0)) ga_nil)) g_int) (ga_cons g_int ga_nil)))) (gg_name (i := 4) nd rfl (Or.inl rfl)) (gs_cons (g_asg (g_ix (g_var (pv 0)) (g_op w_add (g_var (pv 4)) g_int)) (gg_tup (ggs_cons (gg_name (i := 5) nd rfl (Or.inl rfl)) (ggs_cons (gg_name (i := 6) nd rfl (Or.inl rfl)) (ggs_cons (gg_name (i := 7) nd rfl (Or.inl rfl)) (ggs_cons (gg_name (i := 8) nd rfl (Or.inl rfl)) (ggs_cons (gg_name (i := 9) nd rfl (Or.inl rfl)) ggs_nil)))))))
      (gs_cons (g_set (i := 10) nd rfl (Or.inl rfl) (g_tup (ga_cons (g_var (pv 6)) (ga_cons (g_var (pv 7)) (ga_cons (g_var (pv 8)) (ga_cons (g_var (pv 9)) (ga_cons g_int (ga_cons g_int ga_nil))))))))
      (gs_cons (g_ifS (g_tcmp (w_eq hr.units) (g_op w_add (g_var (pv 4)) g_int) (g_cb w_len (by rfl) T.n_len PySem.boot_len (ga_cons (g_var (pv 0)) ga_nil)) (nomark _)) (gs_cons (g_set (i := 11) nd rfl (Or.inl rfl) (g_tup (ga_cons (g_op w_add (g_op w_mul (g_ix (g_var (pv 2)) g_int) (g_var (pv 6))) (g_op w_mul (g_ix (g_var (pv 2)) g_int) (g_var (pv 8)))) (ga_cons (g_op w_add (g_op w_mul (g_ix (g_var (pv 2)) g_int) (g_var (pv 7))) (g_op w_mul (g_ix (g_var (pv 2)) g_int) (g_var (pv 9)))) ga_nil))))
      (gs_one (g_set (i := 10) nd rfl (Or.inl rfl) (g_op w_add (g_var (pv 11)) (g_tup (ga_cons (g_op w_mul (g_ix (g_var (pv 2)) g_int) (g_var (pv 8))) (ga_cons (g_op w_mul (g_ix (g_var (pv 2)) g_int) (g_var (pv 9))) (ga_cons (g_ix (g_var (pv 3)) g_int) (ga_cons (g_ix (g_var (pv 3)) g_int) ga_nil))))))))) gs_nil)
      (gs_one (g_drop (g_lmN mw_app (fun r h => pe_bm PySem.F.plainAttrs_list PySem.F.slot_list_append PySem.F.type_list_append h (g_var (pv 1)) (ga_cons (g_tup (ga_cons (g_ix (g_ix (g_var (pv 0)) (g_var (pv 4))) g_int) (ga_cons (g_var (pv 10)) ga_nil))) ga_nil)))))))))
      (gs_one (g_fz 1 (g_ret (g_var (pv 1))))))) (by decide +kernel), run_wDef (N := N_law_couples) h (Nat.le_refl _)⟩
theorem ok_law_couples (T : Tx K mg) (TB : TbB K base mg) : OkW P w (cx K) mg base 1 (He.ga K "_law_couples") ["_law_steps"] wp_law_couples (0) (d_law_couples.dvs K) := by
  obtain ⟨fd, F⟩ := T.f_law_couples
  have hb : Binds K fd ["_law_steps"] [] := F.bindsN fun _ _ _ _ _ _ us hl => match us, hl with | [_], _ => rfl
  exact ⟨fd, okF_law_couples T TB F, hb, F.kp, ⟨[], .nil, hb⟩⟩
theorem okF_law_sizes (T : Tx K mg) (TB : TbB K base mg) {fd : FuncData} (F : FunD K "_law_sizes" "_law_sizes" (defArgs (topS 57)) (defBody (topS 57)) (defScope (topS 57)) (d_law_sizes.dvs K) [] (He.ga K "_law_sizes") fd) : FnW P w K mg base 2 (He.ga K "_law_sizes") fd ["_law_steps"] (SpW (cx K) wp_law_sizes (0)) := by
  obtain ⟨_, G_law_couples, b_law_couples, k_law_couples, _, v_law_couples, c_law_couples⟩ := ok_law_couples (P := P) (w := w) (base := base) T TB
  have nd := sc_law_sizes.nd
  refine fnW_of F sc_law_sizes (fun vs H Q E h => SpW.len rfl h) (fun A outer s H vs Q E gd hr h => ?_)
  have tk : Takes (cxOf (L2.CX P w) P w K mg base N_law_sizes "_law_sizes" (defScope (topS 57)) (He.ga K "_law_sizes") (.ref (codeAt K (He.ga K "_law_sizes"))) A outer s H E) (fun cls d _ H => E cls d H) := takes_of rfl rfl rfl rfl
  exact ⟨_, gs_le (c := cx K) (W := fun cls d _ H => E cls d H) (kb := 0) (gs_cons (g_setLc (i := 1) (own := [("_law_row", 15), ("_law_six", 16)]) nd rfl rfl (sw_true rfl rfl rfl (by decide +kernel)) (gi_seq (g_call G_law_couples gd (hr.mono (by decide)) rfl T.g__law_couples k_law_couples b_law_couples .nil (fun _ _ => .nil) tk (ga_cons (g_var (pv 0)) ga_nil))) (blkOk_by (own := [("_law_row", 15), ("_law_six", 16)]) (N := N_law_sizes) (sc := defScope (topS 57)) (by decide +kernel)) (fun _ _ _ _ _ => (gg_tup (ggs_cons (gg_name (i := 15) nd rfl (Or.inl rfl)) (ggs_cons (gg_name (i := 16) nd rfl (Or.inl rfl)) ggs_nil)))) (fun _ _ _ _ _ => gt_yes) (fun _ _ _ _ _ => (g_tup (ga_cons (g_cb w_sum (by rfl) T.n_sum (by decide +kernel) (ga_cons (g_lc (own := [("_law_worth", 17)]) nd (gi_seq (g_sl w_sl (g_var (pv 15)) go_none (go_some (g_un w_neg g_int)))) (blkOk_by (own := [("_law_worth", 17)]) rfl) (fun _ _ _ _ _ => (gg_name (i := 17) nd rfl (Or.inl rfl))) (fun _ _ _ _ _ => gt_yes) (fun _ _ _ _ _ => (g_cb w_abs (by rfl) T.n_abs (by decide +kernel) (ga_cons (g_var (pv 17)) ga_nil)))) ga_nil)) (ga_cons (g_var (pv 16)) ga_nil)))))
      (gs_cons (g_set (i := 2) nd rfl (Or.inl rfl) (g_cb w_maxL (by rfl) T.n_max (by decide +kernel) (ga_cons (g_lc (own := [("_law_low", 5), ("_law_six", 16)]) nd (gi_seq (g_var (pv 1))) (blkOk_by (own := [("_law_low", 5), ("_law_six", 16)]) (N := N_law_sizes) (sc := defScope (topS 57)) (by decide +kernel)) (fun _ _ _ _ _ => (gg_tup (ggs_cons (gg_name (i := 5) nd rfl (Or.inl rfl)) (ggs_cons (gg_name (i := 16) nd rfl (Or.inl rfl)) ggs_nil)))) (fun _ _ _ _ _ => gt_yes) (fun _ _ _ _ _ => (g_op w_add (g_op w_mul g_int (g_cb w_abs (by rfl) T.n_abs (by decide +kernel) (ga_cons (g_ix (g_var (pv 16)) g_int) ga_nil))) g_int))) ga_nil)))
      (gs_cons (g_parN (hp := ps_par (i := 3) (j := 4) rfl nd rfl rfl (by decide) rfl rfl (ga_cons (g_lst ga_nil) (ga_cons (g_lst ga_nil) ga_nil)) rfl))
      (gs_cons (g_for (passes_of rfl) (gi_seq (g_var (pv 1))) (gg_tup (ggs_cons (gg_name (i := 5) nd rfl (Or.inl rfl)) (ggs_cons (gg_tup (ggs_cons (gg_name (i := 6) nd rfl (Or.inl rfl)) (ggs_cons (gg_name (i := 7) nd rfl (Or.inl rfl)) (ggs_cons (gg_name (i := 8) nd rfl (Or.inl rfl)) (ggs_cons (gg_name (i := 9) nd rfl (Or.inl rfl)) (ggs_cons (gg_name (i := 10) nd rfl (Or.inl rfl)) (ggs_cons (gg_name (i := 11) nd rfl (Or.inl rfl)) ggs_nil))))))) ggs_nil))) (gs_cons (g_drop (g_lmN mw_app (fun r h => pe_bm PySem.F.plainAttrs_list PySem.F.slot_list_append PySem.F.type_list_append h (g_var (pv 3)) (ga_cons (g_op w_add (g_op w_add (g_var (pv 5)) (g_var (pv 2))) (g_op w_mul g_int (g_op w_add (g_op w_add (g_op w_add (g_op w_add (g_cb w_abs (by rfl) T.n_abs (by decide +kernel) (ga_cons (g_var (pv 7)) ga_nil)) (g_cb w_abs (by rfl) T.n_abs (by decide +kernel) (ga_cons (g_var (pv 9)) ga_nil))) (g_cb w_abs (by rfl) T.n_abs (by decide +kernel) (ga_cons (g_var (pv 10)) ga_nil))) (g_cb w_abs (by rfl) T.n_abs (by decide +kernel) (ga_cons (g_var (pv 11)) ga_nil))) g_int))) ga_nil))))
      (gs_cons (g_parN (hp := ps_par (i := 12) (j := 13) rfl nd rfl rfl (by decide) rfl rfl (ga_cons (g_op w_add (g_cb w_abs (by rfl) T.n_abs (by decide +kernel) (ga_cons (g_var (pv 7)) ga_nil)) (g_cb w_abs (by rfl) T.n_abs (by decide +kernel) (ga_cons (g_var (pv 9)) ga_nil))) (ga_cons (g_op w_add (g_cb w_abs (by rfl) T.n_abs (by decide +kernel) (ga_cons (g_op w_mul (g_var (pv 9)) (g_var (pv 10))) ga_nil)) (g_cb w_abs (by rfl) T.n_abs (by decide +kernel) (ga_cons (g_op w_mul (g_var (pv 7)) (g_var (pv 11))) ga_nil))) ga_nil)) rfl))
      (gs_cons (g_set (i := 14) nd rfl (Or.inl rfl) (g_op w_add (g_cb w_abs (by rfl) T.n_abs (by decide +kernel) (ga_cons (g_op w_mul (g_var (pv 8)) (g_var (pv 10))) ga_nil)) (g_cb w_abs (by rfl) T.n_abs (by decide +kernel) (ga_cons (g_op w_mul (g_var (pv 6)) (g_var (pv 11))) ga_nil))))
      (gs_one (g_drop (g_lmN mw_app (fun r h => pe_bm PySem.F.plainAttrs_list PySem.F.slot_list_append PySem.F.type_list_append h (g_var (pv 4)) (ga_cons (g_op w_mul g_int (g_op w_add (g_op w_add (g_op w_add (g_op w_add (g_op w_add (g_var (pv 5)) (g_var (pv 2))) g_int) (g_op w_mul g_int (g_var (pv 12)))) (g_op w_mul (g_op w_add (g_op w_mul g_int (g_var (pv 12))) g_int) (g_var (pv 14)))) (g_var (pv 13)))) ga_nil)))))))))
      (gs_one (g_fz 4 (g_fz 3 (g_ret (g_tup (ga_cons (g_var (pv 2)) (ga_cons (g_cb w_maxL (by rfl) T.n_max (by decide +kernel) (ga_cons (g_var (pv 3)) ga_nil)) (ga_cons (g_cb w_maxL (by rfl) T.n_max (by decide +kernel) (ga_cons (g_op w_add (g_var (pv 3)) (g_var (pv 4))) ga_nil)) ga_nil)))))))))))) (by decide +kernel), run_wDef (N := N_law_sizes) h (Nat.le_refl _)⟩
theorem ok_law_sizes (T : Tx K mg) (TB : TbB K base mg) : OkW P w (cx K) mg base 2 (He.ga K "_law_sizes") ["_law_steps"] wp_law_sizes (0) (d_law_sizes.dvs K) := by
  obtain ⟨fd, F⟩ := T.f_law_sizes
  have hb : Binds K fd ["_law_steps"] [] := F.bindsN fun _ _ _ _ _ _ us hl => match us, hl with | [_], _ => rfl
  exact ⟨fd, okF_law_sizes T TB F, hb, F.kp, ⟨[], .nil, hb⟩⟩
theorem okF_need_program_cores (T : Tx K mg) (TB : TbB K base mg) {fd : FuncData} (F : FunD K "need_program" "need_program" (defArgs (topS 33)) (defBody (topS 33)) (defScope (topS 33)) (d_need_program_cores.dvs K) [] (He.ga K "need_program_cores") fd) : FnW P w K mg base 3 (He.ga K "need_program_cores") fd ["program"] (SpW (cx K) wp_need_program_cores (0)) := by
  obtain ⟨_, GE_BadProgram, bE_BadProgram⟩ := ok_BadProgram___init__ (P := P) (w := w) (base := base) T
  have nd := sc_need_program_cores.nd
  refine fnW_of F sc_need_program_cores (fun vs H Q E h => SpW.len rfl h) (fun A outer s H vs Q E gd hr h => ?_)
  have tk : Takes (cxOf (L2.CX P w) P w K mg base N_need_program_cores "need_program" (defScope (topS 33)) (He.ga K "need_program_cores") (.ref (codeAt K (He.ga K "need_program_cores"))) A outer s H E) (fun cls d _ H => E cls d H) := takes_of rfl rfl rfl rfl
  exact ⟨_, gs_le (c := cx K) (W := fun cls d _ H => E cls d H) (kb := 0) (gs_one (g_ifS (g_tnot (g_tval (g_cb (w_isi T.ctx) (by rfl) T.n_isinstance (by decide +kernel) (ga_cons (g_var (pv 0)) (ga_cons (g_cls (pe_glob rfl T.g_Program rfl) i_Program) ga_nil))))) (gs_one (g_rzA (n := "BadProgram") rfl tk T.er_BadProgram.t T.er_BadProgram.ini T.er_BadProgram.fn T.er_BadProgram.nof GE_BadProgram (hr.mono (by decide)) bE_BadProgram rfl T.g_BadProgram g_non e_BadProgram)) gs_nil)) (by decide +kernel), run_wDef (N := N_need_program_cores) h (Nat.le_refl _)⟩
theorem ok_need_program_cores (T : Tx K mg) (TB : TbB K base mg) : OkW P w (cx K) mg base 3 (He.ga K "need_program_cores") ["program"] wp_need_program_cores (0) (d_need_program_cores.dvs K) := by
  obtain ⟨fd, F⟩ := T.f_need_program_cores
  have hb : Binds K fd ["program"] [] := F.bindsN fun _ _ _ _ _ _ us hl => match us, hl with | [_], _ => rfl
  exact ⟨fd, okF_need_program_cores T TB F, hb, F.kp, ⟨[], .nil, hb⟩⟩
theorem okF_need_program (T : Tx K mg) (TB : TbB K base mg) {fd : FuncData} (F : FunD K "need_program" "need_program" (defArgs (topS 26)) (defBody (topS 26)) (defScope (topS 26)) (d_need_program.dvs K) [] (He.ga K "need_program_programs") fd) : FnW P w K mg base 3 (He.ga K "need_program_programs") fd ["thing"] (SpW (cx K) wp_need_program (0)) := by
  obtain ⟨_, GE_BadProgram, bE_BadProgram⟩ := ok_BadProgram___init__ (P := P) (w := w) (base := base) T
  have nd := sc_need_program.nd
  refine fnW_of F sc_need_program (fun vs H Q E h => SpW.len rfl h) (fun A outer s H vs Q E gd hr h => ?_)
  have tk : Takes (cxOf (L2.CX P w) P w K mg base N_need_program "need_program" (defScope (topS 26)) (He.ga K "need_program_programs") (.ref (codeAt K (He.ga K "need_program_programs"))) A outer s H E) (fun cls d _ H => E cls d H) := takes_of rfl rfl rfl rfl
  exact ⟨_, gs_le (c := cx K) (W := fun cls d _ H => E cls d H) (kb := 0) (gs_one (g_ifS (g_tnot (g_tval (g_cb (w_isi T.ctx) (by rfl) T.n_isinstance (by decide +kernel) (ga_cons (g_var (pv 0)) (ga_cons (g_cls (pe_glob rfl T.g_Program rfl) i_Program) ga_nil))))) (gs_one (g_rzA (n := "BadProgram") rfl tk T.er_BadProgram.t T.er_BadProgram.ini T.er_BadProgram.fn T.er_BadProgram.nof GE_BadProgram (hr.mono (by decide)) bE_BadProgram rfl T.g_BadProgram g_non e_BadProgram)) gs_nil)) (by decide +kernel), run_wDef (N := N_need_program) h (Nat.le_refl _)⟩
theorem ok_need_program (T : Tx K mg) (TB : TbB K base mg) : OkW P w (cx K) mg base 3 (He.ga K "need_program_programs") ["thing"] wp_need_program (0) (d_need_program.dvs K) := by
  obtain ⟨fd, F⟩ := T.f_need_program
  have hb : Binds K fd ["thing"] [] := F.bindsN fun _ _ _ _ _ _ us hl => match us, hl with | [_], _ => rfl
  exact ⟨fd, okF_need_program T TB F, hb, F.kp, ⟨[], .nil, hb⟩⟩
theorem okF_Rule_degree (T : Tx K mg) (TB : TbB K base mg) {fd : FuncData} (F : FunD K "degree" "Rule.degree" (defArgs (inClass (topS 15) 2)) (defBody (inClass (topS 15) 2)) (defScope (inClass (topS 15) 2)) (d_Rule_degree.dvs K) [] (recAt K "property" (He.ma K (He.ga K "Rule") "degree")) fd) : FnW P w K mg base 1 (recAt K "property" (He.ma K (He.ga K "Rule") "degree")) fd ["self"] (SpW (cx K) wp_Rule_degree (0)) := by
  have nd := sc_Rule_degree.nd
  refine fnW_of F sc_Rule_degree (fun vs H Q E h => SpW.len rfl h) (fun A outer s H vs Q E gd hr h => ?_)
  have tk : Takes (cxOf (L2.CX P w) P w K mg base N_Rule_degree "Rule.degree" (defScope (inClass (topS 15) 2)) (recAt K "property" (He.ma K (He.ga K "Rule") "degree")) (.ref (codeAt K (recAt K "property" (He.ma K (He.ga K "Rule") "degree")))) A outer s H E) (fun cls d _ H => E cls d H) := takes_of rfl rfl rfl rfl
  exact ⟨_, gs_le (c := cx K) (W := fun cls d _ H => E cls d H) (kb := 0) (gs_one (g_ret (g_op w_sub (g_cb w_len (by rfl) T.n_len PySem.boot_len (ga_cons (g_fld (n := "Rule") (g_var (pv 0)) T.cl_Rule T.na_Rule_own_numbers) ga_nil)) g_int))) (by decide +kernel), run_wDef (N := N_Rule_degree) h (Nat.le_refl _)⟩
theorem ok_Rule_degree (T : Tx K mg) (TB : TbB K base mg) : OkW P w (cx K) mg base 1 (recAt K "property" (He.ma K (He.ga K "Rule") "degree")) ["self"] wp_Rule_degree (0) (d_Rule_degree.dvs K) := by
  obtain ⟨fd, F⟩ := T.f_Rule_degree
  have hb : Binds K fd ["self"] [] := F.bindsN fun _ _ _ _ _ _ us hl => match us, hl with | [_], _ => rfl
  exact ⟨fd, okF_Rule_degree T TB F, hb, F.kp, ⟨[], .nil, hb⟩⟩
theorem okF_is_from (T : Tx K mg) (TB : TbB K base mg) {fd : FuncData} (F : FunD K "is_from" "is_from" (defArgs (topS 12)) (defBody (topS 12)) (defScope (topS 12)) (d_is_from.dvs K) [] (He.ga K "is_from") fd) : FnW P w K mg base 2 (He.ga K "is_from") fd ["thing", "least"] (SpW (cx K) wp_is_from (0)) := by
  obtain ⟨_, G_is_number, b_is_number, k_is_number, _, v_is_number, c_is_number⟩ := ok_is_number (P := P) (w := w) (base := base) T TB
  have nd := sc_is_from.nd
  refine fnW_of F sc_is_from (fun vs H Q E h => SpW.len rfl h) (fun A outer s H vs Q E gd hr h => ?_)
  have tk : Takes (cxOf (L2.CX P w) P w K mg base N_is_from "is_from" (defScope (topS 12)) (He.ga K "is_from") (.ref (codeAt K (He.ga K "is_from"))) A outer s H E) (fun cls d _ H => E cls d H) := takes_of rfl rfl rfl rfl
  exact ⟨_, gs_le (c := cx K) (W := fun cls d _ H => E cls d H) (kb := 0) (gs_one (g_ret (g_and (g_call G_is_number gd (hr.mono (by decide)) rfl T.g_is_number_rules k_is_number b_is_number .nil (fun _ _ => .nil) tk (ga_cons (g_var (pv 0)) ga_nil)) (g_one (g_cmp w_ge (g_var (pv 0)) (g_var (pv 1)) (nomark _)))))) (by decide +kernel), run_wDef (N := N_is_from) h (Nat.le_refl _)⟩
theorem ok_is_from (T : Tx K mg) (TB : TbB K base mg) : OkW P w (cx K) mg base 2 (He.ga K "is_from") ["thing", "least"] wp_is_from (0) (d_is_from.dvs K) := by
  obtain ⟨fd, F⟩ := T.f_is_from
  have hb : Binds K fd ["thing", "least"] [] := F.bindsN fun _ _ _ _ _ _ us hl => match us, hl with | [_, _], _ => rfl
  exact ⟨fd, okF_is_from T TB F, hb, F.kp, ⟨[], .nil, hb⟩⟩
theorem okF_Rule___getitem__ (T : Tx K mg) (TB : TbB K base mg) {fd : FuncData} (F : FunD K "__getitem__" "Rule.__getitem__" (defArgs (inClass (topS 15) 5)) (defBody (inClass (topS 15) 5)) (defScope (inClass (topS 15) 5)) (d_Rule___getitem__.dvs K) [] (He.ma K (He.ga K "Rule") "__getitem__") fd) : FnW P w K mg base 3 (He.ma K (He.ga K "Rule") "__getitem__") fd ["self", "power"] (SpW (cx K) wp_Rule___getitem__ (0)) := by
  obtain ⟨_, G_is_from, b_is_from, k_is_from, _, v_is_from, c_is_from⟩ := ok_is_from (P := P) (w := w) (base := base) T TB
  have nd := sc_Rule___getitem__.nd
  refine fnW_of F sc_Rule___getitem__ (fun vs H Q E h => SpW.len rfl h) (fun A outer s H vs Q E gd hr h => ?_)
  have tk : Takes (cxOf (L2.CX P w) P w K mg base N_Rule___getitem__ "Rule.__getitem__" (defScope (inClass (topS 15) 5)) (He.ma K (He.ga K "Rule") "__getitem__") (.ref (codeAt K (He.ma K (He.ga K "Rule") "__getitem__"))) A outer s H E) (fun cls d _ H => E cls d H) := takes_of rfl rfl rfl rfl
  exact ⟨_, gs_le (c := cx K) (W := fun cls d _ H => E cls d H) (kb := 0) (gs_cons (g_ifS (g_tnot (g_tval (g_call G_is_from gd (hr.mono (by decide)) rfl T.g_is_from k_is_from b_is_from .nil (fun _ _ => .nil) tk (ga_cons (g_var (pv 1)) (ga_cons g_int ga_nil))))) (gs_one (g_rz (n := "BadPower") rfl tk PySem.F.excBase_ValueError T.er_BadPower.q T.g_BadPower T.er_BadPower.kp (raises_own T.er_BadPower.be T.er_BadPower.ty) rfl e_BadPower)) gs_nil)
      (gs_one (g_ret (g_if (g_tcmp w_lt (g_var (pv 1)) (g_cb w_len (by rfl) T.n_len PySem.boot_len (ga_cons (g_fld (n := "Rule") (g_var (pv 0)) T.cl_Rule T.na_Rule_own_numbers) ga_nil)) (nomark _)) (g_ix (g_fld (n := "Rule") (g_var (pv 0)) T.cl_Rule T.na_Rule_own_numbers) (g_var (pv 1))) g_int)))) (by decide +kernel), run_wDef (N := N_Rule___getitem__) h (Nat.le_refl _)⟩
theorem ok_Rule___getitem__ (T : Tx K mg) (TB : TbB K base mg) : OkW P w (cx K) mg base 3 (He.ma K (He.ga K "Rule") "__getitem__") ["self", "power"] wp_Rule___getitem__ (0) (d_Rule___getitem__.dvs K) := by
  obtain ⟨fd, F⟩ := T.f_Rule___getitem__
  have hb : Binds K fd ["self", "power"] [] := F.bindsN fun _ _ _ _ _ _ us hl => match us, hl with | [_, _], _ => rfl
  exact ⟨fd, okF_Rule___getitem__ T TB F, hb, F.kp, ⟨[], .nil, hb⟩⟩
theorem okF_is_bend (T : Tx K mg) (TB : TbB K base mg) {fd : FuncData} (F : FunD K "is_bend" "is_bend" (defArgs (topS 29)) (defBody (topS 29)) (defScope (topS 29)) (d_is_bend.dvs K) [] (He.ga K "is_bend") fd) : FnW P w K mg base 5 (He.ga K "is_bend") fd ["step"] (SpW (cx K) wp_is_bend (0)) := by
  obtain ⟨_, G_Rule___getitem__, b_Rule___getitem__, k_Rule___getitem__, _, v_Rule___getitem__, c_Rule___getitem__⟩ := ok_Rule___getitem__ (P := P) (w := w) (base := base) T TB
  obtain ⟨_, G_Rule_degree, b_Rule_degree, k_Rule_degree, _, v_Rule_degree, c_Rule_degree⟩ := ok_Rule_degree (P := P) (w := w) (base := base) T TB
  have nd := sc_is_bend.nd
  refine fnW_of F sc_is_bend (fun vs H Q E h => SpW.len rfl h) (fun A outer s H vs Q E gd hr h => ?_)
  have tk : Takes (cxOf (L2.CX P w) P w K mg base N_is_bend "is_bend" (defScope (topS 29)) (He.ga K "is_bend") (.ref (codeAt K (He.ga K "is_bend"))) A outer s H E) (fun cls d _ H => E cls d H) := takes_of rfl rfl rfl rfl
  exact ⟨_, gs_le (c := cx K) (W := fun cls d _ H => E cls d H) (kb := 0) (gs_one (g_ret (g_and (g_cmp (w_eq hr.units) (g_ix (g_var (pv 0)) g_int) g_str (nomark _)) (g_and (g_cmp w_gt (g_prop (n := "Rule") (g_ix (g_var (pv 0)) g_int) T.cl_Rule T.prop_Rule_degree G_Rule_degree gd (hr.mono (by decide)) b_Rule_degree) g_int (nomark _)) (g_and (g_cmp (w_eq hr.units) (g_ixO (n := "Rule") G_Rule___getitem__ gd (hr.mono (by decide)) b_Rule___getitem__ tk T.spl_Rule_getitem T.fi_Rule_getitem (g_ix (g_var (pv 0)) g_int) g_int) g_int (nomark _)) (g_one (g_cmp (w_eq hr.units) (g_ixO (n := "Rule") G_Rule___getitem__ gd (hr.mono (by decide)) b_Rule___getitem__ tk T.spl_Rule_getitem T.fi_Rule_getitem (g_ix (g_var (pv 0)) g_int) g_int) g_int (nomark _)))))))) (by decide +kernel), run_wDef (N := N_is_bend) h (Nat.le_refl _)⟩
theorem ok_is_bend (T : Tx K mg) (TB : TbB K base mg) : OkW P w (cx K) mg base 5 (He.ga K "is_bend") ["step"] wp_is_bend (0) (d_is_bend.dvs K) := by
  obtain ⟨fd, F⟩ := T.f_is_bend
  have hb : Binds K fd ["step"] [] := F.bindsN fun _ _ _ _ _ _ us hl => match us, hl with | [_], _ => rfl
  exact ⟨fd, okF_is_bend T TB F, hb, F.kp, ⟨[], .nil, hb⟩⟩
theorem okF_is_quarter (T : Tx K mg) (TB : TbB K base mg) {fd : FuncData} (F : FunD K "is_quarter" "is_quarter" (defArgs (topS 30)) (defBody (topS 30)) (defScope (topS 30)) (d_is_quarter.dvs K) [] (He.ga K "is_quarter") fd) : FnW P w K mg base 1 (He.ga K "is_quarter") fd ["step"] (SpW (cx K) wp_is_quarter (0)) := by
  have nd := sc_is_quarter.nd
  refine fnW_of F sc_is_quarter (fun vs H Q E h => SpW.len rfl h) (fun A outer s H vs Q E gd hr h => ?_)
  have tk : Takes (cxOf (L2.CX P w) P w K mg base N_is_quarter "is_quarter" (defScope (topS 30)) (He.ga K "is_quarter") (.ref (codeAt K (He.ga K "is_quarter"))) A outer s H E) (fun cls d _ H => E cls d H) := takes_of rfl rfl rfl rfl
  exact ⟨_, gs_le (c := cx K) (W := fun cls d _ H => E cls d H) (kb := 0) (gs_one (g_ret (g_and (g_cmp (w_eq hr.units) (g_ix (g_var (pv 0)) g_int) g_str (nomark _)) (g_and (g_chain op_le op_lt g_int (g_ix (g_var (pv 0)) g_int) (g_ix (g_var (pv 0)) g_int)) (g_one (g_cmp (w_eq hr.units) (g_op w_sub (g_op w_mul (g_ix (g_var (pv 0)) g_int) (g_ix (g_var (pv 0)) g_int)) (g_op w_mul (g_ix (g_var (pv 0)) g_int) (g_ix (g_var (pv 0)) g_int))) g_int (nomark _))))))) (by decide +kernel), run_wDef (N := N_is_quarter) h (Nat.le_refl _)⟩
theorem ok_is_quarter (T : Tx K mg) (TB : TbB K base mg) : OkW P w (cx K) mg base 1 (He.ga K "is_quarter") ["step"] wp_is_quarter (0) (d_is_quarter.dvs K) := by
  obtain ⟨fd, F⟩ := T.f_is_quarter
  have hb : Binds K fd ["step"] [] := F.bindsN fun _ _ _ _ _ _ us hl => match us, hl with | [_], _ => rfl
  exact ⟨fd, okF_is_quarter T TB F, hb, F.kp, ⟨[], .nil, hb⟩⟩
theorem okF_is_plain (T : Tx K mg) (TB : TbB K base mg) {fd : FuncData} (F : FunD K "is_plain" "is_plain" (defArgs (topS 31)) (defBody (topS 31)) (defScope (topS 31)) (d_is_plain.dvs K) [] (He.ga K "is_plain") fd) : FnW P w K mg base 6 (He.ga K "is_plain") fd ["program"] (SpW (cx K) wp_is_plain (0)) := by
  obtain ⟨_, G_is_bend, b_is_bend, k_is_bend, _, v_is_bend, c_is_bend⟩ := ok_is_bend (P := P) (w := w) (base := base) T TB
  obtain ⟨_, G_is_quarter, b_is_quarter, k_is_quarter, _, v_is_quarter, c_is_quarter⟩ := ok_is_quarter (P := P) (w := w) (base := base) T TB
  obtain ⟨_, G_need_program, b_need_program, k_need_program, _, v_need_program, c_need_program⟩ := ok_need_program (P := P) (w := w) (base := base) T TB
  have nd := sc_is_plain.nd
  refine fnW_of F sc_is_plain (fun vs H Q E h => SpW.len rfl h) (fun A outer s H vs Q E gd hr h => ?_)
  have tk : Takes (cxOf (L2.CX P w) P w K mg base N_is_plain "is_plain" (defScope (topS 31)) (He.ga K "is_plain") (.ref (codeAt K (He.ga K "is_plain"))) A outer s H E) (fun cls d _ H => E cls d H) := takes_of rfl rfl rfl rfl
  exact ⟨_, gs_le (c := cx K) (W := fun cls d _ H => E cls d H) (kb := 0) (gs_cons (g_drop (g_call G_need_program gd (hr.mono (by decide)) rfl T.g_need_program_programs k_need_program b_need_program .nil (fun _ _ => .nil) tk (ga_cons (g_var (pv 0)) ga_nil)))
      (gs_cons (g_set (i := 1) nd rfl (Or.inl rfl) (g_fld (n := "Program") (g_var (pv 0)) T.cl_Program T.na_Program_own_steps))
      (gs_cons (g_ifS (g_pt (g_wor (g_tcmp w_lt (g_cb w_len (by rfl) T.n_len PySem.boot_len (ga_cons (g_var (pv 1)) ga_nil)) g_int (nomark _)) (g_wor (g_tcmp (w_ne hr.units) (g_ix (g_ix (g_var (pv 1)) (g_un w_neg g_int)) g_int) g_str (nomark _)) (g_wor (g_tcmp (w_ne hr.units) (g_ix (g_ix (g_var (pv 1)) (g_un w_neg g_int)) g_int) g_str (nomark _)) (g_wor1 (g_tcmp (w_ne hr.units) (g_ix (g_ix (g_var (pv 1)) (g_un w_neg g_int)) g_int) g_int (nomark _))))))) (gs_one (g_ret g_bl)) gs_nil)
      (gs_cons (g_set (i := 2) nd rfl (Or.inl rfl) (g_sl w_sl (g_var (pv 1)) go_none (go_some (g_un w_neg g_int))))
      (gs_cons (g_ifS (g_tnot (g_tval (g_cb w_all (by rfl) T.n_all (by decide +kernel) (ga_cons (g_lc (own := [("step", 3)]) nd (gi_seq (g_var (pv 2))) (blkOk_by (own := [("step", 3)]) (N := N_is_plain) (sc := defScope (topS 31)) (by decide +kernel)) (fun _ _ _ _ _ => (gg_name (i := 3) nd rfl (Or.inl rfl))) (fun _ _ _ _ _ => gt_yes) (fun _ _ _ _ _ => (g_or (g_call G_is_bend gd (hr.mono (by decide)) rfl T.g_is_bend k_is_bend b_is_bend .nil (fun _ _ => .nil) LamX.takes0 (ga_cons (g_var (pv 3)) ga_nil)) (g_one (g_call G_is_quarter gd (hr.mono (by decide)) rfl T.g_is_quarter k_is_quarter b_is_quarter .nil (fun _ _ => .nil) LamX.takes0 (ga_cons (g_var (pv 3)) ga_nil)))))) ga_nil)))) (gs_one (g_ret g_bl)) gs_nil)
      (gs_one (g_ret (g_cb w_all (by rfl) T.n_all (by decide +kernel) (ga_cons (g_lc (own := [("one", 4), ("other", 5)]) nd (gi_zip (by rfl) T.n_zip (ga_cons (g_var (pv 2)) (ga_cons (g_sl w_sl (g_var (pv 2)) (go_some g_int) go_none) ga_nil))) (blkOk_by (own := [("one", 4), ("other", 5)]) (N := N_is_plain) (sc := defScope (topS 31)) (by decide +kernel)) (fun _ _ _ _ _ => (gg_tup (ggs_cons (gg_name (i := 4) nd rfl (Or.inl rfl)) (ggs_cons (gg_name (i := 5) nd rfl (Or.inl rfl)) ggs_nil)))) (fun _ _ _ _ _ => gt_yes) (fun _ _ _ _ _ => (g_cmp (w_ne hr.units) (g_ix (g_var (pv 4)) g_int) (g_ix (g_var (pv 5)) g_int) (nomark _)))) ga_nil))))))))) (by decide +kernel), run_wDef (N := N_is_plain) h (Nat.le_refl _)⟩
theorem ok_is_plain (T : Tx K mg) (TB : TbB K base mg) : OkW P w (cx K) mg base 6 (He.ga K "is_plain") ["program"] wp_is_plain (0) (d_is_plain.dvs K) := by
  obtain ⟨fd, F⟩ := T.f_is_plain
  have hb : Binds K fd ["program"] [] := F.bindsN fun _ _ _ _ _ _ us hl => match us, hl with | [_], _ => rfl
  exact ⟨fd, okF_is_plain T TB F, hb, F.kp, ⟨[], .nil, hb⟩⟩
theorem okF_Program_steps (T : Tx K mg) (TB : TbB K base mg) {fd : FuncData} (F : FunD K "steps" "Program.steps" (defArgs (inClass (topS 25) 1)) (defBody (inClass (topS 25) 1)) (defScope (inClass (topS 25) 1)) (d_Program_steps.dvs K) [] (recAt K "property" (He.ma K (He.ga K "Program") "steps")) fd) : FnW P w K mg base 1 (recAt K "property" (He.ma K (He.ga K "Program") "steps")) fd ["self"] (SpW (cx K) wp_Program_steps (0)) := by
  have nd := sc_Program_steps.nd
  refine fnW_of F sc_Program_steps (fun vs H Q E h => SpW.len rfl h) (fun A outer s H vs Q E gd hr h => ?_)
  have tk : Takes (cxOf (L2.CX P w) P w K mg base N_Program_steps "Program.steps" (defScope (inClass (topS 25) 1)) (recAt K "property" (He.ma K (He.ga K "Program") "steps")) (.ref (codeAt K (recAt K "property" (He.ma K (He.ga K "Program") "steps")))) A outer s H E) (fun cls d _ H => E cls d H) := takes_of rfl rfl rfl rfl
  exact ⟨_, gs_le (c := cx K) (W := fun cls d _ H => E cls d H) (kb := 0) (gs_one (g_ret (g_fld (n := "Program") (g_var (pv 0)) T.cl_Program T.na_Program_own_steps))) (by decide +kernel), run_wDef (N := N_Program_steps) h (Nat.le_refl _)⟩
theorem ok_Program_steps (T : Tx K mg) (TB : TbB K base mg) : OkW P w (cx K) mg base 1 (recAt K "property" (He.ma K (He.ga K "Program") "steps")) ["self"] wp_Program_steps (0) (d_Program_steps.dvs K) := by
  obtain ⟨fd, F⟩ := T.f_Program_steps
  have hb : Binds K fd ["self"] [] := F.bindsN fun _ _ _ _ _ _ us hl => match us, hl with | [_], _ => rfl
  exact ⟨fd, okF_Program_steps T TB F, hb, F.kp, ⟨[], .nil, hb⟩⟩
theorem okF_parts_of_cores (T : Tx K mg) (TB : TbB K base mg) {fd : FuncData} (F : FunD K "parts_of" "parts_of" (defArgs (topS 35)) (defBody (topS 35)) (defScope (topS 35)) (d_parts_of_cores.dvs K) [] (He.ga K "parts_of") fd) : FnW P w K mg base 3 (He.ga K "parts_of") fd ["program"] (SpW (cx K) wp_parts_of_cores (0)) := by
  obtain ⟨_, G_Program_steps, b_Program_steps, k_Program_steps, _, v_Program_steps, c_Program_steps⟩ := ok_Program_steps (P := P) (w := w) (base := base) T TB
  have nd := sc_parts_of_cores.nd
  refine fnW_of F sc_parts_of_cores (fun vs H Q E h => SpW.len rfl h) (fun A outer s H vs Q E gd hr h => ?_)
  have tk : Takes (cxOf (L2.CX P w) P w K mg base N_parts_of_cores "parts_of" (defScope (topS 35)) (He.ga K "parts_of") (.ref (codeAt K (He.ga K "parts_of"))) A outer s H E) (fun cls d _ H => E cls d H) := takes_of rfl rfl rfl rfl
  exact ⟨_, gs_le (c := cx K) (W := fun cls d _ H => E cls d H) (kb := 0) (gs_one (g_ret (g_sl w_sl (g_prop (n := "Program") (g_var (pv 0)) T.cl_Program T.prop_Program_steps G_Program_steps gd (hr.mono (by decide)) b_Program_steps) go_none (go_some (g_un w_neg g_int))))) (by decide +kernel), run_wDef (N := N_parts_of_cores) h (Nat.le_refl _)⟩
theorem ok_parts_of_cores (T : Tx K mg) (TB : TbB K base mg) : OkW P w (cx K) mg base 3 (He.ga K "parts_of") ["program"] wp_parts_of_cores (0) (d_parts_of_cores.dvs K) := by
  obtain ⟨fd, F⟩ := T.f_parts_of_cores
  have hb : Binds K fd ["program"] [] := F.bindsN fun _ _ _ _ _ _ us hl => match us, hl with | [_], _ => rfl
  exact ⟨fd, okF_parts_of_cores T TB F, hb, F.kp, ⟨[], .nil, hb⟩⟩
theorem okF_are_core_parts (T : Tx K mg) (TB : TbB K base mg) {fd : FuncData} (F : FunD K "are_core_parts" "are_core_parts" (defArgs (topS 36)) (defBody (topS 36)) (defScope (topS 36)) (d_are_core_parts.dvs K) [] (He.ga K "are_core_parts") fd) : FnW P w K mg base 1 (He.ga K "are_core_parts") fd ["parts"] (SpW (cx K) wp_are_core_parts (0)) := by
  have nd := sc_are_core_parts.nd
  refine fnW_of F sc_are_core_parts (fun vs H Q E h => SpW.len rfl h) (fun A outer s H vs Q E gd hr h => ?_)
  have tk : Takes (cxOf (L2.CX P w) P w K mg base N_are_core_parts "are_core_parts" (defScope (topS 36)) (He.ga K "are_core_parts") (.ref (codeAt K (He.ga K "are_core_parts"))) A outer s H E) (fun cls d _ H => E cls d H) := takes_of rfl rfl rfl rfl
  exact ⟨_, gs_le (c := cx K) (W := fun cls d _ H => E cls d H) (kb := 0) (gs_one (g_ret (g_and (g_cmp w_gt (g_cb w_len (by rfl) T.n_len PySem.boot_len (ga_cons (g_var (pv 0)) ga_nil)) g_int (nomark _)) (g_and (g_cmp (w_eq hr.units) (g_op w_mod (g_cb w_len (by rfl) T.n_len PySem.boot_len (ga_cons (g_var (pv 0)) ga_nil)) g_int) g_int (nomark _)) (g_one (g_cmp (w_eq hr.units) (g_ix (g_ix (g_var (pv 0)) g_int) g_int) g_str (nomark _))))))) (by decide +kernel), run_wDef (N := N_are_core_parts) h (Nat.le_refl _)⟩
theorem ok_are_core_parts (T : Tx K mg) (TB : TbB K base mg) : OkW P w (cx K) mg base 1 (He.ga K "are_core_parts") ["parts"] wp_are_core_parts (0) (d_are_core_parts.dvs K) := by
  obtain ⟨fd, F⟩ := T.f_are_core_parts
  have hb : Binds K fd ["parts"] [] := F.bindsN fun _ _ _ _ _ _ us hl => match us, hl with | [_], _ => rfl
  exact ⟨fd, okF_are_core_parts T TB F, hb, F.kp, ⟨[], .nil, hb⟩⟩
theorem okF_is_core (T : Tx K mg) (TB : TbB K base mg) {fd : FuncData} (F : FunD K "is_core" "is_core" (defArgs (topS 37)) (defBody (topS 37)) (defScope (topS 37)) (d_is_core.dvs K) [] (He.ga K "is_core") fd) : FnW P w K mg base 7 (He.ga K "is_core") fd ["program"] (SpW (cx K) wp_is_core (0)) := by
  obtain ⟨_, G_are_core_parts, b_are_core_parts, k_are_core_parts, _, v_are_core_parts, c_are_core_parts⟩ := ok_are_core_parts (P := P) (w := w) (base := base) T TB
  obtain ⟨_, G_is_plain, b_is_plain, k_is_plain, _, v_is_plain, c_is_plain⟩ := ok_is_plain (P := P) (w := w) (base := base) T TB
  obtain ⟨_, G_need_program_cores, b_need_program_cores, k_need_program_cores, _, v_need_program_cores, c_need_program_cores⟩ := ok_need_program_cores (P := P) (w := w) (base := base) T TB
  obtain ⟨_, G_parts_of_cores, b_parts_of_cores, k_parts_of_cores, _, v_parts_of_cores, c_parts_of_cores⟩ := ok_parts_of_cores (P := P) (w := w) (base := base) T TB
  have nd := sc_is_core.nd
  refine fnW_of F sc_is_core (fun vs H Q E h => SpW.len rfl h) (fun A outer s H vs Q E gd hr h => ?_)
  have tk : Takes (cxOf (L2.CX P w) P w K mg base N_is_core "is_core" (defScope (topS 37)) (He.ga K "is_core") (.ref (codeAt K (He.ga K "is_core"))) A outer s H E) (fun cls d _ H => E cls d H) := takes_of rfl rfl rfl rfl
  exact ⟨_, gs_le (c := cx K) (W := fun cls d _ H => E cls d H) (kb := 0) (gs_cons (g_drop (g_call G_need_program_cores gd (hr.mono (by decide)) rfl T.g_need_program_cores k_need_program_cores b_need_program_cores .nil (fun _ _ => .nil) tk (ga_cons (g_var (pv 0)) ga_nil)))
      (gs_one (g_ret (g_and (g_call G_is_plain gd (hr.mono (by decide)) rfl T.g_is_plain k_is_plain b_is_plain .nil (fun _ _ => .nil) tk (ga_cons (g_var (pv 0)) ga_nil)) (g_one (g_call G_are_core_parts gd (hr.mono (by decide)) rfl T.g_are_core_parts k_are_core_parts b_are_core_parts .nil (fun _ _ => .nil) tk (ga_cons (g_call G_parts_of_cores gd (hr.mono (by decide)) rfl T.g_parts_of k_parts_of_cores b_parts_of_cores .nil (fun _ _ => .nil) tk (ga_cons (g_var (pv 0)) ga_nil)) ga_nil))))))) (by decide +kernel), run_wDef (N := N_is_core) h (Nat.le_refl _)⟩
theorem ok_is_core (T : Tx K mg) (TB : TbB K base mg) : OkW P w (cx K) mg base 7 (He.ga K "is_core") ["program"] wp_is_core (0) (d_is_core.dvs K) := by
  obtain ⟨fd, F⟩ := T.f_is_core
  have hb : Binds K fd ["program"] [] := F.bindsN fun _ _ _ _ _ _ us hl => match us, hl with | [_], _ => rfl
  exact ⟨fd, okF_is_core T TB F, hb, F.kp, ⟨[], .nil, hb⟩⟩
theorem okF_need_core (T : Tx K mg) (TB : TbB K base mg) {fd : FuncData} (F : FunD K "need_core" "need_core" (defArgs (topS 38)) (defBody (topS 38)) (defScope (topS 38)) (d_need_core.dvs K) [] (He.ga K "need_core") fd) : FnW P w K mg base 8 (He.ga K "need_core") fd ["core"] (SpW (cx K) wp_need_core (0)) := by
  obtain ⟨_, G_is_core, b_is_core, k_is_core, _, v_is_core, c_is_core⟩ := ok_is_core (P := P) (w := w) (base := base) T TB
  have nd := sc_need_core.nd
  refine fnW_of F sc_need_core (fun vs H Q E h => SpW.len rfl h) (fun A outer s H vs Q E gd hr h => ?_)
  have tk : Takes (cxOf (L2.CX P w) P w K mg base N_need_core "need_core" (defScope (topS 38)) (He.ga K "need_core") (.ref (codeAt K (He.ga K "need_core"))) A outer s H E) (fun cls d _ H => E cls d H) := takes_of rfl rfl rfl rfl
  exact ⟨_, gs_le (c := cx K) (W := fun cls d _ H => E cls d H) (kb := 0) (gs_one (g_ifS (g_pt (g_wor (g_tnot (g_tval (g_cb (w_isi T.ctx) (by rfl) T.n_isinstance (by decide +kernel) (ga_cons (g_var (pv 0)) (ga_cons (g_cls (pe_glob rfl T.g_Program rfl) i_Program) ga_nil))))) (g_wor1 (g_tnot (g_tval (g_call G_is_core gd (hr.mono (by decide)) rfl T.g_is_core k_is_core b_is_core .nil (fun _ _ => .nil) tk (ga_cons (g_var (pv 0)) ga_nil))))))) (gs_one (g_rz (n := "NoCore") rfl tk PySem.F.excBase_ValueError T.er_NoCore.q T.g_NoCore T.er_NoCore.kp (raises_own T.er_NoCore.be T.er_NoCore.ty) rfl e_NoCore)) gs_nil)) (by decide +kernel), run_wDef (N := N_need_core) h (Nat.le_refl _)⟩
theorem ok_need_core (T : Tx K mg) (TB : TbB K base mg) : OkW P w (cx K) mg base 8 (He.ga K "need_core") ["core"] wp_need_core (0) (d_need_core.dvs K) := by
  obtain ⟨fd, F⟩ := T.f_need_core
  have hb : Binds K fd ["core"] [] := F.bindsN fun _ _ _ _ _ _ us hl => match us, hl with | [_], _ => rfl
  exact ⟨fd, okF_need_core T TB F, hb, F.kp, ⟨[], .nil, hb⟩⟩
theorem okF_with_end (T : Tx K mg) (TB : TbB K base mg) {fd : FuncData} (F : FunD K "with_end" "with_end" (defArgs (topS 43)) (defBody (topS 43)) (defScope (topS 43)) (d_with_end.dvs K) [] (He.ga K "with_end") fd) : FnW P w K mg base 1 (He.ga K "with_end") fd ["quarter", "turn", "move"] (SpW (cx K) wp_with_end (0)) := by
  have nd := sc_with_end.nd
  refine fnW_of F sc_with_end (fun vs H Q E h => SpW.len rfl h) (fun A outer s H vs Q E gd hr h => ?_)
  have tk : Takes (cxOf (L2.CX P w) P w K mg base N_with_end "with_end" (defScope (topS 43)) (He.ga K "with_end") (.ref (codeAt K (He.ga K "with_end"))) A outer s H E) (fun cls d _ H => E cls d H) := takes_of rfl rfl rfl rfl
  exact ⟨_, gs_le (c := cx K) (W := fun cls d _ H => E cls d H) (kb := 0) (gs_cons (g_asg (g_sl w_sl (g_var (pv 0)) (go_some g_int) go_none) (gg_tup (ggs_cons (gg_name (i := 3) nd rfl (Or.inl rfl)) (ggs_cons (gg_name (i := 4) nd rfl (Or.inl rfl)) (ggs_cons (gg_name (i := 5) nd rfl (Or.inl rfl)) (ggs_cons (gg_name (i := 6) nd rfl (Or.inl rfl)) ggs_nil))))))
      (gs_cons (g_asg (g_sl w_sl (g_var (pv 1)) (go_some g_int) go_none) (gg_tup (ggs_cons (gg_name (i := 7) nd rfl (Or.inl rfl)) (ggs_cons (gg_name (i := 8) nd rfl (Or.inl rfl)) (ggs_cons (gg_name (i := 9) nd rfl (Or.inl rfl)) (ggs_cons (gg_name (i := 10) nd rfl (Or.inl rfl)) ggs_nil))))))
      (gs_one (g_ret (g_tup (ga_cons (g_op w_add (g_op w_mul (g_var (pv 7)) (g_var (pv 3))) (g_op w_mul (g_var (pv 8)) (g_var (pv 5)))) (ga_cons (g_op w_add (g_op w_mul (g_var (pv 7)) (g_var (pv 4))) (g_op w_mul (g_var (pv 8)) (g_var (pv 6)))) (ga_cons (g_op w_mul (g_var (pv 10)) (g_var (pv 5))) (ga_cons (g_op w_mul (g_var (pv 10)) (g_var (pv 6))) (ga_cons (g_ix (g_var (pv 2)) g_int) (ga_cons (g_ix (g_var (pv 2)) g_int) ga_nil))))))))))) (by decide +kernel), run_wDef (N := N_with_end) h (Nat.le_refl _)⟩
theorem ok_with_end (T : Tx K mg) (TB : TbB K base mg) : OkW P w (cx K) mg base 1 (He.ga K "with_end") ["quarter", "turn", "move"] wp_with_end (0) (d_with_end.dvs K) := by
  obtain ⟨fd, F⟩ := T.f_with_end
  have hb : Binds K fd ["quarter", "turn", "move"] [] := F.bindsN fun _ _ _ _ _ _ us hl => match us, hl with | [_, _, _], _ => rfl
  exact ⟨fd, okF_with_end T TB F, hb, F.kp, ⟨[], .nil, hb⟩⟩
theorem okF_couples_of (T : Tx K mg) (TB : TbB K base mg) {fd : FuncData} (F : FunD K "couples_of" "couples_of" (defArgs (topS 44)) (defBody (topS 44)) (defScope (topS 44)) (d_couples_of.dvs K) [] (He.ga K "couples_of") fd) : FnW P w K mg base 3 (He.ga K "couples_of") fd ["core"] (SpW (cx K) wp_couples_of (0)) := by
  obtain ⟨_, G_Program_steps, b_Program_steps, k_Program_steps, _, v_Program_steps, c_Program_steps⟩ := ok_Program_steps (P := P) (w := w) (base := base) T TB
  obtain ⟨_, G_with_end, b_with_end, k_with_end, _, v_with_end, c_with_end⟩ := ok_with_end (P := P) (w := w) (base := base) T TB
  have nd := sc_couples_of.nd
  refine fnW_of F sc_couples_of (fun vs H Q E h => SpW.len rfl h) (fun A outer s H vs Q E gd hr h => ?_)
  have tk : Takes (cxOf (L2.CX P w) P w K mg base N_couples_of "couples_of" (defScope (topS 44)) (He.ga K "couples_of") (.ref (codeAt K (He.ga K "couples_of"))) A outer s H E) (fun cls d _ H => E cls d H) := takes_of rfl rfl rfl rfl
  exact ⟨_, gs_le (c := cx K) (W := fun cls d _ H => E cls d H) (kb := 0) (gs_cons (g_parN (hp := ps_par (i := 1) (j := 2) rfl nd rfl rfl (by decide) rfl rfl (ga_cons (g_prop (n := "Program") (g_var (pv 0)) T.cl_Program T.prop_Program_steps G_Program_steps gd (hr.mono (by decide)) b_Program_steps) (ga_cons (g_lst ga_nil) ga_nil)) rfl))
      (gs_cons (g_for (passes_of rfl) (gi_rng3U (by rfl) T.n_range (ga_cons g_int (ga_cons (g_op w_sub (g_cb w_len (by rfl) T.n_len PySem.boot_len (ga_cons (g_var (pv 1)) ga_nil)) g_int) (ga_cons g_int ga_nil)))) (gg_name (i := 3) nd rfl (Or.inl rfl)) (gs_one (g_drop (g_lmN mw_app (fun r h => pe_bm PySem.F.plainAttrs_list PySem.F.slot_list_append PySem.F.type_list_append h (g_var (pv 2)) (ga_cons (g_tup (ga_cons (g_ix (g_ix (g_var (pv 1)) (g_var (pv 3))) g_int) (ga_cons (g_tup (ga_star (g_sl w_sl (g_ix (g_var (pv 1)) (g_op w_add (g_var (pv 3)) g_int)) (go_some g_int) go_none) (ga_cons g_int (ga_cons g_int ga_nil)))) ga_nil))) ga_nil))))))
      (gs_one (g_fz 2 (g_ret (g_lst (ga_star (g_var (pv 2)) (ga_cons (g_tup (ga_cons (g_ix (g_ix (g_var (pv 1)) (g_un w_neg g_int)) g_int) (ga_cons (g_call G_with_end gd (hr.mono (by decide)) rfl T.g_with_end k_with_end b_with_end .nil (fun _ _ => .nil) tk (ga_cons (g_ix (g_var (pv 1)) (g_un w_neg g_int)) (ga_cons (g_ix (g_var (pv 1)) (g_un w_neg g_int)) (ga_cons (g_ix (g_var (pv 1)) (g_un w_neg g_int)) ga_nil)))) ga_nil))) ga_nil)))))))) (by decide +kernel), run_wDef (N := N_couples_of) h (Nat.le_refl _)⟩
theorem ok_couples_of (T : Tx K mg) (TB : TbB K base mg) : OkW P w (cx K) mg base 3 (He.ga K "couples_of") ["core"] wp_couples_of (0) (d_couples_of.dvs K) := by
  obtain ⟨fd, F⟩ := T.f_couples_of
  have hb : Binds K fd ["core"] [] := F.bindsN fun _ _ _ _ _ _ us hl => match us, hl with | [_], _ => rfl
  exact ⟨fd, okF_couples_of T TB F, hb, F.kp, ⟨[], .nil, hb⟩⟩
theorem okF_Rule_coefficients (T : Tx K mg) (TB : TbB K base mg) {fd : FuncData} (F : FunD K "coefficients" "Rule.coefficients" (defArgs (inClass (topS 15) 1)) (defBody (inClass (topS 15) 1)) (defScope (inClass (topS 15) 1)) (d_Rule_coefficients.dvs K) [] (recAt K "property" (He.ma K (He.ga K "Rule") "coefficients")) fd) : FnW P w K mg base 1 (recAt K "property" (He.ma K (He.ga K "Rule") "coefficients")) fd ["self"] (SpW (cx K) wp_Rule_coefficients (0)) := by
  have nd := sc_Rule_coefficients.nd
  refine fnW_of F sc_Rule_coefficients (fun vs H Q E h => SpW.len rfl h) (fun A outer s H vs Q E gd hr h => ?_)
  have tk : Takes (cxOf (L2.CX P w) P w K mg base N_Rule_coefficients "Rule.coefficients" (defScope (inClass (topS 15) 1)) (recAt K "property" (He.ma K (He.ga K "Rule") "coefficients")) (.ref (codeAt K (recAt K "property" (He.ma K (He.ga K "Rule") "coefficients")))) A outer s H E) (fun cls d _ H => E cls d H) := takes_of rfl rfl rfl rfl
  exact ⟨_, gs_le (c := cx K) (W := fun cls d _ H => E cls d H) (kb := 0) (gs_one (g_ret (g_fld (n := "Rule") (g_var (pv 0)) T.cl_Rule T.na_Rule_own_numbers))) (by decide +kernel), run_wDef (N := N_Rule_coefficients) h (Nat.le_refl _)⟩
theorem ok_Rule_coefficients (T : Tx K mg) (TB : TbB K base mg) : OkW P w (cx K) mg base 1 (recAt K "property" (He.ma K (He.ga K "Rule") "coefficients")) ["self"] wp_Rule_coefficients (0) (d_Rule_coefficients.dvs K) := by
  obtain ⟨fd, F⟩ := T.f_Rule_coefficients
  have hb : Binds K fd ["self"] [] := F.bindsN fun _ _ _ _ _ _ us hl => match us, hl with | [_], _ => rfl
  exact ⟨fd, okF_Rule_coefficients T TB F, hb, F.kp, ⟨[], .nil, hb⟩⟩
theorem okF_lower_sum (T : Tx K mg) (TB : TbB K base mg) {fd : FuncData} (F : FunD K "lower_sum" "lower_sum" (defArgs (topS 45)) (defBody (topS 45)) (defScope (topS 45)) (d_lower_sum.dvs K) [] (He.ga K "lower_sum") fd) : FnW P w K mg base 3 (He.ga K "lower_sum") fd ["rule"] (SpW (cx K) wp_lower_sum (0)) := by
  obtain ⟨_, G_Rule_coefficients, b_Rule_coefficients, k_Rule_coefficients, _, v_Rule_coefficients, c_Rule_coefficients⟩ := ok_Rule_coefficients (P := P) (w := w) (base := base) T TB
  have nd := sc_lower_sum.nd
  refine fnW_of F sc_lower_sum (fun vs H Q E h => SpW.len rfl h) (fun A outer s H vs Q E gd hr h => ?_)
  have tk : Takes (cxOf (L2.CX P w) P w K mg base N_lower_sum "lower_sum" (defScope (topS 45)) (He.ga K "lower_sum") (.ref (codeAt K (He.ga K "lower_sum"))) A outer s H E) (fun cls d _ H => E cls d H) := takes_of rfl rfl rfl rfl
  exact ⟨_, gs_le (c := cx K) (W := fun cls d _ H => E cls d H) (kb := 0) (gs_one (g_ret (g_cb w_sum (by rfl) T.n_sum (by decide +kernel) (ga_cons (g_lc (own := [("number", 1)]) nd (gi_seq (g_sl w_sl (g_prop (n := "Rule") (g_var (pv 0)) T.cl_Rule T.prop_Rule_coefficients G_Rule_coefficients gd (hr.mono (by decide)) b_Rule_coefficients) go_none (go_some (g_un w_neg g_int)))) (blkOk_by (own := [("number", 1)]) (N := N_lower_sum) (sc := defScope (topS 45)) (by decide +kernel)) (fun _ _ _ _ _ => (gg_name (i := 1) nd rfl (Or.inl rfl))) (fun _ _ _ _ _ => gt_yes) (fun _ _ _ _ _ => (g_cb w_abs (by rfl) T.n_abs (by decide +kernel) (ga_cons (g_var (pv 1)) ga_nil)))) ga_nil)))) (by decide +kernel), run_wDef (N := N_lower_sum) h (Nat.le_refl _)⟩
theorem ok_lower_sum (T : Tx K mg) (TB : TbB K base mg) : OkW P w (cx K) mg base 3 (He.ga K "lower_sum") ["rule"] wp_lower_sum (0) (d_lower_sum.dvs K) := by
  obtain ⟨fd, F⟩ := T.f_lower_sum
  have hb : Binds K fd ["rule"] [] := F.bindsN fun _ _ _ _ _ _ us hl => match us, hl with | [_], _ => rfl
  exact ⟨fd, okF_lower_sum T TB F, hb, F.kp, ⟨[], .nil, hb⟩⟩
theorem okF_least_height (T : Tx K mg) (TB : TbB K base mg) {fd : FuncData} (F : FunD K "least_height" "least_height" (defArgs (topS 46)) (defBody (topS 46)) (defScope (topS 46)) (d_least_height.dvs K) [] (He.ga K "least_height") fd) : FnW P w K mg base 4 (He.ga K "least_height") fd ["rule", "numbers", "width"] (SpW (cx K) wp_least_height (0)) := by
  obtain ⟨_, G_lower_sum, b_lower_sum, k_lower_sum, _, v_lower_sum, c_lower_sum⟩ := ok_lower_sum (P := P) (w := w) (base := base) T TB
  have nd := sc_least_height.nd
  refine fnW_of F sc_least_height (fun vs H Q E h => SpW.len rfl h) (fun A outer s H vs Q E gd hr h => ?_)
  have tk : Takes (cxOf (L2.CX P w) P w K mg base N_least_height "least_height" (defScope (topS 46)) (He.ga K "least_height") (.ref (codeAt K (He.ga K "least_height"))) A outer s H E) (fun cls d _ H => E cls d H) := takes_of rfl rfl rfl rfl
  exact ⟨_, gs_le (c := cx K) (W := fun cls d _ H => E cls d H) (kb := 0) (gs_cons (g_asg (g_var (pv 1)) (gg_tup (ggs_cons (gg_name (i := 3) nd rfl (Or.inl rfl)) (ggs_cons (gg_name (i := 4) nd rfl (Or.inl rfl)) (ggs_cons (gg_name (i := 5) nd rfl (Or.inl rfl)) (ggs_cons (gg_name (i := 6) nd rfl (Or.inl rfl)) (ggs_cons (gg_name (i := 7) nd rfl (Or.inl rfl)) (ggs_cons (gg_name (i := 8) nd rfl (Or.inl rfl)) ggs_nil))))))))
      (gs_one (g_ret (g_op w_add (g_op w_add (g_call G_lower_sum gd (hr.mono (by decide)) rfl T.g_lower_sum k_lower_sum b_lower_sum .nil (fun _ _ => .nil) tk (ga_cons (g_var (pv 0)) ga_nil)) (g_var (pv 2))) (g_op w_mul g_int (g_op w_add (g_op w_add (g_op w_add (g_op w_add (g_cb w_abs (by rfl) T.n_abs (by decide +kernel) (ga_cons (g_var (pv 4)) ga_nil)) (g_cb w_abs (by rfl) T.n_abs (by decide +kernel) (ga_cons (g_var (pv 6)) ga_nil))) (g_cb w_abs (by rfl) T.n_abs (by decide +kernel) (ga_cons (g_var (pv 7)) ga_nil))) (g_cb w_abs (by rfl) T.n_abs (by decide +kernel) (ga_cons (g_var (pv 8)) ga_nil))) g_int)))))) (by decide +kernel), run_wDef (N := N_least_height) h (Nat.le_refl _)⟩
theorem ok_least_height (T : Tx K mg) (TB : TbB K base mg) : OkW P w (cx K) mg base 4 (He.ga K "least_height") ["rule", "numbers", "width"] wp_least_height (0) (d_least_height.dvs K) := by
  obtain ⟨fd, F⟩ := T.f_least_height
  have hb : Binds K fd ["rule", "numbers", "width"] [] := F.bindsN fun _ _ _ _ _ _ us hl => match us, hl with | [_, _, _], _ => rfl
  exact ⟨fd, okF_least_height T TB F, hb, F.kp, ⟨[], .nil, hb⟩⟩
theorem okF_least_reach (T : Tx K mg) (TB : TbB K base mg) {fd : FuncData} (F : FunD K "least_reach" "least_reach" (defArgs (topS 47)) (defBody (topS 47)) (defScope (topS 47)) (d_least_reach.dvs K) [] (He.ga K "least_reach") fd) : FnW P w K mg base 4 (He.ga K "least_reach") fd ["rule", "numbers", "width"] (SpW (cx K) wp_least_reach (0)) := by
  obtain ⟨_, G_lower_sum, b_lower_sum, k_lower_sum, _, v_lower_sum, c_lower_sum⟩ := ok_lower_sum (P := P) (w := w) (base := base) T TB
  have nd := sc_least_reach.nd
  refine fnW_of F sc_least_reach (fun vs H Q E h => SpW.len rfl h) (fun A outer s H vs Q E gd hr h => ?_)
  have tk : Takes (cxOf (L2.CX P w) P w K mg base N_least_reach "least_reach" (defScope (topS 47)) (He.ga K "least_reach") (.ref (codeAt K (He.ga K "least_reach"))) A outer s H E) (fun cls d _ H => E cls d H) := takes_of rfl rfl rfl rfl
  exact ⟨_, gs_le (c := cx K) (W := fun cls d _ H => E cls d H) (kb := 0) (gs_cons (g_asg (g_var (pv 1)) (gg_tup (ggs_cons (gg_name (i := 3) nd rfl (Or.inl rfl)) (ggs_cons (gg_name (i := 4) nd rfl (Or.inl rfl)) (ggs_cons (gg_name (i := 5) nd rfl (Or.inl rfl)) (ggs_cons (gg_name (i := 6) nd rfl (Or.inl rfl)) (ggs_cons (gg_name (i := 7) nd rfl (Or.inl rfl)) (ggs_cons (gg_name (i := 8) nd rfl (Or.inl rfl)) ggs_nil))))))))
      (gs_cons (g_par3N (hp := ps_par3 (i := 9) (j := 10) (l := 11) rfl nd rfl rfl rfl (by decide) (by decide) (by decide) rfl rfl rfl (ga_cons (g_op w_add (g_cb w_abs (by rfl) T.n_abs (by decide +kernel) (ga_cons (g_var (pv 4)) ga_nil)) (g_cb w_abs (by rfl) T.n_abs (by decide +kernel) (ga_cons (g_var (pv 6)) ga_nil))) (ga_cons (g_op w_add (g_cb w_abs (by rfl) T.n_abs (by decide +kernel) (ga_cons (g_op w_mul (g_var (pv 5)) (g_var (pv 7))) ga_nil)) (g_cb w_abs (by rfl) T.n_abs (by decide +kernel) (ga_cons (g_op w_mul (g_var (pv 3)) (g_var (pv 8))) ga_nil))) (ga_cons (g_op w_add (g_cb w_abs (by rfl) T.n_abs (by decide +kernel) (ga_cons (g_op w_mul (g_var (pv 6)) (g_var (pv 7))) ga_nil)) (g_cb w_abs (by rfl) T.n_abs (by decide +kernel) (ga_cons (g_op w_mul (g_var (pv 4)) (g_var (pv 8))) ga_nil))) ga_nil))) rfl))
      (gs_one (g_ret (g_op w_mul g_int (g_op w_add (g_op w_add (g_op w_add (g_op w_add (g_op w_add (g_call G_lower_sum gd (hr.mono (by decide)) rfl T.g_lower_sum k_lower_sum b_lower_sum .nil (fun _ _ => .nil) tk (ga_cons (g_var (pv 0)) ga_nil)) (g_var (pv 2))) g_int) (g_op w_mul g_int (g_var (pv 9)))) (g_op w_mul (g_op w_add (g_op w_mul g_int (g_var (pv 9))) g_int) (g_var (pv 10)))) (g_var (pv 11)))))))) (by decide +kernel), run_wDef (N := N_least_reach) h (Nat.le_refl _)⟩
theorem ok_least_reach (T : Tx K mg) (TB : TbB K base mg) : OkW P w (cx K) mg base 4 (He.ga K "least_reach") ["rule", "numbers", "width"] wp_least_reach (0) (d_least_reach.dvs K) := by
  obtain ⟨fd, F⟩ := T.f_least_reach
  have hb : Binds K fd ["rule", "numbers", "width"] [] := F.bindsN fun _ _ _ _ _ _ us hl => match us, hl with | [_, _, _], _ => rfl
  exact ⟨fd, okF_least_reach T TB F, hb, F.kp, ⟨[], .nil, hb⟩⟩
theorem okF_Wedge___init__ (T : Tx K mg) (TB : TbB K base mg) {fd : FuncData} (F : FunD K "__init__" "Wedge.__init__" (defArgs (inClass (topS 48) 0)) (defBody (inClass (topS 48) 0)) (defScope (inClass (topS 48) 0)) (d_Wedge___init__.dvs K) [] (He.ma K (He.ga K "Wedge") "__init__") fd) : FnW P w K mg base 9 (He.ma K (He.ga K "Wedge") "__init__") fd ["self", "core"] (SpW (cx K) wp_Wedge___init__ (0)) := by
  obtain ⟨_, G_couples_of, b_couples_of, k_couples_of, _, v_couples_of, c_couples_of⟩ := ok_couples_of (P := P) (w := w) (base := base) T TB
  obtain ⟨_, G_least_height, b_least_height, k_least_height, _, v_least_height, c_least_height⟩ := ok_least_height (P := P) (w := w) (base := base) T TB
  obtain ⟨_, G_least_reach, b_least_reach, k_least_reach, _, v_least_reach, c_least_reach⟩ := ok_least_reach (P := P) (w := w) (base := base) T TB
  obtain ⟨_, G_need_core, b_need_core, k_need_core, _, v_need_core, c_need_core⟩ := ok_need_core (P := P) (w := w) (base := base) T TB
  have nd := sc_Wedge___init__.nd
  refine fnW_of F sc_Wedge___init__ (fun vs H Q E h => SpW.len rfl h) (fun A outer s H vs Q E gd hr h => ?_)
  have tk : Takes (cxOf (L2.CX P w) P w K mg base N_Wedge___init__ "Wedge.__init__" (defScope (inClass (topS 48) 0)) (He.ma K (He.ga K "Wedge") "__init__") (.ref (codeAt K (He.ma K (He.ga K "Wedge") "__init__"))) A outer s H E) (fun cls d _ H => E cls d H) := takes_of rfl rfl rfl rfl
  exact ⟨_, gs_le (c := cx K) (W := fun cls d _ H => E cls d H) (kb := 0) (gs_cons (g_drop (g_call G_need_core gd (hr.mono (by decide)) rfl T.g_need_core k_need_core b_need_core .nil (fun _ _ => .nil) tk (ga_cons (g_var (pv 1)) ga_nil)))
      (gs_cons (g_set (i := 2) nd rfl (Or.inl rfl) (g_call G_couples_of gd (hr.mono (by decide)) rfl T.g_couples_of k_couples_of b_couples_of .nil (fun _ _ => .nil) tk (ga_cons (g_var (pv 1)) ga_nil)))
      (gs_cons (g_set (i := 3) nd rfl (Or.inr rfl) (g_cb w_maxL (by rfl) T.n_max (by decide +kernel) (ga_cons (g_lc (own := [("rule", 5), ("numbers", 6)]) nd (gi_seq (g_var (pv 2))) (blkOk_by (own := [("rule", 5), ("numbers", 6)]) (N := N_Wedge___init__) (sc := defScope (inClass (topS 48) 0)) (by decide +kernel)) (fun _ _ _ _ _ => (gg_tup (ggs_cons (gg_name (i := 5) nd rfl (Or.inl rfl)) (ggs_cons (gg_name (i := 6) nd rfl (Or.inl rfl)) ggs_nil)))) (fun _ _ _ _ _ => gt_yes) (fun _ _ _ _ _ => (g_op w_add (g_op w_mul g_int (g_cb w_abs (by rfl) T.n_abs (by decide +kernel) (ga_cons (g_ix (g_var (pv 6)) g_int) ga_nil))) g_int))) ga_nil)))
      (gs_cons (g_set (i := 4) nd rfl (Or.inl rfl) (g_cb w_maxL (by rfl) T.n_max (by decide +kernel) (ga_cons (g_lc (own := [("rule", 5), ("numbers", 6)]) nd (gi_seq (g_var (pv 2))) (blkOk_by (own := [("rule", 5), ("numbers", 6)]) (N := N_Wedge___init__) (sc := defScope (inClass (topS 48) 0)) (by decide +kernel)) (fun _ _ _ _ _ => (gg_tup (ggs_cons (gg_name (i := 5) nd rfl (Or.inl rfl)) (ggs_cons (gg_name (i := 6) nd rfl (Or.inl rfl)) ggs_nil)))) (fun _ _ _ _ _ => gt_yes) (fun _ _ _ _ _ => (g_call G_least_height gd (hr.mono (by decide)) rfl T.g_least_height k_least_height b_least_height .nil (fun _ _ => .nil) LamX.takes0 (ga_cons (g_var (pv 5)) (ga_cons (g_var (pv 6)) (ga_cons (g_var (pv 3)) ga_nil)))))) ga_nil)))
      (gs_cons (g_setF (n := "Wedge") (g_var (pv 0)) (g_var (pv 1)) T.cl_Wedge T.na_Wedge_own_core)
      (gs_cons (g_setF (n := "Wedge") (g_var (pv 0)) (g_var (pv 3)) T.cl_Wedge T.na_Wedge_own_width)
      (gs_cons (g_setF (n := "Wedge") (g_var (pv 0)) (g_var (pv 4)) T.cl_Wedge T.na_Wedge_own_height)
      (gs_one (g_setF (n := "Wedge") (g_var (pv 0)) (g_cb w_maxL (by rfl) T.n_max (by decide +kernel) (ga_cons (g_lst (ga_cons (g_var (pv 4)) (ga_star (g_lc (own := [("rule", 5), ("numbers", 6)]) nd (gi_seq (g_var (pv 2))) (blkOk_by (own := [("rule", 5), ("numbers", 6)]) (N := N_Wedge___init__) (sc := defScope (inClass (topS 48) 0)) (by decide +kernel)) (fun _ _ _ _ _ => (gg_tup (ggs_cons (gg_name (i := 5) nd rfl (Or.inl rfl)) (ggs_cons (gg_name (i := 6) nd rfl (Or.inl rfl)) ggs_nil)))) (fun _ _ _ _ _ => gt_yes) (fun _ _ _ _ _ => (g_call G_least_reach gd (hr.mono (by decide)) rfl T.g_least_reach k_least_reach b_least_reach .nil (fun _ _ => .nil) LamX.takes0 (ga_cons (g_var (pv 5)) (ga_cons (g_var (pv 6)) (ga_cons (g_var (pv 3)) ga_nil)))))) ga_nil))) ga_nil)) T.cl_Wedge T.na_Wedge_own_reach))))))))) (by decide +kernel), run_wDef (N := N_Wedge___init__) h (Nat.le_refl _)⟩
theorem ok_Wedge___init__ (T : Tx K mg) (TB : TbB K base mg) : OkW P w (cx K) mg base 9 (He.ma K (He.ga K "Wedge") "__init__") ["self", "core"] wp_Wedge___init__ (0) (d_Wedge___init__.dvs K) := by
  obtain ⟨fd, F⟩ := T.f_Wedge___init__
  have hb : Binds K fd ["self", "core"] [] := F.bindsN fun _ _ _ _ _ _ us hl => match us, hl with | [_, _], _ => rfl
  exact ⟨fd, okF_Wedge___init__ T TB F, hb, F.kp, ⟨[], .nil, hb⟩⟩
theorem okF_law_places (T : Tx K mg) (TB : TbB K base mg) {fd : FuncData} (F : FunD K "_law_places" "_law_places" (defArgs (topS 72)) (defBody (topS 72)) (defScope (topS 72)) (d_law_places.dvs K) [] (He.ga K "_law_places") fd) : FnW P w K mg base 5 (He.ga K "_law_places") fd ["_law_state", "_law_sizes_here"] (SpW (cx K) wp_law_places (2 ^ 67)) := by
  obtain ⟨_, G_law_number, b_law_number, k_law_number, _, v_law_number, c_law_number⟩ := ok_law_number (P := P) (w := w) (base := base) T TB
  have nd := sc_law_places.nd
  refine fnW_of F sc_law_places (fun vs H Q E h => SpW.len rfl h) (fun A outer s H vs Q E gd hr h => ?_)
  have tk : Takes (cxOf (L2.CX P w) P w K mg base N_law_places "_law_places" (defScope (topS 72)) (He.ga K "_law_places") (.ref (codeAt K (He.ga K "_law_places"))) A outer s H E) (fun cls d _ H => E cls d H) := takes_of rfl rfl rfl rfl
  exact ⟨_, gs_le (c := cx K) (W := fun cls d _ H => E cls d H) (kb := 2 ^ 67) (gs_cons (g_parN (hp := ps_par (i := 2) (j := 3) rfl nd rfl rfl (by decide) rfl rfl (ga_cons (g_ix (g_var (pv 1)) g_int) (ga_cons (g_ix (g_var (pv 1)) g_int) ga_nil)) rfl))
      (gs_cons (g_set (i := 4) nd rfl (Or.inl rfl) (g_lst (ga_cons (g_tup (ga_cons (g_op w_mul (g_var (pv 2)) (g_var (pv 3))) (ga_cons (g_var (pv 3)) ga_nil))) (ga_cons (g_tup (ga_cons (g_op w_add (g_op w_mul (g_var (pv 2)) (g_var (pv 3))) g_int) (ga_cons (g_var (pv 3)) ga_nil))) (ga_cons (g_tup (ga_cons g_int (ga_cons (g_op w_sub g_int (g_var (pv 3))) ga_nil))) ga_nil)))))
      (gs_cons (g_for (passes_of rfl) (gi_seq (g_tup (ga_cons (g_un w_neg g_int) (ga_cons g_int (ga_cons g_int ga_nil))))) (gg_name (i := 5) nd rfl (Or.inr rfl)) (gs_one (g_set (i := 4) nd rfl (Or.inl rfl) (g_op w_add (g_var (pv 4)) (g_lc (own := [("_law_right", 7)]) nd (gi_seq (g_tup (ga_cons (g_un w_neg g_int) (ga_cons g_int (ga_cons g_int ga_nil))))) (blkOk_by (own := [("_law_right", 7)]) (N := N_law_places) (sc := defScope (topS 72)) (by decide +kernel)) (fun _ _ _ _ _ => (gg_name (i := 7) nd rfl (Or.inl rfl))) (fun _ _ _ _ _ => gt_yes) (fun _ _ _ _ _ => (g_tup (ga_cons (g_var (pv 5)) (ga_cons (g_var (pv 7)) ga_nil)))))))))
      (gs_cons (g_for (passes_of rfl) (gi_rng1 (by rfl) T.n_range (ga_cons g_int ga_nil)) (gg_name (i := 6) nd rfl (Or.inl rfl)) (gs_one (g_drop (g_lmN mw_app (fun r h => pe_bm PySem.F.plainAttrs_list PySem.F.slot_list_append PySem.F.type_list_append h (g_var (pv 4)) (ga_cons (g_tup (ga_cons (g_call G_law_number gd (hr.mono (by decide)) rfl T.g__law_number k_law_number b_law_number .nil (fun _ _ => .nil) tk (ga_cons (g_var (pv 0)) (ga_cons g_int ga_nil))) (ga_cons (g_call G_law_number gd (hr.mono (by decide)) rfl T.g__law_number k_law_number b_law_number .nil (fun _ _ => .nil) tk (ga_cons (g_var (pv 0)) (ga_cons g_int ga_nil))) ga_nil))) ga_nil))))))
      (gs_cons (g_drop (g_lmN mw_app (fun r h => pe_bm PySem.F.plainAttrs_list PySem.F.slot_list_append PySem.F.type_list_append h (g_var (pv 4)) (ga_cons (g_tup (ga_cons (g_call G_law_number gd (hr.mono (by decide)) rfl T.g__law_number k_law_number b_law_number .nil (fun _ _ => .nil) tk (ga_cons (g_var (pv 0)) (ga_cons (g_op w_pow g_int g_int) ga_nil))) (ga_cons (g_call G_law_number gd (hr.mono (by decide)) rfl T.g__law_number k_law_number b_law_number .nil (fun _ _ => .nil) tk (ga_cons (g_var (pv 0)) (ga_cons (g_op w_pow g_int g_int) ga_nil))) ga_nil))) ga_nil))))
      (gs_one (g_fz 4 (g_ret (g_op w_add (g_var (pv 4)) (g_lst (ga_cons (g_tup (ga_cons (g_op w_pow g_int g_int) (ga_cons g_int ga_nil))) (ga_cons (g_tup (ga_cons g_int (ga_cons (g_op w_sub g_int (g_op w_pow g_int g_int)) ga_nil))) ga_nil)))))))))))) (by decide +kernel), run_wDef (N := N_law_places) h (Nat.le_refl _)⟩
theorem ok_law_places (T : Tx K mg) (TB : TbB K base mg) : OkW P w (cx K) mg base 5 (He.ga K "_law_places") ["_law_state", "_law_sizes_here"] wp_law_places (2 ^ 67) (d_law_places.dvs K) := by
  obtain ⟨fd, F⟩ := T.f_law_places
  have hb : Binds K fd ["_law_state", "_law_sizes_here"] [] := F.bindsN fun _ _ _ _ _ _ us hl => match us, hl with | [_, _], _ => rfl
  exact ⟨fd, okF_law_places T TB F, hb, F.kp, ⟨[], .nil, hb⟩⟩
theorem okF_law_is_within (T : Tx K mg) (TB : TbB K base mg) {fd : FuncData} (F : FunD K "_law_is_within" "_law_is_within" (defArgs (topS 58)) (defBody (topS 58)) (defScope (topS 58)) (d_law_is_within.dvs K) [] (He.ga K "_law_is_within") fd) : FnW P w K mg base 1 (He.ga K "_law_is_within") fd ["_law_sizes_here", "_law_place"] (SpW (cx K) wp_law_is_within (0)) := by
  have nd := sc_law_is_within.nd
  refine fnW_of F sc_law_is_within (fun vs H Q E h => SpW.len rfl h) (fun A outer s H vs Q E gd hr h => ?_)
  have tk : Takes (cxOf (L2.CX P w) P w K mg base N_law_is_within "_law_is_within" (defScope (topS 58)) (He.ga K "_law_is_within") (.ref (codeAt K (He.ga K "_law_is_within"))) A outer s H E) (fun cls d _ H => E cls d H) := takes_of rfl rfl rfl rfl
  exact ⟨_, gs_le (c := cx K) (W := fun cls d _ H => E cls d H) (kb := 0) (gs_one (g_ret (g_and (g_cmp w_ge (g_cb w_abs (by rfl) T.n_abs (by decide +kernel) (ga_cons (g_ix (g_var (pv 1)) g_int) ga_nil)) (g_ix (g_var (pv 0)) g_int) (nomark _)) (g_one (g_cmp w_le (g_cb w_abs (by rfl) T.n_abs (by decide +kernel) (ga_cons (g_ix (g_var (pv 1)) g_int) ga_nil)) (g_op w_mul (g_ix (g_var (pv 0)) g_int) (g_cb w_abs (by rfl) T.n_abs (by decide +kernel) (ga_cons (g_ix (g_var (pv 1)) g_int) ga_nil))) (nomark _)))))) (by decide +kernel), run_wDef (N := N_law_is_within) h (Nat.le_refl _)⟩
theorem ok_law_is_within (T : Tx K mg) (TB : TbB K base mg) : OkW P w (cx K) mg base 1 (He.ga K "_law_is_within") ["_law_sizes_here", "_law_place"] wp_law_is_within (0) (d_law_is_within.dvs K) := by
  obtain ⟨fd, F⟩ := T.f_law_is_within
  have hb : Binds K fd ["_law_sizes_here", "_law_place"] [] := F.bindsN fun _ _ _ _ _ _ us hl => match us, hl with | [_, _], _ => rfl
  exact ⟨fd, okF_law_is_within T TB F, hb, F.kp, ⟨[], .nil, hb⟩⟩
theorem okF_law_rule_at (T : Tx K mg) (TB : TbB K base mg) {fd : FuncData} (F : FunD K "_law_rule_at" "_law_rule_at" (defArgs (topS 66)) (defBody (topS 66)) (defScope (topS 66)) (d_law_rule_at.dvs K) [] (He.ga K "_law_rule_at") fd) : FnW P w K mg base 1 (He.ga K "_law_rule_at") fd ["_law_row", "_law_t"] (SpW (cx K) wp_law_rule_at (0)) := by
  have nd := sc_law_rule_at.nd
  refine fnW_of F sc_law_rule_at (fun vs H Q E h => SpW.len rfl h) (fun A outer s H vs Q E gd hr h => ?_)
  have tk : Takes (cxOf (L2.CX P w) P w K mg base N_law_rule_at "_law_rule_at" (defScope (topS 66)) (He.ga K "_law_rule_at") (.ref (codeAt K (He.ga K "_law_rule_at"))) A outer s H E) (fun cls d _ H => E cls d H) := takes_of rfl rfl rfl rfl
  exact ⟨_, gs_le (c := cx K) (W := fun cls d _ H => E cls d H) (kb := 0) (gs_cons (g_set (i := 2) nd rfl (Or.inl rfl) g_int)
      (gs_cons (g_for (passes_of rfl) (gi_seq (g_rev (g_var (pv 0)))) (gg_name (i := 3) nd rfl (Or.inl rfl)) (gs_one (g_set (i := 2) nd rfl (Or.inl rfl) (g_op w_add (g_op w_mul (g_var (pv 2)) (g_var (pv 1))) (g_var (pv 3))))))
      (gs_one (g_ret (g_var (pv 2)))))) (by decide +kernel), run_wDef (N := N_law_rule_at) h (Nat.le_refl _)⟩
theorem ok_law_rule_at (T : Tx K mg) (TB : TbB K base mg) : OkW P w (cx K) mg base 1 (He.ga K "_law_rule_at") ["_law_row", "_law_t"] wp_law_rule_at (0) (d_law_rule_at.dvs K) := by
  obtain ⟨fd, F⟩ := T.f_law_rule_at
  have hb : Binds K fd ["_law_row", "_law_t"] [] := F.bindsN fun _ _ _ _ _ _ us hl => match us, hl with | [_, _], _ => rfl
  exact ⟨fd, okF_law_rule_at T TB F, hb, F.kp, ⟨[], .nil, hb⟩⟩
theorem okF_law_step_done (T : Tx K mg) (TB : TbB K base mg) {fd : FuncData} (F : FunD K "_law_step_done" "_law_step_done" (defArgs (topS 68)) (defBody (topS 68)) (defScope (topS 68)) (d_law_step_done.dvs K) [] (He.ga K "_law_step_done") fd) : FnW P w K mg base 2 (He.ga K "_law_step_done") fd ["_law_step", "_law_x", "_law_y"] (SpW (cx K) wp_law_step_done (0)) := by
  obtain ⟨_, G_law_is_low, b_law_is_low, k_law_is_low, _, v_law_is_low, c_law_is_low⟩ := ok_law_is_low (P := P) (w := w) (base := base) T TB
  obtain ⟨_, G_law_rule_at, b_law_rule_at, k_law_rule_at, _, v_law_rule_at, c_law_rule_at⟩ := ok_law_rule_at (P := P) (w := w) (base := base) T TB
  have nd := sc_law_step_done.nd
  refine fnW_of F sc_law_step_done (fun vs H Q E h => SpW.len rfl h) (fun A outer s H vs Q E gd hr h => ?_)
  have tk : Takes (cxOf (L2.CX P w) P w K mg base N_law_step_done "_law_step_done" (defScope (topS 68)) (He.ga K "_law_step_done") (.ref (codeAt K (He.ga K "_law_step_done"))) A outer s H E) (fun cls d _ H => E cls d H) := takes_of rfl rfl rfl rfl
  exact ⟨_, gs_le (c := cx K) (W := fun cls d _ H => E cls d H) (kb := 0) (gs_cons (g_ifS (g_tval (g_call G_law_is_low gd (hr.mono (by decide)) rfl T.g__law_is_low k_law_is_low b_law_is_low .nil (fun _ _ => .nil) tk (ga_cons (g_var (pv 0)) ga_nil))) (gs_one (g_ret (g_if (g_tcmp (w_eq hr.units) (g_ix (g_var (pv 0)) g_int) g_str (nomark _)) (g_tup (ga_cons (g_op w_add (g_var (pv 1)) (g_call G_law_rule_at gd (hr.mono (by decide)) rfl T.g__law_rule_at k_law_rule_at b_law_rule_at .nil (fun _ _ => .nil) tk (ga_cons (g_ix (g_var (pv 0)) g_int) (ga_cons (g_var (pv 2)) ga_nil)))) (ga_cons (g_var (pv 2)) ga_nil))) (g_tup (ga_cons (g_var (pv 1)) (ga_cons (g_op w_add (g_var (pv 2)) (g_call G_law_rule_at gd (hr.mono (by decide)) rfl T.g__law_rule_at k_law_rule_at b_law_rule_at .nil (fun _ _ => .nil) tk (ga_cons (g_ix (g_var (pv 0)) g_int) (ga_cons (g_var (pv 1)) ga_nil)))) ga_nil)))))) gs_nil)
      (gs_cons (g_ifS (g_tcmp (w_eq hr.units) (g_ix (g_var (pv 0)) g_int) g_str (nomark _)) (gs_one (g_ret (g_tup (ga_cons (g_op w_add (g_var (pv 1)) (g_ix (g_var (pv 0)) g_int)) (ga_cons (g_op w_add (g_var (pv 2)) (g_ix (g_var (pv 0)) g_int)) ga_nil))))) gs_nil)
      (gs_one (g_ret (g_tup (ga_cons (g_op w_add (g_op w_mul (g_ix (g_var (pv 0)) g_int) (g_var (pv 1))) (g_op w_mul (g_ix (g_var (pv 0)) g_int) (g_var (pv 2)))) (ga_cons (g_op w_add (g_op w_mul (g_ix (g_var (pv 0)) g_int) (g_var (pv 1))) (g_op w_mul (g_ix (g_var (pv 0)) g_int) (g_var (pv 2)))) ga_nil))))))) (by decide +kernel), run_wDef (N := N_law_step_done) h (Nat.le_refl _)⟩
theorem ok_law_step_done (T : Tx K mg) (TB : TbB K base mg) : OkW P w (cx K) mg base 2 (He.ga K "_law_step_done") ["_law_step", "_law_x", "_law_y"] wp_law_step_done (0) (d_law_step_done.dvs K) := by
  obtain ⟨fd, F⟩ := T.f_law_step_done
  have hb : Binds K fd ["_law_step", "_law_x", "_law_y"] [] := F.bindsN fun _ _ _ _ _ _ us hl => match us, hl with | [_, _, _], _ => rfl
  exact ⟨fd, okF_law_step_done T TB F, hb, F.kp, ⟨[], .nil, hb⟩⟩
theorem okF_law_run (T : Tx K mg) (TB : TbB K base mg) {fd : FuncData} (F : FunD K "_law_run" "_law_run" (defArgs (topS 69)) (defBody (topS 69)) (defScope (topS 69)) (d_law_run.dvs K) [] (He.ga K "_law_run") fd) : FnW P w K mg base 3 (He.ga K "_law_run") fd ["_law_steps", "_law_x", "_law_y"] (SpW (cx K) wp_law_run (0)) := by
  obtain ⟨_, G_law_step_done, b_law_step_done, k_law_step_done, _, v_law_step_done, c_law_step_done⟩ := ok_law_step_done (P := P) (w := w) (base := base) T TB
  have nd := sc_law_run.nd
  refine fnW_of F sc_law_run (fun vs H Q E h => SpW.len rfl h) (fun A outer s H vs Q E gd hr h => ?_)
  have tk : Takes (cxOf (L2.CX P w) P w K mg base N_law_run "_law_run" (defScope (topS 69)) (He.ga K "_law_run") (.ref (codeAt K (He.ga K "_law_run"))) A outer s H E) (fun cls d _ H => E cls d H) := takes_of rfl rfl rfl rfl
  exact ⟨_, gs_le (c := cx K) (W := fun cls d _ H => E cls d H) (kb := 0) (gs_cons (g_for (passes_of rfl) (gi_seq (g_var (pv 0))) (gg_name (i := 3) nd rfl (Or.inl rfl)) (gs_one (g_asg (g_call G_law_step_done gd (hr.mono (by decide)) rfl T.g__law_step_done k_law_step_done b_law_step_done .nil (fun _ _ => .nil) tk (ga_cons (g_var (pv 3)) (ga_cons (g_var (pv 1)) (ga_cons (g_var (pv 2)) ga_nil)))) (gg_tup (ggs_cons (gg_name (i := 1) nd rfl (Or.inl rfl)) (ggs_cons (gg_name (i := 2) nd rfl (Or.inl rfl)) ggs_nil))))))
      (gs_one (g_ret (g_tup (ga_cons (g_var (pv 1)) (ga_cons (g_var (pv 2)) ga_nil)))))) (by decide +kernel), run_wDef (N := N_law_run) h (Nat.le_refl _)⟩
theorem ok_law_run (T : Tx K mg) (TB : TbB K base mg) : OkW P w (cx K) mg base 3 (He.ga K "_law_run") ["_law_steps", "_law_x", "_law_y"] wp_law_run (0) (d_law_run.dvs K) := by
  obtain ⟨fd, F⟩ := T.f_law_run
  have hb : Binds K fd ["_law_steps", "_law_x", "_law_y"] [] := F.bindsN fun _ _ _ _ _ _ us hl => match us, hl with | [_, _, _], _ => rfl
  exact ⟨fd, okF_law_run T TB F, hb, F.kp, ⟨[], .nil, hb⟩⟩
theorem okF_law_fate (T : Tx K mg) (TB : TbB K base mg) {fd : FuncData} (F : FunD K "_law_fate" "_law_fate" (defArgs (topS 59)) (defBody (topS 59)) (defScope (topS 59)) (d_law_fate.dvs K) [] (He.ga K "_law_fate") fd) : FnW P w K mg base 4 (He.ga K "_law_fate") fd ["_law_steps", "_law_sizes_here", "_law_place"] (SpW (cx K) wp_law_fate (0)) := by
  obtain ⟨_, G_law_is_within, b_law_is_within, k_law_is_within, _, v_law_is_within, c_law_is_within⟩ := ok_law_is_within (P := P) (w := w) (base := base) T TB
  obtain ⟨_, G_law_run, b_law_run, k_law_run, _, v_law_run, c_law_run⟩ := ok_law_run (P := P) (w := w) (base := base) T TB
  have nd := sc_law_fate.nd
  refine fnW_of F sc_law_fate (fun vs H Q E h => SpW.len rfl h) (fun A outer s H vs Q E gd hr h => ?_)
  have tk : Takes (cxOf (L2.CX P w) P w K mg base N_law_fate "_law_fate" (defScope (topS 59)) (He.ga K "_law_fate") (.ref (codeAt K (He.ga K "_law_fate"))) A outer s H E) (fun cls d _ H => E cls d H) := takes_of rfl rfl rfl rfl
  exact ⟨_, gs_le (c := cx K) (W := fun cls d _ H => E cls d H) (kb := 0) (gs_cons (g_parN (hp := ps_par (i := 3) (j := 4) rfl nd rfl rfl (by decide) rfl rfl (ga_cons (g_var (pv 2)) (ga_cons g_int ga_nil)) rfl))
      (gs_cons (g_while (passes_of rfl) (g_tnot (g_tval (g_call G_law_is_within gd (hr.mono (by decide)) rfl T.g__law_is_within k_law_is_within b_law_is_within .nil (fun _ _ => .nil) tk (ga_cons (g_var (pv 1)) (ga_cons (g_var (pv 3)) ga_nil))))) (gs_cons (g_set (i := 3) nd rfl (Or.inl rfl) (g_call G_law_run gd (hr.mono (by decide)) rfl T.g__law_run k_law_run b_law_run .nil (fun _ _ => .nil) tk (ga_cons (g_var (pv 0)) (ga_cons (g_ix (g_var (pv 3)) g_int) (ga_cons (g_ix (g_var (pv 3)) g_int) ga_nil)))))
      (gs_cons (g_set (i := 4) nd rfl (Or.inl rfl) (g_op w_add (g_var (pv 4)) g_int))
      (gs_one (g_ifS (g_tcmp (w_eq hr.units) (g_var (pv 3)) (g_var (pv 2)) (nomark _)) (gs_one (g_ret (g_tup (ga_cons g_str (ga_cons (g_var (pv 4)) ga_nil))))) gs_nil)))))
      (gs_one (g_ret (g_tup (ga_cons g_str (ga_cons (g_var (pv 4)) ga_nil))))))) (by decide +kernel), run_wDef (N := N_law_fate) h (Nat.le_refl _)⟩
theorem ok_law_fate (T : Tx K mg) (TB : TbB K base mg) : OkW P w (cx K) mg base 4 (He.ga K "_law_fate") ["_law_steps", "_law_sizes_here", "_law_place"] wp_law_fate (0) (d_law_fate.dvs K) := by
  obtain ⟨fd, F⟩ := T.f_law_fate
  have hb : Binds K fd ["_law_steps", "_law_sizes_here", "_law_place"] [] := F.bindsN fun _ _ _ _ _ _ us hl => match us, hl with | [_, _, _], _ => rfl
  exact ⟨fd, okF_law_fate T TB F, hb, F.kp, ⟨[], .nil, hb⟩⟩
theorem okF_is_number_fates (T : Tx K mg) (TB : TbB K base mg) {fd : FuncData} (F : FunD K "is_number" "is_number" (defArgs (topS 40)) (defBody (topS 40)) (defScope (topS 40)) (d_is_number_fates.dvs K) [] (He.ga K "is_number_fates") fd) : FnW P w K mg base 1 (He.ga K "is_number_fates") fd ["thing"] (SpW (cx K) wp_is_number (0)) := by
  have nd := sc_is_number_fates.nd
  refine fnW_of F sc_is_number_fates (fun vs H Q E h => SpW.len rfl h) (fun A outer s H vs Q E gd hr h => ?_)
  have tk : Takes (cxOf (L2.CX P w) P w K mg base N_is_number_fates "is_number" (defScope (topS 40)) (He.ga K "is_number_fates") (.ref (codeAt K (He.ga K "is_number_fates"))) A outer s H E) (fun cls d _ H => E cls d H) := takes_of rfl rfl rfl rfl
  exact ⟨_, gs_le (c := cx K) (W := fun cls d _ H => E cls d H) (kb := 0) (gs_one (g_ret (g_and (g_cb (w_isi T.ctx) (by rfl) T.n_isinstance (by decide +kernel) (ga_cons (g_var (pv 0)) (ga_cons (g_ty (pe_bltn (by rfl) T.n_int (by decide +kernel) rfl)) ga_nil))) (g_one (g_not (g_cb (w_isi T.ctx) (by rfl) T.n_isinstance (by decide +kernel) (ga_cons (g_var (pv 0)) (ga_cons (g_ty (pe_bltn (by rfl) T.n_bool (by decide +kernel) rfl)) ga_nil)))))))) (by decide +kernel), run_wDef (N := N_is_number_fates) h (Nat.le_refl _)⟩
theorem ok_is_number_fates (T : Tx K mg) (TB : TbB K base mg) : OkW P w (cx K) mg base 1 (He.ga K "is_number_fates") ["thing"] wp_is_number (0) (d_is_number_fates.dvs K) := by
  obtain ⟨fd, F⟩ := T.f_is_number_fates
  have hb : Binds K fd ["thing"] [] := F.bindsN fun _ _ _ _ _ _ us hl => match us, hl with | [_], _ => rfl
  exact ⟨fd, okF_is_number_fates T TB F, hb, F.kp, ⟨[], .nil, hb⟩⟩
theorem okF_is_point (T : Tx K mg) (TB : TbB K base mg) {fd : FuncData} (F : FunD K "is_point" "is_point" (defArgs (topS 42)) (defBody (topS 42)) (defScope (topS 42)) (d_is_point.dvs K) [] (He.ga K "is_point") fd) : FnW P w K mg base 2 (He.ga K "is_point") fd ["thing"] (SpW (cx K) wp_is_point (0)) := by
  obtain ⟨_, G_is_number_fates, b_is_number_fates, k_is_number_fates, _, v_is_number_fates, c_is_number_fates⟩ := ok_is_number_fates (P := P) (w := w) (base := base) T TB
  have nd := sc_is_point.nd
  refine fnW_of F sc_is_point (fun vs H Q E h => SpW.len rfl h) (fun A outer s H vs Q E gd hr h => ?_)
  have tk : Takes (cxOf (L2.CX P w) P w K mg base N_is_point "is_point" (defScope (topS 42)) (He.ga K "is_point") (.ref (codeAt K (He.ga K "is_point"))) A outer s H E) (fun cls d _ H => E cls d H) := takes_of rfl rfl rfl rfl
  exact ⟨_, gs_le (c := cx K) (W := fun cls d _ H => E cls d H) (kb := 0) (gs_one (g_ret (g_and (g_cb (w_isi T.ctx) (by rfl) T.n_isinstance (by decide +kernel) (ga_cons (g_var (pv 0)) (ga_cons (g_ty (pe_bltn (by rfl) T.n_tuple (by decide +kernel) rfl)) ga_nil))) (g_and (g_cmp (w_eq hr.units) (g_cb w_len (by rfl) T.n_len PySem.boot_len (ga_cons (g_var (pv 0)) ga_nil)) g_int (nomark _)) (g_and (g_call G_is_number_fates gd (hr.mono (by decide)) rfl T.g_is_number_fates k_is_number_fates b_is_number_fates .nil (fun _ _ => .nil) tk (ga_cons (g_ix (g_var (pv 0)) g_int) ga_nil)) (g_one (g_call G_is_number_fates gd (hr.mono (by decide)) rfl T.g_is_number_fates k_is_number_fates b_is_number_fates .nil (fun _ _ => .nil) tk (ga_cons (g_ix (g_var (pv 0)) g_int) ga_nil)))))))) (by decide +kernel), run_wDef (N := N_is_point) h (Nat.le_refl _)⟩
theorem ok_is_point (T : Tx K mg) (TB : TbB K base mg) : OkW P w (cx K) mg base 2 (He.ga K "is_point") ["thing"] wp_is_point (0) (d_is_point.dvs K) := by
  obtain ⟨fd, F⟩ := T.f_is_point
  have hb : Binds K fd ["thing"] [] := F.bindsN fun _ _ _ _ _ _ us hl => match us, hl with | [_], _ => rfl
  exact ⟨fd, okF_is_point T TB F, hb, F.kp, ⟨[], .nil, hb⟩⟩
theorem okF_Wedge___contains__ (T : Tx K mg) (TB : TbB K base mg) {fd : FuncData} (F : FunD K "__contains__" "Wedge.__contains__" (defArgs (inClass (topS 48) 5)) (defBody (inClass (topS 48) 5)) (defScope (inClass (topS 48) 5)) (d_Wedge___contains__.dvs K) [] (He.ma K (He.ga K "Wedge") "__contains__") fd) : FnW P w K mg base 3 (He.ma K (He.ga K "Wedge") "__contains__") fd ["self", "point"] (SpW (cx K) wp_Wedge___contains__ (0)) := by
  obtain ⟨_, G_is_point, b_is_point, k_is_point, _, v_is_point, c_is_point⟩ := ok_is_point (P := P) (w := w) (base := base) T TB
  have nd := sc_Wedge___contains__.nd
  refine fnW_of F sc_Wedge___contains__ (fun vs H Q E h => SpW.len rfl h) (fun A outer s H vs Q E gd hr h => ?_)
  have tk : Takes (cxOf (L2.CX P w) P w K mg base N_Wedge___contains__ "Wedge.__contains__" (defScope (inClass (topS 48) 5)) (He.ma K (He.ga K "Wedge") "__contains__") (.ref (codeAt K (He.ma K (He.ga K "Wedge") "__contains__"))) A outer s H E) (fun cls d _ H => E cls d H) := takes_of rfl rfl rfl rfl
  exact ⟨_, gs_le (c := cx K) (W := fun cls d _ H => E cls d H) (kb := 0) (gs_cons (g_ifS (g_pt (g_wor (g_tnot (g_tval (g_call G_is_point gd (hr.mono (by decide)) rfl T.g_is_point k_is_point b_is_point .nil (fun _ _ => .nil) tk (ga_cons (g_var (pv 1)) ga_nil)))) (g_wor1 (g_tcmp w_lt (g_cb w_abs (by rfl) T.n_abs (by decide +kernel) (ga_cons (g_ix (g_var (pv 1)) g_int) ga_nil)) (g_fld (n := "Wedge") (g_var (pv 0)) T.cl_Wedge T.na_Wedge_own_height) (nomark _))))) (gs_one (g_ret g_bl)) gs_nil)
      (gs_one (g_ret (g_cmp w_le (g_cb w_abs (by rfl) T.n_abs (by decide +kernel) (ga_cons (g_ix (g_var (pv 1)) g_int) ga_nil)) (g_op w_mul (g_fld (n := "Wedge") (g_var (pv 0)) T.cl_Wedge T.na_Wedge_own_width) (g_cb w_abs (by rfl) T.n_abs (by decide +kernel) (ga_cons (g_ix (g_var (pv 1)) g_int) ga_nil))) (nomark _))))) (by decide +kernel), run_wDef (N := N_Wedge___contains__) h (Nat.le_refl _)⟩
theorem ok_Wedge___contains__ (T : Tx K mg) (TB : TbB K base mg) : OkW P w (cx K) mg base 3 (He.ma K (He.ga K "Wedge") "__contains__") ["self", "point"] wp_Wedge___contains__ (0) (d_Wedge___contains__.dvs K) := by
  obtain ⟨fd, F⟩ := T.f_Wedge___contains__
  have hb : Binds K fd ["self", "point"] [] := F.bindsN fun _ _ _ _ _ _ us hl => match us, hl with | [_, _], _ => rfl
  exact ⟨fd, okF_Wedge___contains__ T TB F, hb, F.kp, ⟨[], .nil, hb⟩⟩
theorem okF_need_point (T : Tx K mg) (TB : TbB K base mg) {fd : FuncData} (F : FunD K "need_point" "need_point" (defArgs (topS 20)) (defBody (topS 20)) (defScope (topS 20)) (d_need_point.dvs K) [] (He.ga K "need_point") fd) : FnW P w K mg base 2 (He.ga K "need_point") fd ["x", "y"] (SpW (cx K) wp_need_point (0)) := by
  obtain ⟨_, G_is_number, b_is_number, k_is_number, _, v_is_number, c_is_number⟩ := ok_is_number (P := P) (w := w) (base := base) T TB
  have nd := sc_need_point.nd
  refine fnW_of F sc_need_point (fun vs H Q E h => SpW.len rfl h) (fun A outer s H vs Q E gd hr h => ?_)
  have tk : Takes (cxOf (L2.CX P w) P w K mg base N_need_point "need_point" (defScope (topS 20)) (He.ga K "need_point") (.ref (codeAt K (He.ga K "need_point"))) A outer s H E) (fun cls d _ H => E cls d H) := takes_of rfl rfl rfl rfl
  exact ⟨_, gs_le (c := cx K) (W := fun cls d _ H => E cls d H) (kb := 0) (gs_one (g_ifS (g_pt (g_wor (g_tnot (g_tval (g_call G_is_number gd (hr.mono (by decide)) rfl T.g_is_number_rules k_is_number b_is_number .nil (fun _ _ => .nil) tk (ga_cons (g_var (pv 0)) ga_nil)))) (g_wor1 (g_tnot (g_tval (g_call G_is_number gd (hr.mono (by decide)) rfl T.g_is_number_rules k_is_number b_is_number .nil (fun _ _ => .nil) tk (ga_cons (g_var (pv 1)) ga_nil))))))) (gs_one (g_rz (n := "BadPoint") rfl tk PySem.F.excBase_ValueError T.er_BadPoint.q T.g_BadPoint T.er_BadPoint.kp (raises_own T.er_BadPoint.be T.er_BadPoint.ty) rfl e_BadPoint)) gs_nil)) (by decide +kernel), run_wDef (N := N_need_point) h (Nat.le_refl _)⟩
theorem ok_need_point (T : Tx K mg) (TB : TbB K base mg) : OkW P w (cx K) mg base 2 (He.ga K "need_point") ["x", "y"] wp_need_point (0) (d_need_point.dvs K) := by
  obtain ⟨fd, F⟩ := T.f_need_point
  have hb : Binds K fd ["x", "y"] [] := F.bindsN fun _ _ _ _ _ _ us hl => match us, hl with | [_, _], _ => rfl
  exact ⟨fd, okF_need_point T TB F, hb, F.kp, ⟨[], .nil, hb⟩⟩
theorem okF_row_value (T : Tx K mg) (TB : TbB K base mg) {fd : FuncData} (F : FunD K "row_value" "row_value" (defArgs (topS 16)) (defBody (topS 16)) (defScope (topS 16)) (d_row_value.dvs K) [] (He.ga K "row_value") fd) : FnW P w K mg base 1 (He.ga K "row_value") fd ["numbers", "t"] (SpW (cx K) wp_row_value (0)) := by
  have nd := sc_row_value.nd
  refine fnW_of F sc_row_value (fun vs H Q E h => SpW.len rfl h) (fun A outer s H vs Q E gd hr h => ?_)
  have tk : Takes (cxOf (L2.CX P w) P w K mg base N_row_value "row_value" (defScope (topS 16)) (He.ga K "row_value") (.ref (codeAt K (He.ga K "row_value"))) A outer s H E) (fun cls d _ H => E cls d H) := takes_of rfl rfl rfl rfl
  exact ⟨_, gs_le (c := cx K) (W := fun cls d _ H => E cls d H) (kb := 0) (gs_cons (g_set (i := 2) nd rfl (Or.inl rfl) g_int)
      (gs_cons (g_for (passes_of rfl) (gi_seq (g_rev (g_var (pv 0)))) (gg_name (i := 3) nd rfl (Or.inl rfl)) (gs_one (g_set (i := 2) nd rfl (Or.inl rfl) (g_op w_add (g_op w_mul (g_var (pv 2)) (g_var (pv 1))) (g_var (pv 3))))))
      (gs_one (g_ret (g_var (pv 2)))))) (by decide +kernel), run_wDef (N := N_row_value) h (Nat.le_refl _)⟩
theorem ok_row_value (T : Tx K mg) (TB : TbB K base mg) : OkW P w (cx K) mg base 1 (He.ga K "row_value") ["numbers", "t"] wp_row_value (0) (d_row_value.dvs K) := by
  obtain ⟨fd, F⟩ := T.f_row_value
  have hb : Binds K fd ["numbers", "t"] [] := F.bindsN fun _ _ _ _ _ _ us hl => match us, hl with | [_, _], _ => rfl
  exact ⟨fd, okF_row_value T TB F, hb, F.kp, ⟨[], .nil, hb⟩⟩
theorem okF_done (T : Tx K mg) (TB : TbB K base mg) {fd : FuncData} (F : FunD K "done" "done" (defArgs (topS 23)) (defBody (topS 23)) (defScope (topS 23)) (d_done.dvs K) [] (He.ga K "done") fd) : FnW P w K mg base 2 (He.ga K "done") fd ["step", "x", "y"] (SpW (cx K) wp_done (0)) := by
  obtain ⟨_, G_row_value, b_row_value, k_row_value, _, v_row_value, c_row_value⟩ := ok_row_value (P := P) (w := w) (base := base) T TB
  have nd := sc_done.nd
  refine fnW_of F sc_done (fun vs H Q E h => SpW.len rfl h) (fun A outer s H vs Q E gd hr h => ?_)
  have tk : Takes (cxOf (L2.CX P w) P w K mg base N_done "done" (defScope (topS 23)) (He.ga K "done") (.ref (codeAt K (He.ga K "done"))) A outer s H E) (fun cls d _ H => E cls d H) := takes_of rfl rfl rfl rfl
  exact ⟨_, gs_le (c := cx K) (W := fun cls d _ H => E cls d H) (kb := 0) (gs_cons (g_ifS (g_tcmp (w_eq hr.units) (g_ix (g_var (pv 0)) g_int) g_str (nomark _)) (gs_one (g_ret (g_tup (ga_cons (g_op w_add (g_var (pv 1)) (g_call G_row_value gd (hr.mono (by decide)) rfl T.g_row_value k_row_value b_row_value .nil (fun _ _ => .nil) tk (ga_cons (g_fld (n := "Rule") (g_ix (g_var (pv 0)) g_int) T.cl_Rule T.na_Rule_own_numbers) (ga_cons (g_var (pv 2)) ga_nil)))) (ga_cons (g_var (pv 2)) ga_nil))))) gs_nil)
      (gs_cons (g_ifS (g_tcmp (w_eq hr.units) (g_ix (g_var (pv 0)) g_int) g_str (nomark _)) (gs_one (g_ret (g_tup (ga_cons (g_var (pv 1)) (ga_cons (g_op w_add (g_var (pv 2)) (g_call G_row_value gd (hr.mono (by decide)) rfl T.g_row_value k_row_value b_row_value .nil (fun _ _ => .nil) tk (ga_cons (g_fld (n := "Rule") (g_ix (g_var (pv 0)) g_int) T.cl_Rule T.na_Rule_own_numbers) (ga_cons (g_var (pv 1)) ga_nil)))) ga_nil))))) gs_nil)
      (gs_cons (g_ifS (g_tcmp (w_eq hr.units) (g_ix (g_var (pv 0)) g_int) g_str (nomark _)) (gs_one (g_ret (g_tup (ga_cons (g_op w_add (g_var (pv 1)) (g_ix (g_var (pv 0)) g_int)) (ga_cons (g_op w_add (g_var (pv 2)) (g_ix (g_var (pv 0)) g_int)) ga_nil))))) gs_nil)
      (gs_one (g_ret (g_tup (ga_cons (g_op w_add (g_op w_mul (g_ix (g_var (pv 0)) g_int) (g_var (pv 1))) (g_op w_mul (g_ix (g_var (pv 0)) g_int) (g_var (pv 2)))) (ga_cons (g_op w_add (g_op w_mul (g_ix (g_var (pv 0)) g_int) (g_var (pv 1))) (g_op w_mul (g_ix (g_var (pv 0)) g_int) (g_var (pv 2)))) ga_nil)))))))) (by decide +kernel), run_wDef (N := N_done) h (Nat.le_refl _)⟩
theorem ok_done (T : Tx K mg) (TB : TbB K base mg) : OkW P w (cx K) mg base 2 (He.ga K "done") ["step", "x", "y"] wp_done (0) (d_done.dvs K) := by
  obtain ⟨fd, F⟩ := T.f_done
  have hb : Binds K fd ["step", "x", "y"] [] := F.bindsN fun _ _ _ _ _ _ us hl => match us, hl with | [_, _, _], _ => rfl
  exact ⟨fd, okF_done T TB F, hb, F.kp, ⟨[], .nil, hb⟩⟩
theorem okF_Program___call__ (T : Tx K mg) (TB : TbB K base mg) {fd : FuncData} (F : FunD K "__call__" "Program.__call__" (defArgs (inClass (topS 25) 3)) (defBody (inClass (topS 25) 3)) (defScope (inClass (topS 25) 3)) (d_Program___call__.dvs K) [] (He.ma K (He.ga K "Program") "__call__") fd) : FnW P w K mg base 3 (He.ma K (He.ga K "Program") "__call__") fd ["self", "x", "y"] (SpW (cx K) wp_Program___call__ (0)) := by
  obtain ⟨_, G_done, b_done, k_done, _, v_done, c_done⟩ := ok_done (P := P) (w := w) (base := base) T TB
  obtain ⟨_, G_need_point, b_need_point, k_need_point, _, v_need_point, c_need_point⟩ := ok_need_point (P := P) (w := w) (base := base) T TB
  have nd := sc_Program___call__.nd
  refine fnW_of F sc_Program___call__ (fun vs H Q E h => SpW.len rfl h) (fun A outer s H vs Q E gd hr h => ?_)
  have tk : Takes (cxOf (L2.CX P w) P w K mg base N_Program___call__ "Program.__call__" (defScope (inClass (topS 25) 3)) (He.ma K (He.ga K "Program") "__call__") (.ref (codeAt K (He.ma K (He.ga K "Program") "__call__"))) A outer s H E) (fun cls d _ H => E cls d H) := takes_of rfl rfl rfl rfl
  exact ⟨_, gs_le (c := cx K) (W := fun cls d _ H => E cls d H) (kb := 0) (gs_cons (g_drop (g_call G_need_point gd (hr.mono (by decide)) rfl T.g_need_point k_need_point b_need_point .nil (fun _ _ => .nil) tk (ga_cons (g_var (pv 1)) (ga_cons (g_var (pv 2)) ga_nil))))
      (gs_cons (g_for (passes_of rfl) (gi_seq (g_fld (n := "Program") (g_var (pv 0)) T.cl_Program T.na_Program_own_steps)) (gg_name (i := 3) nd rfl (Or.inl rfl)) (gs_one (g_asg (g_call G_done gd (hr.mono (by decide)) rfl T.g_done k_done b_done .nil (fun _ _ => .nil) tk (ga_cons (g_var (pv 3)) (ga_cons (g_var (pv 1)) (ga_cons (g_var (pv 2)) ga_nil)))) (gg_tup (ggs_cons (gg_name (i := 1) nd rfl (Or.inl rfl)) (ggs_cons (gg_name (i := 2) nd rfl (Or.inl rfl)) ggs_nil))))))
      (gs_one (g_ret (g_tup (ga_cons (g_var (pv 1)) (ga_cons (g_var (pv 2)) ga_nil))))))) (by decide +kernel), run_wDef (N := N_Program___call__) h (Nat.le_refl _)⟩
theorem ok_Program___call__ (T : Tx K mg) (TB : TbB K base mg) : OkW P w (cx K) mg base 3 (He.ma K (He.ga K "Program") "__call__") ["self", "x", "y"] wp_Program___call__ (0) (d_Program___call__.dvs K) := by
  obtain ⟨fd, F⟩ := T.f_Program___call__
  have hb : Binds K fd ["self", "x", "y"] [] := F.bindsN fun _ _ _ _ _ _ us hl => match us, hl with | [_, _, _], _ => rfl
  exact ⟨fd, okF_Program___call__ T TB F, hb, F.kp, ⟨[], .nil, hb⟩⟩
theorem okF_fate_by (T : Tx K mg) (TB : TbB K base mg) {fd : FuncData} (F : FunD K "fate_by" "fate_by" (defArgs (topS 49)) (defBody (topS 49)) (defScope (topS 49)) (d_fate_by.dvs K) [] (He.ga K "fate_by") fd) : FnW P w K mg base 4 (He.ga K "fate_by") fd ["core", "wedge", "point"] (SpW (cx K) wp_fate_by (0)) := by
  obtain ⟨_, G_Program___call__, b_Program___call__, k_Program___call__, _, v_Program___call__, c_Program___call__⟩ := ok_Program___call__ (P := P) (w := w) (base := base) T TB
  obtain ⟨_, G_Wedge___contains__, b_Wedge___contains__, k_Wedge___contains__, _, v_Wedge___contains__, c_Wedge___contains__⟩ := ok_Wedge___contains__ (P := P) (w := w) (base := base) T TB
  have nd := sc_fate_by.nd
  refine fnW_of F sc_fate_by (fun vs H Q E h => SpW.len rfl h) (fun A outer s H vs Q E gd hr h => ?_)
  have tk : Takes (cxOf (L2.CX P w) P w K mg base N_fate_by "fate_by" (defScope (topS 49)) (He.ga K "fate_by") (.ref (codeAt K (He.ga K "fate_by"))) A outer s H E) (fun cls d _ H => E cls d H) := takes_of rfl rfl rfl rfl
  exact ⟨_, gs_le (c := cx K) (W := fun cls d _ H => E cls d H) (kb := 0) (gs_cons (g_parN (hp := ps_par (i := 3) (j := 4) rfl nd rfl rfl (by decide) rfl rfl (ga_cons (g_var (pv 2)) (ga_cons g_int ga_nil)) rfl))
      (gs_cons (g_while (passes_of rfl) (g_tcmp (w_notInO (n := "Wedge") G_Wedge___contains__ gd (hr.mono (by decide)) b_Wedge___contains__ tk T.spl_Wedge_contains) (g_var (pv 3)) (g_var (pv 1)) (by rfl)) (gs_cons (g_set (i := 3) nd rfl (Or.inl rfl) (g_callI (n := "Program") (g_var (pv 0)) T.co_Program G_Program___call__ gd (hr.mono (by decide)) b_Program___call__ tk (ga_cons (g_ix (g_var (pv 3)) g_int) (ga_cons (g_ix (g_var (pv 3)) g_int) ga_nil))))
      (gs_cons (g_aug (i := 4) nd rfl (Or.inl rfl) g_int ip_add)
      (gs_one (g_ifS (g_tcmp (w_eq hr.units) (g_var (pv 3)) (g_var (pv 2)) (nomark _)) (gs_one (g_ret (g_tup (ga_cons g_str (ga_cons (g_var (pv 4)) ga_nil))))) gs_nil)))))
      (gs_one (g_ret (g_tup (ga_cons g_str (ga_cons (g_var (pv 4)) ga_nil))))))) (by decide +kernel), run_wDef (N := N_fate_by) h (Nat.le_refl _)⟩
theorem ok_fate_by (T : Tx K mg) (TB : TbB K base mg) : OkW P w (cx K) mg base 4 (He.ga K "fate_by") ["core", "wedge", "point"] wp_fate_by (0) (d_fate_by.dvs K) := by
  obtain ⟨fd, F⟩ := T.f_fate_by
  have hb : Binds K fd ["core", "wedge", "point"] [] := F.bindsN fun _ _ _ _ _ _ us hl => match us, hl with | [_, _, _], _ => rfl
  exact ⟨fd, okF_fate_by T TB F, hb, F.kp, ⟨[], .nil, hb⟩⟩
theorem okF_fate (T : Tx K mg) (TB : TbB K base mg) {fd : FuncData} (F : FunD K "fate" "fate" (defArgs (topS 50)) (defBody (topS 50)) (defScope (topS 50)) (d_fate.dvs K) [] (He.ga K "fate") fd) : FnW P w K mg base 11 (He.ga K "fate") fd ["core", "x", "y"] (SpW (cx K) wp_fate (0)) := by
  obtain ⟨_, G_Wedge___init__, b_Wedge___init__, k_Wedge___init__, _, v_Wedge___init__, c_Wedge___init__⟩ := ok_Wedge___init__ (P := P) (w := w) (base := base) T TB
  obtain ⟨_, G_fate_by, b_fate_by, k_fate_by, _, v_fate_by, c_fate_by⟩ := ok_fate_by (P := P) (w := w) (base := base) T TB
  obtain ⟨_, G_is_number_fates, b_is_number_fates, k_is_number_fates, _, v_is_number_fates, c_is_number_fates⟩ := ok_is_number_fates (P := P) (w := w) (base := base) T TB
  have nd := sc_fate.nd
  refine fnW_of F sc_fate (fun vs H Q E h => SpW.len rfl h) (fun A outer s H vs Q E gd hr h => ?_)
  have tk : Takes (cxOf (L2.CX P w) P w K mg base N_fate "fate" (defScope (topS 50)) (He.ga K "fate") (.ref (codeAt K (He.ga K "fate"))) A outer s H E) (fun cls d _ H => E cls d H) := takes_of rfl rfl rfl rfl
  exact ⟨_, gs_le (c := cx K) (W := fun cls d _ H => E cls d H) (kb := 0) (gs_cons (g_set (i := 3) nd rfl (Or.inl rfl) (g_make (n := "Wedge") T.mk_Wedge G_Wedge___init__ gd (hr.mono (by decide)) rfl T.g_Wedge b_Wedge___init__ .nil (fun _ _ => .nil) tk (ga_cons (g_var (pv 0)) ga_nil) n_Wedge))
      (gs_cons (g_ifS (g_pt (g_wor (g_tnot (g_tval (g_call G_is_number_fates gd (hr.mono (by decide)) rfl T.g_is_number_fates k_is_number_fates b_is_number_fates .nil (fun _ _ => .nil) tk (ga_cons (g_var (pv 1)) ga_nil)))) (g_wor1 (g_tnot (g_tval (g_call G_is_number_fates gd (hr.mono (by decide)) rfl T.g_is_number_fates k_is_number_fates b_is_number_fates .nil (fun _ _ => .nil) tk (ga_cons (g_var (pv 2)) ga_nil))))))) (gs_one (g_rz (n := "BadPoint") rfl tk PySem.F.excBase_ValueError T.er_BadPoint.q T.g_BadPoint T.er_BadPoint.kp (raises_own T.er_BadPoint.be T.er_BadPoint.ty) rfl e_BadPoint)) gs_nil)
      (gs_one (g_ret (g_call G_fate_by gd (hr.mono (by decide)) rfl T.g_fate_by k_fate_by b_fate_by .nil (fun _ _ => .nil) tk (ga_cons (g_var (pv 0)) (ga_cons (g_var (pv 3)) (ga_cons (g_tup (ga_cons (g_var (pv 1)) (ga_cons (g_var (pv 2)) ga_nil))) ga_nil)))))))) (by decide +kernel), run_wDef (N := N_fate) h (Nat.le_refl _)⟩
theorem ok_fate (T : Tx K mg) (TB : TbB K base mg) : OkW P w (cx K) mg base 11 (He.ga K "fate") ["core", "x", "y"] wp_fate (0) (d_fate.dvs K) := by
  obtain ⟨fd, F⟩ := T.f_fate
  have hb : Binds K fd ["core", "x", "y"] [] := F.bindsN fun _ _ _ _ _ _ us hl => match us, hl with | [_, _, _], _ => rfl
  exact ⟨fd, okF_fate T TB F, hb, F.kp, ⟨[], .nil, hb⟩⟩
theorem ok_law_begun (T : Tx K mg) (TB : TbB K base mg) : ∃ fd, FnW P w K mg base 1 (He.ga K "_law_begun") fd ["_law_script"] (sp_law_begun (cx K)) ∧ Binds K fd ["_law_script"] [] ∧ PySem.W.keepIn K (.ref (He.ga K "_law_begun")) = true := by
  obtain ⟨fd, F⟩ := T.f_law_begun
  have nd := sc_law_begun.nd
  have hb : Binds K fd ["_law_script"] [] := F.bindsN fun _ _ _ _ _ _ us hl => match us, hl with | [_], _ => rfl
  refine ⟨fd, fnW_of F sc_law_begun (fun vs H Q E h => by obtain ⟨a, ns, rfl, _⟩ := h; rfl) (fun A outer s H vs Q E gd hr h => ⟨rd_law_begun (cx K), PSs.nox ?_, run_begun rfl h⟩), hb, F.kp⟩
  exact (pss_cons (ps_setLc (i := 1) (own := [("_law_cell", 2)]) rfl nd rfl rfl (sw_true rfl rfl rfl (by decide +kernel)) (pi_list (pv 0)) (blkOk_by (own := [("_law_cell", 2)]) (N := N_law_begun) (sc := defScope (topS 61)) (by decide +kernel)) (fun _ _ _ _ _ => (pg_name (i := 2) nd rfl (Or.inl rfl))) (fun _ _ _ _ _ => (pts_one (pt_cmpR op_ge (pe_callB call_absG (by rfl) T.n_abs (by decide +kernel) (pa_cons (pv 2) pa_nil)) (pe_op op_pow27 pe_int pe_int) (nomark _)))) (fun _ _ _ _ _ => (pe_op op_sub (pe_callB call_absG (by rfl) T.n_abs (by decide +kernel) (pa_cons (pv 2) pa_nil)) (pe_op op_pow27 pe_int pe_int))))
      (pss_one (ps_ret (pe_disp (pps_cons pe_str (pv 1) (pps_cons pe_str (pe_lc (own := [("_law_cell", 2)]) rfl nd (pi_list (pv 0)) (blkOk_by (own := [("_law_cell", 2)]) (N := N_law_begun) (sc := defScope (topS 61)) (by decide +kernel)) (fun _ _ _ _ _ => (pg_name (i := 2) nd rfl (Or.inl rfl))) (fun _ _ _ _ _ => pts_nil) (fun _ _ _ _ _ => (pe_op op_mod (pe_callTy call_intG (by rfl) T.n_int (by decide +kernel) (pa_cons (pe_callB call_absG (by rfl) T.n_abs (by decide +kernel) (pa_cons (pv 2) pa_nil)) pa_nil)) pe_int))) (pps_cons pe_str pe_int (pps_cons pe_str pe_int pps_nil)))) (by rfl) (by rfl) (fun z => by cases z) (by decide)))))
theorem ok_law (T : Tx K mg) (TB : TbB K base mg) {fd : FuncData} (F : FunD K "law" "law" (defArgs (topS 73)) (defBody (topS 73)) (defScope (topS 73)) (d_law.dvs K) [] (He.ga K "law") fd) : FnW P w K mg base 12 (He.ga K "law") fd ["_law_script"] (spLaw (cx K)) := by
  obtain ⟨_, G_Program___call__, b_Program___call__, k_Program___call__, _, v_Program___call__, c_Program___call__⟩ := ok_Program___call__ (P := P) (w := w) (base := base) T TB
  obtain ⟨_, G_Wedge___contains__, b_Wedge___contains__, k_Wedge___contains__, _, v_Wedge___contains__, c_Wedge___contains__⟩ := ok_Wedge___contains__ (P := P) (w := w) (base := base) T TB
  obtain ⟨_, G_Wedge___init__, b_Wedge___init__, k_Wedge___init__, _, v_Wedge___init__, c_Wedge___init__⟩ := ok_Wedge___init__ (P := P) (w := w) (base := base) T TB
  obtain ⟨_, G_law_begun, b_law_begun, k_law_begun⟩ := ok_law_begun (P := P) (w := w) (base := base) T TB
  obtain ⟨_, G_law_core, b_law_core, k_law_core, _, v_law_core, c_law_core⟩ := ok_law_core (P := P) (w := w) (base := base) T TB
  obtain ⟨_, G_law_fate, b_law_fate, k_law_fate, _, v_law_fate, c_law_fate⟩ := ok_law_fate (P := P) (w := w) (base := base) T TB
  obtain ⟨_, G_law_pick, b_law_pick, k_law_pick, _, v_law_pick, c_law_pick⟩ := ok_law_pick (P := P) (w := w) (base := base) T TB
  obtain ⟨_, G_law_places, b_law_places, k_law_places, _, v_law_places, c_law_places⟩ := ok_law_places (P := P) (w := w) (base := base) T TB
  obtain ⟨_, G_law_program_of, b_law_program_of, k_law_program_of, _, v_law_program_of, c_law_program_of⟩ := ok_law_program_of (P := P) (w := w) (base := base) T TB
  obtain ⟨_, G_law_run, b_law_run, k_law_run, _, v_law_run, c_law_run⟩ := ok_law_run (P := P) (w := w) (base := base) T TB
  obtain ⟨_, G_law_sizes, b_law_sizes, k_law_sizes, _, v_law_sizes, c_law_sizes⟩ := ok_law_sizes (P := P) (w := w) (base := base) T TB
  obtain ⟨_, G_law_small_core, b_law_small_core, k_law_small_core, _, v_law_small_core, c_law_small_core⟩ := ok_law_small_core (P := P) (w := w) (base := base) T TB
  obtain ⟨_, G_fate, b_fate, k_fate, _, v_fate, c_fate⟩ := ok_fate (P := P) (w := w) (base := base) T TB
  have nd := sc_law.nd
  refine fnW_of F sc_law (fun vs H Q E h => by obtain ⟨a, ns, rfl, _⟩ := h; rfl) (fun A outer s H vs Q E gd hr h => ?_)
  have tk : Takes (cxOf (L2.CX P w) P w K mg base N_law "law" (defScope (topS 73)) (He.ga K "law") (.ref (codeAt K (He.ga K "law"))) A outer s H E) (fun cls d _ H => E cls d H) := takes_of rfl rfl rfl rfl
  have first : PS (cxOf (L2.CX P w) P w K mg base N_law "law" (defScope (topS 73)) (He.ga K "law") (.ref (codeAt K (He.ga K "law"))) A outer s H E) (defBody (topS 73)).head! _ := ps_set (i := 1) nd rfl (Or.inl rfl) (pe_callW0 G_law_begun gd (hr.mono (by decide)) rfl T.g__law_begun k_law_begun b_law_begun (pa_cons (pv 0) pa_nil))
  have rest : GSs (cxOf (L2.CX P w) P w K mg base N_law "law" (defScope (topS 73)) (He.ga K "law") (.ref (codeAt K (He.ga K "law"))) A outer s H E) (cx K) (fun cls d _ H => E cls d H) (2 ^ 156) (defBody (topS 73)).tail wr_law := gs_le (gs_cons (g_for (passes_of rfl) (gi_rng1 (by rfl) T.n_range (ga_cons (g_op w_add g_int (g_cb w_min2 (by rfl) T.n_min (by decide +kernel) (ga_cons (g_cb w_len (by rfl) T.n_len PySem.boot_len (ga_cons (g_var (pv 0)) ga_nil)) (ga_cons g_int ga_nil)))) ga_nil)) (gg_name (i := 2) nd rfl (Or.inl rfl)) (gs_cons (g_set (i := 3) nd rfl (Or.inl rfl) (g_call G_law_pick gd (hr.mono (by decide)) rfl T.g__law_pick k_law_pick b_law_pick .nil (fun _ _ => .nil) tk (ga_cons (g_var (pv 1)) (ga_cons (g_lst (ga_cons (g_call G_law_core gd (hr.mono (by decide)) rfl T.g__law_core k_law_core b_law_core .nil (fun _ _ => .nil) tk (ga_cons (g_var (pv 1)) (ga_cons g_int (ga_cons g_int (ga_cons g_int ga_nil))))) (ga_cons (g_call G_law_small_core gd (hr.mono (by decide)) rfl T.g__law_small_core k_law_small_core b_law_small_core .nil (fun _ _ => .nil) tk (ga_cons (g_var (pv 1)) ga_nil)) ga_nil))) ga_nil))))
      (gs_cons (g_parN (hp := ps_par (i := 4) (j := 5) rfl nd rfl rfl (by decide) rfl rfl (ga_cons (g_call G_law_program_of gd (hr.mono (by decide)) rfl T.g__law_program_of k_law_program_of b_law_program_of .nil (fun _ _ => .nil) tk (ga_cons (g_var (pv 3)) ga_nil)) (ga_cons (g_call G_law_sizes gd (hr.mono (by decide)) rfl T.g__law_sizes k_law_sizes b_law_sizes .nil (fun _ _ => .nil) tk (ga_cons (g_var (pv 3)) ga_nil)) ga_nil)) rfl))
      (gs_cons (g_set (i := 6) nd rfl (Or.inl rfl) (g_make (n := "Wedge") T.mk_Wedge G_Wedge___init__ gd (hr.mono (by decide)) rfl T.g_Wedge b_Wedge___init__ .nil (fun _ _ => .nil) tk (ga_cons (g_var (pv 4)) ga_nil) n_Wedge))
      (gs_one (g_for (passes_of rfl) (gi_seq (g_call G_law_places gd (hr.mono (by decide)) rfl T.g__law_places k_law_places b_law_places .nil (fun _ _ => .nil) tk (ga_cons (g_var (pv 1)) (ga_cons (g_var (pv 5)) ga_nil)))) (gg_name (i := 7) nd rfl (Or.inl rfl)) (gs_cons (g_set (i := 8) nd rfl (Or.inl rfl) (g_call G_law_fate gd (hr.mono (by decide)) rfl T.g__law_fate k_law_fate b_law_fate .nil (fun _ _ => .nil) tk (ga_cons (g_var (pv 3)) (ga_cons (g_var (pv 5)) (ga_cons (g_var (pv 7)) ga_nil)))))
      (gs_cons (g_set (i := 9) nd rfl (Or.inl rfl) (g_lst (ga_cons (g_call G_fate gd (hr.mono (by decide)) rfl T.g_fate k_fate b_fate .nil (fun _ _ => .nil) tk (ga_cons (g_var (pv 4)) (ga_cons (g_ix (g_var (pv 7)) g_int) (ga_cons (g_ix (g_var (pv 7)) g_int) ga_nil)))) (ga_cons (g_call G_fate gd (hr.mono (by decide)) rfl T.g_fate k_fate b_fate .nil (fun _ _ => .nil) tk (ga_cons (g_call G_law_program_of gd (hr.mono (by decide)) rfl T.g__law_program_of k_law_program_of b_law_program_of .nil (fun _ _ => .nil) tk (ga_cons (g_var (pv 3)) ga_nil)) (ga_cons (g_ix (g_var (pv 7)) g_int) (ga_cons (g_ix (g_var (pv 7)) g_int) ga_nil)))) ga_nil))))
      (gs_cons (g_ifS (g_tcmp (w_ne hr.units) (g_cb (w_reprB T.dg gd hr.units) (by rfl) T.n_repr (by decide +kernel) (ga_cons (g_var (pv 9)) ga_nil)) (g_cb (w_reprB T.dg gd hr.units) (by rfl) T.n_repr (by decide +kernel) (ga_cons (g_lst (ga_cons (g_var (pv 8)) (ga_cons (g_var (pv 8)) ga_nil))) ga_nil)) (nomark _)) (gs_one (g_ret g_bl)) gs_nil)
      (gs_one (g_ifS (g_tcmp (w_eq hr.units) (g_var (pv 8)) (g_tup (ga_cons g_str (ga_cons g_int ga_nil))) (nomark _)) (gs_cons (g_set (i := 10) nd rfl (Or.inl rfl) (g_callI (n := "Program") (g_var (pv 4)) T.co_Program G_Program___call__ gd (hr.mono (by decide)) b_Program___call__ tk (ga_cons (g_ix (g_var (pv 7)) g_int) (ga_cons (g_ix (g_var (pv 7)) g_int) ga_nil))))
      (gs_cons (g_ifS (g_pt (g_wor (g_tcmp (w_ne hr.units) (g_var (pv 10)) (g_call G_law_run gd (hr.mono (by decide)) rfl T.g__law_run k_law_run b_law_run .nil (fun _ _ => .nil) tk (ga_cons (g_var (pv 3)) (ga_cons (g_ix (g_var (pv 7)) g_int) (ga_cons (g_ix (g_var (pv 7)) g_int) ga_nil)))) (nomark _)) (g_wor1 (g_tcmp (w_notInO (n := "Wedge") G_Wedge___contains__ gd (hr.mono (by decide)) b_Wedge___contains__ tk T.spl_Wedge_contains) (g_var (pv 10)) (g_var (pv 6)) (by rfl))))) (gs_one (g_ret g_bl)) gs_nil)
      (gs_one (g_ifS (g_tcmp w_lt (g_cb w_abs (by rfl) T.n_abs (by decide +kernel) (ga_cons (g_ix (g_var (pv 10)) g_int) ga_nil)) (g_op w_mul g_int (g_cb w_abs (by rfl) T.n_abs (by decide +kernel) (ga_cons (g_ix (g_var (pv 7)) g_int) ga_nil))) (nomark _)) (gs_one (g_ret g_bl)) gs_nil)))) gs_nil)))))))))))
      (gs_one (g_ret g_bl))) (by decide +kernel)
  exact ⟨_, pss_cons first rest, law_start (N := N_law) (k := 2 ^ 156) (W := fun cls d _ H => E cls d H) (by decide) (by decide +kernel) law_ok h⟩
end
end KLaw
open PySem PySem.W PySem.Calls PyProof.Rows
theorem PySem.Challenge.cw_crossadds_k51_fates_holds : PySem.Challenge.rw_crossadds_k51_fates.Holds := by
  w_on; o_law
  refine HandSHeadRun.head_any (r := OpenLaw.row PySem.Challenge.rw_crossadds_k51_fates) (q := view (OpenLaw.row PySem.Challenge.rw_crossadds_k51_fates).prog [73]) (H := KLaw.hk) (ob := KLaw.ob) (M := 8000) (loose := KLaw.loose) (d := HandSHeadRun.topDef (OpenLaw.row PySem.Challenge.rw_crossadds_k51_fates).prog 73) (kwd := []) KLaw.ob_eq
    (by kernel_rfl) (fun s => by kernel_rfl) KLaw.run (by kernel_rfl) (by kernel_rfl) (by kernel_rfl) (by rfl) (by first | assumption | decide +kernel) (by decide +kernel) ⟨rfl, rfl, rfl, rfl, rfl, by decide +kernel⟩ ?hw ?hc
  case hw => w_witness2
  case hc =>
    refine DL.walk_of (l := PySem.Challenge.rw_crossadds_k51_fates) (n := 63) (k := 12) (x := "_law_script") rfl (by decide) (by kernel_rfl) ⟨rfl, by decide, by decide⟩ ?F
    intro w mg fa h Y G hmg0
    obtain ⟨K, KX, c⟩ := Y
    have hmg : mg ("law" : PySem.Str) = some (.ref fa) := by
      have e : (HandSHeadRun.topDef (OpenLaw.row PySem.Challenge.rw_crossadds_k51_fates).prog 73).name = ("law" : PySem.Str) := by kernel_rfl
      rw [← e]
      exact hmg0
    have T := KLaw.tx KX G c.t
    have e := hmg.symm.trans T.g_law
    cases e
    obtain ⟨fd, F⟩ := T.f_law
    refine ⟨KLaw.cx K, fd, DL.tabsOf K KLaw.tf, KX, DL.tabs_all (P := fun p => h.get? p.2 = some { cls := .none, data := .fields #[] }) c.empty, DL.tabs_all (P := fun p => K.lookup p.2 = none) c.out, DL.tabs_all (P := fun p => PySem.W.CodeHd h p.1 p.2) (fun f hf => PySem.W.codeHd_of_K KX (c.hd f hf)), ?tb, fun s v => (L2.FunD.bindsA (ps := ["_law_script"]) F fun _ _ _ _ _ _ us hl => match us, hl with | [_], _ => rfl) s [v] rfl, fun base _ _ TB => ?_⟩
    case tb =>
      intro p hp
      cases hp
    exact KLaw.ok_law (P := (PySem.Challenge.rw_crossadds_k51_fates).prog) (w := w) (base := base) T (fun f hf => TB _ (DL.tabs_mem hf)) F
