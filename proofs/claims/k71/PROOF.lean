import PyProof.Rows.All
import Wide.All
import OpenK.AllK
import Wide.FinOn
import HandS.ForMost
import HandS.Wide
import HandS.WideBits
import HandS.Star
import HandS.Property
import HandS.IsInst
import HandS.Style
import HandS.TupAny
import HandS.Defaults
import HandS.Flow
import HandS.Lambda
import HandS.Exc
import KE.KOpsOwn
import PyProof.InstEq
import PyProof.InstNe
import HandS.TupMul
import HandS.Zip
import HandS.Head0
import HandS.Head1
import HandS.Head2
import HandS.HeadEnd
import HandS.HeadHook1
import HandS.HeadHook2
import KE.GoesMore
import KE.KRevSl
import KE.KIsAll
import HandS.ExcIs
import HandS.ExcField
import PyProof.ReprReads
import PyProof.ReprRoads
import PyProof.ReprLen
import PyProof.P3Eq
import PyProof.Fits
import HandS.ExcInit
import HandS.ExcOwn
import HandS.ClsMeth
import HandS.RaiseMore
import HandS.ExcValue
import HandS.EndTab
import HandS.HeadHook4
import PyProof.ListRange
import HandS.MakeKwOnly
import HandS.OwnEq
import HandS.NamedTupGet
import PyProof.StrReplace2
import PyProof.Rows.Digits
import KE.DataEq
import HandS.Iter
import PyProof.NoPylong
import PyProof.Rows.RuleB_floordiv
import OpenK.KOwn
import HandS.FStr
import HandS.Text
import HandS.Steps
import PyProof.StrBlock2
import HandS.Codes
import HandS.DictTup
import HandS.Conv
import HandS.SortRule
import KE.KDictSum
import HandS.DictComp
import KE.KDictCopyH
import KE.KDictOf
import KE.KDictPairs
import HandS.SortKw
import KE.DataMinMax
import KE.KEqDict
import PySem.Challenge.RW_crossadds_k71_rules_read_or_refused
set_option Elab.async false
set_option linter.all false
set_option maxRecDepth 100000
set_option maxHeartbeats 4000000
/-! A0: a logic of plain data over the hand layer: data, cells, the world. -/
namespace DL
open PySem L2

/-- plain data; a cell is a thing that still changes -/
inductive D where
  | none | bool (b : Bool) | int (i : Int) | str (s : Str)
  | list (ds : List D) | tup (ds : List D)
  | dk (ks : List Key) (ds : List D) | dt (ks : List (List Key)) (ds : List D)
  | obj (c : Str) (fs : List Str) (ds : List D)
  | script (ns : List Int) | state | ty (n : String) | cls (n : Str)
  | err (c : Str) (fs : List Str) (ds : List D)
  | cell (a : Addr)
/-- what a cell holds -/
inductive Nd where
  | list (ds : List D) | dk (ks : List Key) (ds : List D) | dt (ks : List (List Key)) (ds : List D)
  | obj (c : Str) (fs : List Str) (ds : List D)
def Nd.frz : Nd → D
  | .list ds => .list ds
  | .dk ks ds => .dk ks ds
  | .dt ks ds => .dt ks ds
  | .obj c fs ds => .obj c fs ds
abbrev Mu := Addr → Option Nd
def up (μ : Mu) (a : Addr) (x : Nd) : Mu := fun b => if b = a then some x else μ b
def del (μ : Mu) (a : Addr) : Mu := fun b => if b = a then Option.none else μ b
theorem up_same {μ : Mu} {a : Addr} {x : Nd} : up μ a x a = some x := if_pos rfl
theorem up_ne {μ : Mu} {a b : Addr} {x : Nd} (h : b ≠ a) : up μ a x b = μ b := if_neg h
theorem up_up {μ : Mu} {a : Addr} {x y : Nd} : up (up μ a x) a y = up μ a y := by
  funext b
  unfold up
  split <;> rfl
theorem del_same {μ : Mu} {a : Addr} : del μ a a = Option.none := if_pos rfl
theorem del_ne {μ : Mu} {a b : Addr} (h : b ≠ a) : del μ a b = μ b := if_neg h
theorem del_up {μ : Mu} {a : Addr} {x : Nd} (h : μ a = Option.none) : del (up μ a x) a = μ := by
  funext b
  by_cases z : b = a
  · subst z
    rw [del_same, h]
  · rw [del_ne z, up_ne z]

/-- the written part, the classes by name -/
structure Ctx where
  K : PySem.W.Frag
  cl : Str → Addr
  tb : List (Addr × Str) := []
  ns : List Str := []
  es : List Str := []
/-- the built-in types that are named -/
def tyNames : List String := ["int", "bool", "str", "list", "tuple", "dict", "NoneType", "ValueError", "KeyError", "ZeroDivisionError", "TypeError"]
/-- where the law's state stands: its dict, its list of wide cells, its list of cells -/
structure SA where
  d : Addr
  l : Addr
  k : Addr
  T : List (Addr × Str) := []

/-- at a: an error of the class cls, its dict at d -/
def ErO (a : Addr) (cls : Value) (d : Option Addr) : HO := .ext fun h => ∃ (oe : Obj) (vs : Array Value), h.get? a = some oe ∧ Zc cls d oe ∧ oe.data = .fields vs
/-- what an error's dict holds -/
def ErF (I : Hp) (d : Option Addr) (fs : List Str) (xs : List V) : Prop := fs.length = xs.length ∧ ((d = none ∧ fs = []) ∨ ∃ dx, d = some dx ∧ I dx = some (.xd (List.zip fs xs)))
/-- no pair that begins with a number (such a pair may be a dict's key) -/
def isIntV : V → Bool
  | .int _ => true
  | _ => false
def noKey : List V → Bool
  | [v, _] => !isIntV v
  | _ => true
/-- a tuple at a: made while running, or one of the written part that is no key -/
def TupA (K : PySem.W.Frag) (I : Hp) (a : Addr) (xs : List V) : Prop := I a = some (.tup xs) ∨ (noKey xs = true ∧ SqT K I a xs)
theorem TupA.sq {K : PySem.W.Frag} {I : Hp} {a : Addr} {xs : List V} (h : TupA K I a xs) : SqT K I a xs := by
  rcases h with h | ⟨_, h⟩
  · exact .inl (.inl h)
  · exact h
mutual
/-- what a value stands for, by what is known -/
inductive Rep (c : Ctx) (S : Option SA) (I : Hp) : D → V → Prop where
  | none : Rep c S I .none .non
  | bool {b} : Rep c S I (.bool b) (.bl b)
  | int {i} : Rep c S I (.int i) (.int i)
  | str {s} : Rep c S I (.str s) (.str s)
  | list {a ds xs} (h : I a = some (.lst xs)) (r : Reps c S I ds xs) : Rep c S I (.list ds) (.ref a)
  | tup {a ds xs} (h : TupA c.K I a xs) (r : Reps c S I ds xs) : Rep c S I (.tup ds) (.ref a)
  | dk {a ks ds xs} (h : I a = some (.dK (List.zip ks xs))) (r : Reps c S I ds xs) (l : ks.length = xs.length) : Rep c S I (.dk ks ds) (.ref a)
  | dt {a ks ds xs} (h : I a = some (.dT (List.zip ks xs))) (r : Reps c S I ds xs) (l : ks.length = xs.length) : Rep c S I (.dt ks ds) (.ref a)
  | obj {a n dx fs ds xs} (h : I a = some (.ins (c.cl n) dx (List.zip fs xs))) (r : Reps c S I ds xs) (l : fs.length = xs.length) (hn : n ∈ c.ns) : Rep c S I (.obj n fs ds) (.ref a)
  | script {a ns} (h : SqL c.K I a (ns.map V.int)) : Rep c S I (.script ns) (.ref a)
  | state {s} (h : S = some s) (ht : s.T = c.tb) : Rep c S I .state (.ref s.d)
  | ty {n} (hn : n ∈ tyNames) : Rep c S I (.ty n) (.ty n)
  | cls {n} (hn : n ∈ c.ns ++ c.es) : Rep c S I (.cls n) (.ref (c.cl n))
  | err {a n d fs ds xs} (h : I a = some (ErO a (.ref (c.cl n)) d)) (hf : ErF I d fs xs) (r : Reps c S I ds xs) (hn : n ∈ c.es) : Rep c S I (.err n fs ds) (.ref a)
  | cell {a} : Rep c S I (.cell a) (.ref a)
inductive Reps (c : Ctx) (S : Option SA) (I : Hp) : List D → List V → Prop where
  | nil : Reps c S I [] []
  | cons {d ds x xs} (h : Rep c S I d x) (r : Reps c S I ds xs) : Reps c S I (d :: ds) (x :: xs)
end

theorem Same.sqT {K : PySem.W.Frag} {H H' : Hp} {a : Addr} {xs : List V} (e : Same H H') (h : SqT K H a xs) : SqT K H' a xs := by
  rcases h with (h | ⟨o, h⟩) | h
  · exact .inl (.inl (e _ _ h))
  · exact .inl (.inr ⟨o, e _ _ h⟩)
  · exact .inr h
theorem Same.tup {K : PySem.W.Frag} {H H' : Hp} {a : Addr} {xs : List V} (e : Same H H') (h : TupA K H a xs) : TupA K H' a xs := by
  rcases h with h | ⟨h, g⟩
  · exact .inl (e _ _ h)
  · exact .inr ⟨h, Same.sqT e g⟩
theorem ErF.mono {I I' : Hp} (e : Same I I') {d : Option Addr} {fs : List Str} {xs : List V} (h : ErF I d fs xs) : ErF I' d fs xs := by
  obtain ⟨h1, h2⟩ := h
  refine ⟨h1, ?_⟩
  rcases h2 with z | ⟨dx, z, q⟩
  · exact .inl z
  · exact .inr ⟨dx, z, e _ _ q⟩
section
variable {c : Ctx} {S : Option SA} {I I' : Hp}
mutual
theorem Rep.mono (e : Same I I') : ∀ {d : D} {v : V}, Rep c S I d v → Rep c S I' d v
  | _, _, .none => .none
  | _, _, .bool => .bool
  | _, _, .int => .int
  | _, _, .str => .str
  | _, _, .list h r => .list (e _ _ h) (Reps.mono e r)
  | _, _, .tup h r => .tup (Same.tup e h) (Reps.mono e r)
  | _, _, .dk h r l => .dk (e _ _ h) (Reps.mono e r) l
  | _, _, .dt h r l => .dt (e _ _ h) (Reps.mono e r) l
  | _, _, .obj h r l hn => .obj (e _ _ h) (Reps.mono e r) l hn
  | _, _, .script h => .script (e.seq h)
  | _, _, .state h t => .state h t
  | _, _, .ty hn => .ty hn
  | _, _, .cls hn => .cls hn
  | _, _, .err h f r hn => .err (e _ _ h) (f.mono e) (Reps.mono e r) hn
  | _, _, .cell => .cell
theorem Reps.mono (e : Same I I') : ∀ {ds : List D} {xs : List V}, Reps c S I ds xs → Reps c S I' ds xs
  | _, _, .nil => .nil
  | _, _, .cons h r => .cons (Rep.mono e h) (Reps.mono e r)
end
theorem Reps.length : ∀ {ds : List D} {xs : List V}, Reps c S I ds xs → ds.length = xs.length
  | _, _, .nil => rfl
  | _, _, .cons _ r => by rw [List.length_cons, List.length_cons, r.length]
theorem Reps.get : ∀ {ds : List D} {xs : List V} {i : Nat} {d : D}, Reps c S I ds xs → ds[i]? = some d → ∃ x, xs[i]? = some x ∧ Rep c S I d x
  | _, _, _, _, .nil, h => by simp at h
  | _, _, 0, _, .cons r _, h => by
    simp at h
    subst h
    exact ⟨_, rfl, r⟩
  | _, _, i + 1, d, .cons _ r, h => by
    obtain ⟨x, h1, h2⟩ := r.get (i := i) (by simpa using h)
    exact ⟨x, by simpa using h1, h2⟩
theorem Reps.append : ∀ {ds es : List D} {xs ys : List V}, Reps c S I ds xs → Reps c S I es ys → Reps c S I (ds ++ es) (xs ++ ys)
  | _, _, _, _, .nil, s => s
  | _, _, _, _, .cons h r, s => .cons h (r.append s)
theorem Reps.set {d : D} {x : V} (q : Rep c S I d x) : ∀ {ds : List D} {xs : List V} (i : Nat), Reps c S I ds xs → Reps c S I (ds.set i d) (xs.set i x)
  | _, _, _, .nil => .nil
  | _, _, 0, .cons _ r => .cons q r
  | _, _, i + 1, .cons h r => .cons h (Reps.set q i r)
theorem Reps.take : ∀ {ds : List D} {xs : List V} (i : Nat), Reps c S I ds xs → Reps c S I (ds.take i) (xs.take i)
  | _, _, 0, _ => .nil
  | _, _, _ + 1, .nil => .nil
  | _, _, i + 1, .cons h r => .cons h (r.take i)
theorem Reps.drop : ∀ {ds : List D} {xs : List V} (i : Nat), Reps c S I ds xs → Reps c S I (ds.drop i) (xs.drop i)
  | _, _, 0, r => r
  | _, _, _ + 1, .nil => .nil
  | _, _, i + 1, .cons _ r => r.drop i
theorem Reps.reverse : ∀ {ds : List D} {xs : List V}, Reps c S I ds xs → Reps c S I ds.reverse xs.reverse
  | _, _, .nil => .nil
  | _, _, .cons h r => by
    rw [List.reverse_cons, List.reverse_cons]
    exact r.reverse.append (.cons h .nil)
theorem Reps.flat {ds : List D} {xs : List V} (q : Reps c S I ds xs) : ∀ n : Nat, Reps c S I (List.replicate n ds).flatten (List.replicate n xs).flatten
  | 0 => .nil
  | n + 1 => by
    rw [List.replicate_succ, List.replicate_succ, List.flatten_cons, List.flatten_cons]
    exact q.append (Reps.flat q n)
theorem Reps.dropLast {ds : List D} {xs : List V} (q : Reps c S I ds xs) : Reps c S I ds.dropLast xs.dropLast := by
  rw [List.dropLast_eq_take, List.dropLast_eq_take, q.length]
  exact q.take _
theorem Reps.ints : ∀ {ns : List Int} {xs : List V}, Reps c S I (ns.map D.int) xs → xs = ns.map V.int
  | [], _, .nil => rfl
  | _ :: ns, _, .cons h r => by
    cases h
    rw [r.ints]
    rfl
theorem Reps.of_ints : ∀ {ns : List Int}, Reps c S I (ns.map D.int) (ns.map V.int)
  | [] => .nil
  | _ :: _ => .cons .int Reps.of_ints
end
/-- what a cell's thing is -/
inductive NdR (c : Ctx) (S : Option SA) (I : Hp) : Nd → HO → Prop where
  | list {ds xs} (r : Reps c S I ds xs) : NdR c S I (.list ds) (.lst xs)
  | dk {ks ds xs} (r : Reps c S I ds xs) (l : ks.length = xs.length) : NdR c S I (.dk ks ds) (.dK (List.zip ks xs))
  | dt {ks ds xs} (r : Reps c S I ds xs) (l : ks.length = xs.length) : NdR c S I (.dt ks ds) (.dT (List.zip ks xs))
  | obj {n dx fs ds xs} (r : Reps c S I ds xs) (l : fs.length = xs.length) (hn : n ∈ c.ns) : NdR c S I (.obj n fs ds) (.ins (c.cl n) dx (List.zip fs xs))
theorem NdR.mono {c : Ctx} {S : Option SA} {I I' : Hp} (e : Same I I') {nd : Nd} {o : HO} (h : NdR c S I nd o) : NdR c S I' nd o := by
  cases h with
  | list r => exact .list (r.mono e)
  | dk r l => exact .dk (r.mono e) l
  | dt r l => exact .dt (r.mono e) l
  | obj r l hn => exact .obj (r.mono e) l hn
theorem NdR.frz {c : Ctx} {S : Option SA} {I : Hp} {nd : Nd} {o : HO} {a : Addr} (h : NdR c S I nd o) (ha : I a = some o) : Rep c S I nd.frz (.ref a) := by
  cases h with
  | list r => exact .list ha r
  | dk r l => exact .dk ha r l
  | dt r l => exact .dt ha r l
  | obj r l hn => exact .obj ha r l hn

/-! ### the world -/
def isDict : HO → Bool
  | .dK _ => true
  | .dT _ => true
  | _ => false
/-- no table of code objects -/
def notTb : HO → Prop
  | .tbl _ => False
  | _ => True
def notTX : HO → Prop
  | .tbl _ => False
  | .ext _ => False
  | .tup _ => False
  | _ => True
theorem notTX.tb : ∀ {o : HO}, notTX o → notTb o := fun {o} h => by cases o <;> first | trivial | exact h
theorem NdR.tx {c : Ctx} {S : Option SA} {I : Hp} {nd : Nd} {o : HO} (h : NdR c S I nd o) : notTX o := by cases h <;> trivial
/-- the places of the state -/
def Cell (a : SA) (b : Addr) : Prop := (b = a.d ∨ b = a.l ∨ b = a.k) ∨ ∃ p ∈ a.T, b = p.1
def StOk (s : SA) (n : Nat) (H : Hp) : Prop := LamX.Tabs s.T H ∧ s.l ≠ s.k ∧ ∃ (ws cs : List Int) (r t : Int),
  H s.d = some (.dK [(Sum.inr "wide", .ref s.l), (Sum.inr "cells", .ref s.k), (Sum.inr "rest", .int r), (Sum.inr "turn", .int t)]) ∧
  H s.l = some (.lst (ws.map V.int)) ∧ H s.k = some (.lst (cs.map V.int)) ∧ ws.length ≤ 63 ∧ cs.length ≤ 63 ∧ 0 ≤ t ∧ t ≤ (n : Int)
/-- a thing that is left alone: nobody knows it, or it is a known dict while it is walked -/
def Lf (S : Option SA) (I : Hp) (μ : Mu) (b : Addr) (o : HO) : Prop := (I b = Option.none ∧ μ b = Option.none ∧ notTX o ∧ ∀ a, S = some a → ¬ Cell a b) ∨ ∃ ob u, o = .frz ob u ∧ isDict u = true ∧ I b = some u
theorem Lf.to {S : Option SA} {I I' : Hp} {μ μ' : Mu} {b : Addr} {o : HO} (h : Lf S I μ b o) (hi : I' b = I b) (hm : μ b = Option.none → μ' b = Option.none) : Lf S I' μ' b o := by
  rcases h with ⟨h1, h2, h3⟩ | ⟨ob, u, h1, h2, h3⟩
  · exact .inl ⟨by rw [hi]; exact h1, hm h2, h3⟩
  · exact .inr ⟨ob, u, h1, h2, by rw [hi]; exact h3⟩
/-- what is known (I), the cells (μ), what is left alone meanwhile (F), the state -/
structure Wd (c : Ctx) (S : Option SA) (F : Hp) (n : Nat) (I : Hp) (μ : Mu) (H : Hp) : Prop where
  i : ∀ b o, I b = some o → H b = some o ∨ (isDict o = true ∧ ∃ ob, H b = some (.frz ob o))
  m : ∀ b nd, μ b = some nd → I b = Option.none ∧ ∃ o, NdR c S I nd o ∧ H b = some o
  s : ∀ a, S = some a → StOk a n H ∧ ∀ b, Cell a b → I b = Option.none ∧ μ b = Option.none
  ni : ∀ b o, I b = some o → notTb o
  f : ∀ b o, F b = some o → H b = some o ∧ Lf S I μ b o
  z : ∃ a, S = some a ∧ a.T = c.tb
theorem none_of {α : Type} {x : Option α} (h : ∀ o, x = some o → False) : x = Option.none := by
  cases e : x with
  | none => rfl
  | some o => exact (h o e).elim
theorem StOk.up {s : SA} {n m : Nat} {H : Hp} (h : StOk s n H) (e : n ≤ m) : StOk s m H := by
  obtain ⟨h9, h0, ws, cs, r, t, h1, h2, h3, h4, h5, h6, h7⟩ := h
  exact ⟨h9, h0, ws, cs, r, t, h1, h2, h3, h4, h5, h6, by omega⟩
theorem StOk.cells {s : SA} {n : Nat} {H : Hp} (h : StOk s n H) {b : Addr} (q : Cell s b) : ∃ o, H b = some o := by
  obtain ⟨h9, h0, ws, cs, r, t, h1, h2, h3, _⟩ := h
  rcases q with (rfl | rfl | rfl) | ⟨p, hp, rfl⟩
  · exact ⟨_, h1⟩
  · exact ⟨_, h2⟩
  · exact ⟨_, h3⟩
  · obtain ⟨ps, z, _⟩ := h9 p hp
    exact ⟨_, z⟩
/-- the tables stay where they and what they tell stay -/
theorem tabs_keep {T : List (Addr × Str)} {H H' : Hp} (h : LamX.Tabs T H) (k : ∀ p ∈ T, H' p.1 = H p.1) (k2 : ∀ b φ, H b = some (.ext φ) → H' b = some (.ext φ)) : LamX.Tabs T H' := fun p hp => by
  obtain ⟨ps, h1, h2, h3⟩ := h p hp
  refine ⟨ps, by rw [k p hp]; exact h1, h2, fun pos cv hc => ?_⟩
  obtain ⟨c, e1, e2⟩ := h3 pos cv hc
  exact ⟨c, e1, k2 _ _ e2⟩
theorem StOk.keep {s : SA} {n : Nat} {H H' : Hp} (h : StOk s n H) (k : ∀ b, Cell s b → H' b = H b) (k2 : ∀ b φ, H b = some (.ext φ) → H' b = some (.ext φ)) : StOk s n H' := by
  obtain ⟨h9, h0, ws, cs, r, t, h1, h2, h3, h4⟩ := h
  exact ⟨tabs_keep h9 (fun p hp => k _ (.inr ⟨p, hp, rfl⟩)) k2, h0, ws, cs, r, t, by rw [k _ (.inl (.inl rfl))]; exact h1, by rw [k _ (.inl (.inr (.inl rfl)))]; exact h2, by rw [k _ (.inl (.inr (.inr rfl)))]; exact h3, h4⟩
section
variable {c : Ctx} {S : Option SA} {n m : Nat} {I H F F' : Hp} {μ μ' : Mu} {p : Addr} {u o : HO} {nd : Nd}
/-- what is left alone and not walked -/
theorem Wd.f0 (w : Wd c S F n I μ H) {b : Addr} {o : HO} (h : F b = some o) (ho : ∀ ob u, o ≠ .frz ob u) : H b = some o ∧ I b = Option.none ∧ μ b = Option.none ∧ notTX o ∧ ∀ a, S = some a → ¬ Cell a b := by
  obtain ⟨h1, h2⟩ := w.f b o h
  rcases h2 with h2 | ⟨ob, u, h3, _⟩
  · exact ⟨h1, h2⟩
  · exact absurd h3 (ho ob u)
theorem Wd.up (w : Wd c S F n I μ H) (e : n ≤ m) : Wd c S F m I μ H := ⟨w.i, w.m, fun a h => ⟨(w.s a h).1.up e, (w.s a h).2⟩, w.ni, w.f, w.z⟩
/-- less is owned -/
theorem Wd.drop (w : Wd c S F n I μ H) (e : ∀ b nd, μ' b = some nd → μ b = some nd) : Wd c S F n I μ' H :=
  ⟨w.i, fun b nd h => w.m b nd (e b nd h), fun a h => ⟨(w.s a h).1, fun b q => ⟨((w.s a h).2 b q).1, none_of fun o z => by
    have := e b o z
    rw [((w.s a h).2 b q).2] at this
    cases this⟩⟩, w.ni, fun b o h => ⟨(w.f b o h).1, (w.f b o h).2.to rfl fun hm => none_of (fun nd z => nomatch hm.symm.trans (e b nd z))⟩, w.z⟩
/-- less is left alone -/
theorem Wd.less (w : Wd c S F n I μ H) (e : ∀ b o, F' b = some o → F b = some o) : Wd c S F' n I μ H := ⟨w.i, w.m, w.s, w.ni, fun b o h => w.f b o (e b o h), w.z⟩
theorem Wd.nf (w : Wd c S F n I μ H) (h : H p = Option.none) : F p = Option.none := none_of fun o e => by
  have := (w.f p o e).1
  rw [h] at this
  cases this
theorem Wd.nfm (w : Wd c S F n I μ H) (h : μ p = some nd) : F p = Option.none := none_of fun o e => by
  rcases (w.f p o e).2 with ⟨_, h2, _⟩ | ⟨ob, u, _, _, h3⟩
  · rw [h] at h2
    cases h2
  · rw [(w.m p nd h).1] at h3
    cases h3
theorem Wd.fresh (w : Wd c S F n I μ H) (h : H p = Option.none) : I p = Option.none ∧ μ p = Option.none := by
  constructor
  · refine none_of fun o e => ?_
    rcases w.i p o e with z | ⟨_, ob, z⟩
    · rw [h] at z; cases z
    · rw [h] at z; cases z
  · refine none_of fun nd e => ?_
    obtain ⟨_, o, _, z⟩ := w.m p nd e
    rw [h] at z; cases z
theorem Wd.ne_st (w : Wd c S F n I μ H) (h : H p = Option.none) {a : SA} (e : S = some a) {b : Addr} (q : Cell a b) : b ≠ p := by
  obtain ⟨o, z⟩ := (w.s a e).1.cells q
  exact ne_of_none z h
theorem ext_new (h : H p = Option.none) : ∀ b φ, H b = some (.ext φ) → upd H p u b = some (.ext φ) := fun b φ e => by
  rw [upd_ne (ne_of_none e h)]
  exact e
theorem same_new (h : I p = Option.none) : Same I (upd I p u) := fun b o e => by
  rw [upd_ne (ne_of_none e h)]
  exact e
/-- a new thing of which nothing is said -/
theorem Wd.frame (w : Wd c S F n I μ H) (h : H p = Option.none) : Wd c S F n I μ (upd H p u) := by
  have hf := w.fresh h
  refine ⟨fun b o e => ?_, fun b nd e => ?_, fun a e => ⟨?_, (w.s a e).2⟩, w.ni, fun b o e => ⟨by rw [upd_ne (ne_of_none (w.f b o e).1 h)]; exact (w.f b o e).1, (w.f b o e).2⟩, w.z⟩
  · rw [upd_ne (ne_of_none e hf.1)]
    exact w.i b o e
  · obtain ⟨h1, o, h2, h3⟩ := w.m b nd e
    exact ⟨h1, o, h2, by rw [upd_ne (ne_of_none h3 h)]; exact h3⟩
  · exact (w.s a e).1.keep (fun b q => upd_ne (w.ne_st h e q)) (ext_new h)
/-- it is known from now on -/
theorem Wd.know (w : Wd c S F n I μ H) (h : H p = some u) (hi : I p = Option.none) (hm : μ p = Option.none) (hc : ∀ a, S = some a → ¬ Cell a p) (hf : F p = Option.none) (hu : notTb u) : Wd c S F n (upd I p u) μ H := by
  have sm : Same I (upd I p u) := same_new hi
  have ap : ∀ {b : Addr}, b ≠ p → upd I p u b = I b := fun z => upd_ne z
  refine ⟨fun b o e => ?_, fun b nd e => ?_, fun a e => ⟨(w.s a e).1, fun b q => ?_⟩, fun b o e => ?_, fun b o e => ⟨(w.f b o e).1, (w.f b o e).2.to (ap (ne_of_none e hf)) id⟩, w.z⟩
  · by_cases z : b = p
    · subst z
      rw [upd_same] at e
      cases e
      exact .inl h
    · rw [ap z] at e
      exact w.i b o e
  · have z : b ≠ p := fun z => by
      rw [z, hm] at e
      cases e
    obtain ⟨h1, o, h2, h3⟩ := w.m b nd e
    exact ⟨by rw [ap z]; exact h1, o, h2.mono sm, h3⟩
  · have z : b ≠ p := fun z => hc a e (z ▸ q)
    rw [ap z]
    exact (w.s a e).2 b q
  · by_cases z : b = p
    · subst z
      rw [upd_same] at e
      cases e
      exact hu
    · rw [ap z] at e
      exact w.ni b o e
/-- it is a cell from now on -/
theorem Wd.own (w : Wd c S F n I μ H) (r : NdR c S I nd u) (h : H p = some u) (hi : I p = Option.none) (hc : ∀ a, S = some a → ¬ Cell a p) (hf : F p = Option.none) : Wd c S F n I (DL.up μ p nd) H := by
  refine ⟨w.i, fun b nd' e => ?_, fun a e => ⟨(w.s a e).1, fun b q => ?_⟩, w.ni, fun b o e => ⟨(w.f b o e).1, (w.f b o e).2.to rfl fun hm => by rw [up_ne (ne_of_none e hf)]; exact hm⟩, w.z⟩
  · by_cases z : b = p
    · subst z
      rw [up_same] at e
      cases e
      exact ⟨hi, u, r, h⟩
    · rw [up_ne z] at e
      exact w.m b nd' e
  · rw [up_ne fun (z : b = p) => hc a e (z ▸ q)]
    exact (w.s a e).2 b q
theorem Wd.no_cell (w : Wd c S F n I μ H) (h : H p = Option.none) : ∀ a, S = some a → ¬ Cell a p := fun _ e q => w.ne_st h e q rfl
/-- a new thing, known -/
theorem Wd.new (w : Wd c S F n I μ H) (h : H p = Option.none) (hu : notTb u := by trivial) : Wd c S F n (upd I p u) μ (upd H p u) :=
  (w.frame h).know upd_same (w.fresh h).1 (w.fresh h).2 (w.no_cell h) (w.nf h) hu
/-- a new thing, a cell -/
theorem Wd.newCell (w : Wd c S F n I μ H) (h : H p = Option.none) (r : NdR c S I nd u) : Wd c S F n I (DL.up μ p nd) (upd H p u) :=
  (w.frame h).own r upd_same (w.fresh h).1 (w.no_cell h) (w.nf h)
/-- a cell is changed -/
theorem Wd.put (w : Wd c S F n I μ H) {nd0 : Nd} (h : μ p = some nd0) (r : NdR c S I nd u) : Wd c S F n I (DL.up μ p nd) (upd H p u) := by
  obtain ⟨hi, o0, r0, h0⟩ := w.m p nd0 h
  have hc : ∀ a, S = some a → ¬ Cell a p := fun a e q => by
    have := ((w.s a e).2 p q).2
    rw [h] at this
    cases this
  have hf := w.nfm h
  refine ⟨fun b o e => ?_, fun b nd' e => ?_, fun a e => ⟨?_, fun b q => ?_⟩, w.ni, fun b o e => ⟨by rw [upd_ne (ne_of_none e hf)]; exact (w.f b o e).1, (w.f b o e).2.to rfl fun hm => by rw [up_ne (ne_of_none e hf)]; exact hm⟩, w.z⟩
  · rw [upd_ne (ne_of_none e hi)]
    exact w.i b o e
  · by_cases z : b = p
    · subst z
      rw [up_same] at e
      cases e
      exact ⟨hi, u, r, upd_same⟩
    · rw [up_ne z] at e
      rw [upd_ne z]
      exact w.m b nd' e
  · refine (w.s a e).1.keep (fun b q => upd_ne fun z => hc a e (z ▸ q)) fun b φ z => ?_
    rw [upd_ne fun q => ?_]
    · exact z
    · rw [q, h0] at z
      cases z
      exact r0.tx
  · rw [up_ne fun (z : b = p) => hc a e (z ▸ q)]
    exact (w.s a e).2 b q
/-- a cell is known from now on -/
theorem Wd.freeze (w : Wd c S F n I μ H) (h : μ p = some nd) : ∃ o, NdR c S I nd o ∧ H p = some o ∧ I p = Option.none ∧ Wd c S F n (upd I p o) (del μ p) H := by
  obtain ⟨hi, o, r, h0⟩ := w.m p nd h
  refine ⟨o, r, h0, hi, (w.drop fun b nd' e => ?_).know h0 hi del_same (fun a e q => ?_) ?_ r.tx.tb⟩
  · by_cases z : b = p
    · rw [z, del_same] at e
      cases e
    · rw [del_ne z] at e
      exact e
  · have := ((w.s a e).2 p q).2
    rw [h] at this
    cases this
  · exact w.nfm h
theorem Wd.lst (w : Wd c S F n I μ H) {xs : List V} (h : I p = some (.lst xs)) : H p = some (.lst xs) := by
  rcases w.i p _ h with z | ⟨z, _⟩
  · exact z
  · cases z
theorem Wd.ins (w : Wd c S F n I μ H) {C dx : Addr} {fs : List (Str × V)} (h : I p = some (.ins C dx fs)) : H p = some (.ins C dx fs) := by
  rcases w.i p _ h with z | ⟨z, _⟩
  · exact z
  · cases z
theorem Wd.tupH (w : Wd c S F n I μ H) {K : PySem.W.Frag} {xs : List V} (h : TupA K I p xs) : SqT K H p xs := by
  rcases h.sq with (h | ⟨o, h⟩) | h
  · rcases w.i p _ h with z | ⟨z, _⟩
    · exact .inl (.inl z)
    · cases z
  · rcases w.i p _ h with z | ⟨z, _⟩
    · exact .inl (.inr ⟨o, z⟩)
    · cases z
  · exact .inr h
theorem Wd.seqH (w : Wd c S F n I μ H) {K : PySem.W.Frag} {xs : List V} (h : SqL K I p xs) : SqL K H p xs := by
  rcases h with (h | ⟨o, h⟩) | h
  · rcases w.i p _ h with z | ⟨z, _⟩
    · exact .inl (.inl z)
    · cases z
  · rcases w.i p _ h with z | ⟨z, _⟩
    · exact .inl (.inr ⟨o, z⟩)
    · cases z
  · exact .inr h
end
/-! ### the names' values -/
abbrev EnvD := List (Option D)
def gt : EnvD → Nat → Option D
  | [], _ => Option.none
  | x :: _, 0 => x
  | _ :: r, n + 1 => gt r n
def st : EnvD → Nat → Option D → EnvD
  | [], _, _ => []
  | _ :: r, 0, x => x :: r
  | y :: r, n + 1, x => y :: st r n x
inductive EnvR (c : Ctx) (S : Option SA) (I : Hp) : EnvD → L2.St → Prop where
  | nil : EnvR c S I [] []
  | no {e σ x} (h : EnvR c S I e σ) : EnvR c S I (Option.none :: e) (x :: σ)
  | yes {e σ d v} (r : Rep c S I d v) (h : EnvR c S I e σ) : EnvR c S I (some d :: e) (some v :: σ)
section
variable {c : Ctx} {S : Option SA} {I I' : Hp}
theorem EnvR.mono (k : Same I I') : ∀ {e : EnvD} {σ : L2.St}, EnvR c S I e σ → EnvR c S I' e σ
  | _, _, .nil => .nil
  | _, _, .no h => .no (h.mono k)
  | _, _, .yes r h => .yes (r.mono k) (h.mono k)
theorem EnvR.len : ∀ {e : EnvD} {σ : L2.St}, EnvR c S I e σ → e.length = σ.length
  | _, _, .nil => rfl
  | _, _, .no h => by rw [List.length_cons, List.length_cons, h.len]
  | _, _, .yes _ h => by rw [List.length_cons, List.length_cons, h.len]
theorem EnvR.get {d : D} : ∀ {e : EnvD} {σ : L2.St} {i : Nat}, EnvR c S I e σ → gt e i = some d → ∃ v, σ[i]? = some (some v) ∧ Rep c S I d v
  | _, _, _, .nil, h => by simp [gt] at h
  | _, _, 0, .no _, h => by simp [gt] at h
  | _, _, 0, .yes r _, h => by
    simp only [gt, Option.some.injEq] at h
    subst h
    exact ⟨_, rfl, r⟩
  | _, _, i + 1, .no q, h => by simpa using q.get (i := i) (by simpa [gt] using h)
  | _, _, i + 1, .yes _ q, h => by simpa using q.get (i := i) (by simpa [gt] using h)
theorem EnvR.put {d : D} {v : V} (r : Rep c S I d v) : ∀ {e : EnvD} {σ : L2.St} (i : Nat), EnvR c S I e σ → EnvR c S I (st e i (some d)) (σ.set i (some v))
  | _, _, _, .nil => .nil
  | _, _, 0, .no h => .yes r h
  | _, _, 0, .yes _ h => .yes r h
  | _, _, i + 1, .no h => .no (EnvR.put r i h)
  | _, _, i + 1, .yes q h => .yes q (EnvR.put r i h)
theorem EnvR.clr {x : Option V} : ∀ {e : EnvD} {σ : L2.St} (i : Nat), EnvR c S I e σ → EnvR c S I (st e i Option.none) (σ.set i x)
  | _, _, _, .nil => .nil
  | _, _, 0, .no h => .no h
  | _, _, 0, .yes _ h => .no h
  | _, _, i + 1, .no h => .no (EnvR.clr i h)
  | _, _, i + 1, .yes q h => .yes q (EnvR.clr i h)
/-- comprehension names are gone -/
def wipeE (e : EnvD) : List Nat → EnvD
  | [] => e
  | v :: vs => st (wipeE e vs) v Option.none
theorem EnvR.wipe : ∀ (vs : List Nat) {e : EnvD} {σ : L2.St}, EnvR c S I e σ → EnvR c S I (wipeE e vs) (L2.wipe σ vs)
  | [], _, _, h => h
  | v :: vs, _, _, h => EnvR.clr v (EnvR.wipe vs h)
theorem EnvR.init (m : Nat) : ∀ {ds : List D} {vs : List V}, Reps c S I ds vs → EnvR c S I (ds.map some ++ List.replicate m Option.none) (vs.map some ++ List.replicate m Option.none)
  | _, _, .nil => by
    induction m with
    | zero => exact .nil
    | succ m ih => exact .no ih
  | _, _, .cons r rs => .yes r (EnvR.init m rs)
end
/-- an error as it leaves -/
def ErrAt (c : Ctx) (S : Option SA) (I : Hp) (err : D) (cls : Value) (d : Option Addr) : Prop := ∃ n fs ds xs, err = .err n fs ds ∧ cls = .ref (c.cl n) ∧ ErF I d fs xs ∧ Reps c S I ds xs ∧ n ∈ c.es
theorem ErrAt.mono {c : Ctx} {S : Option SA} {I I' : Hp} (e : Same I I') {err : D} {cls : Value} {d : Option Addr} (h : ErrAt c S I err cls d) : ErrAt c S I' err cls d := by
  obtain ⟨n, fs, ds, xs, h1, h2, h3, h4⟩ := h
  exact ⟨n, fs, ds, xs, h1, h2, h3.mono e, h4.1.mono e, h4.2⟩
end DL

set_option Elab.async false
set_option linter.all false
set_option maxRecDepth 100000
set_option maxHeartbeats 4000000
/-! A1: wishes over data (weakest preconditions), and that a reading keeps them: expressions. -/
namespace DL
open PySem PyProof.Rows L2
/-- the most draws that are mixed -/
def LIM : Nat := 2 ^ 20000
/-- a result: a piece of data, or a new thing that nobody holds yet -/
inductive Rs where
  | v (d : D) | n (nd : Nd)
abbrev QD := D → Mu → Prop
abbrev QR := Rs → Mu → Prop
abbrev WE := EnvD → Mu → QD → QD → Prop
abbrev WT := EnvD → Mu → (Bool → Mu → Prop) → QD → Prop
abbrev WA := EnvD → Mu → (List D → Mu → Prop) → QD → Prop
abbrev WO := EnvD → Mu → (Option Int → Mu → Prop) → QD → Prop
abbrev WOp := D → D → Mu → QR → QD → Prop
abbrev WU := D → Mu → QR → QD → Prop
abbrev WC := List D → Mu → QR → QD → Prop
abbrev WM := D → List D → Mu → QR → QD → Prop
/-- a def -/
abbrev WP := List D → Mu → QD → QD → Prop
/-- a new thing is known from now on (false), or a cell (true) -/
def sett : Bool → QD → QR
  | _, Q, .v d, μ => Q d μ
  | false, Q, .n nd, μ => Q nd.frz μ
  | true, Q, .n nd, μ => ∀ p, μ p = Option.none → Q (.cell p) (up μ p nd)
/-! ### wishes -/
def wV (i : Nat) : WE := fun e μ Q _ => match gt e i with
  | some d => Q d μ
  | Option.none => False
def wK (d : D) : WE := fun _ μ Q _ => Q d μ
def wOp (m : Bool) (o : WOp) (a b : WE) : WE := fun e μ Q X => a e μ (fun x μ1 => b e μ1 (fun y μ2 => o x y μ2 (sett m Q) X) X) X
def wUn (m : Bool) (o : WU) (a : WE) : WE := fun e μ Q X => a e μ (fun x μ1 => o x μ1 (sett m Q) X) X
def waNil : WA := fun _ μ Q _ => Q [] μ
def waCons (a : WE) (r : WA) : WA := fun e μ Q X => a e μ (fun x μ1 => r e μ1 (fun xs μ2 => Q (x :: xs) μ2) X) X
def wTup (a : WA) : WE := fun e μ Q X => a e μ (fun xs μ1 => xs.length ≤ sizeLine ∧ Q (.tup xs) μ1) X
def wLst (m : Bool) (a : WA) : WE := fun e μ Q X => a e μ (fun xs μ1 => xs.length ≤ sizeLine ∧ sett m Q (.n (.list xs)) μ1) X
def wCb (m : Bool) (o : WC) (a : WA) : WE := fun e μ Q X => a e μ (fun xs μ1 => o xs μ1 (sett m Q) X) X
/-- tests -/
def wTst (a : WE) : WT := fun e μ Q X => a e μ (fun x μ1 => match x with
  | .bool b => Q b μ1
  | _ => False) X
def wNotT (t : WT) : WT := fun e μ Q X => t e μ (fun b μ1 => Q (!b) μ1) X
def wAndT (t u : WT) : WT := fun e μ Q X => t e μ (fun b μ1 => if b = true then u e μ1 Q X else Q false μ1) X
def wOrT (t u : WT) : WT := fun e μ Q X => t e μ (fun b μ1 => if b = true then Q true μ1 else u e μ1 Q X) X
def wIf (t : WT) (a b : WE) : WE := fun e μ Q X => t e μ (fun k μ1 => if k = true then a e μ1 Q X else b e μ1 Q X) X
def wAnd (a b : WE) : WE := fun e μ Q X => a e μ (fun x μ1 => match x with
  | .bool k => if k = true then b e μ1 Q X else Q (.bool false) μ1
  | _ => False) X
def wOr (a b : WE) : WE := fun e μ Q X => a e μ (fun x μ1 => match x with
  | .bool k => if k = true then Q (.bool true) μ1 else b e μ1 Q X
  | _ => False) X
def wNot (a : WE) : WE := fun e μ Q X => a e μ (fun x μ1 => match x with
  | .bool k => Q (.bool (!k)) μ1
  | _ => False) X
def woNone : WO := fun _ μ Q _ => Q Option.none μ
def woSome (a : WE) : WO := fun e μ Q X => a e μ (fun x μ1 => match x with
  | .int i => Q (some i) μ1
  | _ => False) X
def wSl (m : Bool) (o : D → Option Int → Option Int → Mu → QR → QD → Prop) (a : WE) (l h : WO) : WE := fun e μ Q X => a e μ (fun x μ1 => l e μ1 (fun lo μ2 => h e μ2 (fun hi μ3 => o x lo hi μ3 (sett m Q) X) X) X) X
/-! ### readings -/
section
variable (c : Ctx) (W : WX) (S : Option SA) (F : Hp) (n : Nat) (I : Hp)
def RsR (S : Option SA) (F : Hp) (I : Hp) (μ : Mu) (H : Hp) : Rs → V → Prop
  | .v d, v => Rep c S I d v
  | .n nd, v => ∃ l o, v = .ref l ∧ H l = some o ∧ NdR c S I nd o ∧ I l = Option.none ∧ μ l = Option.none ∧ (∀ a, S = some a → ¬ Cell a l) ∧ F l = Option.none
def QV (Qd : QD) (Q : VK) : Prop := ∀ d μ' v I' H', Qd d μ' → Same I I' → Wd c S F n I' μ' H' → Rep c S I' d v → Q v H'
def QVR (Qd : QR) (Q : VK) : Prop := ∀ r μ' v I' H', Qd r μ' → Same I I' → Wd c S F n I' μ' H' → RsR c S F I' μ' H' r v → Q v H'
def QVA (Qd : List D → Mu → Prop) (Q : List V → Hp → Prop) : Prop := ∀ ds μ' vs I' H', Qd ds μ' → Same I I' → Wd c S F n I' μ' H' → Reps c S I' ds vs → Q vs H'
def QVB {α : Type} (Qd : α → Mu → Prop) (Q : α → Hp → Prop) : Prop := ∀ b μ' I' H', Qd b μ' → Same I I' → Wd c S F n I' μ' H' → Q b H'
def XV (σ : L2.St) (Xd : QD) : Prop := ∀ d μ' cls dx I' H', Xd d μ' → Same I I' → Wd c S F n I' μ' H' → ErrAt c S I' d cls dx → W cls dx σ H'
end
section
variable {c : Ctx} {W : WX} {S : Option SA} {F : Hp} {n n' : Nat} {I I' : Hp} {σ : L2.St} {Xd : QD}
theorem XV.mono (h : XV c W S F n I σ Xd) (e : n' ≤ n) (s : Same I I') : XV c W S F n' I' σ Xd := fun d μ' cls dx I2 H2 p s2 w er => h d μ' cls dx I2 H2 p (s.trans s2) (w.up e) er
theorem QV.mono {Qd : QD} {Q : VK} (h : QV c S F n I Qd Q) (e : n' ≤ n) (s : Same I I') : QV c S F n' I' Qd Q := fun d μ' v I2 H2 p s2 w er => h d μ' v I2 H2 p (s.trans s2) (w.up e) er
theorem QVB.mono {α : Type} {Qd : α → Mu → Prop} {Q : α → Hp → Prop} (h : QVB c S F n I Qd Q) (e : n' ≤ n) (s : Same I I') : QVB c S F n' I' Qd Q := fun d μ' I2 H2 p s2 w => h d μ' I2 H2 p (s.trans s2) (w.up e)
theorem RsR.new {μ : Mu} {H : Hp} {p : Addr} {u : HO} {nd : Nd} (w : Wd c S F n I μ H) (h : H p = Option.none) (r : NdR c S I nd u) : Wd c S F n I μ (upd H p u) ∧ RsR c S F I μ (upd H p u) (.n nd) (.ref p) :=
  ⟨w.frame h, p, u, rfl, upd_same, r, (w.fresh h).1, (w.fresh h).2, w.no_cell h, w.nf h⟩
/-- a result settles -/
theorem settle {μ : Mu} {H : Hp} {r : Rs} {v : V} {m : Bool} {Q : QD} (w : Wd c S F n I μ H) (hr : RsR c S F I μ H r v) (h : sett m Q r μ) : ∃ d μ' I', Q d μ' ∧ Same I I' ∧ Wd c S F n I' μ' H ∧ Rep c S I' d v := by
  cases r with
  | v d => exact ⟨d, μ, I, (by cases m <;> exact h), Same.refl I, w, hr⟩
  | n nd =>
    obtain ⟨l, o, rfl, hl, nr, hi, hm, hc, hf⟩ := hr
    cases m with
    | false =>
      have sm : Same I (upd I l o) := same_new hi
      exact ⟨nd.frz, μ, upd I l o, h, sm, w.know hl hi hm hc hf nr.tx.tb, (nr.mono sm).frz upd_same⟩
    | true => exact ⟨.cell l, up μ l nd, I, h l hm, Same.refl I, w.own nr hl hi hc hf, .cell⟩
theorem QV.sett {m : Bool} {Qd : QD} {Q : VK} (h : QV c S F n I Qd Q) : QVR c S F n I (sett m Qd) Q := fun r μ' v I' H' p s w rr => by
  obtain ⟨d, μ2, I2, q, s2, w2, r2⟩ := settle w rr p
  exact h d μ2 v I2 H' q (s.trans s2) w2 r2
end
section
variable (c : Ctx) (W : WX) (k : Nat)
def ldE (w : WE) : TE := fun σ H Q => ∃ S F n I μ e Qd Xd, n + k ≤ LIM ∧ EnvR c S I e σ ∧ Wd c S F n I μ H ∧ w e μ Qd Xd ∧ QV c S F (n + k) I Qd Q ∧ XV c W S F (n + k) I σ Xd
def ldT (w : WT) : TT := fun σ H Q => ∃ S F n I μ e Qd Xd, n + k ≤ LIM ∧ EnvR c S I e σ ∧ Wd c S F n I μ H ∧ w e μ Qd Xd ∧ QVB c S F (n + k) I Qd Q ∧ XV c W S F (n + k) I σ Xd
def ldA (w : WA) : TA := fun σ H Q => ∃ S F n I μ e Qd Xd, n + k ≤ LIM ∧ EnvR c S I e σ ∧ Wd c S F n I μ H ∧ w e μ Qd Xd ∧ QVA c S F (n + k) I Qd Q ∧ XV c W S F (n + k) I σ Xd
def ldO (w : WO) : TO := fun σ H Q => ∃ S F n I μ e Qd Xd, n + k ≤ LIM ∧ EnvR c S I e σ ∧ Wd c S F n I μ H ∧ w e μ Qd Xd ∧ QVB c S F (n + k) I Qd Q ∧ XV c W S F (n + k) I σ Xd
/-- operations by values -/
def ld2 (o : WOp) (σ : L2.St) : R2 := fun x y H Q => ∃ S F n I μ dx dy Qd Xd, n + k ≤ LIM ∧ Wd c S F n I μ H ∧ Rep c S I dx x ∧ Rep c S I dy y ∧ o dx dy μ Qd Xd ∧ QVR c S F (n + k) I Qd Q ∧ XV c W S F (n + k) I σ Xd
def ld1 (o : WU) (σ : L2.St) : V → Hp → VK → Prop := fun x H Q => ∃ S F n I μ dx Qd Xd, n + k ≤ LIM ∧ Wd c S F n I μ H ∧ Rep c S I dx x ∧ o dx μ Qd Xd ∧ QVR c S F (n + k) I Qd Q ∧ XV c W S F (n + k) I σ Xd
def ldC (o : WC) (σ : L2.St) : List V → Hp → VK → Prop := fun xs H Q => ∃ S F n I μ ds Qd Xd, n + k ≤ LIM ∧ Wd c S F n I μ H ∧ Reps c S I ds xs ∧ o ds μ Qd Xd ∧ QVR c S F (n + k) I Qd Q ∧ XV c W S F (n + k) I σ Xd
def ldSl (o : D → Option Int → Option Int → Mu → QR → QD → Prop) (σ : L2.St) : V → Option Int → Option Int → Hp → VK → Prop := fun x lo hi H Q => ∃ S F n I μ d Qd Xd, n + k ≤ LIM ∧ Wd c S F n I μ H ∧ Rep c S I d x ∧ o d lo hi μ Qd Xd ∧ QVR c S F (n + k) I Qd Q ∧ XV c W S F (n + k) I σ Xd
end
/-! ### judgements -/
section
variable (X : Cx) (c : Ctx) (W : WX) (k : Nat)
abbrev GE (ex : Expr) (w : WE) : Prop := PE X ex (ldE c W k w)
abbrev GT (ex : Expr) (w : WT) : Prop := PT X ex (ldT c W k w)
abbrev GW (ex : Expr) (w : WT) : Prop := PW X ex (ldT c W k w)
abbrev GA (es : List Expr) (w : WA) : Prop := PA X es (ldA c W k w)
abbrev GO (ex : Option Expr) (w : WO) : Prop := PO X ex (ldO c W k w)
/-- an operation that keeps a wish -/
def Op2 (f : Value → Value → Sem Value) (o : WOp) : Prop := ∀ (pins : List (Addr × Obj)) (s : Shared) (σ : L2.St) (H : Hp) (x y : V) (v u : Value) (Q : VK), Inv X pins σ H s → RelV x v → RelV y u → ld2 c W k o σ x y H Q → wpAny (model X.prog X.w) X.A (f v u) (EP X pins σ Q) X.xe s
def Op1 (f : Value → Sem Value) (o : WU) : Prop := ∀ (pins : List (Addr × Obj)) (s : Shared) (σ : L2.St) (H : Hp) (x : V) (v : Value) (Q : VK), Inv X pins σ H s → RelV x v → ld1 c W k o σ x H Q → wpAny (model X.prog X.w) X.A (f v) (EP X pins σ Q) X.xe s
end
theorem _root_.L2.PE.imp {X : Cx} {ex : Expr} {t t' : TE} (h : PE X ex t) (i : ∀ σ H Q, t' σ H Q → t σ H Q) : PE X ex t' := ⟨fun pins s σ H Q J z => h.run pins s σ H Q J (i σ H Q z)⟩
theorem _root_.L2.PT.imp {X : Cx} {ex : Expr} {t t' : TT} (h : PT X ex t) (i : ∀ σ H Q, t' σ H Q → t σ H Q) : PT X ex t' := ⟨fun pins s σ H Q J z => h.run pins s σ H Q J (i σ H Q z)⟩
theorem _root_.L2.PW.imp {X : Cx} {ex : Expr} {t t' : TT} (h : PW X ex t) (i : ∀ σ H Q, t' σ H Q → t σ H Q) : PW X ex t' := ⟨fun wh pins s σ H Q J z => h.run wh pins s σ H Q J (i σ H Q z)⟩
theorem _root_.L2.PA.imp {X : Cx} {es : List Expr} {t t' : TA} (h : PA X es t) (i : ∀ σ H Q, t' σ H Q → t σ H Q) : PA X es t' := ⟨fun pos pins s σ H Q J z => h.run pos pins s σ H Q J (i σ H Q z)⟩
section
variable {X : Cx} {c : Ctx} {W : WX} {k ka kb kc ko : Nat} {a b d : Expr} {wa wb : WE} {o : WOp} {m : Bool} {pos : Pos} {es : List Expr} {wr : WA} {wt wu : WT}
theorem op2_of {f : Value → Value → Sem Value} {r : R2} (h : OpR X f r) (i : ∀ σ x y H Q, ld2 c W k o σ x y H Q → r x y H Q) : Op2 X c W k f o := fun pins s σ H x y v u Q J rx ry z => h pins s σ H x y v u Q J rx ry (i σ x y H Q z)
/-- two expressions in a row, as wishes -/
theorem ld_two {o : WOp} {σ : L2.St} {H : Hp} {Q : VK} (h : ldE c W (ka + (kb + ko)) (wOp m o wa wb) σ H Q) : ldE c W ka wa σ H fun x H1 => ldE c W kb wb σ H1 fun y H2 => ld2 c W ko o σ x y H2 Q := by
  obtain ⟨S, F, n, I, μ, e, Qd, Xd, hl, he, hw, h, q, x⟩ := h
  refine ⟨S, F, n, I, μ, e, _, Xd, by omega, he, hw, h, fun da μ1 va I1 H1 pa s1 w1 ra => ?_, x.mono (by omega) (Same.refl I)⟩
  refine ⟨S, F, n + ka, I1, μ1, e, _, Xd, by omega, he.mono s1, w1, pa, fun db μ2 vb I2 H2 pb s2 w2 rb => ?_, x.mono (by omega) s1⟩
  exact ⟨S, F, n + ka + kb, I2, μ2, da, db, _, Xd, by omega, w2, ra.mono s2, rb, pb, (q.mono (by omega) (s1.trans s2)).sett, x.mono (by omega) (s1.trans s2)⟩
theorem g_op {op : Operator} (ho : Op2 X c W ko (binaryOp op) o) (ha : GE X c W ka a wa) (hb : GE X c W kb b wb) : GE X c W (ka + (kb + ko)) (.BinOp a op b pos) (wOp m o wa wb) :=
  ⟨fun pins s σ H Q J h => wpAny_BinOp (binT ha hb J (ld_two h) fun v u s2 x y H2 I2 rx ry q => ho pins s2 σ H2 x y v u Q I2 rx ry q)⟩
theorem ld_un {o : WU} {σ : L2.St} {H : Hp} {Q : VK} (h : ldE c W (ka + ko) (wUn m o wa) σ H Q) : ldE c W ka wa σ H fun x H1 => ld1 c W ko o σ x H1 Q := by
  obtain ⟨S, F, n, I, μ, e, Qd, Xd, hl, he, hw, h, q, x⟩ := h
  refine ⟨S, F, n, I, μ, e, _, Xd, by omega, he, hw, h, fun da μ1 va I1 H1 pa s1 w1 ra => ?_, x.mono (by omega) (Same.refl I)⟩
  exact ⟨S, F, n + ka, I1, μ1, da, _, Xd, by omega, w1, ra, pa, (q.mono (by omega) s1).sett, x.mono (by omega) s1⟩
theorem g_un {op : UnaryOp} {o : WU} (ho : Op1 X c W ko (unaryOp op) o) (ha : GE X c W ka a wa) : GE X c W (ka + ko) (.UnaryOp op a pos) (wUn m o wa) :=
  ⟨fun pins s σ H Q J h => UnaryOp_ (thn (ha.run pins s σ H _ J (ld_un h)) fun v s1 ⟨x, H1, I1, r1, q1⟩ => ho pins s1 σ H1 x v Q I1 r1 q1)⟩
theorem g_cmp {op : CmpOp} (ho : Op2 X c W ko (compareOp op) o) (ha : GE X c W ka a wa) (hb : GE X c W kb b wb) (hm : behindInMarks op b = false) : GE X c W (ka + (kb + ko)) (.Compare a [op] [b] pos) (wOp m o wa wb) :=
  ⟨fun pins s σ H Q J h => wpAny_Compare1 (binT ha hb J (ld_two h) fun v u s2 x y H2 I2 rx ry q => ho pins s2 σ H2 x y v u Q I2 rx ry q) hm⟩
/-- a value as a test -/
theorem ld_tst {σ : L2.St} {H : Hp} {Q : Bool → Hp → Prop} (h : ldT c W k (wTst wa) σ H Q) : ldE c W k wa σ H fun x H' => ∃ k, x = .bl k ∧ Q k H' := by
  obtain ⟨S, F, n, I, μ, e, Qd, Xd, hl, he, hw, h, q, x⟩ := h
  refine ⟨S, F, n, I, μ, e, _, Xd, hl, he, hw, h, fun da μ1 va I1 H1 pa s1 w1 ra => ?_, x⟩
  cases ra <;> first | exact False.elim pa | exact ⟨_, rfl, q _ μ1 I1 H1 pa s1 w1⟩
theorem g_tcmp {op : CmpOp} (ho : Op2 X c W ko (compareOp op) o) (ha : GE X c W ka a wa) (hb : GE X c W kb b wb) (hm : behindInMarks op b = false) : GT X c W (ka + (kb + ko)) (.Compare a [op] [b] pos) (wTst (wOp false o wa wb)) := by
  refine ⟨fun pins s σ H Q J h => ?_⟩
  refine wpAny_isTrue_Compare1 (thn (ha.run pins s σ H _ J (ld_two (ld_tst h))) fun v s1 ⟨x, H1, I1, r1, q1⟩ => thn (hb.run pins s1 σ H1 _ I1 q1) fun u s2 ⟨y, H2, I2, r2, q2⟩ =>
    thn (ho pins s2 σ H2 x y v u _ I2 r1 r2 q2) fun cc s3 ⟨z, H3, I3, r3, k, e, q3⟩ => ?_) hm
  subst e
  cases r3
  exact wpAny_truthy_bool ⟨H3, I3, q3⟩
theorem g_tval (ha : GE X c W k a wa) (he : ∀ whole, isTrue a X.env whole = (do let v ← whole; standAt a.pos; holding [v] (truthy v)) := by intro _; rfl) : GT X c W k a (wTst wa) := (pt_val ha he).imp fun σ H Q h => ld_tst h
theorem g_tnot (ha : GT X c W k a wt) : GT X c W k (.UnaryOp .Not a pos) (wNotT wt) := (pt_not ha).imp fun σ H Q h => by
  obtain ⟨S, F, n, I, μ, e, Qd, Xd, hl, he, hw, h, q, x⟩ := h
  exact ⟨S, F, n, I, μ, e, _, Xd, hl, he, hw, h, fun b μ1 I1 H1 pb s1 w1 => q _ μ1 I1 H1 pb s1 w1, x⟩
theorem g_wand1 (ha : GT X c W k a wt) : GW X c W k (.BoolOp .And [a] pos) wt := pw_and1 ha
theorem g_wor1 (ha : GT X c W k a wt) : GW X c W k (.BoolOp .Or [a] pos) wt := pw_or1 ha
theorem ite_b {b : Bool} {A B A' B' : Prop} (h : if b = true then A else B) (h1 : b = true → A → A') (h2 : b = false → B → B') : if b = true then A' else B' := by
  cases b with
  | true => exact h1 rfl h
  | false => exact h2 rfl h
theorem g_wand {rest : List Expr} (ha : GT X c W ka a wt) (hb : GW X c W kb (.BoolOp .And (b :: rest) pos) wu) : GW X c W (ka + kb) (.BoolOp .And (a :: b :: rest) pos) (wAndT wt wu) := (pw_and ha hb).imp fun σ H Q h => by
  obtain ⟨S, F, n, I, μ, e, Qd, Xd, hl, he, hw, h, q, x⟩ := h
  refine ⟨S, F, n, I, μ, e, _, Xd, by omega, he, hw, h, fun b μ1 I1 H1 pb s1 w1 => ?_, x.mono (by omega) (Same.refl I)⟩
  exact ite_b pb (fun _ h => ⟨S, F, n + ka, I1, μ1, e, Qd, Xd, by omega, he.mono s1, w1, h, q.mono (by omega) s1, x.mono (by omega) s1⟩) fun _ h => q _ μ1 I1 H1 h s1 (w1.up (by omega))
theorem g_wor {rest : List Expr} (ha : GT X c W ka a wt) (hb : GW X c W kb (.BoolOp .Or (b :: rest) pos) wu) : GW X c W (ka + kb) (.BoolOp .Or (a :: b :: rest) pos) (wOrT wt wu) := (pw_or ha hb).imp fun σ H Q h => by
  obtain ⟨S, F, n, I, μ, e, Qd, Xd, hl, he, hw, h, q, x⟩ := h
  refine ⟨S, F, n, I, μ, e, _, Xd, by omega, he, hw, h, fun b μ1 I1 H1 pb s1 w1 => ?_, x.mono (by omega) (Same.refl I)⟩
  exact ite_b pb (fun _ h => q _ μ1 I1 H1 h s1 (w1.up (by omega))) fun _ h => ⟨S, F, n + ka, I1, μ1, e, Qd, Xd, by omega, he.mono s1, w1, h, q.mono (by omega) s1, x.mono (by omega) s1⟩
theorem g_pt (h : GW X c W k a wt) : GT X c W k a wt := h.pt
/-! values by and, or, not, if -/
theorem g_one {op} (h : GE X c W k a wa) : GE X c W k (.BoolOp op [a] pos) wa := pe_one h
theorem g_and {rest : List Expr} (ha : GE X c W ka a wa) (hb : GE X c W kb (.BoolOp .And (b :: rest) pos) wb) : GE X c W (ka + kb) (.BoolOp .And (a :: b :: rest) pos) (wAnd wa wb) := L2.PE.imp (pe_and ha hb) fun σ H Q h => by
  obtain ⟨S, F, n, I, μ, e, Qd, Xd, hl, he, hw, h, q, x⟩ := h
  refine ⟨S, F, n, I, μ, e, _, Xd, by omega, he, hw, h, fun da μ1 va I1 H1 pa s1 w1 ra => ?_, x.mono (by omega) (Same.refl I)⟩
  cases ra <;> first | exact False.elim pa | refine ⟨_, rfl, ite_b pa (fun _ h => ⟨S, F, n + ka, I1, μ1, e, Qd, Xd, by omega, he.mono s1, w1, h, q.mono (by omega) s1, x.mono (by omega) s1⟩) fun _ h => q _ μ1 _ I1 H1 h s1 (w1.up (by omega)) .bool⟩
theorem g_or {rest : List Expr} (ha : GE X c W ka a wa) (hb : GE X c W kb (.BoolOp .Or (b :: rest) pos) wb) : GE X c W (ka + kb) (.BoolOp .Or (a :: b :: rest) pos) (wOr wa wb) := L2.PE.imp (pe_or ha hb) fun σ H Q h => by
  obtain ⟨S, F, n, I, μ, e, Qd, Xd, hl, he, hw, h, q, x⟩ := h
  refine ⟨S, F, n, I, μ, e, _, Xd, by omega, he, hw, h, fun da μ1 va I1 H1 pa s1 w1 ra => ?_, x.mono (by omega) (Same.refl I)⟩
  cases ra <;> first | exact False.elim pa | refine ⟨_, rfl, ite_b pa (fun _ h => q _ μ1 _ I1 H1 h s1 (w1.up (by omega)) .bool) fun _ h => ⟨S, F, n + ka, I1, μ1, e, Qd, Xd, by omega, he.mono s1, w1, h, q.mono (by omega) s1, x.mono (by omega) s1⟩⟩
theorem g_not (ha : GE X c W k a wa) : GE X c W k (.UnaryOp .Not a pos) (wNot wa) := L2.PE.imp (pe_not ha) fun σ H Q h => by
  obtain ⟨S, F, n, I, μ, e, Qd, Xd, hl, he, hw, h, q, x⟩ := h
  refine ⟨S, F, n, I, μ, e, _, Xd, by omega, he, hw, h, fun da μ1 va I1 H1 pa s1 w1 ra => ?_, x⟩
  cases ra <;> first | exact False.elim pa | exact ⟨_, rfl, q _ μ1 _ I1 H1 pa s1 w1 .bool⟩
theorem g_if (hc : GT X c W kc d wt) (ha : GE X c W ka a wa) (hb : GE X c W kb b wb) : GE X c W (kc + (ka + kb)) (.IfExp d a b pos) (wIf wt wa wb) := L2.PE.imp (pe_ifExp hc ha hb) fun σ H Q h => by
  obtain ⟨S, F, n, I, μ, e, Qd, Xd, hl, he, hw, h, q, x⟩ := h
  refine ⟨S, F, n, I, μ, e, _, Xd, by omega, he, hw, h, fun b μ1 I1 H1 pb s1 w1 => ?_, x.mono (by omega) (Same.refl I)⟩
  exact ite_b pb (fun _ h => ⟨S, F, n + kc, I1, μ1, e, Qd, Xd, by omega, he.mono s1, w1, h, q.mono (by omega) s1, x.mono (by omega) s1⟩) fun _ h => ⟨S, F, n + kc, I1, μ1, e, Qd, Xd, by omega, he.mono s1, w1, h, q.mono (by omega) s1, x.mono (by omega) s1⟩
/-! names, constants -/
theorem g_var {i : Nat} {x : Str} (h : PE X (.Name x pos) (tVar i)) : GE X c W 0 (.Name x pos) (wV i) := h.imp fun σ H Q h => by
  obtain ⟨S, F, n, I, μ, e, Qd, Xd, hl, he, hw, h, q, x⟩ := h
  unfold wV at h
  cases hg : gt e i with
  | none =>
    rw [hg] at h
    exact h.elim
  | some d =>
    rw [hg] at h
    obtain ⟨v, h1, h2⟩ := he.get hg
    exact ⟨v, h1, q d μ v I H h (Same.refl I) hw h2⟩
theorem g_con {ex : Expr} {v : V} {d : D} (h : PE X ex (tC v)) (r : ∀ S I, Rep c S I d v) : GE X c W 0 ex (wK d) := h.imp fun σ H Q h => by
  obtain ⟨S, F, n, I, μ, e, Qd, Xd, hl, he, hw, h, q, x⟩ := h
  exact q d μ v I H h (Same.refl I) hw (r S I)
theorem g_int {i j p} : GE X c W 0 (.Constant (.int i) j p) (wK (.int i)) := g_con pe_int fun _ _ => .int
theorem g_bl {i j p} : GE X c W 0 (.Constant (.bool i) j p) (wK (.bool i)) := g_con pe_bl fun _ _ => .bool
theorem g_str {i j p} : GE X c W 0 (.Constant (.str i) j p) (wK (.str i)) := g_con pe_str fun _ _ => .str
theorem g_non {j p} : GE X c W 0 (.Constant .none j p) (wK .none) := g_con pe_non fun _ _ => .none
/-! arguments -/
theorem ga_nil : GA X c W 0 [] waNil := L2.PA.imp pa_nil fun σ H Q h => by
  obtain ⟨S, F, n, I, μ, e, Qd, Xd, hl, he, hw, h, q, x⟩ := h
  exact q [] μ [] I H h (Same.refl I) hw .nil
theorem ld_cons {σ : L2.St} {H : Hp} {Q : List V → Hp → Prop} (h : ldA c W (ka + kb) (waCons wa wr) σ H Q) : tCons (ldE c W ka wa) (ldA c W kb wr) σ H Q := by
  obtain ⟨S, F, n, I, μ, e, Qd, Xd, hl, he, hw, h, q, x⟩ := h
  refine ⟨S, F, n, I, μ, e, _, Xd, by omega, he, hw, h, fun da μ1 va I1 H1 pa s1 w1 ra => ?_, x.mono (by omega) (Same.refl I)⟩
  refine ⟨S, F, n + ka, I1, μ1, e, _, Xd, by omega, he.mono s1, w1, pa, fun ds μ2 vs I2 H2 pb s2 w2 rb => ?_, x.mono (by omega) s1⟩
  exact q _ μ2 _ I2 H2 pb (s1.trans s2) (w2.up (by omega)) (.cons (ra.mono s2) rb)
theorem ga_cons (ha : GE X c W ka a wa) (hr : GA X c W kb es wr) (hs : starEach (a :: es) X.env = (false, eval a X.env) :: starEach es X.env := by rfl) : GA X c W (ka + kb) (a :: es) (waCons wa wr) := L2.PA.imp (pa_cons ha hr hs) fun σ H Q h => ld_cons h
/-! displays -/
theorem g_tup {x1} (h : GA X c W k es wr) : GE X c W k (.Tuple es x1 pos) (wTup wr) := L2.PE.imp (pe_tup h) fun σ H Q h => by
  obtain ⟨S, F, n, I, μ, e, Qd, Xd, hl, he, hw, h, q, x⟩ := h
  refine ⟨S, F, n, I, μ, e, _, Xd, hl, he, hw, h, fun ds μ1 vs I1 H1 ⟨hz, pa⟩ s1 w1 ra => ?_, x⟩
  refine ⟨by rw [← ra.length]; exact hz, fun p hp => ?_⟩
  have sm : Same I1 (upd I1 p (.tup vs)) := same_new (w1.fresh hp).1
  exact q _ μ1 _ _ _ pa (s1.trans sm) (w1.new hp) (.tup (.inl upd_same) (ra.mono sm))
theorem g_lst (h : GA X c W k es wr) : GE X c W k (.List es pos) (wLst m wr) := L2.PE.imp (pe_lst h) fun σ H Q h => by
  obtain ⟨S, F, n, I, μ, e, Qd, Xd, hl, he, hw, h, q, x⟩ := h
  refine ⟨S, F, n, I, μ, e, _, Xd, hl, he, hw, h, fun ds μ1 vs I1 H1 ⟨hz, pa⟩ s1 w1 ra => ?_, x⟩
  refine ⟨by rw [← ra.length]; exact hz, fun p hp => ?_⟩
  obtain ⟨w2, r2⟩ := RsR.new w1 hp (.list ra)
  exact (q.sett (m := m)) _ μ1 _ _ _ pa s1 w2 r2
/-! built-ins called by their names -/
theorem ld_cb {o : WC} {σ : L2.St} {H : Hp} {Q : VK} (h : ldE c W (ka + ko) (wCb m o wr) σ H Q) : ldA c W ka wr σ H fun xs H1 => ldC c W ko o σ xs H1 Q := by
  obtain ⟨S, F, n, I, μ, e, Qd, Xd, hl, he, hw, h, q, x⟩ := h
  refine ⟨S, F, n, I, μ, e, _, Xd, by omega, he, hw, h, fun ds μ1 vs I1 H1 pa s1 w1 ra => ?_, x.mono (by omega) (Same.refl I)⟩
  exact ⟨S, F, n + ka, I1, μ1, ds, _, Xd, by omega, w1, ra, pa, (q.mono (by omega) s1).sett, x.mono (by omega) s1⟩
/-- a built-in that keeps a wish -/
def CbW (X : Cx) (c : Ctx) (f : Value) (o : WC) : Prop := ∃ r, CallR X f r ∧ ∀ W σ xs H Q, ldC c W 0 o σ xs H Q → r xs H Q
theorem g_cb {x : Str} {id : String} {p : Pos} {o : WC} (hc : CbW X c (.builtin id) o) (hg : Gl X x) (hm : X.mg x = none) (hv : bootBuiltins x = some (.builtin id)) (ha : GA X c W k (a :: es) wr) (hn : x ≠ "__name__" := by decide) (hdb : (x == ("__debug__" : Str)) = false := by decide)
    (he : starEach (a :: es) X.env = (false, eval a X.env) :: starEach es X.env := by rfl) (hpl : (backTo pos (starEach es X.env)).any (·.1) = false := by rfl) : GE X c W (k + 0) (.Call (.Name x p) (a :: es) [] pos) (wCb m o wr) := by
  obtain ⟨r, h1, h2⟩ := hc
  refine L2.PE.imp (pe_callB h1 hg hm hv ha hn hdb he hpl) fun σ H Q h => ?_
  have h3 := ld_cb h
  obtain ⟨S, F, n, I, μ, e, Qd, Xd, hl, he, hw, h, q, x⟩ := h3
  exact ⟨S, F, n, I, μ, e, Qd, Xd, hl, he, hw, h, fun ds μ' vs I' H' p s w r => h2 W σ vs H' Q (q ds μ' vs I' H' p s w r), x⟩
theorem g_cty {x : Str} {T : String} {p : Pos} {o : WC} (hc : CbW X c (.type T) o) (hg : Gl X x) (hm : X.mg x = none) (hv : bootBuiltins x = some (.type T)) (ha : GA X c W k (a :: es) wr) (hn : x ≠ "__name__" := by decide) (hdb : (x == ("__debug__" : Str)) = false := by decide)
    (he : starEach (a :: es) X.env = (false, eval a X.env) :: starEach es X.env := by rfl) (hpl : (backTo pos (starEach es X.env)).any (·.1) = false := by rfl) : GE X c W (k + 0) (.Call (.Name x p) (a :: es) [] pos) (wCb m o wr) := by
  obtain ⟨r, h1, h2⟩ := hc
  refine L2.PE.imp (pe_callTy h1 hg hm hv ha hn hdb he hpl) fun σ H Q h => ?_
  have h3 := ld_cb h
  obtain ⟨S, F, n, I, μ, e, Qd, Xd, hl, he, hw, h, q, x⟩ := h3
  exact ⟨S, F, n, I, μ, e, Qd, Xd, hl, he, hw, h, fun ds μ' vs I' H' p s w r => h2 W σ vs H' Q (q ds μ' vs I' H' p s w r), x⟩
/-! slices -/
theorem go_none : GO X c W 0 none woNone := ⟨fun pins s σ H Q J h => po_none.run pins s σ H Q J (by
  obtain ⟨S, F, n, I, μ, e, Qd, Xd, hl, he, hw, h, q, x⟩ := h
  exact q _ μ I H h (Same.refl I) hw)⟩
theorem go_some (ha : GE X c W k a wa) : GO X c W k (some a) (woSome wa) := ⟨fun pins s σ H Q J h => (po_some ha).run pins s σ H Q J (by
  obtain ⟨S, F, n, I, μ, e, Qd, Xd, hl, he, hw, h, q, x⟩ := h
  refine ⟨S, F, n, I, μ, e, _, Xd, hl, he, hw, h, fun da μ1 va I1 H1 pa s1 w1 ra => ?_, x⟩
  cases ra <;> first | exact False.elim pa | exact ⟨_, rfl, q _ μ1 I1 H1 pa s1 w1⟩)⟩
def SlW (X : Cx) (c : Ctx) (o : D → Option Int → Option Int → Mu → QR → QD → Prop) : Prop := ∃ r, SlR X r ∧ ∀ W σ x lo hi H Q, ldSl c W 0 o σ x lo hi H Q → r x lo hi H Q
theorem g_sl {lo hi : Option Expr} {wl wh : WO} {p2 : Pos} {o : D → Option Int → Option Int → Mu → QR → QD → Prop} (ho : SlW X c o) (ha : GE X c W k a wa) (hl : GO X c W ka lo wl) (hh : GO X c W kb hi wh) : GE X c W (k + (ka + kb)) (.Subscript a (.Slice lo hi none p2) pos) (wSl m o wa wl wh) := by
  obtain ⟨r, h1, h2⟩ := ho
  refine L2.PE.imp (pe_slice h1 ha hl hh) fun σ H Q h => ?_
  obtain ⟨S, F, n, I, μ, e, Qd, Xd, hl, he, hw, h, q, x⟩ := h
  refine ⟨S, F, n, I, μ, e, _, Xd, by omega, he, hw, h, fun da μ1 va I1 H1 pa s1 w1 ra => ?_, x.mono (by omega) (Same.refl I)⟩
  refine ⟨S, F, n + k, I1, μ1, e, _, Xd, by omega, he.mono s1, w1, pa, fun lo μ2 I2 H2 pb s2 w2 => ?_, x.mono (by omega) s1⟩
  refine ⟨S, F, n + k + ka, I2, μ2, e, _, Xd, by omega, he.mono (s1.trans s2), w2, pb, fun hi μ3 I3 H3 pc s3 w3 => ?_, x.mono (by omega) (s1.trans s2)⟩
  exact h2 W σ _ _ _ _ _ ⟨S, F, n + k + ka + kb, I3, μ3, da, _, Xd, by omega, w3, ra.mono (s2.trans s3), pc, (q.mono (by omega) ((s1.trans s2).trans s3)).sett, x.mono (by omega) ((s1.trans s2).trans s3)⟩
end
end DL

set_option Elab.async false
set_option linter.all false
set_option maxRecDepth 100000
set_option maxHeartbeats 4000000
/-! A2: operations on data, and that the layer's rules keep them. -/
namespace DL
open PySem PyProof.Rows L2
abbrev iL (ns : List Int) : List D := ns.map D.int
def ndL : Option Nd → Option (List D)
  | some (.list ds) => some ds
  | _ => Option.none
/-- a list's items -/
def seqL (μ : Mu) : D → Option (List D)
  | .list ds => some ds
  | .cell p => ndL (μ p)
  | _ => Option.none
/-- a list's or a tuple's items -/
def sqD (μ : Mu) : D → Option (List D)
  | .tup ds => some ds
  | .script ns => some (iL ns)
  | .list ds => some ds
  | .cell p => ndL (μ p)
  | _ => Option.none
section
variable {c : Ctx} {S : Option SA} {F : Hp} {n : Nat} {I H : Hp} {μ : Mu} {d : D} {v : V} {ds : List D}
theorem ndL_some {x : Option Nd} (h : ndL x = some ds) : x = some (.list ds) := by
  unfold ndL at h
  split at h
  · cases h
    rfl
  · cases h
theorem Wd.cellL (w : Wd c S F n I μ H) {p : Addr} (h : ndL (μ p) = some ds) : ∃ xs, H p = some (.lst xs) ∧ Reps c S I ds xs := by
  obtain ⟨_, o, r, h2⟩ := w.m p _ (ndL_some h)
  cases r with
  | list r => exact ⟨_, h2, r⟩
theorem seqL_rep (w : Wd c S F n I μ H) (r : Rep c S I d v) (h : seqL μ d = some ds) : ∃ l xs, v = .ref l ∧ H l = some (.lst xs) ∧ Reps c S I ds xs := by
  cases r with
  | list g r =>
    cases h
    exact ⟨_, _, rfl, w.lst g, r⟩
  | cell =>
    obtain ⟨xs, h1, h2⟩ := w.cellL h
    exact ⟨_, xs, rfl, h1, h2⟩
  | _ => cases h
theorem sqD_rep (w : Wd c S F n I μ H) (r : Rep c S I d v) (h : sqD μ d = some ds) : ∃ l xs, v = .ref l ∧ (SqL c.K H l xs ∨ SqT c.K H l xs) ∧ Reps c S I ds xs := by
  cases r with
  | list g r =>
    cases h
    exact ⟨_, _, rfl, .inl (SqL.of (w.lst g)), r⟩
  | tup g r =>
    cases h
    exact ⟨_, _, rfl, .inr (w.tupH g), r⟩
  | script g =>
    cases h
    exact ⟨_, _, rfl, .inl (w.seqH g), Reps.of_ints⟩
  | cell =>
    obtain ⟨xs, h1, h2⟩ := w.cellL h
    exact ⟨_, xs, rfl, .inl (SqL.of h1), h2⟩
  | _ => cases h
end
/-! ### + - * // % ** -/
def oAdd : WOp := fun x y μ Q _ => match x with
  | .int i => (match y with
    | .int j => Q (.v (.int (i + j))) μ
    | _ => False)
  | .str a => (match y with
    | .str b => a.length + b.length ≤ sizeLine ∧ Q (.v (.str (a ++ b))) μ
    | _ => False)
  | .tup a => (match y with
    | .tup b => a.length + b.length ≤ sizeLine ∧ Q (.v (.tup (a ++ b))) μ
    | _ => False)
  | x => (match seqL μ x, seqL μ y with
    | some a, some b => a.length + b.length ≤ sizeLine ∧ Q (.n (.list (a ++ b))) μ
    | _, _ => False)
def oInt2 (C : Int → Int → Prop) (f : Int → Int → D) : WOp := fun x y μ Q _ => match x with
  | .int i => (match y with
    | .int j => C i j ∧ Q (.v (f i j)) μ
    | _ => False)
  | _ => False
def oSub : WOp := oInt2 (fun _ _ => True) fun i j => .int (i - j)
def oFdiv : WOp := oInt2 CDivW fun i j => .int (i / j)
def oMod : WOp := oInt2 (fun _ j => 0 < j) fun i j => .int (i % j)
def CPowW (i j : Int) : Prop := 0 ≤ j ∧ (Builtin.Int.intBits i : Int) * j ≤ 2 ^ 27
def oPow : WOp := oInt2 CPowW fun i j => .int (i ^ j.toNat)
def CMulU (i j : Int) : Prop := CMulX i j ∨ CMul i j
def oMul : WOp := fun x y μ Q _ => match x with
  | .int i => (match y with
    | .int j => CMulU i j ∧ Q (.v (.int (i * j))) μ
    | _ => False)
  | x => (match seqL μ x, y with
    | some a, .int k => -(2 ^ 63) ≤ k ∧ k < 2 ^ 63 ∧ a.length * k.toNat ≤ sizeLine ∧ Q (.n (.list (List.replicate k.toNat a).flatten)) μ
    | _, _ => False)
def oLt : WOp := oInt2 (fun _ _ => True) fun i j => .bool (decide (i < j))
def oLe : WOp := oInt2 (fun _ _ => True) fun i j => .bool (decide (i ≤ j))
def oGt : WOp := oInt2 (fun _ _ => True) fun i j => .bool (decide (j < i))
def oGe : WOp := oInt2 (fun _ _ => True) fun i j => .bool (decide (j ≤ i))
def oNeg : WU := fun x μ Q _ => match x with
  | .int i => Q (.v (.int (-i))) μ
  | _ => False
section
variable {X : Cx} {c : Ctx} {W : WX}
theorem op_pow27 : OpR X (binaryOp .Pow) (rI CPowW fun i j => .int (i ^ j.toNat)) := opI fun _ _ _ _ _ _ _ hc q => pow_int hc.1 hc.2 q
/-- two ints -/
theorem ld_int2 {C : Int → Int → Prop} {f : Int → Int → D} {g : Int → Int → V} (hg : ∀ S I i j, Rep c S I (f i j) (g i j)) {σ : L2.St} {x y : V} {H : Hp} {Q : VK} (h : ld2 c W 0 (oInt2 C f) σ x y H Q) : rI C g x y H Q := by
  obtain ⟨S, F, n, I, μ, dx, dy, Qd, Xd, hl, w, rx, ry, h, q, _⟩ := h
  cases rx <;> try exact h.elim
  cases ry <;> try exact h.elim
  exact ⟨_, _, rfl, rfl, h.1, q _ μ _ I H h.2 (Same.refl I) w (hg S I _ _)⟩
theorem rI0_of {g : Int → Int → V} {x y : V} {H : Hp} {Q : VK} (h : rI (fun _ _ => True) g x y H Q) : rI0 g x y H Q := by
  obtain ⟨i, j, h1, h2, _, h3⟩ := h
  exact ⟨i, j, h1, h2, h3⟩
theorem w_sub : Op2 X c W 0 (binaryOp .Sub) oSub := op2_of op_sub fun σ x y H Q h => rI0_of (ld_int2 (fun _ _ _ _ => .int) h)
theorem w_pow : Op2 X c W 0 (binaryOp .Pow) oPow := op2_of op_pow27 fun σ x y H Q h => ld_int2 (fun _ _ _ _ => .int) h
theorem w_lt : Op2 X c W 0 (compareOp .Lt) oLt := op2_of op_lt fun σ x y H Q h => rI0_of (ld_int2 (fun _ _ _ _ => .bool) h)
theorem w_gt : Op2 X c W 0 (compareOp .Gt) oGt := op2_of op_gt fun σ x y H Q h => rI0_of (ld_int2 (fun _ _ _ _ => .bool) h)
theorem w_ge : Op2 X c W 0 (compareOp .GtE) oGe := op2_of op_ge fun σ x y H Q h => rI0_of (ld_int2 (fun _ _ _ _ => .bool) h)
theorem w_neg : Op1 X c W 0 (unaryOp .USub) oNeg := fun pins s σ H x v Q J rx h => un_neg pins s σ H x v Q J rx (by
  obtain ⟨S, F, n, I, μ, dx, Qd, Xd, hl, w, rx, h, q, _⟩ := h
  cases rx <;> try exact h.elim
  exact ⟨_, rfl, q _ μ _ I H h (Same.refl I) w .int⟩)
theorem w_add (hK : X.K = c.K := by rfl) : Op2 X c W 0 (binaryOp .Add) oAdd := by
  obtain ⟨K, cl, tb, ns, es0⟩ := c
  cases hK
  refine op2_of (op_add.or (op_add_str.or (op_catA.or op_cat))) fun σ x y H Q h => ?_
  obtain ⟨S, F, n, I, μ, dx, dy, Qd, Xd, hl, w, rx, ry, h, q, _⟩ := h
  unfold oAdd at h
  split at h
  · split at h
    · cases rx
      cases ry
      exact .inl ⟨_, _, rfl, rfl, q _ μ _ I H h (Same.refl I) w .int⟩
    · exact h.elim
  · split at h
    · cases rx
      cases ry
      exact .inr (.inl ⟨_, _, rfl, rfl, h.1, q _ μ _ I H h.2 (Same.refl I) w .str⟩)
    · exact h.elim
  · split at h
    · rename_i a _ _ b
      cases rx with
      | @tup pa _ xs g1 r1 =>
        cases ry with
        | @tup pb _ ys g2 r2 =>
          refine .inr (.inr (.inl ⟨_, _, _, _, rfl, rfl, w.tupH g1, w.tupH g2, by rw [← r1.length, ← r2.length]; exact h.1, fun e => ?_, fun e1 e2 => ?_, fun e1 e2 p hp => ?_⟩))
          · subst e
            cases r1
            exact q _ μ _ I H h.2 (Same.refl I) w (.tup g2 r2)
          · subst e2
            cases r2
            have h2 := h.2
            rw [List.append_nil] at h2
            exact q _ μ _ I H h2 (Same.refl I) w (.tup g1 r1)
          · have sm : Same I (upd I p (.tup (xs ++ ys))) := same_new (w.fresh hp).1
            exact q _ μ _ _ _ h.2 sm (w.new hp) (.tup (.inl upd_same) ((r1.append r2).mono sm))
    · exact h.elim
  · split at h
    · rename_i _ _ _ _ _ _ e1 e2
      obtain ⟨l1, xs, rfl, h1, r1⟩ := seqL_rep w rx e1
      obtain ⟨l2, ys, rfl, h2, r2⟩ := seqL_rep w ry e2
      refine .inr (.inr (.inr ⟨_, _, _, _, rfl, rfl, h1, h2, by rw [← r1.length, ← r2.length]; exact h.1, fun p hp => ?_⟩))
      obtain ⟨w2, rr⟩ := RsR.new w hp (NdR.list (r1.append r2))
      exact q _ μ _ _ _ h.2 (Same.refl I) w2 rr
    · exact h.elim
theorem w_mul : Op2 X c W 0 (binaryOp .Mult) oMul := by
  refine op2_of (op_mulX.or (op_mul.or op_rep)) fun σ x y H Q h => ?_
  obtain ⟨S, F, n, I, μ, dx, dy, Qd, Xd, hl, w, rx, ry, h, q, _⟩ := h
  unfold oMul at h
  split at h
  · split at h
    · cases rx
      cases ry
      rcases h.1 with z | z
      · exact .inl ⟨_, _, rfl, rfl, z, q _ μ _ I H h.2 (Same.refl I) w .int⟩
      · exact .inr (.inl ⟨_, _, rfl, rfl, z, q _ μ _ I H h.2 (Same.refl I) w .int⟩)
    · exact h.elim
  · split at h
    · rename_i _ _ _ _ a k e1
      obtain ⟨l1, xs, rfl, h1, r1⟩ := seqL_rep w rx e1
      cases ry
      refine .inr (.inr ⟨_, _, _, rfl, rfl, h1, h.1, h.2.1, by rw [← r1.length]; exact h.2.2.1, fun p hp => ?_⟩)
      obtain ⟨w2, rr⟩ := RsR.new w hp (NdR.list (r1.flat k.toNat))
      exact q _ μ _ _ _ h.2.2.2 (Same.refl I) w2 rr
    · exact h.elim
end
/-! ### items, slices -/
theorem atI_rep {c : Ctx} {S : Option SA} {I : Hp} {ds : List D} {xs : List V} {i : Int} {d : D} (r : Reps c S I ds xs) (h : atI ds i = some d) : ∃ x, atI xs i = some x ∧ Rep c S I d x := by
  unfold atI at h ⊢
  rw [← r.length]
  cases q : ixN ds.length i with
  | none =>
    rw [q] at h
    cases h
  | some j =>
    rw [q] at h
    exact r.get h
def oIx : WOp := fun x y μ Q _ => match x with
  | .str z => (match y with
    | .int i => z.length ≤ sizeLine ∧ (match atI z.cps.toList i with
      | some ch => Q (.v (.str ⟨#[ch]⟩)) μ
      | Option.none => False)
    | _ => False)
  | x => (match sqD μ x, y with
    | some ds, .int i => (match atI ds i with
      | some d => Q (.v d) μ
      | Option.none => False)
    | _, _ => False)
/-- a slice's items -/
def cutD (xs : List D) (lo hi : Option Int) : List D := (xs.drop (HT.sIx xs.length 0 lo)).take (HT.sIx xs.length xs.length hi - HT.sIx xs.length 0 lo)
theorem cut_rep {c : Ctx} {S : Option SA} {I : Hp} {ds : List D} {xs : List V} (r : Reps c S I ds xs) (lo hi : Option Int) : Reps c S I (cutD ds lo hi) (cutV xs lo hi) := by
  unfold cutD cutV
  rw [r.length]
  exact (r.drop _).take _
def oSl : D → Option Int → Option Int → Mu → QR → QD → Prop := fun x lo hi μ Q _ => match x with
  | .str z => z.length ≤ sizeLine ∧ Q (.v (.str (cutS z lo hi))) μ
  | .tup ds => Q (.v (.tup (cutD ds lo hi))) μ
  | x => (match seqL μ x with
    | some ds => Q (.n (.list (cutD ds lo hi))) μ
    | Option.none => False)
section
variable {X : Cx} {c : Ctx} {W : WX} {k ka kb : Nat} {a b : Expr} {wa wb : WE} {m : Bool} {pos : Pos}
theorem ld_ix {σ : L2.St} {x y : V} {H : Hp} {Q : VK} (h : ld2 c W 0 oIx σ x y H Q) : rIx c.K x y H Q := by
  obtain ⟨S, F, n, I, μ, dx, dy, Qd, Xd, hl, w, rx, ry, h, q, _⟩ := h
  unfold oIx at h
  split at h
  · split at h
    · obtain ⟨hz, h⟩ := h
      split at h
      · rename_i ch e
        cases rx
        cases ry
        exact .inr (.inr ⟨_, _, _, rfl, rfl, hz, e, q _ μ _ I H h (Same.refl I) w .str⟩)
      · exact h.elim
    · exact h.elim
  · split at h
    · rename_i _ _ _ _ ds i e1
      split at h
      · rename_i d e2
        obtain ⟨l, xs, rfl, h1, r1⟩ := sqD_rep w rx e1
        cases ry
        obtain ⟨v, h3, h4⟩ := atI_rep r1 e2
        rcases h1 with h1 | h1
        · exact .inl ⟨_, _, _, _, rfl, rfl, h1, h3, q _ μ _ I H h (Same.refl I) w h4⟩
        · exact .inr (.inl ⟨_, _, _, _, rfl, rfl, h1, h3, q _ μ _ I H h (Same.refl I) w h4⟩)
      · exact h.elim
    · exact h.elim
theorem g_ix (ha : GE X c W ka a wa) (hb : GE X c W kb b wb) (hp : PlainIx b := by exact fun _ _ => rfl) (hK : X.K = c.K := by rfl) : GE X c W (ka + (kb + 0)) (.Subscript a b pos) (wOp m oIx wa wb) := by
  obtain ⟨K, cl, tb, ns, es0⟩ := c
  cases hK
  refine L2.PE.imp (pe_ix ix_seq ha hb hp) fun σ H Q h => ?_
  obtain ⟨S, F, n, I, μ, e, Qd, Xd, hl, he, hw, h, q, x⟩ := ld_two h
  refine ⟨S, F, n, I, μ, e, Qd, Xd, hl, he, hw, h, fun d μ1 v I1 H1 p s1 w1 r1 => ?_, x⟩
  obtain ⟨S, F, n, I, μ, e, Qd, Xd, hl, he, hw, h, q, x⟩ := q d μ1 v I1 H1 p s1 w1 r1
  exact ⟨S, F, n, I, μ, e, Qd, Xd, hl, he, hw, h, fun d μ1 v I1 H1 p s1 w1 r1 => ld_ix (q d μ1 v I1 H1 p s1 w1 r1), x⟩
theorem w_sl (hK : X.K = c.K := by rfl) : SlW X c oSl := by
  obtain ⟨K, cl, tb, ns, es0⟩ := c
  cases hK
  refine ⟨_, SlR.or sl_str (SlR.or sl_tupA sl_list), fun W σ x lo hi H Q h => ?_⟩
  obtain ⟨S, F, n, I, μ, d, Qd, Xd, hl, w, r, h, q, _⟩ := h
  unfold oSl at h
  split at h
  · cases r
    exact .inl ⟨_, rfl, h.1, q _ μ _ I H h.2 (Same.refl I) w .str⟩
  · cases r with
    | @tup a _ xs g r =>
      refine .inr (.inl ⟨_, _, rfl, w.tupH g, fun hw => ?_, fun hw p hp => ?_⟩)
      · refine q _ μ _ I H h (Same.refl I) w ?_
        have e1 : cutV xs lo hi = xs := by
          unfold cutV
          rw [hw.1, hw.2, List.drop_zero, Nat.sub_zero, List.take_length]
        have r4 := cut_rep r lo hi
        rw [e1] at r4
        exact .tup g r4
      · have sm : Same I (upd I p (.tup (cutV xs lo hi))) := same_new (w.fresh hp).1
        exact q _ μ _ _ _ h sm (w.new hp) (.tup (.inl upd_same) ((cut_rep r lo hi).mono sm))
  · split at h
    · rename_i ds e1
      obtain ⟨l1, xs, rfl, h1, r1⟩ := seqL_rep w r e1
      refine .inr (.inr ⟨_, _, rfl, SqL.of h1, fun p hp => ?_⟩)
      obtain ⟨w2, rr⟩ := RsR.new w hp (NdR.list (cut_rep r1 lo hi))
      exact q _ μ _ _ _ h (Same.refl I) w2 rr
    · exact h.elim
end
/-! ### built-ins by their names -/
def one (xs : List D) (f : D → Prop) : Prop := match xs with
  | [x] => f x
  | _ => False
def two (xs : List D) (f : D → D → Prop) : Prop := match xs with
  | [x, y] => f x y
  | _ => False
theorem one_cases {xs : List D} {f : D → Prop} (h : one xs f) : ∃ x, xs = [x] ∧ f x := by
  unfold one at h
  split at h
  · exact ⟨_, rfl, h⟩
  · exact h.elim
theorem two_cases {xs : List D} {f : D → D → Prop} (h : two xs f) : ∃ x y, xs = [x, y] ∧ f x y := by
  unfold two at h
  split at h
  · exact ⟨_, _, rfl, h⟩
  · exact h.elim
theorem reps1 {c : Ctx} {S : Option SA} {I : Hp} {x : D} {vs : List V} (r : Reps c S I [x] vs) : ∃ v, vs = [v] ∧ Rep c S I x v := by
  cases r with
  | cons h r =>
    cases r
    exact ⟨_, rfl, h⟩
theorem reps2 {c : Ctx} {S : Option SA} {I : Hp} {x y : D} {vs : List V} (r : Reps c S I [x, y] vs) : ∃ v u, vs = [v, u] ∧ Rep c S I x v ∧ Rep c S I y u := by
  cases r with
  | cons h r =>
    obtain ⟨u, rfl, h2⟩ := reps1 r
    exact ⟨_, u, rfl, h, h2⟩
def cbLen : WC := fun xs μ Q _ => one xs fun x => match x with
  | .str z => z.length ≤ sizeLine ∧ Q (.v (.int (z.length : Int))) μ
  | x => (match sqD μ x with
    | some ds => Q (.v (.int (ds.length : Int))) μ
    | Option.none => False)
def int1 (x : D) (f : Int → Prop) : Prop := match x with
  | .int i => f i
  | _ => False
theorem int1_cases {x : D} {f : Int → Prop} (h : int1 x f) : ∃ i, x = .int i ∧ f i := by
  unfold int1 at h
  split at h
  · exact ⟨_, rfl, h⟩
  · exact h.elim
def cbMin2 : WC := fun xs μ Q _ => two xs fun x y => int1 x fun i => int1 y fun j => Q (.v (.int (if j < i then j else i))) μ
def cbMax2 : WC := fun xs μ Q _ => two xs fun x y => int1 x fun i => int1 y fun j => Q (.v (.int (if j > i then j else i))) μ
def cbAbs : WC := fun xs μ Q _ => one xs fun x => int1 x fun i => Q (.v (.int (if i < 0 then -i else i))) μ
def cbInt : WC := fun xs μ Q _ => one xs fun x => match x with
  | .int i => Q (.v (.int i)) μ
  | .bool b => Q (.v (.int (if b then 1 else 0))) μ
  | _ => False
def cbList : WC := fun xs μ Q _ => one xs fun x => match sqD μ x with
  | some ds => Q (.n (.list ds)) μ
  | Option.none => False
def cbTup : WC := fun xs μ Q _ => one xs fun x => match sqD μ x with
  | some ds => Q (.v (.tup ds)) μ
  | Option.none => False
section
variable {X : Cx} {c : Ctx} {W : WX}
theorem cbw_of {f : Value} {o : WC} {r : List V → Hp → VK → Prop} (h : CallR X f r) (i : ∀ S F n I μ ds vs H Qd Xd Q, Wd c S F n I μ H → Reps c S I ds vs → o ds μ Qd Xd → QVR c S F n I Qd Q → r vs H Q) : CbW X c f o := ⟨r, h, fun W σ xs H Q h => by
  obtain ⟨S, F, n, I, μ, ds, Qd, Xd, hl, w, rs, h, q, _⟩ := h
  exact i S F n I μ ds xs H Qd Xd Q w rs h q⟩
theorem w_len (hK : X.K = c.K := by rfl) : CbW X c (.builtin "len") cbLen := by
  obtain ⟨K, cl, tb, ns, es0⟩ := c
  cases hK
  refine cbw_of call_len fun S F n I μ ds vs H Qd Xd Q w rs h q => ?_
  obtain ⟨x, rfl, g⟩ := one_cases h
  obtain ⟨v, rfl, rv⟩ := reps1 rs
  clear h rs
  revert g; intro h
  split at h
  · cases rv
    exact ⟨_, _, rfl, ⟨h.1, rfl⟩, q _ μ _ I H h.2 (Same.refl I) w .int⟩
  · split at h
    · rename_i ds e
      obtain ⟨l, xs, rfl, h1, r1⟩ := sqD_rep w rv e
      rw [r1.length] at h
      rcases h1 with h1 | h1
      · exact ⟨_, _, rfl, .inl ⟨_, h1, rfl⟩, q _ μ _ I H h (Same.refl I) w .int⟩
      · exact ⟨_, _, rfl, .inr ⟨_, h1, rfl⟩, q _ μ _ I H h (Same.refl I) w .int⟩
    · exact h.elim
theorem w_min2 (hc : X.calm = true := by rfl) : CbW X c (.builtin "min") cbMin2 := cbw_of (call_min2 hc) fun S F n I μ ds vs H Qd Xd Q w rs h q => by
  obtain ⟨x, y, rfl, h⟩ := two_cases h
  obtain ⟨i, rfl, h⟩ := int1_cases h
  obtain ⟨j, rfl, h⟩ := int1_cases h
  obtain ⟨v, u, rfl, rv, ru⟩ := reps2 rs
  cases rv
  cases ru
  exact ⟨i, j, rfl, q _ μ _ I H h (Same.refl I) w .int⟩
theorem w_abs : CbW X c (.builtin "abs") cbAbs := cbw_of call_abs fun S F n I μ ds vs H Qd Xd Q w rs h q => by
  obtain ⟨x, rfl, h⟩ := one_cases h
  obtain ⟨i, rfl, h⟩ := int1_cases h
  obtain ⟨v, rfl, rv⟩ := reps1 rs
  cases rv
  exact ⟨i, rfl, q _ μ _ I H h (Same.refl I) w .int⟩
theorem w_int : CbW X c (.type "int") cbInt := cbw_of call_int1 fun S F n I μ ds vs H Qd Xd Q w rs h q => by
  obtain ⟨x, rfl, h⟩ := one_cases h
  obtain ⟨v, rfl, rv⟩ := reps1 rs
  cases rv <;> try exact h.elim
  · exact .inr ⟨_, rfl, q _ μ _ I H h (Same.refl I) w .int⟩
  · exact .inl ⟨_, rfl, q _ μ _ I H h (Same.refl I) w .int⟩
theorem w_list (hK : X.K = c.K := by rfl) : CbW X c (.type "list") cbList := by
  obtain ⟨K, cl, tb, ns, es0⟩ := c
  cases hK
  refine cbw_of call_list_of fun S F n I μ ds vs H Qd Xd Q w rs h q => ?_
  obtain ⟨x, rfl, g⟩ := one_cases h
  obtain ⟨v, rfl, rv⟩ := reps1 rs
  clear h rs
  revert g; intro h
  split at h
  · rename_i ds e
    obtain ⟨l, xs, rfl, h1, r1⟩ := sqD_rep w rv e
    refine ⟨_, _, rfl, h1, fun p hp => ?_⟩
    obtain ⟨w2, rr⟩ := RsR.new w hp (NdR.list r1)
    exact q _ μ _ _ _ h (Same.refl I) w2 rr
  · exact h.elim
theorem w_tuple (hK : X.K = c.K := by rfl) : CbW X c (.type "tuple") cbTup := by
  obtain ⟨K, cl, tb, ns, es0⟩ := c
  cases hK
  refine cbw_of call_tuple_of fun S F n I μ ds vs H Qd Xd Q w rs h q => ?_
  obtain ⟨x, rfl, g⟩ := one_cases h
  obtain ⟨v, rfl, rv⟩ := reps1 rs
  clear h rs
  revert g; intro h
  split at h
  · rename_i ds e
    have new : ∀ {xs : List V}, Reps ⟨X.K, cl, tb, ns, es0⟩ S I ds xs → ∀ p, H p = Option.none → Q (.ref p) (upd H p (.tup xs)) := fun {xs} r1 p hp => by
      have sm : Same I (upd I p (.tup xs)) := same_new (w.fresh hp).1
      exact q _ μ _ _ _ h sm (w.new hp) (.tup (.inl upd_same) (r1.mono sm))
    cases rv with
    | list g r =>
      cases e
      exact ⟨_, _, rfl, .inl ⟨SqL.of (w.lst g), new r⟩⟩
    | tup g r =>
      cases e
      exact ⟨_, _, rfl, .inr ⟨w.tupH g, q _ μ _ I H h (Same.refl I) w (.tup g r)⟩⟩
    | script g =>
      cases e
      exact ⟨_, _, rfl, .inl ⟨w.seqH g, new Reps.of_ints⟩⟩
    | cell =>
      obtain ⟨xs, h1, h2⟩ := w.cellL e
      exact ⟨_, _, rfl, .inl ⟨SqL.of h1, new h2⟩⟩
    | _ => cases e
  · exact h.elim
end
/-! ### is None -/
def isNone : D → Bool
  | .none => true
  | _ => false
def oIsN : WOp := fun x y μ Q _ => match y with
  | .none => Q (.v (.bool (isNone x))) μ
  | _ => False
def oNotN : WOp := fun x y μ Q _ => match y with
  | .none => Q (.v (.bool (!isNone x))) μ
  | _ => False
section
variable {X : Cx} {c : Ctx} {W : WX}
theorem rep_none {S : Option SA} {I : Hp} {d : D} {v : V} (r : Rep c S I d v) : decide (v = V.non) = isNone d := by
  cases r <;> first | rfl | exact decide_eq_false fun z => nomatch z
theorem w_is : Op2 X c W 0 (compareOp .Is) oIsN := op2_of op_isN fun σ x y H Q h => by
  obtain ⟨S, F, n, I, μ, dx, dy, Qd, Xd, hl, w, rx, ry, h, q, _⟩ := h
  cases ry <;> try exact h.elim
  exact ⟨rfl, by rw [rep_none rx]; exact q _ μ _ I H h (Same.refl I) w .bool⟩
theorem w_isnot : Op2 X c W 0 (compareOp .IsNot) oNotN := op2_of op_notN fun σ x y H Q h => by
  obtain ⟨S, F, n, I, μ, dx, dy, Qd, Xd, hl, w, rx, ry, h, q, _⟩ := h
  cases ry <;> try exact h.elim
  exact ⟨rfl, by rw [rep_none rx]; exact q _ μ _ I H h (Same.refl I) w .bool⟩
end
end DL

set_option Elab.async false
set_option linter.all false
set_option maxRecDepth 100000
set_option maxHeartbeats 4000000
/-! A3: statements, targets, what is walked, loops, comprehensions. -/
namespace DL
open PySem PyProof.Rows L2
structure WEnds where
  nx : EnvD → Mu → Prop
  rt : QD
  bk : EnvD → Mu → Prop
  ct : EnvD → Mu → Prop
  xp : D → EnvD → Mu → Prop
abbrev WS := EnvD → Mu → WEnds → Prop
abbrev WG := D → EnvD → (EnvD → Prop) → Prop
abbrev WGs := List D → EnvD → (EnvD → Prop) → Prop
/-- what is walked: the items, what stays meanwhile -/
structure Src where
  xs : List D
  ok : Mu → Prop
abbrev WI := EnvD → Mu → (Src → Mu → Prop) → QD → Prop
/-! ### wishes -/
def wSeq (a b : WS) : WS := fun e μ E => a e μ { E with nx := fun e1 μ1 => b e1 μ1 E }
def wNext : WS := fun e μ E => E.nx e μ
def wBreak : WS := fun e μ E => E.bk e μ
def wCont : WS := fun e μ E => E.ct e μ
def wAsg (i : Nat) (a : WE) : WS := fun e μ E => a e μ (fun d μ1 => E.nx (st e i (some d)) μ1) fun d μ1 => E.xp d e μ1
def wAsgG (g : WG) (a : WE) : WS := fun e μ E => a e μ (fun d μ1 => g d e fun e1 => E.nx e1 μ1) fun d μ1 => E.xp d e μ1
def wDrop (a : WE) : WS := fun e μ E => a e μ (fun _ μ1 => E.nx e μ1) fun d μ1 => E.xp d e μ1
def wRet (a : WE) : WS := fun e μ E => a e μ E.rt fun d μ1 => E.xp d e μ1
def wRetN : WS := fun _ μ E => E.rt .none μ
def wIfS (t : WT) (a b : WS) : WS := fun e μ E => t e μ (fun k μ1 => if k = true then a e μ1 E else b e μ1 E) fun d μ1 => E.xp d e μ1
def wPar (i j : Nat) (a : WA) : WS := fun e μ E => a e μ (fun ds μ1 => match ds with
  | [x, y] => E.nx (st (st e i (some x)) j (some y)) μ1
  | _ => False) fun d μ1 => E.xp d e μ1
def wAug (i : Nat) (f : Int → Int → Int) (a : WE) : WS := fun e μ E => match gt e i with
  | some (.int x) => a e μ (fun d μ1 => match d with
    | .int y => E.nx (st e i (some (.int (f x y)))) μ1
    | _ => False) fun d μ1 => E.xp d e μ1
  | _ => False
/-- l[i] = v -/
def wSetL (v o i : WE) : WS := fun e μ E => v e μ (fun d μ1 => o e μ1 (fun x μ2 => i e μ2 (fun y μ3 => match x, y with
  | .cell p, .int k => (match ndL (μ3 p) with
    | some ds => (match ixN ds.length k with
      | some j => E.nx e (up μ3 p (.list (ds.set j d)))
      | Option.none => False)
    | Option.none => False)
  | _, _ => False) fun d μ1 => E.xp d e μ1) fun d μ1 => E.xp d e μ1) fun d μ1 => E.xp d e μ1
def wgN (i : Nat) : WG := fun d e Q => Q (st e i (some d))
def wgNil : WGs := fun ds e Q => match ds with
  | [] => Q e
  | _ => False
def wgCons (g : WG) (gs : WGs) : WGs := fun ds e Q => match ds with
  | d :: ds => g d e fun e1 => gs ds e1 Q
  | _ => False
def wgTup (n : Nat) (gs : WGs) : WG := fun d e Q => match d with
  | .tup ds => ds.length = n ∧ gs ds e Q
  | _ => False
def okS : D → List D → Mu → Prop
  | .cell p, ds, μ => ndL (μ p) = some ds
  | _, _, _ => True
def wiSeq (a : WE) : WI := fun e μ Q X => a e μ (fun d μ1 => match sqD μ1 d with
  | some ds => Q ⟨ds, okS d ds⟩ μ1
  | Option.none => False) X
def rangeD (lo : Int) (n : Nat) : List D := (List.range n).map fun (i : Nat) => .int (lo + (i : Int))
def inR (i : Int) : Prop := -(2 ^ 62) ≤ i ∧ i < 2 ^ 62
def wiRng1 (a : WA) : WI := fun e μ Q X => a e μ (fun ds μ1 => one ds fun x => int1 x fun j => inR j ∧ Q ⟨rangeD 0 j.toNat, fun _ => True⟩ μ1) X
def wiRng2 (a : WA) : WI := fun e μ Q X => a e μ (fun ds μ1 => two ds fun x y => int1 x fun lo => int1 y fun hi => inR lo ∧ inR hi ∧ Q ⟨rangeD lo (hi - lo).toNat, fun _ => True⟩ μ1) X
def goFor (ok : Mu → Prop) (g : WG) (b : WS) : List D → WS
  | [], e, μ, E => ok μ ∧ E.nx e μ
  | x :: xs, e, μ, E => ok μ ∧ g x e fun e1 => b e1 μ { nx := fun e2 μ2 => goFor ok g b xs e2 μ2 E, rt := E.rt, bk := E.nx, ct := fun e2 μ2 => goFor ok g b xs e2 μ2 E, xp := E.xp }
def wFor (s : WI) (g : WG) (b : WS) : WS := fun e μ E => s e μ (fun s μ1 => s.xs.length ≤ 2 ^ 63 ∧ goFor s.ok g b s.xs e μ1 E) fun d μ1 => E.xp d e μ1
/-- n turns at most -/
def goWhile (t : WT) (b : WS) : Nat → WS
  | 0, _, _, _ => False
  | n + 1, e, μ, E => t e μ (fun k μ1 => if k = true then b e μ1 { nx := fun e2 μ2 => goWhile t b n e2 μ2 E, rt := E.rt, bk := E.nx, ct := fun e2 μ2 => goWhile t b n e2 μ2 E, xp := E.xp } else E.nx e μ1) fun d μ1 => E.xp d e μ1
def wWhile (t : WT) (b : WS) : WS := fun e μ E => ∃ n, n ≤ 2 ^ 63 ∧ goWhile t b n e μ E
def wYes : WT := fun _ μ Q _ => Q true μ
def goLc (ok : Mu → Prop) (g : WG) (t : WT) (a : WE) (e : EnvD) (X : QD) : List D → List D → Mu → (List D → Mu → Prop) → Prop
  | [], acc, μ, Q => ok μ ∧ Q acc μ
  | x :: xs, acc, μ, Q => ok μ ∧ g x e fun e1 => t e1 μ (fun k μ1 => if k = true then a e1 μ1 (fun d μ2 => goLc ok g t a e X xs (acc ++ [d]) μ2 Q) X else goLc ok g t a e X xs acc μ1 Q) X
def wLc (m : Bool) (s : WI) (g : WG) (t : WT) (a : WE) (vs : List Nat) : WE := fun e μ Q X => s e μ (fun s μ1 => s.xs.length ≤ sizeLine ∧ goLc s.ok g t a (wipeE e vs) (fun _ _ => False) s.xs [] μ1 fun ds μ2 => sett m Q (.n (.list ds)) μ2) X
/-! ### readings -/
structure EV (c : Ctx) (W : WX) (S : Option SA) (F : Hp) (n : Nat) (I : Hp) (E : WEnds) (K : Ends) : Prop where
  nx : ∀ e' μ' σ' I' H', E.nx e' μ' → Same I I' → EnvR c S I' e' σ' → Wd c S F n I' μ' H' → K.nx σ' H'
  rt : ∀ d μ' v I' H', E.rt d μ' → Same I I' → Wd c S F n I' μ' H' → Rep c S I' d v → K.rt v H'
  bk : ∀ e' μ' σ' I' H', E.bk e' μ' → Same I I' → EnvR c S I' e' σ' → Wd c S F n I' μ' H' → K.bk σ' H'
  ct : ∀ e' μ' σ' I' H', E.ct e' μ' → Same I I' → EnvR c S I' e' σ' → Wd c S F n I' μ' H' → K.ct σ' H'
  xp : ∀ d e' μ' cls dx σ' I' H', E.xp d e' μ' → Same I I' → EnvR c S I' e' σ' → Wd c S F n I' μ' H' → ErrAt c S I' d cls dx → W cls dx σ' H'
theorem EV.mono {c : Ctx} {W : WX} {S : Option SA} {F : Hp} {n n' : Nat} {I I' : Hp} {E : WEnds} {K : Ends} (h : EV c W S F n I E K) (l : n' ≤ n) (s : Same I I') : EV c W S F n' I' E K :=
  ⟨fun e' μ' σ' I2 H' p s2 r w => h.nx e' μ' σ' I2 H' p (s.trans s2) r (w.up l), fun d μ' v I2 H' p s2 w r => h.rt d μ' v I2 H' p (s.trans s2) (w.up l) r, fun e' μ' σ' I2 H' p s2 r w => h.bk e' μ' σ' I2 H' p (s.trans s2) r (w.up l),
    fun e' μ' σ' I2 H' p s2 r w => h.ct e' μ' σ' I2 H' p (s.trans s2) r (w.up l), fun d e' μ' cls dx σ' I2 H' p s2 r w er => h.xp d e' μ' cls dx σ' I2 H' p (s.trans s2) r (w.up l) er⟩
theorem EV.lessF {c : Ctx} {W : WX} {S : Option SA} {F F' : Hp} {n : Nat} {I : Hp} {E : WEnds} {K : Ends} (h : EV c W S F n I E K) (l : ∀ b o, F b = some o → F' b = some o) : EV c W S F' n I E K :=
  ⟨fun e' μ' σ' I2 H' p s2 r w => h.nx e' μ' σ' I2 H' p s2 r (w.less l), fun d μ' v I2 H' p s2 w r => h.rt d μ' v I2 H' p s2 (w.less l) r, fun e' μ' σ' I2 H' p s2 r w => h.bk e' μ' σ' I2 H' p s2 r (w.less l),
    fun e' μ' σ' I2 H' p s2 r w => h.ct e' μ' σ' I2 H' p s2 r (w.less l), fun d e' μ' cls dx σ' I2 H' p s2 r w er => h.xp d e' μ' cls dx σ' I2 H' p s2 r (w.less l) er⟩
/-- what errors of an expression come to -/
theorem EV.x {c : Ctx} {W : WX} {S : Option SA} {F : Hp} {n : Nat} {I : Hp} {E : WEnds} {K : Ends} {e : EnvD} {σ : L2.St} (h : EV c W S F n I E K) (he : EnvR c S I e σ) : XV c W S F n I σ fun d μ1 => E.xp d e μ1 := fun d μ' cls dx I' H' p s w er => h.xp d e μ' cls dx σ I' H' p s (he.mono s) w er
section
variable (c : Ctx) (W : WX) (k : Nat)
def ldS (w : WS) : TS := fun K σ H => ∃ S F n I μ e E, n + k ≤ LIM ∧ EnvR c S I e σ ∧ Wd c S F n I μ H ∧ w e μ E ∧ EV c W S F (n + k) I E K
/-- a target; js the slots that it stores -/
def ldG (js : List Nat) (g : WG) : TG := fun v σ H Q => ∃ S F n I μ e d Qd, EnvR c S I e σ ∧ Wd c S F n I μ H ∧ Rep c S I d v ∧ g d e Qd ∧ ∀ e' σ', Qd e' → EnvR c S I e' σ' → (∀ i, i ∉ js → σ'[i]? = σ[i]?) → σ'.length = σ.length → Q σ' H
def ldGs (js : List Nat) (g : WGs) : TGs := fun vs σ H Q => ∃ S F n I μ e ds Qd, EnvR c S I e σ ∧ Wd c S F n I μ H ∧ Reps c S I ds vs ∧ g ds e Qd ∧ ∀ e' σ', Qd e' → EnvR c S I e' σ' → (∀ i, i ∉ js → σ'[i]? = σ[i]?) → σ'.length = σ.length → Q σ' H
def SubF (F F' : Hp) : Prop := ∀ b o, F b = some o → F' b = some o
def ItD (S : Option SA) (F0 : Hp) (J : It) (I1 : Hp) (s : Src) : Prop := ∀ F i n I μ H, SubF F0 F → Same I1 I → Wd c S F n I μ H → s.ok μ →
  (∀ d, s.xs[i]? = some d → J.go i H ∧ ∀ v H', J.yld i H v H' → ∃ I', Same I I' ∧ Wd c S F n I' μ H' ∧ Rep c S I' d v) ∧ (s.xs[i]? = Option.none → J.stop i H)
def ldI (w : WI) : TI := fun σ H R => ∃ S F n I μ e Qd Xd, n + k ≤ LIM ∧ EnvR c S I e σ ∧ Wd c S F n I μ H ∧ w e μ Qd Xd ∧ (∀ s μ' J I' H' F', SubF F F' → Qd s μ' → Same I I' → Wd c S F' (n + k) I' μ' H' → ItD c S F' J I' s → R J H') ∧ XV c W S F (n + k) I σ Xd
end
section
variable (X : Cx) (c : Ctx) (W : WX) (k : Nat)
abbrev GS (s : Stmt) (w : WS) : Prop := PS X s (ldS c W k w)
abbrev GSs (s : List Stmt) (w : WS) : Prop := PSs X s (ldS c W k w)
abbrev GG (js : List Nat) (t : Expr) (g : WG) : Prop := PG X t (ldG c js g)
abbrev GGs (js : List Nat) (t : List Expr) (g : WGs) : Prop := PGs X t (ldGs c js g)
abbrev GI (tg it : Expr) (w : WI) : Prop := PI X tg it (ldI c W k w)
end
theorem _root_.L2.PS.imp {X : Cx} {s : Stmt} {t t' : TS} (h : PS X s t) (i : ∀ D σ H, t' D σ H → t D σ H) : PS X s t' := ⟨fun pins s σ H D J z => h.run pins s σ H D J (i D σ H z)⟩
theorem _root_.L2.PSs.imp {X : Cx} {s : List Stmt} {t t' : TS} (h : PSs X s t) (i : ∀ D σ H, t' D σ H → t D σ H) : PSs X s t' := ⟨fun pins s σ H D J z => h.run pins s σ H D J (i D σ H z)⟩
theorem _root_.L2.PG.imp {X : Cx} {s : Expr} {t t' : TG} (h : PG X s t) (i : ∀ v σ H Q, t' v σ H Q → t v σ H Q) : PG X s t' := ⟨fun pins s σ H v u Q J r z => h.run pins s σ H v u Q J r (i v σ H Q z)⟩
theorem _root_.L2.PGs.imp {X : Cx} {s : List Expr} {t t' : TGs} (h : PGs X s t) (i : ∀ v σ H Q, t' v σ H Q → t v σ H Q) : PGs X s t' := ⟨fun pins s σ H v u Q J r z => h.run pins s σ H v u Q J r (i v σ H Q z)⟩
theorem _root_.L2.PI.imp {X : Cx} {tg s : Expr} {t t' : TI} (h : PI X tg s t) (i : ∀ σ H Q, t' σ H Q → t σ H Q) : PI X tg s t' := ⟨fun pins s σ H R J z => h.run pins s σ H R J (i σ H R z)⟩
section
variable {X : Cx} {c : Ctx} {W : WX} {k ka kb kc ko : Nat} {a b d tg it : Expr} {wa wb wo wi' : WE} {m : Bool} {pos pos' : Pos} {es : List Expr} {wr : WA} {wt wu : WT} {s : Stmt} {ss ss2 : List Stmt} {w1 w2 : WS} {i j : Nat} {x y : Str} {js js2 : List Nat} {g : WG} {gs : WGs} {wi : WI}
theorem gs_nil : GSs X c W 0 [] wNext := L2.PSs.imp pss_nil fun K σ H h => by
  obtain ⟨S, F, n, I, μ, e, E, hl, he, hw, h, q⟩ := h
  exact q.nx e μ σ I H h (Same.refl I) he hw
theorem ldS_seq {K : Ends} {σ : L2.St} {H : Hp} (h : ldS c W (ka + kb) (wSeq w1 w2) K σ H) : tSeq (ldS c W ka w1) (ldS c W kb w2) K σ H := by
  obtain ⟨S, F, n, I, μ, e, E, hl, he, hw, h, q⟩ := h
  refine ⟨S, F, n, I, μ, e, _, by omega, he, hw, h, ?_⟩
  have q1 := q.mono (n' := n + ka) (by omega) (Same.refl I)
  exact ⟨fun e1 μ1 σ1 I1 H1 p1 s1 r1 u1 => ⟨S, F, n + ka, I1, μ1, e1, E, by omega, r1, u1, p1, q.mono (by omega) s1⟩, q1.rt, q1.bk, q1.ct, q1.xp⟩
theorem gs_cons (h1 : GS X c W ka s w1) (h2 : GSs X c W kb ss w2) : GSs X c W (ka + kb) (s :: ss) (wSeq w1 w2) := L2.PSs.imp (pss_cons h1 h2) fun K σ H h => ldS_seq h
theorem gs_one (h1 : GS X c W k s w1) : GSs X c W k [s] w1 := pss_one h1
theorem ldE_S {Q : VK} {σ : L2.St} {H : Hp} {E : WEnds} {K : Ends} {S : Option SA} {F : Hp} {n : Nat} {I : Hp} {μ : Mu} {e : EnvD} {Qd : QD} (hl : n + k ≤ LIM) (he : EnvR c S I e σ) (hw : Wd c S F n I μ H) (q : EV c W S F (n + k) I E K) (h : wa e μ Qd fun d μ1 => E.xp d e μ1)
    (hq : QV c S F (n + k) I Qd Q) : ldE c W k wa σ H Q := ⟨S, F, n, I, μ, e, Qd, _, hl, he, hw, h, hq, q.x he⟩
theorem g_ret (ha : GE X c W k a wa) : GS X c W k (.Return (some a) pos) (wRet wa) := L2.PS.imp (ps_ret ha) fun K σ H h => by
  obtain ⟨S, F, n, I, μ, e, E, hl, he, hw, h, q⟩ := h
  exact ldE_S hl he hw q h fun d μ1 v I1 H1 p s1 u1 r1 => q.rt d μ1 v I1 H1 p s1 u1 r1
theorem g_drop (ha : GE X c W k a wa) (hs : swapsWith a none pos.line X.env = pure false := by rfl) : GS X c W k (.Expr a pos) (wDrop wa) := L2.PS.imp (ps_expr ha hs) fun K σ H h => by
  obtain ⟨S, F, n, I, μ, e, E, hl, he, hw, h, q⟩ := h
  exact ldE_S hl he hw q h fun d μ1 v I1 H1 p s1 u1 r1 => q.nx e μ1 σ I1 H1 p s1 (he.mono s1) u1
theorem g_ifS {bb b2 : List Stmt} (hc : GT X c W kc d wt) (ha : GSs X c W ka bb w1) (hb : GSs X c W kb b2 w2) : GS X c W (kc + (ka + kb)) (.If d bb b2 pos) (wIfS wt w1 w2) := L2.PS.imp (ps_if hc ha hb) fun K σ H h => by
  obtain ⟨S, F, n, I, μ, e, E, hl, he, hw, h, q⟩ := h
  refine ⟨S, F, n, I, μ, e, _, _, by omega, he, hw, h, fun b μ1 I1 H1 pb s1 u1 => ?_, (q.x he).mono (by omega) (Same.refl I)⟩
  exact ite_b pb (fun _ h => ⟨S, F, n + kc, I1, μ1, e, E, by omega, he.mono s1, u1, h, q.mono (by omega) s1⟩) fun _ h => ⟨S, F, n + kc, I1, μ1, e, E, by omega, he.mono s1, u1, h, q.mono (by omega) s1⟩
theorem ld_asg {K : Ends} {σ : L2.St} {H : Hp} (h : ldS c W k (wAsg i wa) K σ H) : tAsg (ldE c W k wa) (gName i) K σ H := by
  obtain ⟨S, F, n, I, μ, e, E, hl, he, hw, h, q⟩ := h
  exact ldE_S hl he hw q h fun d μ1 v I1 H1 p s1 u1 r1 => q.nx _ μ1 _ I1 H1 p s1 ((he.mono s1).put r1 i) u1
theorem g_set (hN : X.N.Nodup) (hi : X.N[i]? = some x) (hx : Loc X.env.scope x) (he : GE X c W k a wa) (hs : swapsWith a (some (.Name x pos')) pos.line X.env = pure false := by rfl) (hf : X.fn x = true ∨ X.env.scope.names.lookup x = some .local := by first | exact .inl rfl | exact .inr rfl | assumption) :
    GS X c W k (.Assign [.Name x pos'] a pos) (wAsg i wa) := L2.PS.imp (ps_set hN hi hx he hs hf) fun K σ H h => ld_asg h
theorem g_asg (he : GE X c W k a wa) (hg : GG X c js tg g) (hs : swapsWithSole [tg] a pos.line X.env = pure false := by rfl) (hw : swappedStores [tg] a X.env = pure none := by rfl)
    (h1 : (assignEach [tg] X.env).map (·.2) = [assign tg X.env] := by rfl) : GS X c W k (.Assign [tg] a pos) (wAsgG g wa) := L2.PS.imp (ps_asg he hg hs hw h1) fun K σ H h => by
  obtain ⟨S, F, n, I, μ, e, E, hl, he, hw, h, q⟩ := h
  refine ldE_S hl he hw q h fun d μ1 v I1 H1 p s1 u1 r1 => ?_
  exact ⟨S, F, _, I1, μ1, e, d, _, he.mono s1, u1, r1, p, fun e' σ' p' r' _ _ => q.nx e' μ1 σ' I1 H1 p' s1 r' u1⟩
theorem g_parN {hp : PS X s (tPar i j (ldA c W k wr))} : GS X c W k s (wPar i j wr) := L2.PS.imp hp fun K σ H h => by
  obtain ⟨S, F, n, I, μ, e, E, hl, he, hw, h, q⟩ := h
  refine ⟨S, F, n, I, μ, e, _, _, hl, he, hw, h, fun ds μ1 vs I1 H1 p s1 u1 r1 => ?_, q.x he⟩
  cases r1 with
  | nil => exact False.elim p
  | cons r1 r2 =>
    cases r2 with
    | nil => exact False.elim p
    | cons r2 r3 =>
      cases r3 with
      | nil => exact ⟨_, _, rfl, q.nx _ μ1 _ I1 H1 p s1 (((he.mono s1).put r1 i).put r2 j) u1⟩
      | cons => exact False.elim p
theorem g_aug {op : Operator} {f : Int → Int → Int} (hN : X.N.Nodup) (hi : X.N[i]? = some x) (hx : Loc X.env.scope x) (he : GE X c W k a wa) (ho : PIp X op (ipI f)) (hf : X.fn x = true ∨ X.env.scope.names.lookup x = some .local := by first | exact .inl rfl | exact .inr rfl | assumption) :
    GS X c W k (.AugAssign (.Name x pos') op a pos) (wAug i f wa) := L2.PS.imp (ps_aug hN hi hx he ho hf) fun K σ H h => by
  obtain ⟨S, F, n, I, μ, e, E, hl, he, hw, h, q⟩ := h
  unfold wAug at h
  split at h
  · rename_i z hz
    obtain ⟨v, h1, h2⟩ := he.get hz
    cases h2
    refine ⟨_, h1, ldE_S hl he hw q h fun d μ1 v I1 H1 p s1 u1 r1 => ?_⟩
    cases r1 <;> first | exact False.elim p | exact ⟨_, _, rfl, rfl, q.nx _ μ1 _ I1 H1 p s1 ((he.mono s1).put .int i) u1⟩
  · exact h.elim
theorem g_setL (hv : GE X c W ka a wa) (ho : GE X c W kb b wo) (hi : GE X c W kc d wi') (hs : swapsWithSole [.Subscript b d pos'] a pos.line X.env = pure false := by rfl) (hw : swappedStores [.Subscript b d pos'] a X.env = pure none := by rfl)
    (h1 : (assignEach [.Subscript b d pos'] X.env).map (·.2) = [assign (.Subscript b d pos') X.env] := by rfl)
    (ha : ∀ v, assign (.Subscript b d pos') X.env v = (do
      let ov ← holding [v] (eval b X.env)
      let iv ← holding [v, ov] (eval d X.env)
      standAt pos'
      holding [v, ov, iv] (setItem ov iv v)
      release [v, ov, iv] []) := by intro _; rfl) : GS X c W (ka + (kb + kc)) (.Assign [.Subscript b d pos'] a pos) (wSetL wa wo wi') := L2.PS.imp (ps_asg hv (pg_sub ho hi set_list ha) hs hw h1) fun K σ H h => by
  obtain ⟨S, F, n, I, μ, e, E, hl, he, hw, h, q⟩ := h
  refine ⟨S, F, n, I, μ, e, _, _, by omega, he, hw, h, fun d μ1 v I1 H1 p s1 u1 r1 => ?_, (q.x he).mono (by omega) (Same.refl I)⟩
  refine ⟨S, F, n + ka, I1, μ1, e, _, _, by omega, he.mono s1, u1, p, fun d2 μ2 v2 I2 H2 p2 s2 u2 r2 => ?_, (q.x he).mono (by omega) s1⟩
  refine ⟨S, F, n + ka + kb, I2, μ2, e, _, _, by omega, he.mono (s1.trans s2), u2, p2, fun d3 μ3 v3 I3 H3 p3 s3 u3 r3 => ?_, (q.x he).mono (by omega) (s1.trans s2)⟩
  dsimp only at p3
  split at p3
  · split at p3
    · rename_i ds e1
      split at p3
      · rename_i jj e2
        cases r2
        cases r3
        obtain ⟨xs, h5, h6⟩ := u3.cellL e1
        refine ⟨_, xs, _, jj, rfl, rfl, h5, by rw [← h6.length]; exact e2, ?_⟩
        refine q.nx e _ σ I3 _ p3 ((s1.trans s2).trans s3) (he.mono ((s1.trans s2).trans s3)) ?_
        exact (u3.put (ndL_some e1) (NdR.list (h6.set (r1.mono (s2.trans s3)) jj))).up (by omega)
      · exact p3.elim
    · exact p3.elim
  · exact p3.elim
/-! targets -/
theorem gg_name (hN : X.N.Nodup) (hi : X.N[i]? = some x) (hx : Loc X.env.scope x) (hf : X.fn x = true ∨ X.env.scope.names.lookup x = some .local := by first | exact .inl rfl | exact .inr rfl | assumption) : GG X c [i] (.Name x pos) (wgN i) := L2.PG.imp (pg_name hN hi hx hf) fun v σ H Q h => by
  obtain ⟨S, F, n, I, μ, e, d, Qd, he, hw, r, h, q⟩ := h
  exact q _ _ h (he.put r i) (fun j hj => List.getElem?_set_ne fun z => hj (by rw [z]; exact List.mem_cons_self)) List.length_set
theorem ggs_nil : GGs X c [] [] wgNil := L2.PGs.imp pgs_nil fun vs σ H Q h => by
  obtain ⟨S, F, n, I, μ, e, ds, Qd, he, hw, r, h, q⟩ := h
  cases r with
  | nil => exact ⟨rfl, q e σ h he (fun _ _ => rfl) rfl⟩
  | cons => exact False.elim h
theorem ggs_cons (h1 : GG X c js a g) (h2 : GGs X c js2 es gs) (hs : (assignEach (a :: es) X.env).map (·.2) = assign a X.env :: (assignEach es X.env).map (·.2) := by rfl) : GGs X c (js ++ js2) (a :: es) (wgCons g gs) := L2.PGs.imp (pgs_cons h1 h2 hs) fun vs σ H Q h => by
  obtain ⟨S, F, n, I, μ, e, ds, Qd, he, hw, r, h, q⟩ := h
  cases r with
  | nil => exact False.elim h
  | cons r1 r2 =>
    refine ⟨_, _, rfl, S, F, n, I, μ, e, _, _, he, hw, r1, h, fun e1 σ1 p1 he1 k1 l1 => ?_⟩
    refine ⟨S, F, n, I, μ, e1, _, _, he1, hw, r2, p1, fun e2 σ2 p2 he2 k2 l2 => ?_⟩
    exact q e2 σ2 p2 he2 (fun i hi => (k2 i fun z => hi (List.mem_append_right _ z)).trans (k1 i fun z => hi (List.mem_append_left _ z))) (l2.trans l1)
theorem gg_tup {kk n : Nat} (h : GGs X c js es gs) (hc : X.calm = true := by rfl) (hn : (assignEach es X.env).length = n := by rfl) (hst : (assignEach es X.env).findIdx? (·.1) = none := by rfl) (hK : X.K = c.K := by rfl) : GG X c js (.Tuple es kk pos) (wgTup n gs) := by
  obtain ⟨K, cl, tb, ns, es0⟩ := c
  cases hK
  refine L2.PG.imp (pg_tup hc h hn hst) fun v σ H Q h => ?_
  obtain ⟨S, F, m, I, μ, e, d, Qd, he, hw, r, h, q⟩ := h
  cases r <;> try exact False.elim h
  rename_i a ds xs g r
  exact ⟨_, _, rfl, hw.tupH g, by rw [← r.length]; exact h.1, S, F, m, I, μ, e, ds, Qd, he, hw, r, h.2, q⟩
/-! what is walked -/
def iSeq (K : PySem.W.Frag) (tl : TE) : TI := fun σ H R => tl σ H fun x H1 => ∃ a xs, x = .ref a ∧ ((SqL K H1 a xs ∧ R (Itl K a) H1) ∨ (SqT K H1 a xs ∧ R (Itt K a) H1))
theorem pi_seq {tl : TE} (hl : PE X a tl) : PI X tg a (iSeq X.K tl) := by
  refine ⟨fun pins s σ H R I h => ?_⟩
  refine thn (hl.run pins s σ H _ I h) fun v s1 ⟨x, H1, I1, r1, q1⟩ => ?_
  obtain ⟨a, xs, e, q1⟩ := q1
  subst e
  cases r1
  rcases q1 with ⟨hq, q⟩ | ⟨hq, q⟩
  · obtain ⟨its, rv, p, hz⟩ := I1.list hq
    refine wpAny_pyIter_list p.isList ?_
    refine ⟨s1.heap.objs.size, [s1.heap.objs.size], _, _, H1, rfl, I1.kept (t' := s1.toks) fun b o e => Heap.get?_push_of_some _ e, turn_list a _, ⟨_, Heap.get?_push_size _ rfl, rfl, rfl⟩, fun b hb => ?_, q⟩
    have e : b = s1.heap.objs.size := by simpa using hb
    subst e
    exact I1.fpOk (Nat.le_refl _) (I1.hok.fresh (Nat.le_refl _))
  · obtain ⟨its, rv, p, hz⟩ := I1.tuple hq
    refine wpAny_pyIter_tuple (show s1.heap.IsTuple a its.toArray from p) ?_
    refine ⟨s1.heap.objs.size, [s1.heap.objs.size], _, _, H1, rfl, I1.kept (t' := s1.toks) fun b o e => Heap.get?_push_of_some _ e, turn_tuple a _, ⟨_, Heap.get?_push_size _ rfl, rfl, rfl⟩, fun b hb => ?_, q⟩
    have e : b = s1.heap.objs.size := by simpa using hb
    subst e
    exact I1.fpOk (Nat.le_refl _) (I1.hok.fresh (Nat.le_refl _))
theorem itd_list {S : Option SA} {F0 I1 : Hp} {a : Addr} {ds : List D} {ok : Mu → Prop} (h : ∀ F n I μ H, Same I1 I → Wd c S F n I μ H → ok μ → ∃ xs, SqL c.K H a xs ∧ Reps c S I ds xs) : ItD c S F0 (Itl c.K a) I1 ⟨ds, ok⟩ := fun F i n I μ H _ s w o => by
  obtain ⟨xs, hq, r⟩ := h F n I μ H s w o
  refine ⟨fun d hd => ?_, fun hd => ?_⟩
  · obtain ⟨x, hx, rx⟩ := r.get hd
    refine ⟨⟨xs, x, hq, hx⟩, fun v H' ⟨e1, y⟩ => ⟨I, Same.refl I, by rw [e1]; exact w, ?_⟩⟩
    have e2 := y xs hq
    rw [hx] at e2
    rw [← Option.some.inj e2]
    exact rx
  · refine ⟨xs, hq, ?_⟩
    rw [← r.length]
    exact List.getElem?_eq_none_iff.mp hd
theorem itd_tup {S : Option SA} {F0 I1 : Hp} {a : Addr} {ds : List D} {ok : Mu → Prop} (h : ∀ F n I μ H, Same I1 I → Wd c S F n I μ H → ok μ → ∃ xs, SqT c.K H a xs ∧ Reps c S I ds xs) : ItD c S F0 (Itt c.K a) I1 ⟨ds, ok⟩ := fun F i n I μ H _ s w o => by
  obtain ⟨xs, hq, r⟩ := h F n I μ H s w o
  refine ⟨fun d hd => ?_, fun hd => ?_⟩
  · obtain ⟨x, hx, rx⟩ := r.get hd
    refine ⟨⟨xs, x, hq, hx⟩, fun v H' ⟨e1, y⟩ => ⟨I, Same.refl I, by rw [e1]; exact w, ?_⟩⟩
    have e2 := y xs hq
    rw [hx] at e2
    rw [← Option.some.inj e2]
    exact rx
  · refine ⟨xs, hq, ?_⟩
    rw [← r.length]
    exact List.getElem?_eq_none_iff.mp hd
/-- a list or a tuple, as it is walked -/
theorem itd_sq {S : Option SA} {F F0 : Hp} {n : Nat} {I H : Hp} {μ : Mu} {d : D} {v : V} {ds : List D} (w : Wd c S F n I μ H) (r : Rep c S I d v) (e : sqD μ d = some ds) : ∃ a xs, v = .ref a ∧ ((SqL c.K H a xs ∧ ItD c S F0 (Itl c.K a) I ⟨ds, okS d ds⟩) ∨ (SqT c.K H a xs ∧ ItD c S F0 (Itt c.K a) I ⟨ds, okS d ds⟩)) := by
  cases r with
  | list g r =>
    cases e
    exact ⟨_, _, rfl, .inl ⟨SqL.of (w.lst g), itd_list fun F n I2 μ2 H2 s2 w2 _ => ⟨_, SqL.of (w2.lst (s2 _ _ g)), r.mono s2⟩⟩⟩
  | tup g r =>
    cases e
    exact ⟨_, _, rfl, .inr ⟨w.tupH g, itd_tup fun F n I2 μ2 H2 s2 w2 _ => ⟨_, w2.tupH (Same.tup s2 g), r.mono s2⟩⟩⟩
  | script g =>
    cases e
    exact ⟨_, _, rfl, .inl ⟨w.seqH g, itd_list fun F n I2 μ2 H2 s2 w2 _ => ⟨_, w2.seqH (s2.seq g), Reps.of_ints⟩⟩⟩
  | cell =>
    obtain ⟨xs, h1, h2⟩ := w.cellL e
    refine ⟨_, _, rfl, .inl ⟨SqL.of h1, itd_list fun F n I2 μ2 H2 s2 w2 o => ?_⟩⟩
    obtain ⟨ys, h3, h4⟩ := w2.cellL o
    exact ⟨ys, SqL.of h3, h4⟩
  | _ => cases e
theorem gi_seq (ha : GE X c W k a wa) (hK : X.K = c.K := by rfl) : GI X c W k tg a (wiSeq wa) := by
  obtain ⟨K, cl, tb, ns, es0⟩ := c
  cases hK
  refine L2.PI.imp (pi_seq ha) fun σ H R h => ?_
  obtain ⟨S, F, n, I, μ, e, Qd, Xd, hl, he, hw, h, q, x⟩ := h
  refine ⟨S, F, n, I, μ, e, _, Xd, hl, he, hw, h, fun d μ1 v I1 H1 p s1 u1 r1 => ?_, x⟩
  dsimp only at p
  split at p
  · rename_i ds e1
    obtain ⟨a, xs, rfl, h1⟩ := itd_sq (F0 := F) u1 r1 e1
    refine ⟨a, xs, rfl, ?_⟩
    rcases h1 with ⟨h1, h2⟩ | ⟨h1, h2⟩
    · exact .inl ⟨h1, q _ μ1 _ I1 H1 F (fun _ _ z => z) p s1 u1 h2⟩
    · exact .inr ⟨h1, q _ μ1 _ I1 H1 F (fun _ _ z => z) p s1 u1 h2⟩
  · exact p.elim
theorem rangeD_get (lo : Int) (n i : Nat) : (rangeD lo n)[i]? = if i < n then some (.int (lo + (i : Int))) else Option.none := by
  unfold rangeD
  rw [List.getElem?_map]
  by_cases h : i < n
  · rw [List.getElem?_range h, if_pos h]
    rfl
  · rw [List.getElem?_eq_none (by rw [List.length_range]; omega), if_neg h]
    rfl
theorem rangeD_len (lo : Int) (n : Nat) : (rangeD lo n).length = n := by
  unfold rangeD
  rw [List.length_map, List.length_range]
theorem itr_d {S : Option SA} {F0 I : Hp} {ok : Mu → Prop} (lo : Int) (n : Nat) : ItD c S F0 (Itr lo n) I ⟨rangeD lo n, ok⟩ := fun F i m I2 O2 H2 _ s2 w2 o => by
  show (∀ d, (rangeD lo n)[i]? = some d → _) ∧ ((rangeD lo n)[i]? = _ → _)
  rw [rangeD_get]
  by_cases h : i < n
  · rw [if_pos h]
    refine ⟨fun d hd => ⟨h, fun v H' ⟨e1, e2⟩ => ⟨I2, Same.refl I2, by rw [e1]; exact w2, ?_⟩⟩, fun hd => by cases hd⟩
    rw [← Option.some.inj hd, e2]
    exact .int
  · rw [if_neg h]
    refine ⟨fun d hd => (by cases hd), fun _ => ?_⟩
    show n ≤ i
    omega
theorem gi_rng1 {p : Pos} (hg : Gl X "range") (hm : X.mg "range" = none) (ha : GA X c W k [a] wr) (hs : starEach [a] X.env = [(false, eval a X.env)] := by rfl) : GI X c W k tg (.Call (.Name "range" p) [a] [] pos) (wiRng1 wr) := L2.PI.imp (pi_range1 hg hm ha hs) fun σ H R h => by
  obtain ⟨S, F, n, I, μ, e, Qd, Xd, hl, he, hw, h, q, x⟩ := h
  refine ⟨S, F, n, I, μ, e, _, Xd, hl, he, hw, h, fun ds μ1 vs I1 H1 p s1 u1 r1 => ?_, x⟩
  obtain ⟨z, rfl, p⟩ := one_cases p
  obtain ⟨j, rfl, p⟩ := int1_cases p
  obtain ⟨v, rfl, rv⟩ := reps1 r1
  cases rv
  exact ⟨j, rfl, p.1.1, p.1.2, q _ μ1 _ I1 H1 F (fun _ _ z => z) p.2 s1 u1 (itr_d 0 _)⟩
/-! loops -/
theorem g_for {body : List Stmt} {kk : Nat} (hp : PassesOwn (model X.prog X.w) X.A X.env X.xe) (hi : GI X c W ka tg it wi) (hg : GG X c js tg g) (hb : GSs X c W kk body w1) (hc : X.calm = true := by rfl) (hs : ∀ x, foldedSetIterable it X.env x = pure x := by intro _; rfl) :
    GS X c W (ka + 2 ^ 63 * kk) (.For tg it body [] pos) (wFor wi g w1) := L2.PS.imp (ps_for hp hc hi hg hb hs) fun K σ H h => by
  obtain ⟨S, F, n, I, μ, e, E, hl, he, hw, h, q⟩ := h
  refine ⟨S, F, n, I, μ, e, _, _, by omega, he, hw, h, fun sr μ1 J I1 H1 F' sf p s1 u1 it1 => ?_, (q.x he).mono (by omega) (Same.refl I)⟩
  obtain ⟨hlen, p⟩ := p
  have hk : sr.xs.length * kk ≤ 2 ^ 63 * kk := Nat.mul_le_mul_right kk hlen
  refine ⟨fun i r σ' H' => r = sr.xs.length - i ∧ i ≤ sr.xs.length ∧ ∃ e' μ' I', Same I1 I' ∧ EnvR c S I' e' σ' ∧ Wd c S F' (n + ka + i * kk) I' μ' H' ∧ goFor sr.ok g w1 (sr.xs.drop i) e' μ' E,
    ⟨sr.xs.length, by omega, Nat.zero_le _, e, μ1, I1, Same.refl I1, he.mono s1, by rw [Nat.zero_mul, Nat.add_zero]; exact u1, p⟩, ?_⟩
  rintro i r σ2 H2 ⟨rfl, hi, e2, μ2, I2, s2, r2, u2, p2⟩
  by_cases hlt : i < sr.xs.length
  · have hx1 : sr.xs[i]? = some sr.xs[i] := List.getElem?_eq_getElem hlt
    rw [List.drop_eq_getElem_cons hlt] at p2
    obtain ⟨ok2, p2⟩ := p2
    obtain ⟨hgo, hy⟩ := (it1 F' i _ I2 μ2 H2 (fun _ _ z => z) s2 u2 ok2).1 _ hx1
    refine .inr ⟨hgo, fun σ' H' => ∃ e' μ' I', Same I1 I' ∧ EnvR c S I' e' σ' ∧ Wd c S F' (n + ka + (i + 1) * kk) I' μ' H' ∧ goFor sr.ok g w1 (sr.xs.drop (i + 1)) e' μ' E, fun σ' H' z => ⟨sr.xs.length - (i + 1), by omega, rfl, hlt, z⟩, fun x H3 yl => ?_⟩
    obtain ⟨I3, s3, u3, r3⟩ := hy x H3 yl
    have hmul : (i + 1) * kk = i * kk + kk := by rw [Nat.add_mul, Nat.one_mul]
    have hle : (i + 1) * kk ≤ sr.xs.length * kk := Nat.mul_le_mul_right kk hlt
    refine ⟨S, F', _, I3, μ2, e2, _, _, r2.mono s3, u3, r3, p2, fun e4 σ4 p4 r4 _ _ => ?_⟩
    refine ⟨S, F', n + ka + i * kk, I3, μ2, e4, _, by omega, r4, u3, p4, ?_⟩
    have q3 := (q.lessF sf).mono (n' := n + ka + i * kk + kk) (by omega) ((s1.trans s2).trans s3)
    refine ⟨fun e5 μ5 σ5 I5 H5 p5 s5 r5 u5 => ⟨e5, μ5, I5, (s2.trans s3).trans s5, r5, u5.up (by omega), p5⟩, q3.rt, q3.nx, fun e5 μ5 σ5 I5 H5 p5 s5 r5 u5 => ⟨e5, μ5, I5, (s2.trans s3).trans s5, r5, u5.up (by omega), p5⟩, q3.xp⟩
  · have e0 : i = sr.xs.length := by omega
    subst e0
    rw [List.drop_length] at p2
    obtain ⟨ok2, p2⟩ := p2
    exact .inl ⟨(it1 F' _ _ I2 μ2 H2 (fun _ _ z => z) s2 u2 ok2).2 (List.getElem?_eq_none_iff.mpr (Nat.le_refl _)), (q.lessF sf).nx e2 μ2 σ2 I2 H2 p2 (s1.trans s2) r2 (u2.up (by omega))⟩
theorem g_while {body : List Stmt} {kt kk : Nat} (hp : PassesOwn (model X.prog X.w) X.A X.env X.xe) (ht : GT X c W kt a wt) (hb : GSs X c W kk body w1) : GS X c W (2 ^ 63 * (kt + kk)) (.While a body [] pos) (wWhile wt w1) := L2.PS.imp (ps_while hp ht hb) fun K σ H h => by
  obtain ⟨S, F, n, I, μ, e, E, hl, he, hw, ⟨N, hN, h⟩, q⟩ := h
  have hk : N * (kt + kk) ≤ 2 ^ 63 * (kt + kk) := Nat.mul_le_mul_right _ hN
  refine ⟨fun r σ' H' => r ≤ N ∧ ∃ e' μ' I', Same I I' ∧ EnvR c S I' e' σ' ∧ Wd c S F (n + (N - r) * (kt + kk)) I' μ' H' ∧ goWhile wt w1 r e' μ' E, ⟨N, Nat.le_refl _, e, μ, I, Same.refl I, he, by rw [Nat.sub_self, Nat.zero_mul, Nat.add_zero]; exact hw, h⟩, ?_⟩
  rintro r σ2 H2 ⟨hr, e2, μ2, I2, s2, r2, u2, p2⟩
  cases r with
  | zero => exact p2.elim
  | succ r =>
    have hmul : (N - r) * (kt + kk) = (N - (r + 1)) * (kt + kk) + (kt + kk) := by rw [show N - r = N - (r + 1) + 1 by omega, Nat.add_mul, Nat.one_mul]
    have hle : (N - r) * (kt + kk) ≤ N * (kt + kk) := Nat.mul_le_mul_right _ (by omega)
    refine ⟨S, F, n + (N - (r + 1)) * (kt + kk), I2, μ2, e2, _, _, by omega, r2, u2, p2, fun b μ3 I3 H3 p3 s3 u3 => ?_, ((q.mono (n' := n + 2 ^ 63 * (kt + kk)) (Nat.le_refl _) s2).x r2).mono (by omega) (Same.refl I2)⟩
    refine ite_b p3 (fun _ p4 => ⟨fun σ' H' => ∃ e' μ' I', Same I I' ∧ EnvR c S I' e' σ' ∧ Wd c S F (n + (N - r) * (kt + kk)) I' μ' H' ∧ goWhile wt w1 r e' μ' E, fun σ' H' z => ⟨r, Nat.lt_succ_self r, by omega, z⟩, ?_⟩) fun _ p4 => q.nx e2 μ3 σ2 I3 H3 p4 (s2.trans s3) (r2.mono s3) (u3.up (by omega))
    refine ⟨S, F, n + (N - (r + 1)) * (kt + kk) + kt, I3, μ3, e2, _, by omega, r2.mono s3, u3, p4, ?_⟩
    have q3 := q.mono (n' := n + (N - (r + 1)) * (kt + kk) + kt + kk) (by omega) (s2.trans s3)
    exact ⟨fun e5 μ5 σ5 I5 H5 p5 s5 r5 u5 => ⟨e5, μ5, I5, (s2.trans s3).trans s5, r5, u5.up (by omega), p5⟩, q3.rt, q3.nx, fun e5 μ5 σ5 I5 H5 p5 s5 r5 u5 => ⟨e5, μ5, I5, (s2.trans s3).trans s5, r5, u5.up (by omega), p5⟩, q3.xp⟩
end
/-! ### comprehensions -/
theorem wipe_eq {σ σ' : L2.St} (hl : σ'.length = σ.length) : ∀ {vs : List Nat}, (∀ i, i ∉ vs → σ'[i]? = σ[i]?) → wipe σ' vs = wipe σ vs := by
  intro vs h
  have key : ∀ (vs : List Nat) (σ : L2.St) (i : Nat), (wipe σ vs)[i]? = if i ∈ vs then (if i < σ.length then some Option.none else Option.none) else σ[i]? := by
    intro vs
    induction vs with
    | nil =>
      intro σ i
      rw [if_neg (by simp)]
      rfl
    | cons a vs ih =>
      intro σ i
      show ((wipe σ vs).set a Option.none)[i]? = _
      by_cases hi : a = i
      · subst hi
        rw [if_pos List.mem_cons_self]
        by_cases hv : a < σ.length
        · rw [if_pos hv, List.getElem?_set_self (by rw [wipe_length]; exact hv)]
        · rw [if_neg hv, List.getElem?_eq_none (by rw [List.length_set, wipe_length]; omega)]
      · rw [List.getElem?_set_ne hi, ih]
        by_cases hm : i ∈ vs
        · rw [if_pos hm, if_pos (List.mem_cons_of_mem _ hm)]
        · rw [if_neg hm, if_neg (by
            intro z
            rcases List.mem_cons.mp z with z | z
            · exact hi z.symm
            · exact hm z)]
  refine List.ext_getElem? fun i => ?_
  rw [key, key, hl]
  by_cases hm : i ∈ vs
  · rw [if_pos hm, if_pos hm]
  · rw [if_neg hm, if_neg hm]
    exact h i hm
theorem wipe_get {σ : L2.St} {vs : List Nat} {i : Nat} (h : i ∉ vs) : (wipe σ vs)[i]? = σ[i]? := by
  induction vs with
  | nil => rfl
  | cons a vs ih =>
    show ((wipe σ vs).set a Option.none)[i]? = _
    rw [List.getElem?_set_ne (fun z => h (by rw [z]; exact List.mem_cons_self)), ih fun z => h (List.mem_cons_of_mem _ z)]
abbrev W0 : WX := fun _ _ _ _ => False
section
variable {X : Cx} {c : Ctx} {W : WX} {k ka kb kc kt kk : Nat} {m : Bool} {js : List Nat} {g : WG} {wi : WI} {wt : WT} {wa : WE} {vs : List Nat}
/-- one more thing is left alone -/
theorem Wd.leave {S : Option SA} {F : Hp} {n : Nat} {I H : Hp} {μ : Mu} {p : Addr} {o : HO} (w : Wd c S F n I μ H) (h : H p = some o) (hi : I p = none) (hm : μ p = none) (ho : notTX o) (hc : ∀ a, S = some a → ¬ Cell a p) : Wd c S (upd F p o) n I μ H := ⟨w.i, w.m, w.s, w.ni, fun b u e => by
  by_cases z : b = p
  · subst z
    rw [upd_same] at e
    cases e
    exact ⟨h, .inl ⟨hi, hm, ho, hc⟩⟩
  · rw [upd_ne z] at e
    exact w.f b u e, w.z⟩
/-- what is left alone changes -/
theorem Wd.turn {S : Option SA} {F : Hp} {n : Nat} {I H : Hp} {μ : Mu} {p : Addr} {o u : HO} (w : Wd c S (upd F p o) n I μ H) (hu : notTX u) (no : ∀ ob v, o ≠ .frz ob v := by intro _ _ z; cases z) : Wd c S (upd F p u) n I μ (upd H p u) := by
  obtain ⟨h1, h2, h3, h4, h5⟩ := w.f0 upd_same no
  refine ⟨fun b v e => ?_, fun b nd e => ?_, fun a e => ⟨?_, (w.s a e).2⟩, w.ni, fun b v e => ?_, w.z⟩
  · rw [upd_ne (ne_of_none e h2)]
    exact w.i b v e
  · obtain ⟨g1, v, g2, g3⟩ := w.m b nd e
    refine ⟨g1, v, g2, ?_⟩
    rw [upd_ne fun z => ?_]
    · exact g3
    · rw [z, h3] at e
      cases e
  · refine (w.s a e).1.keep (fun b q => upd_ne fun (z : b = p) => h5 a e (z ▸ q)) fun b φ z => ?_
    rw [upd_ne fun q => ?_]
    · exact z
    · rw [q, h1] at z
      cases z
      exact h4
  · by_cases z : b = p
    · subst z
      rw [upd_same] at e ⊢
      cases e
      exact ⟨rfl, .inl ⟨h2, h3, hu, h5⟩⟩
    · have e2 : upd F p o b = some v := by
        rw [upd_ne z] at e ⊢
        exact e
      rw [upd_ne z]
      exact w.f b v e2
theorem sub_new {F : Hp} {p : Addr} {o : HO} (h : F p = none) : SubF F (upd F p o) := fun b u e => by
  rw [upd_ne (ne_of_none e h)]
  exact e
theorem ld_lc {σ : L2.St} {H : Hp} {Q : VK} (hjs : ∀ i ∈ js, i ∈ vs) (h : ldE c W (ka + sizeLine * (kt + kk)) (wLc m wi g wt wa vs) σ H Q) : tLc (ldI c W ka wi) (ldG c js g) (ldT c W0 kt wt) (ldE c W0 kk wa) vs σ H Q := by
  obtain ⟨S, F, n, I, μ, e, Qd, Xd, hl, he, hw, h, q, x⟩ := h
  refine ⟨S, F, n, I, μ, e, _, Xd, by omega, he, hw, h, fun sr μ1 J I1 H1 F' sf p s1 u1 it1 Dl hD => ?_, x.mono (by omega) (Same.refl I)⟩
  obtain ⟨hlen, p⟩ := p
  have hk : sr.xs.length * (kt + kk) ≤ sizeLine * (kt + kk) := Nat.mul_le_mul_right _ hlen
  have fD := u1.fresh hD
  have nD := u1.no_cell hD
  have nF := u1.nf hD
  refine ⟨fun i r H' => r = sr.xs.length - i ∧ i ≤ sr.xs.length ∧ ∃ I' μ' acc ds, Same I1 I' ∧ Wd c S (upd F' Dl (.lst acc)) (n + ka + i * (kt + kk)) I' μ' H' ∧ Reps c S I' ds acc ∧ ds.length ≤ i ∧ goLc sr.ok g wt wa (wipeE e vs) (fun _ _ => False) (sr.xs.drop i) ds μ' fun ds μ2 => sett m Qd (.n (.list ds)) μ2,
    ⟨sr.xs.length, by omega, Nat.zero_le _, I1, μ1, [], [], Same.refl I1, by rw [Nat.zero_mul, Nat.add_zero]; exact (u1.frame hD).leave upd_same fD.1 fD.2 trivial nD, .nil, Nat.le_refl _, p⟩, ?_⟩
  rintro i r H2 ⟨rfl, hi, I2, μ2, acc, ds, s2, u2, r2, l2, p2⟩
  by_cases hlt : i < sr.xs.length
  · have hx1 : sr.xs[i]? = some sr.xs[i] := List.getElem?_eq_getElem hlt
    rw [List.drop_eq_getElem_cons hlt] at p2
    obtain ⟨ok2, p2⟩ := p2
    obtain ⟨hgo, hy⟩ := (it1 _ i _ I2 μ2 H2 (sub_new nF) s2 u2 ok2).1 _ hx1
    refine .inr ⟨hgo, fun H' => ∃ I' μ' acc ds, Same I1 I' ∧ Wd c S (upd F' Dl (.lst acc)) (n + ka + (i + 1) * (kt + kk)) I' μ' H' ∧ Reps c S I' ds acc ∧ ds.length ≤ i + 1 ∧ goLc sr.ok g wt wa (wipeE e vs) (fun _ _ => False) (sr.xs.drop (i + 1)) ds μ' fun ds μ2 => sett m Qd (.n (.list ds)) μ2, fun H' z => ⟨sr.xs.length - (i + 1), by omega, rfl, hlt, z⟩, fun v H3 yl => ?_⟩
    obtain ⟨I3, s3, u3, r3⟩ := hy v H3 yl
    have hmul : (i + 1) * (kt + kk) = i * (kt + kk) + (kt + kk) := by rw [Nat.add_mul, Nat.one_mul]
    have hle : (i + 1) * (kt + kk) ≤ sr.xs.length * (kt + kk) := Nat.mul_le_mul_right _ hlt
    have he3 := EnvR.wipe vs (he.mono ((s1.trans s2).trans s3))
    refine ⟨S, _, _, I3, μ2, wipeE e vs, _, _, he3, u3, r3, p2, fun e4 σ4 p4 r4 k4 l4 => ⟨?_, ?_⟩⟩
    · have e1 : wipe σ4 vs = wipe (wipe σ vs) vs := wipe_eq l4 fun j hj => k4 j fun z => hj (hjs j z)
      rw [e1]
      exact wipe_eq (wipe_length σ vs) fun j hj => wipe_get hj
    · refine ⟨S, _, n + ka + i * (kt + kk), I3, μ2, e4, _, _, by omega, r4, u3, p4, fun b μ5 I5 H5 p5 s5 u5 => ?_, fun d μ' cls dx I' H' z => z.elim⟩
      refine ite_b p5 (fun _ p6 => ?_) fun _ p6 => ⟨I5, μ5, acc, ds, (s2.trans s3).trans s5, u5.up (by omega), r2.mono (s3.trans s5), by omega, p6⟩
      refine ⟨S, _, n + ka + i * (kt + kk) + kt, I5, μ5, e4, _, _, by omega, r4.mono s5, u5, p6, fun d μ7 v7 I7 H7 p7 s7 u7 r7 => ?_, fun d μ' cls dx I' H' z => z.elim⟩
      have r8 := r2.mono ((s3.trans s5).trans s7)
      refine ⟨acc, (u7.f Dl _ upd_same).1, by rw [← r8.length]; omega, I7, μ7, acc ++ [v7], ds ++ [d], ((s2.trans s3).trans s5).trans s7, (u7.turn (u := .lst (acc ++ [v7])) trivial).up (by omega), r8.append (.cons r7 .nil), by rw [List.length_append]; show ds.length + 1 ≤ i + 1; omega, p7⟩
  · have e0 : i = sr.xs.length := by omega
    subst e0
    rw [List.drop_length] at p2
    obtain ⟨ok2, p2⟩ := p2
    refine .inl ⟨(it1 _ _ _ I2 μ2 H2 (sub_new nF) s2 u2 ok2).2 (List.getElem?_eq_none_iff.mpr (Nat.le_refl _)), ?_⟩
    obtain ⟨h1, h2, h3, h4, h5⟩ := u2.f0 (b := Dl) upd_same fun _ _ z => nomatch z
    refine (q.sett (m := m)) _ μ2 _ I2 H2 p2 (s1.trans s2) ((u2.less fun b o e => ?_).up (by omega)) ⟨Dl, _, rfl, h1, .list r2, h2, h3, h5, none_of fun o z => nomatch (sf _ _ z).symm.trans nF⟩
    rw [upd_ne (ne_of_none (sf _ _ e) nF)]
    exact sf _ _ e
theorem gt_yes {X' : Cx} : PTs X' [] (ldT c W0 0 wYes) := ⟨fun pins s σ H Q J h => pts_nil.run pins s σ H Q J (by
  obtain ⟨S, F, n, I, μ, e, Qd, Xd, hl, he, hw, h, q, x⟩ := h
  exact q true μ I H h (Same.refl I) hw)⟩
theorem gt_one {X' : Cx} {a : Expr} (h : GT X' c W0 k a wt) : PTs X' [a] (ldT c W0 k wt) := pts_one h
theorem g_lc {elt tg iter : Expr} {ifs : List Expr} {scope : Scope} {own : List (Str × Nat)} {pos : Pos} (hN : X.N.Nodup) (hi : GI X c W ka tg iter wi) (ok : BlkOk X.N X.env.scope scope own)
    (hg : ∀ (s : Shared) (H : Hp) (C : Addr) (cl : List (Str × Addr)) (fp : List Addr), GG (X.blk s H scope (compEnvC scope cl C X.env) fp) c js tg g) (ht : ∀ (s : Shared) (H : Hp) (C : Addr) (cl : List (Str × Addr)) (fp : List Addr), PTs (X.blk s H scope (compEnvC scope cl C X.env) fp) ifs (ldT c W0 kt wt))
    (he : ∀ (s : Shared) (H : Hp) (C : Addr) (cl : List (Str × Addr)) (fp : List Addr), GE (X.blk s H scope (compEnvC scope cl C X.env) fp) c W0 kk elt wa) (hjs : ∀ i ∈ js, i ∈ own.map (·.2) := by decide) (hc : X.calm = true := by rfl) (hs : ∀ x, foldedSetIterable iter X.env x = pure x := by intro _; rfl) :
    GE X c W (ka + sizeLine * (kt + kk)) (.ListComp elt [⟨tg, iter, ifs, 0⟩] scope pos) (wLc m wi g wt wa (own.map (·.2))) := L2.PE.imp (pe_lc hc hN hi ok hg ht he hs) fun σ H Q h => ld_lc hjs h
theorem g_setLc {i : Nat} {y : Str} {py : Pos} {elt tg iter : Expr} {ifs : List Expr} {scope : Scope} {own : List (Str × Nat)} {pos spos : Pos} (hN : X.N.Nodup) (hy : X.N[i]? = some y) (hyl : X.env.scope.names.lookup y = some .local)
    (hsw : swapsWith (.ListComp elt [⟨tg, iter, ifs, 0⟩] scope pos) (some (.Name y py)) spos.line X.env = pure true) (hi : GI X c W ka tg iter wi) (ok : BlkOk X.N X.env.scope scope own)
    (hg : ∀ (s : Shared) (H : Hp) (C : Addr) (cl : List (Str × Addr)) (fp : List Addr), GG (X.blk s H scope (compEnvC scope cl C X.env) fp) c js tg g) (ht : ∀ (s : Shared) (H : Hp) (C : Addr) (cl : List (Str × Addr)) (fp : List Addr), PTs (X.blk s H scope (compEnvC scope cl C X.env) fp) ifs (ldT c W0 kt wt))
    (he : ∀ (s : Shared) (H : Hp) (C : Addr) (cl : List (Str × Addr)) (fp : List Addr), GE (X.blk s H scope (compEnvC scope cl C X.env) fp) c W0 kk elt wa) (hjs : ∀ i ∈ js, i ∈ own.map (·.2) := by decide) (hc : X.calm = true := by rfl) (hs : ∀ x, foldedSetIterable iter X.env x = pure x := by intro _; rfl) :
    GS X c W (ka + sizeLine * (kt + kk)) (.Assign [.Name y py] (.ListComp elt [⟨tg, iter, ifs, 0⟩] scope pos) spos) (wAsg i (wLc m wi g wt wa (own.map (·.2)))) := L2.PS.imp (ps_setLc hc hN hy hyl hsw hi ok hg ht he hs) fun K σ H h => by
  have h1 := ld_asg h
  exact ld_lc hjs h1
end
end DL

set_option Elab.async false
set_option linter.all false
set_option maxRecDepth 100000
set_option maxHeartbeats 4000000
/-! Y1: rules of the machine for operators of own classes; the head's facts. -/
namespace DL
open PySem PySem.Calls PyProof.Rows L2
section
variable {prog : Program} {w : World} {A : Around} {E : Value → Shared → Prop} {s : Shared} {K : PySem.W.Frag} {x y C f : Addr} {ox oy : Obj} {od od' : Option Obj}
end
/-! ### over the layer -/
/-- what a class has a special method by -/
structure Spl (K : PySem.W.Frag) (C : Addr) (nm : Str) (f : Addr) : Prop where
  at_ : PySem.W.findIn K (.ref C) nm = some (some (.ref f))
  fn : PySem.W.isFn K (.ref f) = true
open PySem.W in
theorem sub_own {prog : Program} {w : PySem.World} {A : Around} {Ex : Value → Shared → Prop} {s : Shared} {K : PySem.W.Frag} {x C f : Addr} {ox : Obj} {od : Option Obj} {value slice : Expr} {i : Value} {Q : Value → Shared → Prop} (X : K.In s.heap) (I : InstAt s.heap x ox C od) (hs : findIn K (.ref C) "__getitem__" = some (some (.ref f))) (hf : fnIn K f = true) (hfn : isFn K (.ref f) = true)
    (h : wpAny (model prog w) A.in1 (call (.ref f) [.ref x, i]) Q Ex s) (hsl : subscripted slice true (.ref x) i = runValue (.builtin "lifetime.subscript" ⟨[.ref x, i], []⟩)) :
    wpAny (model prog w) A (subscriptTail value slice (.ref x) i) Q Ex s := by
  unfold fnIn at hf
  split at hf
  · rename_i e
    unfold subscriptTail getitemInPython
    refine wpAny_bind (wpAny_bind (wpAny_bind (I.type.here ((looks_findIn X hs).here ?_))))
    dsimp only
    refine wpAny_bind (wpAny_load (X _ _ e) (wpAny_pure ?_))
    dsimp only
    rw [hsl]
    refine wpAny_bind (wpAny_runValue (codeAny_builtin entry_sub ?_))
    unfold Builtin.«lifetime.subscript»
    refine wpAny_bind (special_fn X I hs (beq_iff_eq.mp hfn) (wpAny_mono h (fun v s' z => ?_) fun _ _ z => z))
    refine wpAny_pure ?_
    show wpAny (model prog w) A (letTemporaryGo value (.ref x) v >>= fun _ => pure v) Q Ex s'
    exact wpAny_bind (wpAny_letTemporaryGo (wpAny_pure z))
  · cases hf
section
variable {prog : Program} {w : PySem.World} {A : Around} {E : Value → Shared → Prop} {s : Shared} {K : PySem.W.Frag} {x y C f : Addr} {ox oy : Obj} {od od' : Option Obj}
end
/-- what a class has its != by -/
structure NeOf (K : PySem.W.Frag) (C : Addr) : Prop where
  at_ : PySem.W.findIn K (.ref C) "__ne__" = some (some (.builtin "object.__ne__"))
  ob : PySem.W.mroIn K C (.type "object") = some true
end DL
namespace DL
open PySem PySem.Spec PyProof.Rows L2
/-- what the look for an instance's class asks of the class -/
structure IsiC (K : PySem.W.Frag) (C : Addr) : Prop where
  cl : Cls K C
  ha : PySem.W.findIn K (.ref C) "__class__" = some (some (.builtin "object.__class__"))
  hn : PySem.W.specialIn K (.builtin "object.__class__") "__get__" = some (some (.builtin "getset_descriptor.__get__"))
  htk : PySem.W.takesIn K (.builtin "object.__class__") = some true
  hm : PySem.W.mroIn K C (.type "object") = some true
/-! ### the head's facts: defs by their addresses, any Bools besides -/
structure DefX where
  at_ : PySem.W.Frag → Addr
  name : Str
  qual : Str
  params : Arguments
  body : List Stmt
  scope : Scope
  dfl : List He.Dv := []
def fnX (K : PySem.W.Frag) (a : Addr) : He.FnW := match K.lookup a with
  | some ⟨_, _, .func fd, _⟩ => some (fd.name, fd.qualname, fd.params, fd.body, fd.scope, fd.globals, fd.closure, fd.builtins)
  | _ => none
def DefX.val (d : DefX) : He.FnW := some (d.name, d.qual, d.params, .stmts d.body, d.scope, mainGlobals, [], builtinsNs)
def DefX.dvs (K : PySem.W.Frag) (d : DefX) : List V := d.dfl.map (He.Dv.v K)
def DefX.ok (K : PySem.W.Frag) (d : DefX) : Bool := PySem.W.keepIn K (.ref (d.at_ K)) && (match K.lookup (d.at_ K) with
  | some ⟨_, _, .func fd, _⟩ => PySem.W.codeIn K fd.code d.qual && He.dflB K fd.defaults (d.dvs K)
  | _ => false)
theorem DefX.funD {K : PySem.W.Frag} {d : DefX} (e : fnX K (d.at_ K) = d.val) (c : d.ok K = true) : ∃ fd, FunD K d.name d.qual d.params d.body d.scope (d.dvs K) [] (d.at_ K) fd := by
  obtain ⟨kp, c2⟩ := He.ba c
  unfold fnX at e
  cases q : K.lookup (d.at_ K) with
  | none =>
    rw [q] at c2
    cases c2
  | some o =>
    obtain ⟨oc, od, dt, osl⟩ := o
    rw [q] at c2 e
    cases dt with
    | func fd =>
      obtain ⟨n1, n2, n3, n4, n5, n6, n7, n8, n9, n10, n11, n12, n13, n14, n15⟩ := fd
      have e2 : (some (n1, n2, n3, n4, n5, n6, n7, n15) : He.FnW) = some (d.name, d.qual, d.params, .stmts d.body, d.scope, mainGlobals, [], builtinsNs) := e
      simp only [Option.some.injEq, Prod.mk.injEq] at e2
      obtain ⟨h1, h2, h3, h4, h5, h6, h7, h8⟩ := e2
      subst h1 h2 h3 h4 h5 h6 h7 h8
      have c3 : (PySem.W.codeIn K n13 d.qual && He.dflB K n8 (d.dvs K)) = true := c2
      obtain ⟨k1, k3⟩ := He.ba c3
      exact ⟨_, ⟨oc, od, n8, n9, n10, n11, n12, n13, n14, osl, rfl, q, k1, He.dflB_ok k3, .inl rfl⟩, kp⟩
    | _ => cases c2
abbrev AlX : Type := Bool × List He.FnW
def obsX (bs : List (PySem.W.Frag → Bool)) (fn : List DefX) (K : PySem.W.Frag) : AlX := ((bs.all fun b => b K) && fn.all fun d => d.ok K, fn.map fun d => fnX K (d.at_ K))
def valX (fn : List DefX) : AlX := (true, fn.map DefX.val)
def SaysX (bs : List (PySem.W.Frag → Bool)) (fn : List DefX) (K : PySem.W.Frag) : Prop := obsX bs fn K = valX fn
section
variable {bs : List (PySem.W.Frag → Bool)} {fn : List DefX} {K : PySem.W.Frag}
theorem SaysX.fact (c : SaysX bs fn K) (i : Nat) {f : PySem.W.Frag → Bool} (h : bs[i]? = some f := by rfl) : f K = true := by
  have c1 := (He.ba (show ((bs.all fun b => b K) && fn.all fun d => d.ok K) = true from congrArg (fun z : AlX => z.1) c)).1
  exact List.all_eq_true.mp c1 f (List.mem_of_getElem? h)
theorem SaysX.def_ (c : SaysX bs fn K) (i : Nat) {d : DefX} (h : fn[i]? = some d := by rfl) : ∃ fd, FunD K d.name d.qual d.params d.body d.scope (d.dvs K) [] (d.at_ K) fd := by
  have c2 := (He.ba (show ((bs.all fun b => b K) && fn.all fun d => d.ok K) = true from congrArg (fun z : AlX => z.1) c)).2
  have e : fn.map (fun d => fnX K (d.at_ K)) = fn.map DefX.val := congrArg (fun z : AlX => z.2) c
  have e2 : (fn.map fun d => fnX K (d.at_ K))[i]? = (fn.map DefX.val)[i]? := by rw [e]
  rw [List.getElem?_map, List.getElem?_map, h] at e2
  exact DefX.funD (Option.some.inj e2) (List.all_eq_true.mp c2 d (List.mem_of_getElem? h))
end
/-! addresses: a property's getter, a static method's def -/
def recAt (K : PySem.W.Frag) (T : String) (p : Addr) : Addr := match PySem.W.recIn K p T with
  | some (.ref g :: _) => g
  | _ => 0
def isSomeRef (o : Option (List Value)) (g : Addr) : Bool := match o with
  | some (.ref a :: _) => decide (a = g)
  | _ => false
/-- a property of a class -/
def propB (K : PySem.W.Frag) (C : Addr) (f : Str) : Bool := He.eqO (PySem.W.findIn K (.ref C) f) (some (some (.ref (He.ma K C f)))) && (He.eqO (PySem.W.specialIn K (.ref (He.ma K C f)) "__get__") (some (some (.builtin "property.__get__"))) &&
  (decide (PySem.W.takesIn K (.ref (He.ma K C f)) = some true) && isSomeRef (PySem.W.recIn K (He.ma K C f) "property") (recAt K "property" (He.ma K C f))))
theorem propB_ok {K : PySem.W.Frag} {C : Addr} {f : Str} (h : propB K C f = true) : PropOf K C f (He.ma K C f) (recAt K "property" (He.ma K C f)) := by
  obtain ⟨h1, h⟩ := He.ba h
  obtain ⟨h2, h⟩ := He.ba h
  obtain ⟨h3, h4⟩ := He.ba h
  refine ⟨He.eqO_ok h1, He.eqO_ok h2, of_decide_eq_true h3, ?_⟩
  unfold isSomeRef at h4
  split at h4
  · rename_i a rest e
    have e2 := of_decide_eq_true h4
    rw [e2] at e
    exact ⟨rest, e⟩
  · cases h4
/-- a special method of a class -/
def splB (K : PySem.W.Frag) (C : Addr) (nm : Str) : Bool := He.eqO (PySem.W.findIn K (.ref C) nm) (some (some (.ref (He.ma K C nm)))) && PySem.W.isFn K (.ref (He.ma K C nm))
theorem splB_ok {K : PySem.W.Frag} {C : Addr} {nm : Str} (h : splB K C nm = true) : Spl K C nm (He.ma K C nm) := by
  obtain ⟨h1, h2⟩ := He.ba h
  exact ⟨He.eqO_ok h1, h2⟩
def isiB (K : PySem.W.Frag) (C : Addr) : Bool := He.eqO (PySem.W.findIn K (.ref C) "__class__") (some (some (.builtin "object.__class__"))) && (He.eqO (PySem.W.specialIn K (.builtin "object.__class__") "__get__") (some (some (.builtin "getset_descriptor.__get__"))) &&
  (decide (PySem.W.takesIn K (.builtin "object.__class__") = some true) && decide (PySem.W.mroIn K C (.type "object") = some true)))
theorem isiB_ok {K : PySem.W.Frag} {C : Addr} (hc : Cls K C) (h : isiB K C = true) : IsiC K C := by
  obtain ⟨h1, h⟩ := He.ba h
  obtain ⟨h2, h⟩ := He.ba h
  obtain ⟨h3, h4⟩ := He.ba h
  exact ⟨hc, He.eqO_ok h1, He.eqO_ok h2, of_decide_eq_true h3, of_decide_eq_true h4⟩
def kitB2 (K : PySem.W.Frag) (t u : Value) (b : Bool) : Bool := decide (PySem.W.kitOne K t u = some b)
theorem kitB2_ok {K : PySem.W.Frag} {t u : Value} {b : Bool} (h : kitB2 K t u b = true) : PySem.W.kitOne K t u = some b := of_decide_eq_true h
end DL

set_option Elab.async false
set_option linter.all false
set_option maxRecDepth 100000
set_option maxHeartbeats 4000000
/-! DLe: enumerate of a tuple, a tuple turned about. -/
namespace DL
open PySem PySem.Calls PyProof.Rows
open AutoSeq1 (wpAny_loadPart')
theorem meets_enumerate_newT (l : Addr) (items : Array Value) (n : Nat) (dct : Option Addr) (sl : Array (Option Value)) :
    Meets (Builtin.«enumerate.__new__» ⟨[.type "enumerate", .ref l], []⟩) (fun _ R s => s.heap.get? l = some { cls := .type "tuple", dict := dct, data := .seq items n, slots := sl } ∧
      R (.ok (.ret (.ref (s.heap.push { cls := .type "tuple_iterator", data := .fields #[.ref l, .int 0 0] }).objs.size)))
        { s with heap := (s.heap.push { cls := .type "tuple_iterator", data := .fields #[.ref l, .int 0 0] }).push { cls := .type "enumerate", data := .fields #[.none, .bool false, .ref s.heap.objs.size, rawInt 0, .none, .none] } }) :=
  .of_wp fun prog w A R s h => by
    obtain ⟨hp, g, d, tk, os⟩ := s; obtain ⟨hl, h⟩ := h
    have hsub := sub_enumerate
    have hL : Heap.IsTuple (Shared.heap ⟨hp, g, d, tk, os⟩) l items := ⟨_, hl, rfl, n, rfl⟩
    wp_walk using wpAny_loadPart' hl
    refine wpAny_stack_any fun st => wpAny_pure ?_
    split
    · rename_i c _ _ _ _ _
      cases (c == Value.type "enumerate")
      · wp_walk using wpAny_loadPart' hl, wpAny_pyIter_tuple hL
        exact ⟨_, rfl, h⟩
      · wp_walk using wpAny_loadPart' hl, wpAny_pyIter_tuple hL
        exact ⟨_, rfl, h⟩
    · wp_walk using wpAny_loadPart' hl, wpAny_pyIter_tuple hL
      exact ⟨_, rfl, h⟩
section
variable {prog : Program} {w : PySem.World} {A : Around} {Ex : Value → Shared → Prop} {s : Shared}
theorem call_enumerate_tuple {l : Addr} {items : Array Value} {Q : Value → Shared → Prop} (hL : s.heap.IsTuple l items)
    (h : ∀ h', IsEnum h' (s.heap.objs.size + 1) s.heap.objs.size 0 .none → h'.IsTupleIter s.heap.objs.size l 0 → h'.objs.size = s.heap.objs.size + 2 →
      (∀ b o, s.heap.get? b = some o → h'.get? b = some o) → Q (.ref (s.heap.objs.size + 1)) { s with heap := h' }) :
    wpAny (model prog w) A (call (.type "enumerate") [.ref l]) Q Ex s := by
  obtain ⟨⟨c, dct, dt, sl⟩, hl, hc, n, hd⟩ := hL
  replace hc : c = .type "tuple" := hc
  replace hd : dt = .seq items n := hd
  subst hc hd
  refine callType_new F.called_enumerate (by decide) (F.typeCall_enumerate_1 _) (F.newCall_enumerate_1 _) (fun obj => F.args_object_init_2 obj _) F.entry_enumerate_new
    (meets_enumerate_newT l items n dct sl) ⟨hl, ?_⟩
  have hz : (s.heap.push { cls := .type "tuple_iterator", data := .fields #[.ref l, .int 0 0] }).objs.size = s.heap.objs.size + 1 := Heap.size_push ..
  show _ ∧ _
  rw [hz]
  have he : IsEnum ((s.heap.push { cls := .type "tuple_iterator", data := .fields #[.ref l, .int 0 0] }).push
      { cls := .type "enumerate", data := .fields #[.none, .bool false, .ref s.heap.objs.size, rawInt 0, .none, .none] }) (s.heap.objs.size + 1) s.heap.objs.size 0 .none := by
    have := Heap.get?_push_size (s.heap.push { cls := .type "tuple_iterator", data := .fields #[.ref l, .int 0 0] })
      (o := { cls := .type "enumerate", data := .fields #[.none, .bool false, .ref s.heap.objs.size, rawInt 0, .none, .none] }) rfl
    rw [hz] at this; exact this
  refine ⟨⟨_, he, rfl⟩, h _ he ⟨_, Heap.get?_push_of_some _ (Heap.get?_push_size _ rfl), rfl, rfl⟩ (by rw [Heap.size_push, hz]) fun b o x => Heap.get?_push_of_some _ (Heap.get?_push_of_some _ x)⟩
/-! ### t[::-1] -/
end
end DL
namespace DL
open PySem PySem.Spec PyProof.Rows L2
section
variable {X : Cx}
/-- enumerate of a tuple: each item in a new pair -/
def IteT (K : PySem.W.Frag) (a : Addr) : It :=
  ⟨fun i H => ∃ (xs : List V) (x : V), SqT K H a xs ∧ xs[i]? = some x, fun i H v H' => ∃ T x, v = .ref T ∧ H T = none ∧ H' = upd H T (.tup [.int (i : Nat), x]) ∧ ∀ xs, SqT K H a xs → xs[i]? = some x, fun i H => ∃ xs : List V, SqT K H a xs ∧ xs.length ≤ i⟩
theorem turn_enumT {P : Program} {w : PySem.World} {K : PySem.W.Frag} {elts : List Expr} {kk : Nat} {tpos : Pos} (a e it : Addr) :
    Turn P w K (.Tuple elts kk tpos) (IteT K a) [e, it] e (fun i h => (∃ old, IsEnum h e it ((i : Nat) : Int) old) ∧ h.IsTupleIter it a i ∧ e ≠ it) where
  mem := by simp
  obj := fun i h st b hb => by
    obtain ⟨⟨old, he⟩, ⟨o, ho, hc, hd⟩, _⟩ := st
    have e' : b = e ∨ b = it := by simpa using hb
    rcases e' with z | z
    · rw [z]; exact ⟨_, he, fun v q => nomatch q⟩
    · rw [z]; exact ⟨o, ho, fun v q => by rw [hd] at q; cases q⟩
  keep := fun i h h' st k => let ⟨⟨old, he⟩, hi, hne⟩ := st; ⟨⟨old, k e (by simp) _ he⟩, hi.at fun o q => k it (by simp) o q, hne⟩
  item := by
    intro X hP hw hK hc i pins s σ H E I hf st hg
    subst hP hw hK
    obtain ⟨⟨old, he⟩, hit, hne⟩ := st
    obtain ⟨xs, x, hq, hx⟩ := hg
    obtain ⟨its, rv, p, hz⟩ := I.tuple hq
    obtain ⟨u, hu, ru⟩ := rv.get hx
    have hel : e < s.heap.objs.size := Heap.lt_size he
    have hil : it < s.heap.objs.size := by obtain ⟨_, q, _⟩ := hit; exact Heap.lt_size q
    have hpT : s.heap.IsTuple a its.toArray := p
    have nea : e ≠ a := fun z => by
      obtain ⟨o, h1, h2, _⟩ := hpT
      subst z
      rw [show s.heap.get? e = some _ from he] at h1
      cases h1
      exact absurd (Value.type.inj h2) (by decide)
    have nia : a ≠ it := fun z => by
      obtain ⟨o, h1, h2, _⟩ := hpT
      obtain ⟨o2, h3, h4, _⟩ := hit
      subst z
      rw [h1] at h3
      cases h3
      rw [h2] at h4
      exact absurd (Value.type.inj h4) (by decide)
    have hui : its.toArray[i]? = some u := by simpa using hu
    have hlt : i < its.toArray.size := (Array.getElem?_eq_some_iff.mp hui).1
    refine wpAny_pyNext_enum_itemD (Draws.tuple (A := X.A.in1) (I.ok.hd hc) it a nia its.toArray) he ⟨hit, hpT⟩ hlt hne (by simp; exact ⟨hne, nea⟩) fun x' h' tk hx' ho hst' hT hsz hk => ?_
    have ex : x' = u := by
      rw [hui] at hx'
      exact (Option.some.inj hx').symm
    subst ex
    refine ⟨_, rfl, wpAny_letOwnedTupleGo_enum (s := { s with heap := h', toks := tk + 1 }) ho fun h'' he' sb => ?_⟩
    have hT2 : h''.get? s.heap.objs.size = some { cls := .type "tuple", data := .seq #[.int i tk, x'] } := (sb.2 _ (Nat.ne_of_gt hel)).trans hT
    have new : ObjOk X.prog X.w (upd H s.heap.objs.size (.tup [.int (i : Nat), x])) h'' s.heap.objs.size (.tup [.int (i : Nat), x]) :=
      ⟨by show 2 ≤ sizeLine; decide, [.int i tk, x'], .cons ⟨_, rfl⟩ (.cons ru .nil), ⟨_, hT2, rfl, _, rfl⟩⟩
    have I1 : Inv X pins σ (upd H s.heap.objs.size (.tup [.int (i : Nat), x])) { s with heap := h'', toks := tk + 1 } :=
      I.turnedNew (ch := [e, it]) (fun b ob hb q => (sb.2 b (fun z => hb (by simp [z]))).trans (hk b ob (fun z => hb (by simp [z])) (fun z => hb (by simp [z])) q)) hf (Nat.le_refl _) new
    refine ⟨.ref s.heap.objs.size, _, I1, rfl, ⟨_, x, rfl, I.hok.fresh (Nat.le_refl _), rfl, fun ys hy => by rw [I.tuple_inj hy hq]; exact hx⟩, ⟨⟨x', ?_⟩, hst'.1.at fun o q => (sb.2 it (Ne.symm hne)).trans q, hne⟩, fun b hb => ?_⟩
    · have e1 : ((i + 1 : Nat) : Int) = (i : Int) + 1 := by omega
      rw [e1]; exact he'
    · have hb' : b < s.heap.objs.size := by
        have e' : b = e ∨ b = it := by simpa using hb
        rcases e' with z | z
        · rw [z]; exact hel
        · rw [z]; exact hil
      rw [upd_ne (Nat.ne_of_lt hb')]
      exact (hf b hb).1
  done := by
    intro X hP hw hK hc i pins s σ H E I hf st hg
    subst hP hw hK
    obtain ⟨⟨old, he⟩, hit, hne⟩ := st
    obtain ⟨xs, hq, hx⟩ := hg
    obtain ⟨its, rv, p, hz⟩ := I.tuple hq
    obtain ⟨f0, f1, f2, f3, f4, f5⟩ := hf it (by simp)
    have hl := rv.length
    have hpT : s.heap.IsTuple a its.toArray := p
    have hT : s.TypeIs (.ref e) "enumerate" := ⟨_, he, rfl⟩
    unfold pyNext
    refine wpAny_bind (wpAny_attempt (wpAny_callSpecial?_slot (name := Str.ofString "__next__") hT F.slot_enumerate_next
      (wpAny_call_entry F.slot_enumerate_next hT F.entry_enumerate_next ?_ (F.args_enumerate_next_1 _))))
    show wpAny _ _ (field (.ref e) 2 >>= _) _ _ _
    refine wpAny_bind (wpAny_field he rfl (x := .ref it) rfl ?_)
    refine wpAny_bind (wpAny_nextOf_tuple_end (I.ok.hd hc) hit hpT (by simp; omega) fun h' x he' hx' => ?_)
    obtain ⟨o, ho, hcc⟩ := hx'
    refine wpAny_bind (wpAny_isInstance (T := "StopIteration") (b := true) ⟨o, ho, hcc⟩ isSubtype_stop ?_)
    exact wpAny_pure ⟨rfl, I.turned (t' := s.toks) (fun b o hb q => he' b o hb q) f0 f1 f3 f4 f5⟩
  self := fun A i s Q E st h => let ⟨⟨_, he⟩, _⟩ := st; wpAny_pyIter_enum he h
/-- enumerate of a list or a tuple -/
def iEnumU (K : PySem.W.Frag) (ta : TA) : TI := fun σ H R => ta σ H fun vs H1 => ∃ a xs, vs = [.ref a] ∧ ((SqL K H1 a xs ∧ R (Ite K a) H1) ∨ (SqT K H1 a xs ∧ R (IteT K a) H1))
theorem pi_enumU {e : Expr} {ta : TA} {p pos tpos : Pos} {elts : List Expr} {kk : Nat} (hg : Gl X "enumerate") (hm : X.mg "enumerate" = none) (ha : PA X [e] ta) (hs : starEach [e] X.env = [(false, eval e X.env)] := by rfl) :
    PI X (.Tuple elts kk tpos) (.Call (.Name "enumerate" p) [e] [] pos) (iEnumU X.K ta) := by
  refine ⟨fun pins s σ H R I h => ?_⟩
  refine Call_ (ld_blt I hg hm boot_enumerate (PyProof.Rows.callWith_type1 (thn (ha.run pos pins s σ H _ I h) fun us s1 ⟨vs, H1, I1, r1, q1⟩ => ?_) hs rfl))
  obtain ⟨a, xs, ex, hq⟩ := q1
  subst ex
  cases r1 with
  | cons r rr =>
    cases rr
    cases r
    rcases hq with ⟨hq, q⟩ | ⟨hq, q⟩
    · obtain ⟨its, rv, p', hz⟩ := I1.list hq
      refine call_enumerate_list p'.isList fun h' he hit hsz hk => wpAny_pyIter_enum he ?_
      have I2 : Inv X pins σ H1 { s1 with heap := h' } := I1.kept (t' := s1.toks) hk
      refine ⟨s1.heap.objs.size + 1, [s1.heap.objs.size + 1, s1.heap.objs.size], _, _, H1, rfl, I2, turn_enum a (s1.heap.objs.size + 1) s1.heap.objs.size, ⟨⟨.none, he⟩, hit, Nat.succ_ne_self _⟩, fun b hb => ?_, q⟩
      have e' : b = s1.heap.objs.size + 1 ∨ b = s1.heap.objs.size := by simpa using hb
      have hle : s1.heap.objs.size ≤ b := by
        rcases e' with z | z
        · rw [z]; exact Nat.le_add_right _ _
        · rw [z]; exact Nat.le_refl _
      exact I1.fpOk hle (I1.hok.fresh hle)
    · obtain ⟨its, rv, p', hz⟩ := I1.tuple hq
      refine call_enumerate_tuple (show s1.heap.IsTuple a its.toArray from p') fun h' he hit hsz hk => wpAny_pyIter_enum he ?_
      have I2 : Inv X pins σ H1 { s1 with heap := h' } := I1.kept (t' := s1.toks) hk
      refine ⟨s1.heap.objs.size + 1, [s1.heap.objs.size + 1, s1.heap.objs.size], _, _, H1, rfl, I2, turn_enumT a (s1.heap.objs.size + 1) s1.heap.objs.size, ⟨⟨.none, he⟩, hit, Nat.succ_ne_self _⟩, fun b hb => ?_, q⟩
      have e' : b = s1.heap.objs.size + 1 ∨ b = s1.heap.objs.size := by simpa using hb
      have hle : s1.heap.objs.size ≤ b := by
        rcases e' with z | z
        · rw [z]; exact Nat.le_add_right _ _
        · rw [z]; exact Nat.le_refl _
      exact I1.fpOk hle (I1.hok.fresh hle)
end
end DL

set_option Elab.async false
set_option linter.all false
set_option maxRecDepth 100000
set_option maxHeartbeats 4000000
/-! A4: defs and their calls, objects, fields, properties, operators of own classes. -/
namespace DL
open PySem PySem.Spec PyProof.Rows L2
/-! ### views of objects -/
def ndO : Option Nd → Option (Str × List Str × List D)
  | some (.obj n fs ds) => some (n, fs, ds)
  | _ => Option.none
def asObj (μ : Mu) : D → Option (Str × List Str × List D)
  | .obj n fs ds => some (n, fs, ds)
  | .cell p => ndO (μ p)
  | _ => Option.none
theorem ndO_some {x : Option Nd} {n : Str} {fs : List Str} {ds : List D} (h : ndO x = some (n, fs, ds)) : x = some (.obj n fs ds) := by
  unfold ndO at h
  split at h
  · cases h
    rfl
  · cases h
theorem asObj_rep {c : Ctx} {S : Option SA} {F : Hp} {m : Nat} {I H : Hp} {μ : Mu} {d : D} {v : V} {n : Str} {fs : List Str} {ds : List D} (w : Wd c S F m I μ H) (r : Rep c S I d v) (h : asObj μ d = some (n, fs, ds)) :
    ∃ a dx xs, v = .ref a ∧ H a = some (.ins (c.cl n) dx (List.zip fs xs)) ∧ Reps c S I ds xs ∧ fs.length = xs.length ∧ n ∈ c.ns := by
  cases r with
  | obj g r l hn =>
    cases h
    exact ⟨_, _, _, rfl, w.ins g, r, l, hn⟩
  | cell =>
    obtain ⟨_, o, r, h2⟩ := w.m _ _ (ndO_some h)
    cases r with
    | obj r l hn => exact ⟨_, _, _, rfl, h2, r, l, hn⟩
  | _ => cases h
def fldD (f : Str) : List Str → List D → Option D
  | g :: gs, d :: ds => if f = g then some d else fldD f gs ds
  | _, _ => Option.none
theorem fld_rep {c : Ctx} {S : Option SA} {I : Hp} {f : Str} {d : D} : ∀ {fs : List Str} {ds : List D} {xs : List V}, Reps c S I ds xs → fldD f fs ds = some d → ∃ x, (List.zip fs xs).lookup f = some x ∧ Rep c S I d x
  | [], _, _, _, h => by simp [fldD] at h
  | _ :: _, _, _, .nil, h => by simp [fldD] at h
  | g :: gs, _, _, .cons (x := x) r rs, h => by
    unfold fldD at h
    by_cases e : f = g
    · rw [if_pos e] at h
      cases h
      subst e
      exact ⟨x, by simp [List.lookup], r⟩
    · rw [if_neg e] at h
      obtain ⟨y, h1, h2⟩ := fld_rep rs h
      refine ⟨y, ?_, h2⟩
      rw [List.zip_cons_cons, List.lookup_cons, show (f == g) = false from beq_eq_false_iff_ne.mpr e]
      exact h1
/-- a field is stored -/
def putN (f : Str) (d : D) : List Str → List D → List Str × List D
  | g :: gs, x :: xs => if g = f then (g :: gs, d :: xs) else ((g :: (putN f d gs xs).1), (x :: (putN f d gs xs).2))
  | gs, xs => (gs ++ [f], xs ++ [d])
theorem putN_rep {c : Ctx} {S : Option SA} {I : Hp} {f : Str} {d : D} {v : V} (r : Rep c S I d v) : ∀ {fs : List Str} {ds : List D} {xs : List V}, Reps c S I ds xs → fs.length = xs.length →
    ∃ ys, Reps c S I (putN f d fs ds).2 ys ∧ (putN f d fs ds).1.length = ys.length ∧ putF f v (List.zip fs xs) = List.zip (putN f d fs ds).1 ys
  | [], _, _, .nil, _ => ⟨[v], .cons r .nil, rfl, rfl⟩
  | [], _, _ :: _, .cons _ _, h => by cases h
  | _ :: _, _, [], .nil, h => by cases h
  | g :: gs, _, x :: xs, .cons h rs, l => by
    unfold putN
    by_cases e : g = f
    · rw [if_pos e]
      refine ⟨v :: xs, .cons r rs, by simpa using l, ?_⟩
      rw [List.zip_cons_cons, List.zip_cons_cons]
      show (if g = f then _ else _) = _
      rw [if_pos e]
    · rw [if_neg e]
      obtain ⟨ys, h1, h2, h3⟩ := putN_rep (f := f) r rs (by simpa using l : gs.length = xs.length)
      refine ⟨x :: ys, .cons h h1, by simpa using h2, ?_⟩
      rw [List.zip_cons_cons, List.zip_cons_cons, ← h3]
      show (if g = f then _ else _) = _
      rw [if_neg e]
/-! ### wishes -/
def wCall (s : WP) (dd : List D) (a : WA) : WE := fun e μ Q X => a e μ (fun ds μ1 => s (ds ++ dd) μ1 Q X) X
/-- an instance of the class n without an attribute m -/
def isOf (n m : Str) (μ : Mu) (x : D) (P : Prop) : Prop := match asObj μ x with
  | some (k, fs, _) => k = n ∧ m ∉ fs ∧ P
  | Option.none => False
theorem isOf_cases {n m : Str} {μ : Mu} {x : D} {P : Prop} (h : isOf n m μ x P) : ∃ fs ds, asObj μ x = some (n, fs, ds) ∧ m ∉ fs ∧ P := by
  unfold isOf at h
  split at h
  · rename_i k fs ds e
    obtain ⟨rfl, h1, h2⟩ := h
    exact ⟨fs, ds, e, h1, h2⟩
  · exact h.elim
def wMeth (n m : Str) (s : WP) (dd : List D) (r : WE) (a : WA) : WE := fun e μ Q X => r e μ (fun x μ1 => isOf n m μ1 x (a e μ1 (fun ds μ2 => s (x :: (ds ++ dd)) μ2 Q X) X)) X
def wProp (n f : Str) (s : WP) (r : WE) : WE := fun e μ Q X => r e μ (fun x μ1 => isOf n f μ1 x (s [x] μ1 Q fun _ _ => False)) X
def wFld (n f : Str) (r : WE) : WE := fun e μ Q X => r e μ (fun x μ1 => match asObj μ1 x with
  | some (k, fs, ds) => k = n ∧ (match fldD f fs ds with
    | some d => Q d μ1
    | Option.none => False)
  | Option.none => False) X
def wSetF (n f : Str) (o v : WE) : WS := fun e μ E => v e μ (fun d μ1 => o e μ1 (fun x μ2 => match x with
  | .cell p => (match ndO (μ2 p) with
    | some (k, fs, ds) => k = n ∧ fs.length < 1000 ∧ E.nx e (up μ2 p (.obj k (putN f d fs ds).1 (putN f d fs ds).2))
    | Option.none => False)
  | _ => False) fun d μ1 => E.xp d e μ1) fun d μ1 => E.xp d e μ1
def wMake (m : Bool) (n : Str) (s : WP) (dd : List D) (a : WA) : WE := fun e μ Q X => a e μ (fun ds μ1 => ∀ p, μ1 p = Option.none → s (.cell p :: (ds ++ dd)) (up μ1 p (.obj n [] [])) (fun r μ2 => r = .none ∧ (match μ2 p with
  | some nd => sett m Q (.n nd) (del μ2 p)
  | Option.none => False)) X) X
/-- a def of n parameters, N names -/
def initE (N : Nat) (ds : List D) : EnvD := ds.map some ++ List.replicate (N - ds.length) Option.none
def wDef (n N : Nat) (b : WS) : WP := fun ds μ Q X => ds.length = n ∧ b (initE N ds) μ ⟨fun _ μ1 => Q .none μ1, Q, fun _ _ => False, fun _ _ => False, fun d _ μ1 => X d μ1⟩
/-! ### a def's promise -/
def SpW (c : Ctx) (s : WP) (k : Nat) : Sp := fun vs H Q Ex => ∃ S F n I μ ds Qd Xd, n + k ≤ LIM ∧ Wd c S F n I μ H ∧ Reps c S I ds vs ∧ s ds μ Qd Xd ∧ QV c S F (n + k) I Qd Q ∧ ∀ d μ' cls dx I' H', Xd d μ' → Same I I' → Wd c S F (n + k) I' μ' H' → ErrAt c S I' d cls dx → Ex cls dx H'
/-- what a def asks of the calls around it: nothing, or that no repr is under way -/
class Gds where
  ok : Around → Prop
  in1 : ∀ {A : Around}, ok A → ok A.in1
  deeper : ∀ {A : Around} {e : Env}, ok A → ok (A.deeper e)
  tyc : ∀ {A : Around} {us : Args}, ok A → ok (A.under (.builtin "type.__call__" us))
theorem guards_tyc {A : Around} {us : Args} (gd : A.guards = some []) : (A.under (.builtin "type.__call__" us)).guards = some [] := by
  first | exact gd | (simpa [Around.under, Code.isGuard, guardIds] using gd)
/-- no repr is under way -/
instance (priority := low) gdsR : Gds := ⟨fun A => A.guards = some [], fun h => h, fun h => h, guards_tyc⟩
/-- nothing is asked -/
@[reducible] def gdsT : Gds := ⟨fun _ => True, fun h => h, fun h => h, fun h => h⟩
variable [Gds]
structure FnW (P : Program) (w : PySem.World) (K : PySem.W.Frag) (mg : Str → Option Value) (base : Heap) (k : Nat) (f : Addr) (fd : FuncData) (ps : List Str) (sp : Sp) : Prop where
  len : ∀ vs H Q E, sp vs H Q E → vs.length = ps.length
  run : ∀ (A : Around) (outer : List Env) (s : Shared) (H : Hp) (args : Args) (us : List Value) (vs : List V) (Q : VK) (E : XK), Gds.ok A → Room k A → Env0 P w K mg base A outer s H →
    BindsTo s fd args (ps.zip us) → Vals vs us → sp vs H Q E → codeAny (model P w) A (.call (.ref f) args) (CR (L2.CX P w) outer P w H s Q E) s
/-- a def's code object -/
def codeAt (K : PySem.W.Frag) (f : Addr) : Addr := match K.lookup f with
  | some ⟨_, _, .func fd, _⟩ => (match fd.code with
    | .ref c => c
    | _ => 0)
  | _ => 0
theorem codeAt_eq {K : PySem.W.Frag} {f : Addr} {oc : Value} {od : Option Addr} {osl : Array (Option Value)} {fd : FuncData} {q : Str} (lk : K.lookup f = some ⟨oc, od, .func fd, osl⟩) (h : PySem.W.codeIn K fd.code q = true) : fd.code = .ref (codeAt K f) := by
  unfold codeAt
  rw [lk]
  show fd.code = .ref (match fd.code with | .ref c => c | _ => 0)
  cases e : fd.code with
  | ref c => rfl
  | _ =>
    rw [e] at h
    cases h
section
variable {P : Program} {w : PySem.World} {K : PySem.W.Frag} {mg : Str → Option Value} {base : Heap} {k : Nat} {f : Addr} {fd : FuncData} {ps : List Str} {sp : Sp}
theorem fnW_of {x qual : Str} {pa : Arguments} {bd : List Stmt} {sc : Scope} {dvs : List V} {kws : List (Str × V)} {N : List Str} (F : FunD K x qual pa bd sc dvs kws f fd) (Sc : FnScope N ps sc) (len : ∀ vs H Q E, sp vs H Q E → vs.length = ps.length)
    (hb : ∀ (A : Around) (outer : List Env) (s : Shared) (H : Hp) (vs : List V) (Q : VK) (E : XK), Gds.ok (A.deeper (envOfC qual sc s.heap.objs.size f (.ref (codeAt K f)))) → Room k (A.deeper (envOfC qual sc s.heap.objs.size f (.ref (codeAt K f)))) → sp vs H Q E →
      ∃ t, PSs (cxOf (L2.CX P w) P w K mg base N qual sc f (.ref (codeAt K f)) A outer s H E) bd t ∧ t { nx := fun _ H' => Q .non H', rt := Q } (start N vs) H) : FnW P w K mg base (k + 1) f fd ps sp := by
  obtain ⟨oc, od, dV, kV, doc, pm, an, cdv, ct, osl, rfl, lk, hc, _, _⟩ := F.ex
  have hcd : cdv = .ref (codeAt K f) := codeAt_eq (fd := PySem.W.fnOf x qual pa bd sc dV kV doc pm an cdv ct) lk hc
  subst hcd
  refine ⟨len, fun A outer s H args us vs Q E gd room en bi re hs => ?_⟩
  have many := len _ _ _ _ hs
  have kin : K.In s.heap := en.mod.kin.keeps fun b o z => (en.bs b o z).1
  have nol : s.heap.NoLimit := en.mod.nolimit.keeps fun b o z => (en.bs b o z).1
  have kinds : ∀ y ∈ ps.zip us, sc.names.lookup y.1 = some .local ∨ (sc.names.lookup y.1 = some .cell ∧ ((cellsFrom (s.heap.objs.size + 1) sc.names []).lookup y.1).isSome = true) := by
    rintro ⟨n, v⟩ hy
    have hp := Sc.par n (List.of_mem_zip hy).1
    rcases hp with z | z
    · exact .inl z
    · exact .inr ⟨z, PySem.W.cellsFrom_some _ _ _ (.inl z)⟩
  have after : ∀ s1 : Shared, InCallC s s.heap.objs.size (bindL (envOfC qual sc s.heap.objs.size f (.ref (codeAt K f))).kindOf (ps.zip us) fun _ => none) (cellsFrom (s.heap.objs.size + 1) sc.names [])
        (bindC (envOfC qual sc s.heap.objs.size f (.ref (codeAt K f))).kindOf (ps.zip us) fun _ => none) s1 → s1.heap.NoLimit ∧ codeAny (model P w) A (.func bd (envOfC qual sc s.heap.objs.size f (.ref (codeAt K f)))) (CR (L2.CX P w) outer P w H s Q E) s1 := fun s1 x1 => by
    refine ⟨nol.keeps x1.toInCall.keep, codeAny_func ?_⟩
    obtain ⟨t, ht, hq⟩ := hb A outer s H vs Q E (Gds.deeper gd) (room.deeper _) hs
    have J : Inv (cxOf (L2.CX P w) P w K mg base N qual sc f (.ref (codeAt K f)) A outer s H E) [] (start N vs) H s1 := inv_start Sc room.hd en many re x1
    refine wpAny_mono (ht.run [] s1 (start N vs) H _ J hq) (fun fl s2 z => ?_) fun e s2 z => z
    cases fl with
    | ret u =>
      obtain ⟨v, σ2, H2, J2, rv, q2⟩ := z
      exact ⟨v, H2, J2.os, J2.bare, J2.base, J2.hok, rv, q2⟩
    | next =>
      obtain ⟨σ2, H2, J2, q2⟩ := z
      exact ⟨.non, H2, J2.os, J2.bare, J2.base, J2.hok, rfl, q2⟩
    | brk => exact z.elim fun _ z => z.elim fun _ z => False.elim z.2
    | cont => exact z.elim fun _ z => z.elim fun _ z => False.elim z.2
  refine codeAny_call_function room.depth (kin _ _ lk) rfl Sc.co Sc.gen rfl (PySem.W.codeRec_of kin hc) (bi _ _ _ _ (wpAny_newFunctionEnv_cells Sc.kind kinds fun env he s1 x1 => ?_))
  subst he
  exact after s1 x1
end
theorem SpW.len {c : Ctx} {n N : Nat} {b : WS} {k : Nat} {ps : List Str} (hn : n = ps.length) {vs : List V} {H : Hp} {Q : VK} {Ex : XK} (h : SpW c (wDef n N b) k vs H Q Ex) : vs.length = ps.length := by
  obtain ⟨S, F, m, I, μ, ds, Qd, Xd, hl, w, r, h, _⟩ := h
  rw [← r.length, h.1, hn]
/-- a def's body runs -/
theorem run_wDef {c : Ctx} {n : Nat} {b : WS} {k kb : Nat} {N : List Str} {vs : List V} {H : Hp} {Q : VK} {Ex : XK} (h : SpW c (wDef n N.length b) k vs H Q Ex) (hk : kb ≤ k) : ldS c (fun cls d _ H => Ex cls d H) kb b { nx := fun _ H' => Q .non H', rt := Q } (L2.start N vs) H := by
  obtain ⟨S, F, m, I, μ, ds, Qd, Xd, hl, w, r, ⟨hn, h⟩, q, x⟩ := h
  refine ⟨S, F, m, I, μ, initE N.length ds, _, by omega, ?_, w, h, ⟨fun e' μ' σ' I' H' p s r' w' => q .none μ' .non I' H' p s (w'.up (by omega)) .none, fun d μ' v I' H' p s w' r' => q d μ' v I' H' p s (w'.up (by omega)) r', fun _ _ _ _ _ p => p.elim, fun _ _ _ _ _ p => p.elim, fun d e' μ' cls dx σ' I' H' p s _ w' er => x d μ' cls dx I' H' p s (w'.up (by omega)) er⟩⟩
  unfold initE L2.start
  rw [r.length]
  exact EnvR.init _ r
/-- a def with its promise -/
def OkW (P : Program) (w : PySem.World) (c : Ctx) (mg : Str → Option Value) (base : Heap) (k : Nat) (f : Addr) (ps : List Str) (s : WP) (kf : Nat) (dvs : List V) : Prop :=
  ∃ fd, FnW P w c.K mg base k f fd ps (SpW c s kf) ∧ Binds c.K fd ps [] ∧ PySem.W.keepIn c.K (.ref f) = true ∧ ∃ ds, Vals dvs ds ∧ Binds c.K fd ps ds
section
variable {X : Cx} {c : Ctx} {W : WX} {k kf ka kb ko : Nat} {f C : Addr} {fd : FuncData} {ps : List Str} {sp : Sp} {s : WP} {dvs : List V} {dv : List Value} {dd : List D}
theorem FnW.mono {j : Nat} (F : FnW X.prog X.w X.K X.mg X.base j f fd ps sp) (h : j ≤ k) : FnW X.prog X.w X.K X.mg X.base k f fd ps sp := ⟨F.len, fun A outer s H args us vs Q E gd hr => F.run A outer s H args us vs Q E gd (hr.mono h)⟩
/-- the callee runs -/
theorem run_fnW {pins : List (Addr × Obj)} {σ : L2.St} {H : Hp} {s : Shared} {Q : VK} {us : List Value} {vs : List V} (F : FnW X.prog X.w X.K X.mg X.base k f fd ps sp) (gd : Gds.ok X.A) (hr : Room k X.A) (hb : Binds X.K fd ps dv) (hd : Vals dvs dv) (tk : Takes X W)
    (J : Inv X pins σ H s) (r : Vals vs us) (h : sp (vs ++ dvs) H Q fun cls d H' => W cls d σ H') : wpAny (model X.prog X.w) X.A (call (.ref f) us) (EP X pins σ Q) X.xe s := by
  have r2 : Vals (vs ++ dvs) (us ++ dv) := r.append hd
  have hl : (us ++ dv).length = ps.length := by rw [← r2.length]; exact F.len _ _ _ _ h
  refine wpAny_call (codeAny_mono (F.run X.A X.stack s H ⟨us, []⟩ (us ++ dv) (vs ++ dvs) Q _ gd hr J.env0 (hb s us J.kIn hl) r2 h) fun r s' hq => ?_)
  cases r with
  | error e => exact tk e s' (XE.of_call J (fun _ _ _ h => h) hq)
  | ok fl =>
    cases fl with
    | ret u => exact J.after hq
    | next => exact False.elim hq
    | brk => exact False.elim hq
    | cont => exact False.elim hq
theorem run_fnW1 {pins : List (Addr × Obj)} {σ : L2.St} {H : Hp} {s : Shared} {Q : VK} {us : List Value} {vs : List V} (F : FnW X.prog X.w X.K X.mg X.base k f fd ps sp) (gd : Gds.ok X.A) (hr : Room (k + 1) X.A) (hb : Binds X.K fd ps []) (tk : Takes X W)
    (J : Inv X pins σ H s) (r : Vals vs us) (h : sp vs H Q fun cls d H' => W cls d σ H') : wpAny (model X.prog X.w) X.A.in1 (call (.ref f) us) (EP X pins σ Q) X.xe s := by
  have hl : (us ++ ([] : List Value)).length = ps.length := by rw [List.append_nil, ← r.length]; exact F.len _ _ _ _ h
  have hbs := hb s us J.kIn hl
  rw [List.append_nil] at hbs
  refine wpAny_call (codeAny_mono (F.run X.A.in1 X.stack s H ⟨us, []⟩ us vs Q _ (Gds.in1 gd) hr.in1 J.env0.in1 hbs r h) fun r s' hq => ?_)
  cases r with
  | error e => exact tk e s' (XE.of_call J (fun _ _ _ h => h) hq)
  | ok fl =>
    cases fl with
    | ret u => exact J.after hq
    | next => exact False.elim hq
    | brk => exact False.elim hq
    | cont => exact False.elim hq
/-- a call as a wish: the arguments, then the promise -/
theorem ld_call {wr : WA} {σ : L2.St} {H : Hp} {Q : VK} (hd : ∀ S I, Reps c S I dd dvs) (h : ldE c W (ka + kf) (wCall s dd wr) σ H Q) : ldA c W ka wr σ H fun vs H1 => SpW c s kf (vs ++ dvs) H1 Q fun cls d H' => W cls d σ H' := by
  obtain ⟨S, F, n, I, μ, e, Qd, Xd, hl, he, hw, h, q, x⟩ := h
  refine ⟨S, F, n, I, μ, e, _, Xd, by omega, he, hw, h, fun ds μ1 vs I1 H1 pa s1 w1 ra => ?_, x.mono (by omega) (Same.refl I)⟩
  exact ⟨S, F, n + ka, I1, μ1, _, Qd, Xd, by omega, w1, ra.append (hd S I1), pa, q.mono (by omega) s1, fun d μ' cls dx I' H' p s2 w' er => x d μ' cls dx I' H' p (s1.trans s2) (w'.up (by omega)) er⟩
variable {x m : Str} {p pos apos : Pos} {a o : Expr} {es : List Expr} {wr : WA} {wo : WE}
/-- f(a, ..) -/
theorem g_call (F : FnW X.prog X.w X.K X.mg X.base k f fd ps (SpW c s kf)) (gd : Gds.ok X.A) (hr : Room k X.A) (hg : Gl X x) (hm : X.mg x = some (.ref f)) (hk : PySem.W.keepIn X.K (.ref f) = true) (hb : Binds X.K fd ps dv) (hd : Vals dvs dv) (hdd : ∀ S I, Reps c S I dd dvs) (tk : Takes X W)
    (ha : GA X c W ka (a :: es) wr) (hdb : (x == ("__debug__" : Str)) = false := by decide) (he : starEach (a :: es) X.env = (false, eval a X.env) :: starEach es X.env := by rfl) (hpl : (backTo pos (starEach es X.env)).any (·.1) = false := by rfl) :
    GE X c W (ka + kf) (.Call (.Name x p) (a :: es) [] pos) (wCall s dd wr) := by
  refine ⟨fun pins s σ H Q J h => ?_⟩
  refine wpAny_Call_Name_kw (ld_glob J hg hm ?_ hdb)
  refine PySem.W.callWith_K (h₀ := X.base) J.ok.mod.kin hk (thn (ha.run pos pins s σ H _ J (ld_call hdd h)) fun us s1 ⟨vs, H1, I1, r, q⟩ => ⟨I1.kIn, ?_⟩) he hpl
  exact run_fnW F gd hr hb hd tk I1 r q
/-! properties, fields -/
theorem getprop_okW {pr g aa dx : Addr} {fs : List (Str × V)} {pins : List (Addr × Obj)} {σ : L2.St} {H : Hp} {s : Shared} {Q : VK} {b : Bool} {E' : Value → Shared → Prop} (J : Inv X pins σ H s) (ea : H aa = some (.ins C dx fs)) (cc : Cls X.K C) (hp : PropOf X.K C m pr g)
    (F : FnW X.prog X.w X.K X.mg X.base k g fd ps sp) (gd : Gds.ok X.A) (hr : Room (k + 1) X.A) (hb : Binds X.K fd ps []) (h : sp [.ref aa] H Q fun _ _ _ => False) : wpAny (model X.prog X.w) X.A (getAttr (.ref aa) m b) (EP X pins σ Q) E' s := by
  obtain ⟨mA, O, _, _, _, _⟩ := ins_get J.hok ea
  obtain ⟨od, Jx, _⟩ := O.look
  obtain ⟨rest, hrec⟩ := hp.rec_
  have I1 := J.tok (s.toks + 1)
  have hl : ([Value.ref aa] ++ ([] : List Value)).length = ps.length := by
    rw [← F.len _ _ _ _ h]
    rfl
  have hc : (PySem.W.clsIn X.K C).isSome = true := by
    obtain ⟨cd, hc, _⟩ := PySem.W.any_some cc.hd
    rw [hc]
    rfl
  have hbs := hb { s with toks := s.toks + 1 } [.ref aa] I1.kIn hl
  rw [List.append_nil] at hbs
  refine PySem.W.get_bind J.kIn Jx (PySem.W.plainGet_of (cc.get m)).1 (PySem.W.findObj_data hc hp.at_ hp.get hp.tak) (PySem.W.plainGet_of (cc.get m)).2 (wpAny_call (PySem.W.prop_get (s := { s with toks := s.toks + 1 }) J.kIn hrec ?_))
  refine codeAny_mono (F.run X.A.in1 X.stack { s with toks := s.toks + 1 } H ⟨[.ref aa], []⟩ [.ref aa] [.ref aa] Q _ (Gds.in1 gd) hr.in1 I1.env0.in1 hbs (.cons rfl .nil) h) fun r s' hq => ?_
  cases r with
  | error er =>
    obtain ⟨_, _, _, _, _, _, _, _, _, _, _, _, z⟩ := hq
    exact z.elim
  | ok fl =>
    cases fl with
    | ret u =>
      obtain ⟨v, H', I3, rv, q3⟩ := I1.after hq
      show wpAny _ _ (handedOut u) _ _ _
      rw [PySem.W.handedOut_of (handed_of rv)]
      exact wpAny_pure ⟨v, H', I3, rv, q3⟩
    | next => exact False.elim hq
    | brk => exact False.elim hq
    | cont => exact False.elim hq
theorem g_prop {n : Str} {pr g : Addr} (ho : GE X c W ko o wo) (cc : Cls X.K (c.cl n)) (hp : PropOf X.K (c.cl n) m pr g) (F : FnW X.prog X.w X.K X.mg X.base k g fd ps (SpW c s kf)) (gd : Gds.ok X.A) (hr : Room (k + 1) X.A) (hb : Binds X.K fd ps [])
    (hab : attributeBase o m X.env (eval o X.env) = eval o X.env := by rfl) : GE X c W (ko + kf) (.Attribute o m pos) (wProp n m s wo) := by
  refine ⟨fun pins sh σ H Q J h => ?_⟩
  have h2 : ldE c W ko wo σ H fun x H1 => ∃ a dx fs, x = .ref a ∧ H1 a = some (.ins (c.cl n) dx fs) ∧ SpW c s kf [.ref a] H1 Q fun _ _ _ => False := by
    obtain ⟨S, F', nn, I, μ, e, Qd, Xd, hl, he, hw, h, q, x⟩ := h
    refine ⟨S, F', nn, I, μ, e, _, Xd, by omega, he, hw, h, fun d μ1 v I1 H1 pa s1 w1 ra => ?_, x.mono (by omega) (Same.refl I)⟩
    obtain ⟨fs, ds, e1, e2, pa⟩ := isOf_cases pa
    obtain ⟨a, dx, xs, rfl, h1, r1, l1⟩ := asObj_rep w1 ra e1
    exact ⟨a, dx, _, rfl, h1, S, F', nn + ko, I1, μ1, [d], Qd, _, by omega, w1, .cons ra .nil, pa, q.mono (by omega) s1, fun _ _ _ _ _ _ z => z.elim⟩
  refine attr_of hab (thn (ho.run pins sh σ H _ J h2) fun u s1 ⟨x, H1, I1, rx, a, dx, fs, ex, ea, q⟩ => ?_)
  subst ex
  obtain rfl : u = Value.ref a := rx
  exact getprop_okW I1 ea cc hp F gd hr hb q
theorem g_fld {n : Str} (ho : GE X c W ko o wo) (cc : Cls X.K (c.cl n)) (hn : NoAttr X.K (c.cl n) m) (hb : attributeBase o m X.env (eval o X.env) = eval o X.env := by rfl) : GE X c W ko (.Attribute o m pos) (wFld n m wo) := L2.PE.imp (pe_fld ho hb) fun σ H Q h => by
  obtain ⟨S, F', nn, I, μ, e, Qd, Xd, hl, he, hw, h, q, x⟩ := h
  refine ⟨S, F', nn, I, μ, e, _, Xd, hl, he, hw, h, fun d μ1 v I1 H1 pa s1 w1 ra => ?_, x⟩
  dsimp only at pa
  split at pa
  · rename_i k fs ds e1
    obtain ⟨rfl, pa⟩ := pa
    split at pa
    · rename_i d2 e2
      obtain ⟨a, dx, xs, rfl, h1, r1, l1⟩ := asObj_rep w1 ra e1
      obtain ⟨y, h2, h3⟩ := fld_rep r1 e2
      exact ⟨_, _, _, _, y, rfl, h1, cc, hn, h2, q d2 μ1 y I1 H1 pa s1 w1 h3⟩
    · exact pa.elim
  · exact pa.elim
theorem g_setF {n : Str} {v : Expr} {wv : WE} {pos' : Pos} (ho : GE X c W ko o wo) (hv : GE X c W ka v wv) (cc : Cls X.K (c.cl n)) (hn : NoAttr X.K (c.cl n) m) (hs : swapsWith v (some (.Attribute o m pos')) pos.line X.env = pure false := by rfl) :
    GS X c W (ka + ko) (.Assign [.Attribute o m pos'] v pos) (wSetF n m wo wv) := L2.PS.imp (ps_fld ho hv hs) fun K σ H h => by
  obtain ⟨S, F', nn, I, μ, e, E, hl, he, hw, h, q⟩ := h
  refine ⟨S, F', nn, I, μ, e, _, _, by omega, he, hw, h, fun d μ1 v I1 H1 pa s1 w1 ra => ?_, (q.x he).mono (by omega) (Same.refl I)⟩
  refine ⟨S, F', nn + ka, I1, μ1, e, _, _, by omega, he.mono s1, w1, pa, fun d2 μ2 v2 I2 H2 pb s2 w2 rb => ?_, (q.x he).mono (by omega) s1⟩
  dsimp only at pb
  split at pb
  · split at pb
    · rename_i pp _ k fs ds e1
      obtain ⟨rfl, hz, pb⟩ := pb
      cases rb
      obtain ⟨_, o2, r2, h2⟩ := w2.m _ _ (ndO_some e1)
      cases r2 with
      | @obj _ dx _ _ xs r2 l2 hn2 =>
        obtain ⟨ys, g1, g2, g3⟩ := putN_rep (f := m) (ra.mono s2) r2 l2
        refine ⟨_, _, _, _, rfl, h2, cc, hn, by rw [List.length_zip, ← l2, Nat.min_self]; exact hz, ?_⟩
        rw [g3]
        exact q.nx e _ σ I2 _ pb (s1.trans s2) (he.mono (s1.trans s2)) ((w2.put (ndO_some e1) (NdR.obj g1 g2 hn2)).up (by omega))
    · exact pb.elim
  · exact pb.elim
/-! C(..) -/
theorem run_makeW {pins : List (Addr × Obj)} {σ : L2.St} {H : Hp} {s : Shared} {Q : VK} {us : List Value} {vs : List V} (M : Mk X.K C f) (F : FnW X.prog X.w X.K X.mg X.base k f fd ps sp) (gd : Gds.ok X.A) (hr : Room (k + 1) X.A) (hb : Binds X.K fd ps dv) (hd : Vals dvs dv)
    (tk : Takes X W) (J : Inv X pins σ H s) (r : Vals vs us)
    (h : ∀ x dx, H x = none → H dx = none → dx ≠ x → sp (.ref x :: (vs ++ dvs)) (upd (upd H dx (.own x)) x (.ins C dx [])) (fun v H2 => v = .non ∧ Q (.ref x) H2) fun cls d H' => W cls d σ H') :
    wpAny (model X.prog X.w) X.A (call (.ref C) us) (EP X pins σ Q) X.xe s := by
  have hq := h (s.heap.objs.size + 1) s.heap.objs.size (J.hok.fresh (Nat.le_succ _)) (J.hok.fresh (Nat.le_refl _)) (Nat.ne_of_lt (Nat.lt_succ_self _))
  have I2 := Inv.made (C := C) J
  have r2 : Vals (V.ref (s.heap.objs.size + 1) :: (vs ++ dvs)) (Value.ref (s.heap.objs.size + 1) :: (us ++ dv)) := .cons rfl (r.append hd)
  have hl : (Value.ref (s.heap.objs.size + 1) :: us ++ dv).length = ps.length := by
    have e := r2.length
    rw [F.len _ _ _ _ hq] at e
    exact e.symm
  have gd2 : Gds.ok (X.A.under (.builtin "type.__call__" ⟨.ref C :: us, []⟩)) := Gds.tyc gd
  refine wpAny_call (make_map (f := f) J.kIn M.makes M.init (beq_iff_eq.mp M.fn) (codeAny_mono (F.run _ X.stack _ _ ⟨Value.ref (s.heap.objs.size + 1) :: us, []⟩ (Value.ref (s.heap.objs.size + 1) :: (us ++ dv)) _ _ _ gd2 (hr.make C us [])
    (I2.env0.make C us []) (hb _ (Value.ref (s.heap.objs.size + 1) :: us) I2.kIn hl) r2 hq) fun r s' hq' => ?_))
  cases r with
  | error e => exact tk e s' (XE.of_call I2 (fun _ _ _ h => h) hq')
  | ok fl =>
    cases fl with
    | ret u =>
      obtain ⟨v, H', I3, rv, ev, q3⟩ := I2.after hq'
      subst ev
      exact ⟨rv, ⟨V.ref (s.heap.objs.size + 1), H', I3, rfl, q3⟩⟩
    | next => exact False.elim hq'
    | brk => exact False.elim hq'
    | cont => exact False.elim hq'
theorem ld_make {n : Str} {mm : Bool} {σ : L2.St} {H : Hp} {Q : VK} (hns : n ∈ c.ns) (hd : ∀ S I, Reps c S I dd dvs) (h : ldE c W (ka + kf) (wMake mm n s dd wr) σ H Q) : ldA c W ka wr σ H fun vs H1 => ∀ x dx, H1 x = none → H1 dx = none → dx ≠ x →
    SpW c s kf (.ref x :: (vs ++ dvs)) (upd (upd H1 dx (.own x)) x (.ins (c.cl n) dx [])) (fun v H2 => v = .non ∧ Q (.ref x) H2) fun cls d H' => W cls d σ H' := by
  obtain ⟨S, F, nn, I, μ, e, Qd, Xd, hl, he, hw, h, q, x⟩ := h
  refine ⟨S, F, nn, I, μ, e, _, Xd, by omega, he, hw, h, fun ds μ1 vs I1 H1 pa s1 w1 ra p dx hp hdx ne => ?_, x.mono (by omega) (Same.refl I)⟩
  have w2 := w1.frame (p := dx) (u := .own p) hdx
  have hp2 : upd H1 dx (.own p) p = none := by rw [upd_ne (Ne.symm ne)]; exact hp
  have w3 := w2.newCell (p := p) (u := .ins (c.cl n) dx []) (nd := .obj n [] []) hp2 (NdR.obj (fs := []) (xs := []) .nil rfl hns)
  refine ⟨S, F, nn + ka, I1, _, _, _, Xd, by omega, w3, .cons .cell (ra.append (hd S I1)), pa p (w1.fresh hp).2, fun d μ2 v I2 H2 pb s2 w4 rb => ?_, fun d μ' cls dx I' H' p s2 w' er => x d μ' cls dx I' H' p (s1.trans s2) (w'.up (by omega)) er⟩
  obtain ⟨rfl, pb⟩ := pb
  cases rb
  refine ⟨rfl, ?_⟩
  split at pb
  · rename_i nd e1
    obtain ⟨hi, o, r1, h1⟩ := w4.m p nd e1
    have hnc : ∀ a, S = some a → ¬ Cell a p := fun a ea qq => by
      have := ((w4.s a ea).2 p qq).2
      rw [e1] at this
      cases this
    refine (q.sett (m := mm)) _ (del μ2 p) _ I2 H2 pb (s1.trans s2) ((w4.drop fun b nd' e => ?_).up (by omega)) ⟨p, o, rfl, h1, r1, hi, del_same, hnc, w4.nfm e1⟩
    by_cases z : b = p
    · rw [z, del_same] at e
      cases e
    · rw [del_ne z] at e
      exact e
  · exact pb.elim
theorem g_make {n : Str} {mm : Bool} (M : Mk X.K (c.cl n) f) (F : FnW X.prog X.w X.K X.mg X.base k f fd ps (SpW c s kf)) (gd : Gds.ok X.A) (hr : Room (k + 1) X.A) (hg : Gl X x) (hm : X.mg x = some (.ref (c.cl n))) (hb : Binds X.K fd ps dv) (hd : Vals dvs dv) (hdd : ∀ S I, Reps c S I dd dvs) (tk : Takes X W)
    (ha : GA X c W ka (a :: es) wr) (hns : n ∈ c.ns := by decide) (hdb : (x == ("__debug__" : Str)) = false := by decide) (he : starEach (a :: es) X.env = (false, eval a X.env) :: starEach es X.env := by rfl) (hpl : (backTo pos (starEach es X.env)).any (·.1) = false := by rfl) :
    GE X c W (ka + kf) (.Call (.Name x p) (a :: es) [] pos) (wMake mm n s dd wr) := by
  refine ⟨fun pins s σ H Q J h => ?_⟩
  refine wpAny_Call_Name_kw (ld_glob J hg hm ?_ hdb)
  refine PySem.W.callWith_K (h₀ := X.base) J.ok.mod.kin M.kp (thn (ha.run pos pins s σ H _ J (ld_make hns hdd h)) fun us s1 ⟨vs, H1, I1, r, q⟩ => ⟨I1.kIn, ?_⟩) he hpl
  exact run_makeW M F gd hr hb hd tk I1 r q
end
end DL

set_option Elab.async false
set_option linter.all false
set_option maxRecDepth 100000
set_option maxHeartbeats 4000000
/-! A5: operators of own classes, instances called, enumerate, reversal, stars, methods of lists. -/
namespace DL
open PySem PySem.Calls PySem.Spec PyProof.Rows L2
variable [Gds]
def clsOf (μ : Mu) (x : D) : Option Str := (asObj μ x).map fun z => z.1
theorem clsOf_some {μ : Mu} {x : D} {n : Str} (h : clsOf μ x = some n) : ∃ fs ds, asObj μ x = some (n, fs, ds) := by
  unfold clsOf at h
  cases e : asObj μ x with
  | none =>
    rw [e] at h
    cases h
  | some z =>
    rw [e] at h
    cases h
    exact ⟨z.2.1, z.2.2, rfl⟩
def vR (Q : QR) : QD := fun d μ => Q (.v d) μ
def oOwnIx (n : Str) (s : WP) : WOp := fun x y μ Q X => clsOf μ x = some n ∧ s [x, y] μ (vR Q) X
def wCallI (n : Str) (s : WP) (r : WE) (a : WA) : WE := fun e μ Q X => r e μ (fun x μ1 => clsOf μ1 x = some n ∧ a e μ1 (fun ds μ2 => clsOf μ2 x = some n ∧ s (x :: ds) μ2 Q X) X) X
section
variable {X : Cx} {c : Ctx} {W : WX} {k kf ka kb ko : Nat} {f C : Addr} {fd : FuncData} {ps : List Str} {s : WP} {n : Str}
/-- the promise of a def out of a wish at values -/
theorem sp_of {S : Option SA} {F I H : Hp} {m : Nat} {μ : Mu} {ds : List D} {vs : List V} {Qd : QD} {Xd : QD} {Q : VK} {σ : L2.St} (hl : m + kf ≤ LIM) (w : Wd c S F m I μ H) (r : Reps c S I ds vs) (h : s ds μ Qd Xd) (q : QV c S F (m + kf) I Qd Q) (x : XV c W S F (m + kf) I σ Xd) :
    SpW c s kf vs H Q fun cls d H' => W cls d σ H' := ⟨S, F, m, I, μ, ds, Qd, Xd, hl, w, r, h, q, fun d μ' cls dx I' H' p s2 w' er => x d μ' cls dx I' H' p s2 w' er⟩
theorem QVR.vR {S : Option SA} {F I : Hp} {m : Nat} {Qd : QR} {Q : VK} (q : QVR c S F m I Qd Q) : QV c S F m I (vR Qd) Q := fun d μ' v I' H' p s w r => q (.v d) μ' v I' H' p s w r
variable {a b o : Expr} {wa wb wo : WE} {pos : Pos} {es : List Expr} {wr : WA} {m : Bool}
theorem g_ixO (G : FnW X.prog X.w X.K X.mg X.base k f fd ps (SpW c s kf)) (gd : Gds.ok X.A) (hr : Room (k + 1) X.A) (hb : Binds X.K fd ps []) (tk : Takes X W) (hs : Spl X.K (c.cl n) "__getitem__" f) (hf : PySem.W.fnIn X.K f = true) (h1 : GE X c W ka a wa) (h2 : GE X c W kb b wb)
    (hsl : ∀ x i, subscripted b true (.ref x) i = runValue (.builtin "lifetime.subscript" ⟨[.ref x, i], []⟩) := by intro _ _; with_unfolding_all rfl) : GE X c W (ka + (kb + kf)) (.Subscript a b pos) (wOp m (oOwnIx n s) wa wb) := by
  refine ⟨fun pins sh σ H Q J h => ?_⟩
  refine Subscript_ (binT h1 h2 J (ld_two h) fun v u s2 x y H2 I2 rx ry q => ?_)
  obtain ⟨S, F, mm, I, μ, dx, dy, Qd, Xd, hl, w, ra, rb, ⟨g1, h⟩, q, x⟩ := q
  obtain ⟨fs, ds, e1⟩ := clsOf_some g1
  obtain ⟨p, _, _, rfl, ha, _⟩ := asObj_rep w ra e1
  cases rx
  obtain ⟨mA, Oa, _⟩ := ins_get I2.hok ha
  obtain ⟨od, Ja, _⟩ := Oa.look
  exact sub_own I2.kIn Ja hs.at_ hf hs.fn (run_fnW1 (us := [.ref p, u]) (vs := [.ref p, y]) G gd hr hb tk I2 (.cons rfl (.cons ry .nil)) (sp_of hl w (.cons ra (.cons rb .nil)) h q.vR x)) (hsl p u)
end
/-! ### enumerate, reversal, stars -/
def enumD : Nat → List D → List D
  | _, [] => []
  | i, d :: ds => .tup [.int (i : Int), d] :: enumD (i + 1) ds
theorem enumD_get : ∀ (ds : List D) (k i : Nat), (enumD k ds)[i]? = (ds[i]?).map fun d => .tup [.int ((k + i : Nat) : Int), d]
  | [], _, _ => rfl
  | d :: ds, k, 0 => rfl
  | d :: ds, k, i + 1 => by
    show (enumD (k + 1) ds)[i]? = (ds[i]?).map _
    rw [enumD_get ds (k + 1) i, show k + 1 + i = k + (i + 1) by omega]
theorem enumD_len : ∀ (ds : List D) (k : Nat), (enumD k ds).length = ds.length
  | [], _ => rfl
  | d :: ds, k => by rw [enumD, List.length_cons, List.length_cons, enumD_len ds]
def wiEnum (a : WA) : WI := fun e μ Q X => a e μ (fun ds μ1 => one ds fun d => match sqD μ1 d with
  | some xs => Q ⟨enumD 0 xs, okS d xs⟩ μ1
  | Option.none => False) X
def wRev (m : Bool) (a : WE) : WE := fun e μ Q X => a e μ (fun x μ1 => match x with
  | .tup ds => Q (.tup ds.reverse) μ1
  | x => (match seqL μ1 x with
    | some ds => sett m Q (.n (.list ds.reverse)) μ1
    | Option.none => False)) X
def waStar (a : WE) (r : WA) : WA := fun e μ Q X => a e μ (fun x μ1 => match sqD μ1 x with
  | some ds => r e μ1 (fun es μ2 => Q (ds ++ es) μ2) X
  | Option.none => False) X
section
variable {X : Cx} {c : Ctx} {W : WX} {k ka kb : Nat} {a tg : Expr} {wa : WE} {pos p : Pos} {es : List Expr} {wr : WA} {m : Bool}
/-- what enumerate tells of a sequence that is walked -/
theorem itd_enum {S : Option SA} {F0 I1 : Hp} {J : It} {ds : List D} {ok : Mu → Prop} {sq : Hp → List V → Prop} (h : ∀ F n I μ H, Same I1 I → Wd c S F n I μ H → ok μ → ∃ xs, sq H xs ∧ Reps c S I ds xs)
    (hgo : ∀ i H xs x, sq H xs → xs[i]? = some x → J.go i H) (hy : ∀ i H xs x v H', sq H xs → xs[i]? = some x → J.yld i H v H' → ∃ T, v = .ref T ∧ H T = none ∧ H' = upd H T (.tup [.int (i : Nat), x])) (hst : ∀ i H xs, sq H xs → xs.length ≤ i → J.stop i H) : ItD c S F0 J I1 ⟨enumD 0 ds, ok⟩ := fun F i n I μ H _ s w o => by
  obtain ⟨xs, hq, r⟩ := h F n I μ H s w o
  show (∀ d, (enumD 0 ds)[i]? = some d → _) ∧ ((enumD 0 ds)[i]? = _ → _)
  rw [enumD_get]
  refine ⟨fun d hd => ?_, fun hd => ?_⟩
  · cases hx : ds[i]? with
    | none =>
      rw [hx] at hd
      cases hd
    | some d0 =>
      rw [hx] at hd
      have hd' : D.tup [.int ((0 + i : Nat) : Int), d0] = d := Option.some.inj hd
      obtain ⟨x, hx1, rx⟩ := r.get hx
      refine ⟨hgo i H xs x hq hx1, fun v H' yl => ?_⟩
      obtain ⟨T, e1, hT, e2⟩ := hy i H xs x v H' hq hx1 yl
      have sm : Same I (upd I T (.tup [.int (i : Nat), x])) := same_new (w.fresh hT).1
      refine ⟨_, sm, by rw [e2]; exact w.new hT, ?_⟩
      rw [e1, ← hd', Nat.zero_add]
      exact .tup (.inl upd_same) (.cons .int (.cons (rx.mono sm) .nil))
  · refine hst i H xs hq ?_
    rw [← r.length]
    cases hx : ds[i]? with
    | none => exact List.getElem?_eq_none_iff.mp hx
    | some d0 =>
      rw [hx] at hd
      cases hd
theorem itd_enumL {S : Option SA} {F0 I1 : Hp} {aa : Addr} {ds : List D} {ok : Mu → Prop} (h : ∀ F n I μ H, Same I1 I → Wd c S F n I μ H → ok μ → ∃ xs, SqL c.K H aa xs ∧ Reps c S I ds xs) : ItD c S F0 (Ite c.K aa) I1 ⟨enumD 0 ds, ok⟩ :=
  itd_enum (sq := fun H xs => SqL c.K H aa xs) h (fun i H xs x hq hx => ⟨xs, x, hq, hx⟩) (fun i H xs x v H' hq hx ⟨T, x2, e1, hT, e2, y⟩ => by
    have e3 := y xs hq
    rw [hx] at e3
    have e4 : x = x2 := Option.some.inj e3
    subst e4
    exact ⟨T, e1, hT, e2⟩) fun i H xs hq hl => ⟨xs, hq, hl⟩
theorem itd_enumT {S : Option SA} {F0 I1 : Hp} {aa : Addr} {ds : List D} {ok : Mu → Prop} (h : ∀ F n I μ H, Same I1 I → Wd c S F n I μ H → ok μ → ∃ xs, SqT c.K H aa xs ∧ Reps c S I ds xs) : ItD c S F0 (IteT c.K aa) I1 ⟨enumD 0 ds, ok⟩ :=
  itd_enum (sq := fun H xs => SqT c.K H aa xs) h (fun i H xs x hq hx => ⟨xs, x, hq, hx⟩) (fun i H xs x v H' hq hx ⟨T, x2, e1, hT, e2, y⟩ => by
    have e3 := y xs hq
    rw [hx] at e3
    have e4 : x = x2 := Option.some.inj e3
    subst e4
    exact ⟨T, e1, hT, e2⟩) fun i H xs hq hl => ⟨xs, hq, hl⟩
theorem gi_enum {tpos : Pos} {elts : List Expr} {kk : Nat} (hg : Gl X "enumerate") (hm : X.mg "enumerate" = none) (ha : GA X c W k [a] wr) (hs : starEach [a] X.env = [(false, eval a X.env)] := by rfl) (hK : X.K = c.K := by rfl) : GI X c W k (.Tuple elts kk tpos) (.Call (.Name "enumerate" p) [a] [] pos) (wiEnum wr) := by
  obtain ⟨K, cl, tb, ns, es0⟩ := c
  cases hK
  refine L2.PI.imp (pi_enumU hg hm ha hs) fun σ H R h => ?_
  obtain ⟨S, F, n, I, μ, e, Qd, Xd, hl, he, hw, h, q, x⟩ := h
  refine ⟨S, F, n, I, μ, e, _, Xd, hl, he, hw, h, fun ds μ1 vs I1 H1 p s1 u1 r1 => ?_, x⟩
  obtain ⟨z, rfl, p2⟩ := one_cases p
  obtain ⟨v, rfl, rv⟩ := reps1 r1
  clear p
  split at p2
  · rename_i xs e1
    cases rv with
    | list g r =>
      cases e1
      exact ⟨_, _, rfl, .inl ⟨SqL.of (u1.lst g), q _ μ1 _ I1 H1 F (fun _ _ z => z) p2 s1 u1 (itd_enumL fun F n I2 μ2 H2 s2 w2 _ => ⟨_, SqL.of (w2.lst (s2 _ _ g)), r.mono s2⟩)⟩⟩
    | tup g r =>
      cases e1
      exact ⟨_, _, rfl, .inr ⟨u1.tupH g, q _ μ1 _ I1 H1 F (fun _ _ z => z) p2 s1 u1 (itd_enumT fun F n I2 μ2 H2 s2 w2 _ => ⟨_, w2.tupH (Same.tup s2 g), r.mono s2⟩)⟩⟩
    | script g =>
      cases e1
      exact ⟨_, _, rfl, .inl ⟨u1.seqH g, q _ μ1 _ I1 H1 F (fun _ _ z => z) p2 s1 u1 (itd_enumL fun F n I2 μ2 H2 s2 w2 _ => ⟨_, w2.seqH (s2.seq g), Reps.of_ints⟩)⟩⟩
    | cell =>
      obtain ⟨ys, h1, h2⟩ := u1.cellL e1
      refine ⟨_, _, rfl, .inl ⟨SqL.of h1, q _ μ1 _ I1 H1 F (fun _ _ z => z) p2 s1 u1 (itd_enumL fun F n I2 μ2 H2 s2 w2 o => ?_)⟩⟩
      obtain ⟨zs, h3, h4⟩ := w2.cellL o
      exact ⟨zs, SqL.of h3, h4⟩
    | _ => cases e1
  · exact p2.elim
end
/-! ### methods of lists -/
/-- a list that is a cell -/
def lstC (x : D) (μ : Mu) (f : Addr → List D → Prop) : Prop := match x with
  | .cell p => (match ndL (μ p) with
    | some ds => f p ds
    | Option.none => False)
  | _ => False
theorem lstC_cases {x : D} {μ : Mu} {f : Addr → List D → Prop} (h : lstC x μ f) : ∃ p ds, x = .cell p ∧ ndL (μ p) = some ds ∧ f p ds := by
  unfold lstC at h
  split at h
  · split at h
    · rename_i e
      exact ⟨_, _, rfl, e, h⟩
    · exact h.elim
  · exact h.elim
def isL (μ : Mu) (x : D) : Prop := (seqL μ x).isSome = true
def mApp : WM := fun x xs μ Q _ => lstC x μ fun p ds => one xs fun y => ds.length < sizeLine ∧ Q (.v .none) (up μ p (.list (ds ++ [y])))
def mPop : WM := fun x xs μ Q _ => xs = [] ∧ lstC x μ fun p ds => match ds[ds.length - 1]? with
  | some y => Q (.v y) (up μ p (.list ds.dropLast))
  | Option.none => False
/-- x.m(..) of a list -/
def wLm (m : Bool) (o : WM) (r : WE) (a : WA) : WE := fun e μ Q X => r e μ (fun x μ1 => isL μ1 x ∧ a e μ1 (fun xs μ2 => o x xs μ2 (sett m Q) X) X) X
section
variable {X : Cx} {c : Ctx} {W : WX} {ko ka : Nat} {a o : Expr} {wo : WE} {es : List Expr} {wr : WA} {m : Bool} {name : Str} {id : String}
/-- a method that keeps a wish -/
def MtW (X : Cx) (c : Ctx) (id : String) (o : WM) : Prop := ∃ r, MtR X id r ∧ ∀ S F n I μ d ds v vs H Qd Xd Q, Wd c S F n I μ H → Rep c S I d v → Reps c S I ds vs → o d ds μ Qd Xd → QVR c S F n I Qd Q → r v vs H Q
theorem mw_app : MtW X c "list.append" mApp := ⟨_, mt_append, fun S F n I μ d ds v vs H Qd Xd Q w rv rs h q => by
  obtain ⟨p, xs, rfl, e, h⟩ := lstC_cases h
  obtain ⟨y, rfl, h⟩ := one_cases h
  obtain ⟨u, rfl, ru⟩ := reps1 rs
  cases rv
  obtain ⟨zs, h1, h2⟩ := w.cellL e
  refine ⟨p, zs, u, rfl, rfl, h1, by rw [← h2.length]; exact h.1, ?_⟩
  exact q _ _ _ I _ h.2 (Same.refl I) (w.put (ndL_some e) (NdR.list (h2.append (.cons ru .nil)))) .none⟩
theorem mw_pop : MtW X c "list.pop" mPop := ⟨_, mt_pop, fun S F n I μ d ds v vs H Qd Xd Q w rv rs h q => by
  obtain ⟨rfl, h⟩ := h
  obtain ⟨p, xs, rfl, e, h⟩ := lstC_cases h
  cases rs
  cases rv
  obtain ⟨zs, h1, h2⟩ := w.cellL e
  split at h
  · rename_i y ey
    obtain ⟨u, hu, ru⟩ := h2.get ey
    refine ⟨p, zs, u, rfl, rfl, h1, by rw [← h2.length]; exact hu, ?_⟩
    exact q _ _ _ I _ h (Same.refl I) (w.put (ndL_some e) (NdR.list h2.dropLast)) ru
  · exact h.elim⟩
theorem ld_lm {oo : WM} {r : V → List V → Hp → VK → Prop} (hr : ∀ S F n I μ d ds v vs H Qd Xd Q, Wd c S F n I μ H → Rep c S I d v → Reps c S I ds vs → oo d ds μ Qd Xd → QVR c S F n I Qd Q → r v vs H Q) {σ : L2.St} {H : Hp} {Q : VK} (h : ldE c W (ko + ka) (wLm m oo wo wr) σ H Q) : tBM c.K "list" r (ldE c W ko wo) (ldA c W ka wr) σ H Q := by
  obtain ⟨S, F, n, I, μ, e, Qd, Xd, hl, he, hw, h, q, x⟩ := h
  refine ⟨S, F, n, I, μ, e, _, Xd, by omega, he, hw, h, fun d μ1 v I1 H1 pa s1 w1 ra => ?_, x.mono (by omega) (Same.refl I)⟩
  obtain ⟨g1, pa⟩ := pa
  obtain ⟨ds, e1⟩ := Option.isSome_iff_exists.mp g1
  obtain ⟨l, xs, rfl, h1, r1⟩ := seqL_rep w1 ra e1
  refine ⟨.inl ⟨rfl, _, SqL.of h1⟩, S, F, n + ko, I1, μ1, e, _, Xd, by omega, he.mono s1, w1, pa, fun es μ2 vs I2 H2 pb s2 w2 rb => ?_, x.mono (by omega) s1⟩
  exact hr S F _ I2 μ2 _ _ _ _ H2 _ _ Q w2 (ra.mono s2) rb pb (QV.sett (q.mono (by omega) (s1.trans s2)))
theorem g_lmN {oo : WM} {ex : Expr} (hm : MtW X c id oo) (hb : ∀ r, MtR X id r → PE X ex (tBM X.K "list" r (ldE c W ko wo) (ldA c W ka wr))) (hK : X.K = c.K := by rfl) : GE X c W (ko + ka) ex (wLm m oo wo wr) := by
  obtain ⟨r, h1, h2⟩ := hm
  refine L2.PE.imp (hb r h1) fun σ H Q h => ?_
  rw [hK]
  exact ld_lm h2 h
theorem g_lm0 {oo : WM} {ex : Expr} (hm : MtW X c id oo) (hb : ∀ r, MtR X id r → PE X ex (tBM0 X.K "list" r (ldE c W ko wo))) (hK : X.K = c.K := by rfl) : GE X c W (ko + 0) ex (wLm m oo wo waNil) := by
  obtain ⟨r, h1, h2⟩ := hm
  refine L2.PE.imp (hb r h1) fun σ H Q h => ?_
  rw [hK]
  obtain ⟨S, F, n, I, μ, e, Qd, Xd, hl, he, hw, h, q, x⟩ := ld_lm h2 h
  refine ⟨S, F, n, I, μ, e, Qd, Xd, hl, he, hw, h, fun d μ1 v I1 H1 pa s1 w1 ra => ?_, x⟩
  obtain ⟨g1, g2⟩ := q d μ1 v I1 H1 pa s1 w1 ra
  obtain ⟨S, F, n, I, μ, e, Qd, Xd, hl, he, hw, h, q, x⟩ := g2
  exact ⟨g1, q [] μ [] I H1 h (Same.refl I) hw .nil⟩
end
end DL

set_option Elab.async false
set_option linter.all false
set_option maxRecDepth 100000
set_option maxHeartbeats 4000000
/-! Y3: isinstance of an error, whatever dict it has. -/
namespace DL
open PySem PySem.W PySem.Spec PySem.Calls PyProof.Rows L2
section
variable {prog : Program} {w : PySem.World} {A : Around} {E : Value → Shared → Prop} {s : Shared} {K : Frag} {x C : Addr} {ox : Obj} {od : Option Obj}
theorem class_find (T : ExcC K C) : findObj K C od "__class__" = some (.bind (.builtin "getset_descriptor.__get__") (.builtin "object.__class__")) := by
  have hc : (clsIn K C).isSome = true := by
    obtain ⟨cd, z, _⟩ := any_some T.hd
    rw [z]
    rfl
  cases od with
  | none => exact findObj_dataN hc T.ha T.hn T.ht
  | some o => exact findObj_data hc T.ha T.hn T.ht
theorem class_exc {Q : Option Value → Shared → Prop} (T : ExcC K C) (kin : K.In s.heap) (ins : PySem.W.InstAt s.heap x ox C od) (fin : Q (some (.ref C)) { s with toks := s.toks + 1 }) : wpAny (model prog w) A (getAttr? (.ref x) "__class__") Q E s := by
  obtain ⟨hp, gs, dr, tk, osx⟩ := s
  have l0 := ins.type (M := model prog w)
  have l1 := looks_findIn (M := model prog w) kin T.hg
  have l2 := looks_findIn (M := model prog w) kin T.hk
  have l3 := looks_find (M := model prog w) kin ins (class_find T)
  have below : Looks (model prog w) hp (isInstance (.ref x) (.type "BaseException")) true := l0.andThen (looks_subIn kin T.hs)
  have z0 : (false && onTheHeap (Value.builtin "BaseException.__getattribute__")) = false := rfl
  have z2 : (Value.builtin "BaseException.__getattribute__" == Value.builtin "object.__getattribute__") = false := by decide +kernel
  have z1 : (onTheHeap (Value.ref C) && Value.builtin "BaseException.__getattribute__" == Value.builtin "object.__getattribute__") = false := by
    rw [z2]
    rfl
  unfold getAttr? getAttrBy? getAttrBy
  refine wpAny_bind (wpAny_mkText (wpAny_bind (wpAny_attempt (wpAny_holding (wpAny_bind (l0.at (wpAny_bind (l1.at ?_))))))))
  show wpAny _ _ (if (onTheHeap (Value.ref C) && Value.builtin "BaseException.__getattribute__" == Value.builtin "object.__getattribute__") = true then _ else _) _ _ _
  rw [z1, if_neg Bool.false_ne_true]
  unfold getAttrByItsOwn hookBefore
  refine wpAny_bind ?_
  rw [if_pos (show onTheHeap (Value.ref C) = true from rfl)]
  refine l2.at (wpAny_bind (wpAny_attempt (wpAny_holding ?_)))
  unfold callGetattribute
  rw [z0, if_neg Bool.false_ne_true]
  unfold boundAndCalled
  rw [PySem.F.excAttr_ValueError.ga.bind (.ref x)]
  refine wpAny_bind (wpAny_pure ?_)
  show wpAny _ _ (call (.builtin "BaseException.__getattribute__") [.ref x, .str "__class__" tk]) _ _ _
  refine wpAny_call (codeAny_call_builtin PySem.F.excAttr_ValueError.ga.plain PySem.F.entry_bexc_ga (@check_slot (model prog w) _ _ ⟨hp, gs, dr, tk + 1, osx⟩ "BaseException.__getattribute__" "BaseException" "__getattribute__" (.ref x) [.str "__class__" tk] [] _ (by decide +kernel) (by decide +kernel) below (PySem.F.args_bexc_ga (.ref x) (.str "__class__" tk)) ?_))
  unfold Builtin.«object.__getattribute__»
  refine wpAny_bind (wpAny_of_eq (a := ((Value.ref x : Value), [Value.str "__class__" tk])) (by first | rfl | (simp only [slotArgs]; rfl)) (wpAny_bind (wpAny_pure (wpAny_bind (l0.at (wpAny_bind (l3.at ?_)))))))
  show wpAny _ _ (holding [Value.builtin "object.__class__"] (call (.builtin "getset_descriptor.__get__") [.builtin "object.__class__", .ref x, .ref C]) >>= ret) _ _ _
  refine wpAny_bind (wpAny_holding (wpAny_call (class_get (s := ⟨hp, gs, dr, tk + 1, osx⟩) (ox := ox) (od := od) kin ins T.hm (wpAny_pure ?_))))
  show wpAny _ _ (handedOut (.ref C)) _ _ _
  rw [handedOut_of (v := .ref C) rfl]
  first
    | exact wpAny_pure (wpAny_pure fin)
    | exact wpAny_pure fin
    | exact wpAny_pure (wpAny_bind (wpAny_pure (wpAny_pure fin)))
theorem kitx_err (T : ExcC K C) : KitX K (.ref x) (.ref C) (fun h => ∃ ox od, PySem.W.InstAt h x ox C od) where
  ty := fun _ _ _ ⟨_, _, ins⟩ => ins.type
  it := fun _ _ kin _ => by
    obtain ⟨cd, hc, _⟩ := any_some T.hd
    unfold clsIn at hc
    split at hc
    · rename_i _ _ _ _ ho
      intro A' Q' E' s' k q
      unfold isType loadHead
      exact wpAny_bind (wpAny_loadPart (k _ _ (kin _ _ ho)) (wpAny_pure q))
    · cases hc
  ne := fun h tp dd its n sl kin htp => by
    obtain ⟨cd, hc, _⟩ := any_some T.hd
    refine Bool.eq_false_iff.mpr fun q => ?_
    have e : C = tp := Value.ref.inj (beq_iff_eq.mp q)
    subst e
    unfold clsIn at hc
    split at hc
    · rename_i _ _ _ _ ho
      cases (kin _ _ ho).symm.trans htp
    · cases hc
  ca := fun kin ⟨_, _, ins⟩ k => class_exc T kin ins k
end
/-- the error at a as the machine sees it -/
theorem inst_err {X : Cx} {pins : List (Addr × Obj)} {σ : L2.St} {H : Hp} {s : Shared} {a C : Addr} {d : Option Addr} {fs : List Str} {xs : List V} (J : Inv X pins σ H s) (h : H a = some (ErO a (.ref C) d)) (hf : ErF H d fs xs) : ∃ oe od, PySem.W.InstAt s.heap a oe C od ∧ ∀ f v, (List.zip fs xs).lookup f = some v → ∃ o u, od = some o ∧ PySem.W.lookIn f o = some (some u) ∧ RelV v u := by
  obtain ⟨⟨oe, vs, h1, h2, h3⟩, _⟩ := J.hok a _ h
  have no : PySem.W.notCls oe = true := by
    unfold PySem.W.notCls
    rw [h3]
  rcases hf.2 with ⟨rfl, rfl⟩ | ⟨dx, rfl, hd⟩
  · exact ⟨oe, none, ⟨h1, h2.1, no, by rw [h2.2]; trivial⟩, fun f v z => by simp at z⟩
  · obtain ⟨mA, hns, hr⟩ := J.hok dx _ hd
    obtain ⟨od, ho, hl⟩ := lookIn_ns hns
    refine ⟨oe, some od, ⟨h1, h2.1, no, by rw [h2.2]; exact ho⟩, fun f v z => ?_⟩
    obtain ⟨u, hu, ru⟩ := RelO.some_of (v := v) (o := mA f) (by rw [← z]; exact hr f)
    exact ⟨od, u, rfl, by rw [hl, hu], ru⟩
end DL

set_option Elab.async false
set_option linter.all false
set_option maxRecDepth 100000
set_option maxHeartbeats 4000000
/-! A6: equality of data, isinstance, in, repr, fields of errors. -/
namespace DL
open PySem PySem.Spec PyProof.Rows L2
variable [Gds]
mutual
def pd : D → PyData
  | .bool b => .bool b
  | .int i => .int i
  | .str s => .str s
  | .list ds => .list (pds ds)
  | .tup ds => .tuple (pds ds)
  | _ => .none
def pds : List D → List PyData
  | [] => []
  | d :: ds => pd d :: pds ds
end
mutual
/-- data of None, bools, ints, texts, lists, tuples -/
def plainD : D → Bool
  | .none => true
  | .bool _ => true
  | .int _ => true
  | .str _ => true
  | .list ds => plainsD ds
  | .tup ds => plainsD ds
  | _ => false
def plainsD : List D → Bool
  | [] => true
  | d :: ds => plainD d && plainsD ds
end
section
variable {c : Ctx} {S : Option SA} {F : Hp} {n : Nat} {I H : Hp} {μ : Mu}
mutual
theorem rep_dp (w : Wd c S F n I μ H) : ∀ {d : D} {v : V}, Rep c S I d v → plainD d = true → Dp c.K H v (pd d)
  | _, _, .none, _ => by rw [pd]; exact .non; all_goals intros; contradiction
  | _, _, .bool, _ => by rw [pd]; exact .bl _
  | _, _, .int, _ => by rw [pd]; exact .int _
  | _, _, .str, _ => by rw [pd]; exact .str _
  | _, _, .list h r, p => by
    rw [pd]
    rw [plainD] at p
    exact .lst (SqL.of (w.lst h)) (reps_dp w r p)
  | _, _, .tup h r, p => by
    rw [pd]
    rw [plainD] at p
    exact .tup (w.tupH h) (reps_dp w r p)
  | _, _, .dk h r l, p => by simp [plainD] at p
  | _, _, .dt h r l, p => by simp [plainD] at p
  | _, _, .obj h r l _, p => by simp [plainD] at p
  | _, _, .script h, p => by simp [plainD] at p
  | _, _, .state h t, p => by simp [plainD] at p
  | _, _, .ty _, p => by simp [plainD] at p
  | _, _, .cls _, p => by simp [plainD] at p
  | _, _, .err h f r _, p => by simp [plainD] at p
  | _, _, .cell, p => by simp [plainD] at p
theorem reps_dp (w : Wd c S F n I μ H) : ∀ {ds : List D} {vs : List V}, Reps c S I ds vs → plainsD ds = true → DpAll c.K H vs (pds ds)
  | _, _, .nil, _ => by rw [pds]; exact .nil
  | _, _, .cons h r, p => by
    rw [pds]
    rw [plainsD, Bool.and_eq_true] at p
    exact .cons (rep_dp w h p.1) (reps_dp w r p.2)
end
end
/-- a list that is a cell, as it stands -/
def drf (μ : Mu) : D → D
  | .cell p => (match ndL (μ p) with
    | some ds => .list ds
    | Option.none => .cell p)
  | d => d
theorem drf_dp {c : Ctx} {S : Option SA} {F : Hp} {n : Nat} {I H : Hp} {μ : Mu} {d : D} {v : V} (w : Wd c S F n I μ H) (r : Rep c S I d v) (p : plainD (drf μ d) = true) : Dp c.K H v (pd (drf μ d)) := by
  cases d with
  | cell a =>
    cases r
    cases e : ndL (μ a) with
    | none =>
      have e2 : drf μ (.cell a) = .cell a := by
        simp only [drf, e]
      rw [e2] at p
      simp [plainD] at p
    | some ds =>
      have e2 : drf μ (.cell a) = .list ds := by
        simp only [drf, e]
      rw [e2] at p ⊢
      rw [pd]
      rw [plainD] at p
      obtain ⟨xs, h1, h2⟩ := w.cellL e
      exact .lst (SqL.of h1) (reps_dp w h2 p)
  | _ => exact rep_dp w r p
/-- == of plain data -/
structure EqOk (a b : D) : Prop where
  pa : plainD a = true
  pb : plainD b = true
  sa : SeqAt.shaped (pd a) = true
  sb : SeqAt.shaped (pd b) = true
def eqG (a b : D) (Q : Bool → Prop) : Prop := EqOk a b ∧ Q (PyData.eqv (pd a) (pd b))
def eqU (x y : D) (μ : Mu) (Q : Bool → Prop) : Prop := match x with
  | .int i => (match y with
    | .int j => Q (decide (i = j))
    | y => eqG (.int i) (drf μ y) Q)
  | .str a => (match y with
    | .str b => Q (decide (a = b))
    | y => eqG (.str a) (drf μ y) Q)
  | x => eqG (drf μ x) (drf μ y) Q
def oEq : WOp := fun x y μ Q _ => eqU x y μ fun b => Q (.v (.bool b)) μ
def oNe : WOp := fun x y μ Q _ => eqU x y μ fun b => Q (.v (.bool (!b))) μ
section
variable {X : Cx} {c : Ctx} {W : WX}
theorem dec_intV {i j : Int} : decide (V.int i = V.int j) = decide (i = j) := by
  by_cases h : i = j
  · rw [h, decide_eq_true rfl, decide_eq_true rfl]
  · rw [decide_eq_false h, decide_eq_false fun z => h (V.int.inj z)]
theorem dec_strV {i j : Str} : decide (V.str i = V.str j) = decide (i = j) := by
  by_cases h : i = j
  · rw [h, decide_eq_true rfl, decide_eq_true rfl]
  · rw [decide_eq_false h, decide_eq_false fun z => h (V.str.inj z)]
theorem eqU_cases {S : Option SA} {F : Hp} {n : Nat} {I H : Hp} {μ : Mu} {x y : D} {v u : V} {Q : Bool → Prop} (w : Wd c S F n I μ H) (rx : Rep c S I x v) (ry : Rep c S I y u) (h : eqU x y μ Q) : (scal v u = true ∧ Q (decide (v = u))) ∨ ∃ d e, Dp c.K H v d ∧ Dp c.K H u e ∧ SeqAt.shaped d = true ∧ SeqAt.shaped e = true ∧ Q (PyData.eqv d e) := by
  have gen : ∀ {x : D} {v : V}, Rep c S I x v → eqG (drf μ x) (drf μ y) Q → ∃ d e, Dp c.K H v d ∧ Dp c.K H u e ∧ SeqAt.shaped d = true ∧ SeqAt.shaped e = true ∧ Q (PyData.eqv d e) := fun rx ⟨o, q⟩ => ⟨_, _, drf_dp w rx o.pa, drf_dp w ry o.pb, o.sa, o.sb, q⟩
  unfold eqU at h
  split at h
  · split at h
    · cases rx
      cases ry
      exact .inl ⟨rfl, by rw [dec_intV]; exact h⟩
    · exact .inr (gen rx h)
  · split at h
    · cases rx
      cases ry
      exact .inl ⟨rfl, by rw [dec_strV]; exact h⟩
    · exact .inr (gen rx h)
  · exact .inr (gen rx h)
theorem w_eq (hu : X.A.units + 64 < cLine) (hK : X.K = c.K := by rfl) : Op2 X c W 0 (compareOp .Eq) oEq := by
  obtain ⟨K, cl, tb, ns, es0⟩ := c
  cases hK
  refine op2_of (op_eq.or (op_eqD hu)) fun σ x y H Q h => ?_
  obtain ⟨S, F, n, I, μ, dx, dy, Qd, Xd, hl, w, rx, ry, h, q, _⟩ := h
  rcases eqU_cases w rx ry h with ⟨h1, h2⟩ | ⟨d, e, h1, h2, h3, h4, h5⟩
  · exact .inl ⟨h1, q _ μ _ I H h2 (Same.refl I) w .bool⟩
  · exact .inr ⟨d, e, h1, h2, h3, h4, q _ μ _ I H h5 (Same.refl I) w .bool⟩
theorem w_ne (hu : X.A.units + 64 < cLine) (hK : X.K = c.K := by rfl) : Op2 X c W 0 (compareOp .NotEq) oNe := by
  obtain ⟨K, cl, tb, ns, es0⟩ := c
  cases hK
  refine op2_of (op_ne.or (op_neD hu)) fun σ x y H Q h => ?_
  obtain ⟨S, F, n, I, μ, dx, dy, Qd, Xd, hl, w, rx, ry, h, q, _⟩ := h
  rcases eqU_cases w rx ry h with ⟨h1, h2⟩ | ⟨d, e, h1, h2, h3, h4, h5⟩
  · exact .inl ⟨h1, q _ μ _ I H h2 (Same.refl I) w .bool⟩
  · exact .inr ⟨d, e, h1, h2, h3, h4, q _ μ _ I H h5 (Same.refl I) w .bool⟩
end
/-! ### isinstance -/
inductive TyD where
  | b (n : String) | o (n : Str)
def ndTy : Option Nd → Option TyD
  | some (.list _) => some (.b "list")
  | some (.dk _ _) => some (.b "dict")
  | some (.dt _ _) => some (.b "dict")
  | some (.obj n _ _) => some (.o n)
  | Option.none => Option.none
def tyD (μ : Mu) : D → Option TyD
  | .none => some (.b "NoneType")
  | .bool _ => some (.b "bool")
  | .int _ => some (.b "int")
  | .str _ => some (.b "str")
  | .list _ => some (.b "list")
  | .tup _ => some (.b "tuple")
  | .dk _ _ => some (.b "dict")
  | .dt _ _ => some (.b "dict")
  | .obj n _ _ => some (.o n)
  | .err n _ _ => some (.o n)
  | .cell p => ndTy (μ p)
  | _ => Option.none
/-- the errors of the package -/
def errNames : List Str := ["CrossError", "BadRule", "BadPower", "BadFormula", "BadPair", "BadProgram", "BadPoint", "BadCount", "TooMany", "NoCore", "BadDeed", "NothingLeft", "BadJournal", "BadText"]
def subCC (n m : Str) : Bool := decide (n = m) || (decide (m = "CrossError") && errNames.contains n)
def subCT (n : Str) (t : String) : Bool := decide (t = "ValueError") && errNames.contains n
def isi1 (t : TyD) (y : D) : Option Bool := match y with
  | .ty u => (match t with
    | .b a => kitB a u
    | .o n => some (subCT n u))
  | .cls m => (match t with
    | .b _ => some false
    | .o n => some (subCC n m))
  | _ => Option.none
def isiN (t : TyD) : List D → Option Bool
  | [] => some false
  | y :: ys => (match isi1 t y, isiN t ys with
    | some a, some b => some (a || b)
    | _, _ => Option.none)
def isiD (t : TyD) (y : D) : Option Bool := match y with
  | .tup ys => isiN t ys
  | y => isi1 t y
def cbIsi : WC := fun xs μ Q _ => two xs fun x y => match tyD μ x with
  | some t => (match isiD t y with
    | some b => Q (.v (.bool b)) μ
    | Option.none => False)
  | Option.none => False
/-- what a law's classes say -/
structure CtxOk (c : Ctx) : Prop where
  isi : ∀ n ∈ c.ns, IsiC c.K (c.cl n)
  exc : ∀ n ∈ c.es, ExcC c.K (c.cl n)
  cc : ∀ n ∈ c.ns ++ c.es, ∀ m ∈ c.ns ++ c.es, PySem.W.kitOne c.K (.ref (c.cl n)) (.ref (c.cl m)) = some (subCC n m)
  ct : ∀ n ∈ c.ns ++ c.es, ∀ t ∈ tyNames, PySem.W.kitOne c.K (.ref (c.cl n)) (.type t) = some (subCT n t)
  tc : ∀ t ∈ tyNames, ∀ n ∈ c.ns ++ c.es, PySem.W.kitOne c.K (.type t) (.ref (c.cl n)) = some false
def TyV (c : Ctx) : TyD → Value → Prop
  | .b n, u => u = .type n ∧ n ∈ tyNames
  | .o n, u => u = .ref (c.cl n) ∧ n ∈ c.ns ++ c.es
section
variable {X : Cx} {c : Ctx} {W : WX}
/-- a type, of a walked dict with tuple keys, too -/
def TyZ (K : PySem.W.Frag) (H : Hp) (v : V) (u : Value) : Prop := TyX K H v u ∨ ∃ a o kvs, v = .ref a ∧ u = .type "dict" ∧ H a = some (.frz o (.dT kvs))
theorem kitZ_of {pins : List (Addr × Obj)} {σ : L2.St} {H : Hp} {s : Shared} {x : V} {u t : Value} (I : Inv X pins σ H s) (rx : RelV x u) (ty : TyZ X.K H x t) : ∃ P : Heap → Prop, PySem.W.KitX X.K u t P ∧ P s.heap ∧ u ≠ .builtin "__main__.__loader__#opaque" := by
  rcases ty with ty | ⟨a, ob, kvs, rfl, rfl, ea⟩
  · exact kit_of I rx ty
  · cases (show u = Value.ref a from rx)
    obtain ⟨_, _, _, xs, _, o, es, ep, h1, h2, _⟩ := (show ObjOk X.prog X.w H s.heap a (.frz ob (.dT kvs)) from I.hok a _ ea)
    exact ⟨_, PySem.W.kitx_dict, ⟨o, h1, h2.1⟩, fun z => nomatch z⟩
theorem ty_rep (T : CtxOk c) {S : Option SA} {F : Hp} {n : Nat} {I H : Hp} {μ : Mu} {d : D} {v : V} {t : TyD} (w : Wd c S F n I μ H) (r : Rep c S I d v) (h : tyD μ d = some t) (he : ∀ n fs ds, d ≠ .err n fs ds) : ∃ u, TyV c t u ∧ TyZ c.K H v u := by
  cases r with
  | none => cases h; exact ⟨_, ⟨rfl, by decide⟩, .inl <| .base .non⟩
  | bool => cases h; exact ⟨_, ⟨rfl, by decide⟩, .inl <| .base (.bl _)⟩
  | int => cases h; exact ⟨_, ⟨rfl, by decide⟩, .inl <| .base (.int _)⟩
  | str => cases h; exact ⟨_, ⟨rfl, by decide⟩, .inl <| .base (.str _)⟩
  | list g r => cases h; exact ⟨_, ⟨rfl, by decide⟩, .inl <| .base (.lst (w.lst g))⟩
  | tup g r =>
    cases h
    refine ⟨_, ⟨rfl, by decide⟩, ?_⟩
    rcases w.tupH g with (g | ⟨o, g⟩) | ⟨o, its, m, g, h2, _⟩
    · exact .inl (.base (.tup g))
    · exact .inl (.fTuple g)
    · exact .inl (.kTuple g h2)
  | dk g r l =>
    cases h
    refine ⟨_, ⟨rfl, by decide⟩, ?_⟩
    rcases w.i _ _ g with z | ⟨_, ob, z⟩
    · exact .inl (.base (.dK z))
    · exact .inl (.fDict z)
  | dt g r l =>
    cases h
    refine ⟨_, ⟨rfl, by decide⟩, ?_⟩
    rcases w.i _ _ g with z | ⟨_, ob, z⟩
    · exact .inl (.base (.dT z))
    · exact .inr ⟨_, _, _, rfl, rfl, z⟩
  | obj g r l hn =>
    cases h
    have hc := T.isi _ hn
    exact ⟨_, ⟨rfl, List.mem_append_left _ hn⟩, .inl <| .base (.ins (w.ins g) hc.cl hc.ha hc.hn hc.htk hc.hm)⟩
  | err => exact absurd rfl (he _ _ _)
  | @cell p =>
    have h' : ndTy (μ p) = some t := h
    cases e : μ p with
    | none =>
      rw [e] at h'
      cases h'
    | some nd =>
      rw [e] at h'
      obtain ⟨_, o, r, hh⟩ := w.m p nd e
      cases r with
      | list r => cases h'; exact ⟨_, ⟨rfl, by decide⟩, .inl <| .base (.lst hh)⟩
      | dk r l => cases h'; exact ⟨_, ⟨rfl, by decide⟩, .inl <| .base (.dK hh)⟩
      | dt r l => cases h'; exact ⟨_, ⟨rfl, by decide⟩, .inl <| .base (.dT hh)⟩
      | obj r l hn =>
        cases h'
        have hc := T.isi _ hn
        exact ⟨_, ⟨rfl, List.mem_append_left _ hn⟩, .inl <| .base (.ins hh hc.cl hc.ha hc.hn hc.htk hc.hm)⟩
  | _ => cases h
theorem Wd.err {S : Option SA} {F : Hp} {n : Nat} {I H : Hp} {μ : Mu} {a : Addr} {cv : Value} {dd : Option Addr} (w : Wd c S F n I μ H) (h : I a = some (ErO a cv dd)) : H a = some (ErO a cv dd) := by
  rcases w.i _ _ h with z | ⟨z, _⟩
  · exact z
  · cases z
theorem Wd.erF {S : Option SA} {F : Hp} {n : Nat} {I H : Hp} {μ : Mu} {dd : Option Addr} {fs : List Str} {xs : List V} (w : Wd c S F n I μ H) (h : ErF I dd fs xs) : ErF H dd fs xs := by
  refine ⟨h.1, ?_⟩
  rcases h.2 with z | ⟨dx, z1, z2⟩
  · exact .inl z
  · rcases w.i _ _ z2 with z | ⟨z, _⟩
    · exact .inr ⟨dx, z1, z⟩
    · cases z
theorem isi1_kit (T : CtxOk c) {S : Option SA} {I : Hp} {t : TyD} {u : Value} {y : D} {v : V} {b : Bool} (ht : TyV c t u) (r : Rep c S I y v) (h : isi1 t y = some b) : ∃ k, ClsV v k ∧ PySem.W.kitOne c.K u k = some b := by
  cases r with
  | ty hn =>
    refine ⟨_, .ty _, ?_⟩
    cases t with
    | b a =>
      obtain ⟨rfl, _⟩ := ht
      exact kit_ty h
    | o n =>
      obtain ⟨rfl, hm⟩ := ht
      rw [T.ct _ hm _ hn]
      exact h
  | cls hn =>
    refine ⟨_, .own _, ?_⟩
    cases t with
    | b a =>
      obtain ⟨rfl, hm⟩ := ht
      rw [T.tc _ hm _ hn]
      exact h
    | o n =>
      obtain ⟨rfl, hm⟩ := ht
      rw [T.cc _ hm _ hn]
      exact h
  | _ => cases h
theorem isiN_kit (T : CtxOk c) {S : Option SA} {I : Hp} {t : TyD} {u : Value} (ht : TyV c t u) : ∀ {ys : List D} {vs : List V} {b : Bool}, Reps c S I ys vs → isiN t ys = some b → ∃ ks, Paired ClsV vs ks ∧ PySem.W.kitAny c.K u ks = some b
  | _, _, _, .nil, h => by
    cases h
    exact ⟨[], .nil, rfl⟩
  | y :: ys, _, b, .cons r rs, h => by
    rw [isiN] at h
    split at h
    · rename_i b1 b2 e1 e2
      cases h
      obtain ⟨k, h1, h2⟩ := isi1_kit T ht r e1
      obtain ⟨ks, p, q⟩ := isiN_kit T ht rs e2
      refine ⟨k :: ks, .cons h1 p, kitAny_cons h2 (fun z => ?_) fun z => ?_⟩
      · rw [z]
        exact q
      · rw [z]
        rfl
    · cases h
theorem isiN_tup (T : CtxOk c) {S : Option SA} {I : Hp} {t : TyD} {u : Value} {ys : List D} {v : V} {b : Bool} (ht : TyV c t u) (r : Rep c S I (.tup ys) v) (h : isiN t ys = some b) : ∃ a xs ks, v = .ref a ∧ TupA c.K I a xs ∧ Paired ClsV xs ks ∧ PySem.W.kitAny c.K u ks = some b := by
  cases r with
  | tup g r =>
    obtain ⟨ks, p, q⟩ := isiN_kit T ht r h
    exact ⟨_, _, ks, rfl, g, p, q⟩
/-- isinstance, any value that is known, a class or a tuple of them -/
theorem call_isiW (T : CtxOk c) {pins : List (Addr × Obj)} {s : Shared} {σ σ' : L2.St} {H : Hp} {xs : List V} {us : List Value} {Q : VK} (hK : X.K = c.K) (J : Inv X pins σ H s) (rv : Vals xs us) (h : ldC c W 0 cbIsi σ' xs H Q) : wpAny (model X.prog X.w) X.A (call (.builtin "isinstance") us) (EP X pins σ Q) X.xe s := by
  obtain ⟨K, cl, tb, ns, es0⟩ := c
  cases hK
  obtain ⟨S, F, n, I, μ, ds, Qd, Xd, hl, w, rs, h, q, _⟩ := h
  obtain ⟨x, y, rfl, g⟩ := two_cases h
  obtain ⟨v, u, rfl, rx, ry⟩ := reps2 rs
  obtain ⟨v1, v2, rfl, r1, r2⟩ := vals2 rv
  clear h rs rv
  split at g
  · rename_i t et
    split at g
    · rename_i b eb
      have fin : ∀ tk, EP X pins σ Q (.bool b) { s with toks := tk } := fun tk => ⟨.bl b, H, J.tok tk, rfl, q _ μ _ I H g (Same.refl I) w .bool⟩
      -- the type of x, as isinstance asks it
      have ask : ∃ z, TyV ⟨X.K, cl, tb, ns, es0⟩ t z ∧ ∃ P : Heap → Prop, PySem.W.KitX X.K v1 z P ∧ P s.heap ∧ v1 ≠ .builtin "__main__.__loader__#opaque" := by
        by_cases he : ∃ n fs ds, x = .err n fs ds
        · obtain ⟨m, fs, es, rfl⟩ := he
          cases et
          cases rx with
          | err g1 g2 g3 hn =>
            obtain ⟨oe, od, ins, _⟩ := inst_err (C := cl m) (fs := fs) J (w.err g1) (w.erF g2)
            cases r1
            exact ⟨_, ⟨rfl, List.mem_append_right _ hn⟩, _, kitx_err (T.exc m hn), ⟨oe, od, ins⟩, fun z => nomatch z⟩
        · obtain ⟨z, h1, h2⟩ := ty_rep T w rx et fun n fs ds e => he ⟨n, fs, ds, e⟩
          exact ⟨z, h1, kitZ_of J r1 h2⟩
      obtain ⟨z, tz, P, Z, p, hx⟩ := ask
      unfold isiD at eb
      split at eb
      · obtain ⟨a, xs, ks, rfl, gt, pk, ek⟩ := isiN_tup T tz ry eb
        cases (show v2 = Value.ref a from r2)
        obtain ⟨its, rv, ht, hz⟩ := J.tuple (w.tupH gt)
        have e3 := ClsV.all pk rv
        subst e3
        obtain ⟨⟨oc, od, dt, sl⟩, h1, h2, m, h3⟩ := ht
        dsimp only at h2 h3
        subst h2 h3
        exact PySem.W.kia_tup Z J.kIn p h1 ek hx fin
      · obtain ⟨k, ck, ek⟩ := isi1_kit T tz ry eb
        have e2 := ck.eq r2
        subst e2
        exact PySem.W.kia_one Z J.kIn p ek hx fin
    · exact g.elim
  · exact g.elim
theorem w_isi (T : CtxOk c) (hK : X.K = c.K := by rfl) : CbW X c (.builtin "isinstance") cbIsi := ⟨fun xs H Q => ∃ W σ, ldC c W 0 cbIsi σ xs H Q, fun pins s σ H xs us Q J rv ⟨W, σ', h⟩ => call_isiW T hK J rv h, fun W σ xs H Q h => ⟨W, σ, h⟩⟩
end
/-! ### in -/
def flatD : D → Bool
  | .none => true
  | .bool _ => true
  | .int _ => true
  | .str _ => true
  | _ => false
/-- == of flat data -/
def eqF : D → D → Bool
  | .none, .none => true
  | .bool a, .bool b => a == b
  | .bool a, .int j => (if a then 1 else 0) == j
  | .int i, .bool b => i == (if b then 1 else 0)
  | .int i, .int j => i == j
  | .str a, .str b => a == b
  | _, _ => false
def vF : D → V
  | .bool b => .bl b
  | .int i => .int i
  | .str s => .str s
  | _ => .non
theorem rep_flat {c : Ctx} {S : Option SA} {I : Hp} {d : D} {v : V} (r : Rep c S I d v) (h : flatD d = true) : v = vF d ∧ flatV v = true := by
  cases r <;> first | exact ⟨rfl, rfl⟩ | cases h
theorem reps_flat {c : Ctx} {S : Option SA} {I : Hp} : ∀ {ds : List D} {vs : List V}, Reps c S I ds vs → ds.all flatD = true → vs = ds.map vF ∧ vs.all flatV = true
  | _, _, .nil, _ => ⟨rfl, rfl⟩
  | _, _, .cons r rs, h => by
    rw [List.all_cons, Bool.and_eq_true] at h
    obtain ⟨h1, h2⟩ := rep_flat r h.1
    obtain ⟨h3, h4⟩ := reps_flat rs h.2
    exact ⟨by rw [h1, h3, List.map_cons], by rw [List.all_cons, h2, h4]; rfl⟩
def inF (x : D) (ds : List D) : Bool := ds.any fun y => eqF y x
theorem eqF_eqV {a b : D} (ha : flatD a = true) (hb : flatD b = true) : eqV (vF a) (vF b) = eqF a b := by
  cases a <;> cases b <;> first | rfl | (simp [flatD] at ha; done) | (simp [flatD] at hb; done)
theorem inF_inV {x : D} {ds : List D} (hx : flatD x = true) (hd : ds.all flatD = true) : inV (vF x) (ds.map vF) = inF x ds := by
  unfold inV inF
  induction ds with
  | nil => rfl
  | cons d ds ih =>
    rw [List.all_cons, Bool.and_eq_true] at hd
    rw [List.map_cons, List.any_cons, List.any_cons, ih hd.2, eqF_eqV hd.1 hx]
def oIn (neg : Bool) : WOp := fun x y μ Q _ => match sqD μ y with
  | some ds => flatD x = true ∧ ds.all flatD = true ∧ Q (.v (.bool (if neg then !inF x ds else inF x ds))) μ
  | Option.none => False
section
variable {X : Cx} {c : Ctx} {W : WX}
theorem ld_in {neg : Bool} {σ : L2.St} {x y : V} {H : Hp} {Q : VK} (h : ld2 c W 0 (oIn neg) σ x y H Q) : rIn c.K neg x y H Q := by
  obtain ⟨S, F, n, I, μ, dx, dy, Qd, Xd, hl, w, rx, ry, h, q, _⟩ := h
  unfold oIn at h
  split at h
  · rename_i ds e
    obtain ⟨l, xs, rfl, h1, r1⟩ := sqD_rep w ry e
    obtain ⟨e1, f1⟩ := rep_flat rx h.1
    obtain ⟨e2, f2⟩ := reps_flat r1 h.2.1
    refine ⟨l, xs, rfl, h1, f1, f2, ?_⟩
    rw [e1, e2, inF_inV h.1 h.2.1]
    exact q _ μ _ I H h.2.2 (Same.refl I) w .bool
  · exact h.elim
theorem w_in (hK : X.K = c.K := by rfl) : Op2 X c W 0 (compareOp .In) (oIn false) := by
  obtain ⟨K, cl, tb, ns, es0⟩ := c
  cases hK
  exact op2_of op_in_seq fun σ x y H Q h => ld_in h
theorem w_notin (hK : X.K = c.K := by rfl) : Op2 X c W 0 (compareOp .NotIn) (oIn true) := by
  obtain ⟨K, cl, tb, ns, es0⟩ := c
  cases hK
  exact op2_of op_notIn_seq fun σ x y H Q h => ld_in h
end
/-! ### repr of plain data -/
structure Sh (L k : Nat) (p : PyData) : Prop where
  len : p.shown.length ≤ L
  dep : p.depth ≤ k
  can : p.showable = true
  nod : p.hasDict = false
def cbRepr : WC := fun xs μ Q _ => one xs fun x => plainD (drf μ x) = true ∧ Sh sizeLine 60 (pd (drf μ x)) ∧ Q (.v (.str (pd (drf μ x)).shown)) μ
section
variable {X : Cx} {c : Ctx} {W : WX}
def rRepr (K : PySem.W.Frag) : List V → Hp → VK → Prop := fun xs H Q => ∃ v p, xs = [v] ∧ Dp K H v p ∧ Sh sizeLine 60 p ∧ Q (.str p.shown) H
theorem call_reprG (gd : X.A.guards = some []) (hu : X.A.units + 64 < cLine) : CallR X (.builtin "repr") (rRepr X.K) := by
  intro pins s σ H xs us Q J r h
  obtain ⟨v, p, rfl, hp, sh, q⟩ := h
  obtain ⟨u, rfl, ru⟩ := vals1 r
  obtain ⟨as, rd⟩ := Dp.reads J p v u hp ru
  have key : ∀ a, u = .ref a → wpAny (model X.prog X.w) X.A (call (.builtin "repr") [u]) (EP X pins σ Q) X.xe s := fun a e => by
    subst e
    exact repr_of_reads' rd sh.can (PyData.noDict_hsm sh.nod) gd (by have := sh.dep; omega) (fun _ _ z => z) (fun h' t tk kp => ⟨.str _, H, J.kept kp, ⟨t, rfl⟩, q⟩) sh.len
  cases hp with
  | non =>
    cases ru
    rw [PyData.shown_none] at q
    exact PySem.P.repr_of_none ⟨.str _, H, J.tok _, ⟨_, rfl⟩, q⟩
  | bl b =>
    cases ru
    rw [PyData.shown_bool] at q
    exact PySem.P.repr_of_bool ⟨.str _, H, J.tok _, ⟨_, rfl⟩, q⟩
  | int i =>
    obtain ⟨t, rfl⟩ := ru
    rw [PyData.shown_int] at q
    exact PySem.P.repr_of_int (by have := sh.can; simpa [PyData.showable] using this) ⟨.str _, H, J.tok _, ⟨_, rfl⟩, q⟩
  | str x =>
    obtain ⟨t, rfl⟩ := ru
    have := sh.len
    rw [PyData.shown_str] at q this
    exact PySem.P.repr_of_str ⟨.str _, H, J.tok _, ⟨_, rfl⟩, q⟩ this
  | lst g r2 => exact key _ ru
  | tup g r2 => exact key _ ru
theorem w_repr (gd : X.A.guards = some []) (hu : X.A.units + 64 < cLine) (hK : X.K = c.K := by rfl) : CbW X c (.builtin "repr") cbRepr := by
  obtain ⟨K, cl, tb, ns, es0⟩ := c
  cases hK
  refine cbw_of (call_reprG gd hu) fun S F n I μ ds vs H Qd Xd Q w rs h q => ?_
  obtain ⟨x, rfl, h1, h2, h3⟩ := one_cases h
  obtain ⟨v, rfl, rv⟩ := reps1 rs
  exact ⟨v, _, rfl, drf_dp w rv h1, h2, q _ μ _ I H h3 (Same.refl I) w .str⟩
end
/-! ### a field of an error -/
def wErrF (f : Str) (r : WE) : WE := fun e μ Q X => r e μ (fun x μ1 => match x with
  | .err _ fs ds => (match fldD f fs ds with
    | some d => Q d μ1
    | Option.none => False)
  | _ => False) X
section
variable {X : Cx} {c : Ctx} {W : WX} {ko : Nat} {o : Expr} {wo : WE} {m : Str} {pos : Pos}
theorem g_errF (T : CtxOk c) (hn : ∀ n ∈ c.es, PySem.W.findIn X.K (.ref (c.cl n)) m = some none) (ho : GE X c W ko o wo) (hb : attributeBase o m X.env (eval o X.env) = eval o X.env := by rfl) (hK : X.K = c.K := by rfl) : GE X c W ko (.Attribute o m pos) (wErrF m wo) := by
  obtain ⟨K, cl, tb, ns, es0⟩ := c
  cases hK
  refine ⟨fun pins s σ H Q J h => ?_⟩
  have h2 : ldE ⟨X.K, cl, tb, ns, es0⟩ W ko wo σ H fun x H1 => ∃ a n d fs xs v, x = .ref a ∧ n ∈ es0 ∧ H1 a = some (ErO a (.ref (cl n)) d) ∧ ErF H1 d fs xs ∧ (List.zip fs xs).lookup m = some v ∧ Q v H1 := by
    obtain ⟨S, F, n, I, μ, e, Qd, Xd, hl, he, hw, h, q, x⟩ := h
    refine ⟨S, F, n, I, μ, e, _, Xd, hl, he, hw, h, fun d μ1 v I1 H1 pa s1 w1 ra => ?_, x⟩
    cases ra <;> try exact False.elim pa
    rename_i a n dd fs ds xs h1 h2 h3 h4
    dsimp only at pa
    split at pa
    · rename_i y ey
      obtain ⟨v, g1, g2⟩ := fld_rep h3 ey
      exact ⟨a, n, dd, fs, xs, v, rfl, h4, w1.err h1, w1.erF h2, g1, q y μ1 v I1 H1 pa s1 w1 g2⟩
    · exact pa.elim
  refine attr_of hb (thn (ho.run pins s σ H _ J h2) fun u s1 ⟨x, H1, I1, rx, a, n, d, fs, xs, v, ex, hm, e1, e2, e3, q⟩ => ?_)
  subst ex
  cases rx
  obtain ⟨oe, od, ins, z⟩ := inst_err I1 e1 e2
  obtain ⟨o', u', rfl, hl, ru⟩ := z m v e3
  have T2 := T.exc n hm
  exact HandSPX.exc_get I1.kIn ins T2.hg T2.hk T2.hs (PySem.W.findObj_own T2.hd (hn n hm) rfl hl) (handed_of ru) ⟨v, H1, I1.tok _, ru, q⟩
end
end DL

set_option Elab.async false
set_option linter.all false
set_option maxRecDepth 100000
set_option maxHeartbeats 4000000
/-! A7: the law's own state of draws. -/
namespace DL
open PySem PyProof.Rows L2
variable [Gds]
def rAbs : List V → Hp → VK → Prop := fun xs H Q => ∃ i, xs = [.int i] ∧ Q (.int (if i < 0 then -i else i)) H
def rInt1 : List V → Hp → VK → Prop := fun xs H Q => (∃ i, xs = [.int i] ∧ Q (.int i) H) ∨ ∃ k, xs = [.bl k] ∧ Q (.int (if k then 1 else 0)) H
theorem call_absG {X : Cx} : CallR X (.builtin "abs") rAbs := call_abs
theorem call_intG {X : Cx} : CallR X (.type "int") rInt1 := call_int1
theorem pds_ints : ∀ ns : List Int, pds (ns.map D.int) = ns.map PyData.int
  | [] => rfl
  | n :: ns => by rw [List.map_cons, pds, pd, pds_ints ns]; rfl
theorem plains_ints : ∀ ns : List Int, plainsD (ns.map D.int) = true
  | [] => rfl
  | n :: ns => by rw [List.map_cons, plainsD, plainD, plains_ints ns]; rfl
theorem eqvAll_ints : ∀ ns ms : List Int, PyData.eqvAll (ns.map PyData.int) (ms.map PyData.int) = decide (ns = ms)
  | [], [] => rfl
  | [], _ :: _ => rfl
  | _ :: _, [] => rfl
  | n :: ns, m :: ms => by
    rw [List.map_cons, List.map_cons, PyData.eqvAll, PyData.eqv, eqvAll_ints ns ms]
    by_cases h : n = m
    · subst h
      by_cases h2 : ns = ms
      · subst h2
        simp
      · simp [h2]
    · simp [h]
theorem canLay_ints : ∀ ns : List Int, PyData.canLayAll0 (ns.map PyData.int) = true
  | [] => rfl
  | n :: ns => by rw [List.map_cons, PyData.canLayAll0, PyData.canLay0, canLay_ints ns]; rfl
theorem depth_ints : ∀ ns : List Int, PyData.depthAll (ns.map PyData.int) = 0
  | [] => rfl
  | n :: ns => by
    rw [List.map_cons, PyData.depthAll, depth_ints ns]
    rfl
theorem shaped_ints (ns : List Int) : SeqAt.shaped (pd (.list (ns.map D.int))) = true := by
  rw [pd, pds_ints]
  unfold SeqAt.shaped
  rw [PyData.canLay0, canLay_ints, PyData.depth, depth_ints]
  rfl
/-- f(a, ..) where nothing is raised -/
theorem pe_callW0 {X : Cx} {k : Nat} {f : Addr} {fd : FuncData} {ps : List Str} {sp : Sp} {x : Str} {p pos : Pos} {e : Expr} {es : List Expr} {t : TA} (G : FnW X.prog X.w X.K X.mg X.base k f fd ps sp) (gd : Gds.ok X.A) (room : Room k X.A) (gl : Gl X x) (hm : X.mg x = some (.ref f)) (kp : PySem.W.keepIn X.K (.ref f) = true) (bi : Binds X.K fd ps [])
    (ha : PA X (e :: es) t) (hdb : (x == ("__debug__" : Str)) = false := by decide) (he : starEach (e :: es) X.env = (false, eval e X.env) :: starEach es X.env := by rfl) (hpl : (backTo pos (starEach es X.env)).any (·.1) = false := by rfl) :
    PE X (.Call (.Name x p) (e :: es) [] pos) (tCall sp [] E0 t) := ⟨fun pins s σ H Q J h => wpAny_Call_Name_kw (ld_glob J gl hm (PySem.W.callWith_K (h₀ := X.base) J.ok.mod.kin kp (thn (ha.run pos pins s σ H _ J h) fun us s1 ⟨vs, H1, J1, r1, q1⟩ => ⟨J1.kIn, run_fnW (W := W0) (dvs := []) G gd room bi .nil (fun u s' z => by
      obtain ⟨_, _, _, _, _, _, _, _, _, _, _, _, _, _, _, _, z⟩ := z
      exact z.elim) J1 r1 q1⟩) he hpl) hdb)⟩
def stD (l k : Addr) (r t : Int) : List (Key × V) := [(Sum.inr "wide", .ref l), (Sum.inr "cells", .ref k), (Sum.inr "rest", .int r), (Sum.inr "turn", .int t)]
theorem st_wide (l k : Addr) (r t : Int) : valV (stD l k r t) (Sum.inr "wide") = some (.ref l) := rfl
theorem st_cells (l k : Addr) (r t : Int) : valV (stD l k r t) (Sum.inr "cells") = some (.ref k) := rfl
theorem st_rest (l k : Addr) (r t : Int) : valV (stD l k r t) (Sum.inr "rest") = some (.int r) := rfl
theorem st_turn (l k : Addr) (r t : Int) : valV (stD l k r t) (Sum.inr "turn") = some (.int t) := rfl
theorem put_rest (l k : Addr) (r t r' : Int) : putK (stD l k r t) (Sum.inr "rest") (.int r') = stD l k r' t := rfl
theorem put_turn (l k : Addr) (r t t' : Int) : putK (stD l k r t) (Sum.inr "turn") (.int t') = stD l k r t' := rfl

theorem tabs_upd {T : List (Addr × Str)} {H : Hp} {x : Addr} {o u : HO} (h : LamX.Tabs T H) (hx : H x = some o) (ho : notTX o) : LamX.Tabs T (upd H x u) := by
  refine tabs_keep h (fun p hp => upd_ne fun z => ?_) fun b φ e => ?_
  · obtain ⟨ps, h1, _⟩ := h p hp
    rw [z, hx] at h1
    cases h1
    exact ho
  · rw [upd_ne fun z => ?_]
    · exact e
    · rw [z, hx] at e
      cases e
      exact ho
/-- the state's own cells change -/
theorem Wd.st {c : Ctx} {s : SA} {F : Hp} {n m : Nat} {I H H' : Hp} {μ : Mu} (w : Wd c (some s) F n I μ H) (h : StOk s m H') (k : ∀ b o, b ≠ s.d → b ≠ s.l → b ≠ s.k → H b = some o → H' b = some o) : Wd c (some s) F m I μ H' := by
  have ne : ∀ {b : Addr}, (Cell s b → False) → b ≠ s.d ∧ b ≠ s.l ∧ b ≠ s.k := fun {b} hb => ⟨fun e => hb (.inl (.inl e)), fun e => hb (.inl (.inr (.inl e))), fun e => hb (.inl (.inr (.inr e)))⟩
  have nI : ∀ {b : Addr} {o : HO}, I b = some o → Cell s b → False := fun {b o} e q => by
    rw [((w.s s rfl).2 b q).1] at e
    cases e
  have nM : ∀ {b : Addr} {o : Nd}, μ b = some o → Cell s b → False := fun {b o} e q => by
    rw [((w.s s rfl).2 b q).2] at e
    cases e
  refine ⟨fun b o e => ?_, fun b nd e => ?_, fun a e => ?_, w.ni, fun b o e => ?_, w.z⟩
  · obtain ⟨n1, n2, n3⟩ := ne (nI e)
    rcases w.i b o e with z | ⟨z, ob, z2⟩
    · exact .inl (k b o n1 n2 n3 z)
    · exact .inr ⟨z, ob, k b _ n1 n2 n3 z2⟩
  · obtain ⟨n1, n2, n3⟩ := ne (nM e)
    obtain ⟨h1, o, h2, h3⟩ := w.m b nd e
    exact ⟨h1, o, h2, k b _ n1 n2 n3 h3⟩
  · cases e
    exact ⟨h, (w.s s rfl).2⟩
  · obtain ⟨h1, hL⟩ := w.f b o e
    obtain ⟨n1, n2, n3⟩ := ne (b := b) (by
      rcases hL with ⟨_, _, _, h5⟩ | ⟨ob, u, _, _, h3⟩
      · exact h5 s rfl
      · exact nI h3)
    exact ⟨k b _ n1 n2 n3 h1, hL⟩
/-- one more long number -/
def wp_law_mixed : WP := fun ds μ Q _ => match ds with
  | [.state] => ∀ i, Q (.int i) μ
  | _ => False
abbrev rd_law_mixed (c : Ctx) : TS := (tSeq (tPar 1 2 (tCons (tOp (rI0 fun i j => .int (i + j)) (tDGet (tVar 0) (tC (.str "turn"))) (tC (.int 1))) (tCons (tC (.int 0)) tNil)))
    (tSeq (sDPut (tVar 0) (tC (.str "turn")) (tVar 1))
    (tSeq (tFor (iList c.K (tLst (tCons (tC (.int 2147483629)) (tCons (tC (.int 2147483587)) (tCons (tC (.int 2147483579)) (tCons (tC (.int 2147483563)) tNil)))))) (gName 3) (tSeq (tAsg (tOp (rI0 fun i j => .int (i + j)) (tOp (rI CMul fun i j => .int (i * j)) (tC (.int 49999)) (tVar 1)) (tOp (rI CDiv fun i j => .int (i / j)) (tVar 3) (tC (.int 23)))) (gName 4))
    (tSeq (tFor (iList c.K (tDGet (tVar 0) (tC (.str "cells")))) (gName 5) (tAsg (tOp (rI (fun _ j => 0 < j) fun i j => .int (i % j)) (tCB rInt1 (tCons (tOp (rI0 fun i j => .int (i + j)) (tOp (rI0 fun i j => .int (i + j)) (tOp (rI CMul fun i j => .int (i * j)) (tVar 4) (tC (.int 48271))) (tVar 5)) (tVar 1)) tNil)) (tVar 3)) (gName 4)))
    (tAsg (tOp (rI0 fun i j => .int (i + j)) (tOp (rI CMul fun i j => .int (i * j)) (tVar 2) (tC (.int 2147483647))) (tOp (rI (fun _ j => 0 < j) fun i j => .int (i % j)) (tCB rInt1 (tCons (tOp (rI CPowW fun i j => .int (i ^ j.toNat)) (tVar 4) (tC (.int 5))) tNil)) (tVar 3))) (gName 2)))))
    (tRet (tVar 2)))))
def primes : List Int := [2147483629, 2147483587, 2147483579, 2147483563]
theorem primes_ok : ∀ p ∈ primes, 0 < p ∧ p < 2147483648 := by decide
theorem DGet.st {H : Hp} {s : SA} {r t : Int} {key : Str} {v : V} (h : H s.d = some (.dK (stD s.l s.k r t))) (e : valV (stD s.l s.k r t) (Sum.inr key) = some v) : DGet H s.d (.str key) (some v) := by
  rw [← e]
  exact DGet.k (k := Sum.inr key) h
theorem pow5 {b : Int} (h : b.natAbs < 2 ^ 20100) : (Builtin.Int.intBits b : Int) * 5 ≤ 2 ^ 27 := by
  have := intBits_le h
  omega
theorem run_mixed {c : Ctx} {N : List Str} (hN : N.length = 6) {vs : List V} {H : Hp} {Q : VK} {Ex : XK} (hs : SpW c wp_law_mixed 1 vs H Q Ex) : rd_law_mixed c { nx := fun _ H' => Q .non H', rt := Q } (L2.start N vs) H := by
  obtain ⟨S, F, n, I, μ, ds, Qd, Xd, hl, w, rs, h, q, _⟩ := hs
  unfold wp_law_mixed at h
  split at h
  case h_2 => exact h.elim
  cases rs with
  | cons r1 r2 =>
    cases r2
    cases r1 with
    | @state s hS hTB =>
      subst hS
      obtain ⟨htb, hlk, ws, cs, r, t, hd, hw, hk, hwl, hcl, ht0, htn⟩ := (w.s s rfl).1
      have est : L2.start N [V.ref s.d] = [some (V.ref s.d), none, none, none, none, none] := by
        unfold L2.start
        rw [hN]
        rfl
      rw [est]
      -- turn = state["turn"] + 1, found = 0
      refine ⟨_, rfl, s.d, .int t, rfl, DGet.st hd (st_turn _ _ _ _), t, 1, rfl, rfl, ?_⟩
      refine ⟨_, _, rfl, ?_⟩
      -- state["turn"] = turn
      refine ⟨_, rfl, _, rfl, s.d, _, rfl, DPut.k (k := Sum.inr "turn") hd (by show 4 < sizeLine; decide), ?_⟩
      have ndl : s.l ≠ s.d := fun z => by
        rw [z, hd] at hw
        cases hw
      have ndk : s.k ≠ s.d := fun z => by
        rw [z, hd] at hk
        cases hk
      have w1 : Wd c (some s) F (n + 1) I μ (upd H s.d (.dK (stD s.l s.k r (t + 1)))) := by
        refine w.st ⟨tabs_upd htb hd trivial, hlk, ws, cs, r, t + 1, upd_same, by rw [upd_ne ndl]; exact hw, by rw [upd_ne ndk]; exact hk, hwl, hcl, by omega, by push_cast; omega⟩ fun b o h1 h2 h3 e => ?_
        rw [upd_ne h1]
        exact e
      show tSeq _ _ _ _ (upd H s.d (.dK (putK (stD s.l s.k r t) (Sum.inr "turn") (.int (t + 1)))))
      rw [put_turn]
      generalize upd H s.d (.dK (stD s.l s.k r (t + 1))) = H1 at w1
      -- for prime in [..]
      refine ⟨by show 4 ≤ sizeLine; decide, fun l0 hl0 => ⟨l0, rfl, ⟨_, SqL.of upd_same⟩, ?_⟩⟩
      have f0 := w1.nf hl0
      have w2 : Wd c (some s) (upd F l0 (.lst (primes.map V.int))) (n + 1) I μ (upd H1 l0 (.lst (primes.map V.int))) := (w1.frame hl0).leave upd_same (w1.fresh hl0).1 (w1.fresh hl0).2 trivial (w1.no_cell hl0)
      refine for_list (K := c.K) (a := l0) (xs := primes.map V.int) (fun i σ H' => ∃ (f : Int) (p b cl : Option V), σ = [some (V.ref s.d), some (V.int (t + 1)), some (V.int f), p, b, cl] ∧ Wd c (some s) (upd F l0 (.lst (primes.map V.int))) (n + 1) I μ H')
        ⟨0, _, _, _, rfl, w2⟩ (fun i σ H' _ ⟨_, _, _, _, _, w'⟩ => SqL.of (w'.f _ _ upd_same).1) ?_ ?_
      · rintro i x σ H' hx ⟨f, p, b, cl, rfl, w'⟩
        have hxm : x ∈ primes.map V.int := List.mem_of_getElem? hx
        obtain ⟨pr, hpr, rfl⟩ := List.mem_map.mp hxm
        obtain ⟨hp0, hp1⟩ := primes_ok pr hpr
        obtain ⟨htb', hlk', ws', cs', r', t', hd', hw', hk', hwl', hcl', ht0', htn'⟩ := (w'.s s rfl).1
        -- blend = 49999 * turn + prime // 23
        refine ⟨_, rfl, 49999, t + 1, rfl, rfl, .inl ⟨by decide, by decide⟩, ?_⟩
        refine ⟨_, rfl, pr, 23, rfl, rfl, ⟨by decide, by decide⟩, _, _, rfl, rfl, ?_⟩
        -- for cell in state["cells"]
        refine ⟨_, rfl, s.d, _, rfl, DGet.st hd' (st_cells _ _ _ _), s.k, rfl, ⟨_, SqL.of hk'⟩, ?_⟩
        refine for_list (K := c.K) (a := s.k) (xs := cs'.map V.int) (fun j σ2 H2 => ∃ (bl : Int) (cl2 : Option V), σ2 = [some (V.ref s.d), some (V.int (t + 1)), some (V.int f), some (V.int pr), some (V.int bl), cl2] ∧ H2 = H' ∧ bl.natAbs < 2 ^ 20100)
          ⟨_, cl, rfl, rfl, ?_⟩ (fun j σ2 H2 _ ⟨_, _, _, e, _⟩ => by rw [e]; exact SqL.of hk') ?_ ?_
        · have h23 : 0 ≤ pr / 23 ∧ pr / 23 < 2147483648 := by omega
          have e1 : (49999 * (t + 1) + pr / 23).natAbs ≤ 49999 * LIM + 2147483648 := by omega
          refine Nat.lt_of_le_of_lt e1 ?_
          unfold LIM
          decide +kernel
        · rintro j x σ2 H2 hx2 ⟨bl, cl2, rfl, rfl, hbl⟩
          obtain ⟨cv, hcv, rfl⟩ := List.mem_map.mp (List.mem_of_getElem? hx2)
          refine ⟨_, rfl, bl, 48271, rfl, rfl, .inr ⟨by decide, by decide⟩, ?_⟩
          refine ⟨_, rfl, _, _, rfl, rfl, _, rfl, _, _, rfl, rfl, .inl ⟨_, rfl, _, rfl, _, _, rfl, rfl, hp0, ?_⟩⟩
          refine ⟨_, _, rfl, rfl, ?_⟩
          have h1 := Int.emod_nonneg (bl * 48271 + cv + (t + 1)) (show pr ≠ 0 by omega)
          have h2 := Int.emod_lt_of_pos (bl * 48271 + cv + (t + 1)) hp0
          refine Nat.lt_of_lt_of_le (m := 2 ^ 31) (by omega) (Nat.pow_le_pow_right (by decide) (by decide))
        · rintro σ2 H2 ⟨bl, cl2, rfl, rfl, hbl⟩
          refine ⟨_, rfl, f, 2147483647, rfl, rfl, .inr ⟨by decide, by decide⟩, ?_⟩
          refine ⟨_, rfl, bl, 5, rfl, rfl, ⟨by decide, pow5 hbl⟩, .inl ⟨_, rfl, _, rfl, _, _, rfl, rfl, hp0, _, _, rfl, rfl, ?_⟩⟩
          exact ⟨_, _, _, _, rfl, w'⟩
      · rintro σ H' ⟨f, p, b, cl, rfl, w'⟩
        exact ⟨_, rfl, q (.int f) μ _ I H' (h f) (Same.refl I) (w'.less fun b o e => by rw [upd_ne (ne_of_none e f0)]; exact e) .int⟩
/-! ### a draw -/
def wp_law_take : WP := fun ds μ Q _ => match ds with
  | [.state, .int m] => (0 < m ∧ m.natAbs.log2 < 9000) ∧ ∀ i, 0 ≤ i → i < m → Q (.int i) μ
  | _ => False
abbrev rd_law_take (c : Ctx) : TS := (tSeq (tIfS (tTest (tOp rEq (tDGet (tVar 0) (tC (.str "rest"))) (tC (.int 0)))) (sDPut (tVar 0) (tC (.str "rest")) (tIf (tTest (tOp (rNeD c.K) (tDGet (tVar 0) (tC (.str "wide"))) (tLst tNil))) (tBM c.K "list" rPopAt (tDGet (tVar 0) (tC (.str "wide"))) (tCons (tC (.int 0)) tNil)) (tCall (SpW c wp_law_mixed 1) [] E0 (tCons (tVar 0) tNil)))) tNext)
    (tSeq (tAsg (tOp (rI (fun _ j => 0 < j) fun i j => .int (i % j)) (tCB rInt1 (tCons (tDGet (tVar 0) (tC (.str "rest"))) tNil)) (tVar 1)) (gName 2))
    (tSeq (sDPut (tVar 0) (tC (.str "rest")) (tOp (rI CDivW fun i j => .int (i / j)) (tDGet (tVar 0) (tC (.str "rest"))) (tVar 1)))
    (tRet (tVar 2)))))
theorem seq0 (n : Nat) : seqIndex? 0 (n + 1) = some 0 := by
  unfold seqIndex?
  simp
theorem run_take {c : Ctx} {N : List Str} (hN : N.length = 3) {vs : List V} {H : Hp} {Q : VK} {Ex : XK} (hs : SpW c wp_law_take 1 vs H Q Ex) : rd_law_take c { nx := fun _ H' => Q .non H', rt := Q } (L2.start N vs) H := by
  obtain ⟨S, F, n, I, μ, ds, Qd, Xd, hl, w, rs, h, q, _⟩ := hs
  unfold wp_law_take at h
  split at h
  case h_2 => exact h.elim
  rename_i m
  obtain ⟨⟨hm0, hm1⟩, h⟩ := h
  cases rs with
  | cons r1 r2 =>
    cases r2 with
    | cons r2 r3 =>
      cases r3
      cases r2
      cases r1 with
      | @state s hS hTB =>
        subst hS
        have est : L2.start N [V.ref s.d, V.int m] = [some (V.ref s.d), some (V.int m), none] := by
          unfold L2.start
          rw [hN]
          rfl
        rw [est]
        -- what follows the if
        have rest : ∀ I2 H', Same I I2 → Wd c (some s) F (n + 1) I2 μ H' → tSeq (tAsg (tOp (rI (fun _ j => 0 < j) fun i j => .int (i % j)) (tCB rInt1 (tCons (tDGet (tVar 0) (tC (.str "rest"))) tNil)) (tVar 1)) (gName 2))
            (tSeq (sDPut (tVar 0) (tC (.str "rest")) (tOp (rI CDivW fun i j => .int (i / j)) (tDGet (tVar 0) (tC (.str "rest"))) (tVar 1)))
            (tRet (tVar 2))) { nx := fun _ H' => Q .non H', rt := Q } [some (V.ref s.d), some (V.int m), none] H' := fun I2 H' sm0 w' => by
          obtain ⟨htb, hlk, ws, cs, r, t, hd, hw, hk, hwl, hcl, ht0, htn⟩ := (w'.s s rfl).1
          refine ⟨_, rfl, s.d, _, rfl, DGet.st hd (st_rest _ _ _ _), .inl ⟨r, rfl, _, rfl, r, m, rfl, rfl, hm0, ?_⟩⟩
          refine ⟨_, rfl, s.d, _, rfl, DGet.st hd (st_rest _ _ _ _), _, rfl, r, m, rfl, rfl, ⟨hm0, hm1⟩, _, rfl, s.d, _, rfl, DPut.k (k := Sum.inr "rest") hd (by show 4 < sizeLine; decide), ?_⟩
          have ndl : s.l ≠ s.d := fun z => by
            rw [z, hd] at hw
            cases hw
          have ndk : s.k ≠ s.d := fun z => by
            rw [z, hd] at hk
            cases hk
          refine ⟨_, rfl, q (.int (r % m)) μ _ I2 _ (h _ (Int.emod_nonneg _ (by omega)) (Int.emod_lt_of_pos _ hm0)) sm0 ?_ .int⟩
          show Wd c (some s) F (n + 1) I2 μ (upd H' s.d (.dK (putK (stD s.l s.k r t) (Sum.inr "rest") (.int (r / m)))))
          rw [put_rest]
          refine w'.st ⟨tabs_upd htb hd trivial, hlk, ws, cs, r / m, t, upd_same, by rw [upd_ne ndl]; exact hw, by rw [upd_ne ndk]; exact hk, hwl, hcl, ht0, htn⟩ fun b o h1 h2 h3 e => ?_
          rw [upd_ne h1]
          exact e
        obtain ⟨htb, hlk, ws, cs, r, t, hd, hw, hk, hwl, hcl, ht0, htn⟩ := (w.s s rfl).1
        refine ⟨_, rfl, s.d, _, rfl, DGet.st hd (st_rest _ _ _ _), rfl, _, rfl, ?_⟩
        refine ite2 (fun _ => ?_) (fun _ => rest I H (Same.refl I) (w.up (by omega)))
        -- a new rest
        have ndl : s.l ≠ s.d := fun z => by
          rw [z, hd] at hw
          cases hw
        have ndk : s.k ≠ s.d := fun z => by
          rw [z, hd] at hk
          cases hk
        have store : ∀ (v : Int) I2 H', Wd c (some s) F (n + 1) I2 μ H' → ∃ a H4, V.ref s.d = .ref a ∧ DPut H' a (.str "rest") (.int v) H4 ∧ Wd c (some s) F (n + 1) I2 μ H4 := fun v I2 H' w' => by
          obtain ⟨htb, hlk, ws, cs, r, t, hd, hw, hk, hwl, hcl, ht0, htn⟩ := (w'.s s rfl).1
          refine ⟨s.d, _, rfl, DPut.k (k := Sum.inr "rest") hd (by show 4 < sizeLine; decide), ?_⟩
          show Wd c (some s) F (n + 1) I2 μ (upd H' s.d (.dK (putK (stD s.l s.k r t) (Sum.inr "rest") (.int v))))
          rw [put_rest]
          have ndl : s.l ≠ s.d := fun z => by
            rw [z, hd] at hw
            cases hw
          have ndk : s.k ≠ s.d := fun z => by
            rw [z, hd] at hk
            cases hk
          refine w'.st ⟨tabs_upd htb hd trivial, hlk, ws, cs, v, t, upd_same, by rw [upd_ne ndl]; exact hw, by rw [upd_ne ndk]; exact hk, hwl, hcl, ht0, htn⟩ fun b o h1 h2 h3 e => ?_
          rw [upd_ne h1]
          exact e
        refine ⟨_, rfl, s.d, _, rfl, DGet.st hd (st_wide _ _ _ _), Nat.zero_le _, fun p hp => ?_⟩
        have hpl : s.l ≠ p := ne_of_none hw hp
        have hw' : upd H p (.lst []) s.l = some (.lst (ws.map V.int)) := by rw [upd_ne hpl]; exact hw
        have hd' : upd H p (.lst []) s.d = some (.dK (stD s.l s.k r t)) := by rw [upd_ne (ne_of_none hd hp)]; exact hd
        have hk' : upd H p (.lst []) s.k = some (.lst (cs.map V.int)) := by rw [upd_ne (ne_of_none hk hp)]; exact hk
        have w2 : Wd c (some s) F n I μ (upd H p (.lst [])) := w.frame hp
        have dpw : ∀ (xs : List Int) (b : Addr), upd H p (.lst []) b = some (.lst (xs.map V.int)) → Dp c.K (upd H p (.lst [])) (.ref b) (.list (xs.map PyData.int)) := fun xs b hb => by
          refine .lst (SqL.of hb) ?_
          clear hb
          induction xs with
          | nil => exact .nil
          | cons x xs ih => exact .cons (.int x) ih
        refine ⟨_, _, dpw ws s.l hw', dpw [] p upd_same, ?_, ?_, _, rfl, ?_⟩
        · have := shaped_ints ws
          rw [pd, pds_ints] at this
          exact this
        · decide +kernel
        · cases ws with
          | nil =>
            refine iteF ?_
            -- by mixing
            refine ⟨_, rfl, ?_⟩
            refine ⟨some s, F, n, I, μ, [.state], fun d μ' => μ' = μ ∧ ∃ i, d = .int i, fun _ _ => False, hl, w2, .cons (.state rfl hTB) .nil, fun i => ⟨rfl, i, rfl⟩, fun d μ' v I' H' ⟨e0, i, hi⟩ sm w3 r3 => ?_, fun _ _ _ _ _ _ z => z.elim⟩
            subst e0 hi
            cases r3
            obtain ⟨a, H4, e1, e2, e3⟩ := store i I' H' w3
            exact ⟨_, rfl, a, H4, e1, e2, rest I' H4 sm e3⟩
          | cons x xs =>
            refine iteT ?_
            refine ⟨_, rfl, s.d, _, rfl, DGet.st hd' (st_wide _ _ _ _), .inl ⟨rfl, _, SqL.of hw'⟩, ?_⟩
            refine ⟨s.l, _, 0, 0, .int x, rfl, rfl, hw', by decide, by decide, ?_, rfl, ?_⟩
            · rw [List.length_map]
              exact seq0 _
            · have w4 : Wd c (some s) F (n + 1) I μ (upd (upd H p (.lst [])) s.l (.lst (xs.map V.int))) := by
                refine w2.st ⟨tabs_upd ((w2.s s rfl).1.1) hw' trivial, hlk, xs, cs, r, t, by rw [upd_ne (Ne.symm ndl)]; exact hd', upd_same, by rw [upd_ne (Ne.symm hlk)]; exact hk', ?_, hcl, ht0, by push_cast; omega⟩ fun b o h1 h2 h3 e => ?_
                · rw [List.length_cons] at hwl
                  omega
                · rw [upd_ne h2]
                  exact e
              obtain ⟨a, H4, e1, e2, e3⟩ := store x I _ w4
              exact ⟨_, rfl, a, H4, e1, e2, rest I H4 (Same.refl I) e3⟩
/-! ### the state's making -/
def sp_law_begun (c : Ctx) : Sp := fun vs H Q _ => ∃ (a : Addr) (ns : List Int), vs = [.ref a] ∧ SqL c.K H a (ns.map V.int) ∧ ns.length ≤ 63 ∧ LamX.Tabs c.tb H ∧
  ∀ (s : SA) H', s.T = c.tb → H s.d = Option.none → H s.l = Option.none → H s.k = Option.none → StOk s 0 H' → Same H H' → Q (.ref s.d) H'
abbrev rd_law_begun (c : Ctx) : TS := (tSeq (tAsg (tLc (iList c.K (tVar 0)) (gName 2) (tTest (tOp (rI0 fun i j => .bl (decide (j ≤ i))) (tCB rAbs (tCons (tVar 2) tNil)) (tOp (rI CPowW fun i j => .int (i ^ j.toNat)) (tC (.int 10)) (tC (.int 18))))) (tOp (rI0 fun i j => .int (i - j)) (tCB rAbs (tCons (tVar 2) tNil)) (tOp (rI CPowW fun i j => .int (i ^ j.toNat)) (tC (.int 10)) (tC (.int 18)))) [2]) (gName 1))
    (tRet (tDisp [((tC (.str "wide")), (tVar 1)), ((tC (.str "cells")), (tLc (iList c.K (tVar 0)) (gName 2) tYes (tOp (rI (fun _ j => 0 < j) fun i j => .int (i % j)) (tCB rInt1 (tCons (tCB rAbs (tCons (tVar 2) tNil)) tNil)) (tC (.int 2147483629))) [2])), ((tC (.str "rest")), (tC (.int 0))), ((tC (.str "turn")), (tC (.int 0)))])))
theorem st_merge (l k : Addr) : mergeK [] (stD l k 0 0) = stD l k 0 0 := rfl
theorem run_begun {c : Ctx} {N : List Str} (hN : N.length = 3) {vs : List V} {H : Hp} {Q : VK} {Ex : XK} (hs : sp_law_begun c vs H Q Ex) : rd_law_begun c { nx := fun _ H' => Q .non H', rt := Q } (L2.start N vs) H := by
  obtain ⟨a, ns, rfl, hS, hl, hT, q⟩ := hs
  have est : L2.start N [V.ref a] = [some (V.ref a), none, none] := by
    unfold L2.start
    rw [hN]
    rfl
  rw [est]
  have get : ∀ {i : Nat} {y : V}, (ns.map V.int)[i]? = some y → ∃ z, y = V.int z := fun {i y} h => by
    obtain ⟨z, _, e⟩ := List.mem_map.mp (List.mem_of_getElem? h)
    exact ⟨z, e.symm⟩
  refine ⟨_, rfl, a, rfl, ⟨_, hS⟩, fun Dw hD => lc_list (K := c.K) (a := a) (xs := ns.map V.int) (fun i H' => Same H H' ∧ ∃ ws : List Int, H' Dw = some (.lst (ws.map V.int)) ∧ ws.length ≤ i) ⟨same_new hD, [], upd_same, Nat.le_refl _⟩ (fun i H' _ p => p.1.seq hS) ?_ ?_⟩
  · rintro i y H' hy ⟨sm, ws, hw, hwl⟩
    obtain ⟨z, rfl⟩ := get hy
    have hil : i < ns.length := by
      have := (List.getElem?_eq_some_iff.mp hy).1
      rw [List.length_map] at this
      exact this
    refine ⟨rfl, _, rfl, z, rfl, 10, 18, rfl, rfl, ⟨by decide, by decide +kernel⟩, _, _, rfl, rfl, _, rfl, ?_⟩
    refine ite2 (fun _ => ?_) (fun _ => ⟨sm, ws, hw, by omega⟩)
    refine ⟨_, rfl, z, rfl, 10, 18, rfl, rfl, ⟨by decide, by decide +kernel⟩, _, _, rfl, rfl, _, hw, ?_, ?_, ws ++ [(if z < 0 then -z else z) - 10 ^ (18 : Int).toNat], ?_, ?_⟩
    · rw [List.length_map]
      exact small1000 (by omega)
    · intro b o e
      rw [upd_ne (ne_of_none e hD)]
      exact sm b o e
    · rw [upd_same, List.map_append]
      rfl
    · rw [List.length_append]
      show ws.length + 1 ≤ i + 1
      omega
  · rintro H1 ⟨sm1, ws, hw, hwl⟩
    rw [List.length_map] at hwl
    intro p hp
    have hpD : Dw ≠ p := ne_of_none hw hp
    have hpH : H p = none := sm1.free hp
    have smp : Same H (upd H1 p (.dK [])) := fun b o e => by
      rw [upd_ne (ne_of_none e hpH)]
      exact sm1 b o e
    refine ⟨_, rfl, _, rfl, a, rfl, ⟨_, smp.seq hS⟩, fun Dc hDc => lc_list (K := c.K) (a := a) (xs := ns.map V.int) (fun i H' => Same (upd H1 p (.dK [])) H' ∧ ∃ cs : List Int, H' Dc = some (.lst (cs.map V.int)) ∧ cs.length ≤ i) ⟨same_new hDc, [], upd_same, Nat.le_refl _⟩ (fun i H' _ p => (smp.trans p.1).seq hS) ?_ ?_⟩
    · rintro i y H' hy ⟨sm, cs, hc, hcl⟩
      obtain ⟨z, rfl⟩ := get hy
      have hil : i < ns.length := by
        have := (List.getElem?_eq_some_iff.mp hy).1
        rw [List.length_map] at this
        exact this
      refine ⟨rfl, ?_⟩
      unfold tYes
      dsimp only
      rw [if_pos rfl]
      refine ⟨_, rfl, z, rfl, .inl ⟨_, rfl, _, _, rfl, rfl, (by show (0 : Int) < 2147483629; decide), _, hc, ?_, ?_, cs ++ [(if z < 0 then -z else z) % 2147483629], ?_, ?_⟩⟩
      · rw [List.length_map]
        exact small1000 (by omega)
      · intro b o e
        rw [upd_ne (ne_of_none e hDc)]
        exact sm b o e
      · rw [upd_same, List.map_append]
        rfl
      · rw [List.length_append]
        show cs.length + 1 ≤ i + 1
        omega
    · rintro H2 ⟨sm2, cs, hc, hcl⟩
      rw [List.length_map] at hcl
      have hDcp : Dc ≠ p := fun z => by
        rw [z, upd_same] at hDc
        cases hDc
      have hDcw : Dw ≠ Dc := fun z => by
        rw [← z, upd_ne hpD, hw] at hDc
        cases hDc
      refine ⟨sm2 _ _ upd_same, stD Dw Dc 0 0, rfl, by show 4 ≤ 15; decide, ?_⟩
      rw [st_merge]
      have hDcH : H Dc = none := smp.free hDc
      have smF : ∀ u, Same H (upd H2 p u) := fun u b o e => by
        rw [upd_ne (ne_of_none e hpH)]
        exact sm2 b o (smp b o e)
      refine q ⟨p, Dw, Dc, c.tb⟩ _ rfl hpH hD hDcH ⟨hT.ext (smF _), hDcw, ws, cs, 0, 0, upd_same, ?_, ?_, by omega, by omega, by omega, by omega⟩ (smF _)
      · rw [upd_ne hpD]
        exact sm2 _ _ (by rw [upd_ne hpD]; exact hw)
      · rw [upd_ne hDcp]
        exact hc
/-! ### the law -/
def spLaw (c : Ctx) : Sp := fun vs H Q _ => ∃ (a : Addr) (ns : List Int), vs = [.ref a] ∧ SqL c.K H a (ns.map V.int) ∧ ns.length ≤ 63 ∧ (∀ p ∈ c.tb, H p.1 = some (.tbl #[])) ∧ ∀ H', Q (.bl true) H'
/-- the law's wish behind its first row -/
def lawEnds : WEnds := ⟨fun _ _ => False, fun d _ => d = .bool true, fun _ _ => False, fun _ _ => False, fun _ _ _ => False⟩
theorem law_start {c : Ctx} {W : WX} {u : WS} {N : List Str} {k : Nat} (hN : 2 ≤ N.length) (hk : k ≤ LIM) (h : ∀ ns : List Int, ns.length ≤ 63 → u (some (.script ns) :: some .state :: List.replicate (N.length - 2) Option.none) (fun _ => Option.none) lawEnds)
    {vs : List V} {H : Hp} {Q : VK} {Ex : XK} (hs : spLaw c vs H Q Ex) : tSeq (tAsg (tCall (sp_law_begun c) [] E0 (tCons (tVar 0) tNil)) (gName 1)) (ldS c W k u) { nx := fun _ H' => Q .non H', rt := Q } (L2.start N vs) H := by
  obtain ⟨a, ns, rfl, hS, hl, hT, q⟩ := hs
  have est : L2.start N [V.ref a] = some (V.ref a) :: none :: List.replicate (N.length - 2) none := by
    unfold L2.start
    obtain ⟨m, hm⟩ : ∃ m, N.length = m + 2 := ⟨N.length - 2, by omega⟩
    rw [hm]
    rfl
  rw [est]
  refine ⟨_, rfl, a, ns, rfl, hS, hl, fun p hp => .nil (hT p hp), fun s H' eT h1 h2 h3 hst sm => ?_⟩
  show ldS c W k u _ (some (V.ref a) :: some (V.ref s.d) :: List.replicate (N.length - 2) none) H'
  obtain ⟨I, hI, hIS⟩ : ∃ I : Hp, (∀ b o, I b = some o → H b = some o ∧ notTb o) ∧ SqL c.K I a (ns.map V.int) := by
    have one : ∀ o0 : HO, H a = some o0 → notTb o0 → ∃ I : Hp, (∀ b o, I b = some o → H b = some o ∧ notTb o) ∧ I a = some o0 := fun o0 e0 n0 => by
      refine ⟨fun b => if b = a then some o0 else Option.none, fun b o e => ?_, if_pos rfl⟩
      by_cases z : b = a
      · have e2 := (if_pos z).symm.trans e
        cases e2
        rw [z]
        exact ⟨e0, n0⟩
      · have e2 := (if_neg z).symm.trans e
        cases e2
    rcases hS with (z | ⟨o, z⟩) | z
    · obtain ⟨I, p1, p2⟩ := one _ z trivial
      exact ⟨I, p1, .inl (.inl p2)⟩
    · obtain ⟨I, p1, p2⟩ := one _ z trivial
      exact ⟨I, p1, .inl (.inr ⟨o, p2⟩)⟩
    · exact ⟨fun _ => Option.none, fun _ _ e => (by cases e), .inr z⟩
  have w : Wd c (some s) (fun _ => Option.none) 0 I (fun _ => Option.none) H' := by
    refine ⟨fun b o e => .inl (sm _ _ (hI b o e).1), fun b o e => (by cases e), fun x e => ?_, fun b o e => (hI b o e).2, fun b o e => (by cases e), s, rfl, eT⟩
    cases e
    refine ⟨hst, fun b hb => ⟨none_of fun o e => ?_, rfl⟩⟩
    obtain ⟨e1, e2⟩ := hI b o e
    rcases hb with (z | z | z) | ⟨p, hp, z⟩
    · rw [z, h1] at e1; cases e1
    · rw [z, h2] at e1; cases e1
    · rw [z, h3] at e1; cases e1
    · rw [eT] at hp
      rw [z, hT p hp] at e1
      cases e1
      exact e2
  have r : Rep c (some s) I (.script ns) (.ref a) := .script hIS
  have er : EnvR c (some s) I (some (.script ns) :: some .state :: List.replicate (N.length - 2) Option.none) (some (V.ref a) :: some (V.ref s.d) :: List.replicate (N.length - 2) none) := by
    refine .yes r (.yes (.state rfl eT) ?_)
    exact EnvR.init (N.length - 2) (ds := []) (vs := []) .nil
  refine ⟨some s, fun _ => Option.none, 0, I, fun _ => Option.none, _, lawEnds, by omega, er, w, h ns hl, ⟨fun _ _ _ _ _ p => p.elim, fun d μ' v I' H2 p s2 w2 r2 => ?_, fun _ _ _ _ _ p => p.elim, fun _ _ _ _ _ p => p.elim, fun _ _ _ _ _ _ _ _ p => p.elim⟩⟩
  cases p
  cases r2
  exact q H2
end DL

set_option Elab.async false
set_option linter.all false
set_option maxRecDepth 100000
set_option maxHeartbeats 4000000
/-! A8: raise, errors with a field, errors caught, a cell that stays as it is from now on. -/
namespace DL
open PySem PySem.Spec PyProof.Rows L2
/-! ### raise -/
def wRz (n : Str) : WS := fun e μ E => E.xp (.err n [] []) e μ
def wRzA (n f : Str) (a : WE) : WS := fun e μ E => a e μ (fun d μ1 => E.xp (.err n [f] [d]) e μ1) fun d μ1 => E.xp d e μ1
/-- the error's own __init__: its field is kept -/
def sp_ei (K : PySem.W.Frag) (f : Str) : Sp := fun vs H Q _ => ∃ (a C : Addr) (y : V), vs = [.ref a, y] ∧ OexC K C ∧ PySem.W.findIn K (.ref C) f = some none ∧ H a = some (exo a C none) ∧ ∀ dx, H dx = none → dx ≠ a → Q .non (upd (upd H dx (exd dx [(f, y)])) a (exo a C (some dx)))
section
variable {X : Cx}
/-- CrossError.__init__(self, ..) -/
theorem pe_ceinit {x : Str} {CE : Addr} {e : Expr} {es : List Expr} {ta : TA} {p1 p2 pos : Pos} {pl : Sem Bool} (hg : Gl X x) (hm : X.mg x = some (.ref CE)) (rd : ClX.CRead X.K CE (.type "type"))
    (vV : PySem.W.findCls X.K (.ref CE) (.type "type") "__init__" = some (.val (.builtin "ValueError.__init__"))) (ha : PA X (e :: es) ta) (hdb : (x == ("__debug__" : Str)) = false := by decide)
    (hc : eval (.Call (.Attribute (.Name x p1) "__init__" p2) (e :: es) [] pos) X.env = (do
      let ov ← eval (.Name x p1) X.env
      standAt p2.atName
      let (f, first) ← holding [ov] (getMethod ov "__init__" pl)
      callWith pos f first (backTo pos (starEach (e :: es) X.env)) (backToKw pos (keywordEach [] X.env))) := by rfl)
    (he : starEach (e :: es) X.env = (false, eval e X.env) :: starEach es X.env := by rfl) (hpl : (backTo pos (starEach es X.env)).any (·.1) = false := by rfl) :
    PE X (.Call (.Attribute (.Name x p1) "__init__" p2) (e :: es) [] pos) (tVeI X.K ta) := by
  refine ⟨fun pins s σ H Q J h => ?_⟩
  refine PySem.W.methodCall_KW (ld_glob J hg hm ?_ hdb) hc
  refine PySem.W.method_cls J.kIn rd.ga (PySem.W.cls_value J.kIn rd.rd vV (by decide +kernel) ?_)
  show wpAny _ _ (callWith pos (Value.builtin "ValueError.__init__") [] (backTo pos (starEach (e :: es) X.env)) []) _ _ _
  refine PyProof.Rows.callWith_method1 (thn (ha.run pos pins _ σ H _ (J.tok _) h) fun us s1 ⟨vs, H1, J1, r1, a, C, ws, ev, hl, T, ea, q⟩ => ?_) he hpl
  subst ev
  cases r1 with
  | @cons _ u0 _ ur ra rw' =>
    obtain rfl : u0 = Value.ref a := ra
    exact oinit_ok T J1 ea (by rw [← Paired.length rw', sizeLine_eq]; omega) fun s' J2 => ⟨.non, H1, J2, rfl, q⟩
end
/-- def __init__(self, f): CrossError.__init__(self, '..'); self.f = f -/
theorem einit_of {P : Program} {w : PySem.World} {K : PySem.W.Frag} {mg : Str → Option Value} {base : Heap} {fa CE : Addr} {fd : FuncData} {x qual s a fld txt : Str} {pa : Arguments} {sc : Scope} {dvs : List V} {kws : List (Str × V)} {j : Nat} {p1 p2 p3 p4 p5 p6 p7 p8 p9 p10 : Pos}
    (F : FunD K x qual pa [.Expr (.Call (.Attribute (.Name "CrossError" p1) "__init__" p2) [.Name s p3, .Constant (.str txt) j p4] [] p5) p6, .Assign [.Attribute (.Name s p7) fld p8] (.Name a p9) p10] sc dvs kws fa fd)
    (Sc : FnScope [s, a] [s, a] sc) (hm : mg "CrossError" = some (.ref CE)) (hgl : sc.names.lookup ("CrossError" : Str) = some .globalImplicit) (hs : sc.names.lookup s = some .local) (ha : sc.names.lookup a = some .local) (rd : ClX.CRead K CE (.type "type"))
    (vV : PySem.W.findCls K (.ref CE) (.type "type") "__init__" = some (.val (.builtin "ValueError.__init__")))
    {pl : Env → Sem Bool} (hcl : ∀ env, eval (.Call (.Attribute (.Name "CrossError" p1) "__init__" p2) [.Name s p3, .Constant (.str txt) j p4] [] p5) env = (do
      let ov ← eval (.Name "CrossError" p1) env
      standAt p2.atName
      let (f, first) ← holding [ov] (getMethod ov "__init__" (pl env))
      callWith p5 f first (backTo p5 (starEach [.Name s p3, .Constant (.str txt) j p4] env)) (backToKw p5 (keywordEach [] env))) := by intro _; rfl)
    (hsw : ∀ env, swapsWith (.Call (.Attribute (.Name "CrossError" p1) "__init__" p2) [.Name s p3, .Constant (.str txt) j p4] [] p5) none p6.line env = pure false := by intro _; rfl) (hsw2 : ∀ env, swapsWith (.Name a p9) (some (.Attribute (.Name s p7) fld p8)) p10.line env = pure false := by intro _; rfl)
    (ds : (s == ("__debug__" : Str)) = false := by decide) (ds2 : (s == ("__classdict__" : Str)) = false := by decide) (da : (a == ("__debug__" : Str)) = false := by decide) (da2 : (a == ("__classdict__" : Str)) = false := by decide) :
    FnOk P w K mg base C8.CX0 1 fa fd [s, a] (sp_ei K fld) := by
  refine F.ok (k := 0) Sc (fun vs H Q E h => ?_) fun cdv A outer sh H vs Q E hr h => ?_
  · obtain ⟨_, _, _, rfl, _⟩ := h
    rfl
  · obtain ⟨a0, C, y, rfl, T, hf, hx, q⟩ := h
    refine ⟨_, pss_cons (ps_expr (pe_ceinit (X := cxOf C8.CX0 P w K mg base [s, a] qual sc fa cdv A outer sh H E) hgl hm rd vV (pa_cons (pe_var (i := 0) rfl (Or.inl hs) ds ds2) (pa_cons pe_str pa_nil)) (hc := hcl _)) (hsw _)) (pss_one (ps_ost (X := cxOf C8.CX0 P w K mg base [s, a] qual sc fa cdv A outer sh H E) (pe_var (i := 0) rfl (Or.inl hs) ds ds2) (pe_var (i := 1) rfl (Or.inl ha) da da2) (hsw2 _))), ?_⟩
    exact ⟨_, rfl, a0, C, _, rfl, by show 1 ≤ 1000; omega, T, hx, y, rfl, _, rfl, a0, C, rfl, T, hf, .inl ⟨hx, q⟩⟩
section
variable {X : Cx} {c : Ctx} {W : WX} {k ka : Nat} {a : Expr} {wa : WE} {n x f : Str} {p p2 pos pos' : Pos}
/-- raise x('..') -/
theorem g_rz {m : Str} {j : Nat} {bmB : List Value} {B newId initId : String} (hc : X.calm = true) (tk : Takes X W) (G : ExcBaseFacts B newId initId bmB) (q : PySem.W.excIn X.K (c.cl n) bmB newId = true) (gC : X.mg x = some (.ref (c.cl n))) (kC : PySem.W.keepIn X.K (.ref (c.cl n)) = true)
    (r : Raises X (.ref (c.cl n))) (hg : Gl X x) (hn : n ∈ c.es := by decide) (hdb : (x == ("__debug__" : Str)) = false := by decide) : GS X c W 0 (.Raise (some (.Call (.Name x p) [.Constant (.str m) j p2] [] pos)) none pos') (wRz n) := L2.PS.imp (ps_raise hc tk (pmk_own G q gC kC r hg hdb)) fun K σ H h => by
  obtain ⟨S, F, nn, I, μ, e, E, hl, he, hw, h, q⟩ := h
  exact q.x he _ μ _ _ I H h (Same.refl I) hw ⟨n, [], [], [], rfl, rfl, ⟨rfl, .inl ⟨rfl, rfl⟩⟩, .nil, hn⟩
theorem exd_del {H1 : Hp} {a C dx : Addr} {f : Str} {y : V} (ha : H1 a = none) (hd : dx ≠ a) : upd (L2.del (upd (upd (upd H1 a (exo a C none)) dx (exd dx [(f, y)])) a (exo a C (some dx))) a) dx (.xd [(f, y)]) = upd H1 dx (.xd [(f, y)]) := by
  funext b
  by_cases h1 : b = dx
  · subst h1
    rw [upd_same, upd_same]
  · rw [upd_ne h1, upd_ne h1]
    by_cases h2 : b = a
    · subst h2
      rw [L2.del_same, ha]
    · rw [L2.del_ne h2, upd_ne h2, upd_ne h1, upd_ne h2]
theorem g_rzA {fI : Addr} {fd : FuncData} {ps : List Str} (hc : X.calm = true) (tk : Takes X W) (T : OexC X.K (c.cl n)) (iC : PySem.W.findIn X.K (.ref (c.cl n)) "__init__" = some (some (.ref fI))) (tI : PySem.W.typeIn X.K (.ref fI) = some (.type "function")) (hf : PySem.W.findIn X.K (.ref (c.cl n)) f = some none)
    (G : FnOk X.prog X.w X.K X.mg X.base C8.CX0 k fI fd ps (sp_ei X.K f)) (hr : Room (k + 1) X.A) (hb : Binds X.K fd ps []) (hg : Gl X x) (hm : X.mg x = some (.ref (c.cl n))) (ha : GE X c W ka a wa) (hn : n ∈ c.es := by decide) (hdb : (x == ("__debug__" : Str)) = false := by decide) (hst : starEach [a] X.env = [(false, eval a X.env)] := by rfl) :
    GS X c W ka (.Raise (some (.Call (.Name x p) [a] [] pos)) none pos') (wRzA n f wa) := L2.PS.imp (ps_raise hc tk (pmk_oex (ds := []) (dvs := []) T iC tI G hr hb .nil (fun _ _ _ _ _ _ _ z => False.elim z) hg hm (ga_cons ha ga_nil hst) hdb hst rfl)) fun K σ H h => by
  obtain ⟨S, F, nn, I, μ, e, E, hl, he, hw, h, q⟩ := h
  refine ⟨S, F, nn, I, μ, e, fun ds μ1 => one ds fun d => E.xp (.err n [f] [d]) e μ1, _, hl, he, hw, h, fun ds μ1 vs I1 H1 pa s1 w1 ra => ?_, q.x he⟩
  cases ra with
  | nil => exact pa.elim
  | cons r1 r2 =>
    cases r2 with
    | cons _ _ => exact pa.elim
    | nil =>
      rename_i d y
      refine ⟨by show 1 ≤ 1000; omega, fun b hb1 => ⟨b, _, y, rfl, T, hf, upd_same, fun dx h1 h2 => ⟨rfl, dx, [(f, y)], upd_same, ?_, ?_, ?_⟩⟩⟩
      · rw [upd_ne h2, upd_same]
      · rw [upd_ne h2] at h1
        exact h1
      · rw [upd_ne h2] at h1
        rw [exd_del hb1 h2]
        have sm : Same I1 (upd I1 dx (.xd [(f, y)])) := same_new (w1.fresh h1).1
        exact q.x he _ μ1 _ _ _ _ pa (s1.trans sm) (w1.new h1) ⟨n, [f], [d], [y], rfl, rfl, ⟨rfl, .inr ⟨dx, rfl, upd_same⟩⟩, .cons (r1.mono sm) .nil, hn⟩
/-! ### a cell that stays as it is from now on -/
def wFz (i : Nat) (w : WS) : WS := fun e μ E => match gt e i with
  | some (.cell b) => (match μ b with
    | some nd => w (st e i (some nd.frz)) (del μ b) E
    | Option.none => False)
  | some _ => w e μ E
  | Option.none => False
theorem EnvR.same {S : Option SA} {I : Hp} {d : D} {v : V} : ∀ {e : EnvD} {σ : L2.St} {i : Nat}, EnvR c S I e σ → σ[i]? = some (some v) → Rep c S I d v → EnvR c S I (st e i (some d)) σ
  | _, _, _, .nil, h, _ => by simp at h
  | _, _, 0, .no h, h1, r => by
    simp at h1
    subst h1
    exact .yes r h
  | _, _, 0, .yes _ h, h1, r => by
    simp at h1
    subst h1
    exact .yes r h
  | _, _, i + 1, .no h, h1, r => .no (EnvR.same h (by simpa using h1) r)
  | _, _, i + 1, .yes q h, h1, r => .yes q (EnvR.same h (by simpa using h1) r)
theorem g_fz {s : Stmt} {w : WS} (i : Nat) (h : GS X c W k s w) : GS X c W k s (wFz i w) := L2.PS.imp h fun K σ H h => by
  obtain ⟨S, F, nn, I, μ, e, E, hl, he, hw, h, q⟩ := h
  unfold wFz at h
  split at h
  · rename_i b hb
    split at h
    · rename_i nd hnd
      obtain ⟨o, r, h0, hi, w2⟩ := hw.freeze hnd
      obtain ⟨v, h1, h2⟩ := he.get hb
      cases h2
      have sm : Same I (upd I b o) := same_new hi
      exact ⟨S, F, nn, upd I b o, _, _, E, hl, (he.mono sm).same h1 ((r.mono sm).frz upd_same), w2, h, q.mono (Nat.le_refl _) sm⟩
    · exact h.elim
  · exact ⟨S, F, nn, I, μ, e, E, hl, he, hw, h, q⟩
  · exact h.elim
end
end DL

set_option Elab.async false
set_option linter.all false
set_option maxRecDepth 100000
set_option maxHeartbeats 4000000
/-! A9: caught(lambda: ..). -/
namespace DL
open PySem PySem.Spec PyProof.Rows L2
variable [Gds]
open LamX (lamCx lamEnv LamS GivesTo CodeO ExtN Tabs TabB tLam)
section
variable {X : Cx} {pins : List (Addr × Obj)} {σ : L2.St} {H HZ : Hp} {s s1 : Shared}
/-- the def that got the lambda calls it, where no repr is under way -/
theorem act_ok {CXg : CXT} {Eg : XK} {Ng : List Str} {qg : Str} {sg : Scope} {g f c' : Addr} {cdg pm ctv : Value} {params : Arguments} {body : Expr} {scope : Scope} {k i : Nat} {a : Str} {pn : List (Addr × Obj)} {xe : Value → Shared → Prop} {W : WX} {E : XK} {tb : TE} {p1 p2 : Pos}
    (gd : Gds.ok X.A) (J : Inv X pins σ H s) (L : LamS X.env.scope scope) (hf : s.heap.get? f = some (PySem.W.kla_obj "<lambda>" (X.env.qual ++ "<lambda>") params body scope (cloFrom X.env.cells scope.names []) pm c' ctv)) (hfn : H f = none) (hfr : f ∉ frs X.stack)
    (bi : bindArgs (PySem.W.kla_fn "<lambda>" (X.env.qual ++ "<lambda>") params body scope (cloFrom X.env.cells scope.names []) pm (.ref c') ctv) ⟨[], []⟩ = pure [])
    (tk : Takes ((cxOf CXg X.prog X.w X.K X.mg X.base Ng qg sg g cdg X.A X.stack s H Eg).tr pn xe) W) (hW : ∀ cls d σ' H', E cls d H' → W cls d σ' H') (room : Room (k + 1) (X.A.deeper (envOfC qg sg s.heap.objs.size g cdg)))
    (hb : ∀ (A : Around) (outer : List Env) (s : Shared) (H : Hp), Gds.ok (A.deeper (lamEnv X scope s.heap.objs.size f c')) → Room k (A.deeper (lamEnv X scope s.heap.objs.size f c')) → PE (lamCx X A outer s H E scope f c') body tb)
    (hN : Ng[i]? = some a) (hv : Vis sg a) (hd : (a == ("__debug__" : Str)) = false := by decide) (hcd : (a == ("__classdict__" : Str)) = false := by decide) :
    PE ((cxOf CXg X.prog X.w X.K X.mg X.base Ng qg sg g cdg X.A X.stack s H Eg).tr pn xe) (.Call (.Name a p1) [] [] p2)
      (fun σZ HZ Q => σZ[i]? = some (some (.ref f)) ∧ HZ c' = some (CodeO c' (X.env.qual ++ "<lambda>")) ∧ tb σ HZ Q) := by
  refine ⟨fun pinsZ sZ σZ HZ Q JZ ⟨e1, e2, e3⟩ => ?_⟩
  refine wpAny_Call_Name_kw (thn ((pe_var (pos := p1) (i := i) hN hv hd hcd).run pinsZ sZ σZ HZ (fun v H1 => v = .ref f ∧ H1 = HZ) JZ ⟨.ref f, e1, rfl, rfl⟩) fun u t1 ⟨v, H1, J1, r1, ev, eH⟩ => ?_)
  subst ev
  rw [eH] at J1
  obtain rfl : u = Value.ref f := r1
  have here : t1.heap.get? f = some (PySem.W.kla_obj "<lambda>" (X.env.qual ++ "<lambda>") params body scope (cloFrom X.env.cells scope.names []) pm c' ctv) := J1.base.keep f _ hf hfn hfr (fun z => nomatch (show f ∈ ([] : List Addr) from z))
  have un : Un (frs X.stack) [] H HZ s.heap t1.heap := J1.base
  obtain ⟨⟨oc, vs, t, hoc, hdc, hvc⟩, _, _⟩ := J1.hok c' _ e2
  have runs : codeAny (model X.prog X.w) (X.A.deeper (envOfC qg sg s.heap.objs.size g cdg)) (.call (.ref f) ⟨[], []⟩) (CR (L2.CX X.prog X.w) (envOfC qg sg s.heap.objs.size g cdg :: X.stack) X.prog X.w HZ t1 Q E) t1 := by
    refine PySem.W.kla_callFunE room.depth here rfl L.co L.gen rfl ⟨c', oc, vs, t, rfl, hoc, hdc, hvc⟩ ?_
    rw [bi]
    refine wpAny_pure (wpAny_newFunctionEnv (fun y hy => (L.own y hy).2) (fun y hy => absurd hy (by simp)) (fun h₁ hns hsb => ⟨J1.nolimit.fresh _ hsb, ?_⟩) L.kind)
    show codeAny _ _ (.expr body (lamEnv X scope t1.heap.objs.size f c')) _ _
    have J2 : Inv (lamCx X (X.A.deeper (envOfC qg sg s.heap.objs.size g cdg)) (envOfC qg sg s.heap.objs.size g cdg :: X.stack) t1 HZ E scope f c') [] σ HZ { t1 with heap := h₁, toks := t1.toks + ([] : List (Str × Value)).length } :=
      LamX.lam_start2 J L J1.env0 room.hd un hns fun b o e => hsb.extBut b o (Nat.ne_of_lt (Heap.lt_size e)) (Heap.get?_push_of_some _ e)
    refine PySem.W.kla_codeExpr (wpAny_mono ((hb (X.A.deeper (envOfC qg sg s.heap.objs.size g cdg)) _ t1 HZ (Gds.deeper (Gds.deeper gd)) (room.deeper _)).run [] _ _ HZ Q J2 e3) (fun v s' ⟨w', H', J', rv, q⟩ => ⟨w', H', J'.os, J'.bare, J'.base, J'.hok, rv, q⟩) fun e s' hq => hq)
  refine PySem.W.callWith_F0 ⟨_, _, _, _, here⟩ (wpAny_call (codeAny_mono runs fun res t2 hq => ?_))
  · match res, hq with
    | .error e, hq => exact passes_call (X := (cxOf CXg X.prog X.w X.K X.mg X.base Ng qg sg g cdg X.A X.stack s H Eg).tr pn xe) tk hW pinsZ σZ HZ t1 e t2 J1 hq
    | .ok (.ret u), hq => exact J1.after hq
    | .ok .next, hq => exact False.elim hq
    | .ok .brk, hq => exact False.elim hq
    | .ok .cont, hq => exact False.elim hq
/-- x(lambda: ..), where no repr is under way -/
theorem lamcall_ok {T : List (Addr × Str)} {TT : (XK → Hp → VK → Prop) → Hp → VK → Prop} {x a : Str} {g cc P : Addr} {k : Nat} {pg : Arguments} {bg : List Stmt} {sg : Scope} {dvg : List V} {kwg : List (Str × V)} {fdg : FuncData} {Ng : List Str}
    {params : Arguments} {body : Expr} {scope : Scope} {t : XK → TE} {p lpos pos : Pos} (gd : Gds.ok X.A) (hg : Gl X x) (hm : X.mg x = some (.ref g)) (hk : PySem.W.keepIn X.K (.ref g) = true)
    (Fg : FunD X.K x x pg bg sg dvg kwg g fdg) (bi : L2.Binds X.K fdg [a] []) (Sg : FnScope Ng [a] sg) (hNg : Ng[0]? = some a) (hva : Vis sg a)
    (gv : ∀ cdv : Value, GivesTo X Ng x sg g cdv bg a (X.env.qual ++ "<lambda>") TT)
    (TB : TabB X.base X.mg cc P) (hcode : X.env.code = .ref cc) (hmT : (P, X.env.qual ++ "<lambda>") ∈ T) (hu : ∀ p ∈ T, p.1 = P → p.2 = X.env.qual ++ "<lambda>") (room : Room (k + 2) X.A) (L : LamS X.env.scope scope) (hdef : defaultsOf params X.env = ([], []))
    (hbind : ∀ (q : Str) (cl : List (Str × Addr)) (pm cv ctv : Value), bindArgs (PySem.W.kla_fn "<lambda>" q params body scope cl pm cv ctv) ⟨[], []⟩ = pure [])
    (hb : ∀ (A : Around) (outer : List Env) (s : Shared) (H : Hp) (E : XK) (f c' : Addr), Gds.ok (A.deeper (lamEnv X scope s.heap.objs.size f c')) → Room k (A.deeper (lamEnv X scope s.heap.objs.size f c')) → PE (lamCx X A outer s H E scope f c') body (t E))
    (hdb : (x == ("__debug__" : Str)) = false := by decide) (hd : (a == ("__debug__" : Str)) = false := by decide) (hcd : (a == ("__classdict__" : Str)) = false := by decide) :
    PE X (.Call (.Name x p) [.Lambda params body scope lpos] [] pos) (tLam T TT t) := by
  refine ⟨fun pins s σ H Q J ⟨hT, h⟩ => ?_⟩
  obtain ⟨oc, od, dV, kV, doc, pm, an, cdv, ct, osl, rfl, lk, hcg, _, _⟩ := Fg.ex
  refine wpAny_Call_Name_kw (ld_glob J hg hm (PySem.W.callWith_K (h₀ := X.base) J.ok.mod.kin hk ?_ (by rfl) (by rfl)) hdb)
  show wpAny _ _ (spliced ((false, eval (.Lambda params body scope lpos) X.env) :: backTo pos (starEach [] X.env))) _ _ s
  refine Calls.spliced_cons (LamX.lam_make2 J TB hcode hmT hu hT hdef (L.has J.ok) fun f c' pm' ctv H1 s' J1 eN T1 hf hfn hfr hco => Calls.spliced_nil ⟨J1.kIn, ?_⟩)
  refine wpAny_call (codeAny_mono (R := CR C8.CX0 X.stack X.prog X.w H1 s' Q C8.E0) (LamX.run_ofS (N := Ng) (ps := [a]) (us := [.ref f]) (vs := [.ref f]) lk hcg Sg room J1.env0 (bi s' [.ref f] J1.kIn rfl) (.cons rfl .nil) rfl fun room' => ?_) fun res s2 hq => ?_)
  · obtain ⟨t', ht', hq'⟩ := gv cdv f c' s' H1 Q (fun E H' Q' => t E σ H' Q') (fun W pn xe E p1 p2 tk hW => act_ok (i := 0) gd J1 L hf hfn hfr (hbind _ _ _ _ _) tk hW room' (fun A outer s H gd2 room2 => hb A outer s H E f c' gd2 room2) hNg hva hd hcd) hco (h H1 eN T1)
    exact ⟨t', ht'.nox, hq'⟩
  · match res, hq with
    | .error e, hq => exact (show False from hq).elim
    | .ok (.ret u), hq => exact J1.after hq
    | .ok .next, hq => exact False.elim hq
    | .ok .brk, hq => exact False.elim hq
    | .ok .cont, hq => exact False.elim hq
end
section
variable {X : Cx} {pins : List (Addr × Obj)} {σ : L2.St} {H : Hp} {s : Shared}
/-- an error that is new since the frame began is tracked from now on -/
theorem inv_track {a : Addr} {oe : Obj} {vs : Array Value} {cls : Value} {d : Option Addr} (J : Inv X pins σ H s) (ha : s.heap.get? a = some oe) (na : H a = none) (nl : a ≠ X.env.locals) (hz : Zc cls d oe) (hd : oe.data = .fields vs) (new : X.s_0.heap.get? a = none)
    (np : ∀ p ∈ X.pn ++ pins, p.1 ≠ a) : Inv X pins σ (upd H a (ErO a cls d)) s := by
  have up : ∀ {b : Addr} {o : HO}, H b = some o → upd H a (ErO a cls d) b = some o := fun {b o} e => by
    rw [upd_ne (ne_of_none e na)]
    exact e
  have old : ∀ {b : Addr} {o : Obj}, X.s_0.heap.get? b = some o → b ≠ a := fun {b o} e z => by
    rw [z, new] at e
    cases e
  refine ⟨J.ok, J.os, J.bare, ⟨J.base.keep, J.base.slot, fun b o e n hx => ?_, J.base.there, fun b xs e => up (J.base.tups b xs e), fun b o u e => up (J.base.frzs b o u e), fun b ps e => ?_⟩, J.loc, J.cell, ?_, fun y c e => ?_, fun p hp => ?_, ?_, J.len⟩
  · rw [upd_ne (old e)]
    exact J.base.free b o e n hx
  · obtain ⟨more, z⟩ := J.base.tbls b ps e
    exact ⟨more, up z⟩
  · rw [upd_ne (Ne.symm nl)]
    exact J.free
  · obtain ⟨v, o, e1, e2⟩ := J.cell y c e
    rw [upd_ne fun z => ?_]
    · exact J.freeC y c e
    · rw [z, ha] at e1
      cases e1
      rw [hd] at e2
      cases e2
  · obtain ⟨e1, e2, e3⟩ := J.pin p hp
    exact ⟨e1, by rw [upd_ne (np p hp)]; exact e2, e3⟩
  · exact J.hok.laidN (fun _ _ z => z) na ⟨⟨oe, vs, ha, hz, hd⟩, ⟨oe, ha⟩, fun h1 h2 ⟨o, v, e1, e2, e3⟩ k => ⟨o, v, k _ e1, e2, e3⟩⟩
end
/-- what 'except x as n: ..' wishes of an error of the body, where the suite keeps it: it is tracked behind the statement -/
def wTr (K : PySem.W.Frag) (c : Value) (i : Nat) (ts : Addr → Value → Option Addr → TS) (D : Ends) : WX := fun cls d σ H =>
  PySem.W.exmOne K cls c = some true ∧ ∀ a, H a = none → ts a cls d { nx := fun σ' H' => H' a = none → D.nx (σ'.set i none) (upd H' a (ErO a cls d)), rt := fun _ _ => False, bk := fun _ _ => False, ct := fun _ _ => False } (σ.set i (some (.ref a))) H
section
variable {X : Cx} {x n : Str} {c : Value} {i : Nat} {body suite : List Stmt} {b₀ : Stmt} {np pos pos' : Pos} {tb : WX → TS} {ts : Addr → Value → Option Addr → TS}
theorem ps_try_track (hex0 : X.ex = []) (hst : X.stack = X.env :: X.outer) (hfm : X.env.frame = some X.env.locals) (hN : X.N.Nodup) (hi : X.N[i]? = some n) (hln : X.env.kindOf n = some .local) (hc : Names X x c)
    (hb : ∀ (W : WX) (pn : List (Addr × Obj)) (xe : Value → Shared → Prop), Takes (X.tr pn xe) W → PassesOwn (model X.prog X.w) X.A X.env xe → PSs (X.tr pn xe) body (tb W))
    (hsu : ∀ (a : Addr) (oe : Obj) (cls : Value) (d : Option Addr) (pn : List (Addr × Obj)), Zc cls d oe → (∃ vs, oe.data = .fields vs) → PSs (X.suite a ((a, oe) :: pn)) (b₀ :: suite) (ts a cls d)) :
    PS X (.Try body [.ExceptHandler (some (.Name x np)) (some n) (b₀ :: suite) pos'] [] [] pos) (fun D σ H => tb (wTr X.K c i ts D) D σ H) := by
  refine ⟨fun pins s σ H D I0 h => ?_⟩
  have ok := I0.ok
  have frm : X.A.frames = some (X.env :: X.outer) := by rw [ok.frames, hst]
  let xe1 : Value → Shared → Prop := fun e t1 => wpAny (model X.prog X.w) X.A (noteFrame e X.env) (fun _ t2 => wpAny (model X.prog X.w) X.A (setFlight e none) (fun _ t3 => wpAny (model X.prog X.w) X.A (handleBy e X.env [.ExceptHandler (some (.Name x np)) (some n) (b₀ :: suite) pos']) (SP X pins D) X.xe t3) X.xe t2) X.xe t1
  have catch_ : Takes (X.tr (X.pn ++ pins) xe1) (wTr X.K c i ts D) := fun u t xx => by
    obtain ⟨a, B, sI, pins1, σ1, H1, cls, d, rfl, J0, nb, upS, sky, na, oss, ags, hex, hyes⟩ := xx
    have J : Inv X pins σ1 H1 sI := J0.ofTry ok
    have sky1 : Sky B (X.env :: X.outer) a (Zc cls d) X.env.locals t.heap := by rw [← hst]; exact sky
    show wpAny (model X.prog X.w) X.A (noteFrame (.ref a) X.env) _ _ _
    refine Sky.land Zc.steady frm hfm sky1 fun h3 fl3 up3 => ?_
    have J3 : Inv X pins σ1 H1 { t with heap := h3 } := J.landed nb fl3.1 (upS.trans up3) oss ags
    obtain ⟨oe3, vs3, he3, hz3, hd3⟩ := fl3.there
    have nfr : a ∉ frs (X.env :: X.outer) := fun hm => by
      obtain ⟨_, o', e', hnf⟩ := fl3.2.2.1.mem hm
      rw [he3] at e'
      cases e'
      exact hnf _ hd3
    have nL : a ≠ X.env.locals := fun z => nfr (List.mem_filterMap.mpr ⟨X.env, List.mem_cons_self, by rw [hfm, z]⟩)
    have nF : a ∉ X.fs := fun hm => by
      obtain ⟨e, he, q⟩ := List.mem_filterMap.mp hm
      exact nfr (List.mem_filterMap.mpr ⟨e, List.mem_cons_of_mem _ he, q⟩)
    have newI : sI.heap.get? a = none := by
      cases q : sI.heap.get? a with
      | none => rfl
      | some o =>
        have z := nb a o q (by rw [hst]; exact nfr)
        rw [fl3.2.1] at z
        cases z
    have new0 : a ∉ X.ex → X.s_0.heap.get? a = none := fun hx => by
      cases q : X.s_0.heap.get? a with
      | none => rfl
      | some o =>
        obtain ⟨o', z⟩ := J.base.there a o q hx
        rw [newI] at z
        cases z
    have npin : ∀ p ∈ X.pn ++ pins, p.1 ≠ a := fun p hp z => by
      have z2 := (J.pin p hp).1
      rw [z, newI] at z2
      cases z2
    have S3 := J3.suite he3 hd3 na nL nF
    refine wpAny_handleBy_cons (codeAny_handlers_test ?_) (by intro q; cases q)
    have lt : PySem.W.Looks (model X.prog X.w) h3 (typeOf (.ref a)) cls := fun A Q E s k q => wpAny_typeOf_ref (k _ _ he3) (by rw [hz3.1]; exact q)
    have lm := PySem.W.exm_one (M := model X.prog X.w) J3.kIn lt hex
    have test : ∀ {Q E : Value → Shared → Prop}, Q c { t with heap := h3 } → wpAny (model X.prog X.w) (X.A.mark (some (.ref a))) (eval (.Name x np) X.env) Q E { t with heap := h3 } := fun {Q E} q => by
      obtain ⟨hg, hdbg, hm⟩ := hc
      rcases hm with hm | ⟨hm, hv, hnn⟩
      · exact ld_glob (X := X.suite a ((a, oe3) :: (X.pn ++ pins))) S3 hg hm q hdbg
      · exact ld_blt (X := X.suite a ((a, oe3) :: (X.pn ++ pins))) S3 hg hm hv q hnn hdbg
    refine test (lm.here (codeAny_handlers_suite_as (HandSPX.lands_againZ fl3 fun h4 fl4 up4 => ?_)))
    have J4 : Inv X pins σ1 H1 { t with heap := h4 } := J.landed nb fl4.1 ((upS.trans up3).trans up4) oss ags
    obtain ⟨oe4, vs4, he4, hz4, hd4⟩ := fl4.there
    have S4 := J4.suite he4 hd4 na nL nF
    refine store_ok (X := X.suite a ((a, oe4) :: (X.pn ++ pins))) (v := .ref a) S4 hN hi (.inl hln) rfl (fun s5 S5 => ?_) (.inr hln)
    refine wpAny_mono ((hsu a oe4 cls d (X.pn ++ pins) hz4 ⟨_, hd4⟩).run [] s5 _ H1 _ S5 (hyes a na)) (fun f s6 hsp => ?_) (fun _ _ z => False.elim z)
    match f, hsp with
    | .next, hsp =>
      obtain ⟨σ6, H6, S6, q6⟩ := hsp
      have pa := S6.pin (a, oe4) (List.mem_append_left _ List.mem_cons_self)
      have J6 : Inv X ((a, oe4) :: pins) σ6 H6 s6 := (S6.unsuite ok).pins_of fun p hp => by
        rcases List.mem_cons.mp (show p ∈ (a, oe4) :: pins from hp) with rfl | hp
        · exact pa
        · exact (S6.unsuite ok).pin p (List.mem_append_right _ hp)
      refine gone_ok J6 hN hi hln fun s7 J7 => ?_
      have p7 := J7.pin (a, oe4) (List.mem_append_right _ List.mem_cons_self)
      have J8 : Inv X pins (σ6.set i none) H6 s7 := J7.pins_of fun p hp => J7.pin p (List.mem_append_right _ (List.mem_cons_of_mem _ hp))
      exact ⟨_, _, inv_track J8 p7.1 p7.2.1 nL hz4 hd4 (new0 (by rw [hex0]; exact List.not_mem_nil)) npin, q6 p7.2.1⟩
    | .brk, hsp => exact (hsp.elim fun _ z => z.elim fun _ z => z.2).elim
    | .cont, hsp => exact (hsp.elim fun _ z => z.elim fun _ z => z.2).elim
    | .ret u, hsp => exact (hsp.elim fun _ z => z.elim fun _ z => z.elim fun _ z => z.2.2).elim
  refine wpAny_Try_except (wpAny_mono ((hb (wTr X.K c i ts D) (X.pn ++ pins) xe1 catch_ PassesOwn.looking).run [] s σ H D (I0.toTry _) h) (fun f s1 hsp => ?_) (fun e s1 he => he))
  match f, hsp with
  | .next, hsp =>
    obtain ⟨σ', H', J', q⟩ := hsp
    exact wpAny_execs_nil ⟨σ', H', J'.ofTry ok, q⟩
  | .brk, hsp =>
    obtain ⟨σ', H', J', q⟩ := hsp
    exact ⟨σ', H', J'.ofTry ok, q⟩
  | .cont, hsp =>
    obtain ⟨σ', H', J', q⟩ := hsp
    exact ⟨σ', H', J'.ofTry ok, q⟩
  | .ret u, hsp =>
    obtain ⟨v, σ', H', J', r, q⟩ := hsp
    exact ⟨v, σ', H', J'.ofTry ok, r, q⟩
end
/-- what `caught` makes of the lambda's reading -/
def TTc (K : PySem.W.Frag) (CS : Addr) : (XK → Hp → VK → Prop) → Hp → VK → Prop := fun tl H Q =>
  tl (fun cls d H' => PySem.W.exmOne K cls (.ref CS) = some true ∧ ∀ a, H' a = none → Q (.ref a) (upd H' a (ErO a cls d))) H fun _ H' => Q .non H'
def tLen (m : Nat) (t : TS) : TS := fun D σ H => σ.length = m → t D σ H
theorem pss_len {X : Cx} {body : List Stmt} {t : TS} {m : Nat} (hm : X.N.length = m) (h : PSs X body t) : PSs X body (tLen m t) := ⟨fun pins s σ H D J z => h.run pins s σ H D J (z (J.len.trans hm))⟩
theorem pss_imp {X : Cx} {body : List Stmt} {t t' : TS} (h : PSs X body t) (i : ∀ D σ H, t' D σ H → t D σ H) : PSs X body t' := ⟨fun pins s σ H D J z => h.run pins s σ H D J (i D σ H z)⟩
def tRat (i : Nat) : TS := fun D σ H => match σ[i]? with
  | some (some v) => D.rt v H
  | _ => False
theorem tRat_ret {i : Nat} {D : Ends} {σ : L2.St} {H : Hp} (h : tRat i D σ H) : tRet (tVar i) D σ H := by
  unfold tRat at h
  split at h
  · rename_i v e
    exact ⟨v, e, h⟩
  · exact h.elim
theorem caught_gives {X : Cx} {x a e n cn q : Str} {sg : Scope} {g CS : Addr} {cdg : Value} {j : Nat} {p1 p2 p3 p4 p5 p6 p7 p8 p9 p10 p11 p12 p13 p14 : Pos}
    (nd : [a, cn, n].Nodup) (hkn : sg.names.lookup n = some .local) (hkc : sg.names.lookup cn = some .local) (hge : sg.names.lookup e = some .globalImplicit) (hme : X.mg e = some (.ref CS)) (hde : (e == ("__debug__" : Str)) = false)
    (dn : (n == ("__debug__" : Str)) = false) (dn2 : (n == ("__classdict__" : Str)) = false) (dc : (cn == ("__debug__" : Str)) = false) (dc2 : (cn == ("__classdict__" : Str)) = false) :
    LamX.GivesTo X [a, cn, n] x sg g cdg [.Assign [.Name cn p1] (.Constant .none j p2) p3, .Try [.Expr (.Call (.Name a p4) [] [] p5) p6] [.ExceptHandler (some (.Name e p7)) (some n) [.Assign [.Name cn p8] (.Name n p9) p10] p11] [] [] p12, .Return (some (.Name cn p13)) p14] a q (TTc X.K CS) := by
  intro f c' s H Q tl act hc h
  have hgl : Gl (cxOf C8.CX0 X.prog X.w X.K X.mg X.base [a, cn, n] x sg g cdg X.A X.stack s H C8.E0).nox e := hge
  refine ⟨_, pss_cons (ps_set (i := 1) nd rfl (Or.inl hkc) pe_non) (pss_cons (ps_try_track (X := (cxOf C8.CX0 X.prog X.w X.K X.mg X.base [a, cn, n] x sg g cdg X.A X.stack s H C8.E0).nox) (c := .ref CS) (i := 2)
      (tb := fun W D σ H => ∃ Ech : XK, (∀ cls d σ' H', Ech cls d H' → W cls d σ' H') ∧ σ[0]? = some (some (.ref f)) ∧ H c' = some (LamX.CodeO c' q) ∧ tl Ech H fun _ H' => D.nx σ H')
      (ts := fun _ _ _ => tLen 3 (tAsg (tVar 2) (gName 1))) rfl rfl rfl nd rfl hkn ⟨hgl, hde, .inl hme⟩ (fun W pn xe tk _ => ?_) (fun a oe cls d pn _ _ => pss_len rfl (pss_one (ps_set (i := 1) nd rfl (Or.inl hkc) (pv 2 (hv := Or.inl hkn) (hd := dn) (hcd := dn2)))))) (pss_imp (t' := tRat 1) (pss_one (ps_ret (pv 1 (hv := Or.inl hkc) (hd := dc) (hcd := dc2)))) fun D σ H => tRat_ret)), ?_⟩
  · refine ⟨fun pins s' σ H' D I h' => ?_⟩
    obtain ⟨Ech, hW, h1, h2, h3⟩ := h'
    exact (pss_one (ps_expr (pos := p6) (act W pn xe Ech p4 p5 tk hW))).run pins s' σ H' D I ⟨h1, h2, h3⟩
  · refine ⟨fun cls d H' => PySem.W.exmOne X.K cls (.ref CS) = some true ∧ ∀ a, H' a = none → Q (.ref a) (upd H' a (ErO a cls d)), fun cls d σ' H' ⟨e1, e2⟩ => ⟨e1, fun a0 ha hl => ?_⟩, rfl, hc, ?_⟩
    · have hl3 : σ'.length = 3 := by
        rw [List.length_set] at hl
        exact hl
      match σ', hl3 with
      | [x0, x1, x2], _ => exact ⟨_, rfl, fun na => e2 a0 ha⟩
    · exact h
/-! ### over data -/
theorem Wd.extN {c : Ctx} {s : SA} {F : Hp} {n : Nat} {I H H1 : Hp} {μ : Mu} (w : Wd c (some s) F n I μ H) (e : ExtN H H1) (t : Tabs s.T H1) : Wd c (some s) F n I μ H1 := by
  have keep : ∀ b o, H b = some o → notTb o → H1 b = some o := fun b o h k => e b o h fun ps z => by
    rw [z] at k
    exact k
  refine ⟨fun b o h => ?_, fun b nd h => ?_, fun a h => ?_, w.ni, fun b o h => ⟨keep b o (w.f b o h).1 (by
    rcases (w.f b o h).2 with ⟨_, _, q, _⟩ | ⟨_, _, rfl, _⟩
    · exact q.tb
    · trivial), (w.f b o h).2⟩, w.z⟩
  · rcases w.i b o h with z | ⟨z, ob, z2⟩
    · exact .inl (keep b o z (w.ni b o h))
    · exact .inr ⟨z, ob, keep b _ z2 trivial⟩
  · obtain ⟨h1, o, h2, h3⟩ := w.m b nd h
    exact ⟨h1, o, h2, keep b o h3 h2.tx.tb⟩
  · cases h
    obtain ⟨h9, h0, ws, cs, r, t0, h1, h2, h3, h4⟩ := (w.s s rfl).1
    exact ⟨⟨t, h0, ws, cs, r, t0, keep _ _ h1 trivial, keep _ _ h2 trivial, keep _ _ h3 trivial, h4⟩, (w.s s rfl).2⟩
/-- what caught tells: None, or the error, which is one of the classes es -/
def wCaught (es : List Str) (w : WE) : WE := fun e μ Q _ => w e μ (fun _ μ1 => Q .none μ1) fun d μ1 => match d with
  | .err n _ _ => n ∈ es ∧ Q d μ1
  | _ => False
section
variable {X : Cx} {c : Ctx} {W : WX} {k kl : Nat} {w : WE} {es : List Str}
theorem ld_caught {σ : L2.St} {H : Hp} {Q : VK} {CS : Addr} (hes : ∀ n ∈ es, PySem.W.exmOne c.K (.ref (c.cl n)) (.ref CS) = some true) (h : ldE c W k (wCaught es w) σ H Q) : tLam c.tb (TTc c.K CS) (fun E => ldE c (fun cls d _ H => E cls d H) k w) σ H Q := by
  obtain ⟨S, F, n, I, μ, e, Qd, Xd, hl, he, hw, h, q, x⟩ := h
  obtain ⟨s, rfl, hT⟩ := hw.z
  refine ⟨by rw [← hT]; exact (hw.s s rfl).1.1, fun H1 eN t1 => ?_⟩
  refine ⟨some s, F, n, I, μ, e, _, _, hl, he, hw.extN eN (by rw [hT]; exact t1), h, fun d μ1 v I1 H1 pa s1 w1 ra => q .none μ1 .non I1 H1 pa s1 w1 .none, fun d μ' cls dx I' H' p sm w' er => ?_⟩
  obtain ⟨n', fs, ds, xs, rfl, rfl, hf, hr, hn⟩ := er
  obtain ⟨p1, p2⟩ := p
  refine ⟨hes n' p1, fun a ha => ?_⟩
  have sm2 : Same I' (upd I' a (ErO a (.ref (c.cl n')) dx)) := same_new (w'.fresh ha).1
  exact q _ μ' (.ref a) _ _ p2 (sm.trans sm2) (w'.new ha (show notTb (.ext _) from trivial)) (.err upd_same (hf.mono sm2) (hr.mono sm2) hn)
/-- caught(lambda: ..) -/
theorem g_caught {x a e n cn : Str} {g CS cc P : Addr} {pg : Arguments} {sg : Scope} {dvg : List V} {kwg : List (Str × V)} {fdg : FuncData} {params : Arguments} {body : Expr} {scope : Scope} {p lpos pos : Pos} {j : Nat} {p1 p2 p3 p4 p5 p6 p7 p8 p9 p10 p11 p12 p13 p14 : Pos}
    (gd : Gds.ok X.A) (hg : Gl X x) (hm : X.mg x = some (.ref g)) (hk : PySem.W.keepIn X.K (.ref g) = true)
    (Fg : FunD X.K x x pg [.Assign [.Name cn p1] (.Constant .none j p2) p3, .Try [.Expr (.Call (.Name a p4) [] [] p5) p6] [.ExceptHandler (some (.Name e p7)) (some n) [.Assign [.Name cn p8] (.Name n p9) p10] p11] [] [] p12, .Return (some (.Name cn p13)) p14] sg dvg kwg g fdg)
    (bi : L2.Binds X.K fdg [a] []) (Sg : FnScope [a, cn, n] [a] sg) (hva : Vis sg a) (nd : [a, cn, n].Nodup) (hkn : sg.names.lookup n = some .local) (hkc : sg.names.lookup cn = some .local) (hge : sg.names.lookup e = some .globalImplicit) (hme : X.mg e = some (.ref CS))
    (TB : TabB X.base X.mg cc P) (hcode : X.env.code = .ref cc) (hmT : (P, X.env.qual ++ "<lambda>") ∈ c.tb) (hu : ∀ p ∈ c.tb, p.1 = P → p.2 = X.env.qual ++ "<lambda>") (room : Room (kl + 2) X.A) (L : LamS X.env.scope scope) (hdef : defaultsOf params X.env = ([], []))
    (hbind : ∀ (q : Str) (cl : List (Str × Addr)) (pm cv ctv : Value), bindArgs (PySem.W.kla_fn "<lambda>" q params body scope cl pm cv ctv) ⟨[], []⟩ = pure [])
    (hes : ∀ n ∈ es, PySem.W.exmOne c.K (.ref (c.cl n)) (.ref CS) = some true)
    (hb : ∀ (A : Around) (outer : List Env) (s : Shared) (H : Hp) (E : XK) (f c' : Addr), Gds.ok (A.deeper (lamEnv X scope s.heap.objs.size f c')) → Room kl (A.deeper (lamEnv X scope s.heap.objs.size f c')) → GE (lamCx X A outer s H E scope f c') c (fun cls d _ H => E cls d H) k body w)
    (hdb : (x == ("__debug__" : Str)) = false := by decide) (hd : (a == ("__debug__" : Str)) = false := by decide) (hcd : (a == ("__classdict__" : Str)) = false := by decide) (hde : (e == ("__debug__" : Str)) = false := by decide)
    (dn : (n == ("__debug__" : Str)) = false := by decide) (dn2 : (n == ("__classdict__" : Str)) = false := by decide) (dc : (cn == ("__debug__" : Str)) = false := by decide) (dc2 : (cn == ("__classdict__" : Str)) = false := by decide) (hK : X.K = c.K := by rfl) :
    GE X c W k (.Call (.Name x p) [.Lambda params body scope lpos] [] pos) (wCaught es w) :=
  L2.PE.imp (lamcall_ok gd hg hm hk Fg bi Sg rfl hva (fun cdv => caught_gives nd hkn hkc hge hme hde dn dn2 dc dc2) TB hcode hmT hu room L hdef hbind hb hdb hd hcd) fun σ H Q h => by
    rw [hK]
    exact ld_caught hes h
end
end DL

set_option Elab.async false
set_option linter.all false
set_option maxRecDepth 100000
set_option maxHeartbeats 4000000
/-! A10: the law's end, with tables of code objects, where no repr is under way. -/
namespace DL
open PySem PySem.Spec PyProof.Rows L2
open LamX (TabB)
/-- what the caller asks behind the law -/
abbrev Ended (s1 : Shared) : Result → Shared → Prop := fun r s' => r = .ok (.ret (.bool true)) ∧ OldK s1.heap s'.heap ∧ s'.os = s1.os ∧ AllBare s'.gens
section
variable {P : Program} {w : PySem.World} {K : PySem.W.Frag} {mg mb : Str → Option Value} {k : Nat} {fa a : Addr} {fd : FuncData} {x : Str} {sp : Sp} {s1 : Shared} {vs : List Value} {ns : List Int} {cs : List (Addr × Addr)}
/-- what is known of the law's heap -/
structure LawH (K : PySem.W.Frag) (mg mb : Str → Option Value) (s1 : Shared) (cs : List (Addr × Addr)) (a : Addr) (vs : List Value) : Prop where
  kx : K.In s1.heap
  hns : s1.heap.Ns mainGlobals mg
  hb : s1.heap.Ns builtinsNs mb
  hbb : ∀ x : Str, x ≠ "__name__" → mb x = bootBuiltins x
  lim : s1.heap.NoLimit
  hg : s1.gens = #[]
  tab : ∀ p ∈ cs, s1.heap.get? p.2 = some { cls := .none, data := .fields #[] }
  ntab : ∀ p ∈ cs, K.lookup p.2 = none
  code : ∀ p ∈ cs, PySem.W.CodeHd s1.heap p.1 p.2
  bm : ∃ (bm : Addr) (ob : Obj), mg "__builtins__" = some (.ref bm) ∧ bm ≠ builtinsNs ∧ s1.heap.get? bm = some ob ∧ ob.cls = .type "module" ∧ ob.dict = some builtinsNs ∧ ob.data = .plain
  ha : s1.heap.get? a = some { cls := .type "list", data := .seq vs.toArray }
def isTb (cs : List (Addr × Addr)) (b : Addr) : Prop := ∃ p ∈ cs, b = p.2
/-- what is tracked ahead of the law: the script, the tables -/
structure Track (cs : List (Addr × Addr)) (K : PySem.W.Frag) (a : Addr) (H : Hp) : Prop where
  tb : ∀ p ∈ cs, H p.2 = some (.tbl #[])
  only : ∀ b u, H b = some u → (b = a ∧ K.lookup a = none ∧ ∃ o xs, u = .frz o (.lst xs)) ∨ isTb cs b
theorem law_end (L : LawH K mg mb s1 cs a vs) (room : Room k callerA) (F : ∀ base : Heap, K.In base → base.Ns mainGlobals mg → (∀ p ∈ cs, TabB base mg p.1 p.2) → FnW P w K mg base k fa fd [x] sp) (bi : ∀ (s : Shared) (u : Value), BindsTo s fd ⟨[u], []⟩ [(x, u)])
    {H : Hp} (T : Track cs K a H) (hok : HOk P w H s1.heap) (hs : sp [.ref a] H (fun v _ => v = .bl true) fun _ _ _ => False) : codeAny (model P w) callerA (.call (.ref fa) ⟨[.ref a], []⟩) (Ended s1) s1 := by
  have isT : ∀ {b : Addr}, isTb cs b → s1.heap.get? b = some { cls := .none, data := .fields #[] } := by
    rintro b ⟨p, hp, rfl⟩
    exact L.tab p hp
  have seen : ∀ {b : Addr} {o : Obj}, s1.heap.get? b = some o → H b = none → (hidT s1.heap H).get? b = some o := fun p q => hidT_get p q
  have off : ∀ {b : Addr} {o : Obj}, s1.heap.get? b = some o → (∀ vs n, o.data ≠ .seq vs n) → o.data ≠ .fields #[] → H b = none := fun {b o} e h1 h2 => none_of fun u q => by
    rcases T.only b u q with ⟨z, _⟩ | z
    · rw [z, L.ha] at e
      cases e
      exact h1 _ _ rfl
    · rw [isT z] at e
      cases e
      exact h2 rfl
  have dct : ∀ {b : Addr} {o : Obj} {es : Array DictEntry} {n : Nat}, s1.heap.get? b = some o → o.data = .dict es n → H b = none := fun {b o es n} e d => off e (fun _ _ z => by rw [d] at z; cases z) fun z => by rw [d] at z; cases z
  have names : ∀ {b : Addr} {m : Str → Option Value}, s1.heap.Ns b m → (hidT s1.heap H).Ns b m := by
    rintro b m ⟨o, es, n, p, q, r⟩
    exact ⟨o, es, n, seen p (dct p q), q, r⟩
  have kin : K.In (hidT s1.heap H) := fun b o p => seen (L.kx b o p) (none_of fun u q => by
    rcases T.only b u q with ⟨z, z2, _⟩ | ⟨t, ht, z⟩
    · rw [z, z2] at p
      cases p
    · rw [z, L.ntab t ht] at p
      cases p)
  have md : Mod K mg (hidT s1.heap H) := by
    obtain ⟨mc, l1, l2⟩ := L.lim
    exact ⟨kin, names L.hns, ⟨mb, names L.hb, L.hbb⟩, ⟨mc, names l1, l2⟩⟩
  have tabs : ∀ p ∈ cs, TabB (hidT s1.heap H) mg p.1 p.2 := fun p hp => by
    have tp := L.tab p hp
    refine ⟨?_, ?_, fun z => ?_⟩
    · obtain ⟨o, us, file, tf, flags, tg, inF, text, tt, e1, r1, r2, r3, rest⟩ := L.code p hp
      refine ⟨o, us, file, tf, flags, tg, inF, text, tt, seen e1 (off e1 (fun _ _ z => ?_) fun z => ?_), r1, r2, r3, rest⟩
      · rw [r2] at z
        cases z
      · rw [r2] at z
        cases z
        simp at r3
    · obtain ⟨bm, ob, b1, b2, b3, b4, b5, b6⟩ := L.bm
      refine ⟨bm, ob, b1, b2, fun q => ?_, fun q => ?_, seen b3 (off b3 (fun _ _ z => ?_) fun z => ?_), b4, b5, b6⟩
      · obtain ⟨o, es, n, e, hd, _⟩ := L.hns
        rw [q, e] at b3
        cases b3
        rw [hd] at b6
        cases b6
      · rw [q, tp] at b3
        cases b3
        cases b6
      · rw [b6] at z
        cases z
      · rw [b6] at z
        cases z
    · obtain ⟨o, es, n, e, hd, _⟩ := L.hns
      rw [z, tp] at e
      cases e
      cases hd
  have en : Env0 P w K mg (hidT s1.heap H) callerA [] s1 H := ⟨rfl, md, fun b o p => of_hidT p, Nat.le_of_eq (hidT_size _ _), trivial, fun b p => absurd (show b ∈ ([] : List Addr) from p) List.not_mem_nil, hok, .of_eq L.hg⟩
  refine codeAny_mono ((F _ kin (names L.hns) tabs).run callerA [] s1 H ⟨[.ref a], []⟩ [.ref a] [.ref a] _ _ rfl room en (bi s1 (.ref a)) (.cons rfl .nil) hs) fun res s2 z => ?_
  match res, z with
  | .error e, z =>
    obtain ⟨_, _, _, _, _, _, _, _, _, _, _, _, z⟩ := z
    exact z.elim
  | .ok .next, z => exact False.elim z
  | .ok .brk, z => exact False.elim z
  | .ok .cont, z => exact False.elim z
  | .ok (.ret u), z =>
    obtain ⟨v, H2, e1, e2, un, hok2, e3, e4⟩ := z
    cases (show v = .bl true from e4)
    cases (show u = Value.bool true from e3)
    have kept : ∀ b o, ¬ isTb cs b → s1.heap.get? b = some o → s2.heap.get? b = some o := fun b o nb p => by
      cases q : H b with
      | none => exact un.keep b o p q (fun q => nomatch (show b ∈ ([] : List Addr) from q)) List.not_mem_nil
      | some u =>
        rcases T.only b u q with ⟨_, _, ob, xs, z⟩ | z
        · rw [z] at q
          have p1 := (hok b _ q).1
          have p2 := (hok2 b _ (un.frzs b ob _ q)).1
          rw [p] at p1
          cases p1
          exact p2
        · exact absurd z nb
    have grown : ∀ {b : Addr}, isTb cs b → ∃ more : Array Value, s2.heap.get? b = some { cls := .none, data := .fields more } := by
      rintro b ⟨p, hp, rfl⟩
      obtain ⟨more, z⟩ := un.tbls p.2 #[] (T.tb p hp)
      exact ⟨_, hok2 p.2 _ z⟩
    refine ⟨rfl, ⟨fun b o p => ?_, fun b o p => ?_⟩, e1, e2⟩
    · rcases Classical.em (isTb cs b) with z | z
      · obtain ⟨more, hm⟩ := grown z
        rw [isT z] at p
        cases p
        obtain ⟨p, hp, rfl⟩ := z
        exact .inr (.inl ⟨((L.code p hp).tab (L.tab p hp)).isCodeTable, rfl, #[], more, rfl, by rw [Array.empty_append]; exact hm⟩)
      · exact .inl (kept b o z p)
    · rcases Classical.em (isTb cs b) with z | z
      · obtain ⟨more, hm⟩ := grown z
        exact ⟨_, hm⟩
      · exact ⟨o, kept b o z p⟩
theorem law_runs (L : LawH K mg mb s1 cs a vs) (hi : IntsAre vs ns) (hl : ns.length ≤ sizeLine) (room : Room k callerA) (F : ∀ base : Heap, K.In base → base.Ns mainGlobals mg → (∀ p ∈ cs, TabB base mg p.1 p.2) → FnW P w K mg base k fa fd [x] sp) (bi : ∀ (s : Shared) (u : Value), BindsTo s fd ⟨[u], []⟩ [(x, u)])
    (hsp : ∀ H : Hp, (∀ p ∈ cs, H p.2 = some (.tbl #[])) → SqL K H a (ns.map V.int) → sp [.ref a] H (fun v _ => v = .bl true) fun _ _ _ => False) : codeAny (model P w) callerA (.call (.ref fa) ⟨[.ref a], []⟩) (Ended s1) s1 := by
  have rv := vals_ints hi
  have aT : ¬ isTb cs a := by
    rintro ⟨p, hp, z⟩
    have q := L.tab p hp
    rw [← z, L.ha] at q
    cases (show Data.seq vs.toArray _ = Data.fields #[] from congrArg Obj.data (Option.some.inj q))
  classical
  let H0 : Hp := fun b => if isTb cs b then some (.tbl #[]) else none
  have on : ∀ {b : Addr}, isTb cs b → H0 b = some (.tbl #[]) := fun z => if_pos z
  have no : ∀ {b : Addr}, ¬ isTb cs b → H0 b = none := fun z => if_neg z
  have ok0 : ∀ {H : Hp} {b : Addr} {u : HO}, H0 b = some u → ObjOk P w H s1.heap b u := fun {H b u} q => by
    rcases Classical.em (isTb cs b) with z | z
    · rw [on z] at q
      cases q
      obtain ⟨p, hp, rfl⟩ := z
      exact L.tab p hp
    · rw [no z] at q
      cases q
  have t0 : ∀ {b : Addr} {u : HO}, H0 b = some u → isTb cs b := fun {b u} q => Classical.byContradiction fun z => by
    rw [no z] at q
    cases q
  cases hk : K.lookup a with
  | some o =>
    have p := L.kx a o hk
    rw [L.ha] at p
    cases p
    refine law_end L room F bi (H := H0) ⟨fun p hp => on ⟨p, hp, rfl⟩, fun b u q => .inr (t0 q)⟩ (fun b u q => ok0 q) (hsp _ (fun p hp => on ⟨p, hp, rfl⟩) (.inr ⟨_, vs.toArray, _, hk, rfl, rfl, rfl, by rw [List.size_toArray, hi.length]; exact hl, rv⟩))
  | none =>
    let h0 : HO := .frz { cls := .type "list", data := .seq vs.toArray } (.lst (ns.map V.int))
    have ne : ∀ {p : Addr × Addr}, p ∈ cs → p.2 ≠ a := fun {p} hp z => aT ⟨p, hp, z.symm⟩
    refine law_end L room F bi (H := upd H0 a h0) ⟨fun p hp => by rw [upd_ne (ne hp)]; exact on ⟨p, hp, rfl⟩, fun b u q => ?_⟩ (fun b u q => ?_) (hsp _ (fun p hp => by rw [upd_ne (ne hp)]; exact on ⟨p, hp, rfl⟩) (.inl (.inr ⟨_, upd_same⟩)))
    · by_cases z : b = a
      · subst z
        rw [upd_same] at q
        cases q
        exact .inl ⟨rfl, hk, _, _, rfl⟩
      · rw [upd_ne z] at q
        exact .inr (t0 q)
    · by_cases z : b = a
      · subst z
        rw [upd_same] at q
        cases q
        exact ⟨L.ha, by rw [List.length_map]; exact hl, vs, _, rv, L.ha⟩
      · rw [upd_ne z] at q
        exact ok0 q
end
/-- a law, by its def's promise at the head's heap h -/
def LawAt (l : PySem.W.OpenLaw) (w : PySem.World) (k n : Nat) (x : Str) (mg : Str → Option Value) (fa : Addr) (h : Heap) : Prop :=
  ∃ (c : Ctx) (fd : FuncData) (cs : List (Addr × Addr)), c.K.In h ∧ (∀ p ∈ cs, h.get? p.2 = some { cls := .none, data := .fields #[] }) ∧ (∀ p ∈ cs, c.K.lookup p.2 = none) ∧ (∀ p ∈ cs, PySem.W.CodeHd h p.1 p.2) ∧ (∀ p ∈ c.tb, isTb cs p.1) ∧ (∀ (s : Shared) (u : Value), BindsTo s fd ⟨[u], []⟩ [(x, u)]) ∧
    ∀ base : Heap, c.K.In base → base.Ns mainGlobals mg → (∀ p ∈ cs, TabB base mg p.1 p.2) → FnW l.prog w c.K mg base k fa fd [x] (spLaw c)
theorem walk_of {l : PySem.W.OpenLaw} {n k : Nat} {q : Program} {loose : List Str} {XP : (Str → Option Value) → Heap → Prop} {YP : PySem.World → Heap → Prop} {d : DefRec} {x : Str} (hn : l.most = some n) (hn2 : n ≤ 63) (hdf : d.params.defaults = []) (room : Room k callerA)
    (F : ∀ (w : PySem.World) (mg : Str → Option Value) (fa : Addr) (h : Heap), YP w h → h.Ns mainGlobals mg → mg d.name = some (.ref fa) → LawAt l w k n x mg fa h) :
    PySem.W.WalkO q loose XP YP l.row.toRowW d [] (fun f vs => PySem.call f vs) := Att.attach_call hn hdf fun w s0 s1 mg mb fa o pm cd doc a vs ns G Y ho hd hcd hmg hobj hints hlen hg => by
  obtain ⟨c, fd, cs, kx, b1, b2, b3, b4, b5, b6⟩ := F w mg fa _ Y G.T.g hmg
  refine law_runs ⟨kx, G.T.g, G.T.b, G.T.builtins, G.T.nolimit, hg, b1, b2, b3, G.T.bmain, hobj⟩ hints (by rw [sizeLine_eq]; omega) room b6 b5 fun H hT hS => ⟨a, ns, rfl, hS, by omega, fun p hp => ?_, fun _ => rfl⟩
  obtain ⟨r, hr, e⟩ := b4 p hp
  rw [e]
  exact hT r hr
end DL

set_option Elab.async false
set_option linter.all false
set_option maxRecDepth 100000
set_option maxHeartbeats 4000000
/-! A11: the head's facts: with empty tables left out; errors, classes by lists of names; static methods; some displays. -/
namespace DL
open PySem PySem.Spec PyProof.Rows L2
variable [Gds]
/-! ### the hook with tables -/
/-- the bits of addresses; what is new joins them, the last in front -/
def newY : List Addr → Nat → List Addr → Nat × List Addr
  | [], m, acc => (m, acc)
  | a :: as, m, acc => HandSHeadRun.frNat a fun a => match Nat.beq (Nat.mod (Nat.shiftRight m a) 2) 1 with
    | true => newY as m acc
    | false => HandSHeadRun.frNat (Nat.add m (Nat.pow 2 a)) fun m => newY as m (a :: acc)
/-- n rounds from those in front -/
def goY (g : Addr → Option Obj) : Nat → Nat → List Addr → List Addr → List Addr
  | 0, _, _, all => all.reverse
  | n + 1, m, fr, all => match newY (fr.flatMap fun a => match g a with
    | some o => He.refsD o
    | none => []) m [] with
    | (m, new) => goY g n m new.reverse (new ++ all)
/-- what the names reach in n steps, and the interpreter's own statics -/
def asY (g : Addr → Option Obj) (n : Nat) : List Addr := goY g n (Nat.pow 2 mainGlobals) [mainGlobals] [mainGlobals] ++ [cStatics, sysModules]
abbrev tabAt (K : PySem.W.Frag) (f : Addr) : Addr := He.tabOf K (codeAt K f)
structure SaysY (bs : List (PySem.W.Frag → Bool)) (fn : List DefX) (tf : List (PySem.W.Frag → Addr)) (h : Heap) (K : PySem.W.Frag) : Prop where
  t : SaysX bs fn K
  hd : ∀ f ∈ tf, PySem.W.codeHdIn K (codeAt K (f K)) (tabAt K (f K)) = true
  out : ∀ f ∈ tf, K.lookup (tabAt K (f K)) = none
  empty : ∀ f ∈ tf, h.get? (tabAt K (f K)) = some { cls := .none, data := .fields #[] }
def tabsY (g : Addr → Option Obj) (tf : List (PySem.W.Frag → Addr)) (K : PySem.W.Frag) : Bool := tf.all fun f => PySem.W.codeHdIn K (codeAt K (f K)) (tabAt K (f K)) && (match g (tabAt K (f K)) with
  | some o => He.emptyTab o
  | none => false)
abbrev AlY : Type := AlX × Bool
def obsY (n : Nat) (bs : List (PySem.W.Frag → Bool)) (fn : List DefX) (tf : List (PySem.W.Frag → Addr)) (g : Addr → Option Obj) : AlY := (obsX bs fn (He.frT g (asY g n)), tabsY g tf (He.frT g (asY g n)))
theorem saysY_of {n : Nat} {bs : List (PySem.W.Frag → Bool)} {fn : List DefX} {tf : List (PySem.W.Frag → Addr)} {h : Heap} (e : obsY n bs fn tf h.get? = (valX fn, true)) : SaysY bs fn tf h (He.frT h.get? (asY h.get? n)) := by
  have e1 : obsX bs fn (He.frT h.get? (asY h.get? n)) = valX fn := congrArg (fun z : AlY => z.1) e
  have e2 : tabsY h.get? tf (He.frT h.get? (asY h.get? n)) = true := congrArg (fun z : AlY => z.2) e
  have each : ∀ f ∈ tf, PySem.W.codeHdIn (He.frT h.get? (asY h.get? n)) (codeAt (He.frT h.get? (asY h.get? n)) (f (He.frT h.get? (asY h.get? n)))) (tabAt (He.frT h.get? (asY h.get? n)) (f (He.frT h.get? (asY h.get? n)))) = true ∧
      ∃ o, h.get? (tabAt (He.frT h.get? (asY h.get? n)) (f (He.frT h.get? (asY h.get? n)))) = some o ∧ He.emptyTab o = true := fun f hf => by
    obtain ⟨z1, z2⟩ := He.ba (List.all_eq_true.mp e2 f hf)
    refine ⟨z1, ?_⟩
    split at z2
    · rename_i o q
      exact ⟨o, q, z2⟩
    · cases z2
  refine ⟨e1, fun f hf => (each f hf).1, fun f hf => ?_, fun f hf => ?_⟩
  · obtain ⟨_, o, q, z⟩ := each f hf
    exact He.frT_none q z
  · obtain ⟨_, o, q, z⟩ := each f hf
    rw [q, He.emptyTab_eq z]
def hookY (n : Nat) (bs : List (PySem.W.Frag → Bool)) (fn : List DefX) (tf : List (PySem.W.Frag → Addr)) : PySem.W.Hook where
  α := AlY
  obs := fun s => obsY n bs fn tf s.heap.get?
  val := fun _ => (valX fn, true)
  says := fun _ h => ∃ K : PySem.W.Frag, K.In h ∧ SaysY bs fn tf h K
  of := fun _ _ e => ⟨_, He.frT_in, saysY_of e⟩
  keeps := fun _ _ _ ⟨K, hK, c⟩ k => ⟨K, PySem.W.Frag.In.keeps hK k, ⟨c.t, c.hd, c.out, fun f hf => k _ _ (c.empty f hf)⟩⟩
theorem obsY_eq {n : Nat} {bs : List (PySem.W.Frag → Bool)} {fn : List DefX} {tf : List (PySem.W.Frag → Addr)} {g : Addr → Option Obj} {s : Shared} (h : ∀ a, g a = s.heap.get? a) : obsY n bs fn tf g = (hookY n bs fn tf).obs s := by
  have e : g = s.heap.get? := funext h
  rw [e] <;> rfl
/-- the tables of the defs tf -/
def tabsOf (K : PySem.W.Frag) (tf : List (PySem.W.Frag → Addr)) : List (Addr × Addr) := tf.map fun f => (codeAt K (f K), tabAt K (f K))
/-! ### Bools of the head -/
def noneB (o : Option (Option Value)) : Bool := match o with
  | some none => true
  | _ => false
theorem noneB_ok {o : Option (Option Value)} (h : noneB o = true) : o = some none := by
  unfold noneB at h
  split at h
  · rfl
  · cases h
theorem all_ok {α : Type} {l : List α} {p : α → Bool} {P : α → Prop} (h : l.all p = true) (i : ∀ a, p a = true → P a) : ∀ a ∈ l, P a := fun a ha => i a (List.all_eq_true.mp h a ha)
def excB (K : PySem.W.Frag) (D : Addr) : Bool := He.eqO (PySem.W.findIn K (.ref D) "__getattribute__") (some (some (.builtin "BaseException.__getattribute__"))) && (noneB (PySem.W.findIn K (.ref D) "__getattr__") && (decide (PySem.W.subIn K (.ref D) (.type "BaseException") = some true) && (PySem.W.hasDictIn K D &&
  (He.eqO (PySem.W.findIn K (.ref D) "__class__") (some (some (.builtin "object.__class__"))) && (He.eqO (PySem.W.specialIn K (.builtin "object.__class__") "__get__") (some (some (.builtin "getset_descriptor.__get__"))) && (decide (PySem.W.takesIn K (.builtin "object.__class__") = some true) && decide (PySem.W.mroIn K D (.type "object") = some true)))))))
theorem excB_ok {K : PySem.W.Frag} {D : Addr} (h : excB K D = true) : ExcC K D := by
  obtain ⟨h1, h⟩ := He.ba h
  obtain ⟨h2, h⟩ := He.ba h
  obtain ⟨h3, h⟩ := He.ba h
  obtain ⟨h4, h⟩ := He.ba h
  obtain ⟨h5, h⟩ := He.ba h
  obtain ⟨h6, h⟩ := He.ba h
  obtain ⟨h7, h8⟩ := He.ba h
  exact ⟨He.eqO_ok h1, noneB_ok h2, of_decide_eq_true h3, h4, He.eqO_ok h5, He.eqO_ok h6, of_decide_eq_true h7, of_decide_eq_true h8⟩
/-- all that is asked of the classes of a law -/
def ctxB (ns es : List Str) (K : PySem.W.Frag) : Bool := (ns.all fun n => (He.Fa.cls n).ok K && isiB K (He.ga K n)) && ((es.all fun n => excB K (He.ga K n)) && (((ns ++ es).all fun n => (ns ++ es).all fun m => kitB2 K (.ref (He.ga K n)) (.ref (He.ga K m)) (subCC n m)) &&
  (((ns ++ es).all fun n => tyNames.all fun t => kitB2 K (.ref (He.ga K n)) (.type t) (subCT n t)) && (tyNames.all fun t => (ns ++ es).all fun n => kitB2 K (.type t) (.ref (He.ga K n)) false))))
theorem ctxB_ok {ns es : List Str} {K : PySem.W.Frag} {tb : List (Addr × Str)} (h : ctxB ns es K = true) : CtxOk { K := K, cl := He.ga K, tb := tb, ns := ns, es := es } := by
  obtain ⟨h1, h⟩ := He.ba h
  obtain ⟨h2, h⟩ := He.ba h
  obtain ⟨h3, h⟩ := He.ba h
  obtain ⟨h4, h5⟩ := He.ba h
  refine ⟨all_ok h1 fun n z => ?_, all_ok h2 fun n z => excB_ok z, all_ok h3 fun n z => all_ok z fun m z => kitB2_ok z, all_ok h4 fun n z => all_ok z fun m z => kitB2_ok z, all_ok h5 fun n z => all_ok z fun m z => kitB2_ok z⟩
  obtain ⟨z1, z2⟩ := He.ba z
  exact isiB_ok (He.cls_ok z1) z2
/-- an error class without own __init__ -/
structure ErN (K : PySem.W.Frag) (C : Addr) : Prop where
  q : PySem.W.excIn K C PySem.HandSPX.veTail "ValueError.__new__" = true
  kp : PySem.W.keepIn K (.ref C) = true
  be : PySem.W.subIn K (.ref C) (.type "BaseException") = some true
  ty : PySem.W.typeIn K (.ref C) = some (.type "type")
def erB (K : PySem.W.Frag) (C : Addr) : Bool := PySem.W.excIn K C PySem.HandSPX.veTail "ValueError.__new__" && (PySem.W.keepIn K (.ref C) && (decide (PySem.W.subIn K (.ref C) (.type "BaseException") = some true) && decide (PySem.W.typeIn K (.ref C) = some (.type "type"))))
theorem erB_ok {K : PySem.W.Frag} {C : Addr} (h : erB K C = true) : ErN K C := by
  obtain ⟨h1, h⟩ := He.ba h
  obtain ⟨h2, h⟩ := He.ba h
  obtain ⟨h3, h4⟩ := He.ba h
  exact ⟨h1, h2, of_decide_eq_true h3, of_decide_eq_true h4⟩
/-- one with an own __init__ and the field f -/
structure ErI (K : PySem.W.Frag) (C fI : Addr) (f : Str) : Prop where
  t : OexC K C
  ini : PySem.W.findIn K (.ref C) "__init__" = some (some (.ref fI))
  fn : PySem.W.typeIn K (.ref fI) = some (.type "function")
  nof : PySem.W.findIn K (.ref C) f = some none
def oexB (K : PySem.W.Frag) (C : Addr) : Bool := match K.lookup C with
  | some ⟨.type "type", _, .cls cd, sl⟩ => (match cd.mro, sl.toList with
    | .ref C' :: bm, [_, _, _, _, some (.builtin n), _] => C' == C && (n == "ValueError.__new__" && (!cd.hasDel && (cd.hasDict && PySem.HandSPX.refsVE bm)))
    | _, _ => false)
  | _ => false
theorem oexB_ok {K : PySem.W.Frag} {C : Addr} (h : oexB K C = true) : ∃ nm q N bs bm sn sub ab col dd k0 k1 k2 k3 k5, K.lookup C = some (excClassObj nm q C N bs bm true sn sub ab col dd k0 k1 k2 k3 k5 "ValueError.__new__") ∧ PySem.HandSPX.refsVE bm = true := by
  unfold oexB at h
  split at h
  · rename_i dd cd sl ho
    split at h
    · rename_i C' bm k0 k1 k2 k3 n k5 hm hs
      simp only [Bool.and_eq_true, beq_iff_eq, Bool.not_eq_true'] at h
      obtain ⟨rfl, rfl, hdel, hdct, hr⟩ := h
      obtain ⟨nm, bs, mro, ns, qn, hd, sn, sub, ab, col, del⟩ := cd
      dsimp only at hm hdel hdct
      subst hm hdel hdct
      have hsl : sl = #[k0, k1, k2, k3, some (.builtin "ValueError.__new__"), k5] := by
        obtain ⟨l⟩ := sl
        simp only at hs
        rw [hs]
      subst hsl
      exact ⟨nm, qn, ns, bs, bm, sn, sub, ab, col, dd, k0, k1, k2, k3, k5, ho, hr⟩
    · cases h
  · cases h
def eriB (K : PySem.W.Frag) (C fI : Addr) (f : Str) : Bool := oexB K C && (He.eqO (PySem.W.findIn K (.ref C) "__setattr__") (some (some (.builtin "object.__setattr__"))) && (decide (PySem.W.subIn K (.ref C) (.type "BaseException") = some true) && (decide (PySem.W.typeIn K (.ref C) = some (.type "type")) && (PySem.W.keepIn K (.ref C) &&
  (He.eqO (PySem.W.findIn K (.ref C) "__init__") (some (some (.ref fI))) && (decide (PySem.W.typeIn K (.ref fI) = some (.type "function")) && noneB (PySem.W.findIn K (.ref C) f)))))))
theorem eriB_ok {K : PySem.W.Frag} {C fI : Addr} {f : Str} (h : eriB K C fI f = true) : ErI K C fI f := by
  obtain ⟨h1, h⟩ := He.ba h
  obtain ⟨h2, h⟩ := He.ba h
  obtain ⟨h3, h⟩ := He.ba h
  obtain ⟨h4, h⟩ := He.ba h
  obtain ⟨h5, h⟩ := He.ba h
  obtain ⟨h6, h⟩ := He.ba h
  obtain ⟨h7, h8⟩ := He.ba h
  exact ⟨⟨oexB_ok h1, He.eqO_ok h2, of_decide_eq_true h3, of_decide_eq_true h4, h5⟩, He.eqO_ok h6, of_decide_eq_true h7, noneB_ok h8⟩
/-- what of a class is read: the base's __init__, a static method -/
def vInit (K : PySem.W.Frag) (C : Addr) : Bool := match PySem.W.findCls K (.ref C) (.type "type") "__init__" with
  | some (.val (.builtin n)) => n == "ValueError.__init__"
  | _ => false
theorem vInit_ok {K : PySem.W.Frag} {C : Addr} (h : vInit K C = true) : PySem.W.findCls K (.ref C) (.type "type") "__init__" = some (.val (.builtin "ValueError.__init__")) := by
  unfold vInit at h
  split at h
  · rename_i n e
    rw [e, beq_iff_eq.mp h]
  · cases h
def creadB (K : PySem.W.Frag) (C : Addr) : Bool := PySem.W.readsIn K C (.type "type") && He.eqO (PySem.W.specialIn K (.ref C) "__getattribute__") (some (some (.builtin "type.__getattribute__")))
theorem creadB_ok {K : PySem.W.Frag} {C : Addr} (h : creadB K C = true) : ClX.CRead K C (.type "type") := by
  obtain ⟨h1, h2⟩ := He.ba h
  exact ⟨h1, He.eqO_ok h2⟩
structure SMet (K : PySem.W.Frag) (C : Addr) (m : Str) (p g : Addr) : Prop where
  at_ : PySem.W.findCls K (.ref C) (.type "type") m = some (.get (.builtin "staticmethod.__get__") (.ref p) .none (.ref C))
  rc : ∃ rest, PySem.W.recIn K p "staticmethod" = some (.ref g :: rest)
  kp : PySem.W.keepIn K (.ref g) = true
section
variable {X : Cx} {c : Ctx} {W : WX} {k kf ka : Nat} {n m x : Str} {a : Expr} {es : List Expr} {wr : WA} {s : WP} {f pp : Addr} {fd : FuncData} {ps : List Str} {p pos apos : Pos}
theorem g_cls {ex : Expr} (h : PE X ex (tC (.ref (c.cl n)))) (hn : n ∈ c.ns ++ c.es) : GE X c W 0 ex (wK (.cls n)) := g_con h fun _ _ => .cls hn
theorem g_ty {ex : Expr} {t : String} (h : PE X ex (tC (.ty t))) (hn : t ∈ tyNames := by decide) : GE X c W 0 ex (wK (.ty t)) := g_con h fun _ _ => .ty hn
end
/-! ### facts of the written part that later texts ask -/
section
open PySem.W
end
end DL

set_option Elab.async false
set_option linter.all false
set_option maxRecDepth 100000
set_option maxHeartbeats 4000000
/-! A12: defaults, costs, {}, list(range(..)). -/
namespace DL
open PySem PySem.Spec PyProof.Rows L2
section
variable {X : Cx} {c : Ctx} {W : WX} {k ka kb : Nat} {m : Bool} {a : Expr} {wr : WA} {pos : Pos}
theorem gs_le {ss : List Stmt} {w : WS} (h : GSs X c W ka ss w) (hk : ka ≤ kb) : GSs X c W kb ss w := L2.PSs.imp h fun K σ H h => by
  obtain ⟨S, F, n, I, μ, e, E, hl, he, hw, h, q⟩ := h
  exact ⟨S, F, n, I, μ, e, E, by omega, he, hw, h, q.mono (by omega) (Same.refl I)⟩
/-- {} -/
def wDict0 (m : Bool) : WE := fun _ μ Q _ => sett m Q (.n (.dk [] [])) μ
theorem g_dict0 : GE X c W 0 (.Dict [] [] pos) (wDict0 m) := L2.PE.imp pe_dnewK fun σ H Q h => by
  obtain ⟨S, F, n, I, μ, e, Qd, Xd, hl, he, hw, h, q, x⟩ := h
  intro p hp
  obtain ⟨w2, r2⟩ := RsR.new hw hp (NdR.dk (ks := []) (xs := []) .nil rfl)
  exact (q.sett (m := m)) _ μ _ I _ h (Same.refl I) w2 r2
/-! list(range(n)) -/
def wLrng (m : Bool) (a : WA) : WE := fun e μ Q X => a e μ (fun ds μ1 => one ds fun d => int1 d fun j => (0 ≤ j ∧ j ≤ 2 ^ 20) ∧ sett m Q (.n (.list (rangeD 0 j.toNat))) μ1) X
end
theorem len_mixed {c : Ctx} {vs : List V} {H : Hp} {Q : VK} {Ex : XK} {k : Nat} {x : Str} (h : SpW c wp_law_mixed k vs H Q Ex) : vs.length = [x].length := by
  obtain ⟨S, F, m, I, μ, ds, Qd, Xd, hl, w, r, h, _⟩ := h
  rw [← r.length]
  unfold wp_law_mixed at h
  split at h
  · rfl
  · exact h.elim
theorem len_take {c : Ctx} {vs : List V} {H : Hp} {Q : VK} {Ex : XK} {k : Nat} {x y : Str} (h : SpW c wp_law_take k vs H Q Ex) : vs.length = [x, y].length := by
  obtain ⟨S, F, m, I, μ, ds, Qd, Xd, hl, w, r, h, _⟩ := h
  rw [← r.length]
  unfold wp_law_take at h
  split at h
  · rfl
  · exact h.elim
theorem tabs_all {K : PySem.W.Frag} {tf : List (PySem.W.Frag → Addr)} {P : Addr × Addr → Prop} (h : ∀ f ∈ tf, P (codeAt K (f K), tabAt K (f K))) : ∀ p ∈ tabsOf K tf, P p := fun p hp => by
  obtain ⟨f, hf, rfl⟩ := List.mem_map.mp hp
  exact h f hf
theorem tabs_mem {K : PySem.W.Frag} {tf : List (PySem.W.Frag → Addr)} {f : PySem.W.Frag → Addr} (h : f ∈ tf) : (codeAt K (f K), tabAt K (f K)) ∈ tabsOf K tf := List.mem_map.mpr ⟨f, h, rfl⟩
theorem tb_uniq {a : Addr} {q : Str} : ∀ {l : List (Addr × Str)}, (l.map (·.1)).Nodup → (a, q) ∈ l → ∀ p ∈ l, p.1 = a → p.2 = q
  | [], _, h, _, _, _ => by cases h
  | r :: l, nd, h, p, hp, e => by
    rw [List.map_cons, List.nodup_cons] at nd
    rcases List.mem_cons.mp h with h | h <;> rcases List.mem_cons.mp hp with hp | hp
    · rw [hp, ← h]
    · exact (nd.1 (List.mem_map.mpr ⟨p, hp, by rw [e, ← h]⟩)).elim
    · exact (nd.1 (List.mem_map.mpr ⟨(a, q), h, by rw [← hp, e]⟩)).elim
    · exact tb_uniq nd.2 h p hp e
end DL

set_option Elab.async false
set_option linter.all false
set_option maxRecDepth 100000
set_option maxHeartbeats 4000000
/-! A13: == of an own object and any thing of a known kind. -/
namespace DL
open PySem PySem.Spec PyProof.Rows L2
variable [Gds]
/-- no kind of thing comes ahead of the class -/
structure NotF (c : Ctx) (C : Addr) : Prop where
  ty : ∀ t ∈ tyNames, PySem.W.notFirst c.K C (.type t) = true
  cl : ∀ n ∈ c.ns ++ c.es, PySem.W.notFirst c.K C (.ref (c.cl n)) = true
theorem NotF.of {c : Ctx} {C : Addr} (h : NotF c C) {t : TyD} {u : Value} (q : TyV c t u) : PySem.W.notFirst c.K C u = true := by
  cases t with
  | b n =>
    obtain ⟨rfl, q⟩ := q
    exact h.ty _ q
  | o n =>
    obtain ⟨rfl, q⟩ := q
    exact h.cl _ q
section
variable {X : Cx} {c : Ctx} {W : WX} {k kf : Nat} {n : Str} {s : WP} {f : Addr} {fd : FuncData} {ps : List Str}
end
end DL

set_option Elab.async false
set_option linter.all false
set_option maxRecDepth 100000
set_option maxHeartbeats 4000000
/-! A14: keywords; all, any, insert, str of an int, is of bools, chains. -/
namespace DL
open PySem PyProof.Rows L2
variable [Gds]
/-! ### keywords: the values in the parameters' order -/
def permD {α : Type} (z : α) (js : List Nat) (xs : List α) : List α := js.map fun j => xs.getD j z
def waPerm (js : List Nat) (a : WA) : WA := fun e μ Q X => a e μ (fun ds μ1 => ds.length = js.length ∧ Q (permD D.none js ds) μ1) X
theorem getD_none {α : Type} {z : α} {xs : List α} {j : Nat} (h : xs[j]? = Option.none) : xs.getD j z = z := by rw [List.getD, h]; rfl
theorem getD_some {α : Type} {z x : α} {xs : List α} {j : Nat} (h : xs[j]? = some x) : xs.getD j z = x := by rw [List.getD, h]; rfl
theorem perm_reps {c : Ctx} {S : Option SA} {I : Hp} {ds : List D} {vs : List V} (r : Reps c S I ds vs) : ∀ js : List Nat, Reps c S I (permD D.none js ds) (permD V.non js vs)
  | [] => .nil
  | j :: js => by
    refine .cons ?_ (perm_reps r js)
    show Rep c S I (ds.getD j D.none) (vs.getD j V.non)
    cases e : ds[j]? with
    | none =>
      have e2 : vs[j]? = Option.none := by
        rw [List.getElem?_eq_none_iff] at e ⊢
        rw [← r.length]
        exact e
      rw [getD_none e, getD_none e2]
      exact .none
    | some d =>
      obtain ⟨x, h1, h2⟩ := r.get e
      rw [getD_some e, getD_some h1]
      exact h2
theorem perm_vals {vs : List V} {us : List Value} (r : Vals vs us) : ∀ js : List Nat, Vals (permD V.non js vs) (permD Value.none js us)
  | [] => .nil
  | j :: js => by
    refine .cons ?_ (perm_vals r js)
    show RelV (vs.getD j V.non) (us.getD j Value.none)
    cases e : vs[j]? with
    | none =>
      have e2 : us[j]? = Option.none := by
        rw [List.getElem?_eq_none_iff] at e ⊢
        rw [← r.length]
        exact e
      rw [getD_none e, getD_none e2]
      exact rfl
    | some d =>
      obtain ⟨x, h1, h2⟩ := r.get e
      rw [getD_some e, getD_some h1]
      exact h2
abbrev KB (K : PySem.W.Frag) (fd : FuncData) (ps : List Str) (n : Nat) (ks : List Str) (js : List Nat) : Prop := KBn K fd ps n ks (fun us ws => us ++ permD Value.none js ws) (fun vs zs => vs ++ permD V.non js zs)
section
variable {K : PySem.W.Frag} {x qual : Str} {params : Arguments} {body : List Stmt} {scope : Scope} {dvs : List V} {kws : List (Str × V)} {f : Addr} {fd : FuncData} {ps : List Str}
theorem kbn0 (F : FunD K x qual params body scope [] kws f fd) (n : Nat) (ks : List Str) (js : List Nat)
    (h : ∀ (kV doc pm : Value) (an : Option Addr) (cdv ct : Value) (us ws : List Value), us.length = n → ws.length = ks.length → bindArgs (PySem.W.fnOf x qual params body scope .none kV doc pm an cdv ct) ⟨us, ks.zip ws⟩ = pure (ps.zip (us ++ permD Value.none js ws))) : KB K fd ps n ks js := by
  obtain ⟨oc, od, dV, kV, doc, pm, an, cdv, ct, osl, rfl, lk, hcd, hD, hK⟩ := F.ex
  rcases hD with ⟨_, rfl⟩ | ⟨e, _⟩
  · exact ⟨fun s us ws X l1 l2 => .of_eq (h kV doc pm an cdv ct us ws l1 l2), fun r1 r2 => r1.append (perm_vals r2 js)⟩
  · exact absurd rfl e
end
theorem _root_.L2.PK.imp {X : Cx} {kws : List Keyword} {t t' : TA} (h : PK X kws t) (i : ∀ σ H Q, t' σ H Q → t σ H Q) : PK X kws t' := ⟨fun pos pins s σ H Q J z => h.run pos pins s σ H Q J (i σ H Q z)⟩
section
variable {X : Cx} {c : Ctx} {W : WX} {k kf ka kb : Nat} {f C : Addr} {fd : FuncData} {ps ks : List Str} {sp : Sp} {s : WP} {js : List Nat} {x : Str} {p pos kpos : Pos} {e : Expr} {kws : List Keyword} {wr : WA} {wa : WE} {nm : Option Str}
abbrev GK (X : Cx) (c : Ctx) (W : WX) (k : Nat) (kws : List Keyword) (w : WA) : Prop := PK X kws (ldA c W k w)
theorem gk_nil : GK X c W 0 [] waNil := L2.PK.imp pk_nil fun σ H Q h => by
  obtain ⟨S, F, n, I, μ, e, Qd, Xd, hl, he, hw, h, q, x⟩ := h
  exact q [] μ [] I H h (Same.refl I) hw .nil
theorem gk_cons (ha : GE X c W ka e wa) (hr : GK X c W kb kws wr) : GK X c W (ka + kb) (⟨nm, e, kpos⟩ :: kws) (waCons wa wr) := L2.PK.imp (pk_cons ha hr) fun σ H Q h => ld_cons h
theorem ld_perm {σ : L2.St} {H : Hp} {R : List V → Hp → Prop} (h : ldA c W ka (waPerm js wr) σ H R) : ldA c W ka wr σ H fun zs H1 => zs.length = js.length ∧ R (permD V.non js zs) H1 := by
  obtain ⟨S, F, n, I, μ, e, Qd, Xd, hl, he, hw, h, q, x⟩ := h
  refine ⟨S, F, n, I, μ, e, _, Xd, hl, he, hw, h, fun ds μ1 vs I1 H1 pa s1 w1 ra => ?_, x⟩
  exact ⟨by rw [← ra.length]; exact pa.1, q _ μ1 _ I1 H1 pa.2 s1 w1 (perm_reps ra js)⟩
theorem run_fnWK {pins : List (Addr × Obj)} {σ : L2.St} {H : Hp} {s : Shared} {Q : VK} {us ws : List Value} {vs zs : List V} {n : Nat} (F : FnW X.prog X.w X.K X.mg X.base k f fd ps sp) (gd : Gds.ok X.A) (hr : Room k X.A) (hb : KB X.K fd ps n ks js) (tk : Takes X W)
    (J : Inv X pins σ H s) (r : Vals vs us) (rz : Vals zs ws) (l1 : vs.length = n) (l2 : zs.length = ks.length) (h : sp (vs ++ permD V.non js zs) H Q fun cls d H' => W cls d σ H') : wpAny (model X.prog X.w) X.A (call (.ref f) us (ks.zip ws)) (EP X pins σ Q) X.xe s := by
  have r2 := hb.rel r rz
  refine wpAny_call (codeAny_mono (F.run X.A X.stack s H ⟨us, ks.zip ws⟩ _ _ Q _ gd hr J.env0 (hb.to s us ws J.kIn (r.length.symm.trans l1) (rz.length.symm.trans l2)) r2 h) fun r s' hq => ?_)
  cases r with
  | error e => exact tk e s' (XE.of_call J (fun _ _ _ h => h) hq)
  | ok fl =>
    cases fl with
    | ret u => exact J.after hq
    | next => exact False.elim hq
    | brk => exact False.elim hq
    | cont => exact False.elim hq
/-- f(k = v, ..) -/
theorem g_callK (F : FnW X.prog X.w X.K X.mg X.base k f fd ps (SpW c s kf)) (gd : Gds.ok X.A) (hr : Room k X.A) (hg : Gl X x) (hm : X.mg x = some (.ref f)) (hk : PySem.W.keepIn X.K (.ref f) = true) (hb : KB X.K fd ps 0 ks js) (tk : Takes X W) (hkw : GK X c W ka kws wr)
    (hl : js.length = ks.length := by rfl) (hall : (backToKw pos (keywordEach kws X.env)).all (·.1.isSome) = true := by rfl) (hks : (backToKw pos (keywordEach kws X.env)).filterMap (·.1) = ks := by rfl) (hdb : (x == ("__debug__" : Str)) = false := by decide)
    (hpl : ((backTo pos (starEach [] X.env)).any (·.1) || (backToKw pos (keywordEach kws X.env)).any (·.1.isNone)) = false := by rfl) :
    GE X c W (ka + kf) (.Call (.Name x p) [] kws pos) (wCall s [] (waPerm js wr)) := by
  refine ⟨fun pins s σ H Q J h => ?_⟩
  refine wpAny_Call_Name_kw (ld_glob J hg hm ?_ hdb)
  refine PySem.W.callWith_KW0 (h₀ := X.base) J.ok.mod.kin hk hall ?_ hpl
  refine thn (hkw.run pos pins s σ H _ J (ld_perm (ld_call (dd := []) (dvs := []) (fun _ _ => .nil) h))) fun ws s2 ⟨zs, H2, I2, rz, l2, q2⟩ => ⟨I2.kIn, ?_⟩
  rw [hks]
  rw [List.append_nil] at q2
  exact run_fnWK (us := []) (vs := []) F gd hr hb tk I2 .nil rz rfl (l2.trans hl) q2
end
/-! ### all, any of a list of bools -/
def boolsD : List D → Option (List Bool)
  | [] => some []
  | .bool b :: ds => (boolsD ds).map (b :: ·)
  | _ => Option.none
theorem bools_rep {c : Ctx} {S : Option SA} {I : Hp} : ∀ {ds : List D} {xs : List V} {bs : List Bool}, Reps c S I ds xs → boolsD ds = some bs → xs = bs.map V.bl
  | _, _, _, .nil, h => by cases h; rfl
  | _, _, bs, .cons r rs, h => by
    cases r with
    | bool =>
      simp only [boolsD, Option.map_eq_some_iff] at h
      obtain ⟨l, h1, rfl⟩ := h
      rw [bools_rep rs h1]
      rfl
    | _ => cases h
def cbBs (f : List Bool → Bool) : WC := fun xs μ Q _ => one xs fun x => match seqL μ x with
  | some ds => (match boolsD ds with
    | some bs => Q (.v (.bool (f bs))) μ
    | Option.none => False)
  | Option.none => False
abbrev cbAll : WC := cbBs fun bs => bs.all id
def cbStr : WC := fun xs μ Q _ => one xs fun x => int1 x fun i => i.natAbs.log2 < 1920 ∧ Q (.v (.str (toString i))) μ
section
variable {X : Cx} {c : Ctx} {W : WX}
theorem w_all (hc : X.calm = true := by rfl) (hK : X.K = c.K := by rfl) : CbW X c (.builtin "all") cbAll := cbw_of (cr_all hc) fun S F n I μ ds vs H Qd Xd Q w rs h q => by
  obtain ⟨x, rfl, h2⟩ := one_cases h
  obtain ⟨v, rfl, rv⟩ := reps1 rs
  split at h2
  · rename_i ds e
    split at h2
    · rename_i bs e2
      obtain ⟨l, xs, rfl, h1, r1⟩ := seqL_rep w rv e
      rw [bools_rep r1 e2] at h1
      exact ⟨l, bs, rfl, SqL.of h1, q _ μ _ I H h2 (Same.refl I) w .bool⟩
    · exact h2.elim
  · exact h2.elim
theorem w_str : CbW X c (.type "str") cbStr := cbw_of call_str_int fun S F n I μ ds vs H Qd Xd Q w rs h q => by
  obtain ⟨x, rfl, h⟩ := one_cases h
  obtain ⟨i, rfl, h⟩ := int1_cases h
  obtain ⟨v, rfl, rv⟩ := reps1 rs
  cases rv
  exact ⟨i, rfl, h.1, q _ μ _ I H h.2 (Same.refl I) w .str⟩
/-! ### list.insert -/
/-! ### is, is not of bools -/
def oBB (f : Bool → Bool → Bool) : WOp := fun x y μ Q _ => match x with
  | .bool a => (match y with
    | .bool b => Q (.v (.bool (f a b))) μ
    | _ => False)
  | _ => False
abbrev oIsB : WOp := oBB fun a b => decide (a = b)
abbrev oNotB : WOp := oBB fun a b => !decide (a = b)
/-! ### a < b < c of ints -/
def wChain (p q : Int → Int → Bool) (a b d : WE) : WE := fun e μ Q X => a e μ (fun x μ1 => b e μ1 (fun y μ2 => int1 x fun i => int1 y fun j => if p i j = true then d e μ2 (fun z μ3 => int1 z fun k => Q (.bool (q j k)) μ3) X else Q (.bool false) μ2) X) X
variable {a b d : Expr} {wa wb wd : WE} {ka kb kc : Nat} {pos : Pos} {op op' : CmpOp} {p q : Int → Int → Bool}
theorem ld_chain {σ : L2.St} {H : Hp} {Q : VK} (h : ldE c W (ka + (kb + kc)) (wChain p q wa wb wd) σ H Q) : tChain (rI0 fun i j => .bl (p i j)) (rI0 fun i j => .bl (q i j)) (ldE c W ka wa) (ldE c W kb wb) (ldE c W kc wd) σ H Q := by
  obtain ⟨S, F, n, I, μ, e, Qd, Xd, hl, he, hw, h, qq, x⟩ := h
  refine ⟨S, F, n, I, μ, e, _, Xd, by omega, he, hw, h, fun da μ1 va I1 H1 pa s1 w1 ra => ?_, x.mono (by omega) (Same.refl I)⟩
  refine ⟨S, F, n + ka, I1, μ1, e, _, Xd, by omega, he.mono s1, w1, pa, fun db μ2 vb I2 H2 pb s2 w2 rb => ?_, x.mono (by omega) s1⟩
  obtain ⟨i, e1, pb1⟩ := int1_cases pb
  obtain ⟨j, e2, pb2⟩ := int1_cases pb1
  subst e1
  subst e2
  cases ra
  cases rb
  refine ⟨i, j, rfl, rfl, _, rfl, ite_b pb2 (fun _ h => ?_) fun _ h => qq _ μ2 _ I2 H2 h (s1.trans s2) (w2.up (by omega)) .bool⟩
  refine ⟨S, F, n + ka + kb, I2, μ2, e, _, Xd, by omega, he.mono (s1.trans s2), w2, h, fun dc μ3 vc I3 H3 pc s3 w3 rc => ?_, x.mono (by omega) (s1.trans s2)⟩
  obtain ⟨z, e3, pc1⟩ := int1_cases pc
  subst e3
  cases rc
  exact ⟨j, z, rfl, rfl, qq _ μ3 _ I3 H3 pc1 ((s1.trans s2).trans s3) (w3.up (by omega)) .bool⟩
theorem g_tchain (ho : OpR X (compareOp op) (rI0 fun i j => .bl (p i j))) (ho' : OpR X (compareOp op') (rI0 fun i j => .bl (q i j))) (ha : GE X c W ka a wa) (hb : GE X c W kb b wb) (hc : GE X c W kc d wd) (hm : lastMarks [op, op'] [b, d] = false := by with_unfolding_all rfl) :
    GT X c W (ka + (kb + kc)) (.Compare a [op, op'] [b, d] pos) (wTst (wChain p q wa wb wd)) := L2.PT.imp (pt_chain ho ho' ha hb hc hm) fun σ H Q h => ld_chain (ld_tst h)
end
end DL

set_option Elab.async false
set_option linter.all false
set_option maxRecDepth 100000
set_option maxHeartbeats 4000000
/-! A15: == of tuples and lists that hold instances with an own ==. -/
namespace GQ2
open PySem PySem.SeqAt
open AutoSeq1 (wpAny_loadPart')
open MeetsSeq MeetsSeq2 MeetsSeq3 SeqRoads2
section
variable {prog : Program} {w : World} {A : Around} {R : Result → Shared → Prop}
end
section
variable {prog : Program} {w : World} {A : Around} {E : Value → Shared → Prop} {s : Shared}
end
end GQ2
namespace DL
open PySem PyProof.Rows L2
variable [Gds]
/-! ### equality of data with instances of one class -/
mutual
def eqO : D → D → Bool
  | .tup xs, .tup ys => eqOs xs ys
  | .list xs, .list ys => eqOs xs ys
  | .obj _ _ xs, .obj _ _ ys => eqOs xs ys
  | x, y => eqF x y
def eqOs : List D → List D → Bool
  | [], [] => true
  | x :: xs, y :: ys => eqO x y && eqOs xs ys
  | _, _ => false
end
mutual
/-- they can be compared; n, fs, P: of the instances -/
def cmpO (n : Str) (fs : List Str) (P : List D → Bool) : D → D → Bool
  | .tup xs, .tup ys => cmpOs n fs P xs ys
  | .list xs, .list ys => cmpOs n fs P xs ys
  | .obj n1 f1 xs, .obj n2 f2 ys => decide (n1 = n) && (decide (f1 = fs) && (P xs && (decide (n2 = n) && (decide (f2 = fs) && P ys))))
  | x, y => flatD x && flatD y
def cmpOs (n : Str) (fs : List Str) (P : List D → Bool) : List D → List D → Bool
  | x :: xs, y :: ys => cmpO n fs P x y && (!eqO x y || cmpOs n fs P xs ys)
  | _, _ => true
end
/-- what is known of the instances' own == -/
structure OwnE (X : Cx) (c : Ctx) (k : Nat) (n : Str) (fs : List Str) (P : List D → Bool) : Prop where
  ex : ∃ (f : Addr) (fd : FuncData) (ps : List Str) (s : WP), FnW X.prog X.w X.K X.mg X.base k f fd ps (SpW c s 0) ∧ Binds X.K fd ps [] ∧ PySem.W.notFirst X.K (c.cl n) (.ref (c.cl n)) = true ∧ Spl X.K (c.cl n) "__eq__" f ∧
    ∀ μ xs ys (Q : QD) (E : QD), P xs = true → P ys = true → Q (.bool (eqOs xs ys)) μ → s [.obj n fs xs, .obj n fs ys] μ Q E
  cm : ∀ xs ys, P xs = true → P ys = true → cmpOs n fs P xs ys = true
section
variable {X : Cx} {c : Ctx} {W : WX} {k m : Nat} {n : Str} {fs : List Str} {P : List D → Bool} {S : Option SA} {F : Hp} {μ : Mu}
/-- what stands behind a comparison -/
def EqEnd (X : Cx) (c : Ctx) (S : Option SA) (F : Hp) (m : Nat) (μ : Mu) (I : Hp) (pins : List (Addr × Obj)) (σ : L2.St) (s' : Shared) : Prop := ∃ I' H', Inv X pins σ H' s' ∧ Same I I' ∧ Wd c S F m I' μ H'
/-- the same, by the rich comparison of two things -/
def RcB (X : Cx) (c : Ctx) (S : Option SA) (F : Hp) (m : Nat) (μ : Mu) (kk : Nat) (x y : D) : Prop := ∀ (A : Around) (pins : List (Addr × Obj)) (s : Shared) (σ : L2.St) (I H : Hp) (a b : Addr), Sub X kk A → Gds.ok A → Inv X pins σ H s → Wd c S F m I μ H →
  Rep c S I x (.ref a) → Rep c S I y (.ref b) → wpAny (model X.prog X.w) A (richCompare .Eq (.ref a) (.ref b)) (fun v s' => v = .bool (eqO x y) ∧ EqEnd X c S F m μ I pins σ s') X.xe s
theorem RcB.mono {x y : D} {kk kk' : Nat} (h : RcB X c S F m μ kk x y) (hk : kk ≤ kk') : RcB X c S F m μ kk' x y := fun A pins s σ I H a b sb => h A pins s σ I H a b (sb.mono hk)
end
end DL

set_option Elab.async false
set_option linter.all false
set_option maxRecDepth 100000
set_option maxHeartbeats 4000000
/-! A16: what a def owns is let go at its end; displays of dicts with one pair. -/
namespace DL
open PySem PyProof.Rows L2
def subMu (μ2 μ1 : Mu) : Prop := ∀ b nd, μ2 b = some nd → μ1 b = some nd
/-- a def at whose end cells may be let go -/
def wDefD (n N : Nat) (b : WS) : WP := fun ds μ Q X => wDef n N b ds μ (fun d μ1 => ∃ μ2, subMu μ2 μ1 ∧ Q d μ2) X
theorem SpW.drop {c : Ctx} {n N : Nat} {b : WS} {k : Nat} {vs : List V} {H : Hp} {Q : VK} {Ex : XK} (h : SpW c (wDefD n N b) k vs H Q Ex) : SpW c (wDef n N b) k vs H Q Ex := by
  obtain ⟨S, F, m, I, μ, ds, Qd, Xd, hl, w, r, h, q, x⟩ := h
  refine ⟨S, F, m, I, μ, ds, _, Xd, hl, w, r, h, fun d μ' v I' H' p s w' r' => ?_, x⟩
  obtain ⟨μ2, e, p⟩ := p
  exact q d μ2 v I' H' p s (w'.drop e) r'
theorem subMu.refl (μ : Mu) : subMu μ μ := fun _ _ h => h
theorem subMu.trans {μ1 μ2 μ3 : Mu} (a : subMu μ1 μ2) (b : subMu μ2 μ3) : subMu μ1 μ3 := fun p nd h => b p nd (a p nd h)
theorem subMu.up {μ1 μ2 : Mu} {p : Addr} {nd : Nd} (a : subMu μ1 μ2) (h : μ2 p = Option.none) : subMu μ1 (up μ2 p nd) := fun b x e => by
  have q := a b x e
  rw [up_ne fun z => by rw [z, h] at q; cases q]
  exact q
/-- a cell that was not owned at first changes -/
theorem subMu.put {μ1 μ2 : Mu} {p : Addr} {nd : Nd} (a : subMu μ1 μ2) (h : μ1 p = Option.none) : subMu μ1 (DL.up μ2 p nd) := fun b x e => by
  rw [up_ne fun z => by rw [z, h] at e; cases e]
  exact a b x e
def keyD : D → Option Key
  | .int i => some (Sum.inl i)
  | .str s => some (Sum.inr s)
  | _ => Option.none
theorem keyD_rep {c : Ctx} {S : Option SA} {I : Hp} {d : D} {v : V} {k : Key} (r : Rep c S I d v) (h : keyD d = some k) : v = kV k := by
  cases r <;> first | (cases h; rfl) | cases h
/-- {k: v} -/
def wDisp1 (m : Bool) (a b : WE) : WE := fun e μ Q X => a e μ (fun x μ1 => b e μ1 (fun y μ2 => match keyD x with
  | some k => sett m Q (.n (.dk [k] [y])) μ2
  | Option.none => False) X) X
/-- {(i, ..): v}, the key of ints as written -/
def wDispT (m : Bool) (ks : List Key) (b : WE) : WE := fun e μ Q X => b e μ (fun y μ2 => sett m Q (.n (.dt [ks] [y])) μ2) X
section
variable {X : Cx} {c : Ctx} {W : WX} {ka kb : Nat} {m : Bool} {a b : Expr} {wa wb : WE} {pos : Pos}
end
end DL

set_option Elab.async false
set_option linter.all false
set_option maxRecDepth 100000
set_option maxHeartbeats 0
set_option exponentiation.threshold 100000
namespace KLaw
open PySem PySem.Spec PyProof.Rows L2 DL
def topS (i : Nat) : Stmt := PySem.Challenge.pw_crossadds_k71_rules_read_or_refused.main.body.getD i (.Pass ⟨0, 0, 0, 0⟩)
abbrev nsL : List Str := ["Rule"]
abbrev esL : List Str := ["CrossError", "BadRule", "BadPower", "BadProgram", "BadText"]
abbrev tf : List (PySem.W.Frag → Addr) := [(fun K => (He.ga K "_law_right")), (fun K => (He.ga K "law"))]
abbrev cx (K : PySem.W.Frag) : DL.Ctx := { K := K, cl := He.ga K, tb := [(tabAt K (He.ga K "_law_right"), ("_law_right" : Str) ++ ".<locals>." ++ "<lambda>"), (tabAt K (He.ga K "law"), ("law" : Str) ++ ".<locals>." ++ "<lambda>")], ns := nsL, es := esL }
def d_law_mixed : DefX := ⟨fun K => (He.ga K "_law_mixed"), "_law_mixed", "_law_mixed", defArgs (topS 37), defBody (topS 37), defScope (topS 37), []⟩
def d_law_take : DefX := ⟨fun K => (He.ga K "_law_take"), "_law_take", "_law_take", defArgs (topS 38), defBody (topS 38), defScope (topS 38), []⟩
def d_law_pick : DefX := ⟨fun K => (He.ga K "_law_pick"), "_law_pick", "_law_pick", defArgs (topS 39), defBody (topS 39), defScope (topS 39), []⟩
def d_law_number : DefX := ⟨fun K => (He.ga K "_law_number"), "_law_number", "_law_number", defArgs (topS 40), defBody (topS 40), defScope (topS 40), []⟩
def d_law_trimmed : DefX := ⟨fun K => (He.ga K "_law_trimmed"), "_law_trimmed", "_law_trimmed", defArgs (topS 41), defBody (topS 41), defScope (topS 41), []⟩
def d_law_rule : DefX := ⟨fun K => (He.ga K "_law_rule"), "_law_rule", "_law_rule", defArgs (topS 42), defBody (topS 42), defScope (topS 42), []⟩
def d_law_term_page : DefX := ⟨fun K => (He.ga K "_law_term_page"), "_law_term_page", "_law_term_page", defArgs (topS 30), defBody (topS 30), defScope (topS 30), []⟩
def d_law_rule_page : DefX := ⟨fun K => (He.ga K "_law_rule_page"), "_law_rule_page", "_law_rule_page", defArgs (topS 31), defBody (topS 31), defScope (topS 31), []⟩
def d_law_figures : DefX := ⟨fun K => (He.ga K "_law_figures"), "_law_figures", "_law_figures", defArgs (topS 32), defBody (topS 32), defScope (topS 32), []⟩
def d_law_term_read : DefX := ⟨fun K => (He.ga K "_law_term_read"), "_law_term_read", "_law_term_read", defArgs (topS 33), defBody (topS 33), defScope (topS 33), []⟩
def d_law_rule_read : DefX := ⟨fun K => (He.ga K "_law_rule_read"), "_law_rule_read", "_law_rule_read", defArgs (topS 34), defBody (topS 34), defScope (topS 34), []⟩
def d_is_plain_number : DefX := ⟨fun K => (He.ga K "is_plain_number"), "is_plain_number", "is_plain_number", defArgs (topS 20), defBody (topS 20), defScope (topS 20), []⟩
def d_power_in : DefX := ⟨fun K => (He.ga K "power_in"), "power_in", "power_in", defArgs (topS 24), defBody (topS 24), defScope (topS 24), []⟩
def d_term_at : DefX := ⟨fun K => (He.ga K "term_at"), "term_at", "term_at", defArgs (topS 25), defBody (topS 25), defScope (topS 25), []⟩
def d_numbers_of_terms : DefX := ⟨fun K => (He.ga K "numbers_of_terms"), "numbers_of_terms", "numbers_of_terms", defArgs (topS 26), defBody (topS 26), defScope (topS 26), []⟩
def d_is_list : DefX := ⟨fun K => (He.ga K "is_list"), "is_list", "is_list", defArgs (topS 10), defBody (topS 10), defScope (topS 10), []⟩
def d_is_number : DefX := ⟨fun K => (He.ga K "is_number"), "is_number", "is_number", defArgs (topS 8), defBody (topS 8), defScope (topS 8), []⟩
def d_without_end : DefX := ⟨fun K => (He.ga K "without_end"), "without_end", "without_end", defArgs (topS 11), defBody (topS 11), defScope (topS 11), []⟩
def d_Rule___init__ : DefX := ⟨fun K => (He.ma K (He.ga K "Rule") "__init__"), "__init__", "Rule.__init__", defArgs (inClass (topS 12) 0), defBody (inClass (topS 12) 0), defScope (inClass (topS 12) 0), [.adr (fun K => He.dflAt ("Rule", some "__init__") 0 K)]⟩
def d_Rule_degree : DefX := ⟨fun K => (recAt K "property" (He.ma K (He.ga K "Rule") "degree")), "degree", "Rule.degree", defArgs (inClass (topS 12) 2), defBody (inClass (topS 12) 2), defScope (inClass (topS 12) 2), []⟩
def d_is_from : DefX := ⟨fun K => (He.ga K "is_from"), "is_from", "is_from", defArgs (topS 9), defBody (topS 9), defScope (topS 9), []⟩
def d_Rule___getitem__ : DefX := ⟨fun K => (He.ma K (He.ga K "Rule") "__getitem__"), "__getitem__", "Rule.__getitem__", defArgs (inClass (topS 12) 5), defBody (inClass (topS 12) 5), defScope (inClass (topS 12) 5), []⟩
def d_power_text : DefX := ⟨fun K => (He.ga K "power_text"), "power_text", "power_text", defArgs (topS 21), defBody (topS 21), defScope (topS 21), []⟩
def d_term_text : DefX := ⟨fun K => (He.ga K "term_text"), "term_text", "term_text", defArgs (topS 22), defBody (topS 22), defScope (topS 22), []⟩
def d_rule_text : DefX := ⟨fun K => (He.ga K "rule_text"), "rule_text", "rule_text", defArgs (topS 23), defBody (topS 23), defScope (topS 23), []⟩
def d_rule_in : DefX := ⟨fun K => (He.ga K "rule_in"), "rule_in", "rule_in", defArgs (topS 27), defBody (topS 27), defScope (topS 27), []⟩
def d_read_rule : DefX := ⟨fun K => (He.ga K "read_rule"), "read_rule", "read_rule", defArgs (topS 28), defBody (topS 28), defScope (topS 28), []⟩
def d_Rule_coefficients : DefX := ⟨fun K => (recAt K "property" (He.ma K (He.ga K "Rule") "coefficients")), "coefficients", "Rule.coefficients", defArgs (inClass (topS 12) 1), defBody (inClass (topS 12) 1), defScope (inClass (topS 12) 1), []⟩
def d_law_right : DefX := ⟨fun K => (He.ga K "_law_right"), "_law_right", "_law_right", defArgs (topS 44), defBody (topS 44), defScope (topS 44), []⟩
def d_law_bent_page : DefX := ⟨fun K => (He.ga K "_law_bent_page"), "_law_bent_page", "_law_bent_page", defArgs (topS 35), defBody (topS 35), defScope (topS 35), []⟩
def d_law_begun : DefX := ⟨fun K => (He.ga K "_law_begun"), "_law_begun", "_law_begun", defArgs (topS 36), defBody (topS 36), defScope (topS 36), []⟩
def d_law : DefX := ⟨fun K => (He.ga K "law"), "law", "law", defArgs (topS 45), defBody (topS 45), defScope (topS 45), []⟩
def d_BadRule___init__ : DefX := ⟨fun K => (He.ma K (He.ga K "BadRule") "__init__"), "__init__", "BadRule.__init__", defArgs (inClass (topS 3) 0), defBody (inClass (topS 3) 0), defScope (inClass (topS 3) 0), []⟩
def d_BadText___init__ : DefX := ⟨fun K => (He.ma K (He.ga K "BadText") "__init__"), "__init__", "BadText.__init__", defArgs (inClass (topS 6) 0), defBody (inClass (topS 6) 0), defScope (inClass (topS 6) 0), []⟩
def d_law_caught : DefX := ⟨fun K => (He.ga K "_law_caught"), "_law_caught", "_law_caught", defArgs (topS 43), defBody (topS 43), defScope (topS 43), []⟩
def bsA1 : List (PySem.W.Frag → Bool) := [fun K => (He.Fa.glo "BadPower").ok K,
  fun K => (He.Fa.glo "BadProgram").ok K,
  fun K => (He.Fa.glo "BadRule").ok K,
  fun K => (He.Fa.glo "BadText").ok K,
  fun K => (He.Fa.glo "CrossError").ok K,
  fun K => (He.Fa.str "FIGURES" "0123456789").ok K,
  fun K => (He.Fa.int "MOST_FIGURES" (12)).ok K,
  fun K => (He.Fa.int "MOST_POWER" (24)).ok K,
  fun K => (He.Fa.glo "Rule").ok K,
  fun K => (He.Fa.glo "_law_begun").ok K,
  fun K => (He.Fa.glo "_law_bent_page").ok K,
  fun K => (He.Fa.glo "_law_caught").ok K,
  fun K => (He.Fa.glo "_law_figures").ok K,
  fun K => (He.Fa.glo "_law_mixed").ok K,
  fun K => (He.Fa.glo "_law_number").ok K,
  fun K => (He.Fa.glo "_law_pick").ok K,
  fun K => (He.Fa.glo "_law_right").ok K]
def bsA2 : List (PySem.W.Frag → Bool) := [fun K => (He.Fa.glo "_law_rule").ok K,
  fun K => (He.Fa.glo "_law_rule_page").ok K,
  fun K => (He.Fa.glo "_law_rule_read").ok K,
  fun K => (He.Fa.glo "_law_take").ok K,
  fun K => (He.Fa.glo "_law_term_page").ok K,
  fun K => (He.Fa.glo "_law_term_read").ok K,
  fun K => (He.Fa.glo "_law_trimmed").ok K,
  fun K => (He.Fa.glo "is_from").ok K,
  fun K => (He.Fa.glo "is_list").ok K,
  fun K => (He.Fa.glo "is_number").ok K,
  fun K => (He.Fa.glo "is_plain_number").ok K,
  fun K => (He.Fa.glo "numbers_of_terms").ok K,
  fun K => (He.Fa.glo "power_in").ok K,
  fun K => (He.Fa.glo "power_text").ok K,
  fun K => (He.Fa.glo "read_rule").ok K,
  fun K => (He.Fa.glo "rule_in").ok K,
  fun K => (He.Fa.glo "rule_text").ok K]
def bsA3 : List (PySem.W.Frag → Bool) := [fun K => (He.Fa.glo "term_at").ok K,
  fun K => (He.Fa.glo "term_text").ok K,
  fun K => (He.Fa.glo "without_end").ok K,
  fun K => (He.Fa.glo "law").ok K,
  fun K => (He.Fa.free "abs").ok K,
  fun K => (He.Fa.free "all").ok K,
  fun K => (He.Fa.free "bool").ok K,
  fun K => (He.Fa.free "enumerate").ok K,
  fun K => (He.Fa.free "int").ok K,
  fun K => (He.Fa.free "isinstance").ok K,
  fun K => (He.Fa.free "len").ok K,
  fun K => (He.Fa.free "list").ok K,
  fun K => (He.Fa.free "min").ok K,
  fun K => (He.Fa.free "range").ok K,
  fun K => (He.Fa.free "repr").ok K,
  fun K => (He.Fa.free "str").ok K,
  fun K => (He.Fa.free "tuple").ok K]
def bsA4 : List (PySem.W.Frag → Bool) := [ctxB nsL esL,
  fun K => esL.all fun n => decide (PySem.W.exmOne K (.ref (He.ga K n)) (.ref (He.ga K "CrossError")) = some true),
  fun K => PySem.W.keepIn K (.ref (He.ga K "_law_caught")),
  fun K => (He.Fa.cls "Rule").ok K,
  fun K => eriB K (He.ga K "BadRule") (He.ma K (He.ga K "BadRule") "__init__") "at",
  fun K => eriB K (He.ga K "BadText") (He.ma K (He.ga K "BadText") "__init__") "line",
  fun K => erB K (He.ga K "BadPower"),
  fun K => esL.all fun n => noneB (PySem.W.findIn K (.ref (He.ga K n)) "line"),
  fun K => PySem.W.fnIn K (He.ma K (He.ga K "Rule") "__getitem__"),
  fun K => (He.Fa.mkr "Rule").ok K,
  fun K => (He.Fa.noat "Rule" "own_numbers").ok K,
  fun K => propB K (He.ga K "Rule") "coefficients",
  fun K => propB K (He.ga K "Rule") "degree",
  fun K => splB K (He.ga K "Rule") "__getitem__",
  fun K => creadB K (He.ga K "CrossError"),
  fun K => vInit K (He.ga K "CrossError"),
  fun K => decide (((cx K).tb.map (·.1)).Nodup)]
def bs1 : List (PySem.W.Frag → Bool) := bsA1 ++ bsA2
def bs2 : List (PySem.W.Frag → Bool) := bsA3 ++ bsA4
def bs : List (PySem.W.Frag → Bool) := bs1 ++ bs2
def fnA1 : List DefX := [d_law_mixed, d_law_take, d_law_pick, d_law_number, d_law_trimmed, d_law_rule, d_law_term_page, d_law_rule_page, d_law_figures, d_law_term_read, d_law_rule_read, d_is_plain_number]
def fnA2 : List DefX := [d_power_in, d_term_at, d_numbers_of_terms, d_is_list, d_is_number, d_without_end, d_Rule___init__, d_Rule_degree, d_is_from, d_Rule___getitem__, d_power_text, d_term_text]
def fnA3 : List DefX := [d_rule_text, d_rule_in, d_read_rule, d_Rule_coefficients, d_law_right, d_law_bent_page, d_law_begun, d_law, d_BadRule___init__, d_BadText___init__, d_law_caught]
def fn : List DefX := fnA1 ++ (fnA2 ++ fnA3)
abbrev R : PySem.W.OpenRow := PySem.W.OpenLaw.row PySem.Challenge.rw_crossadds_k71_rules_read_or_refused
def loose0 : List Str := ["_wall", "__name__", "CrossError", "BadRule", "BadPower", "BadProgram", "BadText", "is_number", "is_from", "is_list", "without_end", "Rule", "row_value", "row_sum", "row_product", "FIGURES", "MOST_FIGURES", "MOST_POWER", "is_plain_number", "power_text", "term_text", "rule_text", "power_in", "term_at", "numbers_of_terms", "rule_in", "read_rule", "_law_term_page", "_law_rule_page", "_law_figures"]
def loose1 : List Str := ["_law_term_read", "_law_rule_read", "_law_bent_page", "_law_begun", "_law_mixed", "_law_take", "_law_pick", "_law_number", "_law_trimmed", "_law_rule", "_law_caught", "_law_right"]
abbrev loose : List Str := loose0 ++ loose1
abbrev hk : PySem.W.Hook := hookY 7 bs fn tf
def ob (s : PySem.W.SharedT) : AlY := obsY 7 bs fn tf (HandSHeadRun.getT s)
theorem ob_eq (s : PySem.W.SharedT) : ob s = hk.obs s.abs := obsY_eq (HandSHeadRun.getT_eq s)
theorem p_three {α β γ δ : Type} {x : Option α} {f : α → β} {g : α → γ} {h : α → δ} {a : β} {b : γ} {c : δ} (h1 : x.map f = some a) (h2 : x.map g = some b) (h3 : x.map h = some c) : x.map (fun s => (f s, g s, h s)) = some (a, b, c) := by cases x with | none => cases h1 | some y => cases h1; cases h2; cases h3; rfl
theorem p_join {α : Type} {x : Option α} {b1 b2 : List (PySem.W.Frag → Bool)} {fn : List DefX} {tf : List (PySem.W.Frag → Addr)} {G : α → Addr → Option Obj} (h1 : x.map (fun s => b1.all fun b => b (He.frT (G s) (asY (G s) 7))) = some true) (h2 : x.map (fun s => b2.all fun b => b (He.frT (G s) (asY (G s) 7))) = some true) (h3 : x.map (fun s => (fn.all (fun d => d.ok (He.frT (G s) (asY (G s) 7))), tabsY (G s) tf (He.frT (G s) (asY (G s) 7)))) = some (true, true)) (h4 : x.map (fun s => fn.map fun d => fnX (He.frT (G s) (asY (G s) 7)) (d.at_ (He.frT (G s) (asY (G s) 7)))) = some (fn.map DefX.val)) : x.map (fun s => obsY 7 (b1 ++ b2) fn tf (G s)) = some (valX fn, true) := by
  cases x with
  | none => cases h1
  | some s =>
    have e1 := Option.some.inj h1
    have e2 := Option.some.inj h2
    have e3 := Option.some.inj h3
    have e4 := Option.some.inj h4
    have e5 := congrArg Prod.fst e3
    have e6 := congrArg Prod.snd e3
    dsimp only at e1 e2 e4 e5 e6
    show some (obsY 7 (b1 ++ b2) fn tf (G s)) = _
    unfold obsY obsX valX
    rw [List.all_append, e1, e2, e5, e6, e4]
    rfl
open PySem PySem.W PySem.Calls HandSHeadRun in theorem p_look (w : PySem.World) (os : PySem.OsState) : (endF (stepQ (denQ tabQ) R.prog w) 8000 R.prog w os).map (fun s => looksF R.prog (boot_heap w.params) s.abs) = some (true) := by kernel_rfl
open PySem PySem.W PySem.Calls HandSHeadRun in theorem p_seen (w : PySem.World) (os : PySem.OsState) : (endF (stepQ (denQ tabQ) R.prog w) 8000 R.prog w os).map (fun s => seenQ (PySem.W.view R.prog [45]) loose (importedModules R.prog.main.body) (fun s => xlAt (PySem.W.view R.prog [45]) [] s && recOk R.toRowW.records s) s.abs) = some (openGood (PySem.W.view R.prog [45]) loose) := by kernel_rfl
open PySem PySem.W PySem.Calls HandSHeadRun in theorem p_ob1 (w : PySem.World) (os : PySem.OsState) : (endF (stepQ (denQ tabQ) R.prog w) 8000 R.prog w os).map (fun s => bs1.all fun b => b (He.frT (HandSHeadRun.getT s) (asY (HandSHeadRun.getT s) 7))) = some (true) := by kernel_rfl
open PySem PySem.W PySem.Calls HandSHeadRun in theorem p_ob2 (w : PySem.World) (os : PySem.OsState) : (endF (stepQ (denQ tabQ) R.prog w) 8000 R.prog w os).map (fun s => bs2.all fun b => b (He.frT (HandSHeadRun.getT s) (asY (HandSHeadRun.getT s) 7))) = some (true) := by kernel_rfl
open PySem PySem.W PySem.Calls HandSHeadRun in theorem p_ob3 (w : PySem.World) (os : PySem.OsState) : (endF (stepQ (denQ tabQ) R.prog w) 8000 R.prog w os).map (fun s => (fn.all (fun d => d.ok (He.frT (HandSHeadRun.getT s) (asY (HandSHeadRun.getT s) 7))), tabsY (HandSHeadRun.getT s) tf (He.frT (HandSHeadRun.getT s) (asY (HandSHeadRun.getT s) 7)))) = some ((true, true)) := by kernel_rfl
open PySem PySem.W PySem.Calls HandSHeadRun in theorem p_ob4 (w : PySem.World) (os : PySem.OsState) : (endF (stepQ (denQ tabQ) R.prog w) 8000 R.prog w os).map (fun s => fn.map fun d => fnX (He.frT (HandSHeadRun.getT s) (asY (HandSHeadRun.getT s) 7)) (d.at_ (He.frT (HandSHeadRun.getT s) (asY (HandSHeadRun.getT s) 7)))) = some (fn.map DefX.val) := by kernel_rfl
open PySem PySem.W PySem.Calls HandSHeadRun in theorem p_ob (w : PySem.World) (os : PySem.OsState) : (endF (stepQ (denQ tabQ) R.prog w) 8000 R.prog w os).map (fun s => ob s) = some (hk.val w) := p_join (p_ob1 w os) (p_ob2 w os) (p_ob3 w os) (p_ob4 w os)
theorem run (w : PySem.World) : HandSHeadRun.RunEq R (PySem.W.view R.prog [45]) hk ob 8000 loose w := by
  intro os
  exact p_three (p_look w os) (p_seen w os) (p_ob w os)
end KLaw
set_option Elab.async false
set_option linter.all false
set_option maxRecDepth 100000
set_option maxHeartbeats 4000000
/-! A17: len by an own __len__, a tuple times a number, != of a tuple and (). -/
namespace DL
open PySem PyProof.Rows L2
variable [Gds]
section
variable {X : Cx} {c : Ctx} {W : WX} {k : Nat} {n : Str} {s : WP} {f : Addr} {fd : FuncData} {ps : List Str}
end
end DL

set_option Elab.async false
set_option linter.all false
set_option maxRecDepth 100000
set_option maxHeartbeats 4000000
/-! A18: what each wish says, as equations (printed by tools/mku.py). -/
namespace DL
open PySem PyProof.Rows L2
theorem Jbu (n N : Nat) (b : WS) (ds : List D) (μ : Mu) (Q : QD) (X : QD) : wDef n N b ds μ Q X = (ds.length = n ∧ b (initE N ds) μ ⟨fun _ μ1 => Q .none μ1, Q, fun _ _ => False, fun _ _ => False, fun d _ μ1 => X d μ1⟩) := propext Iff.rfl
theorem Jcw (a b : WS) (e : EnvD) (μ : Mu) (E : WEnds) : wSeq a b e μ E = (a e μ { E with nx := fun e1 μ1 => b e1 μ1 E }) := propext Iff.rfl
theorem Jci (e : EnvD) (μ : Mu) (E : WEnds) : wNext e μ E = (E.nx e μ) := propext Iff.rfl
theorem Jbk (i : Nat) (a : WE) (e : EnvD) (μ : Mu) (E : WEnds) : wAsg i a e μ E = (a e μ (fun d μ1 => E.nx (st e i (some d)) μ1) fun d μ1 => E.xp d e μ1) := propext Iff.rfl
theorem Jbl (g : WG) (a : WE) (e : EnvD) (μ : Mu) (E : WEnds) : wAsgG g a e μ E = (a e μ (fun d μ1 => g d e fun e1 => E.nx e1 μ1) fun d μ1 => E.xp d e μ1) := propext Iff.rfl
theorem Jbz (a : WE) (e : EnvD) (μ : Mu) (E : WEnds) : wDrop a e μ E = (a e μ (fun _ μ1 => E.nx e μ1) fun d μ1 => E.xp d e μ1) := propext Iff.rfl
theorem Jcr (a : WE) (e : EnvD) (μ : Mu) (E : WEnds) : wRet a e μ E = (a e μ E.rt fun d μ1 => E.xp d e μ1) := propext Iff.rfl
theorem Jcs (u0' : EnvD) (μ : Mu) (E : WEnds) : wRetN u0' μ E = (E.rt .none μ) := propext Iff.rfl
theorem Jc8 (t : WT) (a b : WS) (e : EnvD) (μ : Mu) (E : WEnds) : wIfS t a b e μ E = (t e μ (fun k μ1 => if k = true then a e μ1 E else b e μ1 E) fun d μ1 => E.xp d e μ1) := propext Iff.rfl
theorem Jco (i j : Nat) (a : WA) (e : EnvD) (μ : Mu) (E : WEnds) : wPar i j a e μ E = (a e μ (fun ds μ1 => match ds with
  | [x, y] => E.nx (st (st e i (some x)) j (some y)) μ1
  | _ => False) fun d μ1 => E.xp d e μ1) := propext Iff.rfl
theorem Jbm (i : Nat) (f : Int → Int → Int) (a : WE) (e : EnvD) (μ : Mu) (E : WEnds) : wAug i f a e μ E = (match gt e i with
  | some (.int x) => a e μ (fun d μ1 => match d with
    | .int y => E.nx (st e i (some (.int (f x y)))) μ1
    | _ => False) fun d μ1 => E.xp d e μ1
  | _ => False) := propext Iff.rfl
theorem Jcy (v o i : WE) (e : EnvD) (μ : Mu) (E : WEnds) : wSetL v o i e μ E = (v e μ (fun d μ1 => o e μ1 (fun x μ2 => i e μ2 (fun y μ3 => match x, y with
  | .cell p, .int k => (match ndL (μ3 p) with
    | some ds => (match ixN ds.length k with
      | some j => E.nx e (up μ3 p (.list (ds.set j d)))
      | Option.none => False)
    | Option.none => False)
  | _, _ => False) fun d μ1 => E.xp d e μ1) fun d μ1 => E.xp d e μ1) fun d μ1 => E.xp d e μ1) := propext Iff.rfl
theorem Jbn (e : EnvD) (μ : Mu) (E : WEnds) : wBreak e μ E = (E.bk e μ) := propext Iff.rfl
theorem Jbt (e : EnvD) (μ : Mu) (E : WEnds) : wCont e μ E = (E.ct e μ) := propext Iff.rfl
theorem Jdb (i : Nat) (d : D) (e : EnvD) (Q : EnvD → Prop) : wgN i d e Q = (Q (st e i (some d))) := propext Iff.rfl
theorem Jdc (ds : List D) (e : EnvD) (Q : EnvD → Prop) : wgNil ds e Q = (match ds with
  | [] => Q e
  | _ => False) := propext Iff.rfl
theorem Jda (g : WG) (gs : WGs) (ds : List D) (e : EnvD) (Q : EnvD → Prop) : wgCons g gs ds e Q = (match ds with
  | d :: ds => g d e fun e1 => gs ds e1 Q
  | _ => False) := propext Iff.rfl
theorem Jdd (n : Nat) (gs : WGs) (d : D) (e : EnvD) (Q : EnvD → Prop) : wgTup n gs d e Q = (match d with
  | .tup ds => ds.length = n ∧ gs ds e Q
  | _ => False) := propext Iff.rfl
theorem Jdi (a : WE) (e : EnvD) (μ : Mu) (Q : Src → Mu → Prop) (X : QD) : wiSeq a e μ Q X = (a e μ (fun d μ1 => match sqD μ1 d with
  | some ds => Q ⟨ds, okS d ds⟩ μ1
  | Option.none => False) X) := propext Iff.rfl
theorem Jdf (a : WA) (e : EnvD) (μ : Mu) (Q : Src → Mu → Prop) (X : QD) : wiRng1 a e μ Q X = (a e μ (fun ds μ1 => one ds fun x => int1 x fun j => inR j ∧ Q ⟨rangeD 0 j.toNat, fun _ => True⟩ μ1) X) := propext Iff.rfl
theorem Jdg (a : WA) (e : EnvD) (μ : Mu) (Q : Src → Mu → Prop) (X : QD) : wiRng2 a e μ Q X = (a e μ (fun ds μ1 => two ds fun x y => int1 x fun lo => int1 y fun hi => inR lo ∧ inR hi ∧ Q ⟨rangeD lo (hi - lo).toNat, fun _ => True⟩ μ1) X) := propext Iff.rfl
theorem Jde (a : WA) (e : EnvD) (μ : Mu) (Q : Src → Mu → Prop) (X : QD) : wiEnum a e μ Q X = (a e μ (fun ds μ1 => one ds fun d => match sqD μ1 d with
  | some xs => Q ⟨enumD 0 xs, okS d xs⟩ μ1
  | Option.none => False) X) := propext Iff.rfl
theorem Jc3 (s : WI) (g : WG) (b : WS) (e : EnvD) (μ : Mu) (E : WEnds) : wFor s g b e μ E = (s e μ (fun s μ1 => s.xs.length ≤ 2 ^ 63 ∧ goFor s.ok g b s.xs e μ1 E) fun d μ1 => E.xp d e μ1) := propext Iff.rfl
theorem Jcc (m : Bool) (s : WI) (g : WG) (t : WT) (a : WE) (vs : List Nat) (e : EnvD) (μ : Mu) (Q : QD) (X : QD) : wLc m s g t a vs e μ Q X = (s e μ (fun s μ1 => s.xs.length ≤ sizeLine ∧ goLc s.ok g t a (wipeE e vs) (fun _ _ => False) s.xs [] μ1 fun ds μ2 => sett m Q (.n (.list ds)) μ2) X) := propext Iff.rfl
theorem Jd5 (u0' : EnvD) (μ : Mu) (Q : Bool → Mu → Prop) (u1' : QD) : wYes u0' μ Q u1' = (Q true μ) := propext Iff.rfl
theorem Jd4 (i : Nat) (e : EnvD) (μ : Mu) (Q : QD) (u0' : QD) : wV i e μ Q u0' = (match gt e i with
  | some d => Q d μ
  | Option.none => False) := propext Iff.rfl
theorem Jc9 (d : D) (u0' : EnvD) (μ : Mu) (Q : QD) (u1' : QD) : wK d u0' μ Q u1' = (Q d μ) := propext Iff.rfl
theorem Jcl (m : Bool) (o : WOp) (a b : WE) (e : EnvD) (μ : Mu) (Q : QD) (X : QD) : wOp m o a b e μ Q X = (a e μ (fun x μ1 => b e μ1 (fun y μ2 => o x y μ2 (sett m Q) X) X) X) := propext Iff.rfl
theorem Jd3 (m : Bool) (o : WU) (a : WE) (e : EnvD) (μ : Mu) (Q : QD) (X : QD) : wUn m o a e μ Q X = (a e μ (fun x μ1 => o x μ1 (sett m Q) X) X) := propext Iff.rfl
theorem Jd2 (a : WA) (e : EnvD) (μ : Mu) (Q : QD) (X : QD) : wTup a e μ Q X = (a e μ (fun xs μ1 => xs.length ≤ sizeLine ∧ Q (.tup xs) μ1) X) := propext Iff.rfl
theorem Jcf (m : Bool) (a : WA) (e : EnvD) (μ : Mu) (Q : QD) (X : QD) : wLst m a e μ Q X = (a e μ (fun xs μ1 => xs.length ≤ sizeLine ∧ sett m Q (.n (.list xs)) μ1) X) := propext Iff.rfl
theorem Jbr (m : Bool) (o : WC) (a : WA) (e : EnvD) (μ : Mu) (Q : QD) (X : QD) : wCb m o a e μ Q X = (a e μ (fun xs μ1 => o xs μ1 (sett m Q) X) X) := propext Iff.rfl
theorem Jd1 (a : WE) (e : EnvD) (μ : Mu) (Q : Bool → Mu → Prop) (X : QD) : wTst a e μ Q X = (a e μ (fun x μ1 => match x with
  | .bool b => Q b μ1
  | _ => False) X) := propext Iff.rfl
theorem Jck (t : WT) (e : EnvD) (μ : Mu) (Q : Bool → Mu → Prop) (X : QD) : wNotT t e μ Q X = (t e μ (fun b μ1 => Q (!b) μ1) X) := propext Iff.rfl
theorem Jbj (t u : WT) (e : EnvD) (μ : Mu) (Q : Bool → Mu → Prop) (X : QD) : wAndT t u e μ Q X = (t e μ (fun b μ1 => if b = true then u e μ1 Q X else Q false μ1) X) := propext Iff.rfl
theorem Jcn (t u : WT) (e : EnvD) (μ : Mu) (Q : Bool → Mu → Prop) (X : QD) : wOrT t u e μ Q X = (t e μ (fun b μ1 => if b = true then Q true μ1 else u e μ1 Q X) X) := propext Iff.rfl
theorem Jc7 (t : WT) (a b : WE) (e : EnvD) (μ : Mu) (Q : QD) (X : QD) : wIf t a b e μ Q X = (t e μ (fun k μ1 => if k = true then a e μ1 Q X else b e μ1 Q X) X) := propext Iff.rfl
theorem Jbi (a b : WE) (e : EnvD) (μ : Mu) (Q : QD) (X : QD) : wAnd a b e μ Q X = (a e μ (fun x μ1 => match x with
  | .bool k => if k = true then b e μ1 Q X else Q (.bool false) μ1
  | _ => False) X) := propext Iff.rfl
theorem Jcm (a b : WE) (e : EnvD) (μ : Mu) (Q : QD) (X : QD) : wOr a b e μ Q X = (a e μ (fun x μ1 => match x with
  | .bool k => if k = true then Q (.bool true) μ1 else b e μ1 Q X
  | _ => False) X) := propext Iff.rfl
theorem Jcj (a : WE) (e : EnvD) (μ : Mu) (Q : QD) (X : QD) : wNot a e μ Q X = (a e μ (fun x μ1 => match x with
  | .bool k => Q (.bool (!k)) μ1
  | _ => False) X) := propext Iff.rfl
theorem Jd7 (u0' : EnvD) (μ : Mu) (Q : List D → Mu → Prop) (u1' : QD) : waNil u0' μ Q u1' = (Q [] μ) := propext Iff.rfl
theorem Jd6 (a : WE) (r : WA) (e : EnvD) (μ : Mu) (Q : List D → Mu → Prop) (X : QD) : waCons a r e μ Q X = (a e μ (fun x μ1 => r e μ1 (fun xs μ2 => Q (x :: xs) μ2) X) X) := propext Iff.rfl
theorem Jd9 (a : WE) (r : WA) (e : EnvD) (μ : Mu) (Q : List D → Mu → Prop) (X : QD) : waStar a r e μ Q X = (a e μ (fun x μ1 => match sqD μ1 x with
  | some ds => r e μ1 (fun es μ2 => Q (ds ++ es) μ2) X
  | Option.none => False) X) := propext Iff.rfl
theorem Jbo (s : WP) (dd : List D) (a : WA) (e : EnvD) (μ : Mu) (Q : QD) (X : QD) : wCall s dd a e μ Q X = (a e μ (fun ds μ1 => s (ds ++ dd) μ1 Q X) X) := propext Iff.rfl
theorem Jch (n m : Str) (s : WP) (dd : List D) (r : WE) (a : WA) (e : EnvD) (μ : Mu) (Q : QD) (X : QD) : wMeth n m s dd r a e μ Q X = (r e μ (fun x μ1 => isOf n m μ1 x (a e μ1 (fun ds μ2 => s (x :: (ds ++ dd)) μ2 Q X) X)) X) := propext Iff.rfl
theorem Jcq (n f : Str) (s : WP) (r : WE) (e : EnvD) (μ : Mu) (Q : QD) (X : QD) : wProp n f s r e μ Q X = (r e μ (fun x μ1 => isOf n f μ1 x (s [x] μ1 Q fun _ _ => False)) X) := propext Iff.rfl
theorem Jc1 (n f : Str) (r : WE) (e : EnvD) (μ : Mu) (Q : QD) (X : QD) : wFld n f r e μ Q X = (r e μ (fun x μ1 => match asObj μ1 x with
  | some (k, fs, ds) => k = n ∧ (match fldD f fs ds with
    | some d => Q d μ1
    | Option.none => False)
  | Option.none => False) X) := propext Iff.rfl
theorem Jcx (n f : Str) (o v : WE) (e : EnvD) (μ : Mu) (E : WEnds) : wSetF n f o v e μ E = (v e μ (fun d μ1 => o e μ1 (fun x μ2 => match x with
  | .cell p => (match ndO (μ2 p) with
    | some (k, fs, ds) => k = n ∧ fs.length < 1000 ∧ E.nx e (up μ2 p (.obj k (putN f d fs ds).1 (putN f d fs ds).2))
    | Option.none => False)
  | _ => False) fun d μ1 => E.xp d e μ1) fun d μ1 => E.xp d e μ1) := propext Iff.rfl
theorem Jbp (n : Str) (s : WP) (r : WE) (a : WA) (e : EnvD) (μ : Mu) (Q : QD) (X : QD) : wCallI n s r a e μ Q X = (r e μ (fun x μ1 => clsOf μ1 x = some n ∧ a e μ1 (fun ds μ2 => clsOf μ2 x = some n ∧ s (x :: ds) μ2 Q X) X) X) := propext Iff.rfl
theorem Jct (m : Bool) (a : WE) (e : EnvD) (μ : Mu) (Q : QD) (X : QD) : wRev m a e μ Q X = (a e μ (fun x μ1 => match x with
  | .tup ds => Q (.tup ds.reverse) μ1
  | x => (match seqL μ1 x with
    | some ds => sett m Q (.n (.list ds.reverse)) μ1
    | Option.none => False)) X) := propext Iff.rfl
theorem Jcz (m : Bool) (o : D → Option Int → Option Int → Mu → QR → QD → Prop) (a : WE) (l h : WO) (e : EnvD) (μ : Mu) (Q : QD) (X : QD) : wSl m o a l h e μ Q X = (a e μ (fun x μ1 => l e μ1 (fun lo μ2 => h e μ2 (fun hi μ3 => o x lo hi μ3 (sett m Q) X) X) X) X) := propext Iff.rfl
theorem Jdk (u0' : EnvD) (μ : Mu) (Q : Option Int → Mu → Prop) (u1' : QD) : woNone u0' μ Q u1' = (Q Option.none μ) := propext Iff.rfl
theorem Jdl (a : WE) (e : EnvD) (μ : Mu) (Q : Option Int → Mu → Prop) (X : QD) : woSome a e μ Q X = (a e μ (fun x μ1 => match x with
  | .int i => Q (some i) μ1
  | _ => False) X) := propext Iff.rfl
theorem Jcd (m : Bool) (o : WM) (r : WE) (a : WA) (e : EnvD) (μ : Mu) (Q : QD) (X : QD) : wLm m o r a e μ Q X = (r e μ (fun x μ1 => isL μ1 x ∧ a e μ1 (fun xs μ2 => o x xs μ2 (sett m Q) X) X) X) := propext Iff.rfl
theorem Jcu (n : Str) (e : EnvD) (μ : Mu) (E : WEnds) : wRz n e μ E = (E.xp (.err n [] []) e μ) := propext Iff.rfl
theorem Jcv (n f : Str) (a : WE) (e : EnvD) (μ : Mu) (E : WEnds) : wRzA n f a e μ E = (a e μ (fun d μ1 => E.xp (.err n [f] [d]) e μ1) fun d μ1 => E.xp d e μ1) := propext Iff.rfl
theorem Jc6 (i : Nat) (w : WS) (e : EnvD) (μ : Mu) (E : WEnds) : wFz i w e μ E = (match gt e i with
  | some (.cell b) => (match μ b with
    | some nd => w (st e i (some nd.frz)) (del μ b) E
    | Option.none => False)
  | some _ => w e μ E
  | Option.none => False) := propext Iff.rfl
theorem Jbq (es : List Str) (w : WE) (e : EnvD) (μ : Mu) (Q : QD) (u0' : QD) : wCaught es w e μ Q u0' = (w e μ (fun _ μ1 => Q .none μ1) fun d μ1 => match d with
  | .err n _ _ => n ∈ es ∧ Q d μ1
  | _ => False) := propext Iff.rfl
theorem Jc0 (f : Str) (r : WE) (e : EnvD) (μ : Mu) (Q : QD) (X : QD) : wErrF f r e μ Q X = (r e μ (fun x μ1 => match x with
  | .err _ fs ds => (match fldD f fs ds with
    | some d => Q d μ1
    | Option.none => False)
  | _ => False) X) := propext Iff.rfl
theorem Jbw (m : Bool) (u0' : EnvD) (μ : Mu) (Q : QD) (u1' : QD) : wDict0 m u0' μ Q u1' = (sett m Q (.n (.dk [] [])) μ) := propext Iff.rfl
theorem Jce (m : Bool) (a : WA) (e : EnvD) (μ : Mu) (Q : QD) (X : QD) : wLrng m a e μ Q X = (a e μ (fun ds μ1 => one ds fun d => int1 d fun j => (0 ≤ j ∧ j ≤ 2 ^ 20) ∧ sett m Q (.n (.list (rangeD 0 j.toNat))) μ1) X) := propext Iff.rfl
theorem Jd8 (js : List Nat) (a : WA) (e : EnvD) (μ : Mu) (Q : List D → Mu → Prop) (X : QD) : waPerm js a e μ Q X = (a e μ (fun ds μ1 => ds.length = js.length ∧ Q (permD D.none js ds) μ1) X) := propext Iff.rfl
theorem Jbs (p q : Int → Int → Bool) (a b d : WE) (e : EnvD) (μ : Mu) (Q : QD) (X : QD) : wChain p q a b d e μ Q X = (a e μ (fun x μ1 => b e μ1 (fun y μ2 => int1 x fun i => int1 y fun j => if p i j = true then d e μ2 (fun z μ3 => int1 z fun k => Q (.bool (q j k)) μ3) X else Q (.bool false) μ2) X) X) := propext Iff.rfl
theorem Jbx (m : Bool) (a b : WE) (e : EnvD) (μ : Mu) (Q : QD) (X : QD) : wDisp1 m a b e μ Q X = (a e μ (fun x μ1 => b e μ1 (fun y μ2 => match keyD x with
  | some k => sett m Q (.n (.dk [k] [y])) μ2
  | Option.none => False) X) X) := propext Iff.rfl
theorem Jby (m : Bool) (ks : List Key) (b : WE) (e : EnvD) (μ : Mu) (Q : QD) (X : QD) : wDispT m ks b e μ Q X = (b e μ (fun y μ2 => sett m Q (.n (.dt [ks] [y])) μ2) X) := propext Iff.rfl
theorem Jbv (n N : Nat) (b : WS) (ds : List D) (μ : Mu) (Q : QD) (X : QD) : wDefD n N b ds μ Q X = (wDef n N b ds μ (fun d μ1 => ∃ μ2, subMu μ2 μ1 ∧ Q d μ2) X) := propext Iff.rfl
/-- what is wished behind an __init__ -/
def mkQ (m : Bool) (Q : QD) (p : Addr) : QD := fun r μ2 => r = .none ∧ (match μ2 p with
  | some nd => sett m Q (.n nd) (del μ2 p)
  | Option.none => False)
theorem Jcg (m : Bool) (n : Str) (s : WP) (dd : List D) (a : WA) (e : EnvD) (μ : Mu) (Q X : QD) : wMake m n s dd a e μ Q X = a e μ (fun ds μ1 => ∀ p, μ1 p = Option.none → s (.cell p :: (ds ++ dd)) (up μ1 p (.obj n [] [])) (mkQ m Q p) X) X := propext Iff.rfl
theorem Jbb (m : Bool) (Q : QD) (d : D) (μ : Mu) : sett m Q (.v d) μ = Q d μ := by cases m <;> exact propext Iff.rfl
theorem Jb9 (Q : QD) (nd : Nd) (μ : Mu) : sett false Q (.n nd) μ = Q nd.frz μ := propext Iff.rfl
theorem Jba (Q : QD) (nd : Nd) (μ : Mu) : sett true Q (.n nd) μ = (∀ p, μ p = Option.none → Q (.cell p) (up μ p nd)) := propext Iff.rfl
theorem Jbc (μ : Mu) (ds : List D) : sqD μ (.list ds) = some ds := rfl
theorem Jbe (μ : Mu) (ds : List D) : sqD μ (.tup ds) = some ds := rfl
theorem Jbd (μ : Mu) (ns : List Int) : sqD μ (.script ns) = some (iL ns) := rfl
theorem Jb8 (μ : Mu) (ds : List D) : seqL μ (.list ds) = some ds := rfl
theorem Ja2 (ds : List D) : (Nd.list ds).frz = .list ds := rfl
theorem Ja1 (ks : List Key) (ds : List D) : (Nd.dk ks ds).frz = .dk ks ds := rfl
theorem Ja4 (ks : List (List Key)) (ds : List D) : (Nd.dt ks ds).frz = .dt ks ds := rfl
theorem Ja3 (c : Str) (fs : List Str) (ds : List D) : (Nd.obj c fs ds).frz = .obj c fs ds := rfl
theorem Jb7 (x : D) (f : D → Prop) : one [x] f = f x := propext Iff.rfl
theorem Jbh (x y : D) (f : D → D → Prop) : two [x, y] f = f x y := propext Iff.rfl
theorem Ja5 (i : Int) (f : Int → Prop) : int1 (.int i) f = f i := propext Iff.rfl
section
variable (μ : Mu) (Q : QR) (X : QD)
theorem Jae (i j : Int) : oAdd (.int i) (.int j) μ Q X = Q (.v (.int (i + j))) μ := propext Iff.rfl
theorem Jag (a b : Str) : oAdd (.str a) (.str b) μ Q X = (a.length + b.length ≤ sizeLine ∧ Q (.v (.str (a ++ b))) μ) := propext Iff.rfl
theorem Jah (a b : List D) : oAdd (.tup a) (.tup b) μ Q X = (a.length + b.length ≤ sizeLine ∧ Q (.v (.tup (a ++ b))) μ) := propext Iff.rfl
theorem Jaf (a b : List D) : oAdd (.list a) (.list b) μ Q X = (a.length + b.length ≤ sizeLine ∧ Q (.n (.list (a ++ b))) μ) := propext Iff.rfl
theorem Jb6 (i j : Int) : oSub (.int i) (.int j) μ Q X = Q (.v (.int (i - j))) μ := propext ⟨fun h => h.2, fun h => ⟨trivial, h⟩⟩
theorem Jav (i j : Int) : oMul (.int i) (.int j) μ Q X = (CMulU i j ∧ Q (.v (.int (i * j))) μ) := propext Iff.rfl
theorem Jaw (a : List D) (k : Int) : oMul (.list a) (.int k) μ Q X = (-(2 ^ 63) ≤ k ∧ k < 2 ^ 63 ∧ a.length * k.toNat ≤ sizeLine ∧ Q (.n (.list (List.replicate k.toNat a).flatten)) μ) := propext Iff.rfl
theorem Jak (i j : Int) : oFdiv (.int i) (.int j) μ Q X = (CDivW i j ∧ Q (.v (.int (i / j))) μ) := propext Iff.rfl
theorem Jau (i j : Int) : oMod (.int i) (.int j) μ Q X = (0 < j ∧ Q (.v (.int (i % j))) μ) := propext Iff.rfl
theorem Jb3 (i j : Int) : oPow (.int i) (.int j) μ Q X = (CPowW i j ∧ Q (.v (.int (i ^ j.toNat))) μ) := propext Iff.rfl
theorem Jat (i j : Int) : oLt (.int i) (.int j) μ Q X = Q (.v (.bool (decide (i < j)))) μ := propext ⟨fun h => h.2, fun h => ⟨trivial, h⟩⟩
theorem Jas (i j : Int) : oLe (.int i) (.int j) μ Q X = Q (.v (.bool (decide (i ≤ j)))) μ := propext ⟨fun h => h.2, fun h => ⟨trivial, h⟩⟩
theorem Jam (i j : Int) : oGt (.int i) (.int j) μ Q X = Q (.v (.bool (decide (j < i)))) μ := propext ⟨fun h => h.2, fun h => ⟨trivial, h⟩⟩
theorem Jal (i j : Int) : oGe (.int i) (.int j) μ Q X = Q (.v (.bool (decide (j ≤ i)))) μ := propext ⟨fun h => h.2, fun h => ⟨trivial, h⟩⟩
theorem Jb1 (i : Int) : oNeg (.int i) μ Q X = Q (.v (.int (-i))) μ := propext Iff.rfl
theorem Jai (i j : Int) : oEq (.int i) (.int j) μ Q X = Q (.v (.bool (decide (i = j)))) μ := propext Iff.rfl
theorem Jaj (i j : Str) : oEq (.str i) (.str j) μ Q X = Q (.v (.bool (decide (i = j)))) μ := propext Iff.rfl
theorem Jaz (i j : Int) : oNe (.int i) (.int j) μ Q X = Q (.v (.bool (!decide (i = j)))) μ := propext Iff.rfl
theorem Jb0 (i j : Str) : oNe (.str i) (.str j) μ Q X = Q (.v (.bool (!decide (i = j)))) μ := propext Iff.rfl
theorem Jap (x : D) : oIsN x .none μ Q X = Q (.v (.bool (isNone x))) μ := propext Iff.rfl
theorem Jb2 (x : D) : oNotN x .none μ Q X = Q (.v (.bool (!isNone x))) μ := propext Iff.rfl
theorem Jaq (ds : List D) (i : Int) : oIx (.list ds) (.int i) μ Q X = (match atI ds i with
  | some d => Q (.v d) μ
  | Option.none => False) := propext Iff.rfl
theorem Jar (ds : List D) (i : Int) : oIx (.tup ds) (.int i) μ Q X = (match atI ds i with
  | some d => Q (.v d) μ
  | Option.none => False) := propext Iff.rfl
theorem Jan (neg : Bool) (x : D) (ds : List D) : oIn neg x (.tup ds) μ Q X = (flatD x = true ∧ ds.all flatD = true ∧ Q (.v (.bool (if neg then !inF x ds else inF x ds))) μ) := propext Iff.rfl
theorem Jao (neg : Bool) (x : D) (ds : List D) : oIn neg x (.list ds) μ Q X = (flatD x = true ∧ ds.all flatD = true ∧ Q (.v (.bool (if neg then !inF x ds else inF x ds))) μ) := propext Iff.rfl
theorem Jb5 (ds : List D) (lo hi : Option Int) : oSl (.tup ds) lo hi μ Q X = Q (.v (.tup (cutD ds lo hi))) μ := propext Iff.rfl
theorem Jb4 (ds : List D) (lo hi : Option Int) : oSl (.list ds) lo hi μ Q X = Q (.n (.list (cutD ds lo hi))) μ := propext Iff.rfl
theorem Ja7 (ds : List D) : cbLen [.list ds] μ Q X = Q (.v (.int ds.length)) μ := propext Iff.rfl
theorem Ja8 (ds : List D) : cbLen [.tup ds] μ Q X = Q (.v (.int ds.length)) μ := propext Iff.rfl
theorem Jac (i j : Int) : cbMin2 [.int i, .int j] μ Q X = Q (.v (.int (if j < i then j else i))) μ := propext Iff.rfl
theorem Jab (i j : Int) : cbMax2 [.int i, .int j] μ Q X = Q (.v (.int (if j > i then j else i))) μ := propext Iff.rfl
theorem Ja0 (i : Int) : cbAbs [.int i] μ Q X = Q (.v (.int (if i < 0 then -i else i))) μ := propext Iff.rfl
theorem Ja9 (ds : List D) : cbList [.list ds] μ Q X = Q (.n (.list ds)) μ := propext Iff.rfl
theorem Jaa (ds : List D) : cbList [.tup ds] μ Q X = Q (.n (.list ds)) μ := propext Iff.rfl
theorem Jbf (ds : List D) : cbTup [.list ds] μ Q X = Q (.v (.tup ds)) μ := propext Iff.rfl
theorem Jbg (ds : List D) : cbTup [.tup ds] μ Q X = Q (.v (.tup ds)) μ := propext Iff.rfl
theorem Ja6 (a b : Bool) : oIsB (.bool a) (.bool b) μ Q X = Q (.v (.bool (decide (a = b)))) μ := propext Iff.rfl
theorem Jad (a b : Bool) : oNotB (.bool a) (.bool b) μ Q X = Q (.v (.bool (!decide (a = b)))) μ := propext Iff.rfl
end
end DL

set_option Elab.async false
set_option linter.all false
set_option maxRecDepth 100000
set_option maxHeartbeats 4000000
/-! A19: != of a list and [], of a tuple and (). -/
namespace GQ2
open PySem PySem.SeqAt
open AutoSeq1 (wpAny_loadPart')
open MeetsSeq MeetsSeq2 MeetsSeq3 SeqRoads2
section
variable {prog : Program} {w : World} {A : Around} {R : Result → Shared → Prop}
end
section
variable {prog : Program} {w : World} {A : Around} {E : Value → Shared → Prop} {s : Shared}
end
end GQ2
namespace DL
open PySem PyProof.Rows L2
/-- x != [], x != () -/
def oNe0 : WOp := fun x y μ Q _ => match x with
  | .tup ds => (match y with
    | .tup [] => Q (.v (.bool (!ds.isEmpty))) μ
    | _ => False)
  | x => (match seqL μ x, y with
    | some ds, .list [] => Q (.v (.bool (!ds.isEmpty))) μ
    | _, _ => False)
theorem Jax (ds : List D) (μ : Mu) (Q : QR) (X : QD) : oNe0 (.list ds) (.list []) μ Q X = Q (.v (.bool (!ds.isEmpty))) μ := propext Iff.rfl
theorem Jay (ds : List D) (μ : Mu) (Q : QR) (X : QD) : oNe0 (.tup ds) (.tup []) μ Q X = Q (.v (.bool (!ds.isEmpty))) μ := propext Iff.rfl
section
variable {X : Cx} {c : Ctx} {W : WX}
end
end DL

set_option Elab.async false
set_option linter.all false
set_option maxRecDepth 100000
/-! A20: zip of two tuples. -/
namespace DL
open PySem L2
section
variable {X : Cx} {c : Ctx} {W : WX} {k ka kb : Nat} {a b tg : Expr} {wa : WE} {pos p : Pos} {es : List Expr} {wr : WA} {m : Bool}
end
end DL

set_option Elab.async false
set_option linter.all false
set_option maxRecDepth 100000
/-! A21: repr of plain data with great numbers. -/
namespace PySem
open Sem (wp)
open Builtin Builtin.Str Builtin.Int
/-- no limit of figures was set -/
def DigOk (h : Heap) : Prop := ∀ M : Model, PySem.W.Looks M h (nsGet cStatics "sys.int_max_str_digits") none
theorem DigOk.keeps {h h' : Heap} (x : DigOk h) (k : ∀ b o, h.get? b = some o → h'.get? b = some o) : DigOk h' := fun M => (x M).keeps k
theorem digits_ok {M : Model} {A : Around} {E : Value → Shared → Prop} {s : Shared} {a : Int} {Q : Option Nat → Shared → Prop} (hn : DigOk s.heap) (ha : a.natAbs.log2 < 12900) (h : Q none s) : wpAny M A (Builtin.overDigitLimit? a) Q E s := by
  unfold Builtin.overDigitLimit?
  by_cases hs : a.natAbs.log2 < 1920
  · rw [if_pos hs]
    exact wpAny_pure h
  · rw [if_neg hs]
    unfold Builtin.intMaxStrDigits
    refine wpAny_bind (wpAny_bind (hn M A _ _ s (fun _ _ e => e) ?_))
    refine wpAny_pure ?_
    dsimp only
    rw [if_neg (by omega), if_pos (by simp; omega)]
    exact wpAny_pure h
theorem gives_int_reprB {a : Int} (t : Tok) (ha : a.natAbs.log2 < 12900) : GivesAt (fun s => DigOk s.heap) («int.__repr__» ⟨[.int a t], []⟩) (.str (toString a)) := by
  intro prog w A R s hP h
  unfold «int.__repr__»
  show wpAny _ _ (do let r ← overDigitLimit? a; _) _ _ s
  refine wpAny_bind (digits_ok hP ha ?_)
  exact wpAny_bind (wpAny_mkStr (wpAny_pure h.2) h.1)
section
variable {prog : Program} {w : World} {A : Around} {E : Value → Shared → Prop} {s : Shared}
theorem pyReprObj_intB {a : Int} {t : Tok} {Q : Value → Shared → Prop} (hn : DigOk s.heap) (ha : a.natAbs.log2 < 12900) (hx : (Str.ofString (toString a)).length ≤ sizeLine) (h : Q (.str (toString a) s.toks) { s with toks := s.toks + 1 }) : wpAny (model prog w) A (pyReprObj (.int a t)) Q E s := by
  have hv : [Value.int a t].any Value.onHeap = false := rfl
  unfold pyReprObj
  simp only [cRoomFor, hv, Bool.false_eq_true, if_false, pure_bind]
  refine wpAny_bind (wpAny_specialOf (name := Str.ofString "__repr__") (typeIs_int s a t) F.slot_int_repr.lookup ?_)
  refine wpAny_bind (m := callSpecialIfBound? (.int a t) (Str.ofString "__repr__")) (wpAny_callSpecialIfBound?_slot (name := Str.ofString "__repr__") (typeIs_int s a t) F.slot_int_repr (call_givesAt F.slot_int_repr (typeIs_int s a t) F.entry_int_repr (F.args_int_repr_1 _) (gives_int_reprB t ha) hn ⟨hx, ?_⟩))
  exact wpAny_bind (wpAny_isInstance (T := "str") (b := true) rfl isSubtype_str_str (wpAny_pure h))
end
section
variable {prog : Program} {w : World} {h₀ : Heap}
theorem ReprK.intB {a : Int} (t : Tok) (hn : DigOk h₀) (ha : a.natAbs.log2 < 12900) (hx : (Str.ofString (toString a)).length ≤ sizeLine) (as : List Addr) (d : Nat) : ReprK prog w as h₀ d (.int a t) (toString a) := fun n hnn A g E s Q _ _ _ hk h => by
  have hn' : n ≤ sizeLine := by omega
  rw [pyReprUnder_leaf (v := .int a t) hn' (fun _ e => nomatch e)]
  unfold pyRepr
  exact wpAny_bind (pyReprObj_intB (hn.keeps hk) ha hx (wpAny_pure (h s.heap _ fun _ _ e => e)))
end
namespace PyData
mutual
/-- numbers of up to about 3880 figures; no dicts -/
def big : PyData → Bool
  | .none | .bool _ | .str _ => true
  | .int i => decide (i.natAbs.log2 < 12900)
  | .list xs | .tuple xs => bigAll xs
  | .dict _ => false
def bigAll : List PyData → Bool
  | [] => true
  | x :: xs => big x && bigAll xs
end
end PyData
section
variable {prog : Program} {w : World} {h₀ : Heap}
mutual
theorem ReprK.of_readsB (dg : DigOk h₀) : ∀ {v : Value} {d : PyData} {as : List Addr}, Reads h₀ v d as → d.big = true → d.shown.length ≤ sizeLine → ∃ bs, ReadAtMost h₀ d.depth bs ∧ ReprK prog w bs h₀ d.depth v d.shown
  | _, _, _, .none, _, _ => ⟨[], (fun _ h => nomatch h), by simp only [PyData.shown]; exact .of_is ReprIs.none _ _ _⟩
  | _, _, _, .bool b, _, _ => ⟨[], (fun _ h => nomatch h), by simp only [PyData.shown]; exact .of_is (ReprIs.bool b) _ _ _⟩
  | _, _, _, .int i t, hs, hz => ⟨[], (fun _ h => nomatch h), by simp only [PyData.shown] at hz ⊢; exact ReprK.intB t dg (by simpa [PyData.big] using hs) hz _ _⟩
  | _, _, _, .str x t, _, hz => ⟨[], (fun _ h => nomatch h), by simp only [PyData.shown]; exact .of_is (ReprIs.str x t (by simpa only [PyData.shown] using hz)) _ _ _⟩
  | _, _, _, .list (a := a) (vs := vs) (xs := xs) h1 h2 h3 h4, hs, hz => by
    have hz' : (listText (PyData.shownAll xs)).length ≤ sizeLine := by simpa only [PyData.shown] using hz
    obtain ⟨bs, hb, hk⟩ := ReprAllK.of_readsAllB dg h4 (by simpa [PyData.big] using hs) (fun t ht => Nat.le_trans (listText_mem_le ht) hz')
    have r : Reads h₀ (.ref a) (.list xs) _ := .list h1 h2 h3 h4
    have hna : a ∉ bs := not_mem_of_deeper r (by simp only [PyData.depth]; omega) hb
    refine ⟨a :: bs, ReadAtMost.cons r (by simp only [PyData.depth]; omega) hb, ?_⟩
    simp only [PyData.depth, PyData.shown]
    obtain ⟨l⟩ := vs
    cases l with
    | nil =>
      have h4' : ReadsAll h₀ [] xs _ := h4
      cases h4'
      simp only [PyData.shownAll, listText_nil]
      exact ReprK.listEmpty h1 h2 h3
    | cons x l => exact ReprK.list h1 h2 h3 hna (by simpa using hk.length_eq) (fun i y e => hk.item i y (by simpa using e))
  | _, _, _, .tuple (a := a) (xs := xs) h1 h2 h3 h4, hs, hz => by
    have hz' : (tupleText (PyData.shownAll xs)).length ≤ sizeLine := by simpa only [PyData.shown] using hz
    obtain ⟨bs, hb, hk⟩ := ReprAllK.of_readsAllB dg h4 (by simpa [PyData.big] using hs) (fun t ht => Nat.le_trans (tupleText_mem_le ht) hz')
    have r : Reads h₀ (.ref a) (.tuple xs) _ := .tuple h1 h2 h3 h4
    have hna : a ∉ bs := not_mem_of_deeper r (by simp only [PyData.depth]; omega) hb
    refine ⟨a :: bs, ReadAtMost.cons r (by simp only [PyData.depth]; omega) hb, ?_⟩
    simp only [PyData.depth, PyData.shown]
    exact ReprK.tuple h1 h2 h3 hna hk
  | _, _, _, .dict h1 h2 h3 h4 h5, hs, _ => by simp [PyData.big] at hs
theorem ReprAllK.of_readsAllB (dg : DigOk h₀) : ∀ {vs : List Value} {ds : List PyData} {as : List Addr}, ReadsAll h₀ vs ds as → PyData.bigAll ds = true → (∀ t ∈ PyData.shownAll ds, t.length ≤ sizeLine) →
    ∃ bs, ReadAtMost h₀ (PyData.depthAll ds) bs ∧ ReprAllK prog w bs h₀ (PyData.depthAll ds) vs (PyData.shownAll ds)
  | _, _, _, .nil, _, _ => ⟨[], (fun _ h => nomatch h), by simp only [PyData.shownAll]; exact .nil⟩
  | _, _, _, .cons (d := d) (ds := ds) r rs, hs, hz => by
    have hs' : d.big = true ∧ PyData.bigAll ds = true := by simpa [PyData.bigAll] using hs
    obtain ⟨b1, hb1, k1⟩ := ReprK.of_readsB dg r hs'.1 (hz _ (by simp only [PyData.shownAll]; exact List.mem_cons_self ..))
    obtain ⟨b2, hb2, k2⟩ := ReprAllK.of_readsAllB dg rs hs'.2 (fun t ht => hz t (by simp only [PyData.shownAll]; exact List.mem_cons_of_mem _ ht))
    refine ⟨b1 ++ b2, ?_, ?_⟩
    · intro b hm
      simp only [PyData.depthAll]
      rcases List.mem_append.mp hm with hm | hm
      · obtain ⟨d', as', r', hd'⟩ := hb1 b hm
        exact ⟨d', as', r', Nat.le_trans hd' (Nat.le_max_left _ _)⟩
      · obtain ⟨d', as', r', hd'⟩ := hb2 b hm
        exact ⟨d', as', r', Nat.le_trans hd' (Nat.le_max_right _ _)⟩
    · simp only [PyData.depthAll, PyData.shownAll]
      exact .cons ((k1.more fun b hb => List.mem_append_left _ hb).level_le (Nat.le_max_left _ _)) (k2.more_le (fun b hb => List.mem_append_right _ hb) (Nat.le_max_right _ _))
end
variable {a : Addr} {d : PyData} {as : List Addr}
variable {A : Around} {E : Value → Shared → Prop} {s : Shared} {Q : Value → Shared → Prop}
end
end PySem
namespace DL
open PySem L2
structure ShB (L k : Nat) (p : PyData) : Prop where
  len : p.shown.length ≤ L
  dep : p.depth ≤ k
  can : p.big = true
section
variable {X : Cx} {c : Ctx} {W : WX}
end
end DL

set_option Elab.async false
set_option linter.all false
set_option maxRecDepth 100000
set_option maxHeartbeats 4000000
/-! A22: tuple * int, whatever the int. -/
namespace L2
open PySem PySem.Spec PyProof.Rows
section
variable {X : Cx}
end
end L2
namespace DL
open PySem L2
section
variable {X : Cx} {c : Ctx} {W : WX}
end
end DL

set_option Elab.async false
set_option linter.all false
set_option maxRecDepth 100000
set_option maxHeartbeats 4000000
/-! A23: o.f, p.g = x, y. -/
namespace L2
open PySem PySem.Spec PyProof.Rows
end L2
namespace DL
open PySem PyProof.Rows L2
section
variable {X : Cx} {c : Ctx} {W : WX} {k ka kb kc ko : Nat} {a b o o2 v : Expr} {wo wo2 wv : WE} {pos pos1 pos2 pos3 : Pos} {n n2 f f2 : Str}
end
end DL

set_option Elab.async false
set_option linter.all false
set_option maxRecDepth 100000
set_option maxHeartbeats 4000000
/-! A24: x in a list or a tuple of plain data. -/
namespace L2
open PySem PySem.Spec PyProof.Rows
section
variable {X : Cx}
end
end L2
namespace DL
open PySem PyProof.Rows L2
section
variable {X : Cx} {c : Ctx} {W : WX}
end
end DL

set_option Elab.async false
set_option linter.all false
set_option maxRecDepth 100000
set_option maxHeartbeats 4000000
/-! A25: dicts of texts that change: {k: v, k: v, k: v}, d[k], d[k] = v; x += y of an own class. -/
namespace L2
open PySem PySem.Spec PyProof.Rows PySem.W
end L2
namespace DL
open PySem PyProof.Rows L2
variable [Gds]
theorem units1 {a b : Nat} (h : a + 64 < b) : a + 1 < b := by omega
/-- a dict of texts as a cell -/
def ndK : Option Nd → Option (List Key × List D)
  | some (.dk ks ds) => some (ks, ds)
  | _ => Option.none
theorem ndK_some {x : Option Nd} {ks : List Key} {ds : List D} (h : ndK x = some (ks, ds)) : x = some (.dk ks ds) := by
  unfold ndK at h
  split at h
  · cases h
    rfl
  · cases h
def getK (k : Key) : List Key → List D → Option D
  | j :: ks, d :: ds => if j = k then some d else getK k ks ds
  | _, _ => Option.none
theorem getK_rep {c : Ctx} {S : Option SA} {I : Hp} {k : Key} {d : D} : ∀ {ks : List Key} {ds : List D} {xs : List V}, Reps c S I ds xs → getK k ks ds = some d → ∃ x, valV (List.zip ks xs) k = some x ∧ Rep c S I d x
  | [], _, _, _, h => by simp [getK] at h
  | _ :: _, _, _, .nil, h => by simp [getK] at h
  | j :: ks, _, _, .cons (xs := xs) r rs, h => by
    rw [getK] at h
    by_cases e : j = k
    · rw [if_pos e] at h
      cases h
      exact ⟨_, valV_pos e, r⟩
    · rw [if_neg e] at h
      obtain ⟨x, h1, h2⟩ := getK_rep rs h
      exact ⟨x, by rw [← h1]; simp [valV, List.find?_cons, e], h2⟩
section
variable {X : Cx} {c : Ctx} {W : WX} {k ka kb kc ko kf : Nat} {a b d o v : Expr} {wa wb wd wo wv : WE} {m : Bool} {pos pos' p1 p2 p3 : Pos} {q1 q2 q3 : Nat} {key k1 k2 k3 : Str}
end
end DL

set_option Elab.async false
set_option linter.all false
set_option maxRecDepth 100000
set_option maxHeartbeats 4000000
/-! A26: what an expression gives is frozen: from then on it never changes. -/
namespace DL
open PySem PyProof.Rows L2
section
variable {X : Cx} {c : Ctx} {W : WX} {k : Nat} {a : Expr} {wa : WE}
end
end DL

set_option Elab.async false
set_option linter.all false
set_option maxRecDepth 100000
set_option maxHeartbeats 4000000
/-! A27: != of tuples and lists that hold instances with an own ==. -/
namespace GQ2
open PySem PySem.SeqAt
open AutoSeq1 (wpAny_loadPart')
open MeetsSeq MeetsSeq2 MeetsSeq3 SeqRoads2
section
variable {prog : Program} {w : World} {A : Around} {R : Result → Shared → Prop}
end
section
variable {prog : Program} {w : World} {A : Around} {E : Value → Shared → Prop} {s : Shared}
end
end GQ2
namespace DL
open PySem PyProof.Rows L2
variable [Gds]
section
variable {X : Cx} {c : Ctx} {W : WX} {k m : Nat} {n : Str} {fs : List Str} {P : List D → Bool} {S : Option SA} {F : Hp} {μ : Mu}
end
end DL

set_option Elab.async false
set_option linter.all false
set_option maxRecDepth 100000
set_option maxHeartbeats 4000000
/-! A28: C(*x). -/
namespace DL
open PySem PySem.Spec PyProof.Rows L2
variable [Gds]
section
variable {X : Cx} {c : Ctx} {W : WX} {k kf ka : Nat} {a : Expr} {wa : WE} {n x : Str} {f : Addr} {fd : FuncData} {ps : List Str} {s : WP} {p sp_ pos : Pos}
end
end DL

set_option Elab.async false
set_option linter.all false
set_option maxRecDepth 100000
set_option maxHeartbeats 4000000
/-! M0: the mathematics of rows of numbers. -/
namespace M
/-- the value at x, the power 0 first -/
def ev : List Int → Int → Int
  | [], _ => 0
  | n :: ns, x => n + x * ev ns x
/-- without the zeros at the end -/
def trim : List Int → List Int
  | [] => []
  | n :: ns => if trim ns = [] ∧ n = 0 then [] else n :: trim ns
theorem trim_append_zero : ∀ ns : List Int, trim (ns ++ [0]) = trim ns
  | [] => by simp [trim]
  | n :: ns => by rw [List.cons_append, trim, trim, trim_append_zero ns]
theorem trim_len : ∀ ns : List Int, (trim ns).length ≤ ns.length
  | [] => Nat.le_refl _
  | n :: ns => by
    rw [trim]
    have := trim_len ns
    by_cases h : trim ns = [] ∧ n = 0
    · rw [if_pos h]; simp
    · rw [if_neg h, List.length_cons, List.length_cons]; omega
theorem trim_self : ∀ ns : List Int, (∀ h : ns ≠ [], ns.getLast h ≠ 0) → trim ns = ns
  | [], _ => rfl
  | [n], h => by
    have := h (by simp)
    rw [trim, trim]
    simp at this
    simp [this]
  | n :: m :: ns, h => by
    have ih := trim_self (m :: ns) fun h2 => by simpa using h (by simp)
    rw [trim, ih]
    simp
theorem trim_last : ∀ (ns : List Int) (h : trim ns ≠ []), (trim ns).getLast h ≠ 0
  | [], h => absurd rfl h
  | n :: ns, h => by
    have e : trim (n :: ns) = if trim ns = [] ∧ n = 0 then [] else n :: trim ns := rfl
    by_cases hc : trim ns = [] ∧ n = 0
    · rw [if_pos hc] at e
      exact absurd e h
    · rw [if_neg hc] at e
      by_cases h2 : trim ns = []
      · have hn : n ≠ 0 := fun z => hc ⟨h2, z⟩
        simp only [e, h2, List.getLast_singleton]
        exact hn
      · have ih := trim_last ns h2
        simp only [e]
        rw [List.getLast_cons h2]
        exact ih
theorem trim_trim (ns : List Int) : trim (trim ns) = trim ns := trim_self _ (trim_last ns)
theorem trim_mem {x : Int} : ∀ {ns : List Int}, x ∈ trim ns → x ∈ ns
  | [], h => h
  | n :: ns, h => by
    rw [trim] at h
    by_cases hc : trim ns = [] ∧ n = 0
    · rw [if_pos hc] at h
      cases h
    · rw [if_neg hc] at h
      rcases List.mem_cons.mp h with e | e
      · rw [e]; exact List.mem_cons_self
      · exact List.mem_cons_of_mem _ (trim_mem e)
/-- ns and t times ms -/
def addS (t : Int) : List Int → List Int → List Int
  | ns, [] => ns
  | [], m :: ms => t * m :: addS t [] ms
  | n :: ns, m :: ms => (n + t * m) :: addS t ns ms
end M

set_option Elab.async false
set_option linter.all false
set_option maxRecDepth 100000
set_option maxHeartbeats 4000000
/-! M1: products and compositions of rows. -/
namespace M
def addAt (off : Nat) (k : Int) (F ms : List Int) : List Int := F.take off ++ addS k (F.drop off) ms
def prodFrom (F : List Int) (off : Nat) : List Int → List Int → List Int
  | [], _ => F
  | n :: ns, ms => prodFrom (addAt off n F ms) (off + 1) ns ms
/-- the product of two rows as the program makes it -/
def prod (ns ms : List Int) : List Int := prodFrom (List.replicate (ns.length + ms.length - 1) 0) 0 ns ms
/-- one rule behind another -/
def comp (ns ms : List Int) : List Int := ns.reverse.foldl (fun F n => addS 1 (prod F ms) [n]) []
end M

set_option Elab.async false
set_option linter.all false
set_option maxRecDepth 100000
set_option maxHeartbeats 4000000
/-! M2: rows by their values. -/
namespace M
def fact : Nat → Nat
  | 0 => 1
  | d + 1 => (d + 1) * fact d
/-- the bound of a value -/
def bd (g b : Nat) : Nat → Nat
  | 0 => 0
  | k + 1 => g + b * bd g b k
end M

set_option Elab.async false
set_option linter.all false
set_option maxRecDepth 100000
set_option maxHeartbeats 4000000
/-! M3: rows are what their values are; bounds of their numbers. -/
namespace M
/-! ### bounds -/
/-- numbers of so many bits -/
def Bt (b : Nat) (ns : List Int) : Prop := ∀ n ∈ ns, n.natAbs < 2 ^ b
theorem Bt.up {a b : Nat} {ns : List Int} (h : Bt a ns) (hb : a ≤ b) : Bt b ns := fun n hn => Nat.lt_of_lt_of_le (h n hn) (Nat.pow_le_pow_right (by decide) hb)
theorem Bt.trim {b : Nat} {ns : List Int} (h : Bt b ns) : Bt b (trim ns) := fun n hn => h n (trim_mem hn)
theorem Bt.nil {b : Nat} : Bt b [] := fun _ z => nomatch z
end M

set_option Elab.async false
set_option linter.all false
set_option maxRecDepth 100000
set_option maxHeartbeats 4000000
/-! P0: loops, by what stays. -/
namespace DL
open PySem L2
theorem for_inv {ok : Mu → Prop} {g : WG} {b : WS} {xs : List D} {e : EnvD} {μ : Mu} {E : WEnds} (P : Nat → EnvD → Mu → Prop) (h0 : P 0 e μ)
    (hs : ∀ i x e μ (N : EnvD → Mu → Prop), xs[i]? = some x → P i e μ → (∀ e' μ', P (i + 1) e' μ' → N e' μ') → ok μ ∧ g x e fun e1 => b e1 μ { nx := N, rt := E.rt, bk := E.nx, ct := N, xp := E.xp })
    (hd : ∀ e μ, P xs.length e μ → ok μ ∧ E.nx e μ) : goFor ok g b xs e μ E := by
  have key : ∀ (ys : List D) (i : Nat) (e : EnvD) (μ : Mu), xs.drop i = ys → i ≤ xs.length → P i e μ → goFor ok g b ys e μ E := by
    intro ys
    induction ys with
    | nil =>
      intro i e μ hy hi p
      have hl : xs.length ≤ i := List.drop_eq_nil_iff.mp hy
      have ei : i = xs.length := by omega
      subst ei
      exact hd e μ p
    | cons y ys ih =>
      intro i e μ hy hi p
      have hx : xs[i]? = some y := by
        have := List.getElem?_drop (xs := xs) (i := i) (j := 0)
        rw [hy] at this
        simpa using this.symm
      have hlt : i < xs.length := (List.getElem?_eq_some_iff.mp hx).1
      have hy2 : xs.drop (i + 1) = ys := by
        rw [← List.drop_drop, hy]
        rfl
      exact hs i y e μ (fun e2 μ2 => goFor ok g b ys e2 μ2 E) hx p fun e' μ' p' => ih (i + 1) e' μ' hy2 hlt p'
  exact key xs 0 e μ rfl (Nat.zero_le _) h0
theorem while_inv {t : WT} {b : WS} {E : WEnds} (P : Nat → EnvD → Mu → Prop)
    (hs : ∀ k e μ (N : EnvD → Mu → Prop), P k e μ → (∀ j e' μ', j < k → P j e' μ' → N e' μ') →
      t e μ (fun c μ1 => if c = true then b e μ1 { nx := N, rt := E.rt, bk := E.nx, ct := N, xp := E.xp } else E.nx e μ1) fun d μ1 => E.xp d e μ1) :
    ∀ (n k : Nat) (e : EnvD) (μ : Mu), k < n → P k e μ → goWhile t b n e μ E
  | 0, k, _, _, h, _ => absurd h (Nat.not_lt_zero k)
  | n + 1, k, e, μ, h, p => hs k e μ (fun e2 μ2 => goWhile t b n e2 μ2 E) p fun j e' μ' hj p' => while_inv P hs n j e' μ' (by omega) p'
theorem lc_inv {ok : Mu → Prop} {g : WG} {t : WT} {a : WE} {e : EnvD} {X : QD} {xs : List D} {μ : Mu} {Q : List D → Mu → Prop} (P : Nat → List D → Mu → Prop) (h0 : P 0 [] μ)
    (hs : ∀ i x acc μ (N : List D → Mu → Prop), xs[i]? = some x → P i acc μ → (∀ acc' μ', P (i + 1) acc' μ' → N acc' μ') → ok μ ∧ g x e fun e1 => t e1 μ (fun c μ1 => if c = true then a e1 μ1 (fun d μ2 => N (acc ++ [d]) μ2) X else N acc μ1) X)
    (hd : ∀ acc μ, P xs.length acc μ → ok μ ∧ Q acc μ) : goLc ok g t a e X xs [] μ Q := by
  have key : ∀ (ys : List D) (i : Nat) (acc : List D) (μ : Mu), xs.drop i = ys → i ≤ xs.length → P i acc μ → goLc ok g t a e X ys acc μ Q := by
    intro ys
    induction ys with
    | nil =>
      intro i acc μ hy hi p
      have hl : xs.length ≤ i := List.drop_eq_nil_iff.mp hy
      have ei : i = xs.length := by omega
      subst ei
      exact hd acc μ p
    | cons y ys ih =>
      intro i acc μ hy hi p
      have hx : xs[i]? = some y := by
        have := List.getElem?_drop (xs := xs) (i := i) (j := 0)
        rw [hy] at this
        simpa using this.symm
      have hlt : i < xs.length := (List.getElem?_eq_some_iff.mp hx).1
      have hy2 : xs.drop (i + 1) = ys := by
        rw [← List.drop_drop, hy]
        rfl
      exact hs i y acc μ (fun acc' μ2 => goLc ok g t a e X ys acc' μ2 Q) hx p fun acc' μ' p' => ih (i + 1) acc' μ' hy2 hlt p'
  exact key xs 0 [] μ rfl (Nat.zero_le _) h0
theorem atI0 {α : Type} (a : α) (l : List α) : atI (a :: l) 0 = some a := by
  unfold atI ixN
  rw [if_pos (by decide), if_pos (by show (0 : Int) < ((l.length + 1 : Nat) : Int); omega)]
  rfl
theorem atI1 {α : Type} (a b : α) (l : List α) : atI (a :: b :: l) 1 = some b := by
  unfold atI ixN
  rw [if_pos (by decide), if_pos (by show (1 : Int) < ((l.length + 1 + 1 : Nat) : Int); omega)]
  rfl
theorem atI2 {α : Type} (a b c : α) (l : List α) : atI (a :: b :: c :: l) 2 = some c := by
  unfold atI ixN
  rw [if_pos (by decide), if_pos (by show (2 : Int) < ((l.length + 1 + 1 + 1 : Nat) : Int); omega)]
  rfl
theorem atI3 {α : Type} (a b c d : α) (l : List α) : atI (a :: b :: c :: d :: l) 3 = some d := by
  unfold atI ixN
  rw [if_pos (by decide), if_pos (by show (3 : Int) < ((l.length + 1 + 1 + 1 + 1 : Nat) : Int); omega)]
  rfl
theorem atI4 {α : Type} (a b c d e : α) (l : List α) : atI (a :: b :: c :: d :: e :: l) 4 = some e := by
  unfold atI ixN
  rw [if_pos (by decide), if_pos (by show (4 : Int) < ((l.length + 1 + 1 + 1 + 1 + 1 : Nat) : Int); omega)]
  rfl
theorem ixN20 : ixN (0 + 1 + 1) 0 = some 0 := rfl
theorem ixN21 : ixN (0 + 1 + 1) 1 = some 1 := rfl
end DL

set_option Elab.async false
set_option linter.all false
set_option maxRecDepth 100000
set_option maxHeartbeats 4000000
/-! P1: what the defs of rules come to, plainly. -/
namespace DL
open PySem L2
def wp_is_list : WP := (wDef 1 1 (wRet (wCb false cbIsi (waCons (wV 0) (waCons (wTup (waCons (wK (.ty "list")) (waCons (wK (.ty "tuple")) waNil))) waNil)))))
def wp_is_number : WP := (wDef 1 1 (wRet (wAnd (wCb false cbIsi (waCons (wV 0) (waCons (wK (.ty "int")) waNil))) (wNot (wCb false cbIsi (waCons (wV 0) (waCons (wK (.ty "bool")) waNil)))))))
def wp_is_from : WP := (wDef 2 2 (wRet (wAnd (wCall wp_is_number [] (waCons (wV 0) waNil)) (wOp false oGe (wV 0) (wV 1)))))
def numD : D → Bool
  | .int _ => true
  | _ => false
def listD (μ : Mu) (d : D) : Bool := (match tyD μ d with
  | some (.b "list") => true
  | some (.b "tuple") => true
  | _ => false)
section
variable {μ : Mu} {Q X : QD} {d : D}
theorem ty_num {t : TyD} (h : tyD μ d = some t) : isi1 t (.ty "int") = some (numD d || (match d with | .bool _ => true | _ => false)) ∧ isi1 t (.ty "bool") = some (match d with | .bool _ => true | _ => false) := by
  cases d with
  | cell p =>
    simp only [tyD] at h
    cases e : μ p with
    | none => rw [e] at h; cases h
    | some nd =>
      rw [e] at h
      cases nd <;> (cases h; constructor <;> rfl)
  | obj n fs ds => cases h; exact ⟨rfl, rfl⟩
  | err n fs ds => cases h; exact ⟨rfl, rfl⟩
  | _ => first | (cases h; exact ⟨rfl, rfl⟩) | cases h
theorem ok_is_number {t : TyD} (h : tyD μ d = some t) (q : Q (.bool (numD d)) μ) : wp_is_number [d] μ Q X := by
  obtain ⟨h1, h2⟩ := ty_num h
  unfold wp_is_number
  simp only [wDef, initE, wSeq, wNext, wAsg, wAsgG, wDrop, wRet, wRetN, wIfS, wPar, wAug, wSetL, wBreak, wCont, wgN, wgNil, wgCons, wgTup, wiSeq, wiRng1, wiRng2, wiEnum, wFor, wLc, wYes, wV, wK, wOp, wUn, wTup, wLst, wCb, wTst, wNotT, wAndT, wOrT, wIf, wAnd, wOr, wNot, waNil, waCons, waStar, wCall, wMeth, wProp, wFld, wSetF, wMake, wCallI, wRev, wSl, woNone, woSome, wLm, wRz, wRzA, wFz, wCaught, wErrF, wDict0, wLrng, gt, st, sett, one, two, int1, atI0, atI1, atI2, atI3, atI4, ixN20, ixN21, List.map_cons, List.map_nil, List.cons_append, List.nil_append, List.append_nil, List.length_cons, List.length_nil, List.replicate_succ, List.replicate_zero, Nat.add_one_sub_one]
  refine ⟨trivial, ?_⟩
  simp only [cbIsi, two, h, isiD, h1, h2, sett]
  cases d <;> simp_all [numD]
theorem ok_is_list {t : TyD} (h : tyD μ d = some t) (q : Q (.bool (listD μ d)) μ) : wp_is_list [d] μ Q X := by
  unfold wp_is_list
  simp only [wDef, initE, wSeq, wNext, wAsg, wAsgG, wDrop, wRet, wRetN, wIfS, wPar, wAug, wSetL, wBreak, wCont, wgN, wgNil, wgCons, wgTup, wiSeq, wiRng1, wiRng2, wiEnum, wFor, wLc, wYes, wV, wK, wOp, wUn, wTup, wLst, wCb, wTst, wNotT, wAndT, wOrT, wIf, wAnd, wOr, wNot, waNil, waCons, waStar, wCall, wMeth, wProp, wFld, wSetF, wMake, wCallI, wRev, wSl, woNone, woSome, wLm, wRz, wRzA, wFz, wCaught, wErrF, wDict0, wLrng, gt, st, sett, one, two, int1, atI0, atI1, atI2, atI3, atI4, ixN20, ixN21, List.map_cons, List.map_nil, List.cons_append, List.nil_append, List.append_nil, List.length_cons, List.length_nil, List.replicate_succ, List.replicate_zero, Nat.add_one_sub_one]
  refine ⟨trivial, by decide, ?_⟩
  simp only [cbIsi, two, h, isiD, sett]
  have e : isiN t [.ty "list", .ty "tuple"] = some (listD μ d) := by
    unfold listD
    rw [h]
    cases d with
    | cell p =>
      simp only [tyD] at h
      cases e : μ p with
      | none => rw [e] at h; cases h
      | some nd =>
        rw [e] at h
        cases nd <;> (cases h; rfl)
    | obj n fs ds => cases h; rfl
    | err n fs ds => cases h; rfl
    | _ => first | (cases h; rfl) | cases h
  rw [e]
  exact q
def fromD (l : Int) : D → Bool
  | .int i => decide (l ≤ i)
  | _ => false
theorem ok_is_from {t : TyD} {l : Int} (h : tyD μ d = some t) (q : Q (.bool (fromD l d)) μ) : wp_is_from [d, .int l] μ Q X := by
  unfold wp_is_from
  simp only [wDef, initE, wSeq, wNext, wAsg, wAsgG, wDrop, wRet, wRetN, wIfS, wPar, wAug, wSetL, wBreak, wCont, wgN, wgNil, wgCons, wgTup, wiSeq, wiRng1, wiRng2, wiEnum, wFor, wLc, wYes, wV, wK, wOp, wUn, wTup, wLst, wCb, wTst, wNotT, wAndT, wOrT, wIf, wAnd, wOr, wNot, waNil, waCons, waStar, wCall, wMeth, wProp, wFld, wSetF, wMake, wCallI, wRev, wSl, woNone, woSome, wLm, wRz, wRzA, wFz, wCaught, wErrF, wDict0, wLrng, gt, st, sett, one, two, int1, atI0, atI1, atI2, atI3, atI4, ixN20, ixN21, List.map_cons, List.map_nil, List.cons_append, List.nil_append, List.append_nil, List.length_cons, List.length_nil, List.replicate_succ, List.replicate_zero, Nat.add_one_sub_one]
  refine ⟨trivial, ok_is_number h ?_⟩
  cases d <;> simp_all [numD, fromD, oGe, oInt2, sett]
/-! ### sequences, however they stand -/
section
variable {QQ : QR} {ds : List D}
theorem len_sq (h : sqD μ d = some ds) : cbLen [d] μ QQ X = QQ (.v (.int ds.length)) μ := by
  cases d <;> simp_all [cbLen, one, sqD]
theorem ix_sq {i : Int} {x : D} (h : sqD μ d = some ds) (hi : atI ds i = some x) : oIx d (.int i) μ QQ X = QQ (.v x) μ := by
  cases d <;> simp_all [oIx, sqD]
theorem list_sq (h : sqD μ d = some ds) : cbList [d] μ QQ X = QQ (.n (.list ds)) μ := by simp [cbList, one, h]
/-- a slice, made a tuple -/
theorem sl_tup {lo hi : Option Int} {Q : QD} (h : sqD μ d = some ds) (hs : ∀ ns, d ≠ .script ns) (q : Q (.tup (cutD ds lo hi)) μ) : oSl d lo hi μ (sett false fun x μ1 => cbTup [x] μ1 (sett false Q) X) X := by
  cases d <;> simp_all [oSl, sqD, seqL, sett, cbTup, one, Nd.frz]
theorem atI_nat {α : Type} (xs : List α) (i : Nat) (h : i < xs.length) : atI xs (i : Int) = some xs[i] := by
  have e : ixN xs.length (i : Int) = some i := by
    unfold ixN
    simp [h]
  unfold atI
  rw [e]
  simp [h]
end
/-! ### rows -/
def wp_without_end : WP := (wDef 1 2 (wSeq (wAsg 1 (wCb false cbLen (waCons (wV 0) waNil)))
    (wSeq (wWhile (wAndT (wTst (wOp false oGt (wV 1) (wK (.int 0)))) (wTst (wOp false oEq (wOp false oIx (wV 0) (wOp false oSub (wV 1) (wK (.int 1)))) (wK (.int 0))))) (wAug 1 (fun i j => i - j) (wK (.int 1))))
    (wRet (wCb false cbTup (waCons (wSl false oSl (wV 0) woNone (woSome (wV 1))) waNil))))))
theorem iL_get (ns : List Int) (i : Nat) : (iL ns)[i]? = (ns[i]?).map D.int := by
  unfold iL
  rw [List.getElem?_map]
theorem iL_len (ns : List Int) : (iL ns).length = ns.length := by
  unfold iL
  rw [List.length_map]
theorem trim_take {ns : List Int} {k : Nat} (hk : k < ns.length) (h : ns[k]? = some 0) : M.trim (ns.take (k + 1)) = M.trim (ns.take k) := by
  have e : ns.take (k + 1) = ns.take k ++ [0] := by
    rw [List.take_succ, h]
    rfl
  rw [e, M.trim_append_zero]
theorem ok_without_end {ns : List Int} (h : sqD μ d = some (iL ns)) (hs : ∀ ns, d ≠ .script ns) (hl : ns.length ≤ 2 ^ 20) (q : Q (.tup (iL (M.trim ns))) μ) : wp_without_end [d] μ Q X := by
  unfold wp_without_end
  simp only [wDef, initE, wSeq, wNext, wAsg, wAsgG, wDrop, wRet, wRetN, wIfS, wPar, wAug, wSetL, wBreak, wCont, wgN, wgNil, wgCons, wgTup, wiSeq, wiRng1, wiRng2, wiEnum, wFor, wLc, wYes, wV, wK, wOp, wUn, wTup, wLst, wCb, wTst, wNotT, wAndT, wOrT, wIf, wAnd, wOr, wNot, waNil, waCons, waStar, wCall, wMeth, wProp, wFld, wSetF, wMake, wCallI, wRev, wSl, woNone, woSome, wLm, wRz, wRzA, wFz, wCaught, wErrF, wDict0, wLrng, gt, st, sett, one, two, int1, atI0, atI1, atI2, atI3, atI4, ixN20, ixN21, List.map_cons, List.map_nil, List.cons_append, List.nil_append, List.append_nil, List.length_cons, List.length_nil, List.replicate_succ, List.replicate_zero, Nat.add_one_sub_one]
  refine ⟨trivial, ?_⟩
  simp only [len_sq h, sett, wWhile, iL_len]
  refine ⟨ns.length + 1, by omega, while_inv (fun k e μ' => e = [some d, some (.int (k : Int))] ∧ μ' = μ ∧ k ≤ ns.length ∧ M.trim (ns.take k) = M.trim ns) ?_ _ _ _ _ (Nat.lt_succ_self _) ⟨rfl, rfl, Nat.le_refl _, by rw [List.take_length]⟩⟩
  rintro k e μ' N ⟨rfl, rfl, hk, ht⟩ hN
  simp only [wDef, initE, wSeq, wNext, wAsg, wAsgG, wDrop, wRet, wRetN, wIfS, wPar, wAug, wSetL, wBreak, wCont, wgN, wgNil, wgCons, wgTup, wiSeq, wiRng1, wiRng2, wiEnum, wFor, wLc, wYes, wV, wK, wOp, wUn, wTup, wLst, wCb, wTst, wNotT, wAndT, wOrT, wIf, wAnd, wOr, wNot, waNil, waCons, waStar, wCall, wMeth, wProp, wFld, wSetF, wMake, wCallI, wRev, wSl, woNone, woSome, wLm, wRz, wRzA, wFz, wCaught, wErrF, wDict0, wLrng, gt, st, sett, one, two, int1, atI0, atI1, atI2, atI3, atI4, ixN20, ixN21, List.map_cons, List.map_nil, List.cons_append, List.nil_append, List.append_nil, List.length_cons, List.length_nil, List.replicate_succ, List.replicate_zero, Nat.add_one_sub_one, oGt, oInt2, true_and]
  by_cases h0 : k = 0
  · subst h0
    have e0 : M.trim ns = [] := by rw [← ht]; rfl
    rw [if_neg (by decide), if_neg (by decide)]
    refine sl_tup h hs ?_
    have e : cutD (iL ns) none (some ((0 : Nat) : Int)) = iL (M.trim ns) := by
      rw [e0]
      unfold cutD
      rw [HT.sIx_nat, HT.sIx_none]
      simp [iL]
    rw [e]
    exact q
  · have hk1 : (0 : Int) < (k : Int) := by omega
    rw [if_pos (decide_eq_true hk1)]
    simp only [oSub, oInt2, true_and, sett]
    have e1 : ((k : Int) - 1) = ((k - 1 : Nat) : Int) := by omega
    have hlt : k - 1 < (iL ns).length := by rw [iL_len]; omega
    have hlt2 : k - 1 < ns.length := by omega
    rw [e1, ix_sq h (atI_nat (iL ns) (k - 1) hlt)]
    have e2 : (iL ns)[k - 1] = D.int ns[k - 1] := by simp [iL]
    rw [e2]
    simp only [sett, oEq, eqU]
    by_cases hz : ns[k - 1] = 0
    · rw [if_pos (decide_eq_true hz)]
      refine hN (k - 1) _ _ (by omega) ⟨rfl, rfl, by omega, ?_⟩
      have h3 := trim_take hlt2 (by rw [List.getElem?_eq_getElem hlt2, hz])
      rw [show k - 1 + 1 = k by omega] at h3
      rw [← h3]
      exact ht
    · rw [if_neg (by simp [hz])]
      refine sl_tup h hs ?_
      have e : cutD (iL ns) none (some ((k : Nat) : Int)) = iL (M.trim ns) := by
        have et : M.trim (ns.take k) = ns.take k := M.trim_self _ fun hne => by
          rw [List.getLast_take]
          simp [hz, List.getElem?_eq_getElem hlt2]
        rw [← ht, et]
        unfold cutD
        rw [HT.sIx_nat, HT.sIx_none]
        simp [iL, List.map_take, Nat.min_eq_left hk]
      rw [e]
      exact q
/-! ### rules -/
def wp_Rule___init__ : WP := (wDef 2 4 (wSeq (wIfS (wNotT (wTst (wCall wp_is_list [] (waCons (wV 1) waNil)))) (wRzA "BadRule" "at" (wK .none)) wNext)
    (wSeq (wFor (wiEnum (waCons (wV 1) waNil)) (wgTup 2 (wgCons (wgN 2) (wgCons (wgN 3) wgNil))) (wIfS (wNotT (wTst (wCall wp_is_number [] (waCons (wV 3) waNil)))) (wRzA "BadRule" "at" (wV 2)) wNext))
    (wSetF "Rule" "own_numbers" (wV 0) (wCall wp_without_end [] (waCons (wV 1) waNil))))))
def wp_Rule___getitem__ : WP := (wDef 2 2 (wSeq (wIfS (wNotT (wTst (wCall wp_is_from [] (waCons (wV 1) (waCons (wK (.int 0)) waNil))))) (wRz "BadPower") wNext)
    (wRet (wIf (wTst (wOp false oLt (wV 1) (wCb false cbLen (waCons (wFld "Rule" "own_numbers" (wV 0)) waNil)))) (wOp false oIx (wFld "Rule" "own_numbers" (wV 0)) (wV 1)) (wK (.int 0))))))
def wp_Rule_coefficients : WP := (wDef 1 1 (wRet (wFld "Rule" "own_numbers" (wV 0))))
def wp_Rule_degree : WP := (wDef 1 1 (wRet (wOp false oSub (wCb false cbLen (waCons (wFld "Rule" "own_numbers" (wV 0)) waNil)) (wK (.int 1)))))
def ruleD (ns : List Int) : D := .obj "Rule" ["own_numbers"] [.tup (iL ns)]
theorem sq_up {p : Addr} {nd : Nd} {ds : List D} (h : sqD μ d = some ds) (hp : μ p = Option.none) : sqD (up μ p nd) d = some ds := by
  cases d with
  | cell a =>
    have ne : a ≠ p := fun z => by
      subst z
      simp [sqD, hp, ndL] at h
    simp only [sqD] at h ⊢
    rw [up_ne ne]
    exact h
  | _ => exact h
theorem ty_sq {ds : List D} (h : sqD μ d = some ds) (hs : ∀ ns, d ≠ .script ns) : ∃ t, tyD μ d = some t ∧ listD μ d = true := by
  cases d with
  | cell a =>
    simp only [sqD] at h
    have e := ndL_some h
    refine ⟨.b "list", ?_, ?_⟩ <;> simp [listD, tyD, ndTy, e]
  | tup ds => exact ⟨_, rfl, rfl⟩
  | list ds => exact ⟨_, rfl, rfl⟩
  | script ns => exact absurd rfl (hs ns)
  | _ => simp [sqD] at h
theorem okS_sq {ds : List D} (h : sqD μ d = some ds) : okS d ds μ := by
  cases d <;> first | trivial | exact h
theorem enum_iL {ns : List Int} {i : Nat} {x : D} (h : (enumD 0 (iL ns))[i]? = some x) : ∃ n, ns[i]? = some n ∧ x = .tup [.int (i : Int), .int n] := by
  rw [enumD_get, iL_get] at h
  cases e : ns[i]? with
  | none => rw [e] at h; cases h
  | some n =>
    rw [e] at h
    cases h
    exact ⟨n, rfl, by simp⟩
theorem ok_Rule_init {p : Addr} {ns : List Int} (h : sqD μ d = some (iL ns)) (hs : ∀ ns, d ≠ .script ns) (hp : μ p = Option.none) (hl : ns.length ≤ 2 ^ 20)
    (q : Q .none (up μ p (.obj "Rule" ["own_numbers"] [.tup (iL (M.trim ns))]))) : wp_Rule___init__ [.cell p, d] (up μ p (.obj "Rule" [] [])) Q X := by
  have h1 := sq_up (nd := .obj "Rule" [] []) h hp
  obtain ⟨t, h2, h3⟩ := ty_sq h1 hs
  unfold wp_Rule___init__
  simp only [wDef, initE, wSeq, wNext, wAsg, wAsgG, wDrop, wRet, wRetN, wIfS, wPar, wAug, wSetL, wBreak, wCont, wgN, wgNil, wgCons, wgTup, wiSeq, wiRng1, wiRng2, wiEnum, wFor, wLc, wYes, wV, wK, wOp, wUn, wTup, wLst, wCb, wTst, wNotT, wAndT, wOrT, wIf, wAnd, wOr, wNot, waNil, waCons, waStar, wCall, wMeth, wProp, wFld, wSetF, wMake, wCallI, wRev, wSl, woNone, woSome, wLm, wRz, wRzA, wFz, wCaught, wErrF, wDict0, wLrng, gt, st, sett, one, two, int1, atI0, atI1, atI2, atI3, atI4, ixN20, ixN21, List.map_cons, List.map_nil, List.cons_append, List.nil_append, List.append_nil, List.length_cons, List.length_nil, List.replicate_succ, List.replicate_zero, Nat.add_one_sub_one]
  refine ⟨trivial, ok_is_list h2 ?_⟩
  rw [h3]
  simp only [Bool.not_true, if_neg Bool.false_ne_true, h1]
  refine ⟨by rw [enumD_len, iL_len]; omega, for_inv (fun i e μ' => μ' = up μ p (.obj "Rule" [] []) ∧ ∃ a b, e = [some (.cell p), some d, a, b]) ⟨rfl, _, _, rfl⟩ ?_ ?_⟩
  · rintro i x e μ' N hx ⟨rfl, a, b, rfl⟩ hN
    obtain ⟨n, hn, rfl⟩ := enum_iL hx
    refine ⟨okS_sq h1, ?_⟩
    simp only [wDef, initE, wSeq, wNext, wAsg, wAsgG, wDrop, wRet, wRetN, wIfS, wPar, wAug, wSetL, wBreak, wCont, wgN, wgNil, wgCons, wgTup, wiSeq, wiRng1, wiRng2, wiEnum, wFor, wLc, wYes, wV, wK, wOp, wUn, wTup, wLst, wCb, wTst, wNotT, wAndT, wOrT, wIf, wAnd, wOr, wNot, waNil, waCons, waStar, wCall, wMeth, wProp, wFld, wSetF, wMake, wCallI, wRev, wSl, woNone, woSome, wLm, wRz, wRzA, wFz, wCaught, wErrF, wDict0, wLrng, gt, st, sett, one, two, int1, atI0, atI1, atI2, atI3, atI4, ixN20, ixN21, List.map_cons, List.map_nil, List.cons_append, List.nil_append, List.append_nil, List.length_cons, List.length_nil, List.replicate_succ, List.replicate_zero, Nat.add_one_sub_one]
    refine ⟨trivial, ok_is_number (t := .b "int") rfl ?_⟩
    exact hN _ _ ⟨rfl, _, _, rfl⟩
  · rintro e μ' ⟨rfl, a, b, rfl⟩
    refine ⟨okS_sq h1, ?_⟩
    simp only [wDef, initE, wSeq, wNext, wAsg, wAsgG, wDrop, wRet, wRetN, wIfS, wPar, wAug, wSetL, wBreak, wCont, wgN, wgNil, wgCons, wgTup, wiSeq, wiRng1, wiRng2, wiEnum, wFor, wLc, wYes, wV, wK, wOp, wUn, wTup, wLst, wCb, wTst, wNotT, wAndT, wOrT, wIf, wAnd, wOr, wNot, waNil, waCons, waStar, wCall, wMeth, wProp, wFld, wSetF, wMake, wCallI, wRev, wSl, woNone, woSome, wLm, wRz, wRzA, wFz, wCaught, wErrF, wDict0, wLrng, gt, st, sett, one, two, int1, atI0, atI1, atI2, atI3, atI4, ixN20, ixN21, List.map_cons, List.map_nil, List.cons_append, List.nil_append, List.append_nil, List.length_cons, List.length_nil, List.replicate_succ, List.replicate_zero, Nat.add_one_sub_one]
    refine ok_without_end h1 hs hl ?_
    simp only [up_same, ndO, putN, up_up]
    exact ⟨trivial, by decide, q⟩
/-- Rule(..) -/
theorem mk_Rule {Q X : QD} {ns : List Int} (h : sqD μ d = some (iL ns)) (hs : ∀ ns, d ≠ .script ns) (hl : ns.length ≤ 2 ^ 20) (q : Q (ruleD (M.trim ns)) μ) (p : Addr) (hp : μ p = Option.none) :
    wp_Rule___init__ [.cell p, d] (up μ p (.obj "Rule" [] [])) (fun r μ2 => r = .none ∧ (match μ2 p with
      | some nd => Q nd.frz (del μ2 p)
      | Option.none => False)) X := by
  refine ok_Rule_init h hs hp hl ⟨rfl, ?_⟩
  rw [up_same]
  show Q _ (del (up μ p _) p)
  rw [del_up hp]
  exact q
theorem ok_Rule_getitem {ns : List Int} {t : TyD} (h : tyD μ d = some t) (q : ∀ i : Nat, d = .int (i : Int) → Q (.int (ns.getD i 0)) μ) (x : fromD 0 d = false → X (.err "BadPower" [] []) μ) : wp_Rule___getitem__ [ruleD ns, d] μ Q X := by
  unfold wp_Rule___getitem__
  simp only [wDef, initE, wSeq, wNext, wAsg, wAsgG, wDrop, wRet, wRetN, wIfS, wPar, wAug, wSetL, wBreak, wCont, wgN, wgNil, wgCons, wgTup, wiSeq, wiRng1, wiRng2, wiEnum, wFor, wLc, wYes, wV, wK, wOp, wUn, wTup, wLst, wCb, wTst, wNotT, wAndT, wOrT, wIf, wAnd, wOr, wNot, waNil, waCons, waStar, wCall, wMeth, wProp, wFld, wSetF, wMake, wCallI, wRev, wSl, woNone, woSome, wLm, wRz, wRzA, wFz, wCaught, wErrF, wDict0, wLrng, gt, st, sett, one, two, int1, atI0, atI1, atI2, atI3, atI4, ixN20, ixN21, List.map_cons, List.map_nil, List.cons_append, List.nil_append, List.append_nil, List.length_cons, List.length_nil, List.replicate_succ, List.replicate_zero, Nat.add_one_sub_one]
  refine ⟨trivial, ok_is_from h ?_⟩
  cases hf : fromD 0 d with
  | false => exact x hf
  | true =>
    cases d <;> try (cases hf; done)
    rename_i i
    have hi : 0 ≤ i := of_decide_eq_true hf
    obtain ⟨j, rfl⟩ := Int.eq_ofNat_of_zero_le hi
    have q1 := q j rfl
    simp only [Bool.not_true, if_neg Bool.false_ne_true, ruleD, asObj, fldD, if_true, true_and, cbLen, one, sqD, sett, iL_len, oLt, oInt2]
    by_cases hj : (j : Int) < (ns.length : Int)
    · have hj2 : j < (iL ns).length := by rw [iL_len]; omega
      rw [if_pos (decide_eq_true hj), ix_sq (ds := iL ns) rfl (atI_nat _ j hj2)]
      have e : (iL ns)[j] = D.int (ns.getD j 0) := by
        have : j < ns.length := by omega
        simp [iL, List.getD, this]
      rw [e]
      exact q1
    · rw [if_neg (by simp; omega)]
      have e : ns.getD j 0 = 0 := by
        simp [List.getD]
        rw [List.getElem?_eq_none (by omega)]
        rfl
      rw [e] at q1
      exact q1
end
end DL

set_option Elab.async false
set_option linter.all false
set_option maxRecDepth 100000
set_option maxHeartbeats 4000000
/-! P2: rules at numbers, terms, equality. -/
namespace DL
open PySem L2
theorem mulU_of {i j : Int} {a b : Nat} (ha : i.natAbs < 2 ^ a) (hb : j.natAbs < 2 ^ b) (h : a + b ≤ 130000000) : CMulU i j :=
  .inl (mulx_ok ha hb (by omega))
section
variable {μ : Mu} {Q X : QD} {d : D}
theorem iL_snoc (ns : List Int) (n : Int) : iL ns ++ [D.int n] = iL (ns ++ [n]) := by
  unfold iL
  rw [List.map_append]
  rfl
theorem ok_Rule_coefficients {ns : List Int} (q : Q (.tup (iL ns)) μ) : wp_Rule_coefficients [ruleD ns] μ Q X := by
  unfold wp_Rule_coefficients
  simp only [wDef, initE, wSeq, wNext, wAsg, wAsgG, wDrop, wRet, wRetN, wIfS, wPar, wAug, wSetL, wBreak, wCont, wgN, wgNil, wgCons, wgTup, wiSeq, wiRng1, wiRng2, wiEnum, wFor, wLc, wYes, wV, wK, wOp, wUn, wTup, wLst, wCb, wTst, wNotT, wAndT, wOrT, wIf, wAnd, wOr, wNot, waNil, waCons, waStar, wCall, wMeth, wProp, wFld, wSetF, wMake, wCallI, wRev, wSl, woNone, woSome, wLm, wRz, wRzA, wFz, wCaught, wErrF, wDict0, wLrng, gt, st, sett, one, two, int1, atI0, atI1, atI2, atI3, atI4, ixN20, ixN21, List.map_cons, List.map_nil, List.cons_append, List.nil_append, List.append_nil, List.length_cons, List.length_nil, List.replicate_succ, List.replicate_zero, Nat.add_one_sub_one, ruleD, asObj, fldD, if_true, true_and]
  exact q
theorem ok_Rule_degree {ns : List Int} (q : Q (.int ((ns.length : Int) - 1)) μ) : wp_Rule_degree [ruleD ns] μ Q X := by
  unfold wp_Rule_degree
  simp only [wDef, initE, wSeq, wNext, wAsg, wAsgG, wDrop, wRet, wRetN, wIfS, wPar, wAug, wSetL, wBreak, wCont, wgN, wgNil, wgCons, wgTup, wiSeq, wiRng1, wiRng2, wiEnum, wFor, wLc, wYes, wV, wK, wOp, wUn, wTup, wLst, wCb, wTst, wNotT, wAndT, wOrT, wIf, wAnd, wOr, wNot, waNil, waCons, waStar, wCall, wMeth, wProp, wFld, wSetF, wMake, wCallI, wRev, wSl, woNone, woSome, wLm, wRz, wRzA, wFz, wCaught, wErrF, wDict0, wLrng, gt, st, sett, one, two, int1, atI0, atI1, atI2, atI3, atI4, ixN20, ixN21, List.map_cons, List.map_nil, List.cons_append, List.nil_append, List.append_nil, List.length_cons, List.length_nil, List.replicate_succ, List.replicate_zero, Nat.add_one_sub_one, ruleD, asObj, fldD, if_true, true_and, cbLen, sqD, oSub, oInt2, iL_len]
  exact q
end
end DL

set_option Elab.async false
set_option linter.all false
set_option maxRecDepth 100000
set_option maxHeartbeats 4000000
/-! P3: the laws' own helpers: draws, rows. -/
namespace DL
open PySem L2
def wp_law_pick : WP := (wDef 2 2 (wRet (wOp false oIx (wV 1) (wCall wp_law_take [] (waCons (wV 0) (waCons (wCb false cbLen (waCons (wV 1) waNil)) waNil))))))
def wp_law_number : WP := (wDef 2 3 (wSeq (wAsg 2 (wCall wp_law_pick [] (waCons (wV 0) (waCons (wLst false (waCons (wK (.int 0)) (waCons (wK (.int 1)) (waCons (wK (.int 1)) (waCons (wK (.int 2)) (waCons (wK (.int 3)) (waCons (wCall wp_law_take [] (waCons (wV 0) (waCons (wOp false oAdd (wV 1) (wK (.int 1))) waNil))) waNil))))))) waNil))))
    (wRet (wCall wp_law_pick [] (waCons (wV 0) (waCons (wLst false (waCons (wCb false cbMin2 (waCons (wV 2) (waCons (wV 1) waNil))) (waCons (wOp false oSub (wK (.int 0)) (wCb false cbMin2 (waCons (wV 2) (waCons (wV 1) waNil)))) waNil))) waNil))))))
def wp_law_trimmed : WP := (wDef 1 2 (wSeq (wAsg 1 (wCb true cbList (waCons (wV 0) waNil)))
    (wSeq (wWhile (wAndT (wTst (wOp false oNe (wV 1) (wLst false waNil))) (wTst (wOp false oEq (wOp false oIx (wV 1) (wUn false oNeg (wK (.int 1)))) (wK (.int 0))))) (wDrop (wLm false mPop (wV 1) waNil)))
    (wFz 1 (wRet (wV 1))))))
def wp_law_rule : WP := (wDef 3 4 (wRet (wCall wp_law_trimmed [] (waCons (wLc false (wiRng1 (waCons (wCall wp_law_take [] (waCons (wV 0) (waCons (wOp false oAdd (wV 1) (wK (.int 2))) waNil))) waNil)) (wgN 3) wYes (wCall wp_law_number [] (waCons (wV 0) (waCons (wV 2) waNil))) [3]) waNil))))
section
variable {μ : Mu} {Q X : QD} {d : D}
theorem log_le {m : Int} (h : m.natAbs < 2 ^ 9000) : m.natAbs.log2 < 9000 := by
  by_cases h0 : m.natAbs = 0
  · rw [h0]
    decide
  · exact (Nat.log2_lt h0).mpr h
theorem ok_take {m : Int} (h0 : 0 < m) (h1 : m.natAbs < 2 ^ 9000) (q : ∀ i : Int, 0 ≤ i → i < m → Q (.int i) μ) : wp_law_take [.state, .int m] μ Q X := ⟨⟨h0, log_le h1⟩, q⟩
theorem ok_pick {ds : List D} (h : sqD μ d = some ds) (h0 : ds ≠ []) (h1 : ds.length ≤ 2 ^ 60) (q : ∀ x ∈ ds, Q x μ) : wp_law_pick [.state, d] μ Q X := by
  unfold wp_law_pick
  simp only [wDef, initE, wSeq, wNext, wAsg, wAsgG, wDrop, wRet, wRetN, wIfS, wPar, wAug, wSetL, wBreak, wCont, wgN, wgNil, wgCons, wgTup, wiSeq, wiRng1, wiRng2, wiEnum, wFor, wLc, wYes, wV, wK, wOp, wUn, wTup, wLst, wCb, wTst, wNotT, wAndT, wOrT, wIf, wAnd, wOr, wNot, waNil, waCons, waStar, wCall, wMeth, wProp, wFld, wSetF, wMake, wCallI, wRev, wSl, woNone, woSome, wLm, wRz, wRzA, wFz, wCaught, wErrF, wDict0, wLrng, gt, st, sett, one, two, int1, atI0, atI1, atI2, atI3, atI4, ixN20, ixN21, List.map_cons, List.map_nil, List.cons_append, List.nil_append, List.append_nil, List.length_cons, List.length_nil, List.replicate_succ, List.replicate_zero, Nat.add_one_sub_one, true_and, len_sq h]
  have hp : 0 < ds.length := List.length_pos_iff.mpr h0
  refine ok_take (by omega) ?_ fun i h2 h3 => ?_
  · rw [Int.natAbs_natCast]
    exact Nat.lt_of_le_of_lt h1 (Nat.pow_lt_pow_right (by decide) (by decide))
  · obtain ⟨j, rfl⟩ := Int.eq_ofNat_of_zero_le h2
    have hj : j < ds.length := by omega
    rw [ix_sq h (atI_nat ds j hj)]
    exact q _ (List.getElem_mem hj)
theorem ok_number {g : Int} (h0 : 0 ≤ g) (h1 : g < 2 ^ 62) (q : ∀ i : Int, i.natAbs ≤ g.natAbs → Q (.int i) μ) : wp_law_number [.state, .int g] μ Q X := by
  unfold wp_law_number
  simp only [wDef, initE, wSeq, wNext, wAsg, wAsgG, wDrop, wRet, wRetN, wIfS, wPar, wAug, wSetL, wBreak, wCont, wgN, wgNil, wgCons, wgTup, wiSeq, wiRng1, wiRng2, wiEnum, wFor, wLc, wYes, wV, wK, wOp, wUn, wTup, wLst, wCb, wTst, wNotT, wAndT, wOrT, wIf, wAnd, wOr, wNot, waNil, waCons, waStar, wCall, wMeth, wProp, wFld, wSetF, wMake, wCallI, wRev, wSl, woNone, woSome, wLm, wRz, wRzA, wFz, wCaught, wErrF, wDict0, wLrng, gt, st, sett, one, two, int1, atI0, atI1, atI2, atI3, atI4, ixN20, ixN21, List.map_cons, List.map_nil, List.cons_append, List.nil_append, List.append_nil, List.length_cons, List.length_nil, List.replicate_succ, List.replicate_zero, Nat.add_one_sub_one, true_and, oAdd]
  refine ok_take (by omega) (Nat.lt_of_lt_of_le (by omega : (g + 1).natAbs < 2 ^ 63) (Nat.pow_le_pow_right (by decide) (by decide))) fun i h2 h3 => ?_
  refine ⟨by decide, ok_pick rfl (fun z => by cases z) (by simp) fun x hx => ?_⟩
  have hx2 : ∃ s : Int, x = .int s ∧ 0 ≤ s := by
    simp only [Nd.frz, List.mem_cons, List.not_mem_nil, or_false] at hx
    rcases hx with rfl | rfl | rfl | rfl | rfl | rfl
    · exact ⟨0, rfl, by decide⟩
    · exact ⟨1, rfl, by decide⟩
    · exact ⟨1, rfl, by decide⟩
    · exact ⟨2, rfl, by decide⟩
    · exact ⟨3, rfl, by decide⟩
    · exact ⟨i, rfl, h2⟩
  obtain ⟨s, rfl, hs⟩ := hx2
  simp only [cbMin2, wDef, initE, wSeq, wNext, wAsg, wAsgG, wDrop, wRet, wRetN, wIfS, wPar, wAug, wSetL, wBreak, wCont, wgN, wgNil, wgCons, wgTup, wiSeq, wiRng1, wiRng2, wiEnum, wFor, wLc, wYes, wV, wK, wOp, wUn, wTup, wLst, wCb, wTst, wNotT, wAndT, wOrT, wIf, wAnd, wOr, wNot, waNil, waCons, waStar, wCall, wMeth, wProp, wFld, wSetF, wMake, wCallI, wRev, wSl, woNone, woSome, wLm, wRz, wRzA, wFz, wCaught, wErrF, wDict0, wLrng, gt, st, sett, one, two, int1, atI0, atI1, atI2, atI3, atI4, ixN20, ixN21, List.map_cons, List.map_nil, List.cons_append, List.nil_append, List.append_nil, List.length_cons, List.length_nil, List.replicate_succ, List.replicate_zero, Nat.add_one_sub_one, oSub, oInt2, true_and]
  refine ⟨by decide, ok_pick rfl (fun z => by cases z) (by simp) fun x hx => ?_⟩
  simp only [Nd.frz, List.mem_cons, List.not_mem_nil, or_false] at hx
  rcases hx with rfl | rfl
  · refine q _ ?_
    split <;> omega
  · refine q _ ?_
    split <;> omega
theorem eq_lists (ns ms : List Int) (Q : Bool → Prop) (q : Q (decide (ns = ms))) : eqG (.list (iL ns)) (.list (iL ms)) Q := by
  have e1 : ∀ l : List Int, plainD (.list (iL l)) = true := fun l => plains_ints l
  refine ⟨⟨e1 ns, e1 ms, shaped_ints ns, shaped_ints ms⟩, ?_⟩
  have e : PyData.eqv (pd (.list (iL ns))) (pd (.list (iL ms))) = decide (ns = ms) := by
    show PyData.eqv (.list (pds (iL ns))) (.list (pds (iL ms))) = _
    unfold iL
    rw [pds_ints, pds_ints, PyData.eqv, eqvAll_ints]
  rw [e]
  exact q
theorem ok_trimmed {ns : List Int} (h : sqD μ d = some (iL ns)) (hl : ns.length ≤ 2 ^ 20) (q : Q (.list (iL (M.trim ns))) μ) : wp_law_trimmed [d] μ Q X := by
  unfold wp_law_trimmed
  simp only [wDef, initE, wSeq, wNext, wAsg, wAsgG, wDrop, wRet, wRetN, wIfS, wPar, wAug, wSetL, wBreak, wCont, wgN, wgNil, wgCons, wgTup, wiSeq, wiRng1, wiRng2, wiEnum, wFor, wLc, wYes, wV, wK, wOp, wUn, wTup, wLst, wCb, wTst, wNotT, wAndT, wOrT, wIf, wAnd, wOr, wNot, waNil, waCons, waStar, wCall, wMeth, wProp, wFld, wSetF, wMake, wCallI, wRev, wSl, woNone, woSome, wLm, wRz, wRzA, wFz, wCaught, wErrF, wDict0, wLrng, gt, st, sett, one, two, int1, atI0, atI1, atI2, atI3, atI4, ixN20, ixN21, List.map_cons, List.map_nil, List.cons_append, List.nil_append, List.append_nil, List.length_cons, List.length_nil, List.replicate_succ, List.replicate_zero, Nat.add_one_sub_one, true_and, list_sq h]
  intro p hp
  simp only [wWhile]
  refine ⟨ns.length + 1, by omega, while_inv (fun k e μ' => e = [some d, some (.cell p)] ∧ μ' = up μ p (.list (iL (ns.take k))) ∧ k ≤ ns.length ∧ M.trim (ns.take k) = M.trim ns) ?_ _ _ _ _ (Nat.lt_succ_self _) ⟨rfl, by rw [List.take_length], Nat.le_refl _, by rw [List.take_length]⟩⟩
  rintro k e μ' N ⟨rfl, rfl, hk, ht⟩ hN
  have eq1 : drf (up μ p (.list (iL (ns.take k)))) (.cell p) = .list (iL (ns.take k)) := by simp [drf, up_same, ndL]
  have sq1 : sqD (up μ p (.list (iL (ns.take k)))) (.cell p) = some (iL (ns.take k)) := by simp [sqD, up_same, ndL]
  have fin : M.trim (ns.take k) = ns.take k → Q (Nd.frz (.list (iL (ns.take k)))) (del (up μ p (.list (iL (ns.take k)))) p) := fun e => by
    rw [del_up hp, ← e, ht]
    exact q
  simp only [wDef, initE, wSeq, wNext, wAsg, wAsgG, wDrop, wRet, wRetN, wIfS, wPar, wAug, wSetL, wBreak, wCont, wgN, wgNil, wgCons, wgTup, wiSeq, wiRng1, wiRng2, wiEnum, wFor, wLc, wYes, wV, wK, wOp, wUn, wTup, wLst, wCb, wTst, wNotT, wAndT, wOrT, wIf, wAnd, wOr, wNot, waNil, waCons, waStar, wCall, wMeth, wProp, wFld, wSetF, wMake, wCallI, wRev, wSl, woNone, woSome, wLm, wRz, wRzA, wFz, wCaught, wErrF, wDict0, wLrng, gt, st, sett, one, two, int1, atI0, atI1, atI2, atI3, atI4, ixN20, ixN21, List.map_cons, List.map_nil, List.cons_append, List.nil_append, List.append_nil, List.length_cons, List.length_nil, List.replicate_succ, List.replicate_zero, Nat.add_one_sub_one, true_and, oNe, eqU, eq1]
  refine ⟨Nat.zero_le _, eq_lists (ns.take k) [] _ ?_⟩
  by_cases h0 : k = 0
  · subst h0
    simp only [List.take_zero, decide_true, Bool.not_true, if_neg Bool.false_ne_true, up_same]
    exact fin rfl
  · have hlt : k - 1 < ns.length := by omega
    have ne : ns.take k ≠ [] := fun z => by
      have := congrArg List.length z
      rw [List.length_take, List.length_nil] at this
      omega
    have hlen : (iL (ns.take k)).length = k := by rw [iL_len, List.length_take]; omega
    rw [if_pos (by simp [ne])]
    have e1 : atI (iL (ns.take k)) (-1) = some (.int ns[k - 1]) := by
      have e2 : ixN (iL (ns.take k)).length (-1) = some (k - 1) := by
        rw [hlen]
        unfold ixN
        rw [if_neg (by decide), if_pos (by omega)]
        congr 1
        omega
      unfold atI
      rw [e2]
      show (iL (ns.take k))[k - 1]? = _
      rw [iL_get, List.getElem?_take, if_pos (by omega), List.getElem?_eq_getElem hlt]
      rfl
    simp only [oNeg, wDef, initE, wSeq, wNext, wAsg, wAsgG, wDrop, wRet, wRetN, wIfS, wPar, wAug, wSetL, wBreak, wCont, wgN, wgNil, wgCons, wgTup, wiSeq, wiRng1, wiRng2, wiEnum, wFor, wLc, wYes, wV, wK, wOp, wUn, wTup, wLst, wCb, wTst, wNotT, wAndT, wOrT, wIf, wAnd, wOr, wNot, waNil, waCons, waStar, wCall, wMeth, wProp, wFld, wSetF, wMake, wCallI, wRev, wSl, woNone, woSome, wLm, wRz, wRzA, wFz, wCaught, wErrF, wDict0, wLrng, gt, st, sett, one, two, int1, atI0, atI1, atI2, atI3, atI4, ixN20, ixN21, List.map_cons, List.map_nil, List.cons_append, List.nil_append, List.append_nil, List.length_cons, List.length_nil, List.replicate_succ, List.replicate_zero, Nat.add_one_sub_one, oEq, eqU]
    rw [show (-1 : Int) = -1 from rfl, ix_sq sq1 e1]
    simp only [sett, eqU]
    by_cases hz : ns[k - 1] = 0
    · rw [if_pos (decide_eq_true hz)]
      have el : (iL (ns.take k))[(iL (ns.take k)).length - 1]? = some (.int ns[k - 1]) := by
        rw [hlen, iL_get, List.getElem?_take, if_pos (by omega), List.getElem?_eq_getElem hlt]
        rfl
      have ed : (iL (ns.take k)).dropLast = iL (ns.take (k - 1)) := by
        rw [List.dropLast_eq_take, hlen]
        unfold iL
        rw [List.map_take, List.map_take, List.take_take]
        congr 1
        omega
      refine ⟨by simp [isL, seqL, up_same, ndL], rfl, ?_⟩
      simp only [lstC, up_same, ndL, el, ed, sett, up_up]
      refine hN (k - 1) _ _ (by omega) ⟨rfl, rfl, by omega, ?_⟩
      have h3 := trim_take hlt (by rw [List.getElem?_eq_getElem hlt, hz])
      rw [show k - 1 + 1 = k by omega] at h3
      rw [← h3]
      exact ht
    · rw [if_neg (by simp [hz])]
      simp only [up_same]
      refine fin (M.trim_self _ fun hne => ?_)
      rw [List.getLast_take]
      simp [hz, List.getElem?_eq_getElem hlt]
theorem ok_law_rule {m g : Int} (hm : 0 ≤ m) (hm2 : m ≤ 1000) (h0 : 0 ≤ g) (h1 : g < 2 ^ 62) (q : ∀ ns : List Int, M.trim ns = ns → (ns.length : Int) ≤ m + 1 → (∀ n ∈ ns, n.natAbs ≤ g.natAbs) → Q (.list (iL ns)) μ) : wp_law_rule [.state, .int m, .int g] μ Q X := by
  unfold wp_law_rule
  simp only [wDef, initE, wSeq, wNext, wAsg, wAsgG, wDrop, wRet, wRetN, wIfS, wPar, wAug, wSetL, wBreak, wCont, wgN, wgNil, wgCons, wgTup, wiSeq, wiRng1, wiRng2, wiEnum, wFor, wLc, wYes, wV, wK, wOp, wUn, wTup, wLst, wCb, wTst, wNotT, wAndT, wOrT, wIf, wAnd, wOr, wNot, waNil, waCons, waStar, wCall, wMeth, wProp, wFld, wSetF, wMake, wCallI, wRev, wSl, woNone, woSome, wLm, wRz, wRzA, wFz, wCaught, wErrF, wDict0, wLrng, gt, st, sett, one, two, int1, atI0, atI1, atI2, atI3, atI4, ixN20, ixN21, List.map_cons, List.map_nil, List.cons_append, List.nil_append, List.append_nil, List.length_cons, List.length_nil, List.replicate_succ, List.replicate_zero, Nat.add_one_sub_one, true_and, oAdd]
  refine ok_take (by omega) (Nat.lt_of_lt_of_le (by omega : (m + 2).natAbs < 2 ^ 63) (Nat.pow_le_pow_right (by decide) (by decide))) fun i h2 h3 => ?_
  refine ⟨⟨by omega, by omega⟩, ?_⟩
  have hl : (rangeD 0 i.toNat).length = i.toNat := rangeD_len _ _
  refine ⟨by rw [hl, sizeLine_eq]; omega, lc_inv (fun k acc μ' => μ' = μ ∧ ∃ ns : List Int, acc = iL ns ∧ ns.length = k ∧ ∀ n ∈ ns, n.natAbs ≤ g.natAbs) ⟨rfl, [], rfl, rfl, fun _ z => nomatch z⟩ ?_ ?_⟩
  · rintro k x acc μ' N hx ⟨rfl, ns, rfl, hk, hn⟩ hN
    refine ⟨trivial, ?_⟩
    show wp_law_number [.state, .int g] μ' (fun d μ2 => N (iL ns ++ [d]) μ2) (fun _ _ => False)
    refine ok_number h0 h1 fun j hj => ?_
    refine hN _ _ ⟨rfl, ns ++ [j], iL_snoc ns j, by rw [List.length_append, hk]; rfl, fun n hm => ?_⟩
    rcases List.mem_append.mp hm with z | z
    · exact hn n z
    · rw [List.mem_singleton.mp z]
      exact hj
  · rintro acc μ' ⟨rfl, ns, rfl, hk, hn⟩
    rw [hl] at hk
    refine ⟨trivial, ok_trimmed (ns := ns) rfl (by omega) (q _ (M.trim_trim ns) ?_ fun n hm => hn n (M.trim_mem hm))⟩
    have := M.trim_len ns
    omega
end
end DL

set_option Elab.async false
set_option linter.all false
set_option maxRecDepth 100000
set_option maxHeartbeats 4000000
/-! P4: what repr shows. -/
namespace DL
open PySem L2
theorem sh_int {L k : Nat} {i : Int} (hi : i.natAbs < 10 ^ 500) (h : 501 ≤ L) : Sh L k (.int i) := by
  have e := int_text_length_le10 (k := 500) (by decide) hi
  refine ⟨?_, Nat.zero_le _, ?_, rfl⟩
  · rw [PyData.shown_int, PySem.ofString_length]
    exact Nat.le_trans e h
  · rw [PyData.showable]
    refine decide_eq_true ?_
    by_cases h0 : i.natAbs = 0
    · rw [h0]; decide
    · exact (Nat.log2_lt h0).mpr (Nat.lt_trans hi (by decide +kernel))
theorem Sh.up {L k L' k' : Nat} {p : PyData} (h : Sh L k p) (h1 : L ≤ L') (h2 : k ≤ k') : Sh L' k' p := ⟨Nat.le_trans h.len h1, Nat.le_trans h.dep h2, h.can, h.nod⟩
section
variable {μ : Mu} {Q X : QD} {QQ : QR} {d : D}
/-- repr of data that stays -/
theorem ok_repr {L k : Nat} (hd : drf μ d = d) (hp : plainD d = true) (sh : Sh L k (pd d)) (hL : L ≤ 16000000) (hk : k ≤ 60) (q : QQ (.v (.str (pd d).shown)) μ) : cbRepr [d] μ QQ X := by
  show plainD (drf μ d) = true ∧ Sh sizeLine 60 (pd (drf μ d)) ∧ QQ (.v (.str (pd (drf μ d)).shown)) μ
  rw [hd]
  exact ⟨hp, sh.up (Nat.le_trans hL (by rw [sizeLine_eq]; decide)) hk, q⟩
end
end DL

set_option Elab.async false
set_option linter.all false
set_option maxRecDepth 100000
set_option maxHeartbeats 4000000
/-! A31: try, of which no exception is asked; names of whole numbers and texts. -/
namespace DL
open PySem PyProof.Rows L2
section
variable {X : Cx} {c : Ctx} {W : WX} {k : Nat} {x s : Str} {i : Int} {pos : Pos}
theorem g_glS (hg : Gl X x) (hm : ∃ t, X.mg x = some (.str s t)) (hd : (x == ("__debug__" : Str)) = false := by decide) : GE X c W 0 (.Name x pos) (wK (.str s)) := by
  obtain ⟨t, hm⟩ := hm
  exact g_con (pe_glob hg hm (v := .str s) ⟨t, rfl⟩ hd) fun _ _ => .str
theorem g_glI (hg : Gl X x) (hm : ∃ t, X.mg x = some (.int i t)) (hd : (x == ("__debug__" : Str)) = false := by decide) : GE X c W 0 (.Name x pos) (wK (.int i)) := by
  obtain ⟨t, hm⟩ := hm
  exact g_con (pe_glob hg hm (v := .int i) ⟨t, rfl⟩ hd) fun _ _ => .int
end
/-- hi, hi - 1, .. (n of them) -/
def downD (hi : Int) (n : Nat) : List D := (List.range n).map fun (i : Nat) => .int (hi + (i : Nat) * (-1))
def wiRng3 (a : WA) : WI := fun e μ Q X => a e μ (fun ds μ1 => match ds with
  | [.int hi, .int lo, .int z] => z = -1 ∧ inR hi ∧ inR lo ∧ Q ⟨downD hi (hi - lo).toNat, fun _ => True⟩ μ1
  | _ => False) X
theorem Jdh (a : WA) (e : EnvD) (μ : Mu) (Q : Src → Mu → Prop) (X : QD) : wiRng3 a e μ Q X = a e μ (fun ds μ1 => match ds with
  | [.int hi, .int lo, .int z] => z = -1 ∧ inR hi ∧ inR lo ∧ Q ⟨downD hi (hi - lo).toNat, fun _ => True⟩ μ1
  | _ => False) X := propext Iff.rfl
theorem downD_get (hi : Int) (n i : Nat) : (downD hi n)[i]? = if i < n then some (.int (hi + (i : Nat) * (-1))) else Option.none := by
  unfold downD
  rw [List.getElem?_map]
  by_cases h : i < n
  · rw [if_pos h, List.getElem?_range h]
    rfl
  · rw [if_neg h, List.getElem?_eq_none (by rw [List.length_range]; omega)]
    rfl
theorem downD_len (hi : Int) (n : Nat) : (downD hi n).length = n := by
  unfold downD
  rw [List.length_map, List.length_range]
section
variable {X : Cx} {c : Ctx} {W : WX} {k : Nat} {a b d tg : Expr} {wr : WA} {pos : Pos}
theorem itr_down {S : Option SA} {F0 I : Hp} {ok : Mu → Prop} (hi : Int) (n : Nat) : ItD c S F0 (Itc hi (-1) n) I ⟨downD hi n, ok⟩ := fun F i m I2 O2 H2 _ s2 w2 o => by
  show (∀ d, (downD hi n)[i]? = some d → _) ∧ ((downD hi n)[i]? = _ → _)
  rw [downD_get]
  by_cases h : i < n
  · rw [if_pos h]
    refine ⟨fun d hd => ⟨h, fun v H' ⟨e1, e2⟩ => ⟨I2, Same.refl I2, by rw [e1]; exact w2, ?_⟩⟩, fun hd => by cases hd⟩
    rw [← Option.some.inj hd, e2]
    exact .int
  · rw [if_neg h]
    refine ⟨fun d hd => (by cases hd), fun _ => ?_⟩
    show n ≤ i
    omega
theorem gi_rng3 {p : Pos} (hg : Gl X "range") (hm : X.mg "range" = none) (ha : GA X c W k [a, b, d] wr) (hs : starEach [a, b, d] X.env = (false, eval a X.env) :: starEach [b, d] X.env := by rfl) (hpl : (backTo pos (starEach [b, d] X.env)).any (·.1) = false := by rfl) : GI X c W k tg (.Call (.Name "range" p) [a, b, d] [] pos) (wiRng3 wr) := L2.PI.imp (pi_range3 hg hm ha hs hpl) fun σ H R h => by
  obtain ⟨S, F, n, I, μ, e, Qd, Xd, hl, he, hw, h, q, x⟩ := h
  refine ⟨S, F, n, I, μ, e, _, Xd, hl, he, hw, h, fun ds μ1 vs I1 H1 p s1 u1 r1 => ?_, x⟩
  dsimp only at p
  split at p
  · rename_i hi lo z
    obtain ⟨rfl, p1, p2, p3⟩ := p
    cases r1 with
    | cons r1 rr =>
    cases rr with
    | cons r2 rr =>
    cases rr with
    | cons r3 rr =>
    cases rr
    cases r1
    cases r2
    cases r3
    exact ⟨hi, lo, -1, _, rfl, RgC.neg p1.1 p1.2 p2.1 p2.2, q _ μ1 _ I1 H1 F (fun _ _ z => z) p3 s1 u1 (itr_down hi _)⟩
  · exact p.elim
end
end DL

set_option Elab.async false
set_option linter.all false
set_option maxRecDepth 100000
set_option maxHeartbeats 4000000
/-! A48: whole divisions by numbers of any size. -/
namespace DL
open PySem PySem.Spec PyProof.Rows L2 PySem.W
section
variable {X : Cx} {c : Ctx} {W : WX}
end
end DL

set_option Elab.async false
set_option linter.all false
set_option maxRecDepth 100000
set_option maxHeartbeats 4000000
/-! A49: any; names of tuples. -/
namespace DL
open PySem PyProof.Rows L2
variable [Gds]
section
variable {X : Cx} {c : Ctx} {W : WX}
end
/-! ### names of tuples -/
section
variable {X : Cx} {c : Ctx} {W : WX} {x : Str} {a : Addr} {ds : List D} {pos : Pos}
end
/-! ### != of tuples with own things, or None -/
section
variable {X : Cx} {c : Ctx} {W : WX} {k : Nat} {n : Str} {fs : List Str} {P : List D → Bool}
end
end DL

set_option Elab.async false
set_option linter.all false
set_option maxRecDepth 100000
set_option maxHeartbeats 4000000
/-! A57: texts: walked, a sign in a text, int(text), text * 0 or 1, f-strings, split, partition, join. -/
namespace DL
open PySem PySem.Builtin PyProof.Rows L2
/-- the signs of a text -/
def chD (z : Str) : List D := z.cps.toList.map fun ch => D.str ⟨#[ch]⟩
def wiStr (a : WE) : WI := fun e μ Q X => a e μ (fun d μ1 => match d with
  | .str z => Q ⟨chD z, fun _ => True⟩ μ1
  | _ => False) X
theorem Jdj (a : WE) (e : EnvD) (μ : Mu) (Q : Src → Mu → Prop) (X : QD) : wiStr a e μ Q X = (a e μ (fun d μ1 => match d with
  | .str z => Q ⟨chD z, fun _ => True⟩ μ1
  | _ => False) X) := propext Iff.rfl
section
variable {X : Cx} {c : Ctx} {W : WX} {k ka kb : Nat} {a b tg : Expr} {wa wb : WE} {m : Bool} {pos : Pos}
theorem its_d {S : Option SA} {F0 I : Hp} {ok : Mu → Prop} (z : Str) : ItD c S F0 (Its z) I ⟨chD z, ok⟩ := fun F i m I2 O2 H2 _ s2 w2 o => by
  show (∀ d, (chD z)[i]? = some d → _) ∧ ((chD z)[i]? = _ → _)
  unfold chD
  rw [List.getElem?_map]
  by_cases h : i < z.cps.size
  · have e : z.cps.toList[i]? = some z.cps[i] := by rw [List.getElem?_eq_getElem (by rwa [Array.length_toList])]; rfl
    rw [e]
    refine ⟨fun d hd => ⟨h, fun v H' ⟨e1, ch, e2, e3⟩ => ⟨I2, Same.refl I2, by rw [e1]; exact w2, ?_⟩⟩, fun hd => by cases hd⟩
    have e4 : z.cps[i]? = some z.cps[i] := Array.getElem?_eq_getElem h
    rw [e4] at e2
    cases e2
    cases hd
    rw [e3]
    exact .str
  · have e : z.cps.toList[i]? = none := List.getElem?_eq_none_iff.mpr (by rw [Array.length_toList]; omega)
    rw [e]
    refine ⟨fun d hd => (by cases hd), fun _ => ?_⟩
    show z.cps.size ≤ i
    omega
theorem gi_str (ha : GE X c W k a wa) : GI X c W k tg a (wiStr wa) := L2.PI.imp (pi_str ha) fun σ H R h => by
  obtain ⟨S, F, n, I, μ, e, Qd, Xd, hl, he, hw, h, q, x⟩ := h
  refine ⟨S, F, n, I, μ, e, _, Xd, hl, he, hw, h, fun d μ1 v I1 H1 p s1 u1 r1 => ?_, x⟩
  dsimp only at p
  split at p
  · cases r1
    exact ⟨_, rfl, q _ μ1 _ I1 H1 F (fun _ _ z => z) p s1 u1 (its_d _)⟩
  · exact p.elim
/-- a sign in a text -/
def oInS (neg : Bool) : WOp := fun x y μ Q _ => match x, y with
  | .str ⟨⟨[ch]⟩⟩, .str z => Q (.v (.bool (if neg = true then !decide (ch ∈ z.cps.toList) else decide (ch ∈ z.cps.toList)))) μ
  | _, _ => False
theorem w_inS : Op2 X c W 0 (compareOp .In) (oInS false) := op2_of op_inS fun σ x y H Q h => by
  obtain ⟨S, F, n, I, μ, dx, dy, Qd, Xd, hl, w, rx, ry, h, q, _⟩ := h
  unfold oInS at h
  split at h
  · rename_i ch z
    cases rx
    cases ry
    exact ⟨ch, z, rfl, rfl, q _ μ _ I H h (Same.refl I) w .bool⟩
  · exact h.elim
theorem w_notinS : Op2 X c W 0 (compareOp .NotIn) (oInS true) := op2_of op_notInS fun σ x y H Q h => by
  obtain ⟨S, F, n, I, μ, dx, dy, Qd, Xd, hl, w, rx, ry, h, q, _⟩ := h
  unfold oInS at h
  split at h
  · rename_i ch z
    cases rx
    cases ry
    exact ⟨ch, z, rfl, rfl, q _ μ _ I H h (Same.refl I) w .bool⟩
  · exact h.elim
/-- int(text) -/
def cbIntS : WC := fun xs μ Q _ => one xs fun x => match x with
  | .str a => (match PySem.intText? a with
    | some n => a.length ≤ 640 ∧ Q (.v (.int n)) μ
    | Option.none => False)
  | _ => False
theorem w_intS : CbW X c (.type "int") cbIntS := cbw_of call_int_str fun S F n I μ ds vs H Qd Xd Q w rs h q => by
  obtain ⟨x, rfl, g⟩ := one_cases h
  obtain ⟨v, rfl, rv⟩ := reps1 rs
  split at g
  · rename_i z
    cases rv
    split at g
    · rename_i i e
      exact ⟨z, i, rfl, e, g.1, q _ μ _ I H g.2 (Same.refl I) w .int⟩
    · exact g.elim
  · exact g.elim
/-- text * k, k 0 or 1 -/
def oMulS : WOp := fun x y μ Q _ => match x, y with
  | .str z, .int k => (k = 0 ∧ Q (.v (.str Str.empty)) μ) ∨ (k = 1 ∧ Q (.v (.str z)) μ)
  | _, _ => False
def rMulS : R2 := fun x y H Q => ∃ (z : Str) (k : Int), x = .str z ∧ y = .int k ∧ ((k = 0 ∧ Q (.str Str.empty) H) ∨ (k = 1 ∧ Q (.str z) H))
theorem op_mulS : OpR X (binaryOp .Mult) rMulS := by
  intro pins s σ H x y v u Q I rx ry h
  obtain ⟨z, k, rfl, rfl, h⟩ := h
  obtain ⟨t, rfl⟩ := rx
  obtain ⟨t2, rfl⟩ := ry
  rcases h with ⟨rfl, h⟩ | ⟨rfl, h⟩
  · refine PySem.SB.mul ⟨by decide, fun z => absurd (by decide) z, fun z => absurd (by decide) z⟩ fun t' k => ?_
    exact ⟨.str Str.empty, H, I.tok k, ⟨t', rfl⟩, h⟩
  · refine PySem.SB.mul ⟨by decide, fun _ e => absurd e (by simp), fun _ e => absurd e (by simp)⟩ fun t' k => ?_
    refine ⟨.str z, H, I.tok k, ⟨t', ?_⟩, h⟩
    rfl
theorem w_mulS : Op2 X c W 0 (binaryOp .Mult) oMulS := op2_of op_mulS fun σ x y H Q h => by
  obtain ⟨S, F, n, I, μ, dx, dy, Qd, Xd, hl, w, rx, ry, h, q, _⟩ := h
  unfold oMulS at h
  split at h
  · rename_i z k
    cases rx
    cases ry
    refine ⟨z, k, rfl, rfl, ?_⟩
    rcases h with ⟨e, h⟩ | ⟨e, h⟩
    · exact .inl ⟨e, q _ μ _ I H h (Same.refl I) w .str⟩
    · exact .inr ⟨e, q _ μ _ I H h (Same.refl I) w .str⟩
  · exact h.elim
/-! ### f-strings -/
/-- {x}: a text or a number -/
def wFmt (w : WE) : WE := fun e μ Q X => w e μ (fun x μ1 => match x with
  | .str y => y.length ≤ sizeLine ∧ Q (.str y) μ1
  | .int i => i.natAbs.log2 < 1920 ∧ Q (.str (toString i)) μ1
  | _ => False) X
theorem Jc2 (w : WE) (e : EnvD) (μ : Mu) (Q X : QD) : wFmt w e μ Q X = w e μ (fun x μ1 => match x with
  | .str y => y.length ≤ sizeLine ∧ Q (.str y) μ1
  | .int i => i.natAbs.log2 < 1920 ∧ Q (.str (toString i)) μ1
  | _ => False) X := propext Iff.rfl
theorem g_fmt (ha : GE X c W k a wa) : GE X c W k (.FormattedValue a (-1) none pos) (wFmt wa) := L2.PE.imp (pe_fmt ha) fun σ H Q h => by
  obtain ⟨S, F, n, I, μ, e, Qd, Xd, hl, he, hw, h, q, x⟩ := h
  refine ⟨S, F, n, I, μ, e, _, Xd, hl, he, hw, h, fun d μ1 v I1 H1 p s1 w1 r1 => ?_, x⟩
  dsimp only at p
  split at p
  · cases r1
    exact .inl ⟨_, rfl, p.1, q _ μ1 _ I1 H1 p.2 s1 w1 .str⟩
  · cases r1
    exact .inr ⟨_, rfl, p.1, q _ μ1 _ I1 H1 p.2 s1 w1 .str⟩
  · exact p.elim
def wJs : List WE → Str → WE
  | [], acc => fun _ μ Q _ => Q (.str acc) μ
  | w :: ws, acc => fun e μ Q X => w e μ (fun x μ1 => match x with
    | .str y => (acc ++ y).length ≤ sizeLine ∧ wJs ws (acc ++ y) e μ1 Q X
    | _ => False) X
/-- f'..' -/
def wFs (ws : List WE) : WE := wJs ws Str.empty
theorem Jc4 (w1 w2 : WE) (e : EnvD) (μ : Mu) (Q X : QD) : wFs [w1, w2] e μ Q X = w1 e μ (fun x μ1 => match x with
  | .str y => (Str.empty ++ y).length ≤ sizeLine ∧ w2 e μ1 (fun x2 μ2 => match x2 with
    | .str z => (Str.empty ++ y ++ z).length ≤ sizeLine ∧ Q (.str (Str.empty ++ y ++ z)) μ2
    | _ => False) X
  | _ => False) X := rfl
theorem Jc5 (w1 w2 w3 : WE) (e : EnvD) (μ : Mu) (Q X : QD) : wFs [w1, w2, w3] e μ Q X = w1 e μ (fun x μ1 => match x with
  | .str y => (Str.empty ++ y).length ≤ sizeLine ∧ w2 e μ1 (fun x2 μ2 => match x2 with
    | .str z => (Str.empty ++ y ++ z).length ≤ sizeLine ∧ w3 e μ2 (fun x3 μ3 => match x3 with
      | .str u => (Str.empty ++ y ++ z ++ u).length ≤ sizeLine ∧ Q (.str (Str.empty ++ y ++ z ++ u)) μ3
      | _ => False) X
    | _ => False) X
  | _ => False) X := rfl
inductive GJ (X : Cx) (c : Ctx) (W : WX) : Nat → List Expr → List WE → List TE → Prop where
  | nil : GJ X c W 0 [] [] []
  | cons {k ks : Nat} {e : Expr} {w : WE} {es : List Expr} {ws : List WE} {ts : List TE} (h : GE X c W k e w) (r : GJ X c W ks es ws ts) : GJ X c W (k + ks) (e :: es) (w :: ws) (ldE c W k w :: ts)
theorem GJ.pj {ks : Nat} {es : List Expr} {ws : List WE} {ts : List TE} (h : GJ X c W ks es ws ts) : PJ X es ts := by
  induction h with
  | nil => exact .nil
  | cons h r ih => exact .cons h ih
theorem GJ.ld {ks : Nat} {es : List Expr} {ws : List WE} {ts : List TE} (g : GJ X c W ks es ws ts) : ∀ {acc : Str} {σ : L2.St} {H : Hp} {Q : VK}, ldE c W ks (wJs ws acc) σ H Q → tJs ts acc σ H fun out H1 => Q (.str out) H1 := by
  induction g with
  | nil =>
    intro acc σ H Q h
    obtain ⟨S, F, n, I, μ, e, Qd, Xd, hl, he, hw, h, q, x⟩ := h
    exact q _ μ _ I H h (Same.refl I) hw .str
  | @cons k ks e w es ws ts he r ih =>
    intro acc σ H Q h
    obtain ⟨S, F, n, I, μ, e, Qd, Xd, hl, he, hw, h, q, x⟩ := h
    refine ⟨S, F, n, I, μ, e, _, Xd, by omega, he, hw, h, fun d μ1 v I1 H1 p s1 w1 r1 => ?_, x.mono (by omega) (Same.refl I)⟩
    dsimp only at p
    split at p
    · rename_i y
      cases r1
      refine ⟨y, rfl, p.1, ih ⟨S, F, n + k, I1, μ1, e, Qd, Xd, by omega, he.mono s1, w1, p.2, fun d μ2 v I2 H2 pb s2 w2 rb => q d μ2 v I2 H2 pb (s1.trans s2) (w2.up (by omega)) rb, x.mono (by omega) s1⟩⟩
    · exact p.elim
theorem g_fs {e1 e2 : Expr} {rest : List Expr} {ws : List WE} {ts : List TE} (h : GJ X c W k (e1 :: e2 :: rest) ws ts) : GE X c W k (.JoinedStr (e1 :: e2 :: rest) pos) (wFs ws) := L2.PE.imp (pe_joined h.pj) fun σ H Q z => h.ld z
/-! ### methods -/
def isS : D → Prop
  | .str _ => True
  | _ => False
def wSm (m : Bool) (o : WM) (r a : WE) : WE := fun e μ Q X => r e μ (fun x μ1 => isS x ∧ a e μ1 (fun y μ2 => o x [y] μ2 (sett m Q) X) X) X
theorem Jd0 (m : Bool) (o : WM) (r a : WE) (e : EnvD) (μ : Mu) (Q X : QD) : wSm m o r a e μ Q X = r e μ (fun x μ1 => isS x ∧ a e μ1 (fun y μ2 => o x [y] μ2 (sett m Q) X) X) X := propext Iff.rfl
def mSplit : WM := fun x xs μ Q _ => match x, xs with
  | .str a, [.str b] => (b.length == 0) = false ∧ a.length + 2 ≤ sizeLine ∧ Q (.n (.list ((Txt.split a b).map D.str))) μ
  | _, _ => False
theorem reps_strs {S : Option SA} {I : Hp} : ∀ ys : List Str, Reps c S I (ys.map D.str) (ys.map V.str)
  | [] => .nil
  | y :: ys => .cons .str (reps_strs ys)
theorem mw_split : MtW X c "str.split" mSplit := ⟨_, mt_split, fun S F n I μ d ds v vs H Qd Xd Q w rv rs h q => by
  unfold mSplit at h
  split at h
  · rename_i a b
    cases rv
    obtain ⟨u, rfl, ru⟩ := reps1 rs
    cases ru
    refine ⟨a, b, rfl, rfl, h.1, h.2.1, fun p hp => ?_⟩
    obtain ⟨w2, rr⟩ := RsR.new w hp (NdR.list (reps_strs (Txt.split a b)))
    exact q _ μ _ _ _ h.2.2 (Same.refl I) w2 rr
  · exact h.elim⟩
theorem g_sm {oo : WM} {id : String} {name : Str} {o : Expr} {wo : WE} {ko : Nat} {apos : Pos} (slot : Slot "str" name id) (hty : typeOf (.builtin id) = pure (.type "method_descriptor")) (hm : MtW X c id oo) (ho : GE X c W ko o wo) (ha : GE X c W ka a wa)
    (hb : ∀ r, MtR X id r → PE X (.Call (.Attribute o name apos) [a] [] pos) (tM1 r (ldE c W ko wo) (ldE c W ka wa))) : GE X c W (ko + ka) (.Call (.Attribute o name apos) [a] [] pos) (wSm m oo wo wa) := by
  obtain ⟨r, h1, hr⟩ := hm
  refine L2.PE.imp (hb r h1) fun σ H Q h => ?_
  obtain ⟨S, F, n, I, μ, e, Qd, Xd, hl, he, hw, h, q, x⟩ := h
  refine ⟨S, F, n, I, μ, e, _, Xd, by omega, he, hw, h, fun d μ1 v I1 H1 pa s1 w1 r1 => ?_, x.mono (by omega) (Same.refl I)⟩
  obtain ⟨is, pa⟩ := pa
  have ex : ∃ z, v = .str z := by
    cases d with
    | str z => cases r1; exact ⟨z, rfl⟩
    | _ => exact is.elim
  refine ⟨ex, S, F, n + ko, I1, μ1, e, _, Xd, by omega, he.mono s1, w1, pa, fun d2 μ2 v2 I2 H2 pb s2 w2 rb => ?_, x.mono (by omega) s1⟩
  exact hr S F _ I2 μ2 _ _ _ _ H2 _ _ Q w2 (r1.mono s2) (.cons rb .nil) pb (QV.sett (q.mono (by omega) (s1.trans s2)))
end
end DL

set_option Elab.async false
set_option linter.all false
set_option maxRecDepth 100000
set_option maxHeartbeats 4000000
/-! A50: {k: v, k: v} of two texts; d[e] of such a dict. -/
namespace DL
open PySem PyProof.Rows L2
section
variable {X : Cx} {c : Ctx} {W : WX} {ka kb ko : Nat} {a b o : Expr} {wa wb wo : WE} {m : Bool} {pos p1 p2 : Pos} {q1 q2 : Nat} {k1 k2 : Str}
end
end DL

set_option Elab.async false
set_option linter.all false
set_option maxRecDepth 100000
set_option maxHeartbeats 4000000
/-! A29: dicts with tuple keys: {}, d[k], d.get(k, x), d[k] = v. -/
namespace DL
open PySem PyProof.Rows L2
section
variable {c : Ctx} {S : Option SA} {F : Hp} {n : Nat} {I H : Hp} {μ : Mu}
end
/-! ### wishes -/
section
variable {X : Cx} {c : Ctx} {W : WX} {k ka kb kc ko kf : Nat} {a b d o v : Expr} {wa wb wd wo wv wk : WE} {m : Bool} {pos pos' apos cpos : Pos}
end
end DL

set_option Elab.async false
set_option linter.all false
set_option maxRecDepth 100000
set_option maxHeartbeats 4000000
/-! A58: dicts whose keys are numbers or texts: d.get(k, x), d[k] = v, any key. -/
namespace DL
open PySem PyProof.Rows L2
def dkV (μ : Mu) : D → Option (List Key × List D)
  | .dk ks ds => some (ks, ds)
  | .cell p => ndK (μ p)
  | _ => Option.none
def memI (k : Key) (ks : List Key) : Bool := ks.any fun j => decide (j = k)
/-- d[k] = v -/
def putI (k : Key) (d : D) (ks : List Key) (ds : List D) : List Key × List D := if memI k ks = true then (ks, List.zipWith (fun j x => if j = k then d else x) ks ds) else (ks ++ [k], ds ++ [d])
section
variable {c : Ctx} {S : Option SA} {F : Hp} {n : Nat} {I H : Hp} {μ : Mu}
theorem dkV_rep (w : Wd c S F n I μ H) {x : D} {v : V} {ks : List Key} {ds : List D} (r : Rep c S I x v) (h : dkV μ x = some (ks, ds)) : ∃ a xs, v = .ref a ∧ Rd H a (.dK (List.zip ks xs)) ∧ Reps c S I ds xs ∧ ks.length = xs.length := by
  cases r with
  | dk g r l =>
    cases h
    rcases w.i _ _ g with q | ⟨_, ob, q⟩
    · exact ⟨_, _, rfl, .inl q, r, l⟩
    · exact ⟨_, _, rfl, .inr ⟨ob, q⟩, r, l⟩
  | cell =>
    obtain ⟨_, o, r, h2⟩ := w.m _ _ (ndK_some h)
    cases r with
    | dk r l => exact ⟨_, _, rfl, .inl h2, r, l⟩
  | _ => cases h
theorem getI_none {k : Key} : ∀ {ks : List Key} {ds : List D} {xs : List V}, Reps c S I ds xs → getK k ks ds = Option.none → valV (List.zip ks xs) k = none
  | [], _, _, _, _ => rfl
  | _ :: _, _, _, .nil, _ => rfl
  | j :: ks, _, _, .cons (xs := xs) r rs, h => by
    rw [getK] at h
    by_cases e : j = k
    · rw [if_pos e] at h
      cases h
    · rw [if_neg e] at h
      rw [← getI_none rs h]
      exact valV_neg e
theorem setI_rep {k : Key} {d : D} {v : V} (q : Rep c S I d v) : ∀ {ks : List Key} {ds : List D} {xs : List V}, Reps c S I ds xs → Reps c S I (List.zipWith (fun j x => if j = k then d else x) ks ds) (List.zipWith (fun j x => if j = k then v else x) ks xs)
  | [], _, _, _ => by simp; exact .nil
  | _ :: _, _, _, .nil => by simp; exact .nil
  | j :: ks, _, _, .cons r rs => by
    have ih := setI_rep (k := k) q (ks := ks) rs
    rw [List.zipWith_cons_cons, List.zipWith_cons_cons]
    by_cases e : j = k
    · rw [if_pos e, if_pos e]
      exact .cons q ih
    · rw [if_neg e, if_neg e]
      exact .cons r ih
theorem anyI_zip {k : Key} : ∀ (ks : List Key) (xs : List V), ks.length = xs.length → ((List.zip ks xs).any fun kv => decide (kv.1 = k)) = memI k ks
  | [], _, _ => by simp [memI]
  | j :: ks, [], h => by cases h
  | j :: ks, x :: xs, h => by
    rw [List.zip_cons_cons, List.any_cons, anyI_zip ks xs (by simpa using h)]
    rfl
theorem mapI_zip {k : Key} {v : V} : ∀ (ks : List Key) (xs : List V), (List.zip ks xs).map (fun kv => if kv.1 = k then (kv.1, v) else kv) = List.zip ks (List.zipWith (fun j x => if j = k then v else x) ks xs)
  | [], _ => by simp
  | _ :: _, [] => by simp
  | j :: ks, x :: xs => by
    rw [List.zip_cons_cons, List.map_cons, List.zipWith_cons_cons, List.zip_cons_cons, mapI_zip ks xs]
    by_cases e : j = k
    · rw [if_pos e, if_pos e]
    · rw [if_neg e, if_neg e]
theorem putI_rep {k : Key} {d : D} {v : V} (q : Rep c S I d v) {ks : List Key} {ds : List D} {xs : List V} (r : Reps c S I ds xs) (l : ks.length = xs.length) :
    ∃ ys, Reps c S I (putI k d ks ds).2 ys ∧ (putI k d ks ds).1.length = ys.length ∧ putK (List.zip ks xs) k v = List.zip (putI k d ks ds).1 ys := by
  unfold putI putK
  rw [anyI_zip ks xs l]
  by_cases e : memI k ks = true
  · rw [if_pos e, if_pos e]
    refine ⟨_, setI_rep q r, ?_, mapI_zip ks xs⟩
    rw [List.length_zipWith, ← l, Nat.min_self]
  · rw [if_neg e, if_neg e]
    refine ⟨xs ++ [v], r.append (.cons q .nil), by simp [l], ?_⟩
    rw [List.zip_append l]
    rfl
end
/-! ### wishes -/
def kg2F (x y z : D) (μ : Mu) (Q : QD) : Prop := match dkV μ x, keyD y with
  | some (ks, ds), some k => Q ((getK k ks ds).getD z) μ
  | _, _ => False
def isK (μ : Mu) (x : D) : Prop := (dkV μ x).isSome = true
/-- d.get(k, z) -/
def wKGet2 (o k z : WE) : WE := fun e μ Q X => o e μ (fun x μ1 => isK μ1 x ∧ k e μ1 (fun y μ2 => z e μ2 (fun z μ3 => kg2F x y z μ3 Q) X) X) X
def kpF (d x y : D) (μ : Mu) (K : Mu → Prop) : Prop := match x with
  | .cell p => (match ndK (μ p), keyD y with
    | some (ks, ds), some k => ks.length < 1000000 ∧ K (up μ p (.dk (putI k d ks ds).1 (putI k d ks ds).2))
    | _, _ => False)
  | _ => False
/-- d[k] = v -/
def wKPut (o k v : WE) : WS := fun e μ E => v e μ (fun d μ1 => o e μ1 (fun x μ2 => k e μ2 (fun y μ3 => kpF d x y μ3 fun μ4 => E.nx e μ4) fun d μ1 => E.xp d e μ1) fun d μ1 => E.xp d e μ1) fun d μ1 => E.xp d e μ1
theorem Jca (o k z : WE) (e : EnvD) (μ : Mu) (Q X : QD) : wKGet2 o k z e μ Q X = o e μ (fun x μ1 => isK μ1 x ∧ k e μ1 (fun y μ2 => z e μ2 (fun z μ3 => kg2F x y z μ3 Q) X) X) X := propext Iff.rfl
theorem Jcb (o k v : WE) (e : EnvD) (μ : Mu) (E : WEnds) : wKPut o k v e μ E = v e μ (fun d μ1 => o e μ1 (fun x μ2 => k e μ2 (fun y μ3 => kpF d x y μ3 fun μ4 => E.nx e μ4) fun d μ1 => E.xp d e μ1) fun d μ1 => E.xp d e μ1) (fun d μ1 => E.xp d e μ1) := propext Iff.rfl
section
variable {X : Cx} {c : Ctx} {W : WX} {k ka kb kc ko kf : Nat} {a b d o v : Expr} {wa wb wd wo wv wk : WE} {m : Bool} {pos pos' apos cpos : Pos}
theorem g_kget2 (hu : X.A.units + 1 < cLine) (ho : GE X c W ko o wo) (hk : GE X c W ka a wa) (hz : GE X c W kb b wb) (mm : M2 X o "get" apos a b cpos) : GE X c W (ko + (ka + kb)) (.Call (.Attribute o "get" apos) [a, b] [] cpos) (wKGet2 wo wa wb) := L2.PE.imp (pe_dget2 hu ho hk hz mm) fun σ H Q h => by
  obtain ⟨S, F, n, I, μ, e, Qd, Xd, hl, he, hw, h, q, x⟩ := h
  refine ⟨S, F, n, I, μ, e, _, Xd, by omega, he, hw, h, fun dx μ1 vx I1 H1 pa s1 w1 ra => ?_, x.mono (by omega) (Same.refl I)⟩
  obtain ⟨pi, pa⟩ := pa
  obtain ⟨⟨ks0, ds0⟩, e0⟩ := Option.isSome_iff_exists.mp pi
  obtain ⟨a0, xs0, rfl, g0, _, _⟩ := dkV_rep w1 ra e0
  refine ⟨a0, rfl, .inl ⟨_, g0⟩, S, F, n + ko, I1, μ1, e, _, Xd, by omega, he.mono s1, w1, pa, fun dy μ2 vy I2 H2 pb s2 w2 rb => ?_, x.mono (by omega) s1⟩
  refine ⟨S, F, n + ko + ka, I2, μ2, e, _, Xd, by omega, he.mono (s1.trans s2), w2, pb, fun dz μ3 vz I3 H3 pc s3 w3 rc => ?_, x.mono (by omega) (s1.trans s2)⟩
  have pc : kg2F dx dy dz μ3 Qd := pc
  unfold kg2F at pc
  split at pc
  · rename_i ks ds k e1 e2
    obtain ⟨a1, xs, ea, g, rs, l⟩ := dkV_rep w3 ((ra.mono s2).mono s3) e1
    cases ea
    have ev := keyD_rep (rb.mono s3) e2
    subst ev
    refine ⟨valV (List.zip ks xs) k, .inl ⟨_, k, g, rfl, rfl⟩, ?_⟩
    cases e3 : getK k ks ds with
    | some d =>
      obtain ⟨v, h1, h2⟩ := getK_rep rs e3
      rw [e3] at pc
      rw [h1]
      exact q d μ3 v I3 H3 pc ((s1.trans s2).trans s3) (w3.up (by omega)) h2
    | none =>
      rw [e3] at pc
      rw [getI_none rs e3]
      exact q dz μ3 vz I3 H3 pc ((s1.trans s2).trans s3) (w3.up (by omega)) rc
  · exact pc.elim
theorem g_kput (hu : X.A.units + 1 < cLine) (ho : GE X c W ko o wo) (hk : GE X c W ka a wa) (hv : GE X c W kb v wv) (hs : swapsWith v (some (.Subscript o a pos')) pos.line X.env = pure false := by rfl) : GS X c W (kb + (ko + ka)) (.Assign [.Subscript o a pos'] v pos) (wKPut wo wa wv) := L2.PS.imp (ps_dput hu ho hk hv hs) fun K σ H h => by
  obtain ⟨S, F', nn, I, μ, e, E, hl, he, hw, h, q⟩ := h
  refine ⟨S, F', nn, I, μ, e, _, _, by omega, he, hw, h, fun d μ1 v I1 H1 pa s1 w1 ra => ?_, (q.x he).mono (by omega) (Same.refl I)⟩
  refine ⟨S, F', nn + kb, I1, μ1, e, _, _, by omega, he.mono s1, w1, pa, fun dx μ2 vx I2 H2 pb s2 w2 rb => ?_, (q.x he).mono (by omega) s1⟩
  refine ⟨S, F', nn + kb + ko, I2, μ2, e, _, _, by omega, he.mono (s1.trans s2), w2, pb, fun dy μ3 vy I3 H3 pc s3 w3 rc => ?_, (q.x he).mono (by omega) (s1.trans s2)⟩
  have pc : kpF d dx dy μ3 (fun μ4 => E.nx e μ4) := pc
  cases dx with
  | cell p =>
    unfold kpF at pc
    dsimp only at pc
    split at pc
    · rename_i ks ds k e1 e2
      obtain ⟨hz, pc⟩ := pc
      have em : μ3 p = some (.dk ks ds) := ndK_some e1
      cases rb
      have ev := keyD_rep rc e2
      subst ev
      obtain ⟨_, o2, r2, h2⟩ := w3.m _ _ em
      cases r2 with
      | @dk _ _ xs r2 l2 =>
        have hl2 : (List.zip ks xs).length < sizeLine := by rw [List.length_zip, ← l2, Nat.min_self, sizeLine_eq]; omega
        refine ⟨_, _, rfl, .inl ⟨_, k, h2, rfl, hl2, rfl⟩, ?_⟩
        obtain ⟨ys, g1, g2, g3⟩ := putI_rep (k := k) ((ra.mono s2).mono s3) r2 l2
        rw [g3]
        exact q.nx e _ σ I3 _ pc ((s1.trans s2).trans s3) (he.mono ((s1.trans s2).trans s3)) ((w3.put em (NdR.dk g1 g2)).up (by omega))
    · exact pc.elim
  | _ => exact False.elim pc
end
end DL

set_option Elab.async false
set_option linter.all false
set_option maxRecDepth 100000
set_option maxHeartbeats 4000000
/-! X1: words of figures, terms and rules as texts, by the package and by the laws. -/
namespace DL
open PySem L2
open SX (S)
def wp_is_plain_number : WP := (wDef 2 3 (wSeq (wIfS (wOrT (wNotT (wTst (wChain (fun i j => decide (i ≤ j)) (fun i j => decide (i ≤ j)) (wK (.int 1)) (wCb false cbLen (waCons (wV 0) waNil)) (wV 1)))) (wNotT (wTst (wCb false cbAll (waCons (wLc false (wiStr (wV 0)) (wgN 2) wYes (wOp false (oInS false) (wV 2) (wK (.str "0123456789"))) [2]) waNil))))) (wRet (wK (.bool false))) wNext)
    (wRet (wOr (wOp false oEq (wV 0) (wK (.str "0"))) (wOp false oNe (wOp false oIx (wV 0) (wK (.int 0))) (wK (.str "0")))))))
def wp_power_text : WP := (wDef 1 1 (wRet (wIf (wTst (wOp false oEq (wV 0) (wK (.int 1)))) (wK (.str "t")) (wFs [(wK (.str "t^")), (wFmt (wV 0))]))))
def wp_term_text : WP := (wDef 2 2 (wSeq (wIfS (wTst (wOp false oEq (wV 1) (wK (.int 0)))) (wRet (wCb false cbStr (waCons (wV 0) waNil))) wNext)
    (wRet (wIf (wTst (wOp false oEq (wV 0) (wK (.int 1)))) (wCall wp_power_text [] (waCons (wV 1) waNil)) (wFs [(wFmt (wV 0)), (wK (.str " ")), (wFmt (wCall wp_power_text [] (waCons (wV 1) waNil)))])))))
def wp_rule_text : WP := (wDef 1 5 (wSeq (wAsg 1 (wK (.str "")))
    (wSeq (wFor (wiRng3 (waCons (wProp "Rule" "degree" wp_Rule_degree (wV 0)) (waCons (wUn false oNeg (wK (.int 1))) (waCons (wUn false oNeg (wK (.int 1))) waNil)))) (wgN 2) (wSeq (wAsg 3 (wOp false (oOwnIx "Rule" wp_Rule___getitem__) (wV 0) (wV 2)))
    (wIfS (wTst (wOp false oNe (wV 3) (wK (.int 0)))) (wSeq (wAsg 4 (wIf (wTst (wOp false oEq (wV 1) (wK (.str "")))) (wTup (waCons (wK (.str "-")) (waCons (wK (.str "")) waNil))) (wTup (waCons (wK (.str " - ")) (waCons (wK (.str " + ")) waNil)))))
    (wAsg 1 (wOp false oAdd (wOp false oAdd (wV 1) (wOp false oIx (wV 4) (wCb false cbInt (waCons (wOp false oGt (wV 3) (wK (.int 0))) waNil)))) (wCall wp_term_text [] (waCons (wCb false cbAbs (waCons (wV 3) waNil)) (waCons (wV 2) waNil)))))) wNext)))
    (wRet (wIf (wTst (wOp false oNe (wV 1) (wK (.str "")))) (wV 1) (wK (.str "0")))))))
def wp_law_term_page : WP := (wDef 2 3 (wSeq (wAsg 2 (wIf (wTst (wOp false oLt (wV 1) (wK (.int 2)))) (wOp false oIx (wLst false (waCons (wK (.str "")) (waCons (wK (.str "t")) waNil))) (wV 1)) (wOp false oAdd (wK (.str "t^")) (wCb false cbStr (waCons (wV 1) waNil)))))
    (wSeq (wIfS (wAndT (wTst (wOp false oGt (wV 1) (wK (.int 0)))) (wTst (wOp false oEq (wV 0) (wK (.int 1))))) (wRet (wV 2)) wNext)
    (wRet (wOp false oAdd (wOp false oAdd (wCb false cbStr (waCons (wV 0) waNil)) (wOp false oMulS (wK (.str " ")) (wCb false cbInt (waCons (wOp false oGt (wV 1) (wK (.int 0))) waNil)))) (wV 2))))))
def wp_law_rule_page : WP := (wDef 1 5 (wSeq (wAsg 1 (wK (.str "")))
    (wSeq (wFor (wiRng3 (waCons (wOp false oSub (wCb false cbLen (waCons (wV 0) waNil)) (wK (.int 1))) (waCons (wUn false oNeg (wK (.int 1))) (waCons (wUn false oNeg (wK (.int 1))) waNil)))) (wgN 2) (wSeq (wAsg 3 (wOp false oIx (wV 0) (wV 2)))
    (wIfS (wTst (wOp false oNe (wV 3) (wK (.int 0)))) (wSeq (wAsg 4 (wIf (wTst (wOp false oEq (wV 1) (wK (.str "")))) (wOp false oIx (wLst false (waCons (wK (.str "-")) (waCons (wK (.str "")) waNil))) (wCb false cbInt (waCons (wOp false oGt (wV 3) (wK (.int 0))) waNil))) (wOp false oIx (wLst false (waCons (wK (.str " - ")) (waCons (wK (.str " + ")) waNil))) (wCb false cbInt (waCons (wOp false oGt (wV 3) (wK (.int 0))) waNil)))))
    (wAsg 1 (wOp false oAdd (wOp false oAdd (wV 1) (wV 4)) (wCall wp_law_term_page [] (waCons (wCb false cbAbs (waCons (wV 3) waNil)) (waCons (wV 2) waNil)))))) wNext)))
    (wRet (wIf (wTst (wOp false oNe (wV 1) (wK (.str "")))) (wV 1) (wK (.str "0")))))))
abbrev Tx := List Nat
def digW (w : Tx) : Bool := w.all fun c => decide (48 ≤ c) && decide (c ≤ 57)
/-- a number from 0 on, of at most m figures, as Python writes it -/
def plainW (w : Tx) (m : Nat) : Bool := (decide (1 ≤ w.length) && decide (w.length ≤ m)) && (digW w && (decide (w = [48]) || !decide (w.head? = some 48)))
theorem s_inj {a b : Tx} : (S a = S b) ↔ a = b := ⟨SX.S_inj, fun h => by rw [h]⟩
theorem fig_mem (c : Nat) : decide (c ∈ ("0123456789" : Str).cps.toList) = (decide (48 ≤ c) && decide (c ≤ 57)) := by
  have e : ("0123456789" : Str).cps.toList = [48, 49, 50, 51, 52, 53, 54, 55, 56, 57] := by decide +kernel
  rw [e, ← Bool.decide_and, decide_eq_decide]
  simp only [List.mem_cons, List.not_mem_nil, or_false]
  omega
section
variable {μ : Mu} {Q X : QD} {QQ : QR} {w : Tx}
theorem chD_S (w : Tx) : chD (S w) = w.map fun ch => D.str (S [ch]) := rfl
theorem eq_S (a b : Tx) (q : QQ (.v (.bool (decide (a = b)))) μ) : oEq (.str (S a)) (.str (S b)) μ QQ X := by
  have e : decide (S a = S b) = decide (a = b) := by rw [decide_eq_decide]; exact s_inj
  show QQ (.v (.bool (decide (S a = S b)))) μ
  rw [e]
  exact q
theorem ne_S (a b : Tx) (q : QQ (.v (.bool (!decide (a = b)))) μ) : oNe (.str (S a)) (.str (S b)) μ QQ X := by
  have e : decide (S a = S b) = decide (a = b) := by rw [decide_eq_decide]; exact s_inj
  show QQ (.v (.bool (!decide (S a = S b)))) μ
  rw [e]
  exact q
theorem at0 (c : Nat) (w : Tx) : atI (S (c :: w)).cps.toList 0 = some c := by
  show atI (c :: w) 0 = some c
  simp [atI, ixN]
theorem ix0_S {c : Nat} {w : Tx} (hl : (c :: w).length ≤ 16000000) (q : QQ (.v (.str (S [c]))) μ) : oIx (.str (S (c :: w))) (.int 0) μ QQ X := by
  unfold oIx
  dsimp only
  rw [at0, SX.S_len]
  exact ⟨Nat.le_trans hl (by rw [sizeLine_eq]; decide), q⟩
theorem len_S {w : Tx} (hl : w.length ≤ 16000000) (q : QQ (.v (.int (w.length : Int))) μ) : cbLen [.str (S w)] μ QQ X := by
  show (S w).length ≤ sizeLine ∧ QQ (.v (.int ((S w).length : Int))) μ
  rw [SX.S_len]
  exact ⟨Nat.le_trans hl (by rw [sizeLine_eq]; decide), q⟩
theorem all_bools (bs : List Bool) : cbAll [D.list (bs.map D.bool)] μ QQ X = QQ (.v (.bool (bs.all id))) μ := by
  have e : boolsD (bs.map D.bool) = some bs := by
    induction bs with
    | nil => rfl
    | cons b bs ih => rw [List.map_cons, boolsD, ih]; rfl
  simp [cbAll, cbBs, one, seqL, e]
theorem zero_S : Str.ofString "0" = S [48] := by decide +kernel
theorem ok_is_plain_number (hl : w.length ≤ 16000000) {m : Nat} (k : Q (.bool (plainW w m)) μ) : wp_is_plain_number [.str (S w), .int (m : Int)] μ Q X := by
  unfold wp_is_plain_number
  simp only [Jbu, initE, Jcw, Jci, Jbk, Jbl, Jbz, Jcr, Jcs, Jc8, Jco, Jbm, Jcy, Jbn, Jbt, Jdb, Jdc, Jda, Jdd, Jdi, Jdf, Jdg, Jde, Jc3, Jcc, Jd5, Jd4, Jc9, Jcl, Jd3, Jd2, Jcf, Jbr, Jd1, Jck, Jbj, Jcn, Jc7, Jbi, Jcm, Jcj, Jd7, Jd6, Jd9, Jbo, Jch, Jcq, Jc1, Jcx, Jcg, Jbp, Jct, Jcz, Jdk, Jdl, Jcd, Jcu, Jcv, Jc6, Jbq, Jc0, Jbw, Jce, gt, st, Jbb, Jb9, Jba, Jb7, Jbh, Ja5, atI0, atI1, atI2, atI3, atI4, ixN20, ixN21, List.map_cons, List.map_nil, List.cons_append, List.nil_append, List.append_nil, List.length_cons, List.length_nil, List.replicate_succ, List.replicate_zero, Nat.add_one_sub_one, Jd8, Jbs, Jbx, Jby, Jbv, Jae, Jag, Jah, Jaf, Jb6, Jav, Jaw, Jak, Jau, Jb3, Jat, Jas, Jam, Jal, Jb1, Jai, Jaj, Jaz, Jb0, Jap, Jb2, Jaq, Jar, Jan, Jao, Jb5, Jb4, Ja7, Ja8, Jac, Jab, Ja0, Ja9, Jaa, Jbf, Jbg, Ja6, Jad, Jbc, Jbe, Jbd, Jb8, Ja2, Ja1, Ja4, Ja3, Jax, Jay, decide_true, decide_false, Bool.not_true, Bool.not_false, Bool.false_eq_true, if_true, if_false, true_and, Jdj]
  refine len_S hl ?_
  simp only [Jbu, initE, Jcw, Jci, Jbk, Jbl, Jbz, Jcr, Jcs, Jc8, Jco, Jbm, Jcy, Jbn, Jbt, Jdb, Jdc, Jda, Jdd, Jdi, Jdf, Jdg, Jde, Jc3, Jcc, Jd5, Jd4, Jc9, Jcl, Jd3, Jd2, Jcf, Jbr, Jd1, Jck, Jbj, Jcn, Jc7, Jbi, Jcm, Jcj, Jd7, Jd6, Jd9, Jbo, Jch, Jcq, Jc1, Jcx, Jcg, Jbp, Jct, Jcz, Jdk, Jdl, Jcd, Jcu, Jcv, Jc6, Jbq, Jc0, Jbw, Jce, gt, st, Jbb, Jb9, Jba, Jb7, Jbh, Ja5, atI0, atI1, atI2, atI3, atI4, ixN20, ixN21, List.map_cons, List.map_nil, List.cons_append, List.nil_append, List.append_nil, List.length_cons, List.length_nil, List.replicate_succ, List.replicate_zero, Nat.add_one_sub_one, Jd8, Jbs, Jbx, Jby, Jbv, Jae, Jag, Jah, Jaf, Jb6, Jav, Jaw, Jak, Jau, Jb3, Jat, Jas, Jam, Jal, Jb1, Jai, Jaj, Jaz, Jb0, Jap, Jb2, Jaq, Jar, Jan, Jao, Jb5, Jb4, Ja7, Ja8, Jac, Jab, Ja0, Ja9, Jaa, Jbf, Jbg, Ja6, Jad, Jbc, Jbe, Jbd, Jb8, Ja2, Ja1, Ja4, Ja3, Jax, Jay, decide_true, decide_false, Bool.not_true, Bool.not_false, Bool.false_eq_true, if_true, if_false, true_and]
  have no : plainW w m = false → Q (.bool false) μ := fun e => by rw [e] at k; exact k
  by_cases h1 : 1 ≤ w.length
  · rw [if_pos (by rw [decide_eq_true_iff]; omega)]
    by_cases h2 : w.length ≤ m
    · rw [if_neg (by rw [Bool.not_eq_true, Bool.not_eq_false', decide_eq_true_iff]; omega)]
      rw [chD_S]
      refine ⟨by rw [List.length_map, sizeLine_eq]; omega, lc_inv (fun i acc μ' => μ' = μ ∧ acc = ((w.take i).map fun c => (decide (48 ≤ c) && decide (c ≤ 57))).map D.bool) ⟨rfl, rfl⟩ ?_ ?_⟩
      · rintro i x acc μ' N hx ⟨rfl, rfl⟩ hN
        rw [List.getElem?_map] at hx
        obtain ⟨c, hc, rfl⟩ := Option.map_eq_some_iff.mp hx
        refine ⟨trivial, ?_⟩
        simp only [Jbu, initE, Jcw, Jci, Jbk, Jbl, Jbz, Jcr, Jcs, Jc8, Jco, Jbm, Jcy, Jbn, Jbt, Jdb, Jdc, Jda, Jdd, Jdi, Jdf, Jdg, Jde, Jc3, Jcc, Jd5, Jd4, Jc9, Jcl, Jd3, Jd2, Jcf, Jbr, Jd1, Jck, Jbj, Jcn, Jc7, Jbi, Jcm, Jcj, Jd7, Jd6, Jd9, Jbo, Jch, Jcq, Jc1, Jcx, Jcg, Jbp, Jct, Jcz, Jdk, Jdl, Jcd, Jcu, Jcv, Jc6, Jbq, Jc0, Jbw, Jce, gt, st, Jbb, Jb9, Jba, Jb7, Jbh, Ja5, atI0, atI1, atI2, atI3, atI4, ixN20, ixN21, List.map_cons, List.map_nil, List.cons_append, List.nil_append, List.append_nil, List.length_cons, List.length_nil, List.replicate_succ, List.replicate_zero, Nat.add_one_sub_one, Jd8, Jbs, Jbx, Jby, Jbv, Jae, Jag, Jah, Jaf, Jb6, Jav, Jaw, Jak, Jau, Jb3, Jat, Jas, Jam, Jal, Jb1, Jai, Jaj, Jaz, Jb0, Jap, Jb2, Jaq, Jar, Jan, Jao, Jb5, Jb4, Ja7, Ja8, Jac, Jab, Ja0, Ja9, Jaa, Jbf, Jbg, Ja6, Jad, Jbc, Jbe, Jbd, Jb8, Ja2, Ja1, Ja4, Ja3, Jax, Jay, decide_true, decide_false, Bool.not_true, Bool.not_false, Bool.false_eq_true, if_true, if_false, true_and, wipeE, oInS]
        refine hN _ _ ⟨rfl, ?_⟩
        rw [List.take_succ, hc, fig_mem]
        simp
      · rintro acc μ' ⟨rfl, rfl⟩
        refine ⟨trivial, ?_⟩
        rw [List.length_map, List.take_length, all_bools]
        simp only [Jbu, initE, Jcw, Jci, Jbk, Jbl, Jbz, Jcr, Jcs, Jc8, Jco, Jbm, Jcy, Jbn, Jbt, Jdb, Jdc, Jda, Jdd, Jdi, Jdf, Jdg, Jde, Jc3, Jcc, Jd5, Jd4, Jc9, Jcl, Jd3, Jd2, Jcf, Jbr, Jd1, Jck, Jbj, Jcn, Jc7, Jbi, Jcm, Jcj, Jd7, Jd6, Jd9, Jbo, Jch, Jcq, Jc1, Jcx, Jcg, Jbp, Jct, Jcz, Jdk, Jdl, Jcd, Jcu, Jcv, Jc6, Jbq, Jc0, Jbw, Jce, gt, st, Jbb, Jb9, Jba, Jb7, Jbh, Ja5, atI0, atI1, atI2, atI3, atI4, ixN20, ixN21, List.map_cons, List.map_nil, List.cons_append, List.nil_append, List.append_nil, List.length_cons, List.length_nil, List.replicate_succ, List.replicate_zero, Nat.add_one_sub_one, Jd8, Jbs, Jbx, Jby, Jbv, Jae, Jag, Jah, Jaf, Jb6, Jav, Jaw, Jak, Jau, Jb3, Jat, Jas, Jam, Jal, Jb1, Jai, Jaj, Jaz, Jb0, Jap, Jb2, Jaq, Jar, Jan, Jao, Jb5, Jb4, Ja7, Ja8, Jac, Jab, Ja0, Ja9, Jaa, Jbf, Jbg, Ja6, Jad, Jbc, Jbe, Jbd, Jb8, Ja2, Ja1, Ja4, Ja3, Jax, Jay, decide_true, decide_false, Bool.not_true, Bool.not_false, Bool.false_eq_true, if_true, if_false, true_and]
        have ed : ((w.map fun c => (decide (48 ≤ c) && decide (c ≤ 57))).all id) = digW w := by
          unfold digW
          rw [List.all_map]
          rfl
        rw [ed]
        cases hd : digW w with
        | false =>
          simp only [Jbu, initE, Jcw, Jci, Jbk, Jbl, Jbz, Jcr, Jcs, Jc8, Jco, Jbm, Jcy, Jbn, Jbt, Jdb, Jdc, Jda, Jdd, Jdi, Jdf, Jdg, Jde, Jc3, Jcc, Jd5, Jd4, Jc9, Jcl, Jd3, Jd2, Jcf, Jbr, Jd1, Jck, Jbj, Jcn, Jc7, Jbi, Jcm, Jcj, Jd7, Jd6, Jd9, Jbo, Jch, Jcq, Jc1, Jcx, Jcg, Jbp, Jct, Jcz, Jdk, Jdl, Jcd, Jcu, Jcv, Jc6, Jbq, Jc0, Jbw, Jce, gt, st, Jbb, Jb9, Jba, Jb7, Jbh, Ja5, atI0, atI1, atI2, atI3, atI4, ixN20, ixN21, List.map_cons, List.map_nil, List.cons_append, List.nil_append, List.append_nil, List.length_cons, List.length_nil, List.replicate_succ, List.replicate_zero, Nat.add_one_sub_one, Jd8, Jbs, Jbx, Jby, Jbv, Jae, Jag, Jah, Jaf, Jb6, Jav, Jaw, Jak, Jau, Jb3, Jat, Jas, Jam, Jal, Jb1, Jai, Jaj, Jaz, Jb0, Jap, Jb2, Jaq, Jar, Jan, Jao, Jb5, Jb4, Ja7, Ja8, Jac, Jab, Ja0, Ja9, Jaa, Jbf, Jbg, Ja6, Jad, Jbc, Jbe, Jbd, Jb8, Ja2, Ja1, Ja4, Ja3, Jax, Jay, decide_true, decide_false, Bool.not_true, Bool.not_false, Bool.false_eq_true, if_true, if_false, true_and]
          exact no (by unfold plainW; rw [hd]; simp)
        | true =>
          simp only [Jbu, initE, Jcw, Jci, Jbk, Jbl, Jbz, Jcr, Jcs, Jc8, Jco, Jbm, Jcy, Jbn, Jbt, Jdb, Jdc, Jda, Jdd, Jdi, Jdf, Jdg, Jde, Jc3, Jcc, Jd5, Jd4, Jc9, Jcl, Jd3, Jd2, Jcf, Jbr, Jd1, Jck, Jbj, Jcn, Jc7, Jbi, Jcm, Jcj, Jd7, Jd6, Jd9, Jbo, Jch, Jcq, Jc1, Jcx, Jcg, Jbp, Jct, Jcz, Jdk, Jdl, Jcd, Jcu, Jcv, Jc6, Jbq, Jc0, Jbw, Jce, gt, st, Jbb, Jb9, Jba, Jb7, Jbh, Ja5, atI0, atI1, atI2, atI3, atI4, ixN20, ixN21, List.map_cons, List.map_nil, List.cons_append, List.nil_append, List.append_nil, List.length_cons, List.length_nil, List.replicate_succ, List.replicate_zero, Nat.add_one_sub_one, Jd8, Jbs, Jbx, Jby, Jbv, Jae, Jag, Jah, Jaf, Jb6, Jav, Jaw, Jak, Jau, Jb3, Jat, Jas, Jam, Jal, Jb1, Jai, Jaj, Jaz, Jb0, Jap, Jb2, Jaq, Jar, Jan, Jao, Jb5, Jb4, Ja7, Ja8, Jac, Jab, Ja0, Ja9, Jaa, Jbf, Jbg, Ja6, Jad, Jbc, Jbe, Jbd, Jb8, Ja2, Ja1, Ja4, Ja3, Jax, Jay, decide_true, decide_false, Bool.not_true, Bool.not_false, Bool.false_eq_true, if_true, if_false, true_and]
          rw [zero_S]
          have e0 : decide (S w = S [48]) = decide (w = [48]) := by rw [decide_eq_decide]; exact s_inj
          rw [e0]
          have pw : plainW w m = (decide (w = [48]) || !decide (w.head? = some 48)) := by
            unfold plainW
            rw [hd, decide_eq_true h1, decide_eq_true h2]
            rfl
          rw [pw] at k
          by_cases z : w = [48]
          · rw [if_pos (decide_eq_true z)]
            rw [decide_eq_true z] at k
            exact k
          · rw [if_neg (by rw [decide_eq_true_iff]; exact z)]
            rw [decide_eq_false z, Bool.false_or] at k
            match w, h1, hl with
            | c :: w, _, hl =>
              refine ix0_S hl (ne_S (X := fun _ _ => False) _ _ ?_)
              have : decide ([c] = [48]) = decide ((c :: w).head? = some 48) := by simp
              rw [this]
              exact k
    · rw [if_pos (by rw [Bool.not_eq_true', decide_eq_false_iff_not]; omega)]
      exact no (by unfold plainW; rw [decide_eq_false h2]; simp)
  · rw [if_neg (by rw [decide_eq_true_iff]; omega)]
    exact no (by unfold plainW; rw [decide_eq_false h1]; simp)
/-! ### terms -/
/-- the text of a power of t -/
def powL (p : Nat) : Tx := if p = 1 then [116] else [116, 94] ++ TL.numL p
/-- the text of a term -/
def termL (n p : Nat) : Tx := if p = 0 then TL.numL n else if n = 1 then powL p else TL.numL n ++ ([32] ++ powL p)
theorem t_S : Str.ofString "t" = S [116] := by decide +kernel
theorem th_S : Str.ofString "t^" = S [116, 94] := by decide +kernel
theorem sp_S : Str.ofString " " = S [32] := by decide +kernel
theorem em_S : Str.ofString "" = S [] := by decide +kernel
theorem emp_S : Str.empty = S [] := by decide +kernel
theorem numS (n : Nat) : (toString ((n : Nat) : Int) : Str) = S (TL.numL n) := SX.num_S n
theorem numL_log {n : Nat} (h : n.log2 < 1920) : (TL.numL n).length ≤ 600 := by
  refine TL.numL_len (by decide) ?_
  have : n < 2 ^ 1920 := by
    by_cases z : n = 0
    · subst z
      exact Nat.pow_pos (by decide)
    · exact (Nat.log2_lt z).mp h
  exact Nat.lt_of_lt_of_le this (by decide +kernel)
theorem powL_len {p : Nat} (h : p ≤ 1000) : (powL p).length ≤ 10 := by
  unfold powL
  split
  · decide
  · rw [List.length_append]
    have := TL.numL_len (n := p) (k := 4) (by decide) (by omega)
    have : [116, 94].length = 2 := rfl
    omega
theorem ok_power_text {p : Nat} (h : p ≤ 1000) (k : Q (.str (S (powL p))) μ) : wp_power_text [.int (p : Int)] μ Q X := by
  unfold wp_power_text
  simp only [Jbu, initE, Jcw, Jci, Jbk, Jbl, Jbz, Jcr, Jcs, Jc8, Jco, Jbm, Jcy, Jbn, Jbt, Jdb, Jdc, Jda, Jdd, Jdi, Jdf, Jdg, Jde, Jc3, Jcc, Jd5, Jd4, Jc9, Jcl, Jd3, Jd2, Jcf, Jbr, Jd1, Jck, Jbj, Jcn, Jc7, Jbi, Jcm, Jcj, Jd7, Jd6, Jd9, Jbo, Jch, Jcq, Jc1, Jcx, Jcg, Jbp, Jct, Jcz, Jdk, Jdl, Jcd, Jcu, Jcv, Jc6, Jbq, Jc0, Jbw, Jce, gt, st, Jbb, Jb9, Jba, Jb7, Jbh, Ja5, atI0, atI1, atI2, atI3, atI4, ixN20, ixN21, List.map_cons, List.map_nil, List.cons_append, List.nil_append, List.append_nil, List.length_cons, List.length_nil, List.replicate_succ, List.replicate_zero, Nat.add_one_sub_one, Jd8, Jbs, Jbx, Jby, Jbv, Jae, Jag, Jah, Jaf, Jb6, Jav, Jaw, Jak, Jau, Jb3, Jat, Jas, Jam, Jal, Jb1, Jai, Jaj, Jaz, Jb0, Jap, Jb2, Jaq, Jar, Jan, Jao, Jb5, Jb4, Ja7, Ja8, Jac, Jab, Ja0, Ja9, Jaa, Jbf, Jbg, Ja6, Jad, Jbc, Jbe, Jbd, Jb8, Ja2, Ja1, Ja4, Ja3, Jax, Jay, decide_true, decide_false, Bool.not_true, Bool.not_false, Bool.false_eq_true, if_true, if_false, true_and, Jc4, Jc2, t_S, th_S]
  unfold powL at k
  by_cases z : p = 1
  · rw [if_pos (by rw [decide_eq_true_iff]; omega)]
    rw [if_pos z] at k
    exact k
  · rw [if_neg (by rw [decide_eq_true_iff]; omega)]
    rw [if_neg z] at k
    have hl : ((p : Int)).natAbs.log2 < 1920 := by
      rw [Int.natAbs_natCast]
      by_cases z0 : p = 0
      · subst z0; decide
      · exact (Nat.log2_lt z0).mpr (Nat.lt_of_le_of_lt h (by decide +kernel))
    have l1 := TL.numL_len (n := p) (k := 4) (by decide) (by omega)
    rw [numS, emp_S, SX.S_cat, SX.S_cat, SX.S_len, SX.S_len]
    refine ⟨by rw [sizeLine_eq]; decide, hl, ?_, k⟩
    rw [List.length_append, sizeLine_eq]
    have : ([] ++ [116, 94] : Tx).length = 2 := rfl
    omega
theorem ok_term_text {n p : Nat} (hn : n.log2 < 1920) (h : p ≤ 1000) (k : Q (.str (S (termL n p))) μ) : wp_term_text [.int (n : Int), .int (p : Int)] μ Q X := by
  unfold wp_term_text
  simp only [Jbu, initE, Jcw, Jci, Jbk, Jbl, Jbz, Jcr, Jcs, Jc8, Jco, Jbm, Jcy, Jbn, Jbt, Jdb, Jdc, Jda, Jdd, Jdi, Jdf, Jdg, Jde, Jc3, Jcc, Jd5, Jd4, Jc9, Jcl, Jd3, Jd2, Jcf, Jbr, Jd1, Jck, Jbj, Jcn, Jc7, Jbi, Jcm, Jcj, Jd7, Jd6, Jd9, Jbo, Jch, Jcq, Jc1, Jcx, Jcg, Jbp, Jct, Jcz, Jdk, Jdl, Jcd, Jcu, Jcv, Jc6, Jbq, Jc0, Jbw, Jce, gt, st, Jbb, Jb9, Jba, Jb7, Jbh, Ja5, atI0, atI1, atI2, atI3, atI4, ixN20, ixN21, List.map_cons, List.map_nil, List.cons_append, List.nil_append, List.append_nil, List.length_cons, List.length_nil, List.replicate_succ, List.replicate_zero, Nat.add_one_sub_one, Jd8, Jbs, Jbx, Jby, Jbv, Jae, Jag, Jah, Jaf, Jb6, Jav, Jaw, Jak, Jau, Jb3, Jat, Jas, Jam, Jal, Jb1, Jai, Jaj, Jaz, Jb0, Jap, Jb2, Jaq, Jar, Jan, Jao, Jb5, Jb4, Ja7, Ja8, Jac, Jab, Ja0, Ja9, Jaa, Jbf, Jbg, Ja6, Jad, Jbc, Jbe, Jbd, Jb8, Ja2, Ja1, Ja4, Ja3, Jax, Jay, decide_true, decide_false, Bool.not_true, Bool.not_false, Bool.false_eq_true, if_true, if_false, true_and, Jc5, Jc2, sp_S]
  unfold termL at k
  by_cases z : p = 0
  · rw [if_pos (by rw [decide_eq_true_iff]; omega)]
    rw [if_pos z] at k
    refine ⟨by rw [Int.natAbs_natCast]; exact hn, ?_⟩
    rw [numS]
    exact k
  · rw [if_neg (by rw [decide_eq_true_iff]; omega)]
    rw [if_neg z] at k
    by_cases z1 : n = 1
    · rw [if_pos (by rw [decide_eq_true_iff]; omega)]
      rw [if_pos z1] at k
      exact ok_power_text h k
    · rw [if_neg (by rw [decide_eq_true_iff]; omega)]
      rw [if_neg z1] at k
      have l1 := numL_log hn
      have l2 := powL_len h
      rw [numS, emp_S, SX.S_cat, SX.S_cat, SX.S_len, SX.S_len]
      refine ⟨by rw [Int.natAbs_natCast]; exact hn, by rw [sizeLine_eq, List.nil_append]; omega, by rw [sizeLine_eq, List.nil_append, List.length_append]; simp; omega, ok_power_text h ?_⟩
      simp only [Jbu, initE, Jcw, Jci, Jbk, Jbl, Jbz, Jcr, Jcs, Jc8, Jco, Jbm, Jcy, Jbn, Jbt, Jdb, Jdc, Jda, Jdd, Jdi, Jdf, Jdg, Jde, Jc3, Jcc, Jd5, Jd4, Jc9, Jcl, Jd3, Jd2, Jcf, Jbr, Jd1, Jck, Jbj, Jcn, Jc7, Jbi, Jcm, Jcj, Jd7, Jd6, Jd9, Jbo, Jch, Jcq, Jc1, Jcx, Jcg, Jbp, Jct, Jcz, Jdk, Jdl, Jcd, Jcu, Jcv, Jc6, Jbq, Jc0, Jbw, Jce, gt, st, Jbb, Jb9, Jba, Jb7, Jbh, Ja5, atI0, atI1, atI2, atI3, atI4, ixN20, ixN21, List.map_cons, List.map_nil, List.cons_append, List.nil_append, List.append_nil, List.length_cons, List.length_nil, List.replicate_succ, List.replicate_zero, Nat.add_one_sub_one, Jd8, Jbs, Jbx, Jby, Jbv, Jae, Jag, Jah, Jaf, Jb6, Jav, Jaw, Jak, Jau, Jb3, Jat, Jas, Jam, Jal, Jb1, Jai, Jaj, Jaz, Jb0, Jap, Jb2, Jaq, Jar, Jan, Jao, Jb5, Jb4, Ja7, Ja8, Jac, Jab, Ja0, Ja9, Jaa, Jbf, Jbg, Ja6, Jad, Jbc, Jbe, Jbd, Jb8, Ja2, Ja1, Ja4, Ja3, Jax, Jay, decide_true, decide_false, Bool.not_true, Bool.not_false, Bool.false_eq_true, if_true, if_false, true_and]
      rw [SX.S_cat, SX.S_len, SX.S_len]
      refine ⟨by rw [sizeLine_eq]; omega, by rw [sizeLine_eq, List.length_append, List.length_append]; simp; omega, ?_⟩
      rw [List.append_assoc]
      exact k
theorem str_n {n : Nat} (hn : n.log2 < 1920) (q : QQ (.v (.str (S (TL.numL n)))) μ) : cbStr [.int (n : Int)] μ QQ X := by
  refine ⟨by rw [Int.natAbs_natCast]; exact hn, ?_⟩
  rw [numS]
  exact q
theorem add_S {a b : Tx} (hl : a.length + b.length ≤ 16000000) (q : QQ (.v (.str (S (a ++ b)))) μ) : oAdd (.str (S a)) (.str (S b)) μ QQ X := by
  show (S a).length + (S b).length ≤ sizeLine ∧ QQ (.v (.str (S a ++ S b))) μ
  rw [SX.S_len, SX.S_len, SX.S_cat]
  exact ⟨Nat.le_trans hl (by rw [sizeLine_eq]; decide), q⟩
theorem int_b (b : Bool) (q : QQ (.v (.int (if b = true then 1 else 0))) μ) : cbInt [.bool b] μ QQ X := q
theorem ok_law_term_page {n p : Nat} (hn : n.log2 < 1920) (h : p ≤ 1000) (k : Q (.str (S (termL n p))) μ) : wp_law_term_page [.int (n : Int), .int (p : Int)] μ Q X := by
  have l1 := numL_log hn
  have l2 := TL.numL_len (n := p) (k := 4) (by decide) (by omega)
  have lp : p.log2 < 1920 := by
    by_cases z0 : p = 0
    · subst z0; decide
    · exact (Nat.log2_lt z0).mpr (Nat.lt_of_le_of_lt h (by decide +kernel))
  unfold wp_law_term_page
  simp only [Jbu, initE, Jcw, Jci, Jbk, Jbl, Jbz, Jcr, Jcs, Jc8, Jco, Jbm, Jcy, Jbn, Jbt, Jdb, Jdc, Jda, Jdd, Jdi, Jdf, Jdg, Jde, Jc3, Jcc, Jd5, Jd4, Jc9, Jcl, Jd3, Jd2, Jcf, Jbr, Jd1, Jck, Jbj, Jcn, Jc7, Jbi, Jcm, Jcj, Jd7, Jd6, Jd9, Jbo, Jch, Jcq, Jc1, Jcx, Jcg, Jbp, Jct, Jcz, Jdk, Jdl, Jcd, Jcu, Jcv, Jc6, Jbq, Jc0, Jbw, Jce, gt, st, Jbb, Jb9, Jba, Jb7, Jbh, Ja5, atI0, atI1, atI2, atI3, atI4, ixN20, ixN21, List.map_cons, List.map_nil, List.cons_append, List.nil_append, List.append_nil, List.length_cons, List.length_nil, List.replicate_succ, List.replicate_zero, Nat.add_one_sub_one, Jd8, Jbs, Jbx, Jby, Jbv, Jae, Jag, Jah, Jaf, Jb6, Jav, Jaw, Jak, Jau, Jb3, Jat, Jas, Jam, Jal, Jb1, Jai, Jaj, Jaz, Jb0, Jap, Jb2, Jaq, Jar, Jan, Jao, Jb5, Jb4, Ja7, Ja8, Jac, Jab, Ja0, Ja9, Jaa, Jbf, Jbg, Ja6, Jad, Jbc, Jbe, Jbd, Jb8, Ja2, Ja1, Ja4, Ja3, Jax, Jay, decide_true, decide_false, Bool.not_true, Bool.not_false, Bool.false_eq_true, if_true, if_false, true_and]
  unfold termL at k
  by_cases z0 : p = 0
  · subst z0
    rw [if_pos rfl] at k
    rw [if_pos (by decide)]
    refine ⟨by decide, ?_⟩
    show (if decide ((0 : Int) < 0) = true then _ else _)
    rw [if_neg (by decide), em_S]
    refine str_n hn ?_
    simp only [Jbu, initE, Jcw, Jci, Jbk, Jbl, Jbz, Jcr, Jcs, Jc8, Jco, Jbm, Jcy, Jbn, Jbt, Jdb, Jdc, Jda, Jdd, Jdi, Jdf, Jdg, Jde, Jc3, Jcc, Jd5, Jd4, Jc9, Jcl, Jd3, Jd2, Jcf, Jbr, Jd1, Jck, Jbj, Jcn, Jc7, Jbi, Jcm, Jcj, Jd7, Jd6, Jd9, Jbo, Jch, Jcq, Jc1, Jcx, Jcg, Jbp, Jct, Jcz, Jdk, Jdl, Jcd, Jcu, Jcv, Jc6, Jbq, Jc0, Jbw, Jce, gt, st, Jbb, Jb9, Jba, Jb7, Jbh, Ja5, atI0, atI1, atI2, atI3, atI4, ixN20, ixN21, List.map_cons, List.map_nil, List.cons_append, List.nil_append, List.append_nil, List.length_cons, List.length_nil, List.replicate_succ, List.replicate_zero, Nat.add_one_sub_one, Jd8, Jbs, Jbx, Jby, Jbv, Jae, Jag, Jah, Jaf, Jb6, Jav, Jaw, Jak, Jau, Jb3, Jat, Jas, Jam, Jal, Jb1, Jai, Jaj, Jaz, Jb0, Jap, Jb2, Jaq, Jar, Jan, Jao, Jb5, Jb4, Ja7, Ja8, Jac, Jab, Ja0, Ja9, Jaa, Jbf, Jbg, Ja6, Jad, Jbc, Jbe, Jbd, Jb8, Ja2, Ja1, Ja4, Ja3, Jax, Jay, decide_true, decide_false, Bool.not_true, Bool.not_false, Bool.false_eq_true, if_true, if_false, true_and]
    refine int_b _ ?_
    simp only [Jbu, initE, Jcw, Jci, Jbk, Jbl, Jbz, Jcr, Jcs, Jc8, Jco, Jbm, Jcy, Jbn, Jbt, Jdb, Jdc, Jda, Jdd, Jdi, Jdf, Jdg, Jde, Jc3, Jcc, Jd5, Jd4, Jc9, Jcl, Jd3, Jd2, Jcf, Jbr, Jd1, Jck, Jbj, Jcn, Jc7, Jbi, Jcm, Jcj, Jd7, Jd6, Jd9, Jbo, Jch, Jcq, Jc1, Jcx, Jcg, Jbp, Jct, Jcz, Jdk, Jdl, Jcd, Jcu, Jcv, Jc6, Jbq, Jc0, Jbw, Jce, gt, st, Jbb, Jb9, Jba, Jb7, Jbh, Ja5, atI0, atI1, atI2, atI3, atI4, ixN20, ixN21, List.map_cons, List.map_nil, List.cons_append, List.nil_append, List.append_nil, List.length_cons, List.length_nil, List.replicate_succ, List.replicate_zero, Nat.add_one_sub_one, Jd8, Jbs, Jbx, Jby, Jbv, Jae, Jag, Jah, Jaf, Jb6, Jav, Jaw, Jak, Jau, Jb3, Jat, Jas, Jam, Jal, Jb1, Jai, Jaj, Jaz, Jb0, Jap, Jb2, Jaq, Jar, Jan, Jao, Jb5, Jb4, Ja7, Ja8, Jac, Jab, Ja0, Ja9, Jaa, Jbf, Jbg, Ja6, Jad, Jbc, Jbe, Jbd, Jb8, Ja2, Ja1, Ja4, Ja3, Jax, Jay, decide_true, decide_false, Bool.not_true, Bool.not_false, Bool.false_eq_true, if_true, if_false, true_and]
    refine .inl ⟨by decide, ?_⟩
    simp only [Jbu, initE, Jcw, Jci, Jbk, Jbl, Jbz, Jcr, Jcs, Jc8, Jco, Jbm, Jcy, Jbn, Jbt, Jdb, Jdc, Jda, Jdd, Jdi, Jdf, Jdg, Jde, Jc3, Jcc, Jd5, Jd4, Jc9, Jcl, Jd3, Jd2, Jcf, Jbr, Jd1, Jck, Jbj, Jcn, Jc7, Jbi, Jcm, Jcj, Jd7, Jd6, Jd9, Jbo, Jch, Jcq, Jc1, Jcx, Jcg, Jbp, Jct, Jcz, Jdk, Jdl, Jcd, Jcu, Jcv, Jc6, Jbq, Jc0, Jbw, Jce, gt, st, Jbb, Jb9, Jba, Jb7, Jbh, Ja5, atI0, atI1, atI2, atI3, atI4, ixN20, ixN21, List.map_cons, List.map_nil, List.cons_append, List.nil_append, List.append_nil, List.length_cons, List.length_nil, List.replicate_succ, List.replicate_zero, Nat.add_one_sub_one, Jd8, Jbs, Jbx, Jby, Jbv, Jae, Jag, Jah, Jaf, Jb6, Jav, Jaw, Jak, Jau, Jb3, Jat, Jas, Jam, Jal, Jb1, Jai, Jaj, Jaz, Jb0, Jap, Jb2, Jaq, Jar, Jan, Jao, Jb5, Jb4, Ja7, Ja8, Jac, Jab, Ja0, Ja9, Jaa, Jbf, Jbg, Ja6, Jad, Jbc, Jbe, Jbd, Jb8, Ja2, Ja1, Ja4, Ja3, Jax, Jay, decide_true, decide_false, Bool.not_true, Bool.not_false, Bool.false_eq_true, if_true, if_false, true_and, emp_S, SX.S_cat, SX.S_len]
    refine ⟨by rw [sizeLine_eq]; (try simp); omega, ?_⟩
    refine ⟨by rw [sizeLine_eq]; (try simp); omega, ?_⟩
    exact k
  · rw [if_neg z0] at k
    have rest : ∀ d : Tx, d = powL p → (if decide (0 < (p : Int)) = true then if decide ((n : Int) = 1) = true then Q (.str (S d)) μ else cbStr [D.int (n : Int)] μ (sett false fun x μ1 => cbInt [D.bool (decide (0 < (p : Int)))] μ1 (sett false fun y μ2 => oMulS (D.str (Str.ofString " ")) y μ2 (sett false fun y μ2 => oAdd x y μ2 (sett false fun x μ1 => oAdd x (.str (S d)) μ1 (sett false Q) fun d μ1 => X d μ1) fun d μ1 => X d μ1) fun d μ1 => X d μ1) fun d μ1 => X d μ1) fun d μ1 => X d μ1 else cbStr [D.int (n : Int)] μ (sett false fun x μ1 => cbInt [D.bool (decide (0 < (p : Int)))] μ1 (sett false fun y μ2 => oMulS (D.str (Str.ofString " ")) y μ2 (sett false fun y μ2 => oAdd x y μ2 (sett false fun x μ1 => oAdd x (.str (S d)) μ1 (sett false Q) fun d μ1 => X d μ1) fun d μ1 => X d μ1) fun d μ1 => X d μ1) fun d μ1 => X d μ1) fun d μ1 => X d μ1) := fun d ed => by
      subst ed
      have lq := powL_len h
      rw [if_pos (by rw [decide_eq_true_iff]; omega)]
      by_cases z1 : n = 1
      · rw [if_pos (by rw [decide_eq_true_iff]; omega)]
        rw [if_pos z1] at k
        exact k
      · rw [if_neg (by rw [decide_eq_true_iff]; omega)]
        rw [if_neg z1] at k
        refine str_n hn ?_
        simp only [Jbu, initE, Jcw, Jci, Jbk, Jbl, Jbz, Jcr, Jcs, Jc8, Jco, Jbm, Jcy, Jbn, Jbt, Jdb, Jdc, Jda, Jdd, Jdi, Jdf, Jdg, Jde, Jc3, Jcc, Jd5, Jd4, Jc9, Jcl, Jd3, Jd2, Jcf, Jbr, Jd1, Jck, Jbj, Jcn, Jc7, Jbi, Jcm, Jcj, Jd7, Jd6, Jd9, Jbo, Jch, Jcq, Jc1, Jcx, Jcg, Jbp, Jct, Jcz, Jdk, Jdl, Jcd, Jcu, Jcv, Jc6, Jbq, Jc0, Jbw, Jce, gt, st, Jbb, Jb9, Jba, Jb7, Jbh, Ja5, atI0, atI1, atI2, atI3, atI4, ixN20, ixN21, List.map_cons, List.map_nil, List.cons_append, List.nil_append, List.append_nil, List.length_cons, List.length_nil, List.replicate_succ, List.replicate_zero, Nat.add_one_sub_one, Jd8, Jbs, Jbx, Jby, Jbv, Jae, Jag, Jah, Jaf, Jb6, Jav, Jaw, Jak, Jau, Jb3, Jat, Jas, Jam, Jal, Jb1, Jai, Jaj, Jaz, Jb0, Jap, Jb2, Jaq, Jar, Jan, Jao, Jb5, Jb4, Ja7, Ja8, Jac, Jab, Ja0, Ja9, Jaa, Jbf, Jbg, Ja6, Jad, Jbc, Jbe, Jbd, Jb8, Ja2, Ja1, Ja4, Ja3, Jax, Jay, decide_true, decide_false, Bool.not_true, Bool.not_false, Bool.false_eq_true, if_true, if_false, true_and]
        refine int_b _ ?_
        rw [decide_eq_true (show (0 : Int) < p by omega)]
        simp only [Jbu, initE, Jcw, Jci, Jbk, Jbl, Jbz, Jcr, Jcs, Jc8, Jco, Jbm, Jcy, Jbn, Jbt, Jdb, Jdc, Jda, Jdd, Jdi, Jdf, Jdg, Jde, Jc3, Jcc, Jd5, Jd4, Jc9, Jcl, Jd3, Jd2, Jcf, Jbr, Jd1, Jck, Jbj, Jcn, Jc7, Jbi, Jcm, Jcj, Jd7, Jd6, Jd9, Jbo, Jch, Jcq, Jc1, Jcx, Jcg, Jbp, Jct, Jcz, Jdk, Jdl, Jcd, Jcu, Jcv, Jc6, Jbq, Jc0, Jbw, Jce, gt, st, Jbb, Jb9, Jba, Jb7, Jbh, Ja5, atI0, atI1, atI2, atI3, atI4, ixN20, ixN21, List.map_cons, List.map_nil, List.cons_append, List.nil_append, List.append_nil, List.length_cons, List.length_nil, List.replicate_succ, List.replicate_zero, Nat.add_one_sub_one, Jd8, Jbs, Jbx, Jby, Jbv, Jae, Jag, Jah, Jaf, Jb6, Jav, Jaw, Jak, Jau, Jb3, Jat, Jas, Jam, Jal, Jb1, Jai, Jaj, Jaz, Jb0, Jap, Jb2, Jaq, Jar, Jan, Jao, Jb5, Jb4, Ja7, Ja8, Jac, Jab, Ja0, Ja9, Jaa, Jbf, Jbg, Ja6, Jad, Jbc, Jbe, Jbd, Jb8, Ja2, Ja1, Ja4, Ja3, Jax, Jay, decide_true, decide_false, Bool.not_true, Bool.not_false, Bool.false_eq_true, if_true, if_false, true_and, sp_S]
        refine .inr ⟨rfl, ?_⟩
        simp only [Jbu, initE, Jcw, Jci, Jbk, Jbl, Jbz, Jcr, Jcs, Jc8, Jco, Jbm, Jcy, Jbn, Jbt, Jdb, Jdc, Jda, Jdd, Jdi, Jdf, Jdg, Jde, Jc3, Jcc, Jd5, Jd4, Jc9, Jcl, Jd3, Jd2, Jcf, Jbr, Jd1, Jck, Jbj, Jcn, Jc7, Jbi, Jcm, Jcj, Jd7, Jd6, Jd9, Jbo, Jch, Jcq, Jc1, Jcx, Jcg, Jbp, Jct, Jcz, Jdk, Jdl, Jcd, Jcu, Jcv, Jc6, Jbq, Jc0, Jbw, Jce, gt, st, Jbb, Jb9, Jba, Jb7, Jbh, Ja5, atI0, atI1, atI2, atI3, atI4, ixN20, ixN21, List.map_cons, List.map_nil, List.cons_append, List.nil_append, List.append_nil, List.length_cons, List.length_nil, List.replicate_succ, List.replicate_zero, Nat.add_one_sub_one, Jd8, Jbs, Jbx, Jby, Jbv, Jae, Jag, Jah, Jaf, Jb6, Jav, Jaw, Jak, Jau, Jb3, Jat, Jas, Jam, Jal, Jb1, Jai, Jaj, Jaz, Jb0, Jap, Jb2, Jaq, Jar, Jan, Jao, Jb5, Jb4, Ja7, Ja8, Jac, Jab, Ja0, Ja9, Jaa, Jbf, Jbg, Ja6, Jad, Jbc, Jbe, Jbd, Jb8, Ja2, Ja1, Ja4, Ja3, Jax, Jay, decide_true, decide_false, Bool.not_true, Bool.not_false, Bool.false_eq_true, if_true, if_false, true_and, SX.S_cat, SX.S_len]
        refine ⟨by rw [sizeLine_eq]; (try simp); omega, ?_⟩
        refine ⟨by rw [sizeLine_eq]; (try simp); omega, ?_⟩
        simp only [Jbu, initE, Jcw, Jci, Jbk, Jbl, Jbz, Jcr, Jcs, Jc8, Jco, Jbm, Jcy, Jbn, Jbt, Jdb, Jdc, Jda, Jdd, Jdi, Jdf, Jdg, Jde, Jc3, Jcc, Jd5, Jd4, Jc9, Jcl, Jd3, Jd2, Jcf, Jbr, Jd1, Jck, Jbj, Jcn, Jc7, Jbi, Jcm, Jcj, Jd7, Jd6, Jd9, Jbo, Jch, Jcq, Jc1, Jcx, Jcg, Jbp, Jct, Jcz, Jdk, Jdl, Jcd, Jcu, Jcv, Jc6, Jbq, Jc0, Jbw, Jce, gt, st, Jbb, Jb9, Jba, Jb7, Jbh, Ja5, atI0, atI1, atI2, atI3, atI4, ixN20, ixN21, List.map_cons, List.map_nil, List.cons_append, List.nil_append, List.append_nil, List.length_cons, List.length_nil, List.replicate_succ, List.replicate_zero, Nat.add_one_sub_one, Jd8, Jbs, Jbx, Jby, Jbv, Jae, Jag, Jah, Jaf, Jb6, Jav, Jaw, Jak, Jau, Jb3, Jat, Jas, Jam, Jal, Jb1, Jai, Jaj, Jaz, Jb0, Jap, Jb2, Jaq, Jar, Jan, Jao, Jb5, Jb4, Ja7, Ja8, Jac, Jab, Ja0, Ja9, Jaa, Jbf, Jbg, Ja6, Jad, Jbc, Jbe, Jbd, Jb8, Ja2, Ja1, Ja4, Ja3, Jax, Jay, decide_true, decide_false, Bool.not_true, Bool.not_false, Bool.false_eq_true, if_true, if_false, true_and, List.append_assoc]
        exact k
    by_cases z2 : p = 1
    · subst z2
      rw [if_pos (by decide)]
      refine ⟨by decide, ?_⟩
      have := rest [116] rfl
      rw [← t_S] at this
      exact this
    · rw [if_neg (by rw [decide_eq_true_iff]; omega)]
      refine str_n lp ?_
      simp only [Jbu, initE, Jcw, Jci, Jbk, Jbl, Jbz, Jcr, Jcs, Jc8, Jco, Jbm, Jcy, Jbn, Jbt, Jdb, Jdc, Jda, Jdd, Jdi, Jdf, Jdg, Jde, Jc3, Jcc, Jd5, Jd4, Jc9, Jcl, Jd3, Jd2, Jcf, Jbr, Jd1, Jck, Jbj, Jcn, Jc7, Jbi, Jcm, Jcj, Jd7, Jd6, Jd9, Jbo, Jch, Jcq, Jc1, Jcx, Jcg, Jbp, Jct, Jcz, Jdk, Jdl, Jcd, Jcu, Jcv, Jc6, Jbq, Jc0, Jbw, Jce, gt, st, Jbb, Jb9, Jba, Jb7, Jbh, Ja5, atI0, atI1, atI2, atI3, atI4, ixN20, ixN21, List.map_cons, List.map_nil, List.cons_append, List.nil_append, List.append_nil, List.length_cons, List.length_nil, List.replicate_succ, List.replicate_zero, Nat.add_one_sub_one, Jd8, Jbs, Jbx, Jby, Jbv, Jae, Jag, Jah, Jaf, Jb6, Jav, Jaw, Jak, Jau, Jb3, Jat, Jas, Jam, Jal, Jb1, Jai, Jaj, Jaz, Jb0, Jap, Jb2, Jaq, Jar, Jan, Jao, Jb5, Jb4, Ja7, Ja8, Jac, Jab, Ja0, Ja9, Jaa, Jbf, Jbg, Ja6, Jad, Jbc, Jbe, Jbd, Jb8, Ja2, Ja1, Ja4, Ja3, Jax, Jay, decide_true, decide_false, Bool.not_true, Bool.not_false, Bool.false_eq_true, if_true, if_false, true_and, th_S, SX.S_cat, SX.S_len]
      refine ⟨by rw [sizeLine_eq]; (try simp); omega, ?_⟩
      exact rest _ (by unfold powL; rw [if_neg z2]; rfl)
end
end DL

set_option Elab.async false
set_option linter.all false
set_option maxRecDepth 100000
set_option maxHeartbeats 4000000
/-! X2: the texts of rules, by the package and by the laws. -/
namespace DL
open PySem L2
open SX (S)
/-- the sign ahead of a term -/
def signL (n : Int) (first : Bool) : Tx := if first = true then (if 0 < n then [] else [45]) else (if 0 < n then [32, 43, 32] else [32, 45, 32])
def addT (acc : Tx) (n : Int) (p : Nat) : Tx := if n = 0 then acc else acc ++ (signL n (decide (acc = [])) ++ termL n.natAbs p)
/-- the text of the highest so many terms -/
def pageN (ns : List Int) : Nat → Tx
  | 0 => []
  | i + 1 => addT (pageN ns i) (ns.getD (ns.length - 1 - i) 0) (ns.length - 1 - i)
/-- the text of a rule -/
def pageL (ns : List Int) : Tx := if pageN ns ns.length = [] then [48] else pageN ns ns.length
structure Pg (ns : List Int) : Prop where
  l : ns.length ≤ 100
  b : ∀ n ∈ ns, n.natAbs.log2 < 1920
section
variable {μ : Mu} {Q X : QD} {QQ : QR} {ns : List Int}
theorem Pg.get (h : Pg ns) (j : Nat) : (ns.getD j 0).natAbs.log2 < 1920 := by
  by_cases z : j < ns.length
  · have : ns.getD j 0 = ns[j] := by simp [List.getD, z]
    rw [this]
    exact h.b _ (List.getElem_mem z)
  · have : ns.getD j 0 = 0 := by simp [List.getD, List.getElem?_eq_none_iff.mpr (Nat.not_lt.mp z)]
    rw [this]
    decide
theorem termL_len {n p : Nat} (hn : n.log2 < 1920) (hp : p ≤ 1000) : (termL n p).length ≤ 611 := by
  have l1 := numL_log hn
  have l2 := powL_len hp
  unfold termL
  split
  · omega
  · split
    · omega
    · simp
      omega
theorem signL_len (n : Int) (b : Bool) : (signL n b).length ≤ 3 := by
  unfold signL
  split <;> split <;> decide
theorem pageN_len (h : Pg ns) : ∀ i, (pageN ns i).length ≤ 620 * i
  | 0 => Nat.le_refl _
  | i + 1 => by
    have ih := pageN_len h i
    rw [pageN]
    unfold addT
    split
    · omega
    · have l1 := termL_len (h.get (ns.length - 1 - i)) (p := ns.length - 1 - i) (by have := h.l; omega)
      have l2 := signL_len (ns.getD (ns.length - 1 - i) 0) (decide (pageN ns i = []))
      rw [List.length_append, List.length_append]
      omega
theorem abs_nat (n : Int) : (if n < 0 then -n else n) = ((n.natAbs : Nat) : Int) := by
  split <;> omega
theorem minus_S : Str.ofString "-" = S [45] := by decide +kernel
theorem sm_S : Str.ofString " - " = S [32, 45, 32] := by decide +kernel
theorem sP_S : Str.ofString " + " = S [32, 43, 32] := by decide +kernel
theorem get_natX {row : List Int} {j : Nat} (q : Q (.int (row.getD j 0)) μ) : wp_Rule___getitem__ [ruleD row, .int (j : Int)] μ Q X := by
  refine ok_Rule_getitem (t := .b "int") rfl (fun i hi => ?_) fun z => ?_
  · have e : j = i := by
      injection hi with hi
      omega
    rw [← e]
    exact q
  · have z2 : decide ((0 : Int) ≤ (j : Int)) = false := z
    rw [decide_eq_true (by omega)] at z2
    cases z2
theorem int_pos {n : Int} (q : QQ (.v (.int (if 0 < n then 1 else 0))) μ) : cbInt [.bool (decide (0 < n))] μ QQ X := by
  show QQ (.v (.int (if decide (0 < n) = true then 1 else 0))) μ
  by_cases z : 0 < n
  · rw [decide_eq_true z]
    rw [if_pos z] at q
    exact q
  · rw [decide_eq_false z]
    rw [if_neg z] at q
    exact q
theorem at2S (a b : Tx) (n : Int) : atI [D.str (S a), D.str (S b)] (if 0 < n then 1 else 0) = some (.str (S (if 0 < n then b else a))) := by
  by_cases z : 0 < n
  · rw [if_pos z, if_pos z]
    rfl
  · rw [if_neg z, if_neg z]
    rfl
theorem em_eq (a : Tx) : decide (S a = Str.ofString "") = decide (a = []) := by
  rw [em_S, decide_eq_decide]
  exact s_inj
def eRt (ns : List Int) (t : Tx) (x2 x3 x4 : Option D) : EnvD := [some (ruleD ns), some (.str (S t)), x2, x3, x4]
theorem ok_rule_text (h : Pg ns) (k : Q (.str (S (pageL ns))) μ) : wp_rule_text [ruleD ns] μ Q X := by
  have hl := h.l
  unfold wp_rule_text
  simp only [Jbu, initE, Jcw, Jci, Jbk, Jbl, Jbz, Jcr, Jcs, Jc8, Jco, Jbm, Jcy, Jbn, Jbt, Jdb, Jdc, Jda, Jdd, Jdi, Jdf, Jdg, Jde, Jc3, Jcc, Jd5, Jd4, Jc9, Jcl, Jd3, Jd2, Jcf, Jbr, Jd1, Jck, Jbj, Jcn, Jc7, Jbi, Jcm, Jcj, Jd7, Jd6, Jd9, Jbo, Jch, Jcq, Jc1, Jcx, Jcg, Jbp, Jct, Jcz, Jdk, Jdl, Jcd, Jcu, Jcv, Jc6, Jbq, Jc0, Jbw, Jce, gt, st, Jbb, Jb9, Jba, Jb7, Jbh, Ja5, atI0, atI1, atI2, atI3, atI4, ixN20, ixN21, List.map_cons, List.map_nil, List.cons_append, List.nil_append, List.append_nil, List.length_cons, List.length_nil, List.replicate_succ, List.replicate_zero, Nat.add_one_sub_one, Jd8, Jbs, Jbx, Jby, Jbv, Jae, Jag, Jah, Jaf, Jb6, Jav, Jaw, Jak, Jau, Jb3, Jat, Jas, Jam, Jal, Jb1, Jai, Jaj, Jaz, Jb0, Jap, Jb2, Jaq, Jar, Jan, Jao, Jb5, Jb4, Ja7, Ja8, Jac, Jab, Ja0, Ja9, Jaa, Jbf, Jbg, Ja6, Jad, Jbc, Jbe, Jbd, Jb8, Ja2, Ja1, Ja4, Ja3, Jax, Jay, decide_true, decide_false, Bool.not_true, Bool.not_false, Bool.false_eq_true, if_true, if_false, true_and, Jdh, isOf]
  refine ⟨rfl, by decide, ok_Rule_degree ?_⟩
  refine ⟨rfl, ⟨by omega, by omega⟩, ⟨by decide, by decide⟩, by rw [downD_len]; omega, ?_⟩
  have en : ((ns.length : Int) - 1 - -1).toNat = ns.length := by omega
  rw [en]
  refine for_inv (fun i e μ' => μ' = μ ∧ ∃ x2 x3 x4, e = eRt ns (pageN ns i) x2 x3 x4) ⟨rfl, _, _, _, by rw [em_S]; rfl⟩ ?_ ?_
  · rintro i x e μ' N hx ⟨rfl, x2, x3, x4, rfl⟩ hN
    rw [downD_get] at hx
    split at hx
    · rename_i hi
      cases hx
      have ei : (ns.length : Int) - 1 + (i : Nat) * (-1) = ((ns.length - 1 - i : Nat) : Int) := by omega
      rw [ei]
      have bn := h.get (ns.length - 1 - i)
      have pl := pageN_len h i
      have hp : pageN ns (i + 1) = addT (pageN ns i) (ns.getD (ns.length - 1 - i) 0) (ns.length - 1 - i) := rfl
      refine ⟨trivial, ?_⟩
      simp only [Jbu, initE, Jcw, Jci, Jbk, Jbl, Jbz, Jcr, Jcs, Jc8, Jco, Jbm, Jcy, Jbn, Jbt, Jdb, Jdc, Jda, Jdd, Jdi, Jdf, Jdg, Jde, Jc3, Jcc, Jd5, Jd4, Jc9, Jcl, Jd3, Jd2, Jcf, Jbr, Jd1, Jck, Jbj, Jcn, Jc7, Jbi, Jcm, Jcj, Jd7, Jd6, Jd9, Jbo, Jch, Jcq, Jc1, Jcx, Jcg, Jbp, Jct, Jcz, Jdk, Jdl, Jcd, Jcu, Jcv, Jc6, Jbq, Jc0, Jbw, Jce, gt, st, Jbb, Jb9, Jba, Jb7, Jbh, Ja5, atI0, atI1, atI2, atI3, atI4, ixN20, ixN21, List.map_cons, List.map_nil, List.cons_append, List.nil_append, List.append_nil, List.length_cons, List.length_nil, List.replicate_succ, List.replicate_zero, Nat.add_one_sub_one, Jd8, Jbs, Jbx, Jby, Jbv, Jae, Jag, Jah, Jaf, Jb6, Jav, Jaw, Jak, Jau, Jb3, Jat, Jas, Jam, Jal, Jb1, Jai, Jaj, Jaz, Jb0, Jap, Jb2, Jaq, Jar, Jan, Jao, Jb5, Jb4, Ja7, Ja8, Jac, Jab, Ja0, Ja9, Jaa, Jbf, Jbg, Ja6, Jad, Jbc, Jbe, Jbd, Jb8, Ja2, Ja1, Ja4, Ja3, Jax, Jay, decide_true, decide_false, Bool.not_true, Bool.not_false, Bool.false_eq_true, if_true, if_false, true_and, eRt, oOwnIx]
      refine ⟨rfl, get_natX ?_⟩
      generalize ns.getD (ns.length - 1 - i) 0 = n at *
      have tl := termL_len bn (p := ns.length - 1 - i) (by omega)
      simp only [vR, Jbu, initE, Jcw, Jci, Jbk, Jbl, Jbz, Jcr, Jcs, Jc8, Jco, Jbm, Jcy, Jbn, Jbt, Jdb, Jdc, Jda, Jdd, Jdi, Jdf, Jdg, Jde, Jc3, Jcc, Jd5, Jd4, Jc9, Jcl, Jd3, Jd2, Jcf, Jbr, Jd1, Jck, Jbj, Jcn, Jc7, Jbi, Jcm, Jcj, Jd7, Jd6, Jd9, Jbo, Jch, Jcq, Jc1, Jcx, Jcg, Jbp, Jct, Jcz, Jdk, Jdl, Jcd, Jcu, Jcv, Jc6, Jbq, Jc0, Jbw, Jce, gt, st, Jbb, Jb9, Jba, Jb7, Jbh, Ja5, atI0, atI1, atI2, atI3, atI4, ixN20, ixN21, List.map_cons, List.map_nil, List.cons_append, List.nil_append, List.append_nil, List.length_cons, List.length_nil, List.replicate_succ, List.replicate_zero, Nat.add_one_sub_one, Jd8, Jbs, Jbx, Jby, Jbv, Jae, Jag, Jah, Jaf, Jb6, Jav, Jaw, Jak, Jau, Jb3, Jat, Jas, Jam, Jal, Jb1, Jai, Jaj, Jaz, Jb0, Jap, Jb2, Jaq, Jar, Jan, Jao, Jb5, Jb4, Ja7, Ja8, Jac, Jab, Ja0, Ja9, Jaa, Jbf, Jbg, Ja6, Jad, Jbc, Jbe, Jbd, Jb8, Ja2, Ja1, Ja4, Ja3, Jax, Jay, decide_true, decide_false, Bool.not_true, Bool.not_false, Bool.false_eq_true, if_true, if_false, true_and]
      by_cases z : n = 0
      · rw [decide_eq_true z]
        simp only [Jbu, initE, Jcw, Jci, Jbk, Jbl, Jbz, Jcr, Jcs, Jc8, Jco, Jbm, Jcy, Jbn, Jbt, Jdb, Jdc, Jda, Jdd, Jdi, Jdf, Jdg, Jde, Jc3, Jcc, Jd5, Jd4, Jc9, Jcl, Jd3, Jd2, Jcf, Jbr, Jd1, Jck, Jbj, Jcn, Jc7, Jbi, Jcm, Jcj, Jd7, Jd6, Jd9, Jbo, Jch, Jcq, Jc1, Jcx, Jcg, Jbp, Jct, Jcz, Jdk, Jdl, Jcd, Jcu, Jcv, Jc6, Jbq, Jc0, Jbw, Jce, gt, st, Jbb, Jb9, Jba, Jb7, Jbh, Ja5, atI0, atI1, atI2, atI3, atI4, ixN20, ixN21, List.map_cons, List.map_nil, List.cons_append, List.nil_append, List.append_nil, List.length_cons, List.length_nil, List.replicate_succ, List.replicate_zero, Nat.add_one_sub_one, Jd8, Jbs, Jbx, Jby, Jbv, Jae, Jag, Jah, Jaf, Jb6, Jav, Jaw, Jak, Jau, Jb3, Jat, Jas, Jam, Jal, Jb1, Jai, Jaj, Jaz, Jb0, Jap, Jb2, Jaq, Jar, Jan, Jao, Jb5, Jb4, Ja7, Ja8, Jac, Jab, Ja0, Ja9, Jaa, Jbf, Jbg, Ja6, Jad, Jbc, Jbe, Jbd, Jb8, Ja2, Ja1, Ja4, Ja3, Jax, Jay, decide_true, decide_false, Bool.not_true, Bool.not_false, Bool.false_eq_true, if_true, if_false, true_and]
        refine hN _ _ ⟨rfl, some (.int ((ns.length - 1 - i : Nat) : Int)), some (.int n), x4, ?_⟩
        rw [hp]
        unfold addT
        rw [if_pos z]
        rfl
      · rw [decide_eq_false z]
        simp only [Jbu, initE, Jcw, Jci, Jbk, Jbl, Jbz, Jcr, Jcs, Jc8, Jco, Jbm, Jcy, Jbn, Jbt, Jdb, Jdc, Jda, Jdd, Jdi, Jdf, Jdg, Jde, Jc3, Jcc, Jd5, Jd4, Jc9, Jcl, Jd3, Jd2, Jcf, Jbr, Jd1, Jck, Jbj, Jcn, Jc7, Jbi, Jcm, Jcj, Jd7, Jd6, Jd9, Jbo, Jch, Jcq, Jc1, Jcx, Jcg, Jbp, Jct, Jcz, Jdk, Jdl, Jcd, Jcu, Jcv, Jc6, Jbq, Jc0, Jbw, Jce, gt, st, Jbb, Jb9, Jba, Jb7, Jbh, Ja5, atI0, atI1, atI2, atI3, atI4, ixN20, ixN21, List.map_cons, List.map_nil, List.cons_append, List.nil_append, List.append_nil, List.length_cons, List.length_nil, List.replicate_succ, List.replicate_zero, Nat.add_one_sub_one, Jd8, Jbs, Jbx, Jby, Jbv, Jae, Jag, Jah, Jaf, Jb6, Jav, Jaw, Jak, Jau, Jb3, Jat, Jas, Jam, Jal, Jb1, Jai, Jaj, Jaz, Jb0, Jap, Jb2, Jaq, Jar, Jan, Jao, Jb5, Jb4, Ja7, Ja8, Jac, Jab, Ja0, Ja9, Jaa, Jbf, Jbg, Ja6, Jad, Jbc, Jbe, Jbd, Jb8, Ja2, Ja1, Ja4, Ja3, Jax, Jay, decide_true, decide_false, Bool.not_true, Bool.not_false, Bool.false_eq_true, if_true, if_false, true_and, em_eq, minus_S, em_S, sm_S, sP_S]
        have e1 : decide (S (pageN ns i) = S []) = decide (pageN ns i = []) := by rw [decide_eq_decide]; exact s_inj
        have sl := signL_len n (decide (pageN ns i = []))
        rw [e1]
        by_cases y : pageN ns i = []
        · rw [if_pos (decide_eq_true y)]
          have es : (if 0 < n then [] else [45]) = signL n (decide (pageN ns i = [])) := by rw [decide_eq_true y]; rfl
          refine ⟨by rw [sizeLine_eq]; decide, int_pos ?_⟩
          simp only [Jbu, initE, Jcw, Jci, Jbk, Jbl, Jbz, Jcr, Jcs, Jc8, Jco, Jbm, Jcy, Jbn, Jbt, Jdb, Jdc, Jda, Jdd, Jdi, Jdf, Jdg, Jde, Jc3, Jcc, Jd5, Jd4, Jc9, Jcl, Jd3, Jd2, Jcf, Jbr, Jd1, Jck, Jbj, Jcn, Jc7, Jbi, Jcm, Jcj, Jd7, Jd6, Jd9, Jbo, Jch, Jcq, Jc1, Jcx, Jcg, Jbp, Jct, Jcz, Jdk, Jdl, Jcd, Jcu, Jcv, Jc6, Jbq, Jc0, Jbw, Jce, gt, st, Jbb, Jb9, Jba, Jb7, Jbh, Ja5, atI0, atI1, atI2, atI3, atI4, ixN20, ixN21, List.map_cons, List.map_nil, List.cons_append, List.nil_append, List.append_nil, List.length_cons, List.length_nil, List.replicate_succ, List.replicate_zero, Nat.add_one_sub_one, Jd8, Jbs, Jbx, Jby, Jbv, Jae, Jag, Jah, Jaf, Jb6, Jav, Jaw, Jak, Jau, Jb3, Jat, Jas, Jam, Jal, Jb1, Jai, Jaj, Jaz, Jb0, Jap, Jb2, Jaq, Jar, Jan, Jao, Jb5, Jb4, Ja7, Ja8, Jac, Jab, Ja0, Ja9, Jaa, Jbf, Jbg, Ja6, Jad, Jbc, Jbe, Jbd, Jb8, Ja2, Ja1, Ja4, Ja3, Jax, Jay, decide_true, decide_false, Bool.not_true, Bool.not_false, Bool.false_eq_true, if_true, if_false, true_and]
          rw [at2S, es]
          simp only [Jbu, initE, Jcw, Jci, Jbk, Jbl, Jbz, Jcr, Jcs, Jc8, Jco, Jbm, Jcy, Jbn, Jbt, Jdb, Jdc, Jda, Jdd, Jdi, Jdf, Jdg, Jde, Jc3, Jcc, Jd5, Jd4, Jc9, Jcl, Jd3, Jd2, Jcf, Jbr, Jd1, Jck, Jbj, Jcn, Jc7, Jbi, Jcm, Jcj, Jd7, Jd6, Jd9, Jbo, Jch, Jcq, Jc1, Jcx, Jcg, Jbp, Jct, Jcz, Jdk, Jdl, Jcd, Jcu, Jcv, Jc6, Jbq, Jc0, Jbw, Jce, gt, st, Jbb, Jb9, Jba, Jb7, Jbh, Ja5, atI0, atI1, atI2, atI3, atI4, ixN20, ixN21, List.map_cons, List.map_nil, List.cons_append, List.nil_append, List.append_nil, List.length_cons, List.length_nil, List.replicate_succ, List.replicate_zero, Nat.add_one_sub_one, Jd8, Jbs, Jbx, Jby, Jbv, Jae, Jag, Jah, Jaf, Jb6, Jav, Jaw, Jak, Jau, Jb3, Jat, Jas, Jam, Jal, Jb1, Jai, Jaj, Jaz, Jb0, Jap, Jb2, Jaq, Jar, Jan, Jao, Jb5, Jb4, Ja7, Ja8, Jac, Jab, Ja0, Ja9, Jaa, Jbf, Jbg, Ja6, Jad, Jbc, Jbe, Jbd, Jb8, Ja2, Ja1, Ja4, Ja3, Jax, Jay, decide_true, decide_false, Bool.not_true, Bool.not_false, Bool.false_eq_true, if_true, if_false, true_and, SX.S_cat, SX.S_len]
          refine ⟨by rw [sizeLine_eq]; omega, ?_⟩
          rw [abs_nat]
          refine ok_term_text bn (by omega) ?_
          simp only [Jbu, initE, Jcw, Jci, Jbk, Jbl, Jbz, Jcr, Jcs, Jc8, Jco, Jbm, Jcy, Jbn, Jbt, Jdb, Jdc, Jda, Jdd, Jdi, Jdf, Jdg, Jde, Jc3, Jcc, Jd5, Jd4, Jc9, Jcl, Jd3, Jd2, Jcf, Jbr, Jd1, Jck, Jbj, Jcn, Jc7, Jbi, Jcm, Jcj, Jd7, Jd6, Jd9, Jbo, Jch, Jcq, Jc1, Jcx, Jcg, Jbp, Jct, Jcz, Jdk, Jdl, Jcd, Jcu, Jcv, Jc6, Jbq, Jc0, Jbw, Jce, gt, st, Jbb, Jb9, Jba, Jb7, Jbh, Ja5, atI0, atI1, atI2, atI3, atI4, ixN20, ixN21, List.map_cons, List.map_nil, List.cons_append, List.nil_append, List.append_nil, List.length_cons, List.length_nil, List.replicate_succ, List.replicate_zero, Nat.add_one_sub_one, Jd8, Jbs, Jbx, Jby, Jbv, Jae, Jag, Jah, Jaf, Jb6, Jav, Jaw, Jak, Jau, Jb3, Jat, Jas, Jam, Jal, Jb1, Jai, Jaj, Jaz, Jb0, Jap, Jb2, Jaq, Jar, Jan, Jao, Jb5, Jb4, Ja7, Ja8, Jac, Jab, Ja0, Ja9, Jaa, Jbf, Jbg, Ja6, Jad, Jbc, Jbe, Jbd, Jb8, Ja2, Ja1, Ja4, Ja3, Jax, Jay, decide_true, decide_false, Bool.not_true, Bool.not_false, Bool.false_eq_true, if_true, if_false, true_and, SX.S_cat, SX.S_len]
          refine ⟨by rw [sizeLine_eq, List.length_append]; omega, hN _ _ ⟨rfl, some (.int ((ns.length - 1 - i : Nat) : Int)), some (.int n), some (.tup [.str (S [45]), .str (S [])]), ?_⟩⟩
          rw [hp]
          unfold addT
          rw [if_neg z, ← List.append_assoc]
          rfl
        · rw [if_neg (by rw [decide_eq_true_iff]; exact y)]
          have es : (if 0 < n then [32, 43, 32] else [32, 45, 32]) = signL n (decide (pageN ns i = [])) := by rw [decide_eq_false y]; rfl
          refine ⟨by rw [sizeLine_eq]; decide, int_pos ?_⟩
          simp only [Jbu, initE, Jcw, Jci, Jbk, Jbl, Jbz, Jcr, Jcs, Jc8, Jco, Jbm, Jcy, Jbn, Jbt, Jdb, Jdc, Jda, Jdd, Jdi, Jdf, Jdg, Jde, Jc3, Jcc, Jd5, Jd4, Jc9, Jcl, Jd3, Jd2, Jcf, Jbr, Jd1, Jck, Jbj, Jcn, Jc7, Jbi, Jcm, Jcj, Jd7, Jd6, Jd9, Jbo, Jch, Jcq, Jc1, Jcx, Jcg, Jbp, Jct, Jcz, Jdk, Jdl, Jcd, Jcu, Jcv, Jc6, Jbq, Jc0, Jbw, Jce, gt, st, Jbb, Jb9, Jba, Jb7, Jbh, Ja5, atI0, atI1, atI2, atI3, atI4, ixN20, ixN21, List.map_cons, List.map_nil, List.cons_append, List.nil_append, List.append_nil, List.length_cons, List.length_nil, List.replicate_succ, List.replicate_zero, Nat.add_one_sub_one, Jd8, Jbs, Jbx, Jby, Jbv, Jae, Jag, Jah, Jaf, Jb6, Jav, Jaw, Jak, Jau, Jb3, Jat, Jas, Jam, Jal, Jb1, Jai, Jaj, Jaz, Jb0, Jap, Jb2, Jaq, Jar, Jan, Jao, Jb5, Jb4, Ja7, Ja8, Jac, Jab, Ja0, Ja9, Jaa, Jbf, Jbg, Ja6, Jad, Jbc, Jbe, Jbd, Jb8, Ja2, Ja1, Ja4, Ja3, Jax, Jay, decide_true, decide_false, Bool.not_true, Bool.not_false, Bool.false_eq_true, if_true, if_false, true_and]
          rw [at2S, es]
          simp only [Jbu, initE, Jcw, Jci, Jbk, Jbl, Jbz, Jcr, Jcs, Jc8, Jco, Jbm, Jcy, Jbn, Jbt, Jdb, Jdc, Jda, Jdd, Jdi, Jdf, Jdg, Jde, Jc3, Jcc, Jd5, Jd4, Jc9, Jcl, Jd3, Jd2, Jcf, Jbr, Jd1, Jck, Jbj, Jcn, Jc7, Jbi, Jcm, Jcj, Jd7, Jd6, Jd9, Jbo, Jch, Jcq, Jc1, Jcx, Jcg, Jbp, Jct, Jcz, Jdk, Jdl, Jcd, Jcu, Jcv, Jc6, Jbq, Jc0, Jbw, Jce, gt, st, Jbb, Jb9, Jba, Jb7, Jbh, Ja5, atI0, atI1, atI2, atI3, atI4, ixN20, ixN21, List.map_cons, List.map_nil, List.cons_append, List.nil_append, List.append_nil, List.length_cons, List.length_nil, List.replicate_succ, List.replicate_zero, Nat.add_one_sub_one, Jd8, Jbs, Jbx, Jby, Jbv, Jae, Jag, Jah, Jaf, Jb6, Jav, Jaw, Jak, Jau, Jb3, Jat, Jas, Jam, Jal, Jb1, Jai, Jaj, Jaz, Jb0, Jap, Jb2, Jaq, Jar, Jan, Jao, Jb5, Jb4, Ja7, Ja8, Jac, Jab, Ja0, Ja9, Jaa, Jbf, Jbg, Ja6, Jad, Jbc, Jbe, Jbd, Jb8, Ja2, Ja1, Ja4, Ja3, Jax, Jay, decide_true, decide_false, Bool.not_true, Bool.not_false, Bool.false_eq_true, if_true, if_false, true_and, SX.S_cat, SX.S_len]
          refine ⟨by rw [sizeLine_eq]; omega, ?_⟩
          rw [abs_nat]
          refine ok_term_text bn (by omega) ?_
          simp only [Jbu, initE, Jcw, Jci, Jbk, Jbl, Jbz, Jcr, Jcs, Jc8, Jco, Jbm, Jcy, Jbn, Jbt, Jdb, Jdc, Jda, Jdd, Jdi, Jdf, Jdg, Jde, Jc3, Jcc, Jd5, Jd4, Jc9, Jcl, Jd3, Jd2, Jcf, Jbr, Jd1, Jck, Jbj, Jcn, Jc7, Jbi, Jcm, Jcj, Jd7, Jd6, Jd9, Jbo, Jch, Jcq, Jc1, Jcx, Jcg, Jbp, Jct, Jcz, Jdk, Jdl, Jcd, Jcu, Jcv, Jc6, Jbq, Jc0, Jbw, Jce, gt, st, Jbb, Jb9, Jba, Jb7, Jbh, Ja5, atI0, atI1, atI2, atI3, atI4, ixN20, ixN21, List.map_cons, List.map_nil, List.cons_append, List.nil_append, List.append_nil, List.length_cons, List.length_nil, List.replicate_succ, List.replicate_zero, Nat.add_one_sub_one, Jd8, Jbs, Jbx, Jby, Jbv, Jae, Jag, Jah, Jaf, Jb6, Jav, Jaw, Jak, Jau, Jb3, Jat, Jas, Jam, Jal, Jb1, Jai, Jaj, Jaz, Jb0, Jap, Jb2, Jaq, Jar, Jan, Jao, Jb5, Jb4, Ja7, Ja8, Jac, Jab, Ja0, Ja9, Jaa, Jbf, Jbg, Ja6, Jad, Jbc, Jbe, Jbd, Jb8, Ja2, Ja1, Ja4, Ja3, Jax, Jay, decide_true, decide_false, Bool.not_true, Bool.not_false, Bool.false_eq_true, if_true, if_false, true_and, SX.S_cat, SX.S_len]
          refine ⟨by rw [sizeLine_eq, List.length_append]; omega, hN _ _ ⟨rfl, some (.int ((ns.length - 1 - i : Nat) : Int)), some (.int n), some (.tup [.str (S [32, 45, 32]), .str (S [32, 43, 32])]), ?_⟩⟩
          rw [hp]
          unfold addT
          rw [if_neg z, ← List.append_assoc]
          rfl
    · cases hx
  · rintro e μ' ⟨rfl, x2, x3, x4, rfl⟩
    refine ⟨trivial, ?_⟩
    rw [downD_len]
    simp only [Jbu, initE, Jcw, Jci, Jbk, Jbl, Jbz, Jcr, Jcs, Jc8, Jco, Jbm, Jcy, Jbn, Jbt, Jdb, Jdc, Jda, Jdd, Jdi, Jdf, Jdg, Jde, Jc3, Jcc, Jd5, Jd4, Jc9, Jcl, Jd3, Jd2, Jcf, Jbr, Jd1, Jck, Jbj, Jcn, Jc7, Jbi, Jcm, Jcj, Jd7, Jd6, Jd9, Jbo, Jch, Jcq, Jc1, Jcx, Jcg, Jbp, Jct, Jcz, Jdk, Jdl, Jcd, Jcu, Jcv, Jc6, Jbq, Jc0, Jbw, Jce, gt, st, Jbb, Jb9, Jba, Jb7, Jbh, Ja5, atI0, atI1, atI2, atI3, atI4, ixN20, ixN21, List.map_cons, List.map_nil, List.cons_append, List.nil_append, List.append_nil, List.length_cons, List.length_nil, List.replicate_succ, List.replicate_zero, Nat.add_one_sub_one, Jd8, Jbs, Jbx, Jby, Jbv, Jae, Jag, Jah, Jaf, Jb6, Jav, Jaw, Jak, Jau, Jb3, Jat, Jas, Jam, Jal, Jb1, Jai, Jaj, Jaz, Jb0, Jap, Jb2, Jaq, Jar, Jan, Jao, Jb5, Jb4, Ja7, Ja8, Jac, Jab, Ja0, Ja9, Jaa, Jbf, Jbg, Ja6, Jad, Jbc, Jbe, Jbd, Jb8, Ja2, Ja1, Ja4, Ja3, Jax, Jay, decide_true, decide_false, Bool.not_true, Bool.not_false, Bool.false_eq_true, if_true, if_false, true_and, eRt, em_eq]
    unfold pageL at k
    by_cases y : pageN ns ns.length = []
    · rw [decide_eq_true y]
      rw [if_pos y] at k
      simp only [Jbu, initE, Jcw, Jci, Jbk, Jbl, Jbz, Jcr, Jcs, Jc8, Jco, Jbm, Jcy, Jbn, Jbt, Jdb, Jdc, Jda, Jdd, Jdi, Jdf, Jdg, Jde, Jc3, Jcc, Jd5, Jd4, Jc9, Jcl, Jd3, Jd2, Jcf, Jbr, Jd1, Jck, Jbj, Jcn, Jc7, Jbi, Jcm, Jcj, Jd7, Jd6, Jd9, Jbo, Jch, Jcq, Jc1, Jcx, Jcg, Jbp, Jct, Jcz, Jdk, Jdl, Jcd, Jcu, Jcv, Jc6, Jbq, Jc0, Jbw, Jce, gt, st, Jbb, Jb9, Jba, Jb7, Jbh, Ja5, atI0, atI1, atI2, atI3, atI4, ixN20, ixN21, List.map_cons, List.map_nil, List.cons_append, List.nil_append, List.append_nil, List.length_cons, List.length_nil, List.replicate_succ, List.replicate_zero, Nat.add_one_sub_one, Jd8, Jbs, Jbx, Jby, Jbv, Jae, Jag, Jah, Jaf, Jb6, Jav, Jaw, Jak, Jau, Jb3, Jat, Jas, Jam, Jal, Jb1, Jai, Jaj, Jaz, Jb0, Jap, Jb2, Jaq, Jar, Jan, Jao, Jb5, Jb4, Ja7, Ja8, Jac, Jab, Ja0, Ja9, Jaa, Jbf, Jbg, Ja6, Jad, Jbc, Jbe, Jbd, Jb8, Ja2, Ja1, Ja4, Ja3, Jax, Jay, decide_true, decide_false, Bool.not_true, Bool.not_false, Bool.false_eq_true, if_true, if_false, true_and, zero_S]
      exact k
    · rw [decide_eq_false y]
      rw [if_neg y] at k
      simp only [Jbu, initE, Jcw, Jci, Jbk, Jbl, Jbz, Jcr, Jcs, Jc8, Jco, Jbm, Jcy, Jbn, Jbt, Jdb, Jdc, Jda, Jdd, Jdi, Jdf, Jdg, Jde, Jc3, Jcc, Jd5, Jd4, Jc9, Jcl, Jd3, Jd2, Jcf, Jbr, Jd1, Jck, Jbj, Jcn, Jc7, Jbi, Jcm, Jcj, Jd7, Jd6, Jd9, Jbo, Jch, Jcq, Jc1, Jcx, Jcg, Jbp, Jct, Jcz, Jdk, Jdl, Jcd, Jcu, Jcv, Jc6, Jbq, Jc0, Jbw, Jce, gt, st, Jbb, Jb9, Jba, Jb7, Jbh, Ja5, atI0, atI1, atI2, atI3, atI4, ixN20, ixN21, List.map_cons, List.map_nil, List.cons_append, List.nil_append, List.append_nil, List.length_cons, List.length_nil, List.replicate_succ, List.replicate_zero, Nat.add_one_sub_one, Jd8, Jbs, Jbx, Jby, Jbv, Jae, Jag, Jah, Jaf, Jb6, Jav, Jaw, Jak, Jau, Jb3, Jat, Jas, Jam, Jal, Jb1, Jai, Jaj, Jaz, Jb0, Jap, Jb2, Jaq, Jar, Jan, Jao, Jb5, Jb4, Ja7, Ja8, Jac, Jab, Ja0, Ja9, Jaa, Jbf, Jbg, Ja6, Jad, Jbc, Jbe, Jbd, Jb8, Ja2, Ja1, Ja4, Ja3, Jax, Jay, decide_true, decide_false, Bool.not_true, Bool.not_false, Bool.false_eq_true, if_true, if_false, true_and]
      exact k
def eRl (ns : List Int) (t : Tx) (x2 x3 x4 : Option D) : EnvD := [some (.list (iL ns)), some (.str (S t)), x2, x3, x4]
theorem atI_iLX {ns : List Int} {j : Nat} (h : j < ns.length) : atI (iL ns) (j : Int) = some (.int (ns.getD j 0)) := by
  have e : (iL ns)[j]? = some (.int (ns.getD j 0)) := by simp [iL, List.getD, h]
  have l : (iL ns).length = ns.length := iL_len ns
  unfold atI ixN
  rw [if_pos (by omega), if_pos (by omega)]
  simpa using e
theorem ok_law_rule_page (h : Pg ns) (k : Q (.str (S (pageL ns))) μ) : wp_law_rule_page [.list (iL ns)] μ Q X := by
  have hl := h.l
  unfold wp_law_rule_page
  simp only [Jbu, initE, Jcw, Jci, Jbk, Jbl, Jbz, Jcr, Jcs, Jc8, Jco, Jbm, Jcy, Jbn, Jbt, Jdb, Jdc, Jda, Jdd, Jdi, Jdf, Jdg, Jde, Jc3, Jcc, Jd5, Jd4, Jc9, Jcl, Jd3, Jd2, Jcf, Jbr, Jd1, Jck, Jbj, Jcn, Jc7, Jbi, Jcm, Jcj, Jd7, Jd6, Jd9, Jbo, Jch, Jcq, Jc1, Jcx, Jcg, Jbp, Jct, Jcz, Jdk, Jdl, Jcd, Jcu, Jcv, Jc6, Jbq, Jc0, Jbw, Jce, gt, st, Jbb, Jb9, Jba, Jb7, Jbh, Ja5, atI0, atI1, atI2, atI3, atI4, ixN20, ixN21, List.map_cons, List.map_nil, List.cons_append, List.nil_append, List.append_nil, List.length_cons, List.length_nil, List.replicate_succ, List.replicate_zero, Nat.add_one_sub_one, Jd8, Jbs, Jbx, Jby, Jbv, Jae, Jag, Jah, Jaf, Jb6, Jav, Jaw, Jak, Jau, Jb3, Jat, Jas, Jam, Jal, Jb1, Jai, Jaj, Jaz, Jb0, Jap, Jb2, Jaq, Jar, Jan, Jao, Jb5, Jb4, Ja7, Ja8, Jac, Jab, Ja0, Ja9, Jaa, Jbf, Jbg, Ja6, Jad, Jbc, Jbe, Jbd, Jb8, Ja2, Ja1, Ja4, Ja3, Jax, Jay, decide_true, decide_false, Bool.not_true, Bool.not_false, Bool.false_eq_true, if_true, if_false, true_and, Jdh, iL_len]
  refine ⟨⟨by omega, by omega⟩, ⟨by decide, by decide⟩, by rw [downD_len]; omega, ?_⟩
  have en : ((ns.length : Int) - 1 - -1).toNat = ns.length := by omega
  rw [en]
  refine for_inv (fun i e μ' => μ' = μ ∧ ∃ x2 x3 x4, e = eRl ns (pageN ns i) x2 x3 x4) ⟨rfl, _, _, _, by rw [em_S]; rfl⟩ ?_ ?_
  · rintro i x e μ' N hx ⟨rfl, x2, x3, x4, rfl⟩ hN
    rw [downD_get] at hx
    split at hx
    · rename_i hi
      cases hx
      have ei : (ns.length : Int) - 1 + (i : Nat) * (-1) = ((ns.length - 1 - i : Nat) : Int) := by omega
      rw [ei]
      have bn := h.get (ns.length - 1 - i)
      have pl := pageN_len h i
      have hp : pageN ns (i + 1) = addT (pageN ns i) (ns.getD (ns.length - 1 - i) 0) (ns.length - 1 - i) := rfl
      refine ⟨trivial, ?_⟩
      simp only [Jbu, initE, Jcw, Jci, Jbk, Jbl, Jbz, Jcr, Jcs, Jc8, Jco, Jbm, Jcy, Jbn, Jbt, Jdb, Jdc, Jda, Jdd, Jdi, Jdf, Jdg, Jde, Jc3, Jcc, Jd5, Jd4, Jc9, Jcl, Jd3, Jd2, Jcf, Jbr, Jd1, Jck, Jbj, Jcn, Jc7, Jbi, Jcm, Jcj, Jd7, Jd6, Jd9, Jbo, Jch, Jcq, Jc1, Jcx, Jcg, Jbp, Jct, Jcz, Jdk, Jdl, Jcd, Jcu, Jcv, Jc6, Jbq, Jc0, Jbw, Jce, gt, st, Jbb, Jb9, Jba, Jb7, Jbh, Ja5, atI0, atI1, atI2, atI3, atI4, ixN20, ixN21, List.map_cons, List.map_nil, List.cons_append, List.nil_append, List.append_nil, List.length_cons, List.length_nil, List.replicate_succ, List.replicate_zero, Nat.add_one_sub_one, Jd8, Jbs, Jbx, Jby, Jbv, Jae, Jag, Jah, Jaf, Jb6, Jav, Jaw, Jak, Jau, Jb3, Jat, Jas, Jam, Jal, Jb1, Jai, Jaj, Jaz, Jb0, Jap, Jb2, Jaq, Jar, Jan, Jao, Jb5, Jb4, Ja7, Ja8, Jac, Jab, Ja0, Ja9, Jaa, Jbf, Jbg, Ja6, Jad, Jbc, Jbe, Jbd, Jb8, Ja2, Ja1, Ja4, Ja3, Jax, Jay, decide_true, decide_false, Bool.not_true, Bool.not_false, Bool.false_eq_true, if_true, if_false, true_and, eRl, atI_iLX (show ns.length - 1 - i < ns.length by omega)]
      generalize ns.getD (ns.length - 1 - i) 0 = n at *
      have tl := termL_len bn (p := ns.length - 1 - i) (by omega)
      by_cases z : n = 0
      · rw [decide_eq_true z]
        simp only [Jbu, initE, Jcw, Jci, Jbk, Jbl, Jbz, Jcr, Jcs, Jc8, Jco, Jbm, Jcy, Jbn, Jbt, Jdb, Jdc, Jda, Jdd, Jdi, Jdf, Jdg, Jde, Jc3, Jcc, Jd5, Jd4, Jc9, Jcl, Jd3, Jd2, Jcf, Jbr, Jd1, Jck, Jbj, Jcn, Jc7, Jbi, Jcm, Jcj, Jd7, Jd6, Jd9, Jbo, Jch, Jcq, Jc1, Jcx, Jcg, Jbp, Jct, Jcz, Jdk, Jdl, Jcd, Jcu, Jcv, Jc6, Jbq, Jc0, Jbw, Jce, gt, st, Jbb, Jb9, Jba, Jb7, Jbh, Ja5, atI0, atI1, atI2, atI3, atI4, ixN20, ixN21, List.map_cons, List.map_nil, List.cons_append, List.nil_append, List.append_nil, List.length_cons, List.length_nil, List.replicate_succ, List.replicate_zero, Nat.add_one_sub_one, Jd8, Jbs, Jbx, Jby, Jbv, Jae, Jag, Jah, Jaf, Jb6, Jav, Jaw, Jak, Jau, Jb3, Jat, Jas, Jam, Jal, Jb1, Jai, Jaj, Jaz, Jb0, Jap, Jb2, Jaq, Jar, Jan, Jao, Jb5, Jb4, Ja7, Ja8, Jac, Jab, Ja0, Ja9, Jaa, Jbf, Jbg, Ja6, Jad, Jbc, Jbe, Jbd, Jb8, Ja2, Ja1, Ja4, Ja3, Jax, Jay, decide_true, decide_false, Bool.not_true, Bool.not_false, Bool.false_eq_true, if_true, if_false, true_and]
        refine hN _ _ ⟨rfl, some (.int ((ns.length - 1 - i : Nat) : Int)), some (.int n), x4, ?_⟩
        rw [hp]
        unfold addT
        rw [if_pos z]
        rfl
      · rw [decide_eq_false z]
        simp only [Jbu, initE, Jcw, Jci, Jbk, Jbl, Jbz, Jcr, Jcs, Jc8, Jco, Jbm, Jcy, Jbn, Jbt, Jdb, Jdc, Jda, Jdd, Jdi, Jdf, Jdg, Jde, Jc3, Jcc, Jd5, Jd4, Jc9, Jcl, Jd3, Jd2, Jcf, Jbr, Jd1, Jck, Jbj, Jcn, Jc7, Jbi, Jcm, Jcj, Jd7, Jd6, Jd9, Jbo, Jch, Jcq, Jc1, Jcx, Jcg, Jbp, Jct, Jcz, Jdk, Jdl, Jcd, Jcu, Jcv, Jc6, Jbq, Jc0, Jbw, Jce, gt, st, Jbb, Jb9, Jba, Jb7, Jbh, Ja5, atI0, atI1, atI2, atI3, atI4, ixN20, ixN21, List.map_cons, List.map_nil, List.cons_append, List.nil_append, List.append_nil, List.length_cons, List.length_nil, List.replicate_succ, List.replicate_zero, Nat.add_one_sub_one, Jd8, Jbs, Jbx, Jby, Jbv, Jae, Jag, Jah, Jaf, Jb6, Jav, Jaw, Jak, Jau, Jb3, Jat, Jas, Jam, Jal, Jb1, Jai, Jaj, Jaz, Jb0, Jap, Jb2, Jaq, Jar, Jan, Jao, Jb5, Jb4, Ja7, Ja8, Jac, Jab, Ja0, Ja9, Jaa, Jbf, Jbg, Ja6, Jad, Jbc, Jbe, Jbd, Jb8, Ja2, Ja1, Ja4, Ja3, Jax, Jay, decide_true, decide_false, Bool.not_true, Bool.not_false, Bool.false_eq_true, if_true, if_false, true_and, em_eq, minus_S, em_S, sm_S, sP_S]
        have e1 : decide (S (pageN ns i) = S []) = decide (pageN ns i = []) := by rw [decide_eq_decide]; exact s_inj
        have sl := signL_len n (decide (pageN ns i = []))
        rw [e1]
        by_cases y : pageN ns i = []
        · rw [if_pos (decide_eq_true y)]
          have es : (if 0 < n then [] else [45]) = signL n (decide (pageN ns i = [])) := by rw [decide_eq_true y]; rfl
          refine ⟨by rw [sizeLine_eq]; decide, int_pos ?_⟩
          simp only [Jbu, initE, Jcw, Jci, Jbk, Jbl, Jbz, Jcr, Jcs, Jc8, Jco, Jbm, Jcy, Jbn, Jbt, Jdb, Jdc, Jda, Jdd, Jdi, Jdf, Jdg, Jde, Jc3, Jcc, Jd5, Jd4, Jc9, Jcl, Jd3, Jd2, Jcf, Jbr, Jd1, Jck, Jbj, Jcn, Jc7, Jbi, Jcm, Jcj, Jd7, Jd6, Jd9, Jbo, Jch, Jcq, Jc1, Jcx, Jcg, Jbp, Jct, Jcz, Jdk, Jdl, Jcd, Jcu, Jcv, Jc6, Jbq, Jc0, Jbw, Jce, gt, st, Jbb, Jb9, Jba, Jb7, Jbh, Ja5, atI0, atI1, atI2, atI3, atI4, ixN20, ixN21, List.map_cons, List.map_nil, List.cons_append, List.nil_append, List.append_nil, List.length_cons, List.length_nil, List.replicate_succ, List.replicate_zero, Nat.add_one_sub_one, Jd8, Jbs, Jbx, Jby, Jbv, Jae, Jag, Jah, Jaf, Jb6, Jav, Jaw, Jak, Jau, Jb3, Jat, Jas, Jam, Jal, Jb1, Jai, Jaj, Jaz, Jb0, Jap, Jb2, Jaq, Jar, Jan, Jao, Jb5, Jb4, Ja7, Ja8, Jac, Jab, Ja0, Ja9, Jaa, Jbf, Jbg, Ja6, Jad, Jbc, Jbe, Jbd, Jb8, Ja2, Ja1, Ja4, Ja3, Jax, Jay, decide_true, decide_false, Bool.not_true, Bool.not_false, Bool.false_eq_true, if_true, if_false, true_and]
          rw [at2S, es]
          simp only [Jbu, initE, Jcw, Jci, Jbk, Jbl, Jbz, Jcr, Jcs, Jc8, Jco, Jbm, Jcy, Jbn, Jbt, Jdb, Jdc, Jda, Jdd, Jdi, Jdf, Jdg, Jde, Jc3, Jcc, Jd5, Jd4, Jc9, Jcl, Jd3, Jd2, Jcf, Jbr, Jd1, Jck, Jbj, Jcn, Jc7, Jbi, Jcm, Jcj, Jd7, Jd6, Jd9, Jbo, Jch, Jcq, Jc1, Jcx, Jcg, Jbp, Jct, Jcz, Jdk, Jdl, Jcd, Jcu, Jcv, Jc6, Jbq, Jc0, Jbw, Jce, gt, st, Jbb, Jb9, Jba, Jb7, Jbh, Ja5, atI0, atI1, atI2, atI3, atI4, ixN20, ixN21, List.map_cons, List.map_nil, List.cons_append, List.nil_append, List.append_nil, List.length_cons, List.length_nil, List.replicate_succ, List.replicate_zero, Nat.add_one_sub_one, Jd8, Jbs, Jbx, Jby, Jbv, Jae, Jag, Jah, Jaf, Jb6, Jav, Jaw, Jak, Jau, Jb3, Jat, Jas, Jam, Jal, Jb1, Jai, Jaj, Jaz, Jb0, Jap, Jb2, Jaq, Jar, Jan, Jao, Jb5, Jb4, Ja7, Ja8, Jac, Jab, Ja0, Ja9, Jaa, Jbf, Jbg, Ja6, Jad, Jbc, Jbe, Jbd, Jb8, Ja2, Ja1, Ja4, Ja3, Jax, Jay, decide_true, decide_false, Bool.not_true, Bool.not_false, Bool.false_eq_true, if_true, if_false, true_and, SX.S_cat, SX.S_len]
          refine ⟨by rw [sizeLine_eq]; omega, ?_⟩
          rw [abs_nat]
          refine ok_law_term_page bn (by omega) ?_
          simp only [Jbu, initE, Jcw, Jci, Jbk, Jbl, Jbz, Jcr, Jcs, Jc8, Jco, Jbm, Jcy, Jbn, Jbt, Jdb, Jdc, Jda, Jdd, Jdi, Jdf, Jdg, Jde, Jc3, Jcc, Jd5, Jd4, Jc9, Jcl, Jd3, Jd2, Jcf, Jbr, Jd1, Jck, Jbj, Jcn, Jc7, Jbi, Jcm, Jcj, Jd7, Jd6, Jd9, Jbo, Jch, Jcq, Jc1, Jcx, Jcg, Jbp, Jct, Jcz, Jdk, Jdl, Jcd, Jcu, Jcv, Jc6, Jbq, Jc0, Jbw, Jce, gt, st, Jbb, Jb9, Jba, Jb7, Jbh, Ja5, atI0, atI1, atI2, atI3, atI4, ixN20, ixN21, List.map_cons, List.map_nil, List.cons_append, List.nil_append, List.append_nil, List.length_cons, List.length_nil, List.replicate_succ, List.replicate_zero, Nat.add_one_sub_one, Jd8, Jbs, Jbx, Jby, Jbv, Jae, Jag, Jah, Jaf, Jb6, Jav, Jaw, Jak, Jau, Jb3, Jat, Jas, Jam, Jal, Jb1, Jai, Jaj, Jaz, Jb0, Jap, Jb2, Jaq, Jar, Jan, Jao, Jb5, Jb4, Ja7, Ja8, Jac, Jab, Ja0, Ja9, Jaa, Jbf, Jbg, Ja6, Jad, Jbc, Jbe, Jbd, Jb8, Ja2, Ja1, Ja4, Ja3, Jax, Jay, decide_true, decide_false, Bool.not_true, Bool.not_false, Bool.false_eq_true, if_true, if_false, true_and, SX.S_cat, SX.S_len]
          refine ⟨by rw [sizeLine_eq, List.length_append]; omega, hN _ _ ⟨rfl, some (.int ((ns.length - 1 - i : Nat) : Int)), some (.int n), some (.str (S (signL n (decide (pageN ns i = []))))), ?_⟩⟩
          rw [hp]
          unfold addT
          rw [if_neg z, ← List.append_assoc]
          rfl
        · rw [if_neg (by rw [decide_eq_true_iff]; exact y)]
          have es : (if 0 < n then [32, 43, 32] else [32, 45, 32]) = signL n (decide (pageN ns i = [])) := by rw [decide_eq_false y]; rfl
          refine ⟨by rw [sizeLine_eq]; decide, int_pos ?_⟩
          simp only [Jbu, initE, Jcw, Jci, Jbk, Jbl, Jbz, Jcr, Jcs, Jc8, Jco, Jbm, Jcy, Jbn, Jbt, Jdb, Jdc, Jda, Jdd, Jdi, Jdf, Jdg, Jde, Jc3, Jcc, Jd5, Jd4, Jc9, Jcl, Jd3, Jd2, Jcf, Jbr, Jd1, Jck, Jbj, Jcn, Jc7, Jbi, Jcm, Jcj, Jd7, Jd6, Jd9, Jbo, Jch, Jcq, Jc1, Jcx, Jcg, Jbp, Jct, Jcz, Jdk, Jdl, Jcd, Jcu, Jcv, Jc6, Jbq, Jc0, Jbw, Jce, gt, st, Jbb, Jb9, Jba, Jb7, Jbh, Ja5, atI0, atI1, atI2, atI3, atI4, ixN20, ixN21, List.map_cons, List.map_nil, List.cons_append, List.nil_append, List.append_nil, List.length_cons, List.length_nil, List.replicate_succ, List.replicate_zero, Nat.add_one_sub_one, Jd8, Jbs, Jbx, Jby, Jbv, Jae, Jag, Jah, Jaf, Jb6, Jav, Jaw, Jak, Jau, Jb3, Jat, Jas, Jam, Jal, Jb1, Jai, Jaj, Jaz, Jb0, Jap, Jb2, Jaq, Jar, Jan, Jao, Jb5, Jb4, Ja7, Ja8, Jac, Jab, Ja0, Ja9, Jaa, Jbf, Jbg, Ja6, Jad, Jbc, Jbe, Jbd, Jb8, Ja2, Ja1, Ja4, Ja3, Jax, Jay, decide_true, decide_false, Bool.not_true, Bool.not_false, Bool.false_eq_true, if_true, if_false, true_and]
          rw [at2S, es]
          simp only [Jbu, initE, Jcw, Jci, Jbk, Jbl, Jbz, Jcr, Jcs, Jc8, Jco, Jbm, Jcy, Jbn, Jbt, Jdb, Jdc, Jda, Jdd, Jdi, Jdf, Jdg, Jde, Jc3, Jcc, Jd5, Jd4, Jc9, Jcl, Jd3, Jd2, Jcf, Jbr, Jd1, Jck, Jbj, Jcn, Jc7, Jbi, Jcm, Jcj, Jd7, Jd6, Jd9, Jbo, Jch, Jcq, Jc1, Jcx, Jcg, Jbp, Jct, Jcz, Jdk, Jdl, Jcd, Jcu, Jcv, Jc6, Jbq, Jc0, Jbw, Jce, gt, st, Jbb, Jb9, Jba, Jb7, Jbh, Ja5, atI0, atI1, atI2, atI3, atI4, ixN20, ixN21, List.map_cons, List.map_nil, List.cons_append, List.nil_append, List.append_nil, List.length_cons, List.length_nil, List.replicate_succ, List.replicate_zero, Nat.add_one_sub_one, Jd8, Jbs, Jbx, Jby, Jbv, Jae, Jag, Jah, Jaf, Jb6, Jav, Jaw, Jak, Jau, Jb3, Jat, Jas, Jam, Jal, Jb1, Jai, Jaj, Jaz, Jb0, Jap, Jb2, Jaq, Jar, Jan, Jao, Jb5, Jb4, Ja7, Ja8, Jac, Jab, Ja0, Ja9, Jaa, Jbf, Jbg, Ja6, Jad, Jbc, Jbe, Jbd, Jb8, Ja2, Ja1, Ja4, Ja3, Jax, Jay, decide_true, decide_false, Bool.not_true, Bool.not_false, Bool.false_eq_true, if_true, if_false, true_and, SX.S_cat, SX.S_len]
          refine ⟨by rw [sizeLine_eq]; omega, ?_⟩
          rw [abs_nat]
          refine ok_law_term_page bn (by omega) ?_
          simp only [Jbu, initE, Jcw, Jci, Jbk, Jbl, Jbz, Jcr, Jcs, Jc8, Jco, Jbm, Jcy, Jbn, Jbt, Jdb, Jdc, Jda, Jdd, Jdi, Jdf, Jdg, Jde, Jc3, Jcc, Jd5, Jd4, Jc9, Jcl, Jd3, Jd2, Jcf, Jbr, Jd1, Jck, Jbj, Jcn, Jc7, Jbi, Jcm, Jcj, Jd7, Jd6, Jd9, Jbo, Jch, Jcq, Jc1, Jcx, Jcg, Jbp, Jct, Jcz, Jdk, Jdl, Jcd, Jcu, Jcv, Jc6, Jbq, Jc0, Jbw, Jce, gt, st, Jbb, Jb9, Jba, Jb7, Jbh, Ja5, atI0, atI1, atI2, atI3, atI4, ixN20, ixN21, List.map_cons, List.map_nil, List.cons_append, List.nil_append, List.append_nil, List.length_cons, List.length_nil, List.replicate_succ, List.replicate_zero, Nat.add_one_sub_one, Jd8, Jbs, Jbx, Jby, Jbv, Jae, Jag, Jah, Jaf, Jb6, Jav, Jaw, Jak, Jau, Jb3, Jat, Jas, Jam, Jal, Jb1, Jai, Jaj, Jaz, Jb0, Jap, Jb2, Jaq, Jar, Jan, Jao, Jb5, Jb4, Ja7, Ja8, Jac, Jab, Ja0, Ja9, Jaa, Jbf, Jbg, Ja6, Jad, Jbc, Jbe, Jbd, Jb8, Ja2, Ja1, Ja4, Ja3, Jax, Jay, decide_true, decide_false, Bool.not_true, Bool.not_false, Bool.false_eq_true, if_true, if_false, true_and, SX.S_cat, SX.S_len]
          refine ⟨by rw [sizeLine_eq, List.length_append]; omega, hN _ _ ⟨rfl, some (.int ((ns.length - 1 - i : Nat) : Int)), some (.int n), some (.str (S (signL n (decide (pageN ns i = []))))), ?_⟩⟩
          rw [hp]
          unfold addT
          rw [if_neg z, ← List.append_assoc]
          rfl
    · cases hx
  · rintro e μ' ⟨rfl, x2, x3, x4, rfl⟩
    refine ⟨trivial, ?_⟩
    rw [downD_len]
    simp only [Jbu, initE, Jcw, Jci, Jbk, Jbl, Jbz, Jcr, Jcs, Jc8, Jco, Jbm, Jcy, Jbn, Jbt, Jdb, Jdc, Jda, Jdd, Jdi, Jdf, Jdg, Jde, Jc3, Jcc, Jd5, Jd4, Jc9, Jcl, Jd3, Jd2, Jcf, Jbr, Jd1, Jck, Jbj, Jcn, Jc7, Jbi, Jcm, Jcj, Jd7, Jd6, Jd9, Jbo, Jch, Jcq, Jc1, Jcx, Jcg, Jbp, Jct, Jcz, Jdk, Jdl, Jcd, Jcu, Jcv, Jc6, Jbq, Jc0, Jbw, Jce, gt, st, Jbb, Jb9, Jba, Jb7, Jbh, Ja5, atI0, atI1, atI2, atI3, atI4, ixN20, ixN21, List.map_cons, List.map_nil, List.cons_append, List.nil_append, List.append_nil, List.length_cons, List.length_nil, List.replicate_succ, List.replicate_zero, Nat.add_one_sub_one, Jd8, Jbs, Jbx, Jby, Jbv, Jae, Jag, Jah, Jaf, Jb6, Jav, Jaw, Jak, Jau, Jb3, Jat, Jas, Jam, Jal, Jb1, Jai, Jaj, Jaz, Jb0, Jap, Jb2, Jaq, Jar, Jan, Jao, Jb5, Jb4, Ja7, Ja8, Jac, Jab, Ja0, Ja9, Jaa, Jbf, Jbg, Ja6, Jad, Jbc, Jbe, Jbd, Jb8, Ja2, Ja1, Ja4, Ja3, Jax, Jay, decide_true, decide_false, Bool.not_true, Bool.not_false, Bool.false_eq_true, if_true, if_false, true_and, eRl, em_eq]
    unfold pageL at k
    by_cases y : pageN ns ns.length = []
    · rw [decide_eq_true y]
      rw [if_pos y] at k
      simp only [Jbu, initE, Jcw, Jci, Jbk, Jbl, Jbz, Jcr, Jcs, Jc8, Jco, Jbm, Jcy, Jbn, Jbt, Jdb, Jdc, Jda, Jdd, Jdi, Jdf, Jdg, Jde, Jc3, Jcc, Jd5, Jd4, Jc9, Jcl, Jd3, Jd2, Jcf, Jbr, Jd1, Jck, Jbj, Jcn, Jc7, Jbi, Jcm, Jcj, Jd7, Jd6, Jd9, Jbo, Jch, Jcq, Jc1, Jcx, Jcg, Jbp, Jct, Jcz, Jdk, Jdl, Jcd, Jcu, Jcv, Jc6, Jbq, Jc0, Jbw, Jce, gt, st, Jbb, Jb9, Jba, Jb7, Jbh, Ja5, atI0, atI1, atI2, atI3, atI4, ixN20, ixN21, List.map_cons, List.map_nil, List.cons_append, List.nil_append, List.append_nil, List.length_cons, List.length_nil, List.replicate_succ, List.replicate_zero, Nat.add_one_sub_one, Jd8, Jbs, Jbx, Jby, Jbv, Jae, Jag, Jah, Jaf, Jb6, Jav, Jaw, Jak, Jau, Jb3, Jat, Jas, Jam, Jal, Jb1, Jai, Jaj, Jaz, Jb0, Jap, Jb2, Jaq, Jar, Jan, Jao, Jb5, Jb4, Ja7, Ja8, Jac, Jab, Ja0, Ja9, Jaa, Jbf, Jbg, Ja6, Jad, Jbc, Jbe, Jbd, Jb8, Ja2, Ja1, Ja4, Ja3, Jax, Jay, decide_true, decide_false, Bool.not_true, Bool.not_false, Bool.false_eq_true, if_true, if_false, true_and, zero_S]
      exact k
    · rw [decide_eq_false y]
      rw [if_neg y] at k
      simp only [Jbu, initE, Jcw, Jci, Jbk, Jbl, Jbz, Jcr, Jcs, Jc8, Jco, Jbm, Jcy, Jbn, Jbt, Jdb, Jdc, Jda, Jdd, Jdi, Jdf, Jdg, Jde, Jc3, Jcc, Jd5, Jd4, Jc9, Jcl, Jd3, Jd2, Jcf, Jbr, Jd1, Jck, Jbj, Jcn, Jc7, Jbi, Jcm, Jcj, Jd7, Jd6, Jd9, Jbo, Jch, Jcq, Jc1, Jcx, Jcg, Jbp, Jct, Jcz, Jdk, Jdl, Jcd, Jcu, Jcv, Jc6, Jbq, Jc0, Jbw, Jce, gt, st, Jbb, Jb9, Jba, Jb7, Jbh, Ja5, atI0, atI1, atI2, atI3, atI4, ixN20, ixN21, List.map_cons, List.map_nil, List.cons_append, List.nil_append, List.append_nil, List.length_cons, List.length_nil, List.replicate_succ, List.replicate_zero, Nat.add_one_sub_one, Jd8, Jbs, Jbx, Jby, Jbv, Jae, Jag, Jah, Jaf, Jb6, Jav, Jaw, Jak, Jau, Jb3, Jat, Jas, Jam, Jal, Jb1, Jai, Jaj, Jaz, Jb0, Jap, Jb2, Jaq, Jar, Jan, Jao, Jb5, Jb4, Ja7, Ja8, Jac, Jab, Ja0, Ja9, Jaa, Jbf, Jbg, Ja6, Jad, Jbc, Jbe, Jbd, Jb8, Ja2, Ja1, Ja4, Ja3, Jax, Jay, decide_true, decide_false, Bool.not_true, Bool.not_false, Bool.false_eq_true, if_true, if_false, true_and]
      exact k
end
end DL

set_option Elab.async false
set_option linter.all false
set_option maxRecDepth 100000
set_option maxHeartbeats 4000000
/-! X3: texts of rules read. -/
namespace DL
open PySem L2
open SX (S)
def wp_power_in : WP := (wDef 1 1 (wSeq (wIfS (wTst (wOp false oEq (wV 0) (wK (.str "t")))) (wRet (wK (.int 1))) wNext)
    (wSeq (wIfS (wOrT (wTst (wOp false oNe (wSl false oSl (wV 0) woNone (woSome (wK (.int 2)))) (wK (.str "t^")))) (wOrT (wNotT (wTst (wCall wp_is_plain_number [] (waCons (wSl false oSl (wV 0) (woSome (wK (.int 2))) woNone) (waCons (wK (.int 2)) waNil))))) (wTst (wOp false oGt (wCb false cbIntS (waCons (wSl false oSl (wV 0) (woSome (wK (.int 2))) woNone) waNil)) (wK (.int 24)))))) (wRet (wK .none)) wNext)
    (wRet (wCb false cbIntS (waCons (wSl false oSl (wV 0) (woSome (wK (.int 2))) woNone) waNil))))))
def wp_term_at : WP := (wDef 2 5 (wSeq (wAsgG (wgTup 2 (wgCons (wgN 2) (wgCons (wgN 3) wgNil))) (wTup (waCons (wK (.int 1)) (waCons (wK (.int 0)) waNil))))
    (wSeq (wIfS (wTst (wCall wp_is_plain_number [] (waCons (wOp false oIx (wV 0) (wV 1)) (waCons (wK (.int 12)) waNil)))) (wPar 2 3 (waCons (wCb false cbIntS (waCons (wOp false oIx (wV 0) (wV 1)) waNil)) (waCons (wK (.int 1)) waNil))) wNext)
    (wSeq (wAsg 4 (wIf (wTst (wOp false oLt (wOp false oAdd (wV 1) (wV 3)) (wCb false cbLen (waCons (wV 0) waNil)))) (wCall wp_power_in [] (waCons (wOp false oIx (wV 0) (wOp false oAdd (wV 1) (wV 3))) waNil)) (wK .none)))
    (wRet (wIf (wTst (wOp false oIsN (wV 4) (wK .none))) (wTup (waCons (wV 2) (waCons (wK (.int 0)) (waCons (wV 3) waNil)))) (wTup (waCons (wV 2) (waCons (wV 4) (waCons (wOp false oAdd (wV 3) (wK (.int 1))) waNil))))))))))
def wp_numbers_of_terms : WP := (wDef 2 7 (wSeq (wPar 2 3 (waCons (wDict0 true) (waCons (wK (.int 0)) waNil)))
    (wSeq (wWhile (wTst (wOp false oLt (wV 3) (wCb false cbLen (waCons (wV 0) waNil)))) (wSeq (wAsgG (wgTup 3 (wgCons (wgN 4) (wgCons (wgN 5) (wgCons (wgN 6) wgNil)))) (wCall wp_term_at [] (waCons (wV 0) (waCons (wV 3) waNil))))
    (wSeq (wIfS (wTst (wOp false oEq (wV 6) (wK (.int 0)))) (wRet (wK .none)) wNext)
    (wSeq (wKPut (wV 2) (wV 5) (wOp false oAdd (wKGet2 (wV 2) (wV 5) (wK (.int 0))) (wOp false oMul (wV 1) (wV 4))))
    (wSeq (wAug 3 (fun i j => i + j) (wV 6))
    (wIfS (wTst (wOp false oLt (wV 3) (wCb false cbLen (waCons (wV 0) waNil)))) (wSeq (wIfS (wOrT (wTst (wOp false (oIn true) (wOp false oIx (wV 0) (wV 3)) (wTup (waCons (wK (.str "+")) (waCons (wK (.str "-")) waNil))))) (wTst (wOp false oEq (wOp false oAdd (wV 3) (wK (.int 1))) (wCb false cbLen (waCons (wV 0) waNil))))) (wRet (wK .none)) wNext)
    (wSeq (wAsg 1 (wIf (wTst (wOp false oEq (wOp false oIx (wV 0) (wV 3)) (wK (.str "+")))) (wK (.int 1)) (wUn false oNeg (wK (.int 1)))))
    (wAug 3 (fun i j => i + j) (wK (.int 1))))) wNext))))))
    (wFz 2 (wRet (wV 2))))))
def wp_rule_in_0 : WS := (wAsg 1 (wOp false oEq (wSl false oSl (wV 0) woNone (woSome (wK (.int 1)))) (wK (.str "-"))))
def wp_rule_in_1 : WS := (wAsg 2 (wCall wp_numbers_of_terms [] (waCons (wSm false mSplit (wIf (wTst (wV 1)) (wSl false oSl (wV 0) (woSome (wK (.int 1))) woNone) (wV 0)) (wK (.str " "))) (waCons (wIf (wTst (wV 1)) (wUn false oNeg (wK (.int 1))) (wK (.int 1))) waNil))))
def wp_rule_in_2 : WS := (wIfS (wTst (wOp false oIsN (wV 2) (wK .none))) (wRet (wK .none)) wNext)
def wp_rule_in_3 : WS := (wAsg 3 (wMake false "Rule" wp_Rule___init__ [] (waCons (wLc false (wiRng1 (waCons (wOp false oAdd (wK (.int 24)) (wK (.int 1))) waNil)) (wgN 4) wYes (wKGet2 (wV 2) (wV 4) (wK (.int 0))) [4]) waNil)))
def wp_rule_in_4 : WS := (wRet (wIf (wTst (wOp false oEq (wCall wp_rule_text [] (waCons (wV 3) waNil)) (wV 0))) (wV 3) (wK .none)))
def wp_rule_in : WP := wDef 1 5 (wSeq wp_rule_in_0 (wSeq wp_rule_in_1 (wSeq wp_rule_in_2 (wSeq wp_rule_in_3 wp_rule_in_4))))
def wp_read_rule : WP := (wDef 1 2 (wSeq (wAsg 1 (wIf (wTst (wCb false cbIsi (waCons (wV 0) (waCons (wK (.ty "str")) waNil)))) (wCall wp_rule_in [] (waCons (wV 0) waNil)) (wK .none)))
    (wSeq (wIfS (wTst (wOp false oIsN (wV 1) (wK .none))) (wRzA "BadText" "line" (wK (.int 0))) wNext)
    (wRet (wV 1)))))
abbrev valW (w : Tx) : Nat := NumText.digitsVal w
/-- the power that a word tells -/
def powIn (w : Tx) : Option Nat := if w = [116] then some 1 else if w.take 2 = [116, 94] ∧ plainW (w.drop 2) 2 = true ∧ valW (w.drop 2) ≤ 24 then some (valW (w.drop 2)) else none
def optI : Option Nat → D
  | some p => .int (p : Int)
  | none => .none
/-- the number, the power and the words of a term at the beginning of words -/
def termW (R : List Tx) : Nat × Nat × Nat :=
  let nu := if plainW (R.headD []) 12 = true then (valW (R.headD []), 1) else (1, 0)
  match (R.drop nu.2).head?.bind powIn with
  | some p => (nu.1, p, nu.2 + 1)
  | none => (nu.1, 0, nu.2)
abbrev wD (ws : List Tx) : D := .list (ws.map fun w => D.str (S w))
section
variable {μ : Mu} {Q X : QD} {QQ : QR} {w : Tx} {ws : List Tx}
theorem plainW_dig {m : Nat} (h : plainW w m = true) : digW w = true ∧ w ≠ [] ∧ w.length ≤ m := by
  unfold plainW at h
  simp only [Bool.and_eq_true, decide_eq_true_iff] at h
  exact ⟨h.2.1, fun z => by rw [z] at h; simp at h, h.1.2⟩
theorem int_plain {m : Nat} (h : plainW w m = true) (hm : m ≤ 600) (q : QQ (.v (.int ((valW w : Nat) : Int))) μ) : cbIntS [.str (S w)] μ QQ X := by
  obtain ⟨h1, h2, h3⟩ := plainW_dig h
  have e := SX.int_S h1 h2 (by omega)
  show (match intText? (S w) with | some n => (S w).length ≤ 640 ∧ QQ (.v (.int n)) μ | none => False)
  rw [e, SX.S_len]
  exact ⟨by omega, q⟩
theorem sl_S (lo hi : Option Int) (hl : w.length ≤ 16000000) (q : QQ (.v (.str (Txt.slice (S w) lo hi))) μ) : oSl (.str (S w)) lo hi μ QQ X := by
  show (S w).length ≤ sizeLine ∧ QQ (.v (.str (cutS (S w) lo hi))) μ
  rw [SX.S_len, C8.cutS_slice]
  exact ⟨Nat.le_trans hl (by rw [sizeLine_eq]; decide), q⟩
theorem sl_to {i : Nat} (hl : w.length ≤ 16000000) (q : QQ (.v (.str (S (w.take i)))) μ) : oSl (.str (S w)) none (some (i : Int)) μ QQ X := sl_S _ _ hl (by
  rw [SX.slice_to (by omega), Int.toNat_natCast]
  exact q)
theorem sl_from {i : Nat} (hl : w.length ≤ 16000000) (q : QQ (.v (.str (S (w.drop i)))) μ) : oSl (.str (S w)) (some (i : Int)) none μ QQ X := sl_S _ _ hl (by
  rw [SX.slice_from (by omega), Int.toNat_natCast]
  exact q)
theorem ok_power_in (hl : w.length ≤ 16000000) (k : Q (optI (powIn w)) μ) : wp_power_in [.str (S w)] μ Q X := by
  have hd : (w.drop 2).length ≤ 16000000 := by rw [List.length_drop]; omega
  unfold wp_power_in
  simp only [Jbu, initE, Jcw, Jci, Jbk, Jbl, Jbz, Jcr, Jcs, Jc8, Jco, Jbm, Jcy, Jbn, Jbt, Jdb, Jdc, Jda, Jdd, Jdi, Jdf, Jdg, Jde, Jc3, Jcc, Jd5, Jd4, Jc9, Jcl, Jd3, Jd2, Jcf, Jbr, Jd1, Jck, Jbj, Jcn, Jc7, Jbi, Jcm, Jcj, Jd7, Jd6, Jd9, Jbo, Jch, Jcq, Jc1, Jcx, Jcg, Jbp, Jct, Jcz, Jdk, Jdl, Jcd, Jcu, Jcv, Jc6, Jbq, Jc0, Jbw, Jce, gt, st, Jbb, Jb9, Jba, Jb7, Jbh, Ja5, atI0, atI1, atI2, atI3, atI4, ixN20, ixN21, List.map_cons, List.map_nil, List.cons_append, List.nil_append, List.append_nil, List.length_cons, List.length_nil, List.replicate_succ, List.replicate_zero, Nat.add_one_sub_one, Jd8, Jbs, Jbx, Jby, Jbv, Jae, Jag, Jah, Jaf, Jb6, Jav, Jaw, Jak, Jau, Jb3, Jat, Jas, Jam, Jal, Jb1, Jai, Jaj, Jaz, Jb0, Jap, Jb2, Jaq, Jar, Jan, Jao, Jb5, Jb4, Ja7, Ja8, Jac, Jab, Ja0, Ja9, Jaa, Jbf, Jbg, Ja6, Jad, Jbc, Jbe, Jbd, Jb8, Ja2, Ja1, Ja4, Ja3, Jax, Jay, decide_true, decide_false, Bool.not_true, Bool.not_false, Bool.false_eq_true, if_true, if_false, true_and, t_S, th_S]
  have e1 : decide (S w = S [116]) = decide (w = [116]) := by rw [decide_eq_decide]; exact s_inj
  rw [e1]
  unfold powIn at k
  by_cases z : w = [116]
  · rw [if_pos (decide_eq_true z)]
    rw [if_pos z] at k
    exact k
  · rw [if_neg (by rw [decide_eq_true_iff]; exact z)]
    rw [if_neg z] at k
    refine sl_to (i := 2) hl ?_
    simp only [Jbu, initE, Jcw, Jci, Jbk, Jbl, Jbz, Jcr, Jcs, Jc8, Jco, Jbm, Jcy, Jbn, Jbt, Jdb, Jdc, Jda, Jdd, Jdi, Jdf, Jdg, Jde, Jc3, Jcc, Jd5, Jd4, Jc9, Jcl, Jd3, Jd2, Jcf, Jbr, Jd1, Jck, Jbj, Jcn, Jc7, Jbi, Jcm, Jcj, Jd7, Jd6, Jd9, Jbo, Jch, Jcq, Jc1, Jcx, Jcg, Jbp, Jct, Jcz, Jdk, Jdl, Jcd, Jcu, Jcv, Jc6, Jbq, Jc0, Jbw, Jce, gt, st, Jbb, Jb9, Jba, Jb7, Jbh, Ja5, atI0, atI1, atI2, atI3, atI4, ixN20, ixN21, List.map_cons, List.map_nil, List.cons_append, List.nil_append, List.append_nil, List.length_cons, List.length_nil, List.replicate_succ, List.replicate_zero, Nat.add_one_sub_one, Jd8, Jbs, Jbx, Jby, Jbv, Jae, Jag, Jah, Jaf, Jb6, Jav, Jaw, Jak, Jau, Jb3, Jat, Jas, Jam, Jal, Jb1, Jai, Jaj, Jaz, Jb0, Jap, Jb2, Jaq, Jar, Jan, Jao, Jb5, Jb4, Ja7, Ja8, Jac, Jab, Ja0, Ja9, Jaa, Jbf, Jbg, Ja6, Jad, Jbc, Jbe, Jbd, Jb8, Ja2, Ja1, Ja4, Ja3, Jax, Jay, decide_true, decide_false, Bool.not_true, Bool.not_false, Bool.false_eq_true, if_true, if_false, true_and]
    have e2 : decide (S (w.take 2) = S [116, 94]) = decide (w.take 2 = [116, 94]) := by rw [decide_eq_decide]; exact s_inj
    rw [e2]
    by_cases z2 : w.take 2 = [116, 94]
    · rw [decide_eq_true z2, if_neg (by decide)]
      refine sl_from (i := 2) hl ?_
      simp only [Jbu, initE, Jcw, Jci, Jbk, Jbl, Jbz, Jcr, Jcs, Jc8, Jco, Jbm, Jcy, Jbn, Jbt, Jdb, Jdc, Jda, Jdd, Jdi, Jdf, Jdg, Jde, Jc3, Jcc, Jd5, Jd4, Jc9, Jcl, Jd3, Jd2, Jcf, Jbr, Jd1, Jck, Jbj, Jcn, Jc7, Jbi, Jcm, Jcj, Jd7, Jd6, Jd9, Jbo, Jch, Jcq, Jc1, Jcx, Jcg, Jbp, Jct, Jcz, Jdk, Jdl, Jcd, Jcu, Jcv, Jc6, Jbq, Jc0, Jbw, Jce, gt, st, Jbb, Jb9, Jba, Jb7, Jbh, Ja5, atI0, atI1, atI2, atI3, atI4, ixN20, ixN21, List.map_cons, List.map_nil, List.cons_append, List.nil_append, List.append_nil, List.length_cons, List.length_nil, List.replicate_succ, List.replicate_zero, Nat.add_one_sub_one, Jd8, Jbs, Jbx, Jby, Jbv, Jae, Jag, Jah, Jaf, Jb6, Jav, Jaw, Jak, Jau, Jb3, Jat, Jas, Jam, Jal, Jb1, Jai, Jaj, Jaz, Jb0, Jap, Jb2, Jaq, Jar, Jan, Jao, Jb5, Jb4, Ja7, Ja8, Jac, Jab, Ja0, Ja9, Jaa, Jbf, Jbg, Ja6, Jad, Jbc, Jbe, Jbd, Jb8, Ja2, Ja1, Ja4, Ja3, Jax, Jay, decide_true, decide_false, Bool.not_true, Bool.not_false, Bool.false_eq_true, if_true, if_false, true_and]
      refine ok_is_plain_number hd (m := 2) ?_
      simp only [Jbu, initE, Jcw, Jci, Jbk, Jbl, Jbz, Jcr, Jcs, Jc8, Jco, Jbm, Jcy, Jbn, Jbt, Jdb, Jdc, Jda, Jdd, Jdi, Jdf, Jdg, Jde, Jc3, Jcc, Jd5, Jd4, Jc9, Jcl, Jd3, Jd2, Jcf, Jbr, Jd1, Jck, Jbj, Jcn, Jc7, Jbi, Jcm, Jcj, Jd7, Jd6, Jd9, Jbo, Jch, Jcq, Jc1, Jcx, Jcg, Jbp, Jct, Jcz, Jdk, Jdl, Jcd, Jcu, Jcv, Jc6, Jbq, Jc0, Jbw, Jce, gt, st, Jbb, Jb9, Jba, Jb7, Jbh, Ja5, atI0, atI1, atI2, atI3, atI4, ixN20, ixN21, List.map_cons, List.map_nil, List.cons_append, List.nil_append, List.append_nil, List.length_cons, List.length_nil, List.replicate_succ, List.replicate_zero, Nat.add_one_sub_one, Jd8, Jbs, Jbx, Jby, Jbv, Jae, Jag, Jah, Jaf, Jb6, Jav, Jaw, Jak, Jau, Jb3, Jat, Jas, Jam, Jal, Jb1, Jai, Jaj, Jaz, Jb0, Jap, Jb2, Jaq, Jar, Jan, Jao, Jb5, Jb4, Ja7, Ja8, Jac, Jab, Ja0, Ja9, Jaa, Jbf, Jbg, Ja6, Jad, Jbc, Jbe, Jbd, Jb8, Ja2, Ja1, Ja4, Ja3, Jax, Jay, decide_true, decide_false, Bool.not_true, Bool.not_false, Bool.false_eq_true, if_true, if_false, true_and]
      cases pl : plainW (w.drop 2) 2 with
      | false =>
        rw [if_neg (by rw [pl]; simp)] at k
        rw [if_pos (by decide)]
        exact k
      | true =>
        rw [if_neg (by decide)]
        refine sl_from (i := 2) hl ?_
        simp only [Jbu, initE, Jcw, Jci, Jbk, Jbl, Jbz, Jcr, Jcs, Jc8, Jco, Jbm, Jcy, Jbn, Jbt, Jdb, Jdc, Jda, Jdd, Jdi, Jdf, Jdg, Jde, Jc3, Jcc, Jd5, Jd4, Jc9, Jcl, Jd3, Jd2, Jcf, Jbr, Jd1, Jck, Jbj, Jcn, Jc7, Jbi, Jcm, Jcj, Jd7, Jd6, Jd9, Jbo, Jch, Jcq, Jc1, Jcx, Jcg, Jbp, Jct, Jcz, Jdk, Jdl, Jcd, Jcu, Jcv, Jc6, Jbq, Jc0, Jbw, Jce, gt, st, Jbb, Jb9, Jba, Jb7, Jbh, Ja5, atI0, atI1, atI2, atI3, atI4, ixN20, ixN21, List.map_cons, List.map_nil, List.cons_append, List.nil_append, List.append_nil, List.length_cons, List.length_nil, List.replicate_succ, List.replicate_zero, Nat.add_one_sub_one, Jd8, Jbs, Jbx, Jby, Jbv, Jae, Jag, Jah, Jaf, Jb6, Jav, Jaw, Jak, Jau, Jb3, Jat, Jas, Jam, Jal, Jb1, Jai, Jaj, Jaz, Jb0, Jap, Jb2, Jaq, Jar, Jan, Jao, Jb5, Jb4, Ja7, Ja8, Jac, Jab, Ja0, Ja9, Jaa, Jbf, Jbg, Ja6, Jad, Jbc, Jbe, Jbd, Jb8, Ja2, Ja1, Ja4, Ja3, Jax, Jay, decide_true, decide_false, Bool.not_true, Bool.not_false, Bool.false_eq_true, if_true, if_false, true_and]
        refine int_plain pl (by decide) ?_
        simp only [Jbu, initE, Jcw, Jci, Jbk, Jbl, Jbz, Jcr, Jcs, Jc8, Jco, Jbm, Jcy, Jbn, Jbt, Jdb, Jdc, Jda, Jdd, Jdi, Jdf, Jdg, Jde, Jc3, Jcc, Jd5, Jd4, Jc9, Jcl, Jd3, Jd2, Jcf, Jbr, Jd1, Jck, Jbj, Jcn, Jc7, Jbi, Jcm, Jcj, Jd7, Jd6, Jd9, Jbo, Jch, Jcq, Jc1, Jcx, Jcg, Jbp, Jct, Jcz, Jdk, Jdl, Jcd, Jcu, Jcv, Jc6, Jbq, Jc0, Jbw, Jce, gt, st, Jbb, Jb9, Jba, Jb7, Jbh, Ja5, atI0, atI1, atI2, atI3, atI4, ixN20, ixN21, List.map_cons, List.map_nil, List.cons_append, List.nil_append, List.append_nil, List.length_cons, List.length_nil, List.replicate_succ, List.replicate_zero, Nat.add_one_sub_one, Jd8, Jbs, Jbx, Jby, Jbv, Jae, Jag, Jah, Jaf, Jb6, Jav, Jaw, Jak, Jau, Jb3, Jat, Jas, Jam, Jal, Jb1, Jai, Jaj, Jaz, Jb0, Jap, Jb2, Jaq, Jar, Jan, Jao, Jb5, Jb4, Ja7, Ja8, Jac, Jab, Ja0, Ja9, Jaa, Jbf, Jbg, Ja6, Jad, Jbc, Jbe, Jbd, Jb8, Ja2, Ja1, Ja4, Ja3, Jax, Jay, decide_true, decide_false, Bool.not_true, Bool.not_false, Bool.false_eq_true, if_true, if_false, true_and]
        by_cases z3 : valW (w.drop 2) ≤ 24
        · rw [if_pos ⟨z2, pl, z3⟩] at k
          rw [if_neg (by rw [decide_eq_true_iff]; omega)]
          refine sl_from (i := 2) hl ?_
          simp only [Jbu, initE, Jcw, Jci, Jbk, Jbl, Jbz, Jcr, Jcs, Jc8, Jco, Jbm, Jcy, Jbn, Jbt, Jdb, Jdc, Jda, Jdd, Jdi, Jdf, Jdg, Jde, Jc3, Jcc, Jd5, Jd4, Jc9, Jcl, Jd3, Jd2, Jcf, Jbr, Jd1, Jck, Jbj, Jcn, Jc7, Jbi, Jcm, Jcj, Jd7, Jd6, Jd9, Jbo, Jch, Jcq, Jc1, Jcx, Jcg, Jbp, Jct, Jcz, Jdk, Jdl, Jcd, Jcu, Jcv, Jc6, Jbq, Jc0, Jbw, Jce, gt, st, Jbb, Jb9, Jba, Jb7, Jbh, Ja5, atI0, atI1, atI2, atI3, atI4, ixN20, ixN21, List.map_cons, List.map_nil, List.cons_append, List.nil_append, List.append_nil, List.length_cons, List.length_nil, List.replicate_succ, List.replicate_zero, Nat.add_one_sub_one, Jd8, Jbs, Jbx, Jby, Jbv, Jae, Jag, Jah, Jaf, Jb6, Jav, Jaw, Jak, Jau, Jb3, Jat, Jas, Jam, Jal, Jb1, Jai, Jaj, Jaz, Jb0, Jap, Jb2, Jaq, Jar, Jan, Jao, Jb5, Jb4, Ja7, Ja8, Jac, Jab, Ja0, Ja9, Jaa, Jbf, Jbg, Ja6, Jad, Jbc, Jbe, Jbd, Jb8, Ja2, Ja1, Ja4, Ja3, Jax, Jay, decide_true, decide_false, Bool.not_true, Bool.not_false, Bool.false_eq_true, if_true, if_false, true_and]
          exact int_plain pl (by decide) k
        · rw [if_neg (fun y => z3 y.2.2)] at k
          rw [if_pos (by rw [decide_eq_true_iff]; omega)]
          exact k
    · rw [decide_eq_false z2, if_pos (by decide)]
      rw [if_neg (fun y => z2 y.1)] at k
      exact k
theorem at_qX {l : List D} {j : Nat} {x : D} (h : l[j]? = some x) : atI l (j : Int) = some x := by
  have hj := (List.getElem?_eq_some_iff.mp h).1
  unfold atI ixN
  rw [if_pos (by omega), if_pos (by omega)]
  simpa using h
theorem at_wD {j : Nat} {w : Tx} (h : ws[j]? = some w) : atI (ws.map fun w => D.str (S w)) (j : Int) = some (.str (S w)) := at_qX (by rw [List.getElem?_map, h]; rfl)
theorem ok_term_at {j : Nat} {w : Tx} (hj : ws[j]? = some w) (hl : ∀ w ∈ ws, w.length ≤ 16000000) (k : Q (.tup [.int ((termW (ws.drop j)).1 : Nat), .int ((termW (ws.drop j)).2.1 : Nat), .int ((termW (ws.drop j)).2.2 : Nat)]) μ) : wp_term_at [wD ws, .int (j : Int)] μ Q X := by
  have lj := (List.getElem?_eq_some_iff.mp hj).1
  have e : ws.drop j = w :: ws.drop (j + 1) := by
    rw [List.drop_eq_getElem_cons lj, (List.getElem?_eq_some_iff.mp hj).2]
  have hw := hl _ (List.mem_of_getElem? hj)
  have lm : ((ws.map fun w => D.str (S w)).length : Int) = ws.length := by rw [List.length_map]
  have fin : ∀ (n u : Nat), Q (match ((ws.drop j).drop u).head?.bind powIn with | some p => .tup [.int (n : Int), .int (p : Int), .int ((u + 1 : Nat) : Int)] | none => .tup [.int (n : Int), .int 0, .int (u : Int)]) μ →
      (if decide ((j : Int) + (u : Int) < ((ws.map fun w => D.str (S w)).length : Int)) = true then
          match atI (ws.map fun w => D.str (S w)) ((j : Int) + (u : Int)) with
          | some d => wp_power_in [d] μ (fun d μ1 => if isNone d = true then 0 + 1 + 1 + 1 ≤ sizeLine ∧ Q (D.tup [.int (n : Int), D.int 0, D.int (u : Int)]) μ1 else 0 + 1 + 1 + 1 ≤ sizeLine ∧ Q (D.tup [.int (n : Int), d, D.int ((u : Int) + 1)]) μ1) fun d μ1 => X d μ1
          | none => False
        else if isNone D.none = true then 0 + 1 + 1 + 1 ≤ sizeLine ∧ Q (D.tup [.int (n : Int), D.int 0, D.int (u : Int)]) μ else 0 + 1 + 1 + 1 ≤ sizeLine ∧ Q (D.tup [.int (n : Int), D.none, D.int ((u : Int) + 1)]) μ) := fun n u k => by
    rw [List.drop_drop] at k
    by_cases z : j + u < ws.length
    · rw [if_pos (by rw [decide_eq_true_iff]; omega)]
      have h2 : ws[j + u]? = some ws[j + u] := List.getElem?_eq_getElem z
      have e2 := at_wD h2
      rw [show ((j + u : Nat) : Int) = (j : Int) + (u : Int) by omega] at e2
      rw [e2]
      have ed : (ws.drop (j + u)).head? = some ws[j + u] := by rw [List.drop_eq_getElem_cons z]; rfl
      rw [ed] at k
      refine ok_power_in (hl _ (List.getElem_mem z)) ?_
      simp only [Option.bind_some] at k
      cases hp : powIn ws[j + u] with
      | none =>
        rw [hp] at k
        exact ⟨by rw [sizeLine_eq]; decide, k⟩
      | some p =>
        rw [hp] at k
        exact ⟨by rw [sizeLine_eq]; decide, k⟩
    · rw [if_neg (by rw [decide_eq_true_iff]; omega)]
      have ed : (ws.drop (j + u)).head? = none := by rw [List.drop_eq_nil_of_le (by omega)]; rfl
      rw [ed] at k
      exact ⟨by rw [sizeLine_eq]; decide, k⟩
  have res : ∀ n u, (if plainW w 12 = true then (valW w, 1) else (1, 0)) = (n, u) → (D.tup [.int ((termW (ws.drop j)).1 : Nat), .int ((termW (ws.drop j)).2.1 : Nat), .int ((termW (ws.drop j)).2.2 : Nat)]) = (match ((ws.drop j).drop u).head?.bind powIn with | some p => D.tup [.int (n : Int), .int (p : Int), .int ((u + 1 : Nat) : Int)] | none => .tup [.int (n : Int), .int 0, .int (u : Int)]) := fun n u hnu => by
    unfold termW
    have eh : (ws.drop j).headD [] = w := by rw [e]; rfl
    rw [eh, hnu]
    dsimp only
    cases ((ws.drop j).drop u).head?.bind powIn <;> rfl
  unfold wp_term_at
  simp only [Jbu, initE, Jcw, Jci, Jbk, Jbl, Jbz, Jcr, Jcs, Jc8, Jco, Jbm, Jcy, Jbn, Jbt, Jdb, Jdc, Jda, Jdd, Jdi, Jdf, Jdg, Jde, Jc3, Jcc, Jd5, Jd4, Jc9, Jcl, Jd3, Jd2, Jcf, Jbr, Jd1, Jck, Jbj, Jcn, Jc7, Jbi, Jcm, Jcj, Jd7, Jd6, Jd9, Jbo, Jch, Jcq, Jc1, Jcx, Jcg, Jbp, Jct, Jcz, Jdk, Jdl, Jcd, Jcu, Jcv, Jc6, Jbq, Jc0, Jbw, Jce, gt, st, Jbb, Jb9, Jba, Jb7, Jbh, Ja5, atI0, atI1, atI2, atI3, atI4, ixN20, ixN21, List.map_cons, List.map_nil, List.cons_append, List.nil_append, List.append_nil, List.length_cons, List.length_nil, List.replicate_succ, List.replicate_zero, Nat.add_one_sub_one, Jd8, Jbs, Jbx, Jby, Jbv, Jae, Jag, Jah, Jaf, Jb6, Jav, Jaw, Jak, Jau, Jb3, Jat, Jas, Jam, Jal, Jb1, Jai, Jaj, Jaz, Jb0, Jap, Jb2, Jaq, Jar, Jan, Jao, Jb5, Jb4, Ja7, Ja8, Jac, Jab, Ja0, Ja9, Jaa, Jbf, Jbg, Ja6, Jad, Jbc, Jbe, Jbd, Jb8, Ja2, Ja1, Ja4, Ja3, Jax, Jay, decide_true, decide_false, Bool.not_true, Bool.not_false, Bool.false_eq_true, if_true, if_false, true_and, at_wD hj]
  refine ⟨by rw [sizeLine_eq]; decide, ok_is_plain_number hw (m := 12) ?_⟩
  simp only [Jbu, initE, Jcw, Jci, Jbk, Jbl, Jbz, Jcr, Jcs, Jc8, Jco, Jbm, Jcy, Jbn, Jbt, Jdb, Jdc, Jda, Jdd, Jdi, Jdf, Jdg, Jde, Jc3, Jcc, Jd5, Jd4, Jc9, Jcl, Jd3, Jd2, Jcf, Jbr, Jd1, Jck, Jbj, Jcn, Jc7, Jbi, Jcm, Jcj, Jd7, Jd6, Jd9, Jbo, Jch, Jcq, Jc1, Jcx, Jcg, Jbp, Jct, Jcz, Jdk, Jdl, Jcd, Jcu, Jcv, Jc6, Jbq, Jc0, Jbw, Jce, gt, st, Jbb, Jb9, Jba, Jb7, Jbh, Ja5, atI0, atI1, atI2, atI3, atI4, ixN20, ixN21, List.map_cons, List.map_nil, List.cons_append, List.nil_append, List.append_nil, List.length_cons, List.length_nil, List.replicate_succ, List.replicate_zero, Nat.add_one_sub_one, Jd8, Jbs, Jbx, Jby, Jbv, Jae, Jag, Jah, Jaf, Jb6, Jav, Jaw, Jak, Jau, Jb3, Jat, Jas, Jam, Jal, Jb1, Jai, Jaj, Jaz, Jb0, Jap, Jb2, Jaq, Jar, Jan, Jao, Jb5, Jb4, Ja7, Ja8, Jac, Jab, Ja0, Ja9, Jaa, Jbf, Jbg, Ja6, Jad, Jbc, Jbe, Jbd, Jb8, Ja2, Ja1, Ja4, Ja3, Jax, Jay, decide_true, decide_false, Bool.not_true, Bool.not_false, Bool.false_eq_true, if_true, if_false, true_and]
  cases pl : plainW w 12 with
  | true =>
    rw [if_pos rfl]
    refine int_plain pl (by decide) ?_
    simp only [Jbu, initE, Jcw, Jci, Jbk, Jbl, Jbz, Jcr, Jcs, Jc8, Jco, Jbm, Jcy, Jbn, Jbt, Jdb, Jdc, Jda, Jdd, Jdi, Jdf, Jdg, Jde, Jc3, Jcc, Jd5, Jd4, Jc9, Jcl, Jd3, Jd2, Jcf, Jbr, Jd1, Jck, Jbj, Jcn, Jc7, Jbi, Jcm, Jcj, Jd7, Jd6, Jd9, Jbo, Jch, Jcq, Jc1, Jcx, Jcg, Jbp, Jct, Jcz, Jdk, Jdl, Jcd, Jcu, Jcv, Jc6, Jbq, Jc0, Jbw, Jce, gt, st, Jbb, Jb9, Jba, Jb7, Jbh, Ja5, atI0, atI1, atI2, atI3, atI4, ixN20, ixN21, List.map_cons, List.map_nil, List.cons_append, List.nil_append, List.append_nil, List.length_cons, List.length_nil, List.replicate_succ, List.replicate_zero, Nat.add_one_sub_one, Jd8, Jbs, Jbx, Jby, Jbv, Jae, Jag, Jah, Jaf, Jb6, Jav, Jaw, Jak, Jau, Jb3, Jat, Jas, Jam, Jal, Jb1, Jai, Jaj, Jaz, Jb0, Jap, Jb2, Jaq, Jar, Jan, Jao, Jb5, Jb4, Ja7, Ja8, Jac, Jab, Ja0, Ja9, Jaa, Jbf, Jbg, Ja6, Jad, Jbc, Jbe, Jbd, Jb8, Ja2, Ja1, Ja4, Ja3, Jax, Jay, decide_true, decide_false, Bool.not_true, Bool.not_false, Bool.false_eq_true, if_true, if_false, true_and]
    refine fin (valW w) 1 ?_
    rw [← res _ _ (by rw [pl]; rfl)]
    exact k
  | false =>
    rw [if_neg (by decide)]
    refine fin 1 0 ?_
    rw [← res _ _ (by rw [pl]; rfl)]
    exact k
/-! ### the numbers of all terms -/
abbrev Nm := List (Nat × Int)
def kN (m : Nm) : List Key := m.map fun e => Sum.inl (e.1 : Int)
def vN (m : Nm) : List D := m.map fun e => D.int e.2
def getN (p : Nat) : Nm → Int
  | [] => 0
  | e :: m => if e.1 = p then e.2 else getN p m
def putN0 (p : Nat) (c : Int) (m : Nm) : Nm := if m.any (fun e => decide (e.1 = p)) = true then m.map (fun e => if e.1 = p then (e.1, c) else e) else m ++ [(p, c)]
theorem getK_N (p : Nat) : ∀ m : Nm, (getK (Sum.inl (p : Int)) (kN m) (vN m)).getD (.int 0) = .int (getN p m)
  | [] => rfl
  | e :: m => by
    show (getK (Sum.inl (p : Int)) (Sum.inl (e.1 : Int) :: kN m) (D.int e.2 :: vN m)).getD (.int 0) = .int (if e.1 = p then e.2 else getN p m)
    rw [getK]
    by_cases h : e.1 = p
    · rw [if_pos h, if_pos (by rw [h])]
      rfl
    · rw [if_neg h, if_neg (fun z => h (by injection z with z; omega))]
      exact getK_N p m
theorem putI_N (p : Nat) (c : Int) (m : Nm) : putI (Sum.inl (p : Int)) (.int c) (kN m) (vN m) = (kN (putN0 p c m), vN (putN0 p c m)) := by
  have e1 : memI (Sum.inl (p : Int)) (kN m) = m.any (fun e => decide (e.1 = p)) := by
    unfold memI kN
    rw [List.any_map]
    congr 1
    funext e
    simp only [Function.comp]
    rw [decide_eq_decide]
    constructor
    · intro z
      injection z with z
      omega
    · intro z
      rw [z]
  unfold putI putN0
  rw [e1]
  by_cases h : m.any (fun e => decide (e.1 = p)) = true
  · rw [if_pos h, if_pos h]
    have e2 : kN (m.map (fun e => if e.1 = p then (e.1, c) else e)) = kN m := by
      unfold kN
      rw [List.map_map]
      refine List.map_congr_left fun e _ => ?_
      simp only [Function.comp]
      split <;> rfl
    have e3 : vN (m.map (fun e => if e.1 = p then (e.1, c) else e)) = List.zipWith (fun j x => if j = Sum.inl (p : Int) then D.int c else x) (kN m) (vN m) := by
      clear h e1 e2
      induction m with
      | nil => rfl
      | cons e m ih =>
        show D.int (if e.1 = p then (e.1, c) else e).2 :: vN (m.map _) = List.zipWith _ (Sum.inl (e.1 : Int) :: kN m) (D.int e.2 :: vN m)
        rw [List.zipWith_cons_cons, ih]
        congr 1
        by_cases h : e.1 = p
        · rw [if_pos h, if_pos (by rw [h])]
        · rw [if_neg h, if_neg (fun z => h (by injection z with z; omega))]
    rw [e2, e3]
  · rw [if_neg h, if_neg h]
    unfold kN vN
    rw [List.map_append, List.map_append]
    rfl
theorem putN0_len (p : Nat) (c : Int) (m : Nm) : (putN0 p c m).length ≤ m.length + 1 := by
  unfold putN0
  split
  · rw [List.length_map]
    omega
  · rw [List.length_append]
    exact Nat.le_refl _
/-- the numbers by powers that words tell -/
def numsOf : Nat → List Tx → Int → Nm → Option Nm
  | 0, _, _, _ => none
  | f + 1, R, s, m => if R = [] then some m else
    if (termW R).2.2 = 0 then none else
      if R.drop (termW R).2.2 = [] then some (putN0 (termW R).2.1 (getN (termW R).2.1 m + s * (termW R).1) m) else
        if ((R.drop (termW R).2.2).headD [] = [43] ∨ (R.drop (termW R).2.2).headD [] = [45]) ∧ (R.drop (termW R).2.2).length ≠ 1 then
          numsOf f ((R.drop (termW R).2.2).drop 1) (if (R.drop (termW R).2.2).headD [] = [43] then 1 else -1) (putN0 (termW R).2.1 (getN (termW R).2.1 m + s * (termW R).1) m)
        else none
theorem valW_lt {m : Nat} (h : plainW w m = true) : valW w < 10 ^ m := by
  obtain ⟨h1, _, h3⟩ := plainW_dig h
  refine Nat.lt_of_lt_of_le ?_ (Nat.pow_le_pow_right (by decide) h3)
  have key : ∀ (l : Tx), digW l = true → ∀ a, l.foldl (fun acc c => acc * 10 + (c - 48)) a < (a + 1) * 10 ^ l.length := by
    intro l
    induction l with
    | nil => intro _ a; simp
    | cons c l ih =>
      intro hd a
      unfold digW at hd
      rw [List.all_cons, Bool.and_eq_true] at hd
      have hc := hd.1
      simp only [Bool.and_eq_true, decide_eq_true_iff] at hc
      have := ih hd.2 (a * 10 + (c - 48))
      rw [List.foldl_cons, List.length_cons, Nat.pow_succ]
      refine Nat.lt_of_lt_of_le this ?_
      rw [show (a + 1) * (10 ^ l.length * 10) = ((a + 1) * 10) * 10 ^ l.length by rw [Nat.mul_comm (10 ^ l.length), Nat.mul_assoc]]
      exact Nat.mul_le_mul_right _ (by omega)
  have := key w h1 0
  rw [Nat.zero_add, Nat.one_mul] at this
  exact this
theorem termW_lt (R : List Tx) : (termW R).1 < 10 ^ 12 ∧ (termW R).2.2 ≤ 2 := by
  unfold termW
  cases pl : plainW (R.headD []) 12 with
  | true =>
    have := valW_lt pl
    dsimp only
    rw [if_pos rfl]
    dsimp only
    split
    · exact ⟨this, Nat.le_refl 2⟩
    · exact ⟨this, show 1 ≤ 2 by decide⟩
  | false =>
    dsimp only
    rw [if_neg (by decide)]
    dsimp only
    split
    · exact ⟨show 1 < 10 ^ 12 by decide, show 1 ≤ 2 by decide⟩
    · exact ⟨show 1 < 10 ^ 12 by decide, show 0 ≤ 2 by decide⟩
def optN : Option Nm → D
  | some m => .dk (kN m) (vN m)
  | none => .none
def eNt (ws : List Tx) (s : Int) (p : Addr) (j : Nat) (x4 x5 x6 : Option D) : EnvD := [some (wD ws), some (.int s), some (.cell p), some (.int (j : Int)), x4, x5, x6]
theorem plus_S : Str.ofString "+" = S [43] := by decide +kernel
theorem inF_pm (w : Tx) : inF (.str (S w)) [.str (S [43]), .str (S [45])] = (decide (w = [43]) || decide (w = [45])) := by
  have h1 : decide (S [43] = S w) = decide (w = [43]) := by rw [decide_eq_decide]; exact ⟨fun z => (SX.S_inj z).symm, fun z => by rw [z]⟩
  have h2 : decide (S [45] = S w) = decide (w = [45]) := by rw [decide_eq_decide]; exact ⟨fun z => (SX.S_inj z).symm, fun z => by rw [z]⟩
  show (decide (S [43] = S w) || (decide (S [45] = S w) || false)) = _
  rw [h1, h2, Bool.or_false]
theorem termW_le {R : List Tx} (h : R ≠ []) : (termW R).2.2 ≤ R.length := by
  have l : 1 ≤ R.length := by
    cases R with
    | nil => exact absurd rfl h
    | cons a R => simp
  have key : ∀ (u : Nat) (p : Nat), (R.drop u).head?.bind powIn = some p → u + 1 ≤ R.length := fun u p e => by
    by_cases z : u < R.length
    · omega
    · rw [List.drop_eq_nil_of_le (by omega)] at e
      cases e
  unfold termW
  cases pl : plainW (R.headD []) 12 with
  | true =>
    dsimp only
    rw [if_pos rfl]
    dsimp only
    cases e : (R.drop 1).head?.bind powIn with
    | some p => exact key 1 p e
    | none => exact l
  | false =>
    dsimp only
    rw [if_neg (by decide)]
    dsimp only
    cases e : (R.drop 0).head?.bind powIn with
    | some p => exact key 0 p e
    | none => exact Nat.zero_le _
theorem ok_numbers_of_terms {s : Int} (hs : s = 1 ∨ s = -1) (hl : ∀ w ∈ ws, w.length ≤ 16000000) (hn : ws.length ≤ 900000) (k : ∀ μ', (∀ a, μ a ≠ Option.none → μ' a = μ a) → Q (optN (numsOf (ws.length + 1) ws s [])) μ') : wp_numbers_of_terms [wD ws, .int s] μ Q X := by
  unfold wp_numbers_of_terms
  simp only [Jbu, initE, Jcw, Jci, Jbk, Jbl, Jbz, Jcr, Jcs, Jc8, Jco, Jbm, Jcy, Jbn, Jbt, Jdb, Jdc, Jda, Jdd, Jdi, Jdf, Jdg, Jde, Jc3, Jcc, Jd5, Jd4, Jc9, Jcl, Jd3, Jd2, Jcf, Jbr, Jd1, Jck, Jbj, Jcn, Jc7, Jbi, Jcm, Jcj, Jd7, Jd6, Jd9, Jbo, Jch, Jcq, Jc1, Jcx, Jcg, Jbp, Jct, Jcz, Jdk, Jdl, Jcd, Jcu, Jcv, Jc6, Jbq, Jc0, Jbw, Jce, gt, st, Jbb, Jb9, Jba, Jb7, Jbh, Ja5, atI0, atI1, atI2, atI3, atI4, ixN20, ixN21, List.map_cons, List.map_nil, List.cons_append, List.nil_append, List.append_nil, List.length_cons, List.length_nil, List.replicate_succ, List.replicate_zero, Nat.add_one_sub_one, Jd8, Jbs, Jbx, Jby, Jbv, Jae, Jag, Jah, Jaf, Jb6, Jav, Jaw, Jak, Jau, Jb3, Jat, Jas, Jam, Jal, Jb1, Jai, Jaj, Jaz, Jb0, Jap, Jb2, Jaq, Jar, Jan, Jao, Jb5, Jb4, Ja7, Ja8, Jac, Jab, Ja0, Ja9, Jaa, Jbf, Jbg, Ja6, Jad, Jbc, Jbe, Jbd, Jb8, Ja2, Ja1, Ja4, Ja3, Jax, Jay, decide_true, decide_false, Bool.not_true, Bool.not_false, Bool.false_eq_true, if_true, if_false, true_and, wWhile, Jcb, Jca]
  intro p hp
  obtain ⟨RES, hR⟩ : ∃ R, R = numsOf (ws.length + 1) ws s [] := ⟨_, rfl⟩
  rw [← hR] at k
  refine ⟨ws.length + 2, by omega, while_inv (fun n e μ' => ∃ s j m x4 x5 x6, (s = 1 ∨ s = -1) ∧ e = eNt ws s p j x4 x5 x6 ∧ j ≤ ws.length ∧ n = ws.length + 1 - j ∧ μ' p = some (.dk (kN m) (vN m)) ∧ m.length ≤ j ∧ (∀ a, a ≠ p → μ' a = μ a) ∧ ∃ f, ws.length - j < f ∧ numsOf f (ws.drop j) s m = RES) ?_ _ (ws.length + 1) _ _ (Nat.lt_succ_self _) ⟨s, 0, [], none, none, none, hs, rfl, Nat.zero_le _, rfl, up_same, Nat.le_refl _, fun a h => up_ne h, ws.length + 1, by omega, hR.symm⟩⟩
  rintro n e μ1 K ⟨s, j, m, x4, x5, x6, hs, rfl, hj, rfl, mp, hm, mo, f, hf, hres⟩ hK
  have old : ∀ a, μ a ≠ Option.none → a ≠ p := fun a ha z => ha (by rw [z, hp])
  have lm : ((ws.map fun w => D.str (S w)).length : Int) = ws.length := by rw [List.length_map]
  obtain ⟨f, rfl⟩ : ∃ g, f = g + 1 := ⟨f - 1, by omega⟩
  simp only [Jbu, initE, Jcw, Jci, Jbk, Jbl, Jbz, Jcr, Jcs, Jc8, Jco, Jbm, Jcy, Jbn, Jbt, Jdb, Jdc, Jda, Jdd, Jdi, Jdf, Jdg, Jde, Jc3, Jcc, Jd5, Jd4, Jc9, Jcl, Jd3, Jd2, Jcf, Jbr, Jd1, Jck, Jbj, Jcn, Jc7, Jbi, Jcm, Jcj, Jd7, Jd6, Jd9, Jbo, Jch, Jcq, Jc1, Jcx, Jcg, Jbp, Jct, Jcz, Jdk, Jdl, Jcd, Jcu, Jcv, Jc6, Jbq, Jc0, Jbw, Jce, gt, st, Jbb, Jb9, Jba, Jb7, Jbh, Ja5, atI0, atI1, atI2, atI3, atI4, ixN20, ixN21, List.map_cons, List.map_nil, List.cons_append, List.nil_append, List.append_nil, List.length_cons, List.length_nil, List.replicate_succ, List.replicate_zero, Nat.add_one_sub_one, Jd8, Jbs, Jbx, Jby, Jbv, Jae, Jag, Jah, Jaf, Jb6, Jav, Jaw, Jak, Jau, Jb3, Jat, Jas, Jam, Jal, Jb1, Jai, Jaj, Jaz, Jb0, Jap, Jb2, Jaq, Jar, Jan, Jao, Jb5, Jb4, Ja7, Ja8, Jac, Jab, Ja0, Ja9, Jaa, Jbf, Jbg, Ja6, Jad, Jbc, Jbe, Jbd, Jb8, Ja2, Ja1, Ja4, Ja3, Jax, Jay, decide_true, decide_false, Bool.not_true, Bool.not_false, Bool.false_eq_true, if_true, if_false, true_and, eNt, List.length_map, Jcb, Jca]
  by_cases z : j < ws.length
  · rw [if_pos (by rw [decide_eq_true_iff]; omega)]
    have hw : ws[j]? = some ws[j] := List.getElem?_eq_getElem z
    have ne : ws.drop j ≠ [] := by rw [List.drop_eq_getElem_cons z]; exact List.cons_ne_nil _ _
    refine ok_term_at hw hl ?_
    simp only [Jbu, initE, Jcw, Jci, Jbk, Jbl, Jbz, Jcr, Jcs, Jc8, Jco, Jbm, Jcy, Jbn, Jbt, Jdb, Jdc, Jda, Jdd, Jdi, Jdf, Jdg, Jde, Jc3, Jcc, Jd5, Jd4, Jc9, Jcl, Jd3, Jd2, Jcf, Jbr, Jd1, Jck, Jbj, Jcn, Jc7, Jbi, Jcm, Jcj, Jd7, Jd6, Jd9, Jbo, Jch, Jcq, Jc1, Jcx, Jcg, Jbp, Jct, Jcz, Jdk, Jdl, Jcd, Jcu, Jcv, Jc6, Jbq, Jc0, Jbw, Jce, gt, st, Jbb, Jb9, Jba, Jb7, Jbh, Ja5, atI0, atI1, atI2, atI3, atI4, ixN20, ixN21, List.map_cons, List.map_nil, List.cons_append, List.nil_append, List.append_nil, List.length_cons, List.length_nil, List.replicate_succ, List.replicate_zero, Nat.add_one_sub_one, Jd8, Jbs, Jbx, Jby, Jbv, Jae, Jag, Jah, Jaf, Jb6, Jav, Jaw, Jak, Jau, Jb3, Jat, Jas, Jam, Jal, Jb1, Jai, Jaj, Jaz, Jb0, Jap, Jb2, Jaq, Jar, Jan, Jao, Jb5, Jb4, Ja7, Ja8, Jac, Jab, Ja0, Ja9, Jaa, Jbf, Jbg, Ja6, Jad, Jbc, Jbe, Jbd, Jb8, Ja2, Ja1, Ja4, Ja3, Jax, Jay, decide_true, decide_false, Bool.not_true, Bool.not_false, Bool.false_eq_true, if_true, if_false, true_and]
    obtain ⟨t1, t2⟩ := termW_lt (ws.drop j)
    have t3 := termW_le ne
    rw [List.length_drop] at t3
    rw [numsOf, if_neg ne] at hres
    generalize termW (ws.drop j) = T at *
    obtain ⟨tn, tp, tu⟩ := T
    dsimp only at *
    by_cases y : tu = 0
    · rw [if_pos y] at hres
      rw [if_pos (by rw [decide_eq_true_iff]; omega)]
      rw [← hres] at k
      exact k μ1 fun a ha => mo a (old a ha)
    · rw [if_neg y] at hres
      rw [if_neg (by rw [decide_eq_true_iff]; omega)]
      have dk : dkV μ1 (.cell p) = some (kN m, vN m) := by simp [dkV, ndK, mp]
      have kd : keyD (D.int (tp : Int)) = some (Sum.inl (tp : Int)) := rfl
      refine ⟨by rw [isK, dk]; rfl, ?_⟩
      simp only [kg2F, dk, kd, getK_N]
      have cm : CMulU s (tn : Int) := mulU_of (a := 2) (b := 40) (by rcases hs with rfl | rfl <;> decide) (Nat.lt_of_le_of_lt (show ((tn : Nat) : Int).natAbs ≤ 10 ^ 12 by omega) (by decide)) (by decide)
      refine ⟨cm, ?_⟩
      simp only [Jbu, initE, Jcw, Jci, Jbk, Jbl, Jbz, Jcr, Jcs, Jc8, Jco, Jbm, Jcy, Jbn, Jbt, Jdb, Jdc, Jda, Jdd, Jdi, Jdf, Jdg, Jde, Jc3, Jcc, Jd5, Jd4, Jc9, Jcl, Jd3, Jd2, Jcf, Jbr, Jd1, Jck, Jbj, Jcn, Jc7, Jbi, Jcm, Jcj, Jd7, Jd6, Jd9, Jbo, Jch, Jcq, Jc1, Jcx, Jcg, Jbp, Jct, Jcz, Jdk, Jdl, Jcd, Jcu, Jcv, Jc6, Jbq, Jc0, Jbw, Jce, gt, st, Jbb, Jb9, Jba, Jb7, Jbh, Ja5, atI0, atI1, atI2, atI3, atI4, ixN20, ixN21, List.map_cons, List.map_nil, List.cons_append, List.nil_append, List.append_nil, List.length_cons, List.length_nil, List.replicate_succ, List.replicate_zero, Nat.add_one_sub_one, Jd8, Jbs, Jbx, Jby, Jbv, Jae, Jag, Jah, Jaf, Jb6, Jav, Jaw, Jak, Jau, Jb3, Jat, Jas, Jam, Jal, Jb1, Jai, Jaj, Jaz, Jb0, Jap, Jb2, Jaq, Jar, Jan, Jao, Jb5, Jb4, Ja7, Ja8, Jac, Jab, Ja0, Ja9, Jaa, Jbf, Jbg, Ja6, Jad, Jbc, Jbe, Jbd, Jb8, Ja2, Ja1, Ja4, Ja3, Jax, Jay, decide_true, decide_false, Bool.not_true, Bool.not_false, Bool.false_eq_true, if_true, if_false, true_and]
      have nk : ndK (μ1 p) = some (kN m, vN m) := by simp [ndK, mp]
      simp only [kpF, nk, kd, putI_N]
      have km : (kN m).length = m.length := List.length_map ..
      refine ⟨by rw [km]; omega, ?_⟩
      have l2 := putN0_len tp (getN tp m + s * (tn : Int)) m
      generalize putN0 tp (getN tp m + s * (tn : Int)) m = m2 at *
      rw [List.drop_drop] at hres
      have mo2 : ∀ a, a ≠ p → up μ1 p (.dk (kN m2) (vN m2)) a = μ a := fun a h => by rw [up_ne h]; exact mo a h
      by_cases v : j + tu < ws.length
      · rw [if_pos (by rw [decide_eq_true_iff]; omega)]
        have hw2 : ws[j + tu]? = some ws[j + tu] := List.getElem?_eq_getElem v
        have ea := at_wD hw2
        rw [show ((j + tu : Nat) : Int) = (j : Int) + (tu : Int) by omega] at ea
        have ed : ws.drop (j + tu) = ws[j + tu] :: ws.drop (j + tu + 1) := List.drop_eq_getElem_cons v
        have ne2 : ws.drop (j + tu) ≠ [] := by rw [ed]; exact List.cons_ne_nil _ _
        rw [if_neg ne2] at hres
        have hh : (ws.drop (j + tu)).headD [] = ws[j + tu] := by rw [ed]; rfl
        rw [hh, List.drop_drop] at hres
        simp only [ea, plus_S, minus_S]
        refine ⟨by rw [sizeLine_eq]; decide, rfl, rfl, ?_⟩
        rw [inF_pm]
        generalize ws[j + tu] = w2 at *
        have e43 : decide (S w2 = S [43]) = decide (w2 = [43]) := by rw [decide_eq_decide]; exact s_inj
        by_cases pm : w2 = [43] ∨ w2 = [45]
        · have epm : (decide (w2 = [43]) || decide (w2 = [45])) = true := by
            rw [Bool.or_eq_true, decide_eq_true_iff, decide_eq_true_iff]
            exact pm
          rw [epm, if_neg (by decide)]
          by_cases l1 : j + tu + 1 = ws.length
          · rw [if_pos (by rw [decide_eq_true_iff]; omega)]
            rw [if_neg (fun q => q.2 (by rw [List.length_drop]; omega))] at hres
            rw [← hres] at k
            exact k _ fun a ha => mo2 a (old a ha)
          · rw [if_neg (by rw [decide_eq_true_iff]; omega)]
            rw [if_pos ⟨pm, by rw [List.length_drop]; omega⟩] at hres
            refine eq_S w2 [43] ?_
            by_cases pl : w2 = [43]
            · rw [decide_eq_true pl]
              simp only [Jbu, initE, Jcw, Jci, Jbk, Jbl, Jbz, Jcr, Jcs, Jc8, Jco, Jbm, Jcy, Jbn, Jbt, Jdb, Jdc, Jda, Jdd, Jdi, Jdf, Jdg, Jde, Jc3, Jcc, Jd5, Jd4, Jc9, Jcl, Jd3, Jd2, Jcf, Jbr, Jd1, Jck, Jbj, Jcn, Jc7, Jbi, Jcm, Jcj, Jd7, Jd6, Jd9, Jbo, Jch, Jcq, Jc1, Jcx, Jcg, Jbp, Jct, Jcz, Jdk, Jdl, Jcd, Jcu, Jcv, Jc6, Jbq, Jc0, Jbw, Jce, gt, st, Jbb, Jb9, Jba, Jb7, Jbh, Ja5, atI0, atI1, atI2, atI3, atI4, ixN20, ixN21, List.map_cons, List.map_nil, List.cons_append, List.nil_append, List.append_nil, List.length_cons, List.length_nil, List.replicate_succ, List.replicate_zero, Nat.add_one_sub_one, Jd8, Jbs, Jbx, Jby, Jbv, Jae, Jag, Jah, Jaf, Jb6, Jav, Jaw, Jak, Jau, Jb3, Jat, Jas, Jam, Jal, Jb1, Jai, Jaj, Jaz, Jb0, Jap, Jb2, Jaq, Jar, Jan, Jao, Jb5, Jb4, Ja7, Ja8, Jac, Jab, Ja0, Ja9, Jaa, Jbf, Jbg, Ja6, Jad, Jbc, Jbe, Jbd, Jb8, Ja2, Ja1, Ja4, Ja3, Jax, Jay, decide_true, decide_false, Bool.not_true, Bool.not_false, Bool.false_eq_true, if_true, if_false, true_and]
              rw [if_pos pl] at hres
              refine hK (ws.length + 1 - (j + tu + 1)) _ _ (by omega) ⟨1, j + tu + 1, m2, some (.int (tn : Int)), some (.int (tp : Int)), some (.int (tu : Int)), .inl rfl, ?_, by omega, rfl, up_same, by omega, mo2, f, by omega, hres⟩
              rfl
            · rw [decide_eq_false pl]
              simp only [Jbu, initE, Jcw, Jci, Jbk, Jbl, Jbz, Jcr, Jcs, Jc8, Jco, Jbm, Jcy, Jbn, Jbt, Jdb, Jdc, Jda, Jdd, Jdi, Jdf, Jdg, Jde, Jc3, Jcc, Jd5, Jd4, Jc9, Jcl, Jd3, Jd2, Jcf, Jbr, Jd1, Jck, Jbj, Jcn, Jc7, Jbi, Jcm, Jcj, Jd7, Jd6, Jd9, Jbo, Jch, Jcq, Jc1, Jcx, Jcg, Jbp, Jct, Jcz, Jdk, Jdl, Jcd, Jcu, Jcv, Jc6, Jbq, Jc0, Jbw, Jce, gt, st, Jbb, Jb9, Jba, Jb7, Jbh, Ja5, atI0, atI1, atI2, atI3, atI4, ixN20, ixN21, List.map_cons, List.map_nil, List.cons_append, List.nil_append, List.append_nil, List.length_cons, List.length_nil, List.replicate_succ, List.replicate_zero, Nat.add_one_sub_one, Jd8, Jbs, Jbx, Jby, Jbv, Jae, Jag, Jah, Jaf, Jb6, Jav, Jaw, Jak, Jau, Jb3, Jat, Jas, Jam, Jal, Jb1, Jai, Jaj, Jaz, Jb0, Jap, Jb2, Jaq, Jar, Jan, Jao, Jb5, Jb4, Ja7, Ja8, Jac, Jab, Ja0, Ja9, Jaa, Jbf, Jbg, Ja6, Jad, Jbc, Jbe, Jbd, Jb8, Ja2, Ja1, Ja4, Ja3, Jax, Jay, decide_true, decide_false, Bool.not_true, Bool.not_false, Bool.false_eq_true, if_true, if_false, true_and]
              rw [if_neg pl] at hres
              refine hK (ws.length + 1 - (j + tu + 1)) _ _ (by omega) ⟨-1, j + tu + 1, m2, some (.int (tn : Int)), some (.int (tp : Int)), some (.int (tu : Int)), .inr rfl, ?_, by omega, rfl, up_same, by omega, mo2, f, by omega, hres⟩
              rfl
        · have epm : (decide (w2 = [43]) || decide (w2 = [45])) = false := by
            rw [Bool.or_eq_false_iff, decide_eq_false_iff_not, decide_eq_false_iff_not]
            exact not_or.mp pm
          rw [epm, if_pos (by decide)]
          rw [if_neg (fun q => pm q.1)] at hres
          rw [← hres] at k
          exact k _ fun a ha => mo2 a (old a ha)
      · rw [if_neg (by rw [decide_eq_true_iff]; omega)]
        have e0 : ws.drop (j + tu) = [] := List.drop_eq_nil_of_le (by omega)
        rw [if_pos e0] at hres
        refine hK (ws.length + 1 - (j + tu)) _ _ (by omega) ⟨s, j + tu, m2, _, _, _, hs, rfl, by omega, rfl, up_same, by omega, mo2, f, by omega, ?_⟩
        obtain ⟨g, rfl⟩ : ∃ g, f = g + 1 := ⟨f - 1, by omega⟩
        rw [numsOf, if_pos e0]
        exact hres
  · rw [if_neg (by rw [decide_eq_true_iff]; omega)]
    have e0 : ws.drop j = [] := List.drop_eq_nil_of_le (by omega)
    rw [numsOf, if_pos e0] at hres
    simp only [mp]
    rw [← hres] at k
    exact k _ fun a ha => by rw [del_ne (old a ha)]; exact mo a (old a ha)
/-! ### rules read -/
theorem nums_bd : ∀ (f : Nat) (R : List Tx) (s : Int) (m r : Nm) (B : Nat), (s = 1 ∨ s = -1) → numsOf f R s m = some r → (∀ e ∈ m, e.2.natAbs ≤ B) → ∀ e ∈ r, e.2.natAbs ≤ B + R.length * 10 ^ 12
  | 0, _, _, _, _, _, _, h, _ => by cases h
  | f + 1, R, s, m, r, B, hs, h, hb => by
    rw [numsOf] at h
    split at h
    · cases h
      intro e he
      have := hb e he
      omega
    · rename_i ne
      split at h
      · cases h
      · rename_i u0
        obtain ⟨t1, t2⟩ := termW_lt R
        have t3 := termW_le ne
        generalize termW R = T at *
        obtain ⟨tn, tp, tu⟩ := T
        dsimp only at *
        have hg : (getN tp m).natAbs ≤ B := by
          clear h
          induction m with
          | nil => exact Nat.zero_le _
          | cons e m ih =>
            show (if e.1 = tp then e.2 else getN tp m).natAbs ≤ B
            split
            · exact hb e List.mem_cons_self
            · exact ih fun e he => hb e (List.mem_cons_of_mem _ he)
        have hb2 : ∀ e ∈ putN0 tp (getN tp m + s * (tn : Int)) m, e.2.natAbs ≤ B + 10 ^ 12 := by
          have hn : (getN tp m + s * (tn : Int)).natAbs ≤ B + 10 ^ 12 := by
            rcases hs with rfl | rfl <;> omega
          intro e he
          unfold putN0 at he
          split at he
          · obtain ⟨e0, h0, rfl⟩ := List.mem_map.mp he
            split
            · exact hn
            · have := hb e0 h0
              omega
          · rcases List.mem_append.mp he with z | z
            · have := hb e z
              omega
            · rw [List.mem_singleton.mp z]
              exact hn
        split at h
        · cases h
          intro e he
          have := hb2 e he
          have l1 : 1 * 10 ^ 12 ≤ R.length * 10 ^ 12 := Nat.mul_le_mul_right _ (by omega)
          omega
        · split at h
          · have ih := nums_bd f _ _ _ r _ (by split <;> simp) h hb2
            intro e he
            have := ih e he
            rw [List.length_drop, List.length_drop] at this
            have l1 : (R.length - tu - 1) * 10 ^ 12 + 1 * 10 ^ 12 ≤ R.length * 10 ^ 12 := by
              rw [← Nat.add_mul]
              exact Nat.mul_le_mul_right _ (by omega)
            omega
          · cases h
def rowN (m : Nm) : List Int := (List.range 25).map fun p => getN p m
/-- the words of a text of a rule, and its first sign -/
def wordsT (t : Tx) : List Tx := TL.spl [32] 0 [] (if t.take 1 = [45] then t.drop 1 else t)
def sgnT (t : Tx) : Int := if t.take 1 = [45] then -1 else 1
/-- the rule with a text -/
def ruleT (t : Tx) : Option (List Int) := match numsOf ((wordsT t).length + 1) (wordsT t) (sgnT t) [] with
  | some m => if pageL (M.trim (rowN m)) = t then some (M.trim (rowN m)) else none
  | none => none
def optR : Option (List Int) → D
  | some r => ruleD r
  | none => .none
theorem spl_len (sep : List Nat) : ∀ (t : Tx) (k : Nat) (acc : Tx), (TL.spl sep k acc t).length ≤ t.length + 1 ∧ ∀ w ∈ TL.spl sep k acc t, w.length ≤ acc.length + t.length
  | [], k, acc => by
    rw [TL.spl_nil]
    exact ⟨Nat.le_refl _, fun w hw => by rw [List.mem_singleton.mp hw]; simp⟩
  | c :: t, 0, acc => by
    by_cases h : TL.pre sep (c :: t) = true
    · rw [TL.spl_hit h]
      obtain ⟨h1, h2⟩ := spl_len sep t (sep.length - 1) []
      refine ⟨by simp; omega, fun w hw => ?_⟩
      rcases List.mem_cons.mp hw with z | z
      · rw [z]; simp
      · have := h2 w z
        simp at this
        simp
        omega
    · rw [TL.spl_miss (by simpa using h)]
      obtain ⟨h1, h2⟩ := spl_len sep t 0 (acc ++ [c])
      refine ⟨by simp; omega, fun w hw => ?_⟩
      have := h2 w hw
      simp at this
      simp
      omega
  | c :: t, k + 1, acc => by
    have e : TL.spl sep (k + 1) acc (c :: t) = TL.spl sep k acc t := rfl
    rw [e]
    obtain ⟨h1, h2⟩ := spl_len sep t k acc
    refine ⟨by simp; omega, fun w hw => ?_⟩
    have := h2 w hw
    simp
    omega
theorem getN_bd {m : Nm} {B : Nat} (h : ∀ e ∈ m, e.2.natAbs ≤ B) (p : Nat) : (getN p m).natAbs ≤ B := by
  induction m with
  | nil => exact Nat.zero_le _
  | cons e m ih =>
    show (if e.1 = p then e.2 else getN p m).natAbs ≤ B
    split
    · exact h e List.mem_cons_self
    · exact ih fun e he => h e (List.mem_cons_of_mem _ he)
theorem wD_map (ws : List Tx) : (ws.map S).map D.str = ws.map fun w => D.str (S w) := by
  rw [List.map_map]
  rfl
theorem words_len (t : Tx) : (wordsT t).length ≤ t.length + 1 ∧ ∀ w ∈ wordsT t, w.length ≤ t.length := by
  unfold wordsT
  obtain ⟨h1, h2⟩ := spl_len [32] (if t.take 1 = [45] then t.drop 1 else t) 0 []
  have l : (if t.take 1 = [45] then t.drop 1 else t).length ≤ t.length := by
    split
    · rw [List.length_drop]; omega
    · exact Nat.le_refl _
  refine ⟨by omega, fun w hw => ?_⟩
  have := h2 w hw
  simp only [List.length_nil, Nat.zero_add] at this
  omega
theorem rowN_pg {m : Nm} {B : Nat} (h : ∀ e ∈ m, e.2.natAbs ≤ B) (hB : B < 2 ^ 100) : Pg (M.trim (rowN m)) := by
  refine ⟨Nat.le_trans (M.trim_len _) (by unfold rowN; simp), fun n hn => ?_⟩
  have hm := M.trim_mem hn
  unfold rowN at hm
  obtain ⟨p, _, rfl⟩ := List.mem_map.mp hm
  have := getN_bd h p
  by_cases z : (getN p m).natAbs = 0
  · rw [z]; decide
  · exact (Nat.log2_lt z).mpr (Nat.lt_of_lt_of_le (Nat.lt_of_le_of_lt this hB) (Nat.pow_le_pow_right (by decide) (by decide)))
theorem rule_rest {E : WEnds} {t : Tx} {b : D} (hl : t.length ≤ 500000) (k : E.rt (optR (ruleT t)) μ) : wp_rule_in_2 [some (.str (S t)), some b, some (optN (numsOf ((wordsT t).length + 1) (wordsT t) (sgnT t) [])), none, none] μ { nx := fun e μ1 => wp_rule_in_3 e μ1 { nx := fun e μ1 => wp_rule_in_4 e μ1 E, rt := E.rt, bk := E.bk, ct := E.ct, xp := E.xp }, rt := E.rt, bk := E.bk, ct := E.ct, xp := E.xp } := by
  obtain ⟨w1, w2⟩ := words_len t
  unfold ruleT at k
  unfold wp_rule_in_2
  simp only [Jbu, initE, Jcw, Jci, Jbk, Jbl, Jbz, Jcr, Jcs, Jc8, Jco, Jbm, Jcy, Jbn, Jbt, Jdb, Jdc, Jda, Jdd, Jdi, Jdf, Jdg, Jde, Jc3, Jcc, Jd5, Jd4, Jc9, Jcl, Jd3, Jd2, Jcf, Jbr, Jd1, Jck, Jbj, Jcn, Jc7, Jbi, Jcm, Jcj, Jd7, Jd6, Jd9, Jbo, Jch, Jcq, Jc1, Jcx, Jcg, Jbp, Jct, Jcz, Jdk, Jdl, Jcd, Jcu, Jcv, Jc6, Jbq, Jc0, Jbw, Jce, gt, st, Jbb, Jb9, Jba, Jb7, Jbh, Ja5, atI0, atI1, atI2, atI3, atI4, ixN20, ixN21, List.map_cons, List.map_nil, List.cons_append, List.nil_append, List.append_nil, List.length_cons, List.length_nil, List.replicate_succ, List.replicate_zero, Nat.add_one_sub_one, Jd8, Jbs, Jbx, Jby, Jbv, Jae, Jag, Jah, Jaf, Jb6, Jav, Jaw, Jak, Jau, Jb3, Jat, Jas, Jam, Jal, Jb1, Jai, Jaj, Jaz, Jb0, Jap, Jb2, Jaq, Jar, Jan, Jao, Jb5, Jb4, Ja7, Ja8, Jac, Jab, Ja0, Ja9, Jaa, Jbf, Jbg, Ja6, Jad, Jbc, Jbe, Jbd, Jb8, Ja2, Ja1, Ja4, Ja3, Jax, Jay, decide_true, decide_false, Bool.not_true, Bool.not_false, Bool.false_eq_true, if_true, if_false, true_and]
  cases hN : numsOf ((wordsT t).length + 1) (wordsT t) (sgnT t) [] with
  | none =>
    rw [hN] at k
    exact k
  | some m =>
    rw [hN] at k
    have bd := nums_bd _ _ _ _ m 0 (by unfold sgnT; split <;> simp) hN (fun e he => nomatch he)
    have lb : (wordsT t).length * 10 ^ 12 ≤ 500001 * 10 ^ 12 := Nat.mul_le_mul_right _ (by omega)
    have pg : Pg (M.trim (rowN m)) := rowN_pg (B := 500001 * 10 ^ 12) (fun e he => by have := bd e he; omega) (by decide)
    show wp_rule_in_3 [some (.str (S t)), some b, some (.dk (kN m) (vN m)), none, none] μ _
    unfold wp_rule_in_3
    simp only [Jbu, initE, Jcw, Jci, Jbk, Jbl, Jbz, Jcr, Jcs, Jc8, Jco, Jbm, Jcy, Jbn, Jbt, Jdb, Jdc, Jda, Jdd, Jdi, Jdf, Jdg, Jde, Jc3, Jcc, Jd5, Jd4, Jc9, Jcl, Jd3, Jd2, Jcf, Jbr, Jd1, Jck, Jbj, Jcn, Jc7, Jbi, Jcm, Jcj, Jd7, Jd6, Jd9, Jbo, Jch, Jcq, Jc1, Jcx, Jcg, Jbp, Jct, Jcz, Jdk, Jdl, Jcd, Jcu, Jcv, Jc6, Jbq, Jc0, Jbw, Jce, gt, st, Jbb, Jb9, Jba, Jb7, Jbh, Ja5, atI0, atI1, atI2, atI3, atI4, ixN20, ixN21, List.map_cons, List.map_nil, List.cons_append, List.nil_append, List.append_nil, List.length_cons, List.length_nil, List.replicate_succ, List.replicate_zero, Nat.add_one_sub_one, Jd8, Jbs, Jbx, Jby, Jbv, Jae, Jag, Jah, Jaf, Jb6, Jav, Jaw, Jak, Jau, Jb3, Jat, Jas, Jam, Jal, Jb1, Jai, Jaj, Jaz, Jb0, Jap, Jb2, Jaq, Jar, Jan, Jao, Jb5, Jb4, Ja7, Ja8, Jac, Jab, Ja0, Ja9, Jaa, Jbf, Jbg, Ja6, Jad, Jbc, Jbe, Jbd, Jb8, Ja2, Ja1, Ja4, Ja3, Jax, Jay, decide_true, decide_false, Bool.not_true, Bool.not_false, Bool.false_eq_true, if_true, if_false, true_and, Jca]
    refine ⟨⟨by decide, by decide⟩, by rw [rangeD_len, sizeLine_eq]; decide, lc_inv (fun i acc μ' => μ' = μ ∧ acc = iL ((rowN m).take i)) ⟨rfl, rfl⟩ ?_ ?_⟩
    · rintro i x acc μ' N hx ⟨rfl, rfl⟩ hN2
      rw [rangeD_get] at hx
      split at hx
      · rename_i hi
        cases hx
        have hi25 : i < 25 := hi
        refine ⟨trivial, ?_⟩
        have kd : keyD (D.int (0 + (i : Int))) = some (Sum.inl (i : Int)) := by rw [Int.zero_add]; rfl
        simp only [Jbu, initE, Jcw, Jci, Jbk, Jbl, Jbz, Jcr, Jcs, Jc8, Jco, Jbm, Jcy, Jbn, Jbt, Jdb, Jdc, Jda, Jdd, Jdi, Jdf, Jdg, Jde, Jc3, Jcc, Jd5, Jd4, Jc9, Jcl, Jd3, Jd2, Jcf, Jbr, Jd1, Jck, Jbj, Jcn, Jc7, Jbi, Jcm, Jcj, Jd7, Jd6, Jd9, Jbo, Jch, Jcq, Jc1, Jcx, Jcg, Jbp, Jct, Jcz, Jdk, Jdl, Jcd, Jcu, Jcv, Jc6, Jbq, Jc0, Jbw, Jce, gt, st, Jbb, Jb9, Jba, Jb7, Jbh, Ja5, atI0, atI1, atI2, atI3, atI4, ixN20, ixN21, List.map_cons, List.map_nil, List.cons_append, List.nil_append, List.append_nil, List.length_cons, List.length_nil, List.replicate_succ, List.replicate_zero, Nat.add_one_sub_one, Jd8, Jbs, Jbx, Jby, Jbv, Jae, Jag, Jah, Jaf, Jb6, Jav, Jaw, Jak, Jau, Jb3, Jat, Jas, Jam, Jal, Jb1, Jai, Jaj, Jaz, Jb0, Jap, Jb2, Jaq, Jar, Jan, Jao, Jb5, Jb4, Ja7, Ja8, Jac, Jab, Ja0, Ja9, Jaa, Jbf, Jbg, Ja6, Jad, Jbc, Jbe, Jbd, Jb8, Ja2, Ja1, Ja4, Ja3, Jax, Jay, decide_true, decide_false, Bool.not_true, Bool.not_false, Bool.false_eq_true, if_true, if_false, true_and, wipeE, isK, dkV, kg2F, kd, getK_N]
        refine ⟨rfl, hN2 _ _ ⟨rfl, ?_⟩⟩
        have er : (rowN m)[i]? = some (getN i m) := by
          unfold rowN
          rw [List.getElem?_map, List.getElem?_range hi25]
          rfl
        rw [List.take_succ, er]
        simp [iL]
        exact getK_N i m
      · cases hx
    · rintro acc μ' ⟨rfl, rfl⟩
      refine ⟨trivial, ?_⟩
      have l25 : (rowN m).length = 25 := by unfold rowN; simp
      have et : (rowN m).take (rangeD 0 (24 + 1 : Int).toNat).length = rowN m := List.take_of_length_le (by rw [rangeD_len, l25]; decide)
      rw [et]
      clear et bd lb hN w1 w2
      dsimp only at k
      generalize rowN m = ro at *
      intro p hp
      refine mk_Rule (Q := fun d μ1 => wp_rule_in_4 [some (.str (S t)), some b, some (.dk (kN m) (vN m)), some d, none] μ1 E) (ns := ro) (d := .list (iL ro)) rfl (fun _ z => by cases z) (by rw [l25]; decide) ?_ p hp
      unfold wp_rule_in_4
      simp only [Jbu, initE, Jcw, Jci, Jbk, Jbl, Jbz, Jcr, Jcs, Jc8, Jco, Jbm, Jcy, Jbn, Jbt, Jdb, Jdc, Jda, Jdd, Jdi, Jdf, Jdg, Jde, Jc3, Jcc, Jd5, Jd4, Jc9, Jcl, Jd3, Jd2, Jcf, Jbr, Jd1, Jck, Jbj, Jcn, Jc7, Jbi, Jcm, Jcj, Jd7, Jd6, Jd9, Jbo, Jch, Jcq, Jc1, Jcx, Jcg, Jbp, Jct, Jcz, Jdk, Jdl, Jcd, Jcu, Jcv, Jc6, Jbq, Jc0, Jbw, Jce, gt, st, Jbb, Jb9, Jba, Jb7, Jbh, Ja5, atI0, atI1, atI2, atI3, atI4, ixN20, ixN21, List.map_cons, List.map_nil, List.cons_append, List.nil_append, List.append_nil, List.length_cons, List.length_nil, List.replicate_succ, List.replicate_zero, Nat.add_one_sub_one, Jd8, Jbs, Jbx, Jby, Jbv, Jae, Jag, Jah, Jaf, Jb6, Jav, Jaw, Jak, Jau, Jb3, Jat, Jas, Jam, Jal, Jb1, Jai, Jaj, Jaz, Jb0, Jap, Jb2, Jaq, Jar, Jan, Jao, Jb5, Jb4, Ja7, Ja8, Jac, Jab, Ja0, Ja9, Jaa, Jbf, Jbg, Ja6, Jad, Jbc, Jbe, Jbd, Jb8, Ja2, Ja1, Ja4, Ja3, Jax, Jay, decide_true, decide_false, Bool.not_true, Bool.not_false, Bool.false_eq_true, if_true, if_false, true_and]
      refine ok_rule_text pg ?_
      refine eq_S (X := fun _ _ => False) _ t ?_
      by_cases z : pageL (M.trim ro) = t
      · rw [decide_eq_true z]
        simp only [Jbu, initE, Jcw, Jci, Jbk, Jbl, Jbz, Jcr, Jcs, Jc8, Jco, Jbm, Jcy, Jbn, Jbt, Jdb, Jdc, Jda, Jdd, Jdi, Jdf, Jdg, Jde, Jc3, Jcc, Jd5, Jd4, Jc9, Jcl, Jd3, Jd2, Jcf, Jbr, Jd1, Jck, Jbj, Jcn, Jc7, Jbi, Jcm, Jcj, Jd7, Jd6, Jd9, Jbo, Jch, Jcq, Jc1, Jcx, Jcg, Jbp, Jct, Jcz, Jdk, Jdl, Jcd, Jcu, Jcv, Jc6, Jbq, Jc0, Jbw, Jce, gt, st, Jbb, Jb9, Jba, Jb7, Jbh, Ja5, atI0, atI1, atI2, atI3, atI4, ixN20, ixN21, List.map_cons, List.map_nil, List.cons_append, List.nil_append, List.append_nil, List.length_cons, List.length_nil, List.replicate_succ, List.replicate_zero, Nat.add_one_sub_one, Jd8, Jbs, Jbx, Jby, Jbv, Jae, Jag, Jah, Jaf, Jb6, Jav, Jaw, Jak, Jau, Jb3, Jat, Jas, Jam, Jal, Jb1, Jai, Jaj, Jaz, Jb0, Jap, Jb2, Jaq, Jar, Jan, Jao, Jb5, Jb4, Ja7, Ja8, Jac, Jab, Ja0, Ja9, Jaa, Jbf, Jbg, Ja6, Jad, Jbc, Jbe, Jbd, Jb8, Ja2, Ja1, Ja4, Ja3, Jax, Jay, decide_true, decide_false, Bool.not_true, Bool.not_false, Bool.false_eq_true, if_true, if_false, true_and]
        rw [if_pos z] at k
        exact k
      · rw [decide_eq_false z]
        simp only [Jbu, initE, Jcw, Jci, Jbk, Jbl, Jbz, Jcr, Jcs, Jc8, Jco, Jbm, Jcy, Jbn, Jbt, Jdb, Jdc, Jda, Jdd, Jdi, Jdf, Jdg, Jde, Jc3, Jcc, Jd5, Jd4, Jc9, Jcl, Jd3, Jd2, Jcf, Jbr, Jd1, Jck, Jbj, Jcn, Jc7, Jbi, Jcm, Jcj, Jd7, Jd6, Jd9, Jbo, Jch, Jcq, Jc1, Jcx, Jcg, Jbp, Jct, Jcz, Jdk, Jdl, Jcd, Jcu, Jcv, Jc6, Jbq, Jc0, Jbw, Jce, gt, st, Jbb, Jb9, Jba, Jb7, Jbh, Ja5, atI0, atI1, atI2, atI3, atI4, ixN20, ixN21, List.map_cons, List.map_nil, List.cons_append, List.nil_append, List.append_nil, List.length_cons, List.length_nil, List.replicate_succ, List.replicate_zero, Nat.add_one_sub_one, Jd8, Jbs, Jbx, Jby, Jbv, Jae, Jag, Jah, Jaf, Jb6, Jav, Jaw, Jak, Jau, Jb3, Jat, Jas, Jam, Jal, Jb1, Jai, Jaj, Jaz, Jb0, Jap, Jb2, Jaq, Jar, Jan, Jao, Jb5, Jb4, Ja7, Ja8, Jac, Jab, Ja0, Ja9, Jaa, Jbf, Jbg, Ja6, Jad, Jbc, Jbe, Jbd, Jb8, Ja2, Ja1, Ja4, Ja3, Jax, Jay, decide_true, decide_false, Bool.not_true, Bool.not_false, Bool.false_eq_true, if_true, if_false, true_and]
        rw [if_neg z] at k
        exact k
theorem ok_rule_in {t : Tx} (hl : t.length ≤ 500000) (k : ∀ μ', (∀ a, μ a ≠ Option.none → μ' a = μ a) → Q (optR (ruleT t)) μ') : wp_rule_in [.str (S t)] μ Q X := by
  obtain ⟨w1, w2⟩ := words_len t
  have go : ∀ (u : Tx) (sg : Int), wordsT t = TL.spl [32] 0 [] u → u.length ≤ t.length → sgnT t = sg → (sg = 1 ∨ sg = -1) → ∀ (b : D) (Q2 : QD), (∀ μ', (∀ a, μ a ≠ Option.none → μ' a = μ a) → Q2 (optN (numsOf ((wordsT t).length + 1) (wordsT t) (sgnT t) [])) μ') → mSplit (.str (S u)) [D.str (S [32])] μ (sett false fun x μ1 => wp_numbers_of_terms [x, .int sg] μ1 Q2 fun d μ1 => X d μ1) X := fun u sg eu lu es hs b Q2 k2 => by
    refine ⟨by decide, by rw [SX.S_len, sizeLine_eq]; omega, ?_⟩
    rw [SX.split_S (List.cons_ne_nil _ _) (by decide), wD_map]
    show wp_numbers_of_terms [wD (TL.spl [32] 0 [] u), .int sg] μ Q2 _
    rw [← eu]
    refine ok_numbers_of_terms hs (fun w hw => by have := w2 w hw; omega) (by omega) fun μ' mo => ?_
    rw [← es]
    exact k2 μ' mo
  unfold wp_rule_in
  simp only [Jbu, Jcw]
  unfold wp_rule_in_0
  simp only [Jbu, initE, Jcw, Jci, Jbk, Jbl, Jbz, Jcr, Jcs, Jc8, Jco, Jbm, Jcy, Jbn, Jbt, Jdb, Jdc, Jda, Jdd, Jdi, Jdf, Jdg, Jde, Jc3, Jcc, Jd5, Jd4, Jc9, Jcl, Jd3, Jd2, Jcf, Jbr, Jd1, Jck, Jbj, Jcn, Jc7, Jbi, Jcm, Jcj, Jd7, Jd6, Jd9, Jbo, Jch, Jcq, Jc1, Jcx, Jcg, Jbp, Jct, Jcz, Jdk, Jdl, Jcd, Jcu, Jcv, Jc6, Jbq, Jc0, Jbw, Jce, gt, st, Jbb, Jb9, Jba, Jb7, Jbh, Ja5, atI0, atI1, atI2, atI3, atI4, ixN20, ixN21, List.map_cons, List.map_nil, List.cons_append, List.nil_append, List.append_nil, List.length_cons, List.length_nil, List.replicate_succ, List.replicate_zero, Nat.add_one_sub_one, Jd8, Jbs, Jbx, Jby, Jbv, Jae, Jag, Jah, Jaf, Jb6, Jav, Jaw, Jak, Jau, Jb3, Jat, Jas, Jam, Jal, Jb1, Jai, Jaj, Jaz, Jb0, Jap, Jb2, Jaq, Jar, Jan, Jao, Jb5, Jb4, Ja7, Ja8, Jac, Jab, Ja0, Ja9, Jaa, Jbf, Jbg, Ja6, Jad, Jbc, Jbe, Jbd, Jb8, Ja2, Ja1, Ja4, Ja3, Jax, Jay, decide_true, decide_false, Bool.not_true, Bool.not_false, Bool.false_eq_true, if_true, if_false, true_and, minus_S]
  refine sl_to (i := 1) (by omega) ?_
  simp only [Jbu, initE, Jcw, Jci, Jbk, Jbl, Jbz, Jcr, Jcs, Jc8, Jco, Jbm, Jcy, Jbn, Jbt, Jdb, Jdc, Jda, Jdd, Jdi, Jdf, Jdg, Jde, Jc3, Jcc, Jd5, Jd4, Jc9, Jcl, Jd3, Jd2, Jcf, Jbr, Jd1, Jck, Jbj, Jcn, Jc7, Jbi, Jcm, Jcj, Jd7, Jd6, Jd9, Jbo, Jch, Jcq, Jc1, Jcx, Jcg, Jbp, Jct, Jcz, Jdk, Jdl, Jcd, Jcu, Jcv, Jc6, Jbq, Jc0, Jbw, Jce, gt, st, Jbb, Jb9, Jba, Jb7, Jbh, Ja5, atI0, atI1, atI2, atI3, atI4, ixN20, ixN21, List.map_cons, List.map_nil, List.cons_append, List.nil_append, List.append_nil, List.length_cons, List.length_nil, List.replicate_succ, List.replicate_zero, Nat.add_one_sub_one, Jd8, Jbs, Jbx, Jby, Jbv, Jae, Jag, Jah, Jaf, Jb6, Jav, Jaw, Jak, Jau, Jb3, Jat, Jas, Jam, Jal, Jb1, Jai, Jaj, Jaz, Jb0, Jap, Jb2, Jaq, Jar, Jan, Jao, Jb5, Jb4, Ja7, Ja8, Jac, Jab, Ja0, Ja9, Jaa, Jbf, Jbg, Ja6, Jad, Jbc, Jbe, Jbd, Jb8, Ja2, Ja1, Ja4, Ja3, Jax, Jay, decide_true, decide_false, Bool.not_true, Bool.not_false, Bool.false_eq_true, if_true, if_false, true_and]
  unfold wp_rule_in_1
  simp only [Jbu, initE, Jcw, Jci, Jbk, Jbl, Jbz, Jcr, Jcs, Jc8, Jco, Jbm, Jcy, Jbn, Jbt, Jdb, Jdc, Jda, Jdd, Jdi, Jdf, Jdg, Jde, Jc3, Jcc, Jd5, Jd4, Jc9, Jcl, Jd3, Jd2, Jcf, Jbr, Jd1, Jck, Jbj, Jcn, Jc7, Jbi, Jcm, Jcj, Jd7, Jd6, Jd9, Jbo, Jch, Jcq, Jc1, Jcx, Jcg, Jbp, Jct, Jcz, Jdk, Jdl, Jcd, Jcu, Jcv, Jc6, Jbq, Jc0, Jbw, Jce, gt, st, Jbb, Jb9, Jba, Jb7, Jbh, Ja5, atI0, atI1, atI2, atI3, atI4, ixN20, ixN21, List.map_cons, List.map_nil, List.cons_append, List.nil_append, List.append_nil, List.length_cons, List.length_nil, List.replicate_succ, List.replicate_zero, Nat.add_one_sub_one, Jd8, Jbs, Jbx, Jby, Jbv, Jae, Jag, Jah, Jaf, Jb6, Jav, Jaw, Jak, Jau, Jb3, Jat, Jas, Jam, Jal, Jb1, Jai, Jaj, Jaz, Jb0, Jap, Jb2, Jaq, Jar, Jan, Jao, Jb5, Jb4, Ja7, Ja8, Jac, Jab, Ja0, Ja9, Jaa, Jbf, Jbg, Ja6, Jad, Jbc, Jbe, Jbd, Jb8, Ja2, Ja1, Ja4, Ja3, Jax, Jay, decide_true, decide_false, Bool.not_true, Bool.not_false, Bool.false_eq_true, if_true, if_false, true_and, Jd0, sp_S]
  have e1 : decide (S (t.take 1) = S [45]) = decide (t.take 1 = [45]) := by rw [decide_eq_decide]; exact s_inj
  rw [e1]
  by_cases z : t.take 1 = [45]
  · rw [if_pos (decide_eq_true z)]
    refine sl_from (i := 1) (by omega) ?_
    simp only [Jbu, initE, Jcw, Jci, Jbk, Jbl, Jbz, Jcr, Jcs, Jc8, Jco, Jbm, Jcy, Jbn, Jbt, Jdb, Jdc, Jda, Jdd, Jdi, Jdf, Jdg, Jde, Jc3, Jcc, Jd5, Jd4, Jc9, Jcl, Jd3, Jd2, Jcf, Jbr, Jd1, Jck, Jbj, Jcn, Jc7, Jbi, Jcm, Jcj, Jd7, Jd6, Jd9, Jbo, Jch, Jcq, Jc1, Jcx, Jcg, Jbp, Jct, Jcz, Jdk, Jdl, Jcd, Jcu, Jcv, Jc6, Jbq, Jc0, Jbw, Jce, gt, st, Jbb, Jb9, Jba, Jb7, Jbh, Ja5, atI0, atI1, atI2, atI3, atI4, ixN20, ixN21, List.map_cons, List.map_nil, List.cons_append, List.nil_append, List.append_nil, List.length_cons, List.length_nil, List.replicate_succ, List.replicate_zero, Nat.add_one_sub_one, Jd8, Jbs, Jbx, Jby, Jbv, Jae, Jag, Jah, Jaf, Jb6, Jav, Jaw, Jak, Jau, Jb3, Jat, Jas, Jam, Jal, Jb1, Jai, Jaj, Jaz, Jb0, Jap, Jb2, Jaq, Jar, Jan, Jao, Jb5, Jb4, Ja7, Ja8, Jac, Jab, Ja0, Ja9, Jaa, Jbf, Jbg, Ja6, Jad, Jbc, Jbe, Jbd, Jb8, Ja2, Ja1, Ja4, Ja3, Jax, Jay, decide_true, decide_false, Bool.not_true, Bool.not_false, Bool.false_eq_true, if_true, if_false, true_and]
    refine ⟨trivial, ?_⟩
    rw [decide_eq_true z]
    simp only [Jbu, initE, Jcw, Jci, Jbk, Jbl, Jbz, Jcr, Jcs, Jc8, Jco, Jbm, Jcy, Jbn, Jbt, Jdb, Jdc, Jda, Jdd, Jdi, Jdf, Jdg, Jde, Jc3, Jcc, Jd5, Jd4, Jc9, Jcl, Jd3, Jd2, Jcf, Jbr, Jd1, Jck, Jbj, Jcn, Jc7, Jbi, Jcm, Jcj, Jd7, Jd6, Jd9, Jbo, Jch, Jcq, Jc1, Jcx, Jcg, Jbp, Jct, Jcz, Jdk, Jdl, Jcd, Jcu, Jcv, Jc6, Jbq, Jc0, Jbw, Jce, gt, st, Jbb, Jb9, Jba, Jb7, Jbh, Ja5, atI0, atI1, atI2, atI3, atI4, ixN20, ixN21, List.map_cons, List.map_nil, List.cons_append, List.nil_append, List.append_nil, List.length_cons, List.length_nil, List.replicate_succ, List.replicate_zero, Nat.add_one_sub_one, Jd8, Jbs, Jbx, Jby, Jbv, Jae, Jag, Jah, Jaf, Jb6, Jav, Jaw, Jak, Jau, Jb3, Jat, Jas, Jam, Jal, Jb1, Jai, Jaj, Jaz, Jb0, Jap, Jb2, Jaq, Jar, Jan, Jao, Jb5, Jb4, Ja7, Ja8, Jac, Jab, Ja0, Ja9, Jaa, Jbf, Jbg, Ja6, Jad, Jbc, Jbe, Jbd, Jb8, Ja2, Ja1, Ja4, Ja3, Jax, Jay, decide_true, decide_false, Bool.not_true, Bool.not_false, Bool.false_eq_true, if_true, if_false, true_and]
    refine go (t.drop 1) (-1) (by unfold wordsT; rw [if_pos z]) (by rw [List.length_drop]; omega) (by unfold sgnT; rw [if_pos z]) (.inr rfl) (.bool true) _ fun μ' mo => ?_
    exact rule_rest hl (k μ' mo)
  · rw [if_neg (by rw [decide_eq_true_iff]; exact z)]
    refine ⟨trivial, ?_⟩
    rw [decide_eq_false z]
    simp only [Jbu, initE, Jcw, Jci, Jbk, Jbl, Jbz, Jcr, Jcs, Jc8, Jco, Jbm, Jcy, Jbn, Jbt, Jdb, Jdc, Jda, Jdd, Jdi, Jdf, Jdg, Jde, Jc3, Jcc, Jd5, Jd4, Jc9, Jcl, Jd3, Jd2, Jcf, Jbr, Jd1, Jck, Jbj, Jcn, Jc7, Jbi, Jcm, Jcj, Jd7, Jd6, Jd9, Jbo, Jch, Jcq, Jc1, Jcx, Jcg, Jbp, Jct, Jcz, Jdk, Jdl, Jcd, Jcu, Jcv, Jc6, Jbq, Jc0, Jbw, Jce, gt, st, Jbb, Jb9, Jba, Jb7, Jbh, Ja5, atI0, atI1, atI2, atI3, atI4, ixN20, ixN21, List.map_cons, List.map_nil, List.cons_append, List.nil_append, List.append_nil, List.length_cons, List.length_nil, List.replicate_succ, List.replicate_zero, Nat.add_one_sub_one, Jd8, Jbs, Jbx, Jby, Jbv, Jae, Jag, Jah, Jaf, Jb6, Jav, Jaw, Jak, Jau, Jb3, Jat, Jas, Jam, Jal, Jb1, Jai, Jaj, Jaz, Jb0, Jap, Jb2, Jaq, Jar, Jan, Jao, Jb5, Jb4, Ja7, Ja8, Jac, Jab, Ja0, Ja9, Jaa, Jbf, Jbg, Ja6, Jad, Jbc, Jbe, Jbd, Jb8, Ja2, Ja1, Ja4, Ja3, Jax, Jay, decide_true, decide_false, Bool.not_true, Bool.not_false, Bool.false_eq_true, if_true, if_false, true_and]
    refine go t 1 (by unfold wordsT; rw [if_neg z]) (Nat.le_refl _) (by unfold sgnT; rw [if_neg z]) (.inl rfl) (.bool false) _ fun μ' mo => ?_
    exact rule_rest hl (k μ' mo)
theorem ok_read_rule {t : Tx} (hl : t.length ≤ 500000) (k : ∀ r, ruleT t = some r → ∀ μ', (∀ a, μ a ≠ Option.none → μ' a = μ a) → Q (ruleD r) μ') (x : ruleT t = none → ∀ μ', (∀ a, μ a ≠ Option.none → μ' a = μ a) → X (.err "BadText" ["line"] [.int 0]) μ') : wp_read_rule [.str (S t)] μ Q X := by
  unfold wp_read_rule
  simp only [Jbu, initE, Jcw, Jci, Jbk, Jbl, Jbz, Jcr, Jcs, Jc8, Jco, Jbm, Jcy, Jbn, Jbt, Jdb, Jdc, Jda, Jdd, Jdi, Jdf, Jdg, Jde, Jc3, Jcc, Jd5, Jd4, Jc9, Jcl, Jd3, Jd2, Jcf, Jbr, Jd1, Jck, Jbj, Jcn, Jc7, Jbi, Jcm, Jcj, Jd7, Jd6, Jd9, Jbo, Jch, Jcq, Jc1, Jcx, Jcg, Jbp, Jct, Jcz, Jdk, Jdl, Jcd, Jcu, Jcv, Jc6, Jbq, Jc0, Jbw, Jce, gt, st, Jbb, Jb9, Jba, Jb7, Jbh, Ja5, atI0, atI1, atI2, atI3, atI4, ixN20, ixN21, List.map_cons, List.map_nil, List.cons_append, List.nil_append, List.append_nil, List.length_cons, List.length_nil, List.replicate_succ, List.replicate_zero, Nat.add_one_sub_one, Jd8, Jbs, Jbx, Jby, Jbv, Jae, Jag, Jah, Jaf, Jb6, Jav, Jaw, Jak, Jau, Jb3, Jat, Jas, Jam, Jal, Jb1, Jai, Jaj, Jaz, Jb0, Jap, Jb2, Jaq, Jar, Jan, Jao, Jb5, Jb4, Ja7, Ja8, Jac, Jab, Ja0, Ja9, Jaa, Jbf, Jbg, Ja6, Jad, Jbc, Jbe, Jbd, Jb8, Ja2, Ja1, Ja4, Ja3, Jax, Jay, decide_true, decide_false, Bool.not_true, Bool.not_false, Bool.false_eq_true, if_true, if_false, true_and, Jcv]
  have is : cbIsi [.str (S t), .ty "str"] μ = fun QQ _ => QQ (.v (.bool true)) μ := by
    funext QQ X
    exact propext Iff.rfl
  rw [is]
  simp only [Jbu, initE, Jcw, Jci, Jbk, Jbl, Jbz, Jcr, Jcs, Jc8, Jco, Jbm, Jcy, Jbn, Jbt, Jdb, Jdc, Jda, Jdd, Jdi, Jdf, Jdg, Jde, Jc3, Jcc, Jd5, Jd4, Jc9, Jcl, Jd3, Jd2, Jcf, Jbr, Jd1, Jck, Jbj, Jcn, Jc7, Jbi, Jcm, Jcj, Jd7, Jd6, Jd9, Jbo, Jch, Jcq, Jc1, Jcx, Jcg, Jbp, Jct, Jcz, Jdk, Jdl, Jcd, Jcu, Jcv, Jc6, Jbq, Jc0, Jbw, Jce, gt, st, Jbb, Jb9, Jba, Jb7, Jbh, Ja5, atI0, atI1, atI2, atI3, atI4, ixN20, ixN21, List.map_cons, List.map_nil, List.cons_append, List.nil_append, List.append_nil, List.length_cons, List.length_nil, List.replicate_succ, List.replicate_zero, Nat.add_one_sub_one, Jd8, Jbs, Jbx, Jby, Jbv, Jae, Jag, Jah, Jaf, Jb6, Jav, Jaw, Jak, Jau, Jb3, Jat, Jas, Jam, Jal, Jb1, Jai, Jaj, Jaz, Jb0, Jap, Jb2, Jaq, Jar, Jan, Jao, Jb5, Jb4, Ja7, Ja8, Jac, Jab, Ja0, Ja9, Jaa, Jbf, Jbg, Ja6, Jad, Jbc, Jbe, Jbd, Jb8, Ja2, Ja1, Ja4, Ja3, Jax, Jay, decide_true, decide_false, Bool.not_true, Bool.not_false, Bool.false_eq_true, if_true, if_false, true_and]
  refine ok_rule_in hl fun μ' mo => ?_
  cases h : ruleT t with
  | none => exact x h μ' mo
  | some r => exact k r h μ' mo
end
end DL

set_option Elab.async false
set_option linter.all false
set_option maxRecDepth 100000
set_option maxHeartbeats 2000000
/-! X4: the text of a rule is read as the rule, if its numbers have at most twelve figures. -/
namespace DL
open PySem L2
open SX (S)
abbrev Tm := Int × Nat
/-- the words of a term -/
def tW (n p : Nat) : List Tx := if p = 0 then [TL.numL n] else if n = 1 then [powL p] else [TL.numL n, powL p]
def sgW (n : Int) : Tx := if 0 < n then [43] else [45]
def restW : List Tm → List Tx
  | [] => []
  | e :: L => sgW e.1 :: (tW e.1.natAbs e.2 ++ restW L)
def wordsL : List Tm → List Tx
  | [] => []
  | e :: L => tW e.1.natAbs e.2 ++ restW L
def headS : List Tm → Tx
  | [] => []
  | e :: _ => if 0 < e.1 then [] else [45]
def termsN (ns : List Int) : Nat → List Tm
  | 0 => []
  | i + 1 => if ns.getD (ns.length - 1 - i) 0 = 0 then termsN ns i else termsN ns i ++ [(ns.getD (ns.length - 1 - i) 0, ns.length - 1 - i)]
theorem join_app : ∀ {a b : List Tx}, a ≠ [] → b ≠ [] → TL.joinL [32] (a ++ b) = TL.joinL [32] a ++ ([32] ++ TL.joinL [32] b)
  | [], _, h, _ => absurd rfl h
  | [x], y :: b, _, _ => by
    rfl
  | [x], [], _, h => absurd rfl h
  | x :: z :: a, b, _, hb => by
    have ih := join_app (a := z :: a) (b := b) (List.cons_ne_nil _ _) hb
    show x ++ ([32] ++ TL.joinL [32] ((z :: a) ++ b)) = (x ++ ([32] ++ TL.joinL [32] (z :: a))) ++ ([32] ++ TL.joinL [32] b)
    rw [ih]
    simp
theorem termL_join (n p : Nat) : TL.joinL [32] (tW n p) = termL n p := by
  unfold tW termL
  split
  · rfl
  · split
    · rfl
    · rfl
theorem tW_ne (n p : Nat) : tW n p ≠ [] := by
  unfold tW
  split
  · exact List.cons_ne_nil _ _
  · split <;> exact List.cons_ne_nil _ _
theorem restW_app : ∀ (L : List Tm) (e : Tm), restW (L ++ [e]) = restW L ++ (sgW e.1 :: tW e.1.natAbs e.2)
  | [], e => by simp [restW]
  | x :: L, e => by
    rw [List.cons_append, restW, restW_app L e, restW]
    simp
theorem wordsL_app {L : List Tm} (h : L ≠ []) (e : Tm) : wordsL (L ++ [e]) = wordsL L ++ (sgW e.1 :: tW e.1.natAbs e.2) := by
  cases L with
  | nil => exact absurd rfl h
  | cons x L =>
    rw [List.cons_append, wordsL, restW_app, wordsL]
    simp
theorem powL_ne (p : Nat) : powL p ≠ [] := by
  unfold powL
  split <;> simp
theorem tW_w {n p : Nat} {w : Tx} (h : w ∈ tW n p) : w ≠ [] ∧ 32 ∉ w ∧ 45 ∉ w.take 1 := by
  have hn : TL.numL n ≠ [] ∧ 32 ∉ TL.numL n ∧ 45 ∉ (TL.numL n).take 1 := ⟨TL.numL_ne n, TL.numL_free (.inl (by decide)), fun z => TL.numL_free (.inl (by decide)) (List.mem_of_mem_take z)⟩
  have hp : powL p ≠ [] ∧ 32 ∉ powL p ∧ 45 ∉ (powL p).take 1 := by
    refine ⟨powL_ne p, ?_, ?_⟩
    · unfold powL
      split
      · decide
      · intro z
        rcases List.mem_append.mp z with z | z
        · revert z; decide
        · exact TL.numL_free (.inl (by decide)) z
    · unfold powL
      split
      · decide
      · show 45 ∉ [116]
        decide
  unfold tW at h
  split at h
  · rw [List.mem_singleton.mp h]
    exact hn
  · split at h
    · rw [List.mem_singleton.mp h]
      exact hp
    · rcases List.mem_cons.mp h with z | z
      · rw [z]; exact hn
      · rw [List.mem_singleton.mp z]; exact hp
theorem restW_w : ∀ {L : List Tm} {w : Tx}, w ∈ restW L → w ≠ [] ∧ 32 ∉ w
  | [], _, h => nomatch h
  | e :: L, w, h => by
    rw [restW] at h
    rcases List.mem_cons.mp h with z | z
    · rw [z]
      unfold sgW
      split <;> exact ⟨by simp, by decide⟩
    · rcases List.mem_append.mp z with y | y
      · exact ⟨(tW_w y).1, (tW_w y).2.1⟩
      · exact restW_w y
theorem wordsL_w {L : List Tm} {w : Tx} (h : w ∈ wordsL L) : w ≠ [] ∧ 32 ∉ w := by
  cases L with
  | nil => cases h
  | cons e L =>
    rw [wordsL] at h
    rcases List.mem_append.mp h with y | y
    · exact ⟨(tW_w y).1, (tW_w y).2.1⟩
    · exact restW_w y
theorem wordsL_ne {L : List Tm} (h : L ≠ []) : wordsL L ≠ [] := by
  cases L with
  | nil => exact absurd rfl h
  | cons e L =>
    rw [wordsL]
    intro z
    exact tW_ne _ _ (List.append_eq_nil_iff.mp z).1
theorem join_ne {W : List Tx} (h : W ≠ []) (hw : ∀ w ∈ W, w ≠ []) : TL.joinL [32] W ≠ [] := by
  match W, h, hw with
  | [w], _, hw => exact hw w List.mem_cons_self
  | w :: v :: W, _, hw =>
    intro z
    have z : w ++ ([32] ++ TL.joinL [32] (v :: W)) = [] := z
    simp at z
theorem page_terms (ns : List Int) : ∀ i, pageN ns i = headS (termsN ns i) ++ TL.joinL [32] (wordsL (termsN ns i))
  | 0 => rfl
  | i + 1 => by
    have ih := page_terms ns i
    rw [pageN, termsN]
    unfold addT
    generalize ns.getD (ns.length - 1 - i) 0 = n
    generalize ns.length - 1 - i = p
    by_cases z : n = 0
    · rw [if_pos z, if_pos z]
      exact ih
    · rw [if_neg z, if_neg z]
      by_cases y : termsN ns i = []
      · have e0 : pageN ns i = [] := by rw [ih, y]; rfl
        rw [e0, y, decide_eq_true rfl]
        show [] ++ (signL n true ++ termL n.natAbs p) = (if 0 < n then [] else [45]) ++ TL.joinL [32] (tW n.natAbs p ++ [])
        rw [List.append_nil, termL_join]
        rfl
      · have ne : pageN ns i ≠ [] := by
          rw [ih]
          intro q
          exact join_ne (wordsL_ne y) (fun w hw => (wordsL_w hw).1) (List.append_eq_nil_iff.mp q).2
        rw [decide_eq_false ne, wordsL_app y, join_app (wordsL_ne y) (List.cons_ne_nil _ _), ih]
        have eh : headS (termsN ns i ++ [(n, p)]) = headS (termsN ns i) := by
          cases h : termsN ns i with
          | nil => exact absurd h y
          | cons a b => rfl
        rw [eh]
        have ej : TL.joinL [32] (sgW n :: tW n.natAbs p) = sgW n ++ ([32] ++ termL n.natAbs p) := by
          have := join_app (a := [sgW n]) (b := tW n.natAbs p) (List.cons_ne_nil _ _) (tW_ne _ _)
          rw [termL_join] at this
          exact this
        rw [ej]
        have es : signL n false = [32] ++ (sgW n ++ [32]) := by
          unfold signL sgW
          rw [if_neg (by decide)]
          split <;> rfl
        rw [es]
        simp
/-! ### parsed -/
theorem numL_head (n : Nat) (h : n ≠ 0) : (TL.numL n).head? ≠ some 48 := by
  induction n using Nat.strongRecOn with
  | _ n ih =>
    by_cases z : n < 10
    · rw [TL.numL_lt z]
      simp
      exact h
    · rw [TL.numL_step (by omega)]
      have := ih (n / 10) (by omega) (by omega)
      cases e : TL.numL (n / 10) with
      | nil => exact absurd e (TL.numL_ne _)
      | cons a b =>
        rw [e] at this
        exact this
theorem digW_num (n : Nat) : digW (TL.numL n) = true := by
  unfold digW
  rw [List.all_eq_true]
  intro c hc
  have := TL.numL_digits n c hc
  simp only [Bool.and_eq_true, decide_eq_true_iff]
  exact this
theorem num_plain {n m : Nat} (hm : 0 < m) (h : n < 10 ^ m) : plainW (TL.numL n) m = true := by
  have l := TL.numL_len hm h
  have l0 : 1 ≤ (TL.numL n).length := by
    cases h : TL.numL n with
    | nil => exact absurd h (TL.numL_ne n)
    | cons a b => simp
  unfold plainW
  rw [decide_eq_true l0, decide_eq_true l, digW_num]
  by_cases z : n = 0
  · subst z
    decide
  · rw [decide_eq_false (numL_head n z)]
    simp
theorem numL_lower {n m : Nat} (h : 10 ^ m ≤ n) : m < (TL.numL n).length := by
  have hv := TL.numL_val n
  have hd := digW_num n
  by_cases z : (TL.numL n).length ≤ m
  · exfalso
    have key : ∀ (l : Tx), digW l = true → ∀ a, l.foldl (fun acc c => acc * 10 + (c - 48)) a < (a + 1) * 10 ^ l.length := by
      intro l
      induction l with
      | nil => intro _ a; simp
      | cons c l ih =>
        intro hd a
        unfold digW at hd
        rw [List.all_cons, Bool.and_eq_true] at hd
        have hc := hd.1
        simp only [Bool.and_eq_true, decide_eq_true_iff] at hc
        have := ih hd.2 (a * 10 + (c - 48))
        rw [List.foldl_cons, List.length_cons, Nat.pow_succ]
        refine Nat.lt_of_lt_of_le this ?_
        rw [show (a + 1) * (10 ^ l.length * 10) = ((a + 1) * 10) * 10 ^ l.length by rw [Nat.mul_comm (10 ^ l.length), Nat.mul_assoc]]
        exact Nat.mul_le_mul_right _ (by omega)
    have := key _ hd 0
    rw [Nat.zero_add, Nat.one_mul] at this
    have e : (TL.numL n).foldl (fun acc c => acc * 10 + (c - 48)) 0 = n := hv
    rw [e] at this
    have := Nat.pow_le_pow_right (show 0 < 10 by decide) z
    omega
  · omega
theorem num_big {n : Nat} (h : 10 ^ 12 ≤ n) : plainW (TL.numL n) 12 = false := by
  have := numL_lower h
  unfold plainW
  rw [decide_eq_false (show ¬(TL.numL n).length ≤ 12 by omega)]
  simp
theorem pow_in : ∀ p : Nat, p < 25 → p ≠ 0 → powIn (powL p) = some p ∧ plainW (powL p) 12 = false := by decide +kernel
theorem num_in (n : Nat) : powIn (TL.numL n) = none := by
  unfold powIn
  have h1 : TL.numL n ≠ [116] := fun z => by
    have := TL.numL_digits n 116 (by rw [z]; simp)
    omega
  rw [if_neg h1, if_neg]
  rintro ⟨z, _⟩
  have : 116 ∈ TL.numL n := List.mem_of_mem_take (i := 2) (by rw [z]; simp)
  have := TL.numL_digits n 116 this
  omega
theorem sg_in (n : Int) : powIn (sgW n) = none := by
  unfold sgW
  split <;> decide
/-- a term of at most twelve figures -/
theorem term_ok {n p : Nat} (L : List Tm) (h1 : n < 10 ^ 12) (h0 : n ≠ 0) (hp : p < 25) : termW (tW n p ++ restW L) = (n, p, (tW n p).length) := by
  have hr : (restW L).head?.bind powIn = none := by
    cases L with
    | nil => rfl
    | cons e L => exact sg_in e.1
  unfold tW termW
  by_cases z : p = 0
  · rw [if_pos z]
    subst z
    have pl : plainW (([TL.numL n] ++ restW L).headD []) 12 = true := num_plain (by decide) h1
    rw [if_pos pl]
    show (match (restW L).head?.bind powIn with | some p => (valW (TL.numL n), p, 1 + 1) | none => (valW (TL.numL n), 0, 1)) = _
    rw [hr]
    show (valW (TL.numL n), 0, 1) = (n, 0, 1)
    rw [show valW (TL.numL n) = n from TL.numL_val n]
  · rw [if_neg z]
    obtain ⟨e1, e2⟩ := pow_in p hp z
    by_cases y : n = 1
    · rw [if_pos y]
      subst y
      have pl : plainW (([powL p] ++ restW L).headD []) 12 = false := e2
      rw [pl]
      show (match powIn (powL p) with | some p => (1, p, 0 + 1) | none => (1, 0, 0)) = _
      rw [e1]
      rfl
    · rw [if_neg y]
      have pl : plainW (([TL.numL n, powL p] ++ restW L).headD []) 12 = true := num_plain (by decide) h1
      rw [if_pos pl]
      show (match powIn (powL p) with | some p => (valW (TL.numL n), p, 1 + 1) | none => (valW (TL.numL n), 0, 1)) = _
      rw [e1]
      show (valW (TL.numL n), p, 2) = (n, p, 2)
      rw [show valW (TL.numL n) = n from TL.numL_val n]
/-- a term of more figures -/
theorem term_big {n p : Nat} (L : List Tm) (h1 : 10 ^ 12 ≤ n) : (termW (tW n p ++ restW L)).2.2 = 0 := by
  have eh : (tW n p ++ restW L).headD [] = TL.numL n ∧ (tW n p ++ restW L).head? = some (TL.numL n) := by
    unfold tW
    split
    · exact ⟨rfl, rfl⟩
    · rw [if_neg (by have : (1 : Nat) < 10 ^ 12 := by decide
                     omega)]
      exact ⟨rfl, rfl⟩
  unfold termW
  rw [eh.1, num_big h1]
  show (match (tW n p ++ restW L).head?.bind powIn with | some p => (1, p, 0 + 1) | none => (1, 0, 0)).2.2 = 0
  rw [eh.2]
  show (match powIn (TL.numL n) with | some p => (1, p, 0 + 1) | none => (1, 0, 0)).2.2 = 0
  rw [num_in]
end DL

set_option Elab.async false
set_option linter.all false
set_option maxRecDepth 100000
set_option maxHeartbeats 2000000
/-! X5: ruleT of a rule's text. -/
namespace DL
open PySem L2
open SX (S)
def SmT (L : List Tm) : Prop := ∀ e ∈ L, e.1.natAbs < 10 ^ 12
def swT (L : List Tm) : Nm := L.map fun e => (e.2, e.1)
theorem put_snoc {p : Nat} {c : Int} {m : Nm} (h : ∀ e ∈ m, e.1 ≠ p) : putN0 p c m = m ++ [(p, c)] := by
  unfold putN0
  rw [if_neg]
  rw [Bool.not_eq_true, List.any_eq_false]
  intro e he
  rw [decide_eq_true_iff]
  exact h e he
theorem get_new {p : Nat} {m : Nm} (h : ∀ e ∈ m, e.1 ≠ p) : getN p m = 0 := by
  induction m with
  | nil => rfl
  | cons e m ih =>
    show (if e.1 = p then e.2 else getN p m) = 0
    rw [if_neg (h e List.mem_cons_self)]
    exact ih fun e he => h e (List.mem_cons_of_mem _ he)
theorem sg_mul {n : Int} (h : n ≠ 0) : (if 0 < n then 1 else -1) * ((n.natAbs : Nat) : Int) = n := by
  split <;> omega
def sgI (n : Int) : Int := if 0 < n then 1 else -1
theorem nums_ok : ∀ (L : List Tm) (e : Tm) (f : Nat) (m : Nm), (∀ x ∈ e :: L, x.1 ≠ 0 ∧ x.2 < 25) → SmT (e :: L) → ((e :: L).map (·.2)).Nodup → (∀ x ∈ e :: L, ∀ y ∈ m, y.1 ≠ x.2) → L.length < f → numsOf f (wordsL (e :: L)) (sgI e.1) m = some (m ++ swT (e :: L))
  | L, e, 0, m, _, _, _, _, hf => absurd hf (Nat.not_lt_zero _)
  | L, e, f + 1, m, h, sm, nd, hm, hf => by
    obtain ⟨e0, ep⟩ := h e List.mem_cons_self
    have t := term_ok L (sm e List.mem_cons_self) (show e.1.natAbs ≠ 0 by omega) ep
    have new := hm e List.mem_cons_self
    have ne : wordsL (e :: L) ≠ [] := wordsL_ne (List.cons_ne_nil _ _)
    rw [numsOf, if_neg ne]
    have wl : wordsL (e :: L) = tW e.1.natAbs e.2 ++ restW L := rfl
    rw [wl, t]
    dsimp only
    have l0 : (tW e.1.natAbs e.2).length ≠ 0 := fun z => tW_ne _ _ (List.length_eq_zero_iff.mp z)
    have dr : (tW e.1.natAbs e.2 ++ restW L).drop (tW e.1.natAbs e.2).length = restW L := List.drop_left
    rw [if_neg l0, dr, get_new new, Int.zero_add]
    have sg : sgI e.1 * ((e.1.natAbs : Nat) : Int) = e.1 := sg_mul e0
    rw [sg, put_snoc new]
    cases L with
    | nil =>
      rw [show restW [] = [] from rfl, if_pos rfl]
      rfl
    | cons x L =>
      have rw1 : restW (x :: L) = sgW x.1 :: wordsL (x :: L) := rfl
      rw [rw1, if_neg (List.cons_ne_nil _ _)]
      have hd : (sgW x.1 :: wordsL (x :: L)).headD [] = sgW x.1 := rfl
      have ln : (sgW x.1 :: wordsL (x :: L)).length ≠ 1 := by
        have : (wordsL (x :: L)).length ≠ 0 := fun z => wordsL_ne (List.cons_ne_nil _ _) (List.length_eq_zero_iff.mp z)
        rw [List.length_cons]
        omega
      rw [hd, if_pos ⟨by unfold sgW; split <;> simp, ln⟩]
      have es : (if sgW x.1 = [43] then (1 : Int) else -1) = sgI x.1 := by
        unfold sgW sgI
        split <;> simp
      rw [es]
      show numsOf f (wordsL (x :: L)) (sgI x.1) (m ++ [(e.2, e.1)]) = _
      rw [List.map_cons, List.nodup_cons] at nd
      have ih := nums_ok L x f (m ++ [(e.2, e.1)]) (fun y hy => h y (List.mem_cons_of_mem _ hy)) (fun y hy => sm y (List.mem_cons_of_mem _ hy)) nd.2 (fun y hy z hz => by
        rcases List.mem_append.mp hz with q | q
        · exact hm y (List.mem_cons_of_mem _ hy) z q
        · rw [List.mem_singleton.mp q]
          intro z
          exact nd.1 (List.mem_map.mpr ⟨y, hy, z.symm⟩)) (by rw [List.length_cons] at hf; omega)
      rw [ih]
      simp [swT]
theorem nums_big : ∀ (L : List Tm) (e : Tm) (f : Nat) (m : Nm), (∀ x ∈ e :: L, x.1 ≠ 0 ∧ x.2 < 25) → ¬SmT (e :: L) → L.length < f → numsOf f (wordsL (e :: L)) (sgI e.1) m = none
  | L, e, 0, m, _, _, hf => absurd hf (Nat.not_lt_zero _)
  | L, e, f + 1, m, h, sm, hf => by
    obtain ⟨e0, ep⟩ := h e List.mem_cons_self
    have ne : wordsL (e :: L) ≠ [] := wordsL_ne (List.cons_ne_nil _ _)
    rw [numsOf, if_neg ne]
    have wl : wordsL (e :: L) = tW e.1.natAbs e.2 ++ restW L := rfl
    rw [wl]
    by_cases big : 10 ^ 12 ≤ e.1.natAbs
    · rw [if_pos (term_big L big)]
    · have t := term_ok L (show e.1.natAbs < 10 ^ 12 by omega) (show e.1.natAbs ≠ 0 by omega) ep
      rw [t]
      dsimp only
      have l0 : (tW e.1.natAbs e.2).length ≠ 0 := fun z => tW_ne _ _ (List.length_eq_zero_iff.mp z)
      have dr : (tW e.1.natAbs e.2 ++ restW L).drop (tW e.1.natAbs e.2).length = restW L := List.drop_left
      rw [if_neg l0, dr]
      cases L with
      | nil =>
        exfalso
        exact sm fun x hx => by
          rw [List.mem_singleton.mp hx]
          omega
      | cons x L =>
        have rw1 : restW (x :: L) = sgW x.1 :: wordsL (x :: L) := rfl
        rw [rw1, if_neg (List.cons_ne_nil _ _)]
        have hd : (sgW x.1 :: wordsL (x :: L)).headD [] = sgW x.1 := rfl
        have ln : (sgW x.1 :: wordsL (x :: L)).length ≠ 1 := by
          have : (wordsL (x :: L)).length ≠ 0 := fun z => wordsL_ne (List.cons_ne_nil _ _) (List.length_eq_zero_iff.mp z)
          rw [List.length_cons]
          omega
        rw [hd, if_pos ⟨by unfold sgW; split <;> simp, ln⟩]
        have es : (if sgW x.1 = [43] then (1 : Int) else -1) = sgI x.1 := by
          unfold sgW sgI
          split <;> simp
        rw [es]
        exact nums_big L x f _ (fun y hy => h y (List.mem_cons_of_mem _ hy)) (fun q => sm fun y hy => by
          rcases List.mem_cons.mp hy with z | z
          · rw [z]; omega
          · exact q y z) (by rw [List.length_cons] at hf; omega)
/-! ### the terms of a rule -/
theorem terms_mem {ns : List Int} : ∀ {i : Nat} {e : Tm}, i ≤ ns.length → e ∈ termsN ns i → e.1 ≠ 0 ∧ ns.length - i ≤ e.2 ∧ e.2 < ns.length ∧ e.1 = ns.getD e.2 0
  | 0, _, _, h => nomatch h
  | i + 1, e, hi, h => by
    rw [termsN] at h
    split at h
    · have := terms_mem (by omega) h
      exact ⟨this.1, by omega, this.2.2.1, this.2.2.2⟩
    · rename_i ne
      rcases List.mem_append.mp h with z | z
      · have := terms_mem (by omega) z
        exact ⟨this.1, by omega, this.2.2.1, this.2.2.2⟩
      · rw [List.mem_singleton.mp z]
        exact ⟨ne, show ns.length - (i + 1) ≤ ns.length - 1 - i by omega, show ns.length - 1 - i < ns.length by omega, rfl⟩
theorem terms_nd {ns : List Int} : ∀ {i : Nat}, i ≤ ns.length → ((termsN ns i).map (·.2)).Nodup
  | 0, _ => List.nodup_nil
  | i + 1, hi => by
    rw [termsN]
    split
    · exact terms_nd (by omega)
    · rw [List.map_append, List.nodup_append]
      refine ⟨terms_nd (by omega), by simp, fun a ha b hb => ?_⟩
      obtain ⟨e, he, rfl⟩ := List.mem_map.mp ha
      have h1 := (terms_mem (by omega) he).2.1
      have h2 : b = ns.length - 1 - i := by simpa using hb
      omega
theorem get_snoc {p q : Nat} {c : Int} : ∀ {m : Nm}, getN p (m ++ [(q, c)]) = if (∃ e ∈ m, e.1 = p) then getN p m else if q = p then c else 0
  | [] => by simp [getN]
  | e :: m => by
    show (if e.1 = p then e.2 else getN p (m ++ [(q, c)])) = if _ then (if e.1 = p then e.2 else getN p m) else _
    by_cases h : e.1 = p
    · rw [if_pos h, if_pos ⟨e, List.mem_cons_self, h⟩, if_pos h]
    · have ex : (∃ x ∈ e :: m, x.1 = p) ↔ (∃ x ∈ m, x.1 = p) := by
        constructor
        · rintro ⟨x, h1, h2⟩
          rcases List.mem_cons.mp h1 with z | z
          · rw [z] at h2; exact absurd h2 h
          · exact ⟨x, z, h2⟩
        · rintro ⟨x, h1, h2⟩
          exact ⟨x, List.mem_cons_of_mem _ h1, h2⟩
      rw [if_neg h, get_snoc, if_neg h]
      simp only [ex]
theorem get_terms {ns : List Int} (p : Nat) : ∀ {i : Nat}, i ≤ ns.length → getN p (swT (termsN ns i)) = if ns.length - i ≤ p then ns.getD p 0 else 0
  | 0, _ => by
    show (0 : Int) = _
    split
    · rename_i h
      have : ns.getD p 0 = 0 := by simp [List.getD, List.getElem?_eq_none_iff.mpr (show ns.length ≤ p by omega)]
      rw [this]
    · rfl
  | i + 1, hi => by
    have ih := get_terms (ns := ns) p (i := i) (by omega)
    rw [termsN]
    split
    · rename_i z
      rw [ih]
      by_cases y : ns.length - i ≤ p
      · rw [if_pos y, if_pos (by omega)]
      · rw [if_neg y]
        by_cases w : ns.length - (i + 1) ≤ p
        · rw [if_pos w]
          have : p = ns.length - 1 - i := by omega
          rw [this, z]
        · rw [if_neg w]
    · rename_i z
      have e : swT (termsN ns i ++ [(ns.getD (ns.length - 1 - i) 0, ns.length - 1 - i)]) = swT (termsN ns i) ++ [(ns.length - 1 - i, ns.getD (ns.length - 1 - i) 0)] := by simp [swT]
      rw [e, get_snoc]
      by_cases y : ∃ e ∈ swT (termsN ns i), e.1 = p
      · rw [if_pos y, ih]
        obtain ⟨x, hx, rfl⟩ := y
        obtain ⟨x2, hx2, rfl⟩ := List.mem_map.mp hx
        have := (terms_mem (by omega) hx2).2.1
        rw [if_pos this, if_pos (show ns.length - (i + 1) ≤ x2.2 by omega)]
      · rw [if_neg y]
        by_cases w : ns.length - 1 - i = p
        · rw [if_pos w, if_pos (by omega), w]
        · rw [if_neg w]
          have g0 : getN p (swT (termsN ns i)) = 0 := get_new fun e he q => y ⟨e, he, q⟩
          rw [g0] at ih
          by_cases v : ns.length - (i + 1) ≤ p
          · rw [if_pos v]
            rw [if_pos (by omega)] at ih
            exact ih
          · rw [if_neg v]
theorem trim_zerosX (ns : List Int) : ∀ k : Nat, M.trim (ns ++ List.replicate k 0) = M.trim ns
  | 0 => by simp
  | k + 1 => by
    rw [List.replicate_succ', ← List.append_assoc, M.trim_append_zero]
    exact trim_zerosX ns k
theorem row_terms {ns : List Int} (hl : ns.length ≤ 25) : rowN (swT (termsN ns ns.length)) = ns ++ List.replicate (25 - ns.length) 0 := by
  apply List.ext_getElem?
  intro p
  unfold rowN
  by_cases h : p < 25
  · rw [List.getElem?_map, List.getElem?_range h, Option.map_some, get_terms p (Nat.le_refl _), if_pos (by omega)]
    by_cases z : p < ns.length
    · rw [List.getElem?_append_left z, List.getD, List.getElem?_eq_getElem z]
      rfl
    · rw [List.getElem?_append_right (by omega), List.getElem?_replicate, if_pos (by omega)]
      simp [List.getD, List.getElem?_eq_none_iff.mpr (Nat.not_lt.mp z)]
  · rw [List.getElem?_eq_none (by simp; omega), List.getElem?_eq_none (by simp; omega)]
/-! ### the text of a rule, read -/
theorem terms_zero {ns : List Int} (h : termsN ns ns.length = []) (tr : M.trim ns = ns) : ns = [] := by
  have key : ∀ p, p < ns.length → ns.getD p 0 = 0 := fun p hp => by
    have := get_terms (ns := ns) p (Nat.le_refl _)
    rw [h, if_pos (by omega)] at this
    exact this.symm
  by_cases z : ns = []
  · exact z
  · exfalso
    have hl := M.trim_last ns (by rw [tr]; exact z)
    simp only [tr] at hl
    rw [List.getLast_eq_getElem] at hl
    have l : ns.length - 1 < ns.length := by
      have : ns.length ≠ 0 := fun y => z (List.length_eq_zero_iff.mp y)
      omega
    have := key (ns.length - 1) l
    rw [List.getD, List.getElem?_eq_getElem l] at this
    exact hl this
theorem words_page {L : List Tm} (h : L ≠ []) : wordsT (headS L ++ TL.joinL [32] (wordsL L)) = wordsL L ∧ ∃ e M, L = e :: M ∧ sgnT (headS L ++ TL.joinL [32] (wordsL L)) = sgI e.1 := by
  match L, h with
  | e :: L, _ =>
    have sp : TL.spl [32] 0 [] (TL.joinL [32] (wordsL (e :: L))) = wordsL (e :: L) := SX.spl_join (wordsL_ne (List.cons_ne_nil _ _)) fun w hw => (wordsL_w hw).2
    by_cases z : 0 < e.1
    · have e0 : headS (e :: L) = [] := by simp [headS, z]
      have nt : (TL.joinL [32] (wordsL (e :: L))).take 1 ≠ [45] := by
        have wl : wordsL (e :: L) = tW e.1.natAbs e.2 ++ restW L := rfl
        cases ht : tW e.1.natAbs e.2 with
        | nil => exact absurd ht (tW_ne _ _)
        | cons w W =>
          have hw := tW_w (n := e.1.natAbs) (p := e.2) (w := w) (by rw [ht]; exact List.mem_cons_self)
          rw [wl, ht]
          cases w with
          | nil => exact absurd rfl hw.1
          | cons c w =>
            have hc : c ≠ 45 := fun y => hw.2.2 (by rw [y]; simp)
            have hj : ∃ r, TL.joinL [32] ((c :: w) :: W ++ restW L) = c :: r := by
              rw [List.cons_append]
              cases W ++ restW L with
              | nil => exact ⟨w, rfl⟩
              | cons v V => exact ⟨_, rfl⟩
            obtain ⟨r, hr⟩ := hj
            rw [hr]
            intro y
            apply hc
            simpa using y
      rw [e0, List.nil_append]
      unfold wordsT sgnT
      rw [if_neg nt, if_neg nt]
      exact ⟨sp, e, L, rfl, by unfold sgI; rw [if_pos z]⟩
    · have e0 : headS (e :: L) = [45] := by simp [headS, z]
      rw [e0]
      unfold wordsT sgnT
      have t1 : ([45] ++ TL.joinL [32] (wordsL (e :: L))).take 1 = [45] := rfl
      rw [if_pos t1, if_pos t1]
      exact ⟨sp, e, L, rfl, by unfold sgI; rw [if_neg z]⟩
theorem page_eq {ns : List Int} (h : termsN ns ns.length ≠ []) : pageL ns = headS (termsN ns ns.length) ++ TL.joinL [32] (wordsL (termsN ns ns.length)) := by
  have e := page_terms ns ns.length
  unfold pageL
  rw [if_neg, e]
  rw [e]
  intro q
  exact join_ne (wordsL_ne h) (fun w hw => (wordsL_w hw).1) (List.append_eq_nil_iff.mp q).2
theorem rule_nil : ruleT [48] = some [] := by decide +kernel
theorem words_many : ∀ L : List Tm, L.length ≤ (wordsL L).length
  | [] => Nat.le_refl _
  | e :: L => by
    have key : ∀ L : List Tm, L.length ≤ (restW L).length := by
      intro L
      induction L with
      | nil => exact Nat.le_refl _
      | cons x L ih =>
        rw [restW, List.length_cons, List.length_cons, List.length_append]
        omega
    have := key L
    have l0 : (tW e.1.natAbs e.2).length ≠ 0 := fun z => tW_ne _ _ (List.length_eq_zero_iff.mp z)
    rw [wordsL, List.length_append, List.length_cons]
    omega
theorem rule_page {ns : List Int} (tr : M.trim ns = ns) (hl : ns.length ≤ 25) (sm : ∀ n ∈ ns, n.natAbs < 10 ^ 12) : ruleT (pageL ns) = some ns := by
  by_cases z : termsN ns ns.length = []
  · have := terms_zero z tr
    subst this
    exact rule_nil
  · have pe := page_eq z
    obtain ⟨w1, e, L, eL, w2⟩ := words_page z
    rw [← pe] at w1 w2
    have hm : ∀ x ∈ termsN ns ns.length, x.1 ≠ 0 ∧ x.2 < 25 := fun x hx => by
      have := terms_mem (Nat.le_refl _) hx
      exact ⟨this.1, by omega⟩
    have sT : SmT (termsN ns ns.length) := fun x hx => by
      have := terms_mem (Nat.le_refl _) hx
      rw [this.2.2.2]
      have hp := this.2.2.1
      rw [List.getD, List.getElem?_eq_getElem hp]
      exact sm _ (List.getElem_mem hp)
    have many := words_many (termsN ns ns.length)
    have nd := terms_nd (ns := ns) (Nat.le_refl _)
    have row := row_terms hl
    unfold ruleT
    rw [w1, w2]
    rw [eL] at hm sT many nd row ⊢
    rw [nums_ok L e ((wordsL (e :: L)).length + 1) [] hm sT nd (fun _ _ _ y => nomatch y) (by rw [List.length_cons] at many; omega)]
    dsimp only
    rw [List.nil_append, row, trim_zerosX, tr, if_pos rfl]
theorem rule_big {ns : List Int} (hl : ns.length ≤ 25) (sm : ∃ n ∈ ns, 10 ^ 12 ≤ n.natAbs) : ruleT (pageL ns) = none := by
  obtain ⟨n, hn, bn⟩ := sm
  obtain ⟨p, hp, ep⟩ := List.mem_iff_getElem.mp hn
  have g := get_terms (ns := ns) p (Nat.le_refl _)
  rw [if_pos (by omega), List.getD, List.getElem?_eq_getElem hp, Option.getD_some, ep] at g
  have pos : (0 : Nat) < 10 ^ 12 := by decide
  have z : termsN ns ns.length ≠ [] := fun q => by
    rw [q] at g
    have : n = 0 := g.symm
    rw [this] at bn
    omega
  have nsT : ¬SmT (termsN ns ns.length) := fun q => by
    have : (getN p (swT (termsN ns ns.length))).natAbs ≤ 10 ^ 12 - 1 := getN_bd (fun e he => by
      obtain ⟨x, hx, rfl⟩ := List.mem_map.mp he
      have := q x hx
      omega) p
    rw [g] at this
    omega
  have pe := page_eq z
  obtain ⟨w1, e, L, eL, w2⟩ := words_page z
  rw [← pe] at w1 w2
  have hm : ∀ x ∈ termsN ns ns.length, x.1 ≠ 0 ∧ x.2 < 25 := fun x hx => by
    have := terms_mem (Nat.le_refl _) hx
    exact ⟨this.1, by omega⟩
  have many := words_many (termsN ns ns.length)
  unfold ruleT
  rw [w1, w2]
  rw [eL] at hm nsT many ⊢
  rw [nums_big L e ((wordsL (e :: L)).length + 1) [] hm nsT (by rw [List.length_cons] at many; omega)]
end DL

set_option Elab.async false
set_option linter.all false
set_option maxRecDepth 100000
set_option maxHeartbeats 4000000
/-! X5a: texts of plain signs. -/
namespace DL
open PySem L2
open SX (S)
/-- the signs of a text are plain -/
def Asc (t : Tx) : Prop := ∀ c ∈ t, c < 128
theorem Asc.app {a b : Tx} (h : Asc a) (h' : Asc b) : Asc (a ++ b) := fun c hc => (List.mem_append.mp hc).elim (h c) (h' c)
theorem asc_num (n : Nat) : Asc (TL.numL n) := fun c hc => by
  have := TL.numL_digits n c hc
  omega
theorem asc_of {t : Tx} (h : t.all (fun c => decide (c < 128)) = true) : Asc t := fun c hc => by
  have := List.all_eq_true.mp h c hc
  exact of_decide_eq_true this
theorem asc_pow (p : Nat) : Asc (powL p) := by
  unfold powL
  split
  · exact asc_of rfl
  · exact (asc_of rfl).app (asc_num p)
theorem asc_term (n p : Nat) : Asc (termL n p) := by
  unfold termL
  split
  · exact asc_num n
  · split
    · exact asc_pow p
    · exact (asc_num n).app ((asc_of rfl).app (asc_pow p))
theorem asc_sign (n : Int) (b : Bool) : Asc (signL n b) := by
  unfold signL
  split <;> split <;> exact asc_of rfl
theorem asc_pageN (ns : List Int) : ∀ i, Asc (pageN ns i)
  | 0 => fun _ h => nomatch h
  | i + 1 => by
    rw [pageN]
    unfold addT
    split
    · exact asc_pageN ns i
    · exact (asc_pageN ns i).app ((asc_sign _ _).app (asc_term _ _))
theorem asc_page (ns : List Int) : Asc (pageL ns) := by
  unfold pageL
  split
  · exact asc_of rfl
  · exact asc_pageN ns _
section
variable {μ : Mu} {Q X : QD} {QQ : QR}
theorem str_lay {t : Tx} (h : Asc t) : PyData.canLay0 (.str (S t)) = true := by
  show PyData.strOk (S t) = true
  unfold PyData.strOk
  rw [← Array.all_toList, List.all_eq_true]
  intro c hc
  have := h c hc
  exact decide_eq_true (by omega)
end
end DL

set_option Elab.async false
set_option linter.all false
set_option maxRecDepth 100000
set_option maxHeartbeats 2000000
/-! X6: the laws' own reader of rules reads what the package's reads. -/
namespace DL
open PySem L2
open SX (S)
def figW (w : Tx) (m : Nat) : Option Nat := if plainW w m = true then some (valW w) else none
def placeW (w : Tx) : Option Nat := if w.take 2 = [116, 94] then figW (w.drop 2) 2 else if w = [116] then some 1 else some 0
/-- the number and the place of one or two words -/
def termRd (ws : List Tx) : Option (Nat × Nat) := match placeW (ws.getLastD []) with
  | none => none
  | some p => if 24 < p then none else
    if ws.length = 2 ∨ p = 0 then
      match figW (ws.headD []) 12 with
      | none => none
      | some n => if (ws.length = 1 ↔ p = 0) then some (n, p) else none
    else some (1, p)
def termQ (ws : List Tx) : Option (Nat × Nat) := if 0 < ws.length ∧ ws.length < 3 then termRd ws else none
/-- the row of words -/
def lawF : List Tx → Int → List Int → List Tx → Option (List Int)
  | [], _, row, _ => some row
  | w :: R, s, row, ws => if w = [43] ∨ w = [45] then
      match termQ ws with
      | none => none
      | some np => lawF R (if w = [43] then 1 else -1) (row.set np.2 (row.getD np.2 0 + s * np.1)) []
    else lawF R s row (ws ++ [w])
/-- the rule with a text, by the laws -/
def lawT (t : Tx) : Option (List Int) := match lawF (wordsT t ++ [[43]]) (sgnT t) (List.replicate 25 0) [] with
  | some row => if pageL (M.trim row) = t then some (M.trim row) else none
  | none => none
theorem num_sg (n : Nat) : ¬(TL.numL n = [43] ∨ TL.numL n = [45]) := fun h => by
  rcases h with h | h
  · have := TL.numL_digits n 43 (by rw [h]; simp)
    omega
  · have := TL.numL_digits n 45 (by rw [h]; simp)
    omega
theorem pow_sg (p : Nat) : ¬(powL p = [43] ∨ powL p = [45]) := fun h => by
  unfold powL at h
  split at h
  · revert h; decide
  · rcases h with h | h
    · injection h with h1 _; revert h1; decide
    · injection h with h1 _; revert h1; decide
theorem place_pow : ∀ p : Nat, p < 25 → p ≠ 0 → placeW (powL p) = some p := by decide +kernel
theorem place_num (n : Nat) : placeW (TL.numL n) = some 0 := by
  unfold placeW
  have h1 : TL.numL n ≠ [116] := fun z => by
    have := TL.numL_digits n 116 (by rw [z]; simp)
    omega
  rw [if_neg, if_neg h1]
  intro z
  have : 116 ∈ TL.numL n := List.mem_of_mem_take (i := 2) (by rw [z]; simp)
  have := TL.numL_digits n 116 this
  omega
theorem fig_num {n : Nat} (h : n < 10 ^ 12) : figW (TL.numL n) 12 = some n := by
  unfold figW
  rw [if_pos (num_plain (by decide) h), show valW (TL.numL n) = n from TL.numL_val n]
theorem fig_big {n : Nat} (h : 10 ^ 12 ≤ n) : figW (TL.numL n) 12 = none := by
  unfold figW
  rw [num_big h]
  rfl
theorem term_rd {n p : Nat} (h1 : n < 10 ^ 12) (h0 : n ≠ 0) (hp : p < 25) : termQ (tW n p) = some (n, p) := by
  unfold tW
  by_cases z : p = 0
  · subst z
    rw [if_pos rfl]
    show termRd [TL.numL n] = _
    unfold termRd
    rw [show placeW ([TL.numL n].getLastD []) = some 0 from place_num n]
    show (match figW (TL.numL n) 12 with | none => none | some n => if (1 = 1 ↔ 0 = 0) then some (n, 0) else none) = some (n, 0)
    rw [fig_num h1]
    rfl
  · rw [if_neg z]
    by_cases y : n = 1
    · rw [if_pos y]
      subst y
      show termRd [powL p] = _
      unfold termRd
      rw [show placeW ([powL p].getLastD []) = some p from place_pow p hp z]
      dsimp only
      rw [if_neg (by omega), if_neg (by simp [z])]
    · rw [if_neg y]
      show termRd [TL.numL n, powL p] = _
      unfold termRd
      rw [show placeW ([TL.numL n, powL p].getLastD []) = some p from place_pow p hp z]
      dsimp only
      rw [if_neg (by omega), if_pos (.inl rfl)]
      show (match figW (TL.numL n) 12 with | none => none | some n => if (2 = 1 ↔ p = 0) then some (n, p) else none) = some (n, p)
      rw [fig_num h1]
      dsimp only
      rw [if_pos (by simp [z])]
theorem term_rd_big {n p : Nat} (h1 : 10 ^ 12 ≤ n) (hp : p < 25) : termQ (tW n p) = none := by
  unfold tW
  by_cases z : p = 0
  · subst z
    rw [if_pos rfl]
    show termRd [TL.numL n] = _
    unfold termRd
    rw [show placeW ([TL.numL n].getLastD []) = some 0 from place_num n]
    show (match figW (TL.numL n) 12 with | none => none | some n => if (1 = 1 ↔ 0 = 0) then some (n, 0) else none) = none
    rw [fig_big h1]
  · rw [if_neg z]
    have y : n ≠ 1 := by
      have : (1 : Nat) < 10 ^ 12 := by decide
      omega
    rw [if_neg y]
    show termRd [TL.numL n, powL p] = _
    unfold termRd
    rw [show placeW ([TL.numL n, powL p].getLastD []) = some p from place_pow p hp z]
    dsimp only
    rw [if_neg (by omega), if_pos (.inl rfl)]
    show (match figW (TL.numL n) 12 with | none => none | some n => if (2 = 1 ↔ p = 0) then some (n, p) else none) = none
    rw [fig_big h1]
theorem lawF_term (n p : Nat) (R : List Tx) (s : Int) (row : List Int) : lawF (tW n p ++ R) s row [] = lawF R s row (tW n p) := by
  unfold tW
  by_cases z : p = 0
  · rw [if_pos z]
    show lawF (TL.numL n :: R) s row [] = _
    rw [lawF, if_neg (num_sg n)]
    rfl
  · rw [if_neg z]
    by_cases y : n = 1
    · rw [if_pos y]
      show lawF (powL p :: R) s row [] = _
      rw [lawF, if_neg (pow_sg p)]
      rfl
    · rw [if_neg y]
      show lawF (TL.numL n :: powL p :: R) s row [] = _
      rw [lawF, if_neg (num_sg n), lawF, if_neg (pow_sg p)]
      rfl
theorem row_len (m : Nm) : (rowN m).length = 25 := by unfold rowN; simp
theorem row_get {m : Nm} {p : Nat} (hp : p < 25) : (rowN m).getD p 0 = getN p m := by
  have er : (rowN m)[p]? = some (getN p m) := by
    unfold rowN
    rw [List.getElem?_map, List.getElem?_range hp]
    rfl
  rw [List.getD, er]
  rfl
theorem row_set {m : Nm} {p : Nat} (hp : p < 25) (new : ∀ e ∈ m, e.1 ≠ p) (c : Int) : (rowN m).set p c = rowN (m ++ [(p, c)]) := by
  apply List.ext_getElem?
  intro q
  rw [List.getElem?_set]
  by_cases hq : q < 25
  · have e2 : (rowN (m ++ [(p, c)]))[q]? = some (getN q (m ++ [(p, c)])) := by
      unfold rowN
      rw [List.getElem?_map, List.getElem?_range hq]
      rfl
    have e1 : (rowN m)[q]? = some (getN q m) := by
      unfold rowN
      rw [List.getElem?_map, List.getElem?_range hq]
      rfl
    rw [e1, e2, get_snoc]
    by_cases z : p = q
    · subst z
      have nn : ¬∃ e ∈ m, e.1 = p := fun ⟨e, he, y⟩ => new e he y
      rw [if_pos rfl, if_pos (by rw [row_len]; exact hp), if_neg nn, if_pos rfl]
    · rw [if_neg z]
      by_cases y : ∃ e ∈ m, e.1 = q
      · rw [if_pos y]
      · rw [if_neg y, if_neg z]
        have : getN q m = 0 := get_new fun e he w => y ⟨e, he, w⟩
        rw [this]
  · have e1 : (rowN m)[q]? = none := List.getElem?_eq_none (by rw [row_len]; omega)
    have e2 : (rowN (m ++ [(p, c)]))[q]? = none := List.getElem?_eq_none (by rw [row_len]; omega)
    rw [e1, e2, if_neg (by omega)]
theorem lawF_ok : ∀ (L : List Tm) (e : Tm) (m : Nm), (∀ x ∈ e :: L, x.1 ≠ 0 ∧ x.2 < 25) → SmT (e :: L) → ((e :: L).map (·.2)).Nodup → (∀ x ∈ e :: L, ∀ y ∈ m, y.1 ≠ x.2) → lawF (wordsL (e :: L) ++ [[43]]) (sgI e.1) (rowN m) [] = some (rowN (m ++ swT (e :: L)))
  | L, e, m, h, sm, nd, hm => by
    obtain ⟨e0, ep⟩ := h e List.mem_cons_self
    have new := hm e List.mem_cons_self
    have wl : wordsL (e :: L) = tW e.1.natAbs e.2 ++ restW L := rfl
    have t := term_rd (sm e List.mem_cons_self) (show e.1.natAbs ≠ 0 by omega) ep
    have sg : sgI e.1 * ((e.1.natAbs : Nat) : Int) = e.1 := sg_mul e0
    have st : (rowN m).set e.2 ((rowN m).getD e.2 0 + sgI e.1 * ((e.1.natAbs : Nat) : Int)) = rowN (m ++ [(e.2, e.1)]) := by
      rw [row_get ep, get_new new, Int.zero_add, sg, row_set ep new]
    rw [wl, List.append_assoc, lawF_term]
    cases L with
    | nil =>
      show lawF [[43]] (sgI e.1) (rowN m) (tW e.1.natAbs e.2) = _
      rw [lawF, if_pos (.inl rfl), t]
      dsimp only
      rw [st]
      rfl
    | cons x L =>
      have rw1 : restW (x :: L) ++ [[43]] = sgW x.1 :: (wordsL (x :: L) ++ [[43]]) := rfl
      rw [rw1, lawF, if_pos (by unfold sgW; split <;> simp), t]
      dsimp only
      rw [st]
      have es : (if sgW x.1 = [43] then (1 : Int) else -1) = sgI x.1 := by
        unfold sgW sgI
        split <;> simp
      rw [es]
      rw [List.map_cons, List.nodup_cons] at nd
      have ih := lawF_ok L x (m ++ [(e.2, e.1)]) (fun y hy => h y (List.mem_cons_of_mem _ hy)) (fun y hy => sm y (List.mem_cons_of_mem _ hy)) nd.2 (fun y hy z hz => by
        rcases List.mem_append.mp hz with q | q
        · exact hm y (List.mem_cons_of_mem _ hy) z q
        · rw [List.mem_singleton.mp q]
          intro z
          exact nd.1 (List.mem_map.mpr ⟨y, hy, z.symm⟩))
      rw [ih]
      simp [swT]
theorem lawF_big : ∀ (L : List Tm) (e : Tm) (s : Int) (row : List Int), (∀ x ∈ e :: L, x.1 ≠ 0 ∧ x.2 < 25) → ¬SmT (e :: L) → lawF (wordsL (e :: L) ++ [[43]]) s row [] = none
  | L, e, s, row, h, sm => by
    obtain ⟨e0, ep⟩ := h e List.mem_cons_self
    have wl : wordsL (e :: L) = tW e.1.natAbs e.2 ++ restW L := rfl
    rw [wl, List.append_assoc, lawF_term]
    have nx : ∃ w R, restW L ++ [[43]] = w :: R ∧ (w = [43] ∨ w = [45]) ∧ (L = [] ∨ ∃ x M, L = x :: M ∧ R = wordsL (x :: M) ++ [[43]]) := by
      cases L with
      | nil => exact ⟨[43], [], rfl, .inl rfl, .inl rfl⟩
      | cons x L => exact ⟨sgW x.1, _, rfl, by unfold sgW; split <;> simp, .inr ⟨x, L, rfl, rfl⟩⟩
    obtain ⟨w, R, eR, hw, hL⟩ := nx
    rw [eR, lawF, if_pos hw]
    by_cases big : 10 ^ 12 ≤ e.1.natAbs
    · rw [term_rd_big big ep]
    · rw [term_rd (show e.1.natAbs < 10 ^ 12 by omega) (show e.1.natAbs ≠ 0 by omega) ep]
      dsimp only
      rcases hL with rfl | ⟨x, M, rfl, rfl⟩
      · exfalso
        exact sm fun x hx => by
          rw [List.mem_singleton.mp hx]
          omega
      · exact lawF_big M x _ _ (fun y hy => h y (List.mem_cons_of_mem _ hy)) fun q => sm fun y hy => by
          rcases List.mem_cons.mp hy with z | z
          · rw [z]; omega
          · exact q y z
theorem lawT_nil : lawT [48] = some [] := by decide +kernel
theorem lawT_page {ns : List Int} (tr : M.trim ns = ns) (hl : ns.length ≤ 25) (sm : ∀ n ∈ ns, n.natAbs < 10 ^ 12) : lawT (pageL ns) = some ns := by
  by_cases z : termsN ns ns.length = []
  · have := terms_zero z tr
    subst this
    exact lawT_nil
  · have pe := page_eq z
    obtain ⟨w1, e, L, eL, w2⟩ := words_page z
    rw [← pe] at w1 w2
    have hm : ∀ x ∈ termsN ns ns.length, x.1 ≠ 0 ∧ x.2 < 25 := fun x hx => by
      have := terms_mem (Nat.le_refl _) hx
      exact ⟨this.1, by omega⟩
    have sT : SmT (termsN ns ns.length) := fun x hx => by
      have := terms_mem (Nat.le_refl _) hx
      rw [this.2.2.2]
      have hp := this.2.2.1
      rw [List.getD, List.getElem?_eq_getElem hp]
      exact sm _ (List.getElem_mem hp)
    have nd := terms_nd (ns := ns) (Nat.le_refl _)
    have row := row_terms hl
    unfold lawT
    rw [w1, w2]
    rw [eL] at hm sT nd row ⊢
    have r0 : List.replicate 25 0 = rowN [] := by decide
    rw [r0, lawF_ok L e [] hm sT nd (fun _ _ _ y => nomatch y)]
    dsimp only
    rw [List.nil_append, row, trim_zerosX, tr, if_pos rfl]
theorem lawT_big {ns : List Int} (hl : ns.length ≤ 25) (sm : ∃ n ∈ ns, 10 ^ 12 ≤ n.natAbs) : lawT (pageL ns) = none := by
  obtain ⟨n, hn, bn⟩ := sm
  obtain ⟨p, hp, ep⟩ := List.mem_iff_getElem.mp hn
  have g := get_terms (ns := ns) p (Nat.le_refl _)
  rw [if_pos (by omega), List.getD, List.getElem?_eq_getElem hp, Option.getD_some, ep] at g
  have pos : (0 : Nat) < 10 ^ 12 := by decide
  have z : termsN ns ns.length ≠ [] := fun q => by
    rw [q] at g
    have : n = 0 := g.symm
    rw [this] at bn
    omega
  have nsT : ¬SmT (termsN ns ns.length) := fun q => by
    have : (getN p (swT (termsN ns ns.length))).natAbs ≤ 10 ^ 12 - 1 := getN_bd (fun e he => by
      obtain ⟨x, hx, rfl⟩ := List.mem_map.mp he
      have := q x hx
      omega) p
    rw [g] at this
    omega
  have pe := page_eq z
  obtain ⟨w1, e, L, eL, w2⟩ := words_page z
  rw [← pe] at w1 w2
  have hm : ∀ x ∈ termsN ns ns.length, x.1 ≠ 0 ∧ x.2 < 25 := fun x hx => by
    have := terms_mem (Nat.le_refl _) hx
    exact ⟨this.1, by omega⟩
  unfold lawT
  rw [w1, w2]
  rw [eL] at hm nsT ⊢
  rw [lawF_big L e _ _ hm nsT]
theorem lawF_len : ∀ (R : List Tx) (s : Int) (row : List Int) (ws : List Tx) (r : List Int), lawF R s row ws = some r → r.length = row.length
  | [], _, row, _, r, h => by
    cases h
    rfl
  | w :: R, s, row, ws, r, h => by
    rw [lawF] at h
    split at h
    · split at h
      · cases h
      · have := lawF_len R _ _ _ r h
        rw [this, List.length_set]
    · exact lawF_len R _ _ _ r h
/-- the two readers read the same -/
theorem law_same (t : Tx) : lawT t = ruleT t := by
  have key : ∀ (f g : Tx → Option (List Int)), (∀ ns, M.trim ns = ns → ns.length ≤ 25 → (∀ n ∈ ns, n.natAbs < 10 ^ 12) → g (pageL ns) = some ns) → (∀ ns, ns.length ≤ 25 → (∃ n ∈ ns, 10 ^ 12 ≤ n.natAbs) → f (pageL ns) = none) → ∀ r, M.trim r = r → r.length ≤ 25 → pageL r = t → f t = some r → g t = some r := fun f g h1 h2 r tr hl et ef => by
    by_cases b : ∃ n ∈ r, 10 ^ 12 ≤ n.natAbs
    · have := h2 r hl b
      rw [et, ef] at this
      cases this
    · have := h1 r tr hl fun n hn => by
        by_cases z : n.natAbs < 10 ^ 12
        · exact z
        · exact absurd ⟨n, hn, by omega⟩ b
      rw [et] at this
      exact this
  have fl : ∀ r, lawT t = some r → M.trim r = r ∧ r.length ≤ 25 ∧ pageL r = t := fun r h => by
    unfold lawT at h
    split at h
    · rename_i row e
      split at h
      · rename_i z
        cases h
        have := lawF_len _ _ _ _ _ e
        exact ⟨M.trim_trim _, Nat.le_trans (M.trim_len _) (by rw [this]; simp), z⟩
      · cases h
    · cases h
  have fr : ∀ r, ruleT t = some r → M.trim r = r ∧ r.length ≤ 25 ∧ pageL r = t := fun r h => by
    unfold ruleT at h
    split at h
    · rename_i m e
      split at h
      · rename_i z
        cases h
        exact ⟨M.trim_trim _, Nat.le_trans (M.trim_len _) (by rw [row_len]; exact Nat.le_refl _), z⟩
      · cases h
    · cases h
  cases e1 : lawT t with
  | some r =>
    obtain ⟨a, b, c⟩ := fl r e1
    exact (key lawT ruleT (fun _ x y z => rule_page x y z) (fun _ x y => lawT_big x y) r a b c e1).symm
  | none =>
    cases e2 : ruleT t with
    | none => rfl
    | some r =>
      obtain ⟨a, b, c⟩ := fr r e2
      have := key ruleT lawT (fun _ x y z => lawT_page x y z) (fun _ x y => rule_big x y) r a b c e2
      rw [e1] at this
      exact this
end DL

set_option Elab.async false
set_option linter.all false
set_option maxRecDepth 100000
set_option maxHeartbeats 4000000
/-! A30: dicts with tuple keys are walked: by keys, by items. -/
namespace L2
open PySem PySem.Spec PyProof.Rows
section
variable {P : Program} {w : World} {K : PySem.W.Frag} {tg : Expr} {d : Addr} {o : Obj} {es : Array DictEntry} {ep : Nat}
end
section
variable {X : Cx} {tg e : Expr} {td : TE} {apos cpos : Pos}
end
end L2
namespace DL
open PySem PyProof.Rows L2
section
variable {c : Ctx} {S : Option SA} {F : Hp} {n : Nat} {I H : Hp} {μ : Mu} {a : Addr} {u : HO}
end
section
variable {X : Cx} {c : Ctx} {W : WX} {k : Nat} {a tg : Expr} {wa : WE} {apos cpos : Pos}
end
end DL

set_option Elab.async false
set_option linter.all false
set_option maxRecDepth 100000
set_option maxHeartbeats 4000000
/-! A32: sorted(d), the keys pairs of whole numbers. -/
namespace L2
open PySem PySem.Spec PyProof.Rows
section
variable {prog : Program} {w : World} {A : Around} {E : Value → Shared → Prop} {s : Shared} {d : Addr} {o : Obj} {es : Array DictEntry} {ep : Nat}
end
section
variable {X : Cx}
end
end L2
namespace DL
open PySem PyProof.Rows L2
section
variable {X : Cx} {c : Ctx} {S : Option SA} {F : Hp} {n : Nat} {I H : Hp} {μ : Mu}
end
end DL

set_option Elab.async false
set_option linter.all false
set_option maxRecDepth 100000
set_option maxHeartbeats 4000000
/-! A33: {k: v for .. in .. if ..}, the keys tuples. -/
namespace L2
open PySem PySem.Spec PyProof.Rows
section
variable {X : Cx}
end
end L2
namespace DL
open PySem PyProof.Rows L2
section
variable {X : Cx} {c : Ctx} {W : WX} {k ka kb kc kt kk kv : Nat} {m : Bool} {js : List Nat} {g : WG} {wi : WI} {wt : WT} {wa wb : WE} {vs : List Nat}
end
end DL

set_option Elab.async false
set_option linter.all false
set_option maxRecDepth 100000
set_option maxHeartbeats 4000000
/-! A34: dict(d), dict(list of pairs), the keys pairs of small whole numbers. -/
namespace L2
open PySem PySem.Spec PyProof.Rows
/-! ### the hashes of small pairs are apart -/
end L2
namespace L2
open PySem PySem.Spec PyProof.Rows
end L2

set_option Elab.async false
set_option linter.all false
set_option maxRecDepth 100000
set_option maxHeartbeats 4000000
/-! A35: dict(d), dict(list of pairs), the keys tuples. -/
namespace L2
open PySem PySem.Spec PyProof.Rows
section
variable {X : Cx}
end
end L2

set_option Elab.async false
set_option linter.all false
set_option maxRecDepth 100000
set_option maxHeartbeats 4000000
/-! A36: max(.., default=..), sum, max of a list; dict(..). -/
namespace L2
open PySem PySem.Spec PyProof.Rows
section
variable {prog : Program} {w : World} {A : Around} {E : Value → Shared → Prop} {s : Shared} {l : Addr} {its : List Value} {ns : List Int}
end
section
variable {X : Cx}
end
end L2
namespace DL
open PySem PyProof.Rows L2
section
variable {X : Cx} {c : Ctx} {W : WX} {ka kb : Nat} {wa wb : WA}
end
end DL

set_option Elab.async false
set_option linter.all false
set_option maxRecDepth 100000
set_option maxHeartbeats 4000000
/-! A37: == of dicts with tuple keys. -/
namespace L2
open PySem PySem.Spec PyProof.Rows
section
variable {prog : Program} {w : World} {K : Type} [DecidableEq K] {kind : HeapKind prog w K} {A : Around} {Er : Value → Shared → Prop} {s : Shared} {d1 d2 : Addr} {l1 l2 : List (K × Addr × Value)} {eqv : K × Addr × Value → Bool}
/-- a dict's object, its entries, that they are l -/
structure Laid (kind : HeapKind prog w K) (h : Heap) (d : Addr) (l : List (K × Addr × Value)) (o : Obj) (es : Array DictEntry) (ep : Nat) : Prop where
  at_ : h.get? d = some o
  dat : o.data = .dict es ep
  ents : es.toList = l.map (entryOfKey kind)
  keys : ∀ x ∈ l, kind.is h x.1 x.2.1
  nodup : (l.map (·.1)).Nodup
end
/-! ### by values: whole numbers -/
section
variable {X : Cx}
end
end L2

set_option Elab.async false
set_option linter.all false
set_option maxRecDepth 100000
set_option maxHeartbeats 4000000
/-! A38: == and != of dicts with tuple keys and whole numbers, as wishes. -/
namespace DL
open PySem PyProof.Rows L2
section
variable {X : Cx} {c : Ctx} {W : WX}
end
end DL

set_option Elab.async false
set_option linter.all false
set_option maxRecDepth 100000
set_option maxHeartbeats 4000000
/-! A39: repr of lists that hold dicts with tuple keys. -/
namespace PySem
section
variable {prog : Program} {w : World} {h₀ : Heap} {A : Around} {E : Value → Shared → Prop} {s : Shared}
/-- a value reads as a datum, and is told as it is -/
def Told (prog : Program) (w : World) (h₀ : Heap) (v : Value) (d : PyData) : Prop := (∃ as, Reads h₀ v d as) ∧ ∃ bs, ReadAtMost h₀ d.depth bs ∧ ReprK prog w bs h₀ d.depth v d.shown
theorem Told.plain {v : Value} {d : PyData} {as : List Addr} (dg : DigOk h₀) (r : Reads h₀ v d as) (big : d.big = true) (len : d.shown.length ≤ sizeLine) : Told prog w h₀ v d := ⟨⟨as, r⟩, ReprK.of_readsB dg r big len⟩
end
end PySem

set_option Elab.async false
set_option linter.all false
set_option maxRecDepth 100000
set_option maxHeartbeats 4000000
/-! A40: repr([..]) of lists that hold dicts of whole numbers with tuple keys, as a wish. -/
namespace DL
open PySem PyProof.Rows L2
def kp : Key → PyData
  | .inl i => .int i
  | .inr x => .str x
section
variable {X : Cx} {pins : List (Addr × Obj)} {σ : L2.St} {H : Hp} {s : Shared}
end
section
variable {X : Cx} {c : Ctx}
end
end DL

set_option Elab.async false
set_option linter.all false
set_option maxRecDepth 100000
set_option maxHeartbeats 4000000
/-! A41: list(d), the keys tuples. -/
namespace DL
open PySem PyProof.Rows L2
section
variable {X : Cx} {c : Ctx} {S : Option SA} {F : Hp} {n : Nat} {H : Hp} {μ : Mu}
end
end DL

set_option Elab.async false
set_option linter.all false
set_option maxRecDepth 100000
set_option maxHeartbeats 4000000
/-! A42: == and != of lists and tuples whose items are dicts with tuple keys and whole numbers. -/
namespace DL
open PySem PyProof.Rows L2
/-! ### items that are compared by some test -/
/-! ### two dicts -/
section
variable {X : Cx} {c : Ctx} {W : WX} {m : Nat} {S : Option SA} {F : Hp} {μ : Mu}
section
variable {Ok : Around → Prop} {E : D → D → Bool} {xs ys : List D} {I : Hp} {vs us : List V} {its its2 : List Value} {pins : List (Addr × Obj)} {σ : L2.St}
end
section
variable {Ok : Around → Prop} {E : D → D → Bool} {xs ys : List D} {I H : Hp} {pins : List (Addr × Obj)} {σ : L2.St} {s : Shared} {A : Around} {a b : Addr}
end
/-! ### as wishes -/
end
end DL

set_option Elab.async false
set_option linter.all false
set_option maxRecDepth 100000
set_option maxHeartbeats 4000000
/-! A43: zip of two lists. -/
namespace DL
open PySem PyProof.Rows L2
section
variable {X : Cx} {c : Ctx} {W : WX} {k ka kb : Nat} {a b tg : Expr} {wa : WE} {pos p : Pos} {es : List Expr} {wr : WA} {m : Bool}
end
end DL

set_option Elab.async false
set_option linter.all false
set_option maxRecDepth 100000
set_option maxHeartbeats 4000000
/-! A44: == of lists and tuples of instances whose own == is told by some test. -/
namespace DL
open PySem PyProof.Rows L2
variable [Gds]
/-- the own == of instances: a def that tells E of the fields -/
structure OwnI (X : Cx) (c : Ctx) (k : Nat) (n : Str) (fs : List Str) (P : List D → Prop) (E : List D → List D → Bool) : Prop where
  ex : ∃ (f : Addr) (fd : FuncData) (ps : List Str) (s : WP), FnW X.prog X.w X.K X.mg X.base k f fd ps (SpW c s 0) ∧ Binds X.K fd ps [] ∧ PySem.W.notFirst X.K (c.cl n) (.ref (c.cl n)) = true ∧ Spl X.K (c.cl n) "__eq__" f ∧
    ∀ μ xs ys (Q : QD) (Z : QD), P xs → P ys → Q (.bool (E xs ys)) μ → s [.obj n fs xs, .obj n fs ys] μ Q Z
section
variable {X : Cx} {c : Ctx} {W : WX} {m k : Nat} {S : Option SA} {F : Hp} {μ : Mu} {n : Str} {fs : List Str} {P : List D → Prop} {E : List D → List D → Bool}
/-! ### as wishes -/
end
end DL

set_option Elab.async false
set_option linter.all false
set_option maxRecDepth 100000
set_option maxHeartbeats 4000000
/-! A45: a, b, c = x, y, z. -/
namespace DL
open PySem PyProof.Rows L2
def wPar3 (i j l : Nat) (a : WA) : WS := fun e μ E => a e μ (fun ds μ1 => match ds with
  | [x, y, z] => E.nx (st (st (st e i (some x)) j (some y)) l (some z)) μ1
  | _ => False) fun d μ1 => E.xp d e μ1
theorem Jcp (i j l : Nat) (a : WA) (e : EnvD) (μ : Mu) (E : WEnds) : wPar3 i j l a e μ E = a e μ (fun ds μ1 => match ds with
  | [x, y, z] => E.nx (st (st (st e i (some x)) j (some y)) l (some z)) μ1
  | _ => False) fun d μ1 => E.xp d e μ1 := propext Iff.rfl
section
variable {X : Cx} {c : Ctx} {W : WX} {k i j l : Nat} {s : Stmt} {wr : WA}
theorem g_par3N {hp : PS X s (tPar3 i j l (ldA c W k wr))} : GS X c W k s (wPar3 i j l wr) := L2.PS.imp hp fun K σ H h => by
  obtain ⟨S, F, n, I, μ, e, E, hl, he, hw, h, q⟩ := h
  refine ⟨S, F, n, I, μ, e, _, _, hl, he, hw, h, fun ds μ1 vs I1 H1 p s1 u1 r1 => ?_, q.x he⟩
  rcases r1 with _ | ⟨r1, _ | ⟨r2, _ | ⟨r3, _ | _⟩⟩⟩
  · exact False.elim p
  · exact False.elim p
  · exact False.elim p
  · exact ⟨_, _, _, rfl, q.nx _ μ1 _ I1 H1 p s1 ((((he.mono s1).put r1 i).put r2 j).put r3 l) u1⟩
  · exact False.elim p
end
end DL

set_option Elab.async false
set_option linter.all false
set_option maxRecDepth 100000
set_option maxHeartbeats 4000000
/-! X7: the laws' reader of rules, walked. -/
namespace DL
open PySem L2
open SX (S)
def wp_law_figures : WP := (wDef 2 3 (wSeq (wIfS (wOrT (wNotT (wTst (wChain (fun i j => decide (i ≤ j)) (fun i j => decide (i ≤ j)) (wK (.int 1)) (wCb false cbLen (waCons (wV 0) waNil)) (wV 1)))) (wTst (wOp false oNe (wLc false (wiStr (wV 0)) (wgN 2) (wTst (wOp false (oInS true) (wV 2) (wK (.str "0123456789")))) (wV 2) [2]) (wLst false waNil)))) (wRet (wK .none)) wNext)
    (wRet (wIf (wOrT (wTst (wOp false oEq (wV 0) (wK (.str "0")))) (wTst (wOp false oNe (wOp false oIx (wV 0) (wK (.int 0))) (wK (.str "0"))))) (wCb false cbIntS (waCons (wV 0) waNil)) (wK .none)))))
def wp_law_term_read_0 : WS := (wAsg 1 (wOp false oIx (wV 0) (wUn false oNeg (wK (.int 1)))))
def wp_law_term_read_1 : WS := (wAsg 2 (wIf (wTst (wOp false oEq (wSl false oSl (wV 1) woNone (woSome (wK (.int 2)))) (wK (.str "t^")))) (wCall wp_law_figures [] (waCons (wSl false oSl (wV 1) (woSome (wK (.int 2))) woNone) (waCons (wK (.int 2)) waNil))) (wIf (wTst (wOp false oEq (wV 1) (wK (.str "t")))) (wK (.int 1)) (wK (.int 0)))))
def wp_law_term_read_2 : WS := (wIfS (wOrT (wTst (wOp false oIsN (wV 2) (wK .none))) (wTst (wOp false oGt (wV 2) (wK (.int 24))))) (wRet (wK .none)) wNext)
def wp_law_term_read_3 : WS := (wIfS (wOrT (wTst (wOp false oEq (wCb false cbLen (waCons (wV 0) waNil)) (wK (.int 2)))) (wTst (wOp false oEq (wV 2) (wK (.int 0))))) (wSeq (wAsg 3 (wCall wp_law_figures [] (waCons (wOp false oIx (wV 0) (wK (.int 0))) (waCons (wK (.int 12)) waNil))))
    (wSeq (wAsg 4 (wAnd (wOp false oNotN (wV 3) (wK .none)) (wOp false oEq (wOp false oEq (wCb false cbLen (waCons (wV 0) waNil)) (wK (.int 1))) (wOp false oEq (wV 2) (wK (.int 0))))))
    (wRet (wIf (wTst (wV 4)) (wTup (waCons (wV 3) (waCons (wV 2) waNil))) (wK .none))))) wNext)
def wp_law_term_read_4 : WS := (wRet (wTup (waCons (wK (.int 1)) (waCons (wV 2) waNil))))
def wp_law_term_read : WP := wDef 1 5 (wSeq wp_law_term_read_0 (wSeq wp_law_term_read_1 (wSeq wp_law_term_read_2 (wSeq wp_law_term_read_3 wp_law_term_read_4))))
def wp_law_rule_read_0 : WS := (wPar3 1 2 3 (waCons (wK (.int 1)) (waCons (wOp true oMul (wLst false (waCons (wK (.int 0)) waNil)) (wK (.int 25))) (waCons (wLst false waNil) waNil))))
def wp_law_rule_read_1 : WS := (wAsg 4 (wV 0))
def wp_law_rule_read_2 : WS := (wIfS (wTst (wOp false oEq (wSl false oSl (wV 0) woNone (woSome (wK (.int 1)))) (wK (.str "-")))) (wPar 1 4 (waCons (wUn false oNeg (wK (.int 1))) (waCons (wSl false oSl (wV 0) (woSome (wK (.int 1))) woNone) waNil))) wNext)
def wp_law_rule_read_3 : WS := (wFor (wiSeq (wOp false oAdd (wSm false mSplit (wV 4) (wK (.str " "))) (wLst false (waCons (wK (.str "+")) waNil)))) (wgN 5) (wIfS (wTst (wOp false (oIn false) (wV 5) (wTup (waCons (wK (.str "+")) (waCons (wK (.str "-")) waNil))))) (wSeq (wAsg 6 (wIf (wTst (wChain (fun i j => decide (i < j)) (fun i j => decide (i < j)) (wK (.int 0)) (wCb false cbLen (waCons (wV 3) waNil)) (wK (.int 3)))) (wCall wp_law_term_read [] (waCons (wV 3) waNil)) (wK .none)))
    (wSeq (wIfS (wTst (wOp false oIsN (wV 6) (wK .none))) (wRet (wK .none)) wNext)
    (wSeq (wSetL (wOp false oAdd (wOp false oIx (wV 2) (wOp false oIx (wV 6) (wK (.int 1)))) (wOp false oMul (wV 1) (wOp false oIx (wV 6) (wK (.int 0))))) (wV 2) (wOp false oIx (wV 6) (wK (.int 1))))
    (wPar 1 3 (waCons (wOp false oIx (wLst false (waCons (wUn false oNeg (wK (.int 1))) (waCons (wK (.int 1)) waNil))) (wCb false cbInt (waCons (wOp false oEq (wV 5) (wK (.str "+"))) waNil))) (waCons (wLst false waNil) waNil)))))) (wAsg 3 (wOp false oAdd (wV 3) (wLst false (waCons (wV 5) waNil))))))
def wp_law_rule_read_4 : WS := (wAsg 2 (wCall wp_law_trimmed [] (waCons (wV 2) waNil)))
def wp_law_rule_read_5 : WS := (wFz 2 (wRet (wIf (wTst (wOp false oEq (wCall wp_law_rule_page [] (waCons (wV 2) waNil)) (wV 0))) (wV 2) (wK .none))))
def wp_law_rule_read : WP := wDef 1 7 (wSeq wp_law_rule_read_0 (wSeq wp_law_rule_read_1 (wSeq wp_law_rule_read_2 (wSeq wp_law_rule_read_3 (wSeq wp_law_rule_read_4 wp_law_rule_read_5)))))
section
variable {μ : Mu} {Q X : QD} {QQ : QR} {w : Tx} {ws : List Tx}
theorem pd_strs : ∀ l : List Tx, pds (l.map fun w => D.str (S w)) = l.map fun w => PyData.str (S w)
  | [] => rfl
  | a :: l => by
    show pds (D.str (S a) :: (l.map fun w => D.str (S w))) = _
    rw [pds, pd, pd_strs l]
    rfl
theorem lay_strs : ∀ {l : List Tx}, (∀ w ∈ l, Asc w) → PyData.canLayAll0 (l.map fun w => PyData.str (S w)) = true
  | [], _ => rfl
  | a :: l, h => by
    show (PyData.canLay0 (.str (S a)) && PyData.canLayAll0 (l.map fun w => PyData.str (S w))) = true
    rw [str_lay (h a List.mem_cons_self), lay_strs fun w hw => h w (List.mem_cons_of_mem _ hw)]
    rfl
theorem depth_strs : ∀ l : List Tx, PyData.depthAll (l.map fun w => PyData.str (S w)) = 0
  | [] => rfl
  | a :: l => by
    show PyData.depthAll (PyData.str (S a) :: _) = 0
    rw [PyData.depthAll, depth_strs l, PyData.depth]
    rfl
theorem sh_strs {l : List Tx} (h : ∀ w ∈ l, Asc w) : SeqAt.shaped (pd (.list (l.map fun w => D.str (S w)))) = true := by
  rw [pd, pd_strs]
  unfold SeqAt.shaped
  have e2 : PyData.canLay0 (.list (l.map fun w => PyData.str (S w))) = true := lay_strs h
  rw [e2, PyData.depth, depth_strs]
  decide
theorem plain_strs : ∀ l : List Tx, plainsD (l.map fun w => D.str (S w)) = true
  | [] => rfl
  | a :: l => by
    show (plainD (D.str (S a)) && plainsD (l.map fun w => D.str (S w))) = true
    rw [plain_strs l]
    rfl
/-- words, compared with none -/
theorem ne_none {l : List Tx} (h : ∀ w ∈ l, Asc w) (q : QQ (.v (.bool (!decide (l = [])))) μ) : oNe (wD l) (.list []) μ QQ X := by
  show eqG (wD l) (.list []) fun b => QQ (.v (.bool (!b))) μ
  refine ⟨⟨plain_strs l, rfl, sh_strs h, by decide +kernel⟩, ?_⟩
  have e : PyData.eqv (pd (wD l)) (pd (.list [])) = decide (l = []) := by
    rw [pd, pd_strs, pd, pds]
    cases l with
    | nil => rfl
    | cons a l => rfl
  rw [e]
  exact q
theorem str_slice {lo hi : Option Int} (hl : w.length ≤ 16000000) (q : ∀ v : Tx, (∀ c ∈ v, c ∈ w) → v.length ≤ w.length → QQ (.v (.str (S v))) μ) : oSl (.str (S w)) lo hi μ QQ X := by
  show (S w).length ≤ sizeLine ∧ QQ (.v (.str (cutS (S w) lo hi))) μ
  rw [SX.S_len]
  refine ⟨Nat.le_trans hl (by rw [sizeLine_eq]; decide), ?_⟩
  unfold cutS
  refine q _ (fun c hc => List.mem_of_mem_drop (List.mem_of_mem_take hc)) ?_
  rw [List.length_take, List.length_drop]
  have : (S w).cps.toList = w := rfl
  rw [this]
  omega
theorem sign_list (asc : Asc w) : ∀ v ∈ (w.filter fun c => !(decide (48 ≤ c) && decide (c ≤ 57))).map (fun c => [c]), Asc v := fun v hv => by
  obtain ⟨c, hc, rfl⟩ := List.mem_map.mp hv
  intro d hd
  rw [List.mem_singleton.mp hd]
  exact asc c (List.mem_filter.mp hc).1
theorem no_sign : (w.filter fun c => !(decide (48 ≤ c) && decide (c ≤ 57))).map (fun c => [c]) = [] ↔ digW w = true := by
  rw [List.map_eq_nil_iff, List.filter_eq_nil_iff]
  unfold digW
  rw [List.all_eq_true]
  constructor
  · intro h c hc
    have := h c hc
    simpa using this
  · intro h c hc
    have := h c hc
    simpa using this
theorem ok_law_figures (asc : Asc w) (hl : w.length ≤ 1000000) {m : Nat} (hm : m ≤ 600) (k : Q (optI (figW w m)) μ) : wp_law_figures [.str (S w), .int (m : Int)] μ Q X := by
  unfold wp_law_figures
  simp only [Jbu, initE, Jcw, Jci, Jbk, Jbl, Jbz, Jcr, Jcs, Jc8, Jco, Jbm, Jcy, Jbn, Jbt, Jdb, Jdc, Jda, Jdd, Jdi, Jdf, Jdg, Jde, Jc3, Jcc, Jd5, Jd4, Jc9, Jcl, Jd3, Jd2, Jcf, Jbr, Jd1, Jck, Jbj, Jcn, Jc7, Jbi, Jcm, Jcj, Jd7, Jd6, Jd9, Jbo, Jch, Jcq, Jc1, Jcx, Jcg, Jbp, Jct, Jcz, Jdk, Jdl, Jcd, Jcu, Jcv, Jc6, Jbq, Jc0, Jbw, Jce, gt, st, Jbb, Jb9, Jba, Jb7, Jbh, Ja5, atI0, atI1, atI2, atI3, atI4, ixN20, ixN21, List.map_cons, List.map_nil, List.cons_append, List.nil_append, List.append_nil, List.length_cons, List.length_nil, List.replicate_succ, List.replicate_zero, Nat.add_one_sub_one, Jd8, Jbs, Jbx, Jby, Jbv, Jae, Jag, Jah, Jaf, Jb6, Jav, Jaw, Jak, Jau, Jb3, Jat, Jas, Jam, Jal, Jb1, Jai, Jaj, Jaz, Jb0, Jap, Jb2, Jaq, Jar, Jan, Jao, Jb5, Jb4, Ja7, Ja8, Jac, Jab, Ja0, Ja9, Jaa, Jbf, Jbg, Ja6, Jad, Jbc, Jbe, Jbd, Jb8, Ja2, Ja1, Ja4, Ja3, Jax, Jay, decide_true, decide_false, Bool.not_true, Bool.not_false, Bool.false_eq_true, if_true, if_false, true_and, Jdj]
  refine len_S (by omega) ?_
  simp only [Jbu, initE, Jcw, Jci, Jbk, Jbl, Jbz, Jcr, Jcs, Jc8, Jco, Jbm, Jcy, Jbn, Jbt, Jdb, Jdc, Jda, Jdd, Jdi, Jdf, Jdg, Jde, Jc3, Jcc, Jd5, Jd4, Jc9, Jcl, Jd3, Jd2, Jcf, Jbr, Jd1, Jck, Jbj, Jcn, Jc7, Jbi, Jcm, Jcj, Jd7, Jd6, Jd9, Jbo, Jch, Jcq, Jc1, Jcx, Jcg, Jbp, Jct, Jcz, Jdk, Jdl, Jcd, Jcu, Jcv, Jc6, Jbq, Jc0, Jbw, Jce, gt, st, Jbb, Jb9, Jba, Jb7, Jbh, Ja5, atI0, atI1, atI2, atI3, atI4, ixN20, ixN21, List.map_cons, List.map_nil, List.cons_append, List.nil_append, List.append_nil, List.length_cons, List.length_nil, List.replicate_succ, List.replicate_zero, Nat.add_one_sub_one, Jd8, Jbs, Jbx, Jby, Jbv, Jae, Jag, Jah, Jaf, Jb6, Jav, Jaw, Jak, Jau, Jb3, Jat, Jas, Jam, Jal, Jb1, Jai, Jaj, Jaz, Jb0, Jap, Jb2, Jaq, Jar, Jan, Jao, Jb5, Jb4, Ja7, Ja8, Jac, Jab, Ja0, Ja9, Jaa, Jbf, Jbg, Ja6, Jad, Jbc, Jbe, Jbd, Jb8, Ja2, Ja1, Ja4, Ja3, Jax, Jay, decide_true, decide_false, Bool.not_true, Bool.not_false, Bool.false_eq_true, if_true, if_false, true_and]
  have no : plainW w m = false → Q .none μ := fun e => by
    unfold figW at k
    rw [e] at k
    exact k
  by_cases h1 : 1 ≤ w.length
  · rw [if_pos (by rw [decide_eq_true_iff]; omega)]
    by_cases h2 : w.length ≤ m
    · rw [if_neg (by rw [Bool.not_eq_true, Bool.not_eq_false', decide_eq_true_iff]; omega)]
      rw [chD_S]
      refine ⟨by rw [List.length_map, sizeLine_eq]; omega, lc_inv (fun i acc μ' => μ' = μ ∧ acc = (((w.take i).filter fun c => !(decide (48 ≤ c) && decide (c ≤ 57))).map fun c => [c]).map fun w => D.str (S w)) ⟨rfl, rfl⟩ ?_ ?_⟩
      · rintro i x acc μ' N hx ⟨rfl, rfl⟩ hN
        rw [List.getElem?_map] at hx
        obtain ⟨c, hc, rfl⟩ := Option.map_eq_some_iff.mp hx
        refine ⟨trivial, ?_⟩
        simp only [Jbu, initE, Jcw, Jci, Jbk, Jbl, Jbz, Jcr, Jcs, Jc8, Jco, Jbm, Jcy, Jbn, Jbt, Jdb, Jdc, Jda, Jdd, Jdi, Jdf, Jdg, Jde, Jc3, Jcc, Jd5, Jd4, Jc9, Jcl, Jd3, Jd2, Jcf, Jbr, Jd1, Jck, Jbj, Jcn, Jc7, Jbi, Jcm, Jcj, Jd7, Jd6, Jd9, Jbo, Jch, Jcq, Jc1, Jcx, Jcg, Jbp, Jct, Jcz, Jdk, Jdl, Jcd, Jcu, Jcv, Jc6, Jbq, Jc0, Jbw, Jce, gt, st, Jbb, Jb9, Jba, Jb7, Jbh, Ja5, atI0, atI1, atI2, atI3, atI4, ixN20, ixN21, List.map_cons, List.map_nil, List.cons_append, List.nil_append, List.append_nil, List.length_cons, List.length_nil, List.replicate_succ, List.replicate_zero, Nat.add_one_sub_one, Jd8, Jbs, Jbx, Jby, Jbv, Jae, Jag, Jah, Jaf, Jb6, Jav, Jaw, Jak, Jau, Jb3, Jat, Jas, Jam, Jal, Jb1, Jai, Jaj, Jaz, Jb0, Jap, Jb2, Jaq, Jar, Jan, Jao, Jb5, Jb4, Ja7, Ja8, Jac, Jab, Ja0, Ja9, Jaa, Jbf, Jbg, Ja6, Jad, Jbc, Jbe, Jbd, Jb8, Ja2, Ja1, Ja4, Ja3, Jax, Jay, decide_true, decide_false, Bool.not_true, Bool.not_false, Bool.false_eq_true, if_true, if_false, true_and, wipeE, oInS]
        rw [List.take_succ, hc] at hN
        rw [fig_mem]
        by_cases z : (decide (48 ≤ c) && decide (c ≤ 57)) = true
        · rw [z]
          simp only [Jbu, initE, Jcw, Jci, Jbk, Jbl, Jbz, Jcr, Jcs, Jc8, Jco, Jbm, Jcy, Jbn, Jbt, Jdb, Jdc, Jda, Jdd, Jdi, Jdf, Jdg, Jde, Jc3, Jcc, Jd5, Jd4, Jc9, Jcl, Jd3, Jd2, Jcf, Jbr, Jd1, Jck, Jbj, Jcn, Jc7, Jbi, Jcm, Jcj, Jd7, Jd6, Jd9, Jbo, Jch, Jcq, Jc1, Jcx, Jcg, Jbp, Jct, Jcz, Jdk, Jdl, Jcd, Jcu, Jcv, Jc6, Jbq, Jc0, Jbw, Jce, gt, st, Jbb, Jb9, Jba, Jb7, Jbh, Ja5, atI0, atI1, atI2, atI3, atI4, ixN20, ixN21, List.map_cons, List.map_nil, List.cons_append, List.nil_append, List.append_nil, List.length_cons, List.length_nil, List.replicate_succ, List.replicate_zero, Nat.add_one_sub_one, Jd8, Jbs, Jbx, Jby, Jbv, Jae, Jag, Jah, Jaf, Jb6, Jav, Jaw, Jak, Jau, Jb3, Jat, Jas, Jam, Jal, Jb1, Jai, Jaj, Jaz, Jb0, Jap, Jb2, Jaq, Jar, Jan, Jao, Jb5, Jb4, Ja7, Ja8, Jac, Jab, Ja0, Ja9, Jaa, Jbf, Jbg, Ja6, Jad, Jbc, Jbe, Jbd, Jb8, Ja2, Ja1, Ja4, Ja3, Jax, Jay, decide_true, decide_false, Bool.not_true, Bool.not_false, Bool.false_eq_true, if_true, if_false, true_and]
          refine hN _ _ ⟨rfl, ?_⟩
          have ez : [c].filter (fun c => !(decide (48 ≤ c) && decide (c ≤ 57))) = [] := by simp only [List.filter, z, Bool.not_true]
          rw [List.filter_append, Option.toList_some, ez, List.append_nil]
        · rw [Bool.not_eq_true] at z
          rw [z]
          simp only [Jbu, initE, Jcw, Jci, Jbk, Jbl, Jbz, Jcr, Jcs, Jc8, Jco, Jbm, Jcy, Jbn, Jbt, Jdb, Jdc, Jda, Jdd, Jdi, Jdf, Jdg, Jde, Jc3, Jcc, Jd5, Jd4, Jc9, Jcl, Jd3, Jd2, Jcf, Jbr, Jd1, Jck, Jbj, Jcn, Jc7, Jbi, Jcm, Jcj, Jd7, Jd6, Jd9, Jbo, Jch, Jcq, Jc1, Jcx, Jcg, Jbp, Jct, Jcz, Jdk, Jdl, Jcd, Jcu, Jcv, Jc6, Jbq, Jc0, Jbw, Jce, gt, st, Jbb, Jb9, Jba, Jb7, Jbh, Ja5, atI0, atI1, atI2, atI3, atI4, ixN20, ixN21, List.map_cons, List.map_nil, List.cons_append, List.nil_append, List.append_nil, List.length_cons, List.length_nil, List.replicate_succ, List.replicate_zero, Nat.add_one_sub_one, Jd8, Jbs, Jbx, Jby, Jbv, Jae, Jag, Jah, Jaf, Jb6, Jav, Jaw, Jak, Jau, Jb3, Jat, Jas, Jam, Jal, Jb1, Jai, Jaj, Jaz, Jb0, Jap, Jb2, Jaq, Jar, Jan, Jao, Jb5, Jb4, Ja7, Ja8, Jac, Jab, Ja0, Ja9, Jaa, Jbf, Jbg, Ja6, Jad, Jbc, Jbe, Jbd, Jb8, Ja2, Ja1, Ja4, Ja3, Jax, Jay, decide_true, decide_false, Bool.not_true, Bool.not_false, Bool.false_eq_true, if_true, if_false, true_and]
          refine hN _ _ ⟨rfl, ?_⟩
          have ez : [c].filter (fun c => !(decide (48 ≤ c) && decide (c ≤ 57))) = [c] := by simp only [List.filter, z, Bool.not_false]
          rw [List.filter_append, Option.toList_some, ez, List.map_append, List.map_append]
          rfl
      · rintro acc μ' ⟨rfl, rfl⟩
        refine ⟨trivial, ?_⟩
        rw [List.length_map, List.take_length]
        refine ⟨Nat.zero_le _, ne_none (sign_list asc) ?_⟩
        simp only [Jbu, initE, Jcw, Jci, Jbk, Jbl, Jbz, Jcr, Jcs, Jc8, Jco, Jbm, Jcy, Jbn, Jbt, Jdb, Jdc, Jda, Jdd, Jdi, Jdf, Jdg, Jde, Jc3, Jcc, Jd5, Jd4, Jc9, Jcl, Jd3, Jd2, Jcf, Jbr, Jd1, Jck, Jbj, Jcn, Jc7, Jbi, Jcm, Jcj, Jd7, Jd6, Jd9, Jbo, Jch, Jcq, Jc1, Jcx, Jcg, Jbp, Jct, Jcz, Jdk, Jdl, Jcd, Jcu, Jcv, Jc6, Jbq, Jc0, Jbw, Jce, gt, st, Jbb, Jb9, Jba, Jb7, Jbh, Ja5, atI0, atI1, atI2, atI3, atI4, ixN20, ixN21, List.map_cons, List.map_nil, List.cons_append, List.nil_append, List.append_nil, List.length_cons, List.length_nil, List.replicate_succ, List.replicate_zero, Nat.add_one_sub_one, Jd8, Jbs, Jbx, Jby, Jbv, Jae, Jag, Jah, Jaf, Jb6, Jav, Jaw, Jak, Jau, Jb3, Jat, Jas, Jam, Jal, Jb1, Jai, Jaj, Jaz, Jb0, Jap, Jb2, Jaq, Jar, Jan, Jao, Jb5, Jb4, Ja7, Ja8, Jac, Jab, Ja0, Ja9, Jaa, Jbf, Jbg, Ja6, Jad, Jbc, Jbe, Jbd, Jb8, Ja2, Ja1, Ja4, Ja3, Jax, Jay, decide_true, decide_false, Bool.not_true, Bool.not_false, Bool.false_eq_true, if_true, if_false, true_and]
        by_cases hd : digW w = true
        · rw [decide_eq_true (no_sign.mpr hd)]
          simp only [Jbu, initE, Jcw, Jci, Jbk, Jbl, Jbz, Jcr, Jcs, Jc8, Jco, Jbm, Jcy, Jbn, Jbt, Jdb, Jdc, Jda, Jdd, Jdi, Jdf, Jdg, Jde, Jc3, Jcc, Jd5, Jd4, Jc9, Jcl, Jd3, Jd2, Jcf, Jbr, Jd1, Jck, Jbj, Jcn, Jc7, Jbi, Jcm, Jcj, Jd7, Jd6, Jd9, Jbo, Jch, Jcq, Jc1, Jcx, Jcg, Jbp, Jct, Jcz, Jdk, Jdl, Jcd, Jcu, Jcv, Jc6, Jbq, Jc0, Jbw, Jce, gt, st, Jbb, Jb9, Jba, Jb7, Jbh, Ja5, atI0, atI1, atI2, atI3, atI4, ixN20, ixN21, List.map_cons, List.map_nil, List.cons_append, List.nil_append, List.append_nil, List.length_cons, List.length_nil, List.replicate_succ, List.replicate_zero, Nat.add_one_sub_one, Jd8, Jbs, Jbx, Jby, Jbv, Jae, Jag, Jah, Jaf, Jb6, Jav, Jaw, Jak, Jau, Jb3, Jat, Jas, Jam, Jal, Jb1, Jai, Jaj, Jaz, Jb0, Jap, Jb2, Jaq, Jar, Jan, Jao, Jb5, Jb4, Ja7, Ja8, Jac, Jab, Ja0, Ja9, Jaa, Jbf, Jbg, Ja6, Jad, Jbc, Jbe, Jbd, Jb8, Ja2, Ja1, Ja4, Ja3, Jax, Jay, decide_true, decide_false, Bool.not_true, Bool.not_false, Bool.false_eq_true, if_true, if_false, true_and]
          rw [zero_S]
          have e0 : decide (S w = S [48]) = decide (w = [48]) := by rw [decide_eq_decide]; exact s_inj
          rw [e0]
          have pw : plainW w m = (decide (w = [48]) || !decide (w.head? = some 48)) := by
            unfold plainW
            rw [hd, decide_eq_true h1, decide_eq_true h2]
            rfl
          have fin : plainW w m = true → cbIntS [.str (S w)] μ' (sett false Q) X := fun e => by
            refine int_plain e hm ?_
            unfold figW at k
            rw [if_pos e] at k
            exact k
          by_cases z : w = [48]
          · rw [if_pos (decide_eq_true z)]
            exact fin (by rw [pw, decide_eq_true z]; rfl)
          · rw [if_neg (by rw [decide_eq_true_iff]; exact z)]
            rw [decide_eq_false z, Bool.false_or] at pw
            match w, h1, hl with
            | c :: w, _, hl =>
              refine ix0_S (by omega) (ne_S (X := fun _ _ => False) _ _ ?_)
              simp only [Jbu, initE, Jcw, Jci, Jbk, Jbl, Jbz, Jcr, Jcs, Jc8, Jco, Jbm, Jcy, Jbn, Jbt, Jdb, Jdc, Jda, Jdd, Jdi, Jdf, Jdg, Jde, Jc3, Jcc, Jd5, Jd4, Jc9, Jcl, Jd3, Jd2, Jcf, Jbr, Jd1, Jck, Jbj, Jcn, Jc7, Jbi, Jcm, Jcj, Jd7, Jd6, Jd9, Jbo, Jch, Jcq, Jc1, Jcx, Jcg, Jbp, Jct, Jcz, Jdk, Jdl, Jcd, Jcu, Jcv, Jc6, Jbq, Jc0, Jbw, Jce, gt, st, Jbb, Jb9, Jba, Jb7, Jbh, Ja5, atI0, atI1, atI2, atI3, atI4, ixN20, ixN21, List.map_cons, List.map_nil, List.cons_append, List.nil_append, List.append_nil, List.length_cons, List.length_nil, List.replicate_succ, List.replicate_zero, Nat.add_one_sub_one, Jd8, Jbs, Jbx, Jby, Jbv, Jae, Jag, Jah, Jaf, Jb6, Jav, Jaw, Jak, Jau, Jb3, Jat, Jas, Jam, Jal, Jb1, Jai, Jaj, Jaz, Jb0, Jap, Jb2, Jaq, Jar, Jan, Jao, Jb5, Jb4, Ja7, Ja8, Jac, Jab, Ja0, Ja9, Jaa, Jbf, Jbg, Ja6, Jad, Jbc, Jbe, Jbd, Jb8, Ja2, Ja1, Ja4, Ja3, Jax, Jay, decide_true, decide_false, Bool.not_true, Bool.not_false, Bool.false_eq_true, if_true, if_false, true_and]
              have e3 : decide ([c] = [48]) = decide ((c :: w).head? = some 48) := by simp
              rw [e3]
              by_cases y : (c :: w).head? = some 48
              · rw [decide_eq_true y] at pw ⊢
                exact no pw
              · rw [decide_eq_false y] at pw ⊢
                exact fin pw
        · rw [decide_eq_false (fun z => hd (no_sign.mp z))]
          simp only [Jbu, initE, Jcw, Jci, Jbk, Jbl, Jbz, Jcr, Jcs, Jc8, Jco, Jbm, Jcy, Jbn, Jbt, Jdb, Jdc, Jda, Jdd, Jdi, Jdf, Jdg, Jde, Jc3, Jcc, Jd5, Jd4, Jc9, Jcl, Jd3, Jd2, Jcf, Jbr, Jd1, Jck, Jbj, Jcn, Jc7, Jbi, Jcm, Jcj, Jd7, Jd6, Jd9, Jbo, Jch, Jcq, Jc1, Jcx, Jcg, Jbp, Jct, Jcz, Jdk, Jdl, Jcd, Jcu, Jcv, Jc6, Jbq, Jc0, Jbw, Jce, gt, st, Jbb, Jb9, Jba, Jb7, Jbh, Ja5, atI0, atI1, atI2, atI3, atI4, ixN20, ixN21, List.map_cons, List.map_nil, List.cons_append, List.nil_append, List.append_nil, List.length_cons, List.length_nil, List.replicate_succ, List.replicate_zero, Nat.add_one_sub_one, Jd8, Jbs, Jbx, Jby, Jbv, Jae, Jag, Jah, Jaf, Jb6, Jav, Jaw, Jak, Jau, Jb3, Jat, Jas, Jam, Jal, Jb1, Jai, Jaj, Jaz, Jb0, Jap, Jb2, Jaq, Jar, Jan, Jao, Jb5, Jb4, Ja7, Ja8, Jac, Jab, Ja0, Ja9, Jaa, Jbf, Jbg, Ja6, Jad, Jbc, Jbe, Jbd, Jb8, Ja2, Ja1, Ja4, Ja3, Jax, Jay, decide_true, decide_false, Bool.not_true, Bool.not_false, Bool.false_eq_true, if_true, if_false, true_and]
          exact no (by unfold plainW; rw [Bool.eq_false_iff.mpr hd]; simp)
    · rw [if_pos (by rw [Bool.not_eq_true', decide_eq_false_iff_not]; omega)]
      exact no (by unfold plainW; rw [decide_eq_false h2]; simp)
  · rw [if_neg (by rw [decide_eq_true_iff]; omega)]
    exact no (by unfold plainW; rw [decide_eq_false h1]; simp)
def optT : Option (Nat × Nat) → D
  | some np => .tup [.int (np.1 : Int), .int (np.2 : Int)]
  | none => .none
theorem eqv_bb : ∀ a b : Bool, PyData.eqv (pd (.bool a)) (pd (.bool b)) = decide (a = b) := by decide +kernel
theorem sh_bb : ∀ a : Bool, SeqAt.shaped (pd (.bool a)) = true := by decide +kernel
theorem eq_bools (a b : Bool) (q : QQ (.v (.bool (decide (a = b)))) μ) : oEq (.bool a) (.bool b) μ QQ X := by
  show eqG (.bool a) (.bool b) fun b => QQ (.v (.bool b)) μ
  refine ⟨⟨rfl, rfl, sh_bb a, sh_bb b⟩, ?_⟩
  rw [eqv_bb]
  exact q
def bodyT : WS := (wSeq (wAsg 3 (wCall wp_law_figures [] (waCons (wOp false oIx (wV 0) (wK (.int 0))) (waCons (wK (.int 12)) waNil))))
    (wSeq (wAsg 4 (wAnd (wOp false oNotN (wV 3) (wK .none)) (wOp false oEq (wOp false oEq (wCb false cbLen (waCons (wV 0) waNil)) (wK (.int 1))) (wOp false oEq (wV 2) (wK (.int 0))))))
    (wRet (wIf (wTst (wV 4)) (wTup (waCons (wV 3) (waCons (wV 2) waNil))) (wK .none)))))
theorem body_ok {E : WEnds} {w : D} {p : Nat} {x3 x4 : Option D} (h0 : atI (ws.map fun w => D.str (S w)) 0 = some (.str (S (ws.headD [])))) (asc : Asc (ws.headD [])) (hl : (ws.headD []).length ≤ 1000000) (h3 : ws.length < 3) (k : E.rt (optT (match figW (ws.headD []) 12 with
      | none => none
      | some n => if (ws.length = 1 ↔ p = 0) then some (n, p) else none)) μ) : bodyT [some (wD ws), some w, some (.int (p : Int)), x3, x4] μ E := by
  unfold bodyT
  simp only [Jbu, initE, Jcw, Jci, Jbk, Jbl, Jbz, Jcr, Jcs, Jc8, Jco, Jbm, Jcy, Jbn, Jbt, Jdb, Jdc, Jda, Jdd, Jdi, Jdf, Jdg, Jde, Jc3, Jcc, Jd5, Jd4, Jc9, Jcl, Jd3, Jd2, Jcf, Jbr, Jd1, Jck, Jbj, Jcn, Jc7, Jbi, Jcm, Jcj, Jd7, Jd6, Jd9, Jbo, Jch, Jcq, Jc1, Jcx, Jcg, Jbp, Jct, Jcz, Jdk, Jdl, Jcd, Jcu, Jcv, Jc6, Jbq, Jc0, Jbw, Jce, gt, st, Jbb, Jb9, Jba, Jb7, Jbh, Ja5, atI0, atI1, atI2, atI3, atI4, ixN20, ixN21, List.map_cons, List.map_nil, List.cons_append, List.nil_append, List.append_nil, List.length_cons, List.length_nil, List.replicate_succ, List.replicate_zero, Nat.add_one_sub_one, Jd8, Jbs, Jbx, Jby, Jbv, Jae, Jag, Jah, Jaf, Jb6, Jav, Jaw, Jak, Jau, Jb3, Jat, Jas, Jam, Jal, Jb1, Jai, Jaj, Jaz, Jb0, Jap, Jb2, Jaq, Jar, Jan, Jao, Jb5, Jb4, Ja7, Ja8, Jac, Jab, Ja0, Ja9, Jaa, Jbf, Jbg, Ja6, Jad, Jbc, Jbe, Jbd, Jb8, Ja2, Ja1, Ja4, Ja3, Jax, Jay, decide_true, decide_false, Bool.not_true, Bool.not_false, Bool.false_eq_true, if_true, if_false, true_and, h0]
  refine ok_law_figures (m := 12) asc hl (by decide) ?_
  cases fw : figW (ws.headD []) 12 with
  | none =>
    rw [fw] at k
    exact k
  | some n =>
    rw [fw] at k
    have nn : isNone (optI (some n)) = false := rfl
    rw [nn, Bool.not_false, if_pos rfl]
    refine eq_bools _ _ ?_
    simp only [Jbu, initE, Jcw, Jci, Jbk, Jbl, Jbz, Jcr, Jcs, Jc8, Jco, Jbm, Jcy, Jbn, Jbt, Jdb, Jdc, Jda, Jdd, Jdi, Jdf, Jdg, Jde, Jc3, Jcc, Jd5, Jd4, Jc9, Jcl, Jd3, Jd2, Jcf, Jbr, Jd1, Jck, Jbj, Jcn, Jc7, Jbi, Jcm, Jcj, Jd7, Jd6, Jd9, Jbo, Jch, Jcq, Jc1, Jcx, Jcg, Jbp, Jct, Jcz, Jdk, Jdl, Jcd, Jcu, Jcv, Jc6, Jbq, Jc0, Jbw, Jce, gt, st, Jbb, Jb9, Jba, Jb7, Jbh, Ja5, atI0, atI1, atI2, atI3, atI4, ixN20, ixN21, List.map_cons, List.map_nil, List.cons_append, List.nil_append, List.append_nil, List.length_cons, List.length_nil, List.replicate_succ, List.replicate_zero, Nat.add_one_sub_one, Jd8, Jbs, Jbx, Jby, Jbv, Jae, Jag, Jah, Jaf, Jb6, Jav, Jaw, Jak, Jau, Jb3, Jat, Jas, Jam, Jal, Jb1, Jai, Jaj, Jaz, Jb0, Jap, Jb2, Jaq, Jar, Jan, Jao, Jb5, Jb4, Ja7, Ja8, Jac, Jab, Ja0, Ja9, Jaa, Jbf, Jbg, Ja6, Jad, Jbc, Jbe, Jbd, Jb8, Ja2, Ja1, Ja4, Ja3, Jax, Jay, decide_true, decide_false, Bool.not_true, Bool.not_false, Bool.false_eq_true, if_true, if_false, true_and]
    dsimp only at k
    rw [List.length_map]
    by_cases y : (ws.length = 1 ↔ p = 0)
    · rw [if_pos y] at k
      have e : decide (((ws.length : Nat) : Int) = 1) = decide ((p : Int) = 0) := by
        rw [decide_eq_decide]
        constructor
        · intro h; have := y.mp (by omega); omega
        · intro h; have := y.mpr (by omega); omega
      rw [e, decide_eq_true rfl]
      simp only [Jbu, initE, Jcw, Jci, Jbk, Jbl, Jbz, Jcr, Jcs, Jc8, Jco, Jbm, Jcy, Jbn, Jbt, Jdb, Jdc, Jda, Jdd, Jdi, Jdf, Jdg, Jde, Jc3, Jcc, Jd5, Jd4, Jc9, Jcl, Jd3, Jd2, Jcf, Jbr, Jd1, Jck, Jbj, Jcn, Jc7, Jbi, Jcm, Jcj, Jd7, Jd6, Jd9, Jbo, Jch, Jcq, Jc1, Jcx, Jcg, Jbp, Jct, Jcz, Jdk, Jdl, Jcd, Jcu, Jcv, Jc6, Jbq, Jc0, Jbw, Jce, gt, st, Jbb, Jb9, Jba, Jb7, Jbh, Ja5, atI0, atI1, atI2, atI3, atI4, ixN20, ixN21, List.map_cons, List.map_nil, List.cons_append, List.nil_append, List.append_nil, List.length_cons, List.length_nil, List.replicate_succ, List.replicate_zero, Nat.add_one_sub_one, Jd8, Jbs, Jbx, Jby, Jbv, Jae, Jag, Jah, Jaf, Jb6, Jav, Jaw, Jak, Jau, Jb3, Jat, Jas, Jam, Jal, Jb1, Jai, Jaj, Jaz, Jb0, Jap, Jb2, Jaq, Jar, Jan, Jao, Jb5, Jb4, Ja7, Ja8, Jac, Jab, Ja0, Ja9, Jaa, Jbf, Jbg, Ja6, Jad, Jbc, Jbe, Jbd, Jb8, Ja2, Ja1, Ja4, Ja3, Jax, Jay, decide_true, decide_false, Bool.not_true, Bool.not_false, Bool.false_eq_true, if_true, if_false, true_and]
      exact ⟨by rw [sizeLine_eq]; decide, k⟩
    · rw [if_neg y] at k
      have e : ¬decide (((ws.length : Nat) : Int) = 1) = decide ((p : Int) = 0) := fun h => by
        rw [decide_eq_decide] at h
        exact y ⟨fun a => by have := h.mp (by omega); omega, fun a => by have := h.mpr (by omega); omega⟩
      rw [decide_eq_false e]
      simp only [Jbu, initE, Jcw, Jci, Jbk, Jbl, Jbz, Jcr, Jcs, Jc8, Jco, Jbm, Jcy, Jbn, Jbt, Jdb, Jdc, Jda, Jdd, Jdi, Jdf, Jdg, Jde, Jc3, Jcc, Jd5, Jd4, Jc9, Jcl, Jd3, Jd2, Jcf, Jbr, Jd1, Jck, Jbj, Jcn, Jc7, Jbi, Jcm, Jcj, Jd7, Jd6, Jd9, Jbo, Jch, Jcq, Jc1, Jcx, Jcg, Jbp, Jct, Jcz, Jdk, Jdl, Jcd, Jcu, Jcv, Jc6, Jbq, Jc0, Jbw, Jce, gt, st, Jbb, Jb9, Jba, Jb7, Jbh, Ja5, atI0, atI1, atI2, atI3, atI4, ixN20, ixN21, List.map_cons, List.map_nil, List.cons_append, List.nil_append, List.append_nil, List.length_cons, List.length_nil, List.replicate_succ, List.replicate_zero, Nat.add_one_sub_one, Jd8, Jbs, Jbx, Jby, Jbv, Jae, Jag, Jah, Jaf, Jb6, Jav, Jaw, Jak, Jau, Jb3, Jat, Jas, Jam, Jal, Jb1, Jai, Jaj, Jaz, Jb0, Jap, Jb2, Jaq, Jar, Jan, Jao, Jb5, Jb4, Ja7, Ja8, Jac, Jab, Ja0, Ja9, Jaa, Jbf, Jbg, Ja6, Jad, Jbc, Jbe, Jbd, Jb8, Ja2, Ja1, Ja4, Ja3, Jax, Jay, decide_true, decide_false, Bool.not_true, Bool.not_false, Bool.false_eq_true, if_true, if_false, true_and]
      exact k
theorem term_last {E : WEnds} {w : D} {p : Nat} {x3 x4 : Option D} (h0 : atI (ws.map fun w => D.str (S w)) 0 = some (.str (S (ws.headD [])))) (asc : Asc (ws.headD [])) (hl : (ws.headD []).length ≤ 1000000) (h3 : ws.length < 3) (k : E.rt (optT (if 24 < p then none else
    if ws.length = 2 ∨ p = 0 then
      match figW (ws.headD []) 12 with
      | none => none
      | some n => if (ws.length = 1 ↔ p = 0) then some (n, p) else none
    else some (1, p))) μ) : wp_law_term_read_2 [some (wD ws), some w, some (.int (p : Int)), x3, x4] μ { nx := fun e μ1 => wp_law_term_read_3 e μ1 { nx := fun e μ1 => wp_law_term_read_4 e μ1 E, rt := E.rt, bk := E.bk, ct := E.ct, xp := E.xp }, rt := E.rt, bk := E.bk, ct := E.ct, xp := E.xp } := by
  unfold wp_law_term_read_2
  simp only [Jbu, initE, Jcw, Jci, Jbk, Jbl, Jbz, Jcr, Jcs, Jc8, Jco, Jbm, Jcy, Jbn, Jbt, Jdb, Jdc, Jda, Jdd, Jdi, Jdf, Jdg, Jde, Jc3, Jcc, Jd5, Jd4, Jc9, Jcl, Jd3, Jd2, Jcf, Jbr, Jd1, Jck, Jbj, Jcn, Jc7, Jbi, Jcm, Jcj, Jd7, Jd6, Jd9, Jbo, Jch, Jcq, Jc1, Jcx, Jcg, Jbp, Jct, Jcz, Jdk, Jdl, Jcd, Jcu, Jcv, Jc6, Jbq, Jc0, Jbw, Jce, gt, st, Jbb, Jb9, Jba, Jb7, Jbh, Ja5, atI0, atI1, atI2, atI3, atI4, ixN20, ixN21, List.map_cons, List.map_nil, List.cons_append, List.nil_append, List.append_nil, List.length_cons, List.length_nil, List.replicate_succ, List.replicate_zero, Nat.add_one_sub_one, Jd8, Jbs, Jbx, Jby, Jbv, Jae, Jag, Jah, Jaf, Jb6, Jav, Jaw, Jak, Jau, Jb3, Jat, Jas, Jam, Jal, Jb1, Jai, Jaj, Jaz, Jb0, Jap, Jb2, Jaq, Jar, Jan, Jao, Jb5, Jb4, Ja7, Ja8, Jac, Jab, Ja0, Ja9, Jaa, Jbf, Jbg, Ja6, Jad, Jbc, Jbe, Jbd, Jb8, Ja2, Ja1, Ja4, Ja3, Jax, Jay, decide_true, decide_false, Bool.not_true, Bool.not_false, Bool.false_eq_true, if_true, if_false, true_and]
  have ni : isNone (D.int (p : Int)) = false := rfl
  rw [ni]
  simp only [Jbu, initE, Jcw, Jci, Jbk, Jbl, Jbz, Jcr, Jcs, Jc8, Jco, Jbm, Jcy, Jbn, Jbt, Jdb, Jdc, Jda, Jdd, Jdi, Jdf, Jdg, Jde, Jc3, Jcc, Jd5, Jd4, Jc9, Jcl, Jd3, Jd2, Jcf, Jbr, Jd1, Jck, Jbj, Jcn, Jc7, Jbi, Jcm, Jcj, Jd7, Jd6, Jd9, Jbo, Jch, Jcq, Jc1, Jcx, Jcg, Jbp, Jct, Jcz, Jdk, Jdl, Jcd, Jcu, Jcv, Jc6, Jbq, Jc0, Jbw, Jce, gt, st, Jbb, Jb9, Jba, Jb7, Jbh, Ja5, atI0, atI1, atI2, atI3, atI4, ixN20, ixN21, List.map_cons, List.map_nil, List.cons_append, List.nil_append, List.append_nil, List.length_cons, List.length_nil, List.replicate_succ, List.replicate_zero, Nat.add_one_sub_one, Jd8, Jbs, Jbx, Jby, Jbv, Jae, Jag, Jah, Jaf, Jb6, Jav, Jaw, Jak, Jau, Jb3, Jat, Jas, Jam, Jal, Jb1, Jai, Jaj, Jaz, Jb0, Jap, Jb2, Jaq, Jar, Jan, Jao, Jb5, Jb4, Ja7, Ja8, Jac, Jab, Ja0, Ja9, Jaa, Jbf, Jbg, Ja6, Jad, Jbc, Jbe, Jbd, Jb8, Ja2, Ja1, Ja4, Ja3, Jax, Jay, decide_true, decide_false, Bool.not_true, Bool.not_false, Bool.false_eq_true, if_true, if_false, true_and]
  by_cases z : 24 < p
  · rw [if_pos z] at k
    rw [if_pos (by rw [decide_eq_true_iff]; omega)]
    exact k
  · rw [if_neg z] at k
    rw [if_neg (by rw [decide_eq_true_iff]; omega)]
    show wIfS (wOrT (wTst (wOp false oEq (wCb false cbLen (waCons (wV 0) waNil)) (wK (.int 2)))) (wTst (wOp false oEq (wV 2) (wK (.int 0))))) bodyT wNext _ μ _
    simp only [Jbu, initE, Jcw, Jci, Jbk, Jbl, Jbz, Jcr, Jcs, Jc8, Jco, Jbm, Jcy, Jbn, Jbt, Jdb, Jdc, Jda, Jdd, Jdi, Jdf, Jdg, Jde, Jc3, Jcc, Jd5, Jd4, Jc9, Jcl, Jd3, Jd2, Jcf, Jbr, Jd1, Jck, Jbj, Jcn, Jc7, Jbi, Jcm, Jcj, Jd7, Jd6, Jd9, Jbo, Jch, Jcq, Jc1, Jcx, Jcg, Jbp, Jct, Jcz, Jdk, Jdl, Jcd, Jcu, Jcv, Jc6, Jbq, Jc0, Jbw, Jce, gt, st, Jbb, Jb9, Jba, Jb7, Jbh, Ja5, atI0, atI1, atI2, atI3, atI4, ixN20, ixN21, List.map_cons, List.map_nil, List.cons_append, List.nil_append, List.append_nil, List.length_cons, List.length_nil, List.replicate_succ, List.replicate_zero, Nat.add_one_sub_one, Jd8, Jbs, Jbx, Jby, Jbv, Jae, Jag, Jah, Jaf, Jb6, Jav, Jaw, Jak, Jau, Jb3, Jat, Jas, Jam, Jal, Jb1, Jai, Jaj, Jaz, Jb0, Jap, Jb2, Jaq, Jar, Jan, Jao, Jb5, Jb4, Ja7, Ja8, Jac, Jab, Ja0, Ja9, Jaa, Jbf, Jbg, Ja6, Jad, Jbc, Jbe, Jbd, Jb8, Ja2, Ja1, Ja4, Ja3, Jax, Jay, decide_true, decide_false, Bool.not_true, Bool.not_false, Bool.false_eq_true, if_true, if_false, true_and]
    rw [List.length_map]
    by_cases y : ws.length = 2
    · rw [if_pos (.inl y)] at k
      rw [if_pos (by rw [decide_eq_true_iff]; omega)]
      exact body_ok h0 asc hl h3 k
    · rw [if_neg (by rw [decide_eq_true_iff]; omega)]
      by_cases v : p = 0
      · rw [if_pos (.inr v)] at k
        rw [if_pos (by rw [decide_eq_true_iff]; omega)]
        exact body_ok h0 asc hl h3 k
      · rw [if_neg (fun q => q.elim y v)] at k
        rw [if_neg (by rw [decide_eq_true_iff]; omega)]
        unfold wp_law_term_read_4
        simp only [Jbu, initE, Jcw, Jci, Jbk, Jbl, Jbz, Jcr, Jcs, Jc8, Jco, Jbm, Jcy, Jbn, Jbt, Jdb, Jdc, Jda, Jdd, Jdi, Jdf, Jdg, Jde, Jc3, Jcc, Jd5, Jd4, Jc9, Jcl, Jd3, Jd2, Jcf, Jbr, Jd1, Jck, Jbj, Jcn, Jc7, Jbi, Jcm, Jcj, Jd7, Jd6, Jd9, Jbo, Jch, Jcq, Jc1, Jcx, Jcg, Jbp, Jct, Jcz, Jdk, Jdl, Jcd, Jcu, Jcv, Jc6, Jbq, Jc0, Jbw, Jce, gt, st, Jbb, Jb9, Jba, Jb7, Jbh, Ja5, atI0, atI1, atI2, atI3, atI4, ixN20, ixN21, List.map_cons, List.map_nil, List.cons_append, List.nil_append, List.append_nil, List.length_cons, List.length_nil, List.replicate_succ, List.replicate_zero, Nat.add_one_sub_one, Jd8, Jbs, Jbx, Jby, Jbv, Jae, Jag, Jah, Jaf, Jb6, Jav, Jaw, Jak, Jau, Jb3, Jat, Jas, Jam, Jal, Jb1, Jai, Jaj, Jaz, Jb0, Jap, Jb2, Jaq, Jar, Jan, Jao, Jb5, Jb4, Ja7, Ja8, Jac, Jab, Ja0, Ja9, Jaa, Jbf, Jbg, Ja6, Jad, Jbc, Jbe, Jbd, Jb8, Ja2, Ja1, Ja4, Ja3, Jax, Jay, decide_true, decide_false, Bool.not_true, Bool.not_false, Bool.false_eq_true, if_true, if_false, true_and]
        exact ⟨by rw [sizeLine_eq]; decide, k⟩
theorem ok_law_term_read (hw : ws ≠ []) (h3 : ws.length < 3) (asc : ∀ w ∈ ws, Asc w) (hl : ∀ w ∈ ws, w.length ≤ 1000000) (k : Q (optT (termRd ws)) μ) : wp_law_term_read [wD ws] μ Q X := by
  obtain ⟨w, hm, h0, a0, hg, ha⟩ : ∃ w, w ∈ ws ∧ atI (ws.map fun w => D.str (S w)) (-1) = some (.str (S w)) ∧ ws.getLastD [] = w ∧ ws.headD [] ∈ ws ∧ atI (ws.map fun w => D.str (S w)) 0 = some (.str (S (ws.headD []))) := by
    match ws, hw, h3 with
    | [a], _, _ => exact ⟨a, List.mem_cons_self, rfl, rfl, List.mem_cons_self, rfl⟩
    | [a, b], _, _ => exact ⟨b, by simp, rfl, rfl, List.mem_cons_self, rfl⟩
    | _ :: _ :: _ :: _, _, h => exact absurd h (by simp)
  have lw := hl w hm
  have aw := asc w hm
  have dr : Asc (w.drop 2) := fun c hc => aw c (List.mem_of_mem_drop hc)
  have ld : (w.drop 2).length ≤ 1000000 := by rw [List.length_drop]; omega
  unfold wp_law_term_read wp_law_term_read_0 wp_law_term_read_1
  simp only [Jbu, initE, Jcw, Jci, Jbk, Jbl, Jbz, Jcr, Jcs, Jc8, Jco, Jbm, Jcy, Jbn, Jbt, Jdb, Jdc, Jda, Jdd, Jdi, Jdf, Jdg, Jde, Jc3, Jcc, Jd5, Jd4, Jc9, Jcl, Jd3, Jd2, Jcf, Jbr, Jd1, Jck, Jbj, Jcn, Jc7, Jbi, Jcm, Jcj, Jd7, Jd6, Jd9, Jbo, Jch, Jcq, Jc1, Jcx, Jcg, Jbp, Jct, Jcz, Jdk, Jdl, Jcd, Jcu, Jcv, Jc6, Jbq, Jc0, Jbw, Jce, gt, st, Jbb, Jb9, Jba, Jb7, Jbh, Ja5, atI0, atI1, atI2, atI3, atI4, ixN20, ixN21, List.map_cons, List.map_nil, List.cons_append, List.nil_append, List.append_nil, List.length_cons, List.length_nil, List.replicate_succ, List.replicate_zero, Nat.add_one_sub_one, Jd8, Jbs, Jbx, Jby, Jbv, Jae, Jag, Jah, Jaf, Jb6, Jav, Jaw, Jak, Jau, Jb3, Jat, Jas, Jam, Jal, Jb1, Jai, Jaj, Jaz, Jb0, Jap, Jb2, Jaq, Jar, Jan, Jao, Jb5, Jb4, Ja7, Ja8, Jac, Jab, Ja0, Ja9, Jaa, Jbf, Jbg, Ja6, Jad, Jbc, Jbe, Jbd, Jb8, Ja2, Ja1, Ja4, Ja3, Jax, Jay, decide_true, decide_false, Bool.not_true, Bool.not_false, Bool.false_eq_true, if_true, if_false, true_and, th_S, t_S, h0]
  refine sl_to (i := 2) (by omega) ?_
  simp only [Jbu, initE, Jcw, Jci, Jbk, Jbl, Jbz, Jcr, Jcs, Jc8, Jco, Jbm, Jcy, Jbn, Jbt, Jdb, Jdc, Jda, Jdd, Jdi, Jdf, Jdg, Jde, Jc3, Jcc, Jd5, Jd4, Jc9, Jcl, Jd3, Jd2, Jcf, Jbr, Jd1, Jck, Jbj, Jcn, Jc7, Jbi, Jcm, Jcj, Jd7, Jd6, Jd9, Jbo, Jch, Jcq, Jc1, Jcx, Jcg, Jbp, Jct, Jcz, Jdk, Jdl, Jcd, Jcu, Jcv, Jc6, Jbq, Jc0, Jbw, Jce, gt, st, Jbb, Jb9, Jba, Jb7, Jbh, Ja5, atI0, atI1, atI2, atI3, atI4, ixN20, ixN21, List.map_cons, List.map_nil, List.cons_append, List.nil_append, List.append_nil, List.length_cons, List.length_nil, List.replicate_succ, List.replicate_zero, Nat.add_one_sub_one, Jd8, Jbs, Jbx, Jby, Jbv, Jae, Jag, Jah, Jaf, Jb6, Jav, Jaw, Jak, Jau, Jb3, Jat, Jas, Jam, Jal, Jb1, Jai, Jaj, Jaz, Jb0, Jap, Jb2, Jaq, Jar, Jan, Jao, Jb5, Jb4, Ja7, Ja8, Jac, Jab, Ja0, Ja9, Jaa, Jbf, Jbg, Ja6, Jad, Jbc, Jbe, Jbd, Jb8, Ja2, Ja1, Ja4, Ja3, Jax, Jay, decide_true, decide_false, Bool.not_true, Bool.not_false, Bool.false_eq_true, if_true, if_false, true_and]
  have e2 : decide (S (w.take 2) = S [116, 94]) = decide (w.take 2 = [116, 94]) := by rw [decide_eq_decide]; exact s_inj
  have e1 : decide (S w = S [116]) = decide (w = [116]) := by rw [decide_eq_decide]; exact s_inj
  rw [e1, e2]
  unfold termRd at k
  rw [a0] at k
  unfold placeW at k
  by_cases z : w.take 2 = [116, 94]
  · rw [if_pos z] at k
    rw [if_pos (decide_eq_true z)]
    refine sl_from (i := 2) (by omega) ?_
    simp only [Jbu, initE, Jcw, Jci, Jbk, Jbl, Jbz, Jcr, Jcs, Jc8, Jco, Jbm, Jcy, Jbn, Jbt, Jdb, Jdc, Jda, Jdd, Jdi, Jdf, Jdg, Jde, Jc3, Jcc, Jd5, Jd4, Jc9, Jcl, Jd3, Jd2, Jcf, Jbr, Jd1, Jck, Jbj, Jcn, Jc7, Jbi, Jcm, Jcj, Jd7, Jd6, Jd9, Jbo, Jch, Jcq, Jc1, Jcx, Jcg, Jbp, Jct, Jcz, Jdk, Jdl, Jcd, Jcu, Jcv, Jc6, Jbq, Jc0, Jbw, Jce, gt, st, Jbb, Jb9, Jba, Jb7, Jbh, Ja5, atI0, atI1, atI2, atI3, atI4, ixN20, ixN21, List.map_cons, List.map_nil, List.cons_append, List.nil_append, List.append_nil, List.length_cons, List.length_nil, List.replicate_succ, List.replicate_zero, Nat.add_one_sub_one, Jd8, Jbs, Jbx, Jby, Jbv, Jae, Jag, Jah, Jaf, Jb6, Jav, Jaw, Jak, Jau, Jb3, Jat, Jas, Jam, Jal, Jb1, Jai, Jaj, Jaz, Jb0, Jap, Jb2, Jaq, Jar, Jan, Jao, Jb5, Jb4, Ja7, Ja8, Jac, Jab, Ja0, Ja9, Jaa, Jbf, Jbg, Ja6, Jad, Jbc, Jbe, Jbd, Jb8, Ja2, Ja1, Ja4, Ja3, Jax, Jay, decide_true, decide_false, Bool.not_true, Bool.not_false, Bool.false_eq_true, if_true, if_false, true_and]
    refine ok_law_figures (m := 2) dr ld (by decide) ?_
    cases fw : figW (w.drop 2) 2 with
    | none =>
      rw [fw] at k
      show wp_law_term_read_2 _ _ _
      unfold wp_law_term_read_2
      simp only [Jbu, initE, Jcw, Jci, Jbk, Jbl, Jbz, Jcr, Jcs, Jc8, Jco, Jbm, Jcy, Jbn, Jbt, Jdb, Jdc, Jda, Jdd, Jdi, Jdf, Jdg, Jde, Jc3, Jcc, Jd5, Jd4, Jc9, Jcl, Jd3, Jd2, Jcf, Jbr, Jd1, Jck, Jbj, Jcn, Jc7, Jbi, Jcm, Jcj, Jd7, Jd6, Jd9, Jbo, Jch, Jcq, Jc1, Jcx, Jcg, Jbp, Jct, Jcz, Jdk, Jdl, Jcd, Jcu, Jcv, Jc6, Jbq, Jc0, Jbw, Jce, gt, st, Jbb, Jb9, Jba, Jb7, Jbh, Ja5, atI0, atI1, atI2, atI3, atI4, ixN20, ixN21, List.map_cons, List.map_nil, List.cons_append, List.nil_append, List.append_nil, List.length_cons, List.length_nil, List.replicate_succ, List.replicate_zero, Nat.add_one_sub_one, Jd8, Jbs, Jbx, Jby, Jbv, Jae, Jag, Jah, Jaf, Jb6, Jav, Jaw, Jak, Jau, Jb3, Jat, Jas, Jam, Jal, Jb1, Jai, Jaj, Jaz, Jb0, Jap, Jb2, Jaq, Jar, Jan, Jao, Jb5, Jb4, Ja7, Ja8, Jac, Jab, Ja0, Ja9, Jaa, Jbf, Jbg, Ja6, Jad, Jbc, Jbe, Jbd, Jb8, Ja2, Ja1, Ja4, Ja3, Jax, Jay, decide_true, decide_false, Bool.not_true, Bool.not_false, Bool.false_eq_true, if_true, if_false, true_and]
      exact k
    | some p =>
      rw [fw] at k
      exact term_last ha (asc _ hg) (hl _ hg) h3 k
  · rw [if_neg z] at k
    rw [if_neg (by rw [decide_eq_true_iff]; exact z)]
    by_cases y : w = [116]
    · rw [if_pos y] at k
      rw [if_pos (decide_eq_true y)]
      exact term_last (p := 1) ha (asc _ hg) (hl _ hg) h3 k
    · rw [if_neg y] at k
      rw [if_neg (by rw [decide_eq_true_iff]; exact y)]
      exact term_last (p := 0) ha (asc _ hg) (hl _ hg) h3 k
def optL : Option (List Int) → D
  | some r => .list (iL r)
  | none => .none
theorem fig_lt {m n : Nat} (h : figW w m = some n) : n < 10 ^ m := by
  unfold figW at h
  split at h
  · rename_i pl
    cases h
    exact valW_lt pl
  · cases h
theorem termRd_lt {n p : Nat} (h : termRd ws = some (n, p)) : n < 10 ^ 12 ∧ p < 25 := by
  unfold termRd at h
  split at h
  · cases h
  · rename_i q e
    split at h
    · cases h
    · rename_i hq
      split at h
      · split at h
        · cases h
        · rename_i m fm
          split at h
          · cases h
            exact ⟨fig_lt fm, by omega⟩
          · cases h
      · cases h
        exact ⟨by decide, by omega⟩
def eRr (t u : Tx) (s : Int) (p : Addr) (ws : List Tx) (x5 x6 : Option D) : EnvD := [some (.str (S t)), some (.int s), some (.cell p), some (wD ws), some (.str (S u)), x5, x6]
def bodyR : WS := (wIfS (wTst (wOp false (oIn false) (wV 5) (wTup (waCons (wK (.str "+")) (waCons (wK (.str "-")) waNil))))) (wSeq (wAsg 6 (wIf (wTst (wChain (fun i j => decide (i < j)) (fun i j => decide (i < j)) (wK (.int 0)) (wCb false cbLen (waCons (wV 3) waNil)) (wK (.int 3)))) (wCall wp_law_term_read [] (waCons (wV 3) waNil)) (wK .none)))
    (wSeq (wIfS (wTst (wOp false oIsN (wV 6) (wK .none))) (wRet (wK .none)) wNext)
    (wSeq (wSetL (wOp false oAdd (wOp false oIx (wV 2) (wOp false oIx (wV 6) (wK (.int 1)))) (wOp false oMul (wV 1) (wOp false oIx (wV 6) (wK (.int 0))))) (wV 2) (wOp false oIx (wV 6) (wK (.int 1))))
    (wPar 1 3 (waCons (wOp false oIx (wLst false (waCons (wUn false oNeg (wK (.int 1))) (waCons (wK (.int 1)) waNil))) (wCb false cbInt (waCons (wOp false oEq (wV 5) (wK (.str "+"))) waNil))) (waCons (wLst false waNil) waNil)))))) (wAsg 3 (wOp false oAdd (wV 3) (wLst false (waCons (wV 5) waNil)))))
theorem bodyR_ok {E : WEnds} {t u : Tx} {s : Int} {p : Addr} {row : List Int} {x6 : Option D} (hs : s = 1 ∨ s = -1) (hp : μ p = some (.list (iL row))) (l25 : row.length = 25) (aw : Asc w) (aws : ∀ w ∈ ws, Asc w) (lws : ∀ w ∈ ws, w.length ≤ 1000000) (ln : ws.length ≤ 1000000)
    (k1 : ¬(w = [43] ∨ w = [45]) → E.nx (eRr t u s p (ws ++ [w]) (some (.str (S w))) x6) μ)
    (k2 : (w = [43] ∨ w = [45]) → termQ ws = none → E.rt .none μ)
    (k3 : (w = [43] ∨ w = [45]) → ∀ n q, termQ ws = some (n, q) → n < 10 ^ 12 → q < 25 → ∀ x6, E.nx (eRr t u (if w = [43] then 1 else -1) p [] (some (.str (S w))) x6) (up μ p (.list (iL (row.set q (row.getD q 0 + s * n)))))) : bodyR (eRr t u s p ws (some (.str (S w))) x6) μ E := by
  unfold bodyR eRr
  simp only [Jbu, initE, Jcw, Jci, Jbk, Jbl, Jbz, Jcr, Jcs, Jc8, Jco, Jbm, Jcy, Jbn, Jbt, Jdb, Jdc, Jda, Jdd, Jdi, Jdf, Jdg, Jde, Jc3, Jcc, Jd5, Jd4, Jc9, Jcl, Jd3, Jd2, Jcf, Jbr, Jd1, Jck, Jbj, Jcn, Jc7, Jbi, Jcm, Jcj, Jd7, Jd6, Jd9, Jbo, Jch, Jcq, Jc1, Jcx, Jcg, Jbp, Jct, Jcz, Jdk, Jdl, Jcd, Jcu, Jcv, Jc6, Jbq, Jc0, Jbw, Jce, gt, st, Jbb, Jb9, Jba, Jb7, Jbh, Ja5, atI0, atI1, atI2, atI3, atI4, ixN20, ixN21, List.map_cons, List.map_nil, List.cons_append, List.nil_append, List.append_nil, List.length_cons, List.length_nil, List.replicate_succ, List.replicate_zero, Nat.add_one_sub_one, Jd8, Jbs, Jbx, Jby, Jbv, Jae, Jag, Jah, Jaf, Jb6, Jav, Jaw, Jak, Jau, Jb3, Jat, Jas, Jam, Jal, Jb1, Jai, Jaj, Jaz, Jb0, Jap, Jb2, Jaq, Jar, Jan, Jao, Jb5, Jb4, Ja7, Ja8, Jac, Jab, Ja0, Ja9, Jaa, Jbf, Jbg, Ja6, Jad, Jbc, Jbe, Jbd, Jb8, Ja2, Ja1, Ja4, Ja3, Jax, Jay, decide_true, decide_false, Bool.not_true, Bool.not_false, Bool.false_eq_true, if_true, if_false, true_and, plus_S, minus_S]
  refine ⟨by rw [sizeLine_eq]; decide, ?_⟩
  rw [inF_pm]
  by_cases pm : w = [43] ∨ w = [45]
  · have epm : (decide (w = [43]) || decide (w = [45])) = true := by
      rw [Bool.or_eq_true, decide_eq_true_iff, decide_eq_true_iff]
      exact pm
    rw [epm, if_pos rfl]
    refine ⟨rfl, rfl, ?_⟩
    have nnn : isNone D.none = true := rfl
    rw [nnn, if_pos rfl, List.length_map]
    have k2 := k2 pm
    have k3 := k3 pm
    unfold termQ at k2 k3
    by_cases h0 : 0 < ws.length
    · rw [if_pos (by rw [decide_eq_true_iff]; omega)]
      by_cases h3 : ws.length < 3
      · rw [if_pos (by rw [decide_eq_true_iff]; omega)]
        rw [if_pos ⟨h0, h3⟩] at k2 k3
        refine ok_law_term_read (List.length_pos_iff.mp h0) h3 aws lws ?_
        cases tr : termRd ws with
        | none => exact k2 tr
        | some np =>
          obtain ⟨n, q⟩ := np
          obtain ⟨n12, q25⟩ := termRd_lt tr
          have k3 := k3 n q tr n12 q25 (some (.tup [.int (n : Int), .int (q : Int)]))
          have nq : isNone (optT (some (n, q))) = false := rfl
          rw [nq, if_neg (by decide)]
          have sq : sqD μ (.cell p) = some (iL row) := by simp [sqD, ndL, hp]
          have at0 : atI [D.int (n : Int), .int (q : Int)] 0 = some (.int (n : Int)) := rfl
          have at1 : atI [D.int (n : Int), .int (q : Int)] 1 = some (.int (q : Int)) := rfl
          have atq : atI (iL row) (q : Int) = some (.int (row.getD q 0)) := by
            refine at_qX ?_
            unfold iL
            rw [List.getElem?_map, List.getD, List.getElem?_eq_getElem (by omega)]
            rfl
          have cm : CMulU s (n : Int) := mulU_of (a := 2) (b := 40) (by rcases hs with rfl | rfl <;> decide) (Nat.lt_of_le_of_lt (show ((n : Nat) : Int).natAbs ≤ 10 ^ 12 by omega) (by decide)) (by decide)
          have ixq : ixN (iL row).length (q : Int) = some q := by
            rw [iL_len]
            unfold ixN
            rw [if_pos (by omega), if_pos (by omega)]
            rfl
          simp only [optT, Jbu, initE, Jcw, Jci, Jbk, Jbl, Jbz, Jcr, Jcs, Jc8, Jco, Jbm, Jcy, Jbn, Jbt, Jdb, Jdc, Jda, Jdd, Jdi, Jdf, Jdg, Jde, Jc3, Jcc, Jd5, Jd4, Jc9, Jcl, Jd3, Jd2, Jcf, Jbr, Jd1, Jck, Jbj, Jcn, Jc7, Jbi, Jcm, Jcj, Jd7, Jd6, Jd9, Jbo, Jch, Jcq, Jc1, Jcx, Jcg, Jbp, Jct, Jcz, Jdk, Jdl, Jcd, Jcu, Jcv, Jc6, Jbq, Jc0, Jbw, Jce, gt, st, Jbb, Jb9, Jba, Jb7, Jbh, Ja5, atI0, atI1, atI2, atI3, atI4, ixN20, ixN21, List.map_cons, List.map_nil, List.cons_append, List.nil_append, List.append_nil, List.length_cons, List.length_nil, List.replicate_succ, List.replicate_zero, Nat.add_one_sub_one, Jd8, Jbs, Jbx, Jby, Jbv, Jae, Jag, Jah, Jaf, Jb6, Jav, Jaw, Jak, Jau, Jb3, Jat, Jas, Jam, Jal, Jb1, Jai, Jaj, Jaz, Jb0, Jap, Jb2, Jaq, Jar, Jan, Jao, Jb5, Jb4, Ja7, Ja8, Jac, Jab, Ja0, Ja9, Jaa, Jbf, Jbg, Ja6, Jad, Jbc, Jbe, Jbd, Jb8, Ja2, Ja1, Ja4, Ja3, Jax, Jay, decide_true, decide_false, Bool.not_true, Bool.not_false, Bool.false_eq_true, if_true, if_false, true_and, at0, at1, oIx, sq, atq, hp, ndL, ixq]
          refine ⟨cm, ?_⟩
          refine ⟨by rw [sizeLine_eq]; decide, ?_⟩
          have ew : decide (S w = S [43]) = decide (w = [43]) := by rw [decide_eq_decide]; exact s_inj
          rw [ew]
          refine int_b _ ?_
          have es : (iL row).set q (.int (row.getD q 0 + s * (n : Int))) = iL (row.set q (row.getD q 0 + s * n)) := by
            unfold iL
            rw [List.map_set]
          show (match atI [D.int (-1), D.int 1] (if decide (w = [43]) = true then 1 else 0) with | some d => _ | none => False)
          rw [es]
          by_cases pl : w = [43]
          · rw [if_pos pl] at k3
            rw [decide_eq_true pl]
            exact ⟨Nat.zero_le _, k3⟩
          · rw [if_neg pl] at k3
            rw [decide_eq_false pl]
            exact ⟨Nat.zero_le _, k3⟩
      · rw [if_neg (by rw [decide_eq_true_iff]; omega)]
        exact k2 (if_neg fun z => h3 z.2)
    · rw [if_neg (by rw [decide_eq_true_iff]; omega)]
      exact k2 (if_neg fun z => h0 z.1)
  · have epm : (decide (w = [43]) || decide (w = [45])) = false := by
      rw [Bool.or_eq_false_iff, decide_eq_false_iff_not, decide_eq_false_iff_not]
      exact not_or.mp pm
    rw [epm, if_neg (by decide)]
    refine ⟨rfl, rfl, by rw [sizeLine_eq]; decide, by rw [List.length_map, sizeLine_eq]; omega, ?_⟩
    have e : wD (ws ++ [w]) = D.list (List.map (fun w => D.str (S w)) ws ++ [D.str (S w)]) := by
      unfold wD
      rw [List.map_append]
      rfl
    rw [← e]
    exact k1 pm
theorem spl_mem (sep : List Nat) : ∀ (t : Tx) (k : Nat) (acc : Tx), ∀ w ∈ TL.spl sep k acc t, ∀ c ∈ w, c ∈ acc ∨ c ∈ t
  | [], k, acc, w, hw, c, hc => by
    rw [TL.spl_nil] at hw
    rw [List.mem_singleton.mp hw] at hc
    exact .inl hc
  | a :: t, 0, acc, w, hw, c, hc => by
    by_cases h : TL.pre sep (a :: t) = true
    · rw [TL.spl_hit h] at hw
      rcases List.mem_cons.mp hw with z | z
      · rw [z] at hc
        exact .inl hc
      · rcases spl_mem sep t (sep.length - 1) [] w z c hc with y | y
        · cases y
        · exact .inr (List.mem_cons_of_mem _ y)
    · rw [TL.spl_miss (by simpa using h)] at hw
      rcases spl_mem sep t 0 (acc ++ [a]) w hw c hc with y | y
      · rcases List.mem_append.mp y with v | v
        · exact .inl v
        · exact .inr (by rw [List.mem_singleton.mp v]; exact List.mem_cons_self)
      · exact .inr (List.mem_cons_of_mem _ y)
  | a :: t, k + 1, acc, w, hw, c, hc => by
    have e : TL.spl sep (k + 1) acc (a :: t) = TL.spl sep k acc t := rfl
    rw [e] at hw
    rcases spl_mem sep t k acc w hw c hc with y | y
    · exact .inl y
    · exact .inr (List.mem_cons_of_mem _ y)
theorem words_asc {t : Tx} (h : Asc t) : ∀ w ∈ wordsT t, Asc w := fun w hw c hc => by
  unfold wordsT at hw
  rcases spl_mem _ _ _ _ w hw c hc with y | y
  · cases y
  · split at y
    · exact h c (List.mem_of_mem_drop y)
    · exact h c y
/-- the rows so far are small -/
def RowB (i : Nat) (row : List Int) : Prop := ∀ n ∈ row, n.natAbs ≤ i * 1000000000000
theorem nat_bd {C i a b m : Nat} {s x : Int} (h : x.natAbs ≤ i * C) (hs : s = 1 ∨ s = -1) (hn : a < C) (e : m = (x + s * a).natAbs) : m ≤ (i + 1) * C := by
  rw [Nat.add_mul, Nat.one_mul]
  generalize i * C = D at *
  rcases hs with rfl | rfl <;> omega
theorem RowB.set {i : Nat} {row : List Int} {q : Nat} {n : Nat} {s : Int} (h : RowB i row) (hs : s = 1 ∨ s = -1) (hn : n < 1000000000000) (hq : q < row.length) : RowB (i + 1) (row.set q (row.getD q 0 + s * n)) := fun m hm => by
  rcases List.mem_or_eq_of_mem_set hm with z | z
  · exact Nat.le_trans (h m z) (Nat.mul_le_mul_right _ (Nat.le_succ i))
  · have hg : row.getD q 0 ∈ row := by
      rw [List.getD, List.getElem?_eq_getElem hq]
      exact List.getElem_mem hq
    exact nat_bd (b := 0) (h _ hg) hs hn (by rw [z])
theorem RowB.up {i j : Nat} {row : List Int} (h : RowB i row) (hij : i ≤ j) : RowB j row := fun m hm => Nat.le_trans (h m hm) (Nat.mul_le_mul_right _ hij)
theorem row0 : RowB 0 (List.replicate 25 0) := fun n hn => by
  rw [(List.mem_replicate.mp hn).2]
  exact Nat.zero_le _
theorem nil_w : ∀ w ∈ ([] : List Tx), Asc w ∧ w.length ≤ 500000 := fun _ z => nomatch z
theorem rd_loop {E : WEnds} {t u : Tx} {s : Int} {p : Addr} (asc : Asc t) (hl : t.length ≤ 500000) (eu : wordsT t = TL.spl [32] 0 [] u) (lu : u.length ≤ t.length) (es : sgnT t = s) (hp : μ p = some (.list (iL (List.replicate 25 0))))
    (k1 : ∀ row s2 x5 x6 μ', lawF (wordsT t ++ [[43]]) s (List.replicate 25 0) [] = some row → row.length = 25 → RowB 500002 row → (∀ a, a ≠ p → μ' a = μ a) → μ' p = some (.list (iL row)) → E.nx (eRr t u s2 p [] x5 x6) μ')
    (k2 : ∀ μ', lawF (wordsT t ++ [[43]]) s (List.replicate 25 0) [] = none → (∀ a, a ≠ p → μ' a = μ a) → E.rt .none μ') : wp_law_rule_read_3 (eRr t u s p [] none none) μ E := by
  obtain ⟨w1, w2⟩ := words_len t
  have wa := words_asc asc
  have hs : s = 1 ∨ s = -1 := by rw [← es]; unfold sgnT; split <;> simp
  show wFor (wiSeq (wOp false oAdd (wSm false mSplit (wV 4) (wK (.str " "))) (wLst false (waCons (wK (.str "+")) waNil)))) (wgN 5) bodyR (eRr t u s p [] none none) μ E
  unfold eRr
  simp only [Jbu, initE, Jcw, Jci, Jbk, Jbl, Jbz, Jcr, Jcs, Jc8, Jco, Jbm, Jcy, Jbn, Jbt, Jdb, Jdc, Jda, Jdd, Jdi, Jdf, Jdg, Jde, Jc3, Jcc, Jd5, Jd4, Jc9, Jcl, Jd3, Jd2, Jcf, Jbr, Jd1, Jck, Jbj, Jcn, Jc7, Jbi, Jcm, Jcj, Jd7, Jd6, Jd9, Jbo, Jch, Jcq, Jc1, Jcx, Jcg, Jbp, Jct, Jcz, Jdk, Jdl, Jcd, Jcu, Jcv, Jc6, Jbq, Jc0, Jbw, Jce, gt, st, Jbb, Jb9, Jba, Jb7, Jbh, Ja5, atI0, atI1, atI2, atI3, atI4, ixN20, ixN21, List.map_cons, List.map_nil, List.cons_append, List.nil_append, List.append_nil, List.length_cons, List.length_nil, List.replicate_succ, List.replicate_zero, Nat.add_one_sub_one, Jd8, Jbs, Jbx, Jby, Jbv, Jae, Jag, Jah, Jaf, Jb6, Jav, Jaw, Jak, Jau, Jb3, Jat, Jas, Jam, Jal, Jb1, Jai, Jaj, Jaz, Jb0, Jap, Jb2, Jaq, Jar, Jan, Jao, Jb5, Jb4, Ja7, Ja8, Jac, Jab, Ja0, Ja9, Jaa, Jbf, Jbg, Ja6, Jad, Jbc, Jbe, Jbd, Jb8, Ja2, Ja1, Ja4, Ja3, Jax, Jay, decide_true, decide_false, Bool.not_true, Bool.not_false, Bool.false_eq_true, if_true, if_false, true_and, Jd0, sp_S, plus_S]
  refine ⟨trivial, by decide, by rw [SX.S_len, sizeLine_eq]; omega, ?_⟩
  rw [SX.split_S (List.cons_ne_nil _ _) (by decide), wD_map, ← eu]
  simp only [Jbu, initE, Jcw, Jci, Jbk, Jbl, Jbz, Jcr, Jcs, Jc8, Jco, Jbm, Jcy, Jbn, Jbt, Jdb, Jdc, Jda, Jdd, Jdi, Jdf, Jdg, Jde, Jc3, Jcc, Jd5, Jd4, Jc9, Jcl, Jd3, Jd2, Jcf, Jbr, Jd1, Jck, Jbj, Jcn, Jc7, Jbi, Jcm, Jcj, Jd7, Jd6, Jd9, Jbo, Jch, Jcq, Jc1, Jcx, Jcg, Jbp, Jct, Jcz, Jdk, Jdl, Jcd, Jcu, Jcv, Jc6, Jbq, Jc0, Jbw, Jce, gt, st, Jbb, Jb9, Jba, Jb7, Jbh, Ja5, atI0, atI1, atI2, atI3, atI4, ixN20, ixN21, List.map_cons, List.map_nil, List.cons_append, List.nil_append, List.append_nil, List.length_cons, List.length_nil, List.replicate_succ, List.replicate_zero, Nat.add_one_sub_one, Jd8, Jbs, Jbx, Jby, Jbv, Jae, Jag, Jah, Jaf, Jb6, Jav, Jaw, Jak, Jau, Jb3, Jat, Jas, Jam, Jal, Jb1, Jai, Jaj, Jaz, Jb0, Jap, Jb2, Jaq, Jar, Jan, Jao, Jb5, Jb4, Ja7, Ja8, Jac, Jab, Ja0, Ja9, Jaa, Jbf, Jbg, Ja6, Jad, Jbc, Jbe, Jbd, Jb8, Ja2, Ja1, Ja4, Ja3, Jax, Jay, decide_true, decide_false, Bool.not_true, Bool.not_false, Bool.false_eq_true, if_true, if_false, true_and]
  have ea : List.map (fun w => D.str (S w)) (wordsT t) ++ [D.str (S [43])] = (wordsT t ++ [[43]]).map fun w => D.str (S w) := by
    rw [List.map_append]
    rfl
  refine ⟨by rw [sizeLine_eq]; decide, by rw [List.length_map, sizeLine_eq]; omega, ?_⟩
  rw [ea]
  have aW : ∀ w ∈ wordsT t ++ [[43]], Asc w ∧ w.length ≤ 500000 := fun w hw => by
    rcases List.mem_append.mp hw with z | z
    · exact ⟨wa w z, by have := w2 w z; omega⟩
    · rw [List.mem_singleton.mp z]
      exact ⟨asc_of rfl, by decide⟩
  have lW : (wordsT t ++ [[43]]).length ≤ 500002 := by rw [List.length_append]; simp; omega
  have last : ∀ (R : List Tx), R ≠ [] → True := fun _ _ => trivial
  obtain ⟨RES, hR⟩ : ∃ R, R = lawF (wordsT t ++ [[43]]) s (List.replicate 25 0) [] := ⟨_, rfl⟩
  rw [← hR] at k1 k2
  refine ⟨by rw [List.length_map]; omega, for_inv (fun i e μ' => ∃ s2 row ws x5 x6, (s2 = 1 ∨ s2 = -1) ∧ e = eRr t u s2 p ws x5 x6 ∧ μ' p = some (.list (iL row)) ∧ row.length = 25 ∧ RowB i row ∧ (∀ w ∈ ws, Asc w ∧ w.length ≤ 500000) ∧ ws.length ≤ i ∧ (i = (wordsT t ++ [[43]]).length → ws = []) ∧ (∀ a, a ≠ p → μ' a = μ a) ∧ lawF ((wordsT t ++ [[43]]).drop i) s2 row ws = RES) ⟨s, List.replicate 25 0, [], none, none, hs, rfl, hp, by simp, row0, nil_w, Nat.le_refl _, fun _ => rfl, fun _ _ => rfl, hR.symm⟩ ?_ ?_⟩
  · rintro i x e μ' N hx ⟨s2, row, ws, x5, x6, hs2, rfl, hp2, l25, rb, aws, lws, end1, mo, hres⟩ hN
    rw [List.getElem?_map] at hx
    obtain ⟨w, hw, rfl⟩ := Option.map_eq_some_iff.mp hx
    obtain ⟨a1, a2⟩ := aW w (List.mem_of_getElem? hw)
    have li := (List.getElem?_eq_some_iff.mp hw).1
    have ed : (wordsT t ++ [[43]]).drop i = w :: (wordsT t ++ [[43]]).drop (i + 1) := by
      rw [List.drop_eq_getElem_cons li, (List.getElem?_eq_some_iff.mp hw).2]
    rw [ed, lawF] at hres
    refine ⟨trivial, ?_⟩
    simp only [Jdb, eRr, st]
    refine bodyR_ok (w := w) (ws := ws) hs2 hp2 l25 a1 (fun v hv => (aws v hv).1) (fun v hv => by have := (aws v hv).2; omega) (by omega) (fun pm => ?_) (fun pm tq => ?_) fun pm n q tq hn hq x6 => ?_
    · rw [if_neg pm] at hres
      refine hN _ _ ⟨s2, row, ws ++ [w], _, _, hs2, rfl, hp2, l25, rb.up (by omega), fun v hv => ?_, by rw [List.length_append]; simp; omega, fun q => ?_, mo, hres⟩
      · rcases List.mem_append.mp hv with z | z
        · exact aws v z
        · rw [List.mem_singleton.mp z]
          exact ⟨a1, a2⟩
      · exfalso
        have e1 : (wordsT t ++ [[43]])[i]? = some [43] := by
          rw [List.length_append] at q
          have : i = (wordsT t).length := by simp at q; exact q
          rw [this]
          simp
        rw [hw] at e1
        cases e1
        exact pm (.inl rfl)
    · rw [if_pos pm, tq] at hres
      exact k2 μ' hres.symm mo
    · rw [if_pos pm, tq] at hres
      dsimp only at hres
      refine hN _ _ ⟨_, _, [], _, x6, ?_, rfl, up_same, by rw [List.length_set]; exact l25, rb.set hs2 hn (by omega), nil_w, Nat.zero_le _, fun _ => rfl, fun a ha => by rw [up_ne ha]; exact mo a ha, hres⟩
      split <;> simp
  · rintro e μ' ⟨s2, row, ws, x5, x6, hs2, rfl, hp2, l25, rb, aws, lws, end1, mo, hres⟩
    rw [List.length_map] at *
    have w0 := end1 rfl
    subst w0
    rw [List.drop_eq_nil_of_le (Nat.le_refl _), lawF] at hres
    exact ⟨trivial, k1 row s2 x5 x6 μ' hres.symm l25 (rb.up (by omega)) mo hp2⟩
theorem ok_law_rule_read {t : Tx} (asc : Asc t) (hl : t.length ≤ 500000) (k : ∀ μ', (∀ a, μ a ≠ Option.none → μ' a = μ a) → Q (optL (lawT t)) μ') : wp_law_rule_read [.str (S t)] μ Q X := by
  unfold wp_law_rule_read wp_law_rule_read_0 wp_law_rule_read_1
  simp only [Jbu, initE, Jcw, Jci, Jbk, Jbl, Jbz, Jcr, Jcs, Jc8, Jco, Jbm, Jcy, Jbn, Jbt, Jdb, Jdc, Jda, Jdd, Jdi, Jdf, Jdg, Jde, Jc3, Jcc, Jd5, Jd4, Jc9, Jcl, Jd3, Jd2, Jcf, Jbr, Jd1, Jck, Jbj, Jcn, Jc7, Jbi, Jcm, Jcj, Jd7, Jd6, Jd9, Jbo, Jch, Jcq, Jc1, Jcx, Jcg, Jbp, Jct, Jcz, Jdk, Jdl, Jcd, Jcu, Jcv, Jc6, Jbq, Jc0, Jbw, Jce, gt, st, Jbb, Jb9, Jba, Jb7, Jbh, Ja5, atI0, atI1, atI2, atI3, atI4, ixN20, ixN21, List.map_cons, List.map_nil, List.cons_append, List.nil_append, List.append_nil, List.length_cons, List.length_nil, List.replicate_succ, List.replicate_zero, Nat.add_one_sub_one, Jd8, Jbs, Jbx, Jby, Jbv, Jae, Jag, Jah, Jaf, Jb6, Jav, Jaw, Jak, Jau, Jb3, Jat, Jas, Jam, Jal, Jb1, Jai, Jaj, Jaz, Jb0, Jap, Jb2, Jaq, Jar, Jan, Jao, Jb5, Jb4, Ja7, Ja8, Jac, Jab, Ja0, Ja9, Jaa, Jbf, Jbg, Ja6, Jad, Jbc, Jbe, Jbd, Jb8, Ja2, Ja1, Ja4, Ja3, Jax, Jay, decide_true, decide_false, Bool.not_true, Bool.not_false, Bool.false_eq_true, if_true, if_false, true_and, Jcp, minus_S]
  refine ⟨by rw [sizeLine_eq]; decide, by decide, by decide, by rw [sizeLine_eq]; decide, fun p hp => ⟨Nat.zero_le _, ?_⟩⟩
  unfold wp_law_rule_read_2
  simp only [Jbu, initE, Jcw, Jci, Jbk, Jbl, Jbz, Jcr, Jcs, Jc8, Jco, Jbm, Jcy, Jbn, Jbt, Jdb, Jdc, Jda, Jdd, Jdi, Jdf, Jdg, Jde, Jc3, Jcc, Jd5, Jd4, Jc9, Jcl, Jd3, Jd2, Jcf, Jbr, Jd1, Jck, Jbj, Jcn, Jc7, Jbi, Jcm, Jcj, Jd7, Jd6, Jd9, Jbo, Jch, Jcq, Jc1, Jcx, Jcg, Jbp, Jct, Jcz, Jdk, Jdl, Jcd, Jcu, Jcv, Jc6, Jbq, Jc0, Jbw, Jce, gt, st, Jbb, Jb9, Jba, Jb7, Jbh, Ja5, atI0, atI1, atI2, atI3, atI4, ixN20, ixN21, List.map_cons, List.map_nil, List.cons_append, List.nil_append, List.append_nil, List.length_cons, List.length_nil, List.replicate_succ, List.replicate_zero, Nat.add_one_sub_one, Jd8, Jbs, Jbx, Jby, Jbv, Jae, Jag, Jah, Jaf, Jb6, Jav, Jaw, Jak, Jau, Jb3, Jat, Jas, Jam, Jal, Jb1, Jai, Jaj, Jaz, Jb0, Jap, Jb2, Jaq, Jar, Jan, Jao, Jb5, Jb4, Ja7, Ja8, Jac, Jab, Ja0, Ja9, Jaa, Jbf, Jbg, Ja6, Jad, Jbc, Jbe, Jbd, Jb8, Ja2, Ja1, Ja4, Ja3, Jax, Jay, decide_true, decide_false, Bool.not_true, Bool.not_false, Bool.false_eq_true, if_true, if_false, true_and]
  refine sl_to (i := 1) (by omega) ?_
  simp only [Jbu, initE, Jcw, Jci, Jbk, Jbl, Jbz, Jcr, Jcs, Jc8, Jco, Jbm, Jcy, Jbn, Jbt, Jdb, Jdc, Jda, Jdd, Jdi, Jdf, Jdg, Jde, Jc3, Jcc, Jd5, Jd4, Jc9, Jcl, Jd3, Jd2, Jcf, Jbr, Jd1, Jck, Jbj, Jcn, Jc7, Jbi, Jcm, Jcj, Jd7, Jd6, Jd9, Jbo, Jch, Jcq, Jc1, Jcx, Jcg, Jbp, Jct, Jcz, Jdk, Jdl, Jcd, Jcu, Jcv, Jc6, Jbq, Jc0, Jbw, Jce, gt, st, Jbb, Jb9, Jba, Jb7, Jbh, Ja5, atI0, atI1, atI2, atI3, atI4, ixN20, ixN21, List.map_cons, List.map_nil, List.cons_append, List.nil_append, List.append_nil, List.length_cons, List.length_nil, List.replicate_succ, List.replicate_zero, Nat.add_one_sub_one, Jd8, Jbs, Jbx, Jby, Jbv, Jae, Jag, Jah, Jaf, Jb6, Jav, Jaw, Jak, Jau, Jb3, Jat, Jas, Jam, Jal, Jb1, Jai, Jaj, Jaz, Jb0, Jap, Jb2, Jaq, Jar, Jan, Jao, Jb5, Jb4, Ja7, Ja8, Jac, Jab, Ja0, Ja9, Jaa, Jbf, Jbg, Ja6, Jad, Jbc, Jbe, Jbd, Jb8, Ja2, Ja1, Ja4, Ja3, Jax, Jay, decide_true, decide_false, Bool.not_true, Bool.not_false, Bool.false_eq_true, if_true, if_false, true_and, minus_S]
  have e1 : decide (S (t.take 1) = S [45]) = decide (t.take 1 = [45]) := by rw [decide_eq_decide]; exact s_inj
  rw [e1]
  have fl : (List.replicate (Int.toNat 25) [D.int 0]).flatten = iL (List.replicate 25 0) := rfl
  rw [fl]
  have go : ∀ (u : Tx) (sg : Int), wordsT t = TL.spl [32] 0 [] u → u.length ≤ t.length → sgnT t = sg → wp_law_rule_read_3 (eRr t u sg p [] none none) (up μ p (.list (iL (List.replicate 25 0)))) { nx := fun e1 μ1 => wp_law_rule_read_4 e1 μ1 { nx := fun e1 μ1 => wp_law_rule_read_5 e1 μ1 { nx := fun _ μ1 => Q D.none μ1, rt := Q, bk := fun _ _ => False, ct := fun _ _ => False, xp := fun d _ μ1 => X d μ1 }, rt := Q, bk := fun _ _ => False, ct := fun _ _ => False, xp := fun d _ μ1 => X d μ1 }, rt := Q, bk := fun _ _ => False, ct := fun _ _ => False, xp := fun d _ μ1 => X d μ1 } := fun u sg eu lu es => by
    have old : ∀ a, μ a ≠ Option.none → a ≠ p := fun a ha z => ha (by rw [z, hp])
    refine rd_loop asc hl eu lu es up_same (fun row s2 x5 x6 μ' hr l25 rb mo hp2 => ?_) fun μ' hr mo => ?_
    · have pg : Pg (M.trim row) := by
        refine ⟨Nat.le_trans (M.trim_len _) (by omega), fun n hn => ?_⟩
        have := rb n (M.trim_mem hn)
        by_cases z : n.natAbs = 0
        · rw [z]; decide
        · exact (Nat.log2_lt z).mpr (Nat.lt_of_le_of_lt this (by decide +kernel))
      have el : lawT t = if pageL (M.trim row) = t then some (M.trim row) else none := by
        unfold lawT
        rw [es, hr]
      show wp_law_rule_read_4 (eRr t u s2 p [] x5 x6) μ' _
      unfold wp_law_rule_read_4 eRr
      simp only [Jbu, initE, Jcw, Jci, Jbk, Jbl, Jbz, Jcr, Jcs, Jc8, Jco, Jbm, Jcy, Jbn, Jbt, Jdb, Jdc, Jda, Jdd, Jdi, Jdf, Jdg, Jde, Jc3, Jcc, Jd5, Jd4, Jc9, Jcl, Jd3, Jd2, Jcf, Jbr, Jd1, Jck, Jbj, Jcn, Jc7, Jbi, Jcm, Jcj, Jd7, Jd6, Jd9, Jbo, Jch, Jcq, Jc1, Jcx, Jcg, Jbp, Jct, Jcz, Jdk, Jdl, Jcd, Jcu, Jcv, Jc6, Jbq, Jc0, Jbw, Jce, gt, st, Jbb, Jb9, Jba, Jb7, Jbh, Ja5, atI0, atI1, atI2, atI3, atI4, ixN20, ixN21, List.map_cons, List.map_nil, List.cons_append, List.nil_append, List.append_nil, List.length_cons, List.length_nil, List.replicate_succ, List.replicate_zero, Nat.add_one_sub_one, Jd8, Jbs, Jbx, Jby, Jbv, Jae, Jag, Jah, Jaf, Jb6, Jav, Jaw, Jak, Jau, Jb3, Jat, Jas, Jam, Jal, Jb1, Jai, Jaj, Jaz, Jb0, Jap, Jb2, Jaq, Jar, Jan, Jao, Jb5, Jb4, Ja7, Ja8, Jac, Jab, Ja0, Ja9, Jaa, Jbf, Jbg, Ja6, Jad, Jbc, Jbe, Jbd, Jb8, Ja2, Ja1, Ja4, Ja3, Jax, Jay, decide_true, decide_false, Bool.not_true, Bool.not_false, Bool.false_eq_true, if_true, if_false, true_and]
      refine ok_trimmed (ns := row) (by simp [sqD, ndL, hp2]) (by rw [l25]; decide) ?_
      unfold wp_law_rule_read_5
      simp only [Jbu, initE, Jcw, Jci, Jbk, Jbl, Jbz, Jcr, Jcs, Jc8, Jco, Jbm, Jcy, Jbn, Jbt, Jdb, Jdc, Jda, Jdd, Jdi, Jdf, Jdg, Jde, Jc3, Jcc, Jd5, Jd4, Jc9, Jcl, Jd3, Jd2, Jcf, Jbr, Jd1, Jck, Jbj, Jcn, Jc7, Jbi, Jcm, Jcj, Jd7, Jd6, Jd9, Jbo, Jch, Jcq, Jc1, Jcx, Jcg, Jbp, Jct, Jcz, Jdk, Jdl, Jcd, Jcu, Jcv, Jc6, Jbq, Jc0, Jbw, Jce, gt, st, Jbb, Jb9, Jba, Jb7, Jbh, Ja5, atI0, atI1, atI2, atI3, atI4, ixN20, ixN21, List.map_cons, List.map_nil, List.cons_append, List.nil_append, List.append_nil, List.length_cons, List.length_nil, List.replicate_succ, List.replicate_zero, Nat.add_one_sub_one, Jd8, Jbs, Jbx, Jby, Jbv, Jae, Jag, Jah, Jaf, Jb6, Jav, Jaw, Jak, Jau, Jb3, Jat, Jas, Jam, Jal, Jb1, Jai, Jaj, Jaz, Jb0, Jap, Jb2, Jaq, Jar, Jan, Jao, Jb5, Jb4, Ja7, Ja8, Jac, Jab, Ja0, Ja9, Jaa, Jbf, Jbg, Ja6, Jad, Jbc, Jbe, Jbd, Jb8, Ja2, Ja1, Ja4, Ja3, Jax, Jay, decide_true, decide_false, Bool.not_true, Bool.not_false, Bool.false_eq_true, if_true, if_false, true_and]
      refine ok_law_rule_page pg ?_
      refine eq_S (X := fun _ _ => False) _ t ?_
      have km := k μ' fun a ha => by rw [mo a (old a ha)]; exact up_ne (old a ha)
      rw [el] at km
      by_cases z : pageL (M.trim row) = t
      · rw [decide_eq_true z]
        simp only [Jbu, initE, Jcw, Jci, Jbk, Jbl, Jbz, Jcr, Jcs, Jc8, Jco, Jbm, Jcy, Jbn, Jbt, Jdb, Jdc, Jda, Jdd, Jdi, Jdf, Jdg, Jde, Jc3, Jcc, Jd5, Jd4, Jc9, Jcl, Jd3, Jd2, Jcf, Jbr, Jd1, Jck, Jbj, Jcn, Jc7, Jbi, Jcm, Jcj, Jd7, Jd6, Jd9, Jbo, Jch, Jcq, Jc1, Jcx, Jcg, Jbp, Jct, Jcz, Jdk, Jdl, Jcd, Jcu, Jcv, Jc6, Jbq, Jc0, Jbw, Jce, gt, st, Jbb, Jb9, Jba, Jb7, Jbh, Ja5, atI0, atI1, atI2, atI3, atI4, ixN20, ixN21, List.map_cons, List.map_nil, List.cons_append, List.nil_append, List.append_nil, List.length_cons, List.length_nil, List.replicate_succ, List.replicate_zero, Nat.add_one_sub_one, Jd8, Jbs, Jbx, Jby, Jbv, Jae, Jag, Jah, Jaf, Jb6, Jav, Jaw, Jak, Jau, Jb3, Jat, Jas, Jam, Jal, Jb1, Jai, Jaj, Jaz, Jb0, Jap, Jb2, Jaq, Jar, Jan, Jao, Jb5, Jb4, Ja7, Ja8, Jac, Jab, Ja0, Ja9, Jaa, Jbf, Jbg, Ja6, Jad, Jbc, Jbe, Jbd, Jb8, Ja2, Ja1, Ja4, Ja3, Jax, Jay, decide_true, decide_false, Bool.not_true, Bool.not_false, Bool.false_eq_true, if_true, if_false, true_and]
        rw [if_pos z] at km
        exact km
      · rw [decide_eq_false z]
        simp only [Jbu, initE, Jcw, Jci, Jbk, Jbl, Jbz, Jcr, Jcs, Jc8, Jco, Jbm, Jcy, Jbn, Jbt, Jdb, Jdc, Jda, Jdd, Jdi, Jdf, Jdg, Jde, Jc3, Jcc, Jd5, Jd4, Jc9, Jcl, Jd3, Jd2, Jcf, Jbr, Jd1, Jck, Jbj, Jcn, Jc7, Jbi, Jcm, Jcj, Jd7, Jd6, Jd9, Jbo, Jch, Jcq, Jc1, Jcx, Jcg, Jbp, Jct, Jcz, Jdk, Jdl, Jcd, Jcu, Jcv, Jc6, Jbq, Jc0, Jbw, Jce, gt, st, Jbb, Jb9, Jba, Jb7, Jbh, Ja5, atI0, atI1, atI2, atI3, atI4, ixN20, ixN21, List.map_cons, List.map_nil, List.cons_append, List.nil_append, List.append_nil, List.length_cons, List.length_nil, List.replicate_succ, List.replicate_zero, Nat.add_one_sub_one, Jd8, Jbs, Jbx, Jby, Jbv, Jae, Jag, Jah, Jaf, Jb6, Jav, Jaw, Jak, Jau, Jb3, Jat, Jas, Jam, Jal, Jb1, Jai, Jaj, Jaz, Jb0, Jap, Jb2, Jaq, Jar, Jan, Jao, Jb5, Jb4, Ja7, Ja8, Jac, Jab, Ja0, Ja9, Jaa, Jbf, Jbg, Ja6, Jad, Jbc, Jbe, Jbd, Jb8, Ja2, Ja1, Ja4, Ja3, Jax, Jay, decide_true, decide_false, Bool.not_true, Bool.not_false, Bool.false_eq_true, if_true, if_false, true_and]
        rw [if_neg z] at km
        exact km
    · have el : lawT t = none := by
        unfold lawT
        rw [es, hr]
      have km := k μ' fun a ha => by rw [mo a (old a ha)]; exact up_ne (old a ha)
      rw [el] at km
      exact km
  by_cases z : t.take 1 = [45]
  · rw [if_pos (decide_eq_true z)]
    refine sl_from (i := 1) (by omega) ?_
    simp only [Jbu, initE, Jcw, Jci, Jbk, Jbl, Jbz, Jcr, Jcs, Jc8, Jco, Jbm, Jcy, Jbn, Jbt, Jdb, Jdc, Jda, Jdd, Jdi, Jdf, Jdg, Jde, Jc3, Jcc, Jd5, Jd4, Jc9, Jcl, Jd3, Jd2, Jcf, Jbr, Jd1, Jck, Jbj, Jcn, Jc7, Jbi, Jcm, Jcj, Jd7, Jd6, Jd9, Jbo, Jch, Jcq, Jc1, Jcx, Jcg, Jbp, Jct, Jcz, Jdk, Jdl, Jcd, Jcu, Jcv, Jc6, Jbq, Jc0, Jbw, Jce, gt, st, Jbb, Jb9, Jba, Jb7, Jbh, Ja5, atI0, atI1, atI2, atI3, atI4, ixN20, ixN21, List.map_cons, List.map_nil, List.cons_append, List.nil_append, List.append_nil, List.length_cons, List.length_nil, List.replicate_succ, List.replicate_zero, Nat.add_one_sub_one, Jd8, Jbs, Jbx, Jby, Jbv, Jae, Jag, Jah, Jaf, Jb6, Jav, Jaw, Jak, Jau, Jb3, Jat, Jas, Jam, Jal, Jb1, Jai, Jaj, Jaz, Jb0, Jap, Jb2, Jaq, Jar, Jan, Jao, Jb5, Jb4, Ja7, Ja8, Jac, Jab, Ja0, Ja9, Jaa, Jbf, Jbg, Ja6, Jad, Jbc, Jbe, Jbd, Jb8, Ja2, Ja1, Ja4, Ja3, Jax, Jay, decide_true, decide_false, Bool.not_true, Bool.not_false, Bool.false_eq_true, if_true, if_false, true_and]
    exact go (t.drop 1) (-1) (by unfold wordsT; rw [if_pos z]) (by rw [List.length_drop]; omega) (by unfold sgnT; rw [if_pos z])
  · rw [if_neg (by rw [decide_eq_true_iff]; exact z)]
    exact go t 1 (by unfold wordsT; rw [if_neg z]) (Nat.le_refl _) (by unfold sgnT; rw [if_neg z])
end
end DL

set_option Elab.async false
set_option linter.all false
set_option maxRecDepth 100000
set_option maxHeartbeats 4000000
/-! X8: texts bent by the laws; a text judged by the laws. -/
namespace DL
open PySem L2
open SX (S)
def wp_law_bent_page : WP := (wDef 3 7 (wSeq (wPar 3 4 (waCons (wCall wp_law_take [] (waCons (wV 0) (waCons (wOp false oAdd (wCb false cbLen (waCons (wV 1) waNil)) (wK (.int 1))) waNil))) (waCons (wCall wp_law_take [] (waCons (wV 0) (waCons (wK (.int 6)) waNil))) waNil)))
    (wSeq (wIfS (wTst (wOp false oEq (wV 4) (wK (.int 0)))) (wRet (wOp false oAdd (wOp false oAdd (wSl false oSl (wV 1) woNone (woSome (wV 3))) (wCall wp_law_pick [] (waCons (wV 0) (waCons (wV 2) waNil)))) (wSl false oSl (wV 1) (woSome (wV 3)) woNone))) wNext)
    (wSeq (wIfS (wTst (wOp false oEq (wV 4) (wK (.int 1)))) (wRet (wOp false oAdd (wSl false oSl (wV 1) woNone (woSome (wV 3))) (wSl false oSl (wV 1) (woSome (wOp false oAdd (wV 3) (wK (.int 1)))) woNone))) wNext)
    (wSeq (wIfS (wTst (wOp false oEq (wV 4) (wK (.int 2)))) (wRet (wOp false oAdd (wOp false oAdd (wSl false oSl (wV 1) woNone (woSome (wV 3))) (wCall wp_law_pick [] (waCons (wV 0) (waCons (wV 2) waNil)))) (wSl false oSl (wV 1) (woSome (wOp false oAdd (wV 3) (wK (.int 1)))) woNone))) wNext)
    (wSeq (wIfS (wTst (wOp false oEq (wV 4) (wK (.int 3)))) (wSeq (wPar 5 6 (waCons (wSl false oSl (wV 1) woNone (woSome (wV 3))) (waCons (wSl false oSl (wV 1) (woSome (wV 3)) woNone) waNil)))
    (wRet (wOp false oAdd (wOp false oAdd (wOp false oAdd (wV 5) (wSl false oSl (wV 6) (woSome (wK (.int 1))) (woSome (wK (.int 2))))) (wSl false oSl (wV 6) woNone (woSome (wK (.int 1))))) (wSl false oSl (wV 6) (woSome (wK (.int 2))) woNone)))) wNext)
    (wRet (wIf (wTst (wOp false oEq (wV 4) (wK (.int 4)))) (wSl false oSl (wV 1) woNone (woSome (wV 3))) (wOp false oAdd (wV 1) (wCall wp_law_pick [] (waCons (wV 0) (waCons (wV 2) waNil))))))))))))
def sgs71 : List Tx := [[116], [94], [32], [45], [43], [48], [49], [50], [32, 43, 32], [32, 45, 32], [116, 94, 50], [120], [10], [116, 94], [49, 50]]
section
variable {μ : Mu} {Q X : QD} {QQ : QR} {w : Tx} {ws : List Tx}
/-- a plain text of at most n signs -/
structure Ag (n : Nat) (t : Tx) : Prop where
  a : Asc t
  l : t.length ≤ n
theorem Ag.app {n m k : Nat} {a b : Tx} (h : Ag n a) (h' : Ag m b) (hk : n + m ≤ k) : Ag k (a ++ b) := ⟨h.a.app h'.a, by rw [List.length_append]; have := h.l; have := h'.l; omega⟩
theorem Ag.up {n m : Nat} {a : Tx} (h : Ag n a) (hk : n ≤ m) : Ag m a := ⟨h.a, Nat.le_trans h.l hk⟩
theorem ag_sl {n : Nat} {lo hi : Option Int} (h : Ag n w) (hn : n ≤ 16000000) (q : ∀ v : Tx, Ag n v → QQ (.v (.str (S v))) μ) : oSl (.str (S w)) lo hi μ QQ X := str_slice (Nat.le_trans h.l hn) fun v hv hl => q v ⟨fun c hc => h.a c (hv c hc), Nat.le_trans hl h.l⟩
theorem ag_add {n m : Nat} {a b : Tx} (h : Ag n a) (h' : Ag m b) (hk : n + m ≤ 16000000) (q : Ag (n + m) (a ++ b) → QQ (.v (.str (S (a ++ b)))) μ) : oAdd (.str (S a)) (.str (S b)) μ QQ X := add_S (by have := h.l; have := h'.l; omega) (q (h.app h' (Nat.le_refl _)))
theorem pick_S {l : List Tx} (h0 : l ≠ []) (h1 : l.length ≤ 1000) (q : ∀ x ∈ l, Q (.str (S x)) μ) : wp_law_pick [.state, wD l] μ Q X := ok_pick (ds := l.map fun w => D.str (S w)) rfl (fun z => h0 (List.map_eq_nil_iff.mp z)) (by rw [List.length_map]; exact Nat.le_trans h1 (by decide)) fun x hx => by
  obtain ⟨y, hy, rfl⟩ := List.mem_map.mp hx
  exact q y hy
theorem sgs_ag : ∀ w ∈ sgs71, Ag 3 w := fun w hw => by
  have : sgs71.all (fun w => (w.all fun c => decide (c < 128)) && decide (w.length ≤ 3)) = true := by decide
  have := List.all_eq_true.mp this w hw
  rw [Bool.and_eq_true] at this
  exact ⟨asc_of this.1, of_decide_eq_true this.2⟩
theorem pick_sg (q : ∀ x, Ag 3 x → Q (.str (S x)) μ) : wp_law_pick [.state, wD sgs71] μ Q X := pick_S (by decide) (by decide) fun x hx => q x (sgs_ag x hx)
theorem take_b {m : Nat} (h0 : 0 < m) (h1 : m ≤ 20000000) (q : ∀ i : Nat, i < m → Q (.int (i : Int)) μ) : wp_law_take [.state, .int (m : Int)] μ Q X := ok_take (by omega) (by
  rw [Int.natAbs_natCast]
  exact Nat.lt_of_le_of_lt h1 (Nat.lt_of_lt_of_le (show 20000000 < 2 ^ 25 by decide) (Nat.pow_le_pow_right (by decide) (by decide)))) fun i h0 h1 => by
  obtain ⟨n, rfl⟩ := Int.eq_ofNat_of_zero_le h0
  exact q n (by omega)
theorem ok_bent_page {n : Nat} {t : Tx} (h : Ag n t) (hn : n ≤ 3000000) (k : ∀ u, Ag (4 * n + 3) u → Q (.str (S u)) μ) : wp_law_bent_page [.state, .str (S t), wD sgs71] μ Q X := by
  have hl := h.l
  unfold wp_law_bent_page
  simp only [Jbu, initE, Jcw, Jci, Jbk, Jbl, Jbz, Jcr, Jcs, Jc8, Jco, Jbm, Jcy, Jbn, Jbt, Jdb, Jdc, Jda, Jdd, Jdi, Jdf, Jdg, Jde, Jc3, Jcc, Jd5, Jd4, Jc9, Jcl, Jd3, Jd2, Jcf, Jbr, Jd1, Jck, Jbj, Jcn, Jc7, Jbi, Jcm, Jcj, Jd7, Jd6, Jd9, Jbo, Jch, Jcq, Jc1, Jcx, Jcg, Jbp, Jct, Jcz, Jdk, Jdl, Jcd, Jcu, Jcv, Jc6, Jbq, Jc0, Jbw, Jce, gt, st, Jbb, Jb9, Jba, Jb7, Jbh, Ja5, atI0, atI1, atI2, atI3, atI4, ixN20, ixN21, List.map_cons, List.map_nil, List.cons_append, List.nil_append, List.append_nil, List.length_cons, List.length_nil, List.replicate_succ, List.replicate_zero, Nat.add_one_sub_one, Jd8, Jbs, Jbx, Jby, Jbv, Jae, Jag, Jah, Jaf, Jb6, Jav, Jaw, Jak, Jau, Jb3, Jat, Jas, Jam, Jal, Jb1, Jai, Jaj, Jaz, Jb0, Jap, Jb2, Jaq, Jar, Jan, Jao, Jb5, Jb4, Ja7, Ja8, Jac, Jab, Ja0, Ja9, Jaa, Jbf, Jbg, Ja6, Jad, Jbc, Jbe, Jbd, Jb8, Ja2, Ja1, Ja4, Ja3, Jax, Jay, decide_true, decide_false, Bool.not_true, Bool.not_false, Bool.false_eq_true, if_true, if_false, true_and]
  refine len_S (by omega) ?_
  simp only [Jbu, initE, Jcw, Jci, Jbk, Jbl, Jbz, Jcr, Jcs, Jc8, Jco, Jbm, Jcy, Jbn, Jbt, Jdb, Jdc, Jda, Jdd, Jdi, Jdf, Jdg, Jde, Jc3, Jcc, Jd5, Jd4, Jc9, Jcl, Jd3, Jd2, Jcf, Jbr, Jd1, Jck, Jbj, Jcn, Jc7, Jbi, Jcm, Jcj, Jd7, Jd6, Jd9, Jbo, Jch, Jcq, Jc1, Jcx, Jcg, Jbp, Jct, Jcz, Jdk, Jdl, Jcd, Jcu, Jcv, Jc6, Jbq, Jc0, Jbw, Jce, gt, st, Jbb, Jb9, Jba, Jb7, Jbh, Ja5, atI0, atI1, atI2, atI3, atI4, ixN20, ixN21, List.map_cons, List.map_nil, List.cons_append, List.nil_append, List.append_nil, List.length_cons, List.length_nil, List.replicate_succ, List.replicate_zero, Nat.add_one_sub_one, Jd8, Jbs, Jbx, Jby, Jbv, Jae, Jag, Jah, Jaf, Jb6, Jav, Jaw, Jak, Jau, Jb3, Jat, Jas, Jam, Jal, Jb1, Jai, Jaj, Jaz, Jb0, Jap, Jb2, Jaq, Jar, Jan, Jao, Jb5, Jb4, Ja7, Ja8, Jac, Jab, Ja0, Ja9, Jaa, Jbf, Jbg, Ja6, Jad, Jbc, Jbe, Jbd, Jb8, Ja2, Ja1, Ja4, Ja3, Jax, Jay, decide_true, decide_false, Bool.not_true, Bool.not_false, Bool.false_eq_true, if_true, if_false, true_and]
  have e : ((t.length : Int) + 1) = ((t.length + 1 : Nat) : Int) := by omega
  rw [e]
  refine take_b (by omega) (by omega) fun i hi => ?_
  simp only [Jbu, initE, Jcw, Jci, Jbk, Jbl, Jbz, Jcr, Jcs, Jc8, Jco, Jbm, Jcy, Jbn, Jbt, Jdb, Jdc, Jda, Jdd, Jdi, Jdf, Jdg, Jde, Jc3, Jcc, Jd5, Jd4, Jc9, Jcl, Jd3, Jd2, Jcf, Jbr, Jd1, Jck, Jbj, Jcn, Jc7, Jbi, Jcm, Jcj, Jd7, Jd6, Jd9, Jbo, Jch, Jcq, Jc1, Jcx, Jcg, Jbp, Jct, Jcz, Jdk, Jdl, Jcd, Jcu, Jcv, Jc6, Jbq, Jc0, Jbw, Jce, gt, st, Jbb, Jb9, Jba, Jb7, Jbh, Ja5, atI0, atI1, atI2, atI3, atI4, ixN20, ixN21, List.map_cons, List.map_nil, List.cons_append, List.nil_append, List.append_nil, List.length_cons, List.length_nil, List.replicate_succ, List.replicate_zero, Nat.add_one_sub_one, Jd8, Jbs, Jbx, Jby, Jbv, Jae, Jag, Jah, Jaf, Jb6, Jav, Jaw, Jak, Jau, Jb3, Jat, Jas, Jam, Jal, Jb1, Jai, Jaj, Jaz, Jb0, Jap, Jb2, Jaq, Jar, Jan, Jao, Jb5, Jb4, Ja7, Ja8, Jac, Jab, Ja0, Ja9, Jaa, Jbf, Jbg, Ja6, Jad, Jbc, Jbe, Jbd, Jb8, Ja2, Ja1, Ja4, Ja3, Jax, Jay, decide_true, decide_false, Bool.not_true, Bool.not_false, Bool.false_eq_true, if_true, if_false, true_and]
  refine take_b (m := 6) (by decide) (by decide) fun j hj => ?_
  simp only [Jbu, initE, Jcw, Jci, Jbk, Jbl, Jbz, Jcr, Jcs, Jc8, Jco, Jbm, Jcy, Jbn, Jbt, Jdb, Jdc, Jda, Jdd, Jdi, Jdf, Jdg, Jde, Jc3, Jcc, Jd5, Jd4, Jc9, Jcl, Jd3, Jd2, Jcf, Jbr, Jd1, Jck, Jbj, Jcn, Jc7, Jbi, Jcm, Jcj, Jd7, Jd6, Jd9, Jbo, Jch, Jcq, Jc1, Jcx, Jcg, Jbp, Jct, Jcz, Jdk, Jdl, Jcd, Jcu, Jcv, Jc6, Jbq, Jc0, Jbw, Jce, gt, st, Jbb, Jb9, Jba, Jb7, Jbh, Ja5, atI0, atI1, atI2, atI3, atI4, ixN20, ixN21, List.map_cons, List.map_nil, List.cons_append, List.nil_append, List.append_nil, List.length_cons, List.length_nil, List.replicate_succ, List.replicate_zero, Nat.add_one_sub_one, Jd8, Jbs, Jbx, Jby, Jbv, Jae, Jag, Jah, Jaf, Jb6, Jav, Jaw, Jak, Jau, Jb3, Jat, Jas, Jam, Jal, Jb1, Jai, Jaj, Jaz, Jb0, Jap, Jb2, Jaq, Jar, Jan, Jao, Jb5, Jb4, Ja7, Ja8, Jac, Jab, Ja0, Ja9, Jaa, Jbf, Jbg, Ja6, Jad, Jbc, Jbe, Jbd, Jb8, Ja2, Ja1, Ja4, Ja3, Jax, Jay, decide_true, decide_false, Bool.not_true, Bool.not_false, Bool.false_eq_true, if_true, if_false, true_and]
  have go : ∀ {n' : Nat} {u : Tx}, Ag n' u → n' ≤ 4 * n + 3 → Q (.str (S u)) μ := fun hu hh => k _ (hu.up hh)
  by_cases j0 : j = 0
  · rw [if_pos (by rw [decide_eq_true_iff]; omega)]
    refine ag_sl (X := fun _ _ => False) h (by omega) fun a ha => ?_
    refine pick_sg fun b hb => ?_
    refine ag_add (X := fun _ _ => False) ha hb (by omega) fun hab => ?_
    refine ag_sl (X := fun _ _ => False) h (by omega) fun c hc => ?_
    exact ag_add (X := fun _ _ => False) hab hc (by omega) fun r => go r (by omega)
  · rw [if_neg (by rw [decide_eq_true_iff]; omega)]
    by_cases j1 : j = 1
    · rw [if_pos (by rw [decide_eq_true_iff]; omega)]
      refine ag_sl (X := fun _ _ => False) h (by omega) fun a ha => ?_
      simp only [Jbu, initE, Jcw, Jci, Jbk, Jbl, Jbz, Jcr, Jcs, Jc8, Jco, Jbm, Jcy, Jbn, Jbt, Jdb, Jdc, Jda, Jdd, Jdi, Jdf, Jdg, Jde, Jc3, Jcc, Jd5, Jd4, Jc9, Jcl, Jd3, Jd2, Jcf, Jbr, Jd1, Jck, Jbj, Jcn, Jc7, Jbi, Jcm, Jcj, Jd7, Jd6, Jd9, Jbo, Jch, Jcq, Jc1, Jcx, Jcg, Jbp, Jct, Jcz, Jdk, Jdl, Jcd, Jcu, Jcv, Jc6, Jbq, Jc0, Jbw, Jce, gt, st, Jbb, Jb9, Jba, Jb7, Jbh, Ja5, atI0, atI1, atI2, atI3, atI4, ixN20, ixN21, List.map_cons, List.map_nil, List.cons_append, List.nil_append, List.append_nil, List.length_cons, List.length_nil, List.replicate_succ, List.replicate_zero, Nat.add_one_sub_one, Jd8, Jbs, Jbx, Jby, Jbv, Jae, Jag, Jah, Jaf, Jb6, Jav, Jaw, Jak, Jau, Jb3, Jat, Jas, Jam, Jal, Jb1, Jai, Jaj, Jaz, Jb0, Jap, Jb2, Jaq, Jar, Jan, Jao, Jb5, Jb4, Ja7, Ja8, Jac, Jab, Ja0, Ja9, Jaa, Jbf, Jbg, Ja6, Jad, Jbc, Jbe, Jbd, Jb8, Ja2, Ja1, Ja4, Ja3, Jax, Jay, decide_true, decide_false, Bool.not_true, Bool.not_false, Bool.false_eq_true, if_true, if_false, true_and]
      refine ag_sl (X := fun _ _ => False) h (by omega) fun c hc => ?_
      exact ag_add (X := fun _ _ => False) ha hc (by omega) fun r => go r (by omega)
    · rw [if_neg (by rw [decide_eq_true_iff]; omega)]
      by_cases j2 : j = 2
      · rw [if_pos (by rw [decide_eq_true_iff]; omega)]
        refine ag_sl (X := fun _ _ => False) h (by omega) fun a ha => ?_
        refine pick_sg fun b hb => ?_
        refine ag_add (X := fun _ _ => False) ha hb (by omega) fun hab => ?_
        simp only [Jbu, initE, Jcw, Jci, Jbk, Jbl, Jbz, Jcr, Jcs, Jc8, Jco, Jbm, Jcy, Jbn, Jbt, Jdb, Jdc, Jda, Jdd, Jdi, Jdf, Jdg, Jde, Jc3, Jcc, Jd5, Jd4, Jc9, Jcl, Jd3, Jd2, Jcf, Jbr, Jd1, Jck, Jbj, Jcn, Jc7, Jbi, Jcm, Jcj, Jd7, Jd6, Jd9, Jbo, Jch, Jcq, Jc1, Jcx, Jcg, Jbp, Jct, Jcz, Jdk, Jdl, Jcd, Jcu, Jcv, Jc6, Jbq, Jc0, Jbw, Jce, gt, st, Jbb, Jb9, Jba, Jb7, Jbh, Ja5, atI0, atI1, atI2, atI3, atI4, ixN20, ixN21, List.map_cons, List.map_nil, List.cons_append, List.nil_append, List.append_nil, List.length_cons, List.length_nil, List.replicate_succ, List.replicate_zero, Nat.add_one_sub_one, Jd8, Jbs, Jbx, Jby, Jbv, Jae, Jag, Jah, Jaf, Jb6, Jav, Jaw, Jak, Jau, Jb3, Jat, Jas, Jam, Jal, Jb1, Jai, Jaj, Jaz, Jb0, Jap, Jb2, Jaq, Jar, Jan, Jao, Jb5, Jb4, Ja7, Ja8, Jac, Jab, Ja0, Ja9, Jaa, Jbf, Jbg, Ja6, Jad, Jbc, Jbe, Jbd, Jb8, Ja2, Ja1, Ja4, Ja3, Jax, Jay, decide_true, decide_false, Bool.not_true, Bool.not_false, Bool.false_eq_true, if_true, if_false, true_and]
        refine ag_sl (X := fun _ _ => False) h (by omega) fun c hc => ?_
        exact ag_add (X := fun _ _ => False) hab hc (by omega) fun r => go r (by omega)
      · rw [if_neg (by rw [decide_eq_true_iff]; omega)]
        by_cases j3 : j = 3
        · rw [if_pos (by rw [decide_eq_true_iff]; omega)]
          refine ag_sl (X := fun _ _ => False) h (by omega) fun a ha => ?_
          refine ag_sl (X := fun _ _ => False) h (by omega) fun b hb => ?_
          simp only [Jbu, initE, Jcw, Jci, Jbk, Jbl, Jbz, Jcr, Jcs, Jc8, Jco, Jbm, Jcy, Jbn, Jbt, Jdb, Jdc, Jda, Jdd, Jdi, Jdf, Jdg, Jde, Jc3, Jcc, Jd5, Jd4, Jc9, Jcl, Jd3, Jd2, Jcf, Jbr, Jd1, Jck, Jbj, Jcn, Jc7, Jbi, Jcm, Jcj, Jd7, Jd6, Jd9, Jbo, Jch, Jcq, Jc1, Jcx, Jcg, Jbp, Jct, Jcz, Jdk, Jdl, Jcd, Jcu, Jcv, Jc6, Jbq, Jc0, Jbw, Jce, gt, st, Jbb, Jb9, Jba, Jb7, Jbh, Ja5, atI0, atI1, atI2, atI3, atI4, ixN20, ixN21, List.map_cons, List.map_nil, List.cons_append, List.nil_append, List.append_nil, List.length_cons, List.length_nil, List.replicate_succ, List.replicate_zero, Nat.add_one_sub_one, Jd8, Jbs, Jbx, Jby, Jbv, Jae, Jag, Jah, Jaf, Jb6, Jav, Jaw, Jak, Jau, Jb3, Jat, Jas, Jam, Jal, Jb1, Jai, Jaj, Jaz, Jb0, Jap, Jb2, Jaq, Jar, Jan, Jao, Jb5, Jb4, Ja7, Ja8, Jac, Jab, Ja0, Ja9, Jaa, Jbf, Jbg, Ja6, Jad, Jbc, Jbe, Jbd, Jb8, Ja2, Ja1, Ja4, Ja3, Jax, Jay, decide_true, decide_false, Bool.not_true, Bool.not_false, Bool.false_eq_true, if_true, if_false, true_and]
          refine ag_sl (X := fun _ _ => False) hb (by omega) fun c hc => ?_
          refine ag_add (X := fun _ _ => False) ha hc (by omega) fun hac => ?_
          refine ag_sl (X := fun _ _ => False) hb (by omega) fun d hd => ?_
          refine ag_add (X := fun _ _ => False) hac hd (by omega) fun had => ?_
          refine ag_sl (X := fun _ _ => False) hb (by omega) fun e he => ?_
          exact ag_add (X := fun _ _ => False) had he (by omega) fun r => go r (by omega)
        · rw [if_neg (by rw [decide_eq_true_iff]; omega)]
          by_cases j4 : j = 4
          · rw [if_pos (by rw [decide_eq_true_iff]; omega)]
            exact ag_sl (X := fun _ _ => False) h (by omega) fun a ha => go ha (by omega)
          · rw [if_neg (by rw [decide_eq_true_iff]; omega)]
            refine pick_sg fun b hb => ?_
            exact ag_add (X := fun _ _ => False) h hb (by omega) fun r => go r (by omega)
end
end DL

set_option Elab.async false
set_option linter.all false
set_option maxRecDepth 100000
set_option maxHeartbeats 4000000
/-! X9: a text judged by the laws. -/
namespace DL
open PySem L2
open SX (S)
def wp_law_right_0 : WS := (wAsgG (wgTup 2 (wgCons (wgN 1) (wgCons (wgN 2) wgNil))) (wTup (waCons (wCall wp_law_rule_read [] (waCons (wV 0) waNil)) (waCons (wLst true waNil) waNil))))
def wp_law_right_1 : WS := (wAsg 3 (wLst true (waCons (wCaught ["CrossError", "BadRule", "BadPower", "BadProgram", "BadText"] (wLm false mApp (wV 2) (waCons (wCall wp_read_rule [] (waCons (wV 0) waNil)) waNil))) waNil)))
def wp_law_right_2 : WS := (wDrop (wLm false mApp (wV 3) (waCons (wCaught ["CrossError", "BadRule", "BadPower", "BadProgram", "BadText"] (wLm false mApp (wV 2) (waCons (wCall wp_read_rule [] (waPerm [0] (waCons (wV 0) waNil))) waNil))) waNil)))
def wp_law_right_3 : WS := (wIfS (wTst (wOp false oIsN (wV 1) (wK .none))) (wSeq (wAsg 4 (wLc false (wiSeq (wV 3)) (wgN 5) (wOrT (wNotT (wTst (wCb false cbIsi (waCons (wV 5) (waCons (wK (.cls "BadText")) waNil))))) (wTst (wCb false cbIsi (waCons (wV 5) (waCons (wK (.cls "BadProgram")) waNil))))) (wV 5) [5]))
    (wFz 2 (wFz 3 (wRet (wAnd (wOp false oEq (wV 4) (wLst false waNil)) (wAnd (wOp false oEq (wLc false (wiSeq (wV 3)) (wgN 5) wYes (wErrF "line" (wV 5)) [5]) (wLst false (waCons (wK (.int 0)) (waCons (wK (.int 0)) waNil)))) (wOp false oEq (wV 2) (wLst false waNil)))))))) wNext)
def wp_law_right_4 : WS := (wFz 2 (wFz 3 (wRet (wAnd (wOp false oEq (wV 3) (wLst false (waCons (wK .none) (waCons (wK .none) waNil)))) (wOp false oEq (wLc false (wiSeq (wV 2)) (wgN 6) wYes (wCb false cbList (waCons (wProp "Rule" "coefficients" wp_Rule_coefficients (wV 6)) waNil)) [6]) (wLst false (waCons (wV 1) (waCons (wV 1) waNil))))))))
def wp_law_right : WP := wDef 1 7 (wSeq wp_law_right_0 (wSeq wp_law_right_1 (wSeq wp_law_right_2 (wSeq wp_law_right_3 wp_law_right_4))))
abbrev eJ (t : Tx) (d : D) (p1 p : Addr) (x4 x5 x6 : Option D) : EnvD := [some (.str (S t)), some d, some (.cell p1), some (.cell p), x4, x5, x6]
abbrev btD : D := .err "BadText" ["line"] [.int 0]
section
variable {μ : Mu} {Q X : QD} {QQ : QR} {w : Tx} {ws : List Tx} {E : WEnds} {t : Tx} {d : D} {p p1 : Addr} {x4 x5 x6 : Option D} {r : List Int}
theorem app_c {l : List D} {x : D} (hp : μ p = some (.list l)) (hl : l.length ≤ 10000) (k : QQ (.v .none) (up μ p (.list (l ++ [x])))) : mApp (.cell p) [x] μ QQ X := by
  simp only [mApp, lstC, hp, ndL, one]
  exact ⟨by rw [sizeLine_eq]; omega, k⟩
theorem isL_c {l : List D} (hp : μ p = some (.list l)) : isL μ (.cell p) := by simp [isL, seqL, hp, ndL]
theorem sh_two (ns : List Int) : SeqAt.shaped (pd (.list [.list (iL ns), .list (iL ns)])) = true := by
  have h := shaped_ints ns
  unfold SeqAt.shaped at h
  rw [Bool.and_eq_true] at h
  have e : PyData.depth (pd (.list (iL ns))) = 1 := by
    rw [pd]
    unfold iL
    rw [pds_ints, PyData.depth, depth_ints]
  rw [pd, pds, pds, pds]
  unfold SeqAt.shaped
  have c : PyData.canLay0 (.list [pd (.list (iL ns)), pd (.list (iL ns))]) = true := by
    show (PyData.canLay0 (pd (.list (iL ns))) && (PyData.canLay0 (pd (.list (iL ns))) && true)) = true
    rw [h.1]
    rfl
  rw [c, PyData.depth, PyData.depthAll, PyData.depthAll, PyData.depthAll, e]
  decide
theorem same_l {xs : List D} (hp : plainsD xs = true) (sh : SeqAt.shaped (pd (.list xs)) = true) (q : QQ (.v (.bool true)) μ) : oEq (.list xs) (.list xs) μ QQ X := by
  show eqG (.list xs) (.list xs) fun b => QQ (.v (.bool b)) μ
  refine ⟨⟨hp, hp, sh, sh⟩, ?_⟩
  show QQ (.v (.bool (PyData.eqv (pd (.list xs)) (pd (.list xs))))) μ
  rw [PySem.SeqAt.eqv_refl _ (SeqAt.canLay_of_shaped sh)]
  exact q
theorem r1_some (hl : t.length ≤ 500000) (er : ruleT t = some r) (hp1 : μ p1 = some (.list [])) (k : ∀ μ' p, p ≠ p1 → (∀ a, a ≠ p1 → μ a ≠ Option.none → μ' a = μ a) → μ' p1 = some (.list [ruleD r]) → μ' p = some (.list [.none]) → E.nx (eJ t d p1 p x4 x5 x6) μ') : wp_law_right_1 [some (.str (S t)), some d, some (.cell p1), none, x4, x5, x6] μ E := by
  unfold wp_law_right_1
  simp only [Jbu, initE, Jcw, Jci, Jbk, Jbl, Jbz, Jcr, Jcs, Jc8, Jco, Jbm, Jcy, Jbn, Jbt, Jdb, Jdc, Jda, Jdd, Jdi, Jdf, Jdg, Jde, Jc3, Jcc, Jd5, Jd4, Jc9, Jcl, Jd3, Jd2, Jcf, Jbr, Jd1, Jck, Jbj, Jcn, Jc7, Jbi, Jcm, Jcj, Jd7, Jd6, Jd9, Jbo, Jch, Jcq, Jc1, Jcx, Jcg, Jbp, Jct, Jcz, Jdk, Jdl, Jcd, Jcu, Jcv, Jc6, Jbq, Jc0, Jbw, Jce, gt, st, Jbb, Jb9, Jba, Jb7, Jbh, Ja5, atI0, atI1, atI2, atI3, atI4, ixN20, ixN21, List.map_cons, List.map_nil, List.cons_append, List.nil_append, List.append_nil, List.length_cons, List.length_nil, List.replicate_succ, List.replicate_zero, Nat.add_one_sub_one, Jd8, Jbs, Jbx, Jby, Jbv, Jae, Jag, Jah, Jaf, Jb6, Jav, Jaw, Jak, Jau, Jb3, Jat, Jas, Jam, Jal, Jb1, Jai, Jaj, Jaz, Jb0, Jap, Jb2, Jaq, Jar, Jan, Jao, Jb5, Jb4, Ja7, Ja8, Jac, Jab, Ja0, Ja9, Jaa, Jbf, Jbg, Ja6, Jad, Jbc, Jbe, Jbd, Jb8, Ja2, Ja1, Ja4, Ja3, Jax, Jay, decide_true, decide_false, Bool.not_true, Bool.not_false, Bool.false_eq_true, if_true, if_false, true_and, Jbq]
  refine ⟨isL_c hp1, ok_read_rule hl (fun r' er' μ2 m2 => ?_) fun en => by rw [er] at en; cases en⟩
  rw [er] at er'
  cases er'
  have h2 : μ2 p1 = some (.list []) := by rw [m2 p1 (by rw [hp1]; simp), hp1]
  refine app_c h2 (Nat.zero_le _) ?_
  refine ⟨by rw [sizeLine_eq]; decide, fun p hp => ?_⟩
  have pp : p ≠ p1 := fun z => by rw [z, up_same] at hp; cases hp
  refine k _ p pp (fun a ha ho => ?_) (by rw [up_ne (fun z => pp z.symm), up_same]; rfl) up_same
  have ap : a ≠ p := fun z => by
    rw [← z, up_ne ha, m2 a ho] at hp
    exact ho hp
  rw [up_ne ap, up_ne ha, m2 a ho]
theorem r1_none (hl : t.length ≤ 500000) (er : ruleT t = none) (hp1 : μ p1 = some (.list [])) (k : ∀ μ' p, p ≠ p1 → (∀ a, a ≠ p1 → μ a ≠ Option.none → μ' a = μ a) → μ' p1 = some (.list []) → μ' p = some (.list [btD]) → E.nx (eJ t d p1 p x4 x5 x6) μ') : wp_law_right_1 [some (.str (S t)), some d, some (.cell p1), none, x4, x5, x6] μ E := by
  unfold wp_law_right_1
  simp only [Jbu, initE, Jcw, Jci, Jbk, Jbl, Jbz, Jcr, Jcs, Jc8, Jco, Jbm, Jcy, Jbn, Jbt, Jdb, Jdc, Jda, Jdd, Jdi, Jdf, Jdg, Jde, Jc3, Jcc, Jd5, Jd4, Jc9, Jcl, Jd3, Jd2, Jcf, Jbr, Jd1, Jck, Jbj, Jcn, Jc7, Jbi, Jcm, Jcj, Jd7, Jd6, Jd9, Jbo, Jch, Jcq, Jc1, Jcx, Jcg, Jbp, Jct, Jcz, Jdk, Jdl, Jcd, Jcu, Jcv, Jc6, Jbq, Jc0, Jbw, Jce, gt, st, Jbb, Jb9, Jba, Jb7, Jbh, Ja5, atI0, atI1, atI2, atI3, atI4, ixN20, ixN21, List.map_cons, List.map_nil, List.cons_append, List.nil_append, List.append_nil, List.length_cons, List.length_nil, List.replicate_succ, List.replicate_zero, Nat.add_one_sub_one, Jd8, Jbs, Jbx, Jby, Jbv, Jae, Jag, Jah, Jaf, Jb6, Jav, Jaw, Jak, Jau, Jb3, Jat, Jas, Jam, Jal, Jb1, Jai, Jaj, Jaz, Jb0, Jap, Jb2, Jaq, Jar, Jan, Jao, Jb5, Jb4, Ja7, Ja8, Jac, Jab, Ja0, Ja9, Jaa, Jbf, Jbg, Ja6, Jad, Jbc, Jbe, Jbd, Jb8, Ja2, Ja1, Ja4, Ja3, Jax, Jay, decide_true, decide_false, Bool.not_true, Bool.not_false, Bool.false_eq_true, if_true, if_false, true_and, Jbq]
  refine ⟨isL_c hp1, ok_read_rule hl (fun r' er' => by rw [er] at er'; cases er') fun _ μ2 m2 => ?_⟩
  have h2 : μ2 p1 = some (.list []) := by rw [m2 p1 (by rw [hp1]; simp), hp1]
  refine ⟨by decide, by rw [sizeLine_eq]; decide, fun p hp => ?_⟩
  have pp : p ≠ p1 := fun z => by rw [z, h2] at hp; cases hp
  refine k _ p pp (fun a ha ho => ?_) (by rw [up_ne (fun z => pp z.symm), h2]) up_same
  have ap : a ≠ p := fun z => by
    rw [← z, m2 a ho] at hp
    exact ho hp
  rw [up_ne ap, m2 a ho]
theorem r2_some (hl : t.length ≤ 500000) (er : ruleT t = some r) (pp : p ≠ p1) (hp1 : μ p1 = some (.list [ruleD r])) (hp : μ p = some (.list [.none])) (k : ∀ μ', (∀ a, a ≠ p1 → a ≠ p → μ a ≠ Option.none → μ' a = μ a) → μ' p1 = some (.list [ruleD r, ruleD r]) → μ' p = some (.list [.none, .none]) → E.nx (eJ t d p1 p x4 x5 x6) μ') : wp_law_right_2 (eJ t d p1 p x4 x5 x6) μ E := by
  unfold wp_law_right_2
  simp only [Jbu, initE, Jcw, Jci, Jbk, Jbl, Jbz, Jcr, Jcs, Jc8, Jco, Jbm, Jcy, Jbn, Jbt, Jdb, Jdc, Jda, Jdd, Jdi, Jdf, Jdg, Jde, Jc3, Jcc, Jd5, Jd4, Jc9, Jcl, Jd3, Jd2, Jcf, Jbr, Jd1, Jck, Jbj, Jcn, Jc7, Jbi, Jcm, Jcj, Jd7, Jd6, Jd9, Jbo, Jch, Jcq, Jc1, Jcx, Jcg, Jbp, Jct, Jcz, Jdk, Jdl, Jcd, Jcu, Jcv, Jc6, Jbq, Jc0, Jbw, Jce, gt, st, Jbb, Jb9, Jba, Jb7, Jbh, Ja5, atI0, atI1, atI2, atI3, atI4, ixN20, ixN21, List.map_cons, List.map_nil, List.cons_append, List.nil_append, List.append_nil, List.length_cons, List.length_nil, List.replicate_succ, List.replicate_zero, Nat.add_one_sub_one, Jd8, Jbs, Jbx, Jby, Jbv, Jae, Jag, Jah, Jaf, Jb6, Jav, Jaw, Jak, Jau, Jb3, Jat, Jas, Jam, Jal, Jb1, Jai, Jaj, Jaz, Jb0, Jap, Jb2, Jaq, Jar, Jan, Jao, Jb5, Jb4, Ja7, Ja8, Jac, Jab, Ja0, Ja9, Jaa, Jbf, Jbg, Ja6, Jad, Jbc, Jbe, Jbd, Jb8, Ja2, Ja1, Ja4, Ja3, Jax, Jay, decide_true, decide_false, Bool.not_true, Bool.not_false, Bool.false_eq_true, if_true, if_false, true_and, Jbq]
  refine ⟨isL_c hp, isL_c hp1, ok_read_rule hl (fun r' er' μ2 m2 => ?_) fun en => by rw [er] at en; cases en⟩
  rw [er] at er'
  cases er'
  have h1 : μ2 p1 = some (.list [ruleD r]) := by rw [m2 p1 (by rw [hp1]; simp), hp1]
  have h2 : (up μ2 p1 (.list ([ruleD r] ++ [ruleD r]))) p = some (.list [.none]) := by rw [up_ne pp, m2 p (by rw [hp]; simp), hp]
  refine app_c h1 (Nat.le_add_left _ _) ?_
  refine app_c (X := fun _ _ => False) h2 (Nat.le_add_left _ _) ?_
  refine k _ (fun a h1 h2 ho => ?_) (by rw [up_ne (fun z => pp z.symm), up_same]; rfl) up_same
  rw [up_ne h2, up_ne h1, m2 a ho]
theorem r2_none (hl : t.length ≤ 500000) (er : ruleT t = none) (pp : p ≠ p1) (hp1 : μ p1 = some (.list [])) (hp : μ p = some (.list [btD])) (k : ∀ μ', (∀ a, a ≠ p1 → a ≠ p → μ a ≠ Option.none → μ' a = μ a) → μ' p1 = some (.list []) → μ' p = some (.list [btD, btD]) → E.nx (eJ t d p1 p x4 x5 x6) μ') : wp_law_right_2 (eJ t d p1 p x4 x5 x6) μ E := by
  unfold wp_law_right_2
  simp only [Jbu, initE, Jcw, Jci, Jbk, Jbl, Jbz, Jcr, Jcs, Jc8, Jco, Jbm, Jcy, Jbn, Jbt, Jdb, Jdc, Jda, Jdd, Jdi, Jdf, Jdg, Jde, Jc3, Jcc, Jd5, Jd4, Jc9, Jcl, Jd3, Jd2, Jcf, Jbr, Jd1, Jck, Jbj, Jcn, Jc7, Jbi, Jcm, Jcj, Jd7, Jd6, Jd9, Jbo, Jch, Jcq, Jc1, Jcx, Jcg, Jbp, Jct, Jcz, Jdk, Jdl, Jcd, Jcu, Jcv, Jc6, Jbq, Jc0, Jbw, Jce, gt, st, Jbb, Jb9, Jba, Jb7, Jbh, Ja5, atI0, atI1, atI2, atI3, atI4, ixN20, ixN21, List.map_cons, List.map_nil, List.cons_append, List.nil_append, List.append_nil, List.length_cons, List.length_nil, List.replicate_succ, List.replicate_zero, Nat.add_one_sub_one, Jd8, Jbs, Jbx, Jby, Jbv, Jae, Jag, Jah, Jaf, Jb6, Jav, Jaw, Jak, Jau, Jb3, Jat, Jas, Jam, Jal, Jb1, Jai, Jaj, Jaz, Jb0, Jap, Jb2, Jaq, Jar, Jan, Jao, Jb5, Jb4, Ja7, Ja8, Jac, Jab, Ja0, Ja9, Jaa, Jbf, Jbg, Ja6, Jad, Jbc, Jbe, Jbd, Jb8, Ja2, Ja1, Ja4, Ja3, Jax, Jay, decide_true, decide_false, Bool.not_true, Bool.not_false, Bool.false_eq_true, if_true, if_false, true_and, Jbq]
  refine ⟨isL_c hp, isL_c hp1, ok_read_rule hl (fun r' er' => by rw [er] at er'; cases er') fun _ μ2 m2 => ?_⟩
  have h1 : μ2 p1 = some (.list []) := by rw [m2 p1 (by rw [hp1]; simp), hp1]
  have h2 : μ2 p = some (.list [btD]) := by rw [m2 p (by rw [hp]; simp), hp]
  refine ⟨by decide, app_c h2 (Nat.le_add_left _ _) ?_⟩
  refine k _ (fun a h1 h2 ho => ?_) (by rw [up_ne (fun z => pp z.symm), h1]) up_same
  rw [up_ne h2, m2 a ho]
theorem r3_some (q : wp_law_right_4 (eJ t (optL (some r)) p1 p x4 x5 x6) μ E) : wp_law_right_3 (eJ t (optL (some r)) p1 p x4 x5 x6) μ { nx := fun e μ => wp_law_right_4 e μ E, rt := E.rt, bk := E.bk, ct := E.ct, xp := E.xp } := by
  unfold wp_law_right_3
  simp only [Jbu, initE, Jcw, Jci, Jbk, Jbl, Jbz, Jcr, Jcs, Jc8, Jco, Jbm, Jcy, Jbn, Jbt, Jdb, Jdc, Jda, Jdd, Jdi, Jdf, Jdg, Jde, Jc3, Jcc, Jd5, Jd4, Jc9, Jcl, Jd3, Jd2, Jcf, Jbr, Jd1, Jck, Jbj, Jcn, Jc7, Jbi, Jcm, Jcj, Jd7, Jd6, Jd9, Jbo, Jch, Jcq, Jc1, Jcx, Jcg, Jbp, Jct, Jcz, Jdk, Jdl, Jcd, Jcu, Jcv, Jc6, Jbq, Jc0, Jbw, Jce, gt, st, Jbb, Jb9, Jba, Jb7, Jbh, Ja5, atI0, atI1, atI2, atI3, atI4, ixN20, ixN21, List.map_cons, List.map_nil, List.cons_append, List.nil_append, List.append_nil, List.length_cons, List.length_nil, List.replicate_succ, List.replicate_zero, Nat.add_one_sub_one, Jd8, Jbs, Jbx, Jby, Jbv, Jae, Jag, Jah, Jaf, Jb6, Jav, Jaw, Jak, Jau, Jb3, Jat, Jas, Jam, Jal, Jb1, Jai, Jaj, Jaz, Jb0, Jap, Jb2, Jaq, Jar, Jan, Jao, Jb5, Jb4, Ja7, Ja8, Jac, Jab, Ja0, Ja9, Jaa, Jbf, Jbg, Ja6, Jad, Jbc, Jbe, Jbd, Jb8, Ja2, Ja1, Ja4, Ja3, Jax, Jay, decide_true, decide_false, Bool.not_true, Bool.not_false, Bool.false_eq_true, if_true, if_false, true_and]
  have e : isNone (optL (some r)) = false := rfl
  rw [e]
  exact q
theorem r4_ok (pp : p ≠ p1) (hp1 : μ p1 = some (.list [ruleD r, ruleD r])) (hp : μ p = some (.list [.none, .none])) (k : ∀ μ', (∀ a, a ≠ p1 → a ≠ p → μ' a = μ a) → E.rt (.bool true) μ') : wp_law_right_4 (eJ t (optL (some r)) p1 p x4 x5 x6) μ E := by
  unfold wp_law_right_4
  simp only [Jbu, initE, Jcw, Jci, Jbk, Jbl, Jbz, Jcr, Jcs, Jc8, Jco, Jbm, Jcy, Jbn, Jbt, Jdb, Jdc, Jda, Jdd, Jdi, Jdf, Jdg, Jde, Jc3, Jcc, Jd5, Jd4, Jc9, Jcl, Jd3, Jd2, Jcf, Jbr, Jd1, Jck, Jbj, Jcn, Jc7, Jbi, Jcm, Jcj, Jd7, Jd6, Jd9, Jbo, Jch, Jcq, Jc1, Jcx, Jcg, Jbp, Jct, Jcz, Jdk, Jdl, Jcd, Jcu, Jcv, Jc6, Jbq, Jc0, Jbw, Jce, gt, st, Jbb, Jb9, Jba, Jb7, Jbh, Ja5, atI0, atI1, atI2, atI3, atI4, ixN20, ixN21, List.map_cons, List.map_nil, List.cons_append, List.nil_append, List.append_nil, List.length_cons, List.length_nil, List.replicate_succ, List.replicate_zero, Nat.add_one_sub_one, Jd8, Jbs, Jbx, Jby, Jbv, Jae, Jag, Jah, Jaf, Jb6, Jav, Jaw, Jak, Jau, Jb3, Jat, Jas, Jam, Jal, Jb1, Jai, Jaj, Jaz, Jb0, Jap, Jb2, Jaq, Jar, Jan, Jao, Jb5, Jb4, Ja7, Ja8, Jac, Jab, Ja0, Ja9, Jaa, Jbf, Jbg, Ja6, Jad, Jbc, Jbe, Jbd, Jb8, Ja2, Ja1, Ja4, Ja3, Jax, Jay, decide_true, decide_false, Bool.not_true, Bool.not_false, Bool.false_eq_true, if_true, if_false, true_and]
  have e1 : del μ p1 p = some (.list [.none, .none]) := by rw [del_ne pp, hp]
  rw [hp1]
  dsimp only
  rw [e1]
  dsimp only
  refine ⟨by rw [sizeLine_eq]; decide, ?_⟩
  have n2 : SeqAt.shaped (pd (.list [.none, .none])) = true := by decide +kernel
  refine same_l (xs := [.none, .none]) (X := fun _ _ => False) rfl n2 ?_
  simp only [Jbu, initE, Jcw, Jci, Jbk, Jbl, Jbz, Jcr, Jcs, Jc8, Jco, Jbm, Jcy, Jbn, Jbt, Jdb, Jdc, Jda, Jdd, Jdi, Jdf, Jdg, Jde, Jc3, Jcc, Jd5, Jd4, Jc9, Jcl, Jd3, Jd2, Jcf, Jbr, Jd1, Jck, Jbj, Jcn, Jc7, Jbi, Jcm, Jcj, Jd7, Jd6, Jd9, Jbo, Jch, Jcq, Jc1, Jcx, Jcg, Jbp, Jct, Jcz, Jdk, Jdl, Jcd, Jcu, Jcv, Jc6, Jbq, Jc0, Jbw, Jce, gt, st, Jbb, Jb9, Jba, Jb7, Jbh, Ja5, atI0, atI1, atI2, atI3, atI4, ixN20, ixN21, List.map_cons, List.map_nil, List.cons_append, List.nil_append, List.append_nil, List.length_cons, List.length_nil, List.replicate_succ, List.replicate_zero, Nat.add_one_sub_one, Jd8, Jbs, Jbx, Jby, Jbv, Jae, Jag, Jah, Jaf, Jb6, Jav, Jaw, Jak, Jau, Jb3, Jat, Jas, Jam, Jal, Jb1, Jai, Jaj, Jaz, Jb0, Jap, Jb2, Jaq, Jar, Jan, Jao, Jb5, Jb4, Ja7, Ja8, Jac, Jab, Ja0, Ja9, Jaa, Jbf, Jbg, Ja6, Jad, Jbc, Jbe, Jbd, Jb8, Ja2, Ja1, Ja4, Ja3, Jax, Jay, decide_true, decide_false, Bool.not_true, Bool.not_false, Bool.false_eq_true, if_true, if_false, true_and]
  have fz : sqD (del (del μ p1) p) (Nd.list [ruleD r, ruleD r]).frz = some [ruleD r, ruleD r] := rfl
  refine ⟨by rw [sizeLine_eq]; decide, ?_⟩
  have o_rule : ∀ μ3, asObj μ3 (ruleD r) = some (("Rule" : Str), ([("own_numbers" : Str)] : List Str), [D.tup (iL r)]) := fun _ => rfl
  refine ⟨trivial, ?_⟩
  simp only [Jbu, initE, Jcw, Jci, Jbk, Jbl, Jbz, Jcr, Jcs, Jc8, Jco, Jbm, Jcy, Jbn, Jbt, Jdb, Jdc, Jda, Jdd, Jdi, Jdf, Jdg, Jde, Jc3, Jcc, Jd5, Jd4, Jc9, Jcl, Jd3, Jd2, Jcf, Jbr, Jd1, Jck, Jbj, Jcn, Jc7, Jbi, Jcm, Jcj, Jd7, Jd6, Jd9, Jbo, Jch, Jcq, Jc1, Jcx, Jcg, Jbp, Jct, Jcz, Jdk, Jdl, Jcd, Jcu, Jcv, Jc6, Jbq, Jc0, Jbw, Jce, gt, st, Jbb, Jb9, Jba, Jb7, Jbh, Ja5, atI0, atI1, atI2, atI3, atI4, ixN20, ixN21, List.map_cons, List.map_nil, List.cons_append, List.nil_append, List.append_nil, List.length_cons, List.length_nil, List.replicate_succ, List.replicate_zero, Nat.add_one_sub_one, Jd8, Jbs, Jbx, Jby, Jbv, Jae, Jag, Jah, Jaf, Jb6, Jav, Jaw, Jak, Jau, Jb3, Jat, Jas, Jam, Jal, Jb1, Jai, Jaj, Jaz, Jb0, Jap, Jb2, Jaq, Jar, Jan, Jao, Jb5, Jb4, Ja7, Ja8, Jac, Jab, Ja0, Ja9, Jaa, Jbf, Jbg, Ja6, Jad, Jbc, Jbe, Jbd, Jb8, Ja2, Ja1, Ja4, Ja3, Jax, Jay, decide_true, decide_false, Bool.not_true, Bool.not_false, Bool.false_eq_true, if_true, if_false, true_and, wipeE, isOf, o_rule]
  refine ⟨by decide, ok_Rule_coefficients ?_⟩
  simp only [Jbu, initE, Jcw, Jci, Jbk, Jbl, Jbz, Jcr, Jcs, Jc8, Jco, Jbm, Jcy, Jbn, Jbt, Jdb, Jdc, Jda, Jdd, Jdi, Jdf, Jdg, Jde, Jc3, Jcc, Jd5, Jd4, Jc9, Jcl, Jd3, Jd2, Jcf, Jbr, Jd1, Jck, Jbj, Jcn, Jc7, Jbi, Jcm, Jcj, Jd7, Jd6, Jd9, Jbo, Jch, Jcq, Jc1, Jcx, Jcg, Jbp, Jct, Jcz, Jdk, Jdl, Jcd, Jcu, Jcv, Jc6, Jbq, Jc0, Jbw, Jce, gt, st, Jbb, Jb9, Jba, Jb7, Jbh, Ja5, atI0, atI1, atI2, atI3, atI4, ixN20, ixN21, List.map_cons, List.map_nil, List.cons_append, List.nil_append, List.append_nil, List.length_cons, List.length_nil, List.replicate_succ, List.replicate_zero, Nat.add_one_sub_one, Jd8, Jbs, Jbx, Jby, Jbv, Jae, Jag, Jah, Jaf, Jb6, Jav, Jaw, Jak, Jau, Jb3, Jat, Jas, Jam, Jal, Jb1, Jai, Jaj, Jaz, Jb0, Jap, Jb2, Jaq, Jar, Jan, Jao, Jb5, Jb4, Ja7, Ja8, Jac, Jab, Ja0, Ja9, Jaa, Jbf, Jbg, Ja6, Jad, Jbc, Jbe, Jbd, Jb8, Ja2, Ja1, Ja4, Ja3, Jax, Jay, decide_true, decide_false, Bool.not_true, Bool.not_false, Bool.false_eq_true, if_true, if_false, true_and]
  refine ⟨trivial, ?_⟩
  simp only [Jbu, initE, Jcw, Jci, Jbk, Jbl, Jbz, Jcr, Jcs, Jc8, Jco, Jbm, Jcy, Jbn, Jbt, Jdb, Jdc, Jda, Jdd, Jdi, Jdf, Jdg, Jde, Jc3, Jcc, Jd5, Jd4, Jc9, Jcl, Jd3, Jd2, Jcf, Jbr, Jd1, Jck, Jbj, Jcn, Jc7, Jbi, Jcm, Jcj, Jd7, Jd6, Jd9, Jbo, Jch, Jcq, Jc1, Jcx, Jcg, Jbp, Jct, Jcz, Jdk, Jdl, Jcd, Jcu, Jcv, Jc6, Jbq, Jc0, Jbw, Jce, gt, st, Jbb, Jb9, Jba, Jb7, Jbh, Ja5, atI0, atI1, atI2, atI3, atI4, ixN20, ixN21, List.map_cons, List.map_nil, List.cons_append, List.nil_append, List.append_nil, List.length_cons, List.length_nil, List.replicate_succ, List.replicate_zero, Nat.add_one_sub_one, Jd8, Jbs, Jbx, Jby, Jbv, Jae, Jag, Jah, Jaf, Jb6, Jav, Jaw, Jak, Jau, Jb3, Jat, Jas, Jam, Jal, Jb1, Jai, Jaj, Jaz, Jb0, Jap, Jb2, Jaq, Jar, Jan, Jao, Jb5, Jb4, Ja7, Ja8, Jac, Jab, Ja0, Ja9, Jaa, Jbf, Jbg, Ja6, Jad, Jbc, Jbe, Jbd, Jb8, Ja2, Ja1, Ja4, Ja3, Jax, Jay, decide_true, decide_false, Bool.not_true, Bool.not_false, Bool.false_eq_true, if_true, if_false, true_and, wipeE, isOf, o_rule]
  refine ⟨by decide, ok_Rule_coefficients ?_⟩
  simp only [Jbu, initE, Jcw, Jci, Jbk, Jbl, Jbz, Jcr, Jcs, Jc8, Jco, Jbm, Jcy, Jbn, Jbt, Jdb, Jdc, Jda, Jdd, Jdi, Jdf, Jdg, Jde, Jc3, Jcc, Jd5, Jd4, Jc9, Jcl, Jd3, Jd2, Jcf, Jbr, Jd1, Jck, Jbj, Jcn, Jc7, Jbi, Jcm, Jcj, Jd7, Jd6, Jd9, Jbo, Jch, Jcq, Jc1, Jcx, Jcg, Jbp, Jct, Jcz, Jdk, Jdl, Jcd, Jcu, Jcv, Jc6, Jbq, Jc0, Jbw, Jce, gt, st, Jbb, Jb9, Jba, Jb7, Jbh, Ja5, atI0, atI1, atI2, atI3, atI4, ixN20, ixN21, List.map_cons, List.map_nil, List.cons_append, List.nil_append, List.append_nil, List.length_cons, List.length_nil, List.replicate_succ, List.replicate_zero, Nat.add_one_sub_one, Jd8, Jbs, Jbx, Jby, Jbv, Jae, Jag, Jah, Jaf, Jb6, Jav, Jaw, Jak, Jau, Jb3, Jat, Jas, Jam, Jal, Jb1, Jai, Jaj, Jaz, Jb0, Jap, Jb2, Jaq, Jar, Jan, Jao, Jb5, Jb4, Ja7, Ja8, Jac, Jab, Ja0, Ja9, Jaa, Jbf, Jbg, Ja6, Jad, Jbc, Jbe, Jbd, Jb8, Ja2, Ja1, Ja4, Ja3, Jax, Jay, decide_true, decide_false, Bool.not_true, Bool.not_false, Bool.false_eq_true, if_true, if_false, true_and]
  refine ⟨trivial, ?_⟩
  refine ⟨by rw [sizeLine_eq]; decide, ?_⟩
  refine same_l (xs := [.list (iL r), .list (iL r)]) (X := fun _ _ => False) ?_ (sh_two r) (k _ fun a h1 h2 => by rw [del_ne h2, del_ne h1])
  show (plainD (.list (iL r)) && (plainD (.list (iL r)) && true)) = true
  rw [show plainD (.list (iL r)) = true from plains_ints r]
  rfl
theorem r3_none (pp : p ≠ p1) (hp1 : μ p1 = some (.list [])) (hp : μ p = some (.list [btD, btD])) (k : ∀ μ', (∀ a, a ≠ p1 → a ≠ p → μ' a = μ a) → E.rt (.bool true) μ') : wp_law_right_3 (eJ t (optL none) p1 p x4 x5 x6) μ E := by
  unfold wp_law_right_3
  simp only [Jbu, initE, Jcw, Jci, Jbk, Jbl, Jbz, Jcr, Jcs, Jc8, Jco, Jbm, Jcy, Jbn, Jbt, Jdb, Jdc, Jda, Jdd, Jdi, Jdf, Jdg, Jde, Jc3, Jcc, Jd5, Jd4, Jc9, Jcl, Jd3, Jd2, Jcf, Jbr, Jd1, Jck, Jbj, Jcn, Jc7, Jbi, Jcm, Jcj, Jd7, Jd6, Jd9, Jbo, Jch, Jcq, Jc1, Jcx, Jcg, Jbp, Jct, Jcz, Jdk, Jdl, Jcd, Jcu, Jcv, Jc6, Jbq, Jc0, Jbw, Jce, gt, st, Jbb, Jb9, Jba, Jb7, Jbh, Ja5, atI0, atI1, atI2, atI3, atI4, ixN20, ixN21, List.map_cons, List.map_nil, List.cons_append, List.nil_append, List.append_nil, List.length_cons, List.length_nil, List.replicate_succ, List.replicate_zero, Nat.add_one_sub_one, Jd8, Jbs, Jbx, Jby, Jbv, Jae, Jag, Jah, Jaf, Jb6, Jav, Jaw, Jak, Jau, Jb3, Jat, Jas, Jam, Jal, Jb1, Jai, Jaj, Jaz, Jb0, Jap, Jb2, Jaq, Jar, Jan, Jao, Jb5, Jb4, Ja7, Ja8, Jac, Jab, Ja0, Ja9, Jaa, Jbf, Jbg, Ja6, Jad, Jbc, Jbe, Jbd, Jb8, Ja2, Ja1, Ja4, Ja3, Jax, Jay, decide_true, decide_false, Bool.not_true, Bool.not_false, Bool.false_eq_true, if_true, if_false, true_and]
  have sq : sqD μ (.cell p) = some [btD, btD] := by simp [sqD, ndL, hp]
  have e : isNone (optL none) = true := rfl
  rw [e, sq]
  dsimp only
  rw [if_pos rfl]
  refine ⟨by rw [sizeLine_eq]; decide, ?_⟩
  have b1 : ∀ {QQ : QR} {X : QD} {μ : Mu}, cbIsi [btD, .cls "BadText"] μ QQ X = QQ (.v (.bool true)) μ := propext Iff.rfl
  have b2 : ∀ {QQ : QR} {X : QD} {μ : Mu}, cbIsi [btD, .cls "BadProgram"] μ QQ X = QQ (.v (.bool false)) μ := propext Iff.rfl
  refine ⟨by simp [okS, sqD, ndL, hp], ?_⟩
  simp only [Jbu, initE, Jcw, Jci, Jbk, Jbl, Jbz, Jcr, Jcs, Jc8, Jco, Jbm, Jcy, Jbn, Jbt, Jdb, Jdc, Jda, Jdd, Jdi, Jdf, Jdg, Jde, Jc3, Jcc, Jd5, Jd4, Jc9, Jcl, Jd3, Jd2, Jcf, Jbr, Jd1, Jck, Jbj, Jcn, Jc7, Jbi, Jcm, Jcj, Jd7, Jd6, Jd9, Jbo, Jch, Jcq, Jc1, Jcx, Jcg, Jbp, Jct, Jcz, Jdk, Jdl, Jcd, Jcu, Jcv, Jc6, Jbq, Jc0, Jbw, Jce, gt, st, Jbb, Jb9, Jba, Jb7, Jbh, Ja5, atI0, atI1, atI2, atI3, atI4, ixN20, ixN21, List.map_cons, List.map_nil, List.cons_append, List.nil_append, List.append_nil, List.length_cons, List.length_nil, List.replicate_succ, List.replicate_zero, Nat.add_one_sub_one, Jd8, Jbs, Jbx, Jby, Jbv, Jae, Jag, Jah, Jaf, Jb6, Jav, Jaw, Jak, Jau, Jb3, Jat, Jas, Jam, Jal, Jb1, Jai, Jaj, Jaz, Jb0, Jap, Jb2, Jaq, Jar, Jan, Jao, Jb5, Jb4, Ja7, Ja8, Jac, Jab, Ja0, Ja9, Jaa, Jbf, Jbg, Ja6, Jad, Jbc, Jbe, Jbd, Jb8, Ja2, Ja1, Ja4, Ja3, Jax, Jay, decide_true, decide_false, Bool.not_true, Bool.not_false, Bool.false_eq_true, if_true, if_false, true_and, wipeE, b1, b2]
  refine ⟨by simp [okS, sqD, ndL, hp], ?_⟩
  simp only [Jbu, initE, Jcw, Jci, Jbk, Jbl, Jbz, Jcr, Jcs, Jc8, Jco, Jbm, Jcy, Jbn, Jbt, Jdb, Jdc, Jda, Jdd, Jdi, Jdf, Jdg, Jde, Jc3, Jcc, Jd5, Jd4, Jc9, Jcl, Jd3, Jd2, Jcf, Jbr, Jd1, Jck, Jbj, Jcn, Jc7, Jbi, Jcm, Jcj, Jd7, Jd6, Jd9, Jbo, Jch, Jcq, Jc1, Jcx, Jcg, Jbp, Jct, Jcz, Jdk, Jdl, Jcd, Jcu, Jcv, Jc6, Jbq, Jc0, Jbw, Jce, gt, st, Jbb, Jb9, Jba, Jb7, Jbh, Ja5, atI0, atI1, atI2, atI3, atI4, ixN20, ixN21, List.map_cons, List.map_nil, List.cons_append, List.nil_append, List.append_nil, List.length_cons, List.length_nil, List.replicate_succ, List.replicate_zero, Nat.add_one_sub_one, Jd8, Jbs, Jbx, Jby, Jbv, Jae, Jag, Jah, Jaf, Jb6, Jav, Jaw, Jak, Jau, Jb3, Jat, Jas, Jam, Jal, Jb1, Jai, Jaj, Jaz, Jb0, Jap, Jb2, Jaq, Jar, Jan, Jao, Jb5, Jb4, Ja7, Ja8, Jac, Jab, Ja0, Ja9, Jaa, Jbf, Jbg, Ja6, Jad, Jbc, Jbe, Jbd, Jb8, Ja2, Ja1, Ja4, Ja3, Jax, Jay, decide_true, decide_false, Bool.not_true, Bool.not_false, Bool.false_eq_true, if_true, if_false, true_and, wipeE, b1, b2]
  refine ⟨by simp [okS, sqD, ndL, hp], ?_⟩
  have e1 : del μ p1 p = some (.list [btD, btD]) := by rw [del_ne pp, hp]
  dsimp only
  rw [hp1]
  dsimp only
  rw [e1]
  dsimp only
  refine ⟨Nat.zero_le _, ?_⟩
  refine same_l (xs := []) (X := fun _ _ => False) rfl (by decide +kernel) ?_
  simp only [Jbu, initE, Jcw, Jci, Jbk, Jbl, Jbz, Jcr, Jcs, Jc8, Jco, Jbm, Jcy, Jbn, Jbt, Jdb, Jdc, Jda, Jdd, Jdi, Jdf, Jdg, Jde, Jc3, Jcc, Jd5, Jd4, Jc9, Jcl, Jd3, Jd2, Jcf, Jbr, Jd1, Jck, Jbj, Jcn, Jc7, Jbi, Jcm, Jcj, Jd7, Jd6, Jd9, Jbo, Jch, Jcq, Jc1, Jcx, Jcg, Jbp, Jct, Jcz, Jdk, Jdl, Jcd, Jcu, Jcv, Jc6, Jbq, Jc0, Jbw, Jce, gt, st, Jbb, Jb9, Jba, Jb7, Jbh, Ja5, atI0, atI1, atI2, atI3, atI4, ixN20, ixN21, List.map_cons, List.map_nil, List.cons_append, List.nil_append, List.append_nil, List.length_cons, List.length_nil, List.replicate_succ, List.replicate_zero, Nat.add_one_sub_one, Jd8, Jbs, Jbx, Jby, Jbv, Jae, Jag, Jah, Jaf, Jb6, Jav, Jaw, Jak, Jau, Jb3, Jat, Jas, Jam, Jal, Jb1, Jai, Jaj, Jaz, Jb0, Jap, Jb2, Jaq, Jar, Jan, Jao, Jb5, Jb4, Ja7, Ja8, Jac, Jab, Ja0, Ja9, Jaa, Jbf, Jbg, Ja6, Jad, Jbc, Jbe, Jbd, Jb8, Ja2, Ja1, Ja4, Ja3, Jax, Jay, decide_true, decide_false, Bool.not_true, Bool.not_false, Bool.false_eq_true, if_true, if_false, true_and]
  have fz : sqD (del (del μ p1) p) (Nd.list [btD, btD]).frz = some [btD, btD] := rfl
  refine ⟨by rw [sizeLine_eq]; decide, ?_⟩
  refine ⟨trivial, ?_⟩
  simp only [Jbu, initE, Jcw, Jci, Jbk, Jbl, Jbz, Jcr, Jcs, Jc8, Jco, Jbm, Jcy, Jbn, Jbt, Jdb, Jdc, Jda, Jdd, Jdi, Jdf, Jdg, Jde, Jc3, Jcc, Jd5, Jd4, Jc9, Jcl, Jd3, Jd2, Jcf, Jbr, Jd1, Jck, Jbj, Jcn, Jc7, Jbi, Jcm, Jcj, Jd7, Jd6, Jd9, Jbo, Jch, Jcq, Jc1, Jcx, Jcg, Jbp, Jct, Jcz, Jdk, Jdl, Jcd, Jcu, Jcv, Jc6, Jbq, Jc0, Jbw, Jce, gt, st, Jbb, Jb9, Jba, Jb7, Jbh, Ja5, atI0, atI1, atI2, atI3, atI4, ixN20, ixN21, List.map_cons, List.map_nil, List.cons_append, List.nil_append, List.append_nil, List.length_cons, List.length_nil, List.replicate_succ, List.replicate_zero, Nat.add_one_sub_one, Jd8, Jbs, Jbx, Jby, Jbv, Jae, Jag, Jah, Jaf, Jb6, Jav, Jaw, Jak, Jau, Jb3, Jat, Jas, Jam, Jal, Jb1, Jai, Jaj, Jaz, Jb0, Jap, Jb2, Jaq, Jar, Jan, Jao, Jb5, Jb4, Ja7, Ja8, Jac, Jab, Ja0, Ja9, Jaa, Jbf, Jbg, Ja6, Jad, Jbc, Jbe, Jbd, Jb8, Ja2, Ja1, Ja4, Ja3, Jax, Jay, decide_true, decide_false, Bool.not_true, Bool.not_false, Bool.false_eq_true, if_true, if_false, true_and, wipeE, fldD]
  refine ⟨trivial, ?_⟩
  simp only [Jbu, initE, Jcw, Jci, Jbk, Jbl, Jbz, Jcr, Jcs, Jc8, Jco, Jbm, Jcy, Jbn, Jbt, Jdb, Jdc, Jda, Jdd, Jdi, Jdf, Jdg, Jde, Jc3, Jcc, Jd5, Jd4, Jc9, Jcl, Jd3, Jd2, Jcf, Jbr, Jd1, Jck, Jbj, Jcn, Jc7, Jbi, Jcm, Jcj, Jd7, Jd6, Jd9, Jbo, Jch, Jcq, Jc1, Jcx, Jcg, Jbp, Jct, Jcz, Jdk, Jdl, Jcd, Jcu, Jcv, Jc6, Jbq, Jc0, Jbw, Jce, gt, st, Jbb, Jb9, Jba, Jb7, Jbh, Ja5, atI0, atI1, atI2, atI3, atI4, ixN20, ixN21, List.map_cons, List.map_nil, List.cons_append, List.nil_append, List.append_nil, List.length_cons, List.length_nil, List.replicate_succ, List.replicate_zero, Nat.add_one_sub_one, Jd8, Jbs, Jbx, Jby, Jbv, Jae, Jag, Jah, Jaf, Jb6, Jav, Jaw, Jak, Jau, Jb3, Jat, Jas, Jam, Jal, Jb1, Jai, Jaj, Jaz, Jb0, Jap, Jb2, Jaq, Jar, Jan, Jao, Jb5, Jb4, Ja7, Ja8, Jac, Jab, Ja0, Ja9, Jaa, Jbf, Jbg, Ja6, Jad, Jbc, Jbe, Jbd, Jb8, Ja2, Ja1, Ja4, Ja3, Jax, Jay, decide_true, decide_false, Bool.not_true, Bool.not_false, Bool.false_eq_true, if_true, if_false, true_and, wipeE, fldD]
  refine ⟨trivial, by rw [sizeLine_eq]; decide, ?_⟩
  refine same_l (xs := [.int 0, .int 0]) (X := fun _ _ => False) rfl (by decide +kernel) ?_
  simp only [Jbu, initE, Jcw, Jci, Jbk, Jbl, Jbz, Jcr, Jcs, Jc8, Jco, Jbm, Jcy, Jbn, Jbt, Jdb, Jdc, Jda, Jdd, Jdi, Jdf, Jdg, Jde, Jc3, Jcc, Jd5, Jd4, Jc9, Jcl, Jd3, Jd2, Jcf, Jbr, Jd1, Jck, Jbj, Jcn, Jc7, Jbi, Jcm, Jcj, Jd7, Jd6, Jd9, Jbo, Jch, Jcq, Jc1, Jcx, Jcg, Jbp, Jct, Jcz, Jdk, Jdl, Jcd, Jcu, Jcv, Jc6, Jbq, Jc0, Jbw, Jce, gt, st, Jbb, Jb9, Jba, Jb7, Jbh, Ja5, atI0, atI1, atI2, atI3, atI4, ixN20, ixN21, List.map_cons, List.map_nil, List.cons_append, List.nil_append, List.append_nil, List.length_cons, List.length_nil, List.replicate_succ, List.replicate_zero, Nat.add_one_sub_one, Jd8, Jbs, Jbx, Jby, Jbv, Jae, Jag, Jah, Jaf, Jb6, Jav, Jaw, Jak, Jau, Jb3, Jat, Jas, Jam, Jal, Jb1, Jai, Jaj, Jaz, Jb0, Jap, Jb2, Jaq, Jar, Jan, Jao, Jb5, Jb4, Ja7, Ja8, Jac, Jab, Ja0, Ja9, Jaa, Jbf, Jbg, Ja6, Jad, Jbc, Jbe, Jbd, Jb8, Ja2, Ja1, Ja4, Ja3, Jax, Jay, decide_true, decide_false, Bool.not_true, Bool.not_false, Bool.false_eq_true, if_true, if_false, true_and]
  refine ⟨Nat.zero_le _, ?_⟩
  exact same_l (xs := []) (X := fun _ _ => False) rfl (by decide +kernel) (k _ fun a h1 h2 => by rw [del_ne h2, del_ne h1])
theorem ok_law_right (h : Ag 500000 t) (k : ∀ μ', Q (.bool true) μ') : wp_law_right [.str (S t)] μ Q X := by
  unfold wp_law_right wp_law_right_0
  simp only [Jbu, initE, Jcw, Jci, Jbk, Jbl, Jbz, Jcr, Jcs, Jc8, Jco, Jbm, Jcy, Jbn, Jbt, Jdb, Jdc, Jda, Jdd, Jdi, Jdf, Jdg, Jde, Jc3, Jcc, Jd5, Jd4, Jc9, Jcl, Jd3, Jd2, Jcf, Jbr, Jd1, Jck, Jbj, Jcn, Jc7, Jbi, Jcm, Jcj, Jd7, Jd6, Jd9, Jbo, Jch, Jcq, Jc1, Jcx, Jcg, Jbp, Jct, Jcz, Jdk, Jdl, Jcd, Jcu, Jcv, Jc6, Jbq, Jc0, Jbw, Jce, gt, st, Jbb, Jb9, Jba, Jb7, Jbh, Ja5, atI0, atI1, atI2, atI3, atI4, ixN20, ixN21, List.map_cons, List.map_nil, List.cons_append, List.nil_append, List.append_nil, List.length_cons, List.length_nil, List.replicate_succ, List.replicate_zero, Nat.add_one_sub_one, Jd8, Jbs, Jbx, Jby, Jbv, Jae, Jag, Jah, Jaf, Jb6, Jav, Jaw, Jak, Jau, Jb3, Jat, Jas, Jam, Jal, Jb1, Jai, Jaj, Jaz, Jb0, Jap, Jb2, Jaq, Jar, Jan, Jao, Jb5, Jb4, Ja7, Ja8, Jac, Jab, Ja0, Ja9, Jaa, Jbf, Jbg, Ja6, Jad, Jbc, Jbe, Jbd, Jb8, Ja2, Ja1, Ja4, Ja3, Jax, Jay, decide_true, decide_false, Bool.not_true, Bool.not_false, Bool.false_eq_true, if_true, if_false, true_and]
  refine ok_law_rule_read h.a h.l fun μ1 m1 => ?_
  refine ⟨by decide, fun p1 hp1 => ?_⟩
  refine ⟨by rw [sizeLine_eq]; decide, ?_⟩
  rw [law_same]
  cases e : ruleT t with
  | some r =>
    refine r1_some h.l e up_same fun μ2 p pp o2 h2 g2 => ?_
    refine r2_some h.l e pp h2 g2 fun μ3 o3 h3 g3 => ?_
    refine r3_some ?_
    exact r4_ok pp h3 g3 fun μ4 _ => k μ4
  | none =>
    refine r1_none h.l e up_same fun μ2 p pp o2 h2 g2 => ?_
    refine r2_none h.l e pp h2 g2 fun μ3 o3 h3 g3 => ?_
    exact r3_none pp h3 g3 fun μ4 _ => k μ4
end
end DL

set_option Elab.async false
set_option linter.all false
set_option maxRecDepth 100000
set_option maxHeartbeats 4000000
/-! K71: the law k71, plainly. -/
namespace DL
open PySem L2
open SX (S)
def ws_0 : WS := (wAsg 2 (wLst false (waCons (wK (.str "t")) (waCons (wK (.str "^")) (waCons (wK (.str " ")) (waCons (wK (.str "-")) (waCons (wK (.str "+")) (waCons (wK (.str "0")) (waCons (wK (.str "1")) (waCons (wK (.str "2")) (waCons (wK (.str " + ")) (waCons (wK (.str " - ")) (waCons (wK (.str "t^2")) (waCons (wK (.str "x")) (waCons (wK (.str "\n")) (waCons (wK (.str "t^")) (waCons (wK (.str "12")) waNil)))))))))))))))))
def ws_1 : WS := (wAsg 3 (wLst false (waCons (wK (.str "")) (waCons (wK (.str "0")) (waCons (wK (.str "-0")) (waCons (wK (.str "+ t")) (waCons (wK (.str "1 t")) (waCons (wK (.str "t^1")) (waCons (wK (.str "t^0")) (waCons (wK (.str "0 t")) (waCons (wK (.str "t + t")) (waCons (wK (.str "t + t^2")) (waCons (wK (.str "2t")) (waCons (wK (.str "2  t")) (waCons (wK (.str " t")) (waCons (wK (.str "t ")) (waCons (wK (.str "T")) waNil)))))))))))))))))
def ws_2 : WS := (wAsg 3 (wOp false oAdd (wV 3) (wLst false (waCons (wK (.str "t^24")) (waCons (wK (.str "t^25")) (waCons (wK (.str "t^2 + -1")) (waCons (wK (.str "- t")) (waCons (wK (.str "t^02")) (waCons (wK (.str "02 t")) (waCons (wK (.str "999999999999 t")) (waCons (wK (.str "1000000000000")) waNil)))))))))))
def ws_3 : WS := (wAsg 3 (wOp false oAdd (wV 3) (wLst false (waCons (wK (.str "-999999999999")) (waCons (wK (.str "t - 0")) waNil)))))
def ws_4_0 : WS := (wAsg 5 (wCall wp_law_rule_page [] (waCons (wCall wp_law_rule [] (waCons (wV 1) (waCons (wK (.int 6)) (waCons (wCall wp_law_pick [] (waCons (wV 1) (waCons (wLst false (waCons (wK (.int 3)) (waCons (wOp false oPow (wK (.int 10)) (wK (.int 6))) waNil))) waNil))) waNil)))) waNil)))
def ws_4_1 : WS := (wIfS (wNotT (wTst (wCall wp_law_right [] (waCons (wV 5) waNil)))) (wRet (wK (.bool false))) wNext)
def ws_4_2 : WS := (wFor (wiRng1 (waCons (wK (.int 5)) waNil)) (wgN 6) (wSeq (wAsg 7 (wV 5))
    (wSeq (wFor (wiRng1 (waCons (wOp false oAdd (wK (.int 1)) (wCall wp_law_take [] (waCons (wV 1) (waCons (wK (.int 3)) waNil)))) waNil)) (wgN 8) (wAsg 7 (wCall wp_law_bent_page [] (waCons (wV 1) (waCons (wV 7) (waCons (wV 2) waNil))))))
    (wIfS (wNotT (wTst (wCall wp_law_right [] (waCons (wV 7) waNil)))) (wRet (wK (.bool false))) wNext))))
def ws_4_3 : WS := (wIfS (wNotT (wTst (wCall wp_law_right [] (waCons (wCall wp_law_pick [] (waCons (wV 1) (waCons (wV 3) waNil))) waNil)))) (wRet (wK (.bool false))) wNext)
def ws_4_4 : WS := (wAsg 9 (wCall wp_law_pick [] (waCons (wV 1) (waCons (wLst false (waCons (wK .none) (waCons (wK (.int 0)) (waCons (wK (.int 5)) (waCons (wK (.bool true)) (waCons (wLst false (waCons (wK (.str "t")) waNil)) (waCons (wTup (waCons (wK (.str "t")) waNil)) (waCons (wDict0 false) (waCons (wMake false "Rule" wp_Rule___init__ [] (waCons (wLst false (waCons (wK (.int 1)) waNil)) waNil)) (waCons (wLst false waNil) (waCons (wTup waNil) waNil))))))))))) waNil))))
def ws_4_5 : WS := (wAsg 10 (wCaught ["CrossError", "BadRule", "BadPower", "BadProgram", "BadText"] (wCall wp_read_rule [] (waCons (wV 9) waNil))))
def ws_4_6 : WS := (wIfS (wOrT (wNotT (wTst (wCb false cbIsi (waCons (wV 10) (waCons (wK (.cls "BadText")) waNil))))) (wTst (wOp false oNe (wCb false cbRepr (waCons (wErrF "line" (wV 10)) waNil)) (wK (.str "0"))))) (wRet (wK (.bool false))) wNext)
def wb_4 : WS := (wSeq ws_4_0 (wSeq ws_4_1 (wSeq ws_4_2 (wSeq ws_4_3 (wSeq ws_4_4 (wSeq ws_4_5 ws_4_6))))))
def ws_4 : WS := wFor (wiRng1 (waCons (wOp false oAdd (wK (.int 5)) (wCb false cbMin2 (waCons (wCb false cbLen (waCons (wV 0) waNil)) (waCons (wK (.int 20)) waNil)))) waNil)) (wgN 4) wb_4
def ws_5 : WS := (wRet (wOp false oEq (wLc false (wiSeq (wV 3)) (wgN 5) (wNotT (wTst (wCall wp_law_right [] (waCons (wV 5) waNil)))) (wV 5) [5]) (wLst false waNil)))
def wr_law : WS := (wSeq ws_0 (wSeq ws_1 (wSeq ws_2 (wSeq ws_3 (wSeq ws_4 ws_5)))))
def known71 : List Tx := [[], [48], [45, 48], [43, 32, 116], [49, 32, 116], [116, 94, 49], [116, 94, 48], [48, 32, 116], [116, 32, 43, 32, 116], [116, 32, 43, 32, 116, 94, 50], [50, 116], [50, 32, 32, 116], [32, 116], [116, 32], [84], [116, 94, 50, 52], [116, 94, 50, 53], [116, 94, 50, 32, 43, 32, 45, 49], [45, 32, 116], [116, 94, 48, 50], [48, 50, 32, 116], [57, 57, 57, 57, 57, 57, 57, 57, 57, 57, 57, 57, 32, 116], [49, 48, 48, 48, 48, 48, 48, 48, 48, 48, 48, 48, 48], [45, 57, 57, 57, 57, 57, 57, 57, 57, 57, 57, 57, 57], [116, 32, 45, 32, 48]]
theorem known_eq : ([Str.ofString "", Str.ofString "0", Str.ofString "-0", Str.ofString "+ t", Str.ofString "1 t", Str.ofString "t^1", Str.ofString "t^0", Str.ofString "0 t", Str.ofString "t + t", Str.ofString "t + t^2", Str.ofString "2t", Str.ofString "2  t", Str.ofString " t", Str.ofString "t ", Str.ofString "T", Str.ofString "t^24", Str.ofString "t^25", Str.ofString "t^2 + -1", Str.ofString "- t", Str.ofString "t^02", Str.ofString "02 t", Str.ofString "999999999999 t", Str.ofString "1000000000000", Str.ofString "-999999999999", Str.ofString "t - 0"] : List Str) = known71.map S := by decide +kernel
theorem signs_eq : ([Str.ofString "t", Str.ofString "^", Str.ofString " ", Str.ofString "-", Str.ofString "+", Str.ofString "0", Str.ofString "1", Str.ofString "2", Str.ofString " + ", Str.ofString " - ", Str.ofString "t^2", Str.ofString "x", Str.ofString "\n", Str.ofString "t^", Str.ofString "12"] : List Str) = sgs71.map S := by decide +kernel
theorem wD_of {a : List Str} {l : List Tx} (h : a = l.map S) : D.list (a.map D.str) = wD l := by rw [h, wD_map]
def lapW : WS := wAsg 7 (wCall wp_law_bent_page [] (waCons (wV 1) (waCons (wV 7) (waCons (wV 2) waNil))))
def chgW : WS := wFor (wiRng1 (waCons (wOp false oAdd (wK (.int 1)) (wCall wp_law_take [] (waCons (wV 1) (waCons (wK (.int 3)) waNil)))) waNil)) (wgN 8) lapW
def jdgW : WS := wIfS (wNotT (wTst (wCall wp_law_right [] (waCons (wV 7) waNil)))) (wRet (wK (.bool false))) wNext
def lapsW : WS := wSeq (wAsg 7 (wV 5)) (wSeq chgW jdgW)
theorem pow6y : (10 : Int) ^ (6 : Int).toNat = 1000000 := by decide +kernel
theorem cp6y : CPowW 10 6 := ⟨by decide, by decide +kernel⟩
def odd71 : List D := [.none, .int 0, .int 5, .bool true, .list [.str "t"], .tup [.str "t"], .dk [] [], ruleD [1], .list [], .tup []]
def bn71 : Nat → Nat
  | 0 => 4340
  | i + 1 => 4 * bn71 i + 3
theorem bn_le : ∀ i, i ≤ 3 → bn71 i ≤ 300000 := by decide
theorem known_ag : ∀ w ∈ known71, Ag 500000 w := fun w hw => by
  have : known71.all (fun w => (w.all fun c => decide (c < 128)) && decide (w.length ≤ 20)) = true := by decide
  have := List.all_eq_true.mp this w hw
  rw [Bool.and_eq_true] at this
  exact ⟨asc_of this.1, Nat.le_trans (of_decide_eq_true this.2) (by decide)⟩
section
variable {μ : Mu} {Q X : QD} {QQ : QR} {E : WEnds} {sc : List Int} {a2 a3 a4 a5 a6 a7 a8 a9 a10 : Option D} {ns ms : List Int}
theorem mk_RuleQ71 {d : D} (h : sqD μ d = some (iL ns)) (hs : ∀ ns, d ≠ .script ns) (hl : ns.length ≤ 2 ^ 20) {p : Addr} (hp : μ p = Option.none) (q : Q (ruleD (M.trim ns)) μ) : wp_Rule___init__ [.cell p, d] (up μ p (.obj "Rule" [] [])) (mkQ false Q p) X := mk_Rule (Q := Q) h hs hl q p hp
theorem s0_ok (k : E.nx [some (.script sc), some .state, some (wD sgs71), a3, a4, a5, a6, a7, a8, a9, a10] μ) : ws_0 [some (.script sc), some .state, a2, a3, a4, a5, a6, a7, a8, a9, a10] μ E := by
  unfold ws_0
  simp only [Jbu, initE, Jcw, Jci, Jbk, Jbl, Jbz, Jcr, Jcs, Jc8, Jco, Jbm, Jcy, Jbn, Jbt, Jdb, Jdc, Jda, Jdd, Jdi, Jdf, Jdg, Jde, Jc3, Jcc, Jd5, Jd4, Jc9, Jcl, Jd3, Jd2, Jcf, Jbr, Jd1, Jck, Jbj, Jcn, Jc7, Jbi, Jcm, Jcj, Jd7, Jd6, Jd9, Jbo, Jch, Jcq, Jc1, Jcx, Jcg, Jbp, Jct, Jcz, Jdk, Jdl, Jcd, Jcu, Jcv, Jc6, Jbq, Jc0, Jbw, Jce, gt, st, Jbb, Jb9, Jba, Jb7, Jbh, Ja5, atI0, atI1, atI2, atI3, atI4, ixN20, ixN21, List.map_cons, List.map_nil, List.cons_append, List.nil_append, List.append_nil, List.length_cons, List.length_nil, List.replicate_succ, List.replicate_zero, Nat.add_one_sub_one, Jd8, Jbs, Jbx, Jby, Jbv, Jae, Jag, Jah, Jaf, Jb6, Jav, Jaw, Jak, Jau, Jb3, Jat, Jas, Jam, Jal, Jb1, Jai, Jaj, Jaz, Jb0, Jap, Jb2, Jaq, Jar, Jan, Jao, Jb5, Jb4, Ja7, Ja8, Jac, Jab, Ja0, Ja9, Jaa, Jbf, Jbg, Ja6, Jad, Jbc, Jbe, Jbd, Jb8, Ja2, Ja1, Ja4, Ja3, Jax, Jay, decide_true, decide_false, Bool.not_true, Bool.not_false, Bool.false_eq_true, if_true, if_false, true_and]
  refine ⟨by decide, ?_⟩
  have e := wD_of signs_eq
  exact e ▸ k
theorem s123_ok (k : E.nx [some (.script sc), some .state, a2, some (wD known71), a4, a5, a6, a7, a8, a9, a10] μ) : ws_1 [some (.script sc), some .state, a2, a3, a4, a5, a6, a7, a8, a9, a10] μ { nx := fun e μ1 => ws_2 e μ1 { nx := fun e μ1 => ws_3 e μ1 E, rt := E.rt, bk := E.bk, ct := E.ct, xp := E.xp }, rt := E.rt, bk := E.bk, ct := E.ct, xp := E.xp } := by
  unfold ws_1
  simp only [Jbu, initE, Jcw, Jci, Jbk, Jbl, Jbz, Jcr, Jcs, Jc8, Jco, Jbm, Jcy, Jbn, Jbt, Jdb, Jdc, Jda, Jdd, Jdi, Jdf, Jdg, Jde, Jc3, Jcc, Jd5, Jd4, Jc9, Jcl, Jd3, Jd2, Jcf, Jbr, Jd1, Jck, Jbj, Jcn, Jc7, Jbi, Jcm, Jcj, Jd7, Jd6, Jd9, Jbo, Jch, Jcq, Jc1, Jcx, Jcg, Jbp, Jct, Jcz, Jdk, Jdl, Jcd, Jcu, Jcv, Jc6, Jbq, Jc0, Jbw, Jce, gt, st, Jbb, Jb9, Jba, Jb7, Jbh, Ja5, atI0, atI1, atI2, atI3, atI4, ixN20, ixN21, List.map_cons, List.map_nil, List.cons_append, List.nil_append, List.append_nil, List.length_cons, List.length_nil, List.replicate_succ, List.replicate_zero, Nat.add_one_sub_one, Jd8, Jbs, Jbx, Jby, Jbv, Jae, Jag, Jah, Jaf, Jb6, Jav, Jaw, Jak, Jau, Jb3, Jat, Jas, Jam, Jal, Jb1, Jai, Jaj, Jaz, Jb0, Jap, Jb2, Jaq, Jar, Jan, Jao, Jb5, Jb4, Ja7, Ja8, Jac, Jab, Ja0, Ja9, Jaa, Jbf, Jbg, Ja6, Jad, Jbc, Jbe, Jbd, Jb8, Ja2, Ja1, Ja4, Ja3, Jax, Jay, decide_true, decide_false, Bool.not_true, Bool.not_false, Bool.false_eq_true, if_true, if_false, true_and]
  refine ⟨by decide, ?_⟩
  unfold ws_2
  simp only [Jbu, initE, Jcw, Jci, Jbk, Jbl, Jbz, Jcr, Jcs, Jc8, Jco, Jbm, Jcy, Jbn, Jbt, Jdb, Jdc, Jda, Jdd, Jdi, Jdf, Jdg, Jde, Jc3, Jcc, Jd5, Jd4, Jc9, Jcl, Jd3, Jd2, Jcf, Jbr, Jd1, Jck, Jbj, Jcn, Jc7, Jbi, Jcm, Jcj, Jd7, Jd6, Jd9, Jbo, Jch, Jcq, Jc1, Jcx, Jcg, Jbp, Jct, Jcz, Jdk, Jdl, Jcd, Jcu, Jcv, Jc6, Jbq, Jc0, Jbw, Jce, gt, st, Jbb, Jb9, Jba, Jb7, Jbh, Ja5, atI0, atI1, atI2, atI3, atI4, ixN20, ixN21, List.map_cons, List.map_nil, List.cons_append, List.nil_append, List.append_nil, List.length_cons, List.length_nil, List.replicate_succ, List.replicate_zero, Nat.add_one_sub_one, Jd8, Jbs, Jbx, Jby, Jbv, Jae, Jag, Jah, Jaf, Jb6, Jav, Jaw, Jak, Jau, Jb3, Jat, Jas, Jam, Jal, Jb1, Jai, Jaj, Jaz, Jb0, Jap, Jb2, Jaq, Jar, Jan, Jao, Jb5, Jb4, Ja7, Ja8, Jac, Jab, Ja0, Ja9, Jaa, Jbf, Jbg, Ja6, Jad, Jbc, Jbe, Jbd, Jb8, Ja2, Ja1, Ja4, Ja3, Jax, Jay, decide_true, decide_false, Bool.not_true, Bool.not_false, Bool.false_eq_true, if_true, if_false, true_and]
  refine ⟨by decide, by rw [sizeLine_eq]; decide, ?_⟩
  unfold ws_3
  simp only [Jbu, initE, Jcw, Jci, Jbk, Jbl, Jbz, Jcr, Jcs, Jc8, Jco, Jbm, Jcy, Jbn, Jbt, Jdb, Jdc, Jda, Jdd, Jdi, Jdf, Jdg, Jde, Jc3, Jcc, Jd5, Jd4, Jc9, Jcl, Jd3, Jd2, Jcf, Jbr, Jd1, Jck, Jbj, Jcn, Jc7, Jbi, Jcm, Jcj, Jd7, Jd6, Jd9, Jbo, Jch, Jcq, Jc1, Jcx, Jcg, Jbp, Jct, Jcz, Jdk, Jdl, Jcd, Jcu, Jcv, Jc6, Jbq, Jc0, Jbw, Jce, gt, st, Jbb, Jb9, Jba, Jb7, Jbh, Ja5, atI0, atI1, atI2, atI3, atI4, ixN20, ixN21, List.map_cons, List.map_nil, List.cons_append, List.nil_append, List.append_nil, List.length_cons, List.length_nil, List.replicate_succ, List.replicate_zero, Nat.add_one_sub_one, Jd8, Jbs, Jbx, Jby, Jbv, Jae, Jag, Jah, Jaf, Jb6, Jav, Jaw, Jak, Jau, Jb3, Jat, Jas, Jam, Jal, Jb1, Jai, Jaj, Jaz, Jb0, Jap, Jb2, Jaq, Jar, Jan, Jao, Jb5, Jb4, Ja7, Ja8, Jac, Jab, Ja0, Ja9, Jaa, Jbf, Jbg, Ja6, Jad, Jbc, Jbe, Jbd, Jb8, Ja2, Ja1, Ja4, Ja3, Jax, Jay, decide_true, decide_false, Bool.not_true, Bool.not_false, Bool.false_eq_true, if_true, if_false, true_and]
  refine ⟨by decide, by rw [sizeLine_eq]; decide, ?_⟩
  have e := wD_of known_eq
  exact e ▸ k
theorem s40_ok (k : ∀ t, Ag 4340 t → E.nx [some (.script sc), some .state, some (wD sgs71), some (wD known71), a4, some (.str (S t)), a6, a7, a8, a9, a10] μ) : ws_4_0 [some (.script sc), some .state, some (wD sgs71), some (wD known71), a4, a5, a6, a7, a8, a9, a10] μ E := by
  unfold ws_4_0
  simp only [Jbu, initE, Jcw, Jci, Jbk, Jbl, Jbz, Jcr, Jcs, Jc8, Jco, Jbm, Jcy, Jbn, Jbt, Jdb, Jdc, Jda, Jdd, Jdi, Jdf, Jdg, Jde, Jc3, Jcc, Jd5, Jd4, Jc9, Jcl, Jd3, Jd2, Jcf, Jbr, Jd1, Jck, Jbj, Jcn, Jc7, Jbi, Jcm, Jcj, Jd7, Jd6, Jd9, Jbo, Jch, Jcq, Jc1, Jcx, Jcg, Jbp, Jct, Jcz, Jdk, Jdl, Jcd, Jcu, Jcv, Jc6, Jbq, Jc0, Jbw, Jce, gt, st, Jbb, Jb9, Jba, Jb7, Jbh, Ja5, atI0, atI1, atI2, atI3, atI4, ixN20, ixN21, List.map_cons, List.map_nil, List.cons_append, List.nil_append, List.append_nil, List.length_cons, List.length_nil, List.replicate_succ, List.replicate_zero, Nat.add_one_sub_one, Jd8, Jbs, Jbx, Jby, Jbv, Jae, Jag, Jah, Jaf, Jb6, Jav, Jaw, Jak, Jau, Jb3, Jat, Jas, Jam, Jal, Jb1, Jai, Jaj, Jaz, Jb0, Jap, Jb2, Jaq, Jar, Jan, Jao, Jb5, Jb4, Ja7, Ja8, Jac, Jab, Ja0, Ja9, Jaa, Jbf, Jbg, Ja6, Jad, Jbc, Jbe, Jbd, Jb8, Ja2, Ja1, Ja4, Ja3, Jax, Jay, decide_true, decide_false, Bool.not_true, Bool.not_false, Bool.false_eq_true, if_true, if_false, true_and, pow6y]
  refine ⟨cp6y, by decide, ok_pick rfl (by simp) (by simp) fun z hz => ?_⟩
  obtain ⟨g, rfl, g0, g1⟩ : ∃ g : Int, z = .int g ∧ 0 ≤ g ∧ g ≤ 1000000 := by
    simp only [List.mem_cons, List.not_mem_nil, or_false] at hz
    rcases hz with rfl | rfl <;> exact ⟨_, rfl, by decide, by decide⟩
  refine ok_law_rule (m := 6) (by decide) (by decide) g0 (by omega) fun r h1 h2 h3 => ?_
  have pg : Pg r := ⟨by omega, fun n hn => by
    have := h3 n hn
    have : n.natAbs ≤ 1000000 := by omega
    by_cases z : n.natAbs = 0
    · rw [z]; decide
    · exact (Nat.log2_lt z).mpr (Nat.lt_of_le_of_lt this (by decide +kernel))⟩
  refine ok_law_rule_page pg (k _ ⟨asc_page r, ?_⟩)
  unfold pageL
  split
  · decide
  · have := pageN_len pg r.length
    omega
theorem s41_ok {t : Tx} (h : Ag 4340 t) (k : ∀ μ', E.nx [some (.script sc), some .state, a2, a3, a4, some (.str (S t)), a6, a7, a8, a9, a10] μ') : ws_4_1 [some (.script sc), some .state, a2, a3, a4, some (.str (S t)), a6, a7, a8, a9, a10] μ E := by
  unfold ws_4_1
  simp only [Jbu, initE, Jcw, Jci, Jbk, Jbl, Jbz, Jcr, Jcs, Jc8, Jco, Jbm, Jcy, Jbn, Jbt, Jdb, Jdc, Jda, Jdd, Jdi, Jdf, Jdg, Jde, Jc3, Jcc, Jd5, Jd4, Jc9, Jcl, Jd3, Jd2, Jcf, Jbr, Jd1, Jck, Jbj, Jcn, Jc7, Jbi, Jcm, Jcj, Jd7, Jd6, Jd9, Jbo, Jch, Jcq, Jc1, Jcx, Jcg, Jbp, Jct, Jcz, Jdk, Jdl, Jcd, Jcu, Jcv, Jc6, Jbq, Jc0, Jbw, Jce, gt, st, Jbb, Jb9, Jba, Jb7, Jbh, Ja5, atI0, atI1, atI2, atI3, atI4, ixN20, ixN21, List.map_cons, List.map_nil, List.cons_append, List.nil_append, List.append_nil, List.length_cons, List.length_nil, List.replicate_succ, List.replicate_zero, Nat.add_one_sub_one, Jd8, Jbs, Jbx, Jby, Jbv, Jae, Jag, Jah, Jaf, Jb6, Jav, Jaw, Jak, Jau, Jb3, Jat, Jas, Jam, Jal, Jb1, Jai, Jaj, Jaz, Jb0, Jap, Jb2, Jaq, Jar, Jan, Jao, Jb5, Jb4, Ja7, Ja8, Jac, Jab, Ja0, Ja9, Jaa, Jbf, Jbg, Ja6, Jad, Jbc, Jbe, Jbd, Jb8, Ja2, Ja1, Ja4, Ja3, Jax, Jay, decide_true, decide_false, Bool.not_true, Bool.not_false, Bool.false_eq_true, if_true, if_false, true_and]
  refine ok_law_right (h.up (by decide)) fun μ' => ?_
  simp only [Jbu, initE, Jcw, Jci, Jbk, Jbl, Jbz, Jcr, Jcs, Jc8, Jco, Jbm, Jcy, Jbn, Jbt, Jdb, Jdc, Jda, Jdd, Jdi, Jdf, Jdg, Jde, Jc3, Jcc, Jd5, Jd4, Jc9, Jcl, Jd3, Jd2, Jcf, Jbr, Jd1, Jck, Jbj, Jcn, Jc7, Jbi, Jcm, Jcj, Jd7, Jd6, Jd9, Jbo, Jch, Jcq, Jc1, Jcx, Jcg, Jbp, Jct, Jcz, Jdk, Jdl, Jcd, Jcu, Jcv, Jc6, Jbq, Jc0, Jbw, Jce, gt, st, Jbb, Jb9, Jba, Jb7, Jbh, Ja5, atI0, atI1, atI2, atI3, atI4, ixN20, ixN21, List.map_cons, List.map_nil, List.cons_append, List.nil_append, List.append_nil, List.length_cons, List.length_nil, List.replicate_succ, List.replicate_zero, Nat.add_one_sub_one, Jd8, Jbs, Jbx, Jby, Jbv, Jae, Jag, Jah, Jaf, Jb6, Jav, Jaw, Jak, Jau, Jb3, Jat, Jas, Jam, Jal, Jb1, Jai, Jaj, Jaz, Jb0, Jap, Jb2, Jaq, Jar, Jan, Jao, Jb5, Jb4, Ja7, Ja8, Jac, Jab, Ja0, Ja9, Jaa, Jbf, Jbg, Ja6, Jad, Jbc, Jbe, Jbd, Jb8, Ja2, Ja1, Ja4, Ja3, Jax, Jay, decide_true, decide_false, Bool.not_true, Bool.not_false, Bool.false_eq_true, if_true, if_false, true_and]
  exact k μ'
theorem lap_ok {n : Nat} {t u : Tx} (h : Ag n u) (hn : n ≤ 3000000) (k : ∀ v, Ag (4 * n + 3) v → E.nx [some (.script sc), some .state, some (wD sgs71), some (wD known71), a4, some (.str (S t)), a6, some (.str (S v)), a8, a9, a10] μ) : lapW [some (.script sc), some .state, some (wD sgs71), some (wD known71), a4, some (.str (S t)), a6, some (.str (S u)), a8, a9, a10] μ E := by
  unfold lapW
  simp only [Jbu, initE, Jcw, Jci, Jbk, Jbl, Jbz, Jcr, Jcs, Jc8, Jco, Jbm, Jcy, Jbn, Jbt, Jdb, Jdc, Jda, Jdd, Jdi, Jdf, Jdg, Jde, Jc3, Jcc, Jd5, Jd4, Jc9, Jcl, Jd3, Jd2, Jcf, Jbr, Jd1, Jck, Jbj, Jcn, Jc7, Jbi, Jcm, Jcj, Jd7, Jd6, Jd9, Jbo, Jch, Jcq, Jc1, Jcx, Jcg, Jbp, Jct, Jcz, Jdk, Jdl, Jcd, Jcu, Jcv, Jc6, Jbq, Jc0, Jbw, Jce, gt, st, Jbb, Jb9, Jba, Jb7, Jbh, Ja5, atI0, atI1, atI2, atI3, atI4, ixN20, ixN21, List.map_cons, List.map_nil, List.cons_append, List.nil_append, List.append_nil, List.length_cons, List.length_nil, List.replicate_succ, List.replicate_zero, Nat.add_one_sub_one, Jd8, Jbs, Jbx, Jby, Jbv, Jae, Jag, Jah, Jaf, Jb6, Jav, Jaw, Jak, Jau, Jb3, Jat, Jas, Jam, Jal, Jb1, Jai, Jaj, Jaz, Jb0, Jap, Jb2, Jaq, Jar, Jan, Jao, Jb5, Jb4, Ja7, Ja8, Jac, Jab, Ja0, Ja9, Jaa, Jbf, Jbg, Ja6, Jad, Jbc, Jbe, Jbd, Jb8, Ja2, Ja1, Ja4, Ja3, Jax, Jay, decide_true, decide_false, Bool.not_true, Bool.not_false, Bool.false_eq_true, if_true, if_false, true_and]
  exact ok_bent_page h hn k
theorem chg_ok {t : Tx} (h : Ag 4340 t) (k : ∀ v x8, Ag 300000 v → E.nx [some (.script sc), some .state, some (wD sgs71), some (wD known71), a4, some (.str (S t)), a6, some (.str (S v)), x8, a9, a10] μ) : chgW [some (.script sc), some .state, some (wD sgs71), some (wD known71), a4, some (.str (S t)), a6, some (.str (S t)), a8, a9, a10] μ E := by
  unfold chgW
  simp only [Jbu, initE, Jcw, Jci, Jbk, Jbl, Jbz, Jcr, Jcs, Jc8, Jco, Jbm, Jcy, Jbn, Jbt, Jdb, Jdc, Jda, Jdd, Jdi, Jdf, Jdg, Jde, Jc3, Jcc, Jd5, Jd4, Jc9, Jcl, Jd3, Jd2, Jcf, Jbr, Jd1, Jck, Jbj, Jcn, Jc7, Jbi, Jcm, Jcj, Jd7, Jd6, Jd9, Jbo, Jch, Jcq, Jc1, Jcx, Jcg, Jbp, Jct, Jcz, Jdk, Jdl, Jcd, Jcu, Jcv, Jc6, Jbq, Jc0, Jbw, Jce, gt, st, Jbb, Jb9, Jba, Jb7, Jbh, Ja5, atI0, atI1, atI2, atI3, atI4, ixN20, ixN21, List.map_cons, List.map_nil, List.cons_append, List.nil_append, List.append_nil, List.length_cons, List.length_nil, List.replicate_succ, List.replicate_zero, Nat.add_one_sub_one, Jd8, Jbs, Jbx, Jby, Jbv, Jae, Jag, Jah, Jaf, Jb6, Jav, Jaw, Jak, Jau, Jb3, Jat, Jas, Jam, Jal, Jb1, Jai, Jaj, Jaz, Jb0, Jap, Jb2, Jaq, Jar, Jan, Jao, Jb5, Jb4, Ja7, Ja8, Jac, Jab, Ja0, Ja9, Jaa, Jbf, Jbg, Ja6, Jad, Jbc, Jbe, Jbd, Jb8, Ja2, Ja1, Ja4, Ja3, Jax, Jay, decide_true, decide_false, Bool.not_true, Bool.not_false, Bool.false_eq_true, if_true, if_false, true_and]
  refine take_b (m := 3) (by decide) (by decide) fun j hj => ?_
  simp only [Jbu, initE, Jcw, Jci, Jbk, Jbl, Jbz, Jcr, Jcs, Jc8, Jco, Jbm, Jcy, Jbn, Jbt, Jdb, Jdc, Jda, Jdd, Jdi, Jdf, Jdg, Jde, Jc3, Jcc, Jd5, Jd4, Jc9, Jcl, Jd3, Jd2, Jcf, Jbr, Jd1, Jck, Jbj, Jcn, Jc7, Jbi, Jcm, Jcj, Jd7, Jd6, Jd9, Jbo, Jch, Jcq, Jc1, Jcx, Jcg, Jbp, Jct, Jcz, Jdk, Jdl, Jcd, Jcu, Jcv, Jc6, Jbq, Jc0, Jbw, Jce, gt, st, Jbb, Jb9, Jba, Jb7, Jbh, Ja5, atI0, atI1, atI2, atI3, atI4, ixN20, ixN21, List.map_cons, List.map_nil, List.cons_append, List.nil_append, List.append_nil, List.length_cons, List.length_nil, List.replicate_succ, List.replicate_zero, Nat.add_one_sub_one, Jd8, Jbs, Jbx, Jby, Jbv, Jae, Jag, Jah, Jaf, Jb6, Jav, Jaw, Jak, Jau, Jb3, Jat, Jas, Jam, Jal, Jb1, Jai, Jaj, Jaz, Jb0, Jap, Jb2, Jaq, Jar, Jan, Jao, Jb5, Jb4, Ja7, Ja8, Jac, Jab, Ja0, Ja9, Jaa, Jbf, Jbg, Ja6, Jad, Jbc, Jbe, Jbd, Jb8, Ja2, Ja1, Ja4, Ja3, Jax, Jay, decide_true, decide_false, Bool.not_true, Bool.not_false, Bool.false_eq_true, if_true, if_false, true_and]
  refine ⟨⟨by omega, by omega⟩, by rw [rangeD_len]; omega, ?_⟩
  refine for_inv (fun i e μ' => μ' = μ ∧ i ≤ 3 ∧ ∃ v x8, e = [some (.script sc), some .state, some (wD sgs71), some (wD known71), a4, some (.str (S t)), a6, some (.str (S v)), x8, a9, a10] ∧ Ag (bn71 i) v) ⟨rfl, by decide, t, _, rfl, h⟩ ?_ ?_
  · rintro i x e μ' N hx ⟨rfl, i3, v, x8, rfl, hv⟩ hN
    have li := (List.getElem?_eq_some_iff.mp hx).1
    rw [rangeD_len] at li
    have := bn_le i i3
    refine ⟨trivial, ?_⟩
    simp only [Jdb]
    exact lap_ok hv (by omega) fun u hu => hN _ _ ⟨rfl, by omega, u, _, rfl, hu⟩
  · rintro e μ' ⟨rfl, i3, v, x8, rfl, hv⟩
    exact ⟨trivial, k v x8 (hv.up (bn_le _ i3))⟩
theorem jdg_ok {u : Tx} (h : Ag 500000 u) (k : ∀ μ', E.nx [some (.script sc), some .state, a2, a3, a4, a5, a6, some (.str (S u)), a8, a9, a10] μ') : jdgW [some (.script sc), some .state, a2, a3, a4, a5, a6, some (.str (S u)), a8, a9, a10] μ E := by
  unfold jdgW
  simp only [Jbu, initE, Jcw, Jci, Jbk, Jbl, Jbz, Jcr, Jcs, Jc8, Jco, Jbm, Jcy, Jbn, Jbt, Jdb, Jdc, Jda, Jdd, Jdi, Jdf, Jdg, Jde, Jc3, Jcc, Jd5, Jd4, Jc9, Jcl, Jd3, Jd2, Jcf, Jbr, Jd1, Jck, Jbj, Jcn, Jc7, Jbi, Jcm, Jcj, Jd7, Jd6, Jd9, Jbo, Jch, Jcq, Jc1, Jcx, Jcg, Jbp, Jct, Jcz, Jdk, Jdl, Jcd, Jcu, Jcv, Jc6, Jbq, Jc0, Jbw, Jce, gt, st, Jbb, Jb9, Jba, Jb7, Jbh, Ja5, atI0, atI1, atI2, atI3, atI4, ixN20, ixN21, List.map_cons, List.map_nil, List.cons_append, List.nil_append, List.append_nil, List.length_cons, List.length_nil, List.replicate_succ, List.replicate_zero, Nat.add_one_sub_one, Jd8, Jbs, Jbx, Jby, Jbv, Jae, Jag, Jah, Jaf, Jb6, Jav, Jaw, Jak, Jau, Jb3, Jat, Jas, Jam, Jal, Jb1, Jai, Jaj, Jaz, Jb0, Jap, Jb2, Jaq, Jar, Jan, Jao, Jb5, Jb4, Ja7, Ja8, Jac, Jab, Ja0, Ja9, Jaa, Jbf, Jbg, Ja6, Jad, Jbc, Jbe, Jbd, Jb8, Ja2, Ja1, Ja4, Ja3, Jax, Jay, decide_true, decide_false, Bool.not_true, Bool.not_false, Bool.false_eq_true, if_true, if_false, true_and]
  refine ok_law_right h fun μ' => ?_
  simp only [Jbu, initE, Jcw, Jci, Jbk, Jbl, Jbz, Jcr, Jcs, Jc8, Jco, Jbm, Jcy, Jbn, Jbt, Jdb, Jdc, Jda, Jdd, Jdi, Jdf, Jdg, Jde, Jc3, Jcc, Jd5, Jd4, Jc9, Jcl, Jd3, Jd2, Jcf, Jbr, Jd1, Jck, Jbj, Jcn, Jc7, Jbi, Jcm, Jcj, Jd7, Jd6, Jd9, Jbo, Jch, Jcq, Jc1, Jcx, Jcg, Jbp, Jct, Jcz, Jdk, Jdl, Jcd, Jcu, Jcv, Jc6, Jbq, Jc0, Jbw, Jce, gt, st, Jbb, Jb9, Jba, Jb7, Jbh, Ja5, atI0, atI1, atI2, atI3, atI4, ixN20, ixN21, List.map_cons, List.map_nil, List.cons_append, List.nil_append, List.append_nil, List.length_cons, List.length_nil, List.replicate_succ, List.replicate_zero, Nat.add_one_sub_one, Jd8, Jbs, Jbx, Jby, Jbv, Jae, Jag, Jah, Jaf, Jb6, Jav, Jaw, Jak, Jau, Jb3, Jat, Jas, Jam, Jal, Jb1, Jai, Jaj, Jaz, Jb0, Jap, Jb2, Jaq, Jar, Jan, Jao, Jb5, Jb4, Ja7, Ja8, Jac, Jab, Ja0, Ja9, Jaa, Jbf, Jbg, Ja6, Jad, Jbc, Jbe, Jbd, Jb8, Ja2, Ja1, Ja4, Ja3, Jax, Jay, decide_true, decide_false, Bool.not_true, Bool.not_false, Bool.false_eq_true, if_true, if_false, true_and]
  exact k μ'
theorem s42_ok {t : Tx} (h : Ag 4340 t) (k : ∀ (a2 a3 a4 a5 a6 a7 a8 a9 a10 : Option D) μ', E.nx [some (.script sc), some .state, some (wD sgs71), some (wD known71), a4, a5, a6, a7, a8, a9, a10] μ') : ws_4_2 [some (.script sc), some .state, some (wD sgs71), some (wD known71), a4, some (.str (S t)), a6, a7, a8, a9, a10] μ E := by
  show wFor (wiRng1 (waCons (wK (.int 5)) waNil)) (wgN 6) lapsW _ μ E
  simp only [Jbu, initE, Jcw, Jci, Jbk, Jbl, Jbz, Jcr, Jcs, Jc8, Jco, Jbm, Jcy, Jbn, Jbt, Jdb, Jdc, Jda, Jdd, Jdi, Jdf, Jdg, Jde, Jc3, Jcc, Jd5, Jd4, Jc9, Jcl, Jd3, Jd2, Jcf, Jbr, Jd1, Jck, Jbj, Jcn, Jc7, Jbi, Jcm, Jcj, Jd7, Jd6, Jd9, Jbo, Jch, Jcq, Jc1, Jcx, Jcg, Jbp, Jct, Jcz, Jdk, Jdl, Jcd, Jcu, Jcv, Jc6, Jbq, Jc0, Jbw, Jce, gt, st, Jbb, Jb9, Jba, Jb7, Jbh, Ja5, atI0, atI1, atI2, atI3, atI4, ixN20, ixN21, List.map_cons, List.map_nil, List.cons_append, List.nil_append, List.append_nil, List.length_cons, List.length_nil, List.replicate_succ, List.replicate_zero, Nat.add_one_sub_one, Jd8, Jbs, Jbx, Jby, Jbv, Jae, Jag, Jah, Jaf, Jb6, Jav, Jaw, Jak, Jau, Jb3, Jat, Jas, Jam, Jal, Jb1, Jai, Jaj, Jaz, Jb0, Jap, Jb2, Jaq, Jar, Jan, Jao, Jb5, Jb4, Ja7, Ja8, Jac, Jab, Ja0, Ja9, Jaa, Jbf, Jbg, Ja6, Jad, Jbc, Jbe, Jbd, Jb8, Ja2, Ja1, Ja4, Ja3, Jax, Jay, decide_true, decide_false, Bool.not_true, Bool.not_false, Bool.false_eq_true, if_true, if_false, true_and]
  refine ⟨⟨by decide, by decide⟩, by decide, ?_⟩
  refine for_inv (fun i e μ' => ∃ (a2 a3 a4 a5 a6 a7 a8 a9 a10 : Option D), e = [some (.script sc), some .state, some (wD sgs71), some (wD known71), a4, some (.str (S t)), a6, a7, a8, a9, a10]) ⟨none, none, _, none, _, _, _, _, _, rfl⟩ ?_ ?_
  · rintro i x e μ' N hx ⟨a2, a3, a4, a5, a6, a7, a8, a9, a10, rfl⟩ hN
    refine ⟨trivial, ?_⟩
    simp only [Jdb]
    show lapsW [some (.script sc), some .state, some (wD sgs71), some (wD known71), a4, some (.str (S t)), some x, a7, a8, a9, a10] μ' _
    unfold lapsW
    simp only [Jcw, Jbk, Jd4, gt, st]
    refine chg_ok h fun v x8 hv => ?_
    exact jdg_ok (hv.up (by decide)) fun μ2 => hN _ _ ⟨none, none, _, none, _, _, _, _, _, rfl⟩
  · rintro e μ' ⟨a2, a3, a4, a5, a6, a7, a8, a9, a10, rfl⟩
    exact ⟨trivial, k none none _ _ _ _ _ _ _ _⟩
theorem s43_ok (k : ∀ μ', E.nx [some (.script sc), some .state, some (wD sgs71), some (wD known71), a4, a5, a6, a7, a8, a9, a10] μ') : ws_4_3 [some (.script sc), some .state, some (wD sgs71), some (wD known71), a4, a5, a6, a7, a8, a9, a10] μ E := by
  unfold ws_4_3
  simp only [Jbu, initE, Jcw, Jci, Jbk, Jbl, Jbz, Jcr, Jcs, Jc8, Jco, Jbm, Jcy, Jbn, Jbt, Jdb, Jdc, Jda, Jdd, Jdi, Jdf, Jdg, Jde, Jc3, Jcc, Jd5, Jd4, Jc9, Jcl, Jd3, Jd2, Jcf, Jbr, Jd1, Jck, Jbj, Jcn, Jc7, Jbi, Jcm, Jcj, Jd7, Jd6, Jd9, Jbo, Jch, Jcq, Jc1, Jcx, Jcg, Jbp, Jct, Jcz, Jdk, Jdl, Jcd, Jcu, Jcv, Jc6, Jbq, Jc0, Jbw, Jce, gt, st, Jbb, Jb9, Jba, Jb7, Jbh, Ja5, atI0, atI1, atI2, atI3, atI4, ixN20, ixN21, List.map_cons, List.map_nil, List.cons_append, List.nil_append, List.append_nil, List.length_cons, List.length_nil, List.replicate_succ, List.replicate_zero, Nat.add_one_sub_one, Jd8, Jbs, Jbx, Jby, Jbv, Jae, Jag, Jah, Jaf, Jb6, Jav, Jaw, Jak, Jau, Jb3, Jat, Jas, Jam, Jal, Jb1, Jai, Jaj, Jaz, Jb0, Jap, Jb2, Jaq, Jar, Jan, Jao, Jb5, Jb4, Ja7, Ja8, Jac, Jab, Ja0, Ja9, Jaa, Jbf, Jbg, Ja6, Jad, Jbc, Jbe, Jbd, Jb8, Ja2, Ja1, Ja4, Ja3, Jax, Jay, decide_true, decide_false, Bool.not_true, Bool.not_false, Bool.false_eq_true, if_true, if_false, true_and]
  refine pick_S (by decide) (by decide) fun w hw => ?_
  refine ok_law_right (known_ag w hw) fun μ' => ?_
  simp only [Jbu, initE, Jcw, Jci, Jbk, Jbl, Jbz, Jcr, Jcs, Jc8, Jco, Jbm, Jcy, Jbn, Jbt, Jdb, Jdc, Jda, Jdd, Jdi, Jdf, Jdg, Jde, Jc3, Jcc, Jd5, Jd4, Jc9, Jcl, Jd3, Jd2, Jcf, Jbr, Jd1, Jck, Jbj, Jcn, Jc7, Jbi, Jcm, Jcj, Jd7, Jd6, Jd9, Jbo, Jch, Jcq, Jc1, Jcx, Jcg, Jbp, Jct, Jcz, Jdk, Jdl, Jcd, Jcu, Jcv, Jc6, Jbq, Jc0, Jbw, Jce, gt, st, Jbb, Jb9, Jba, Jb7, Jbh, Ja5, atI0, atI1, atI2, atI3, atI4, ixN20, ixN21, List.map_cons, List.map_nil, List.cons_append, List.nil_append, List.append_nil, List.length_cons, List.length_nil, List.replicate_succ, List.replicate_zero, Nat.add_one_sub_one, Jd8, Jbs, Jbx, Jby, Jbv, Jae, Jag, Jah, Jaf, Jb6, Jav, Jaw, Jak, Jau, Jb3, Jat, Jas, Jam, Jal, Jb1, Jai, Jaj, Jaz, Jb0, Jap, Jb2, Jaq, Jar, Jan, Jao, Jb5, Jb4, Ja7, Ja8, Jac, Jab, Ja0, Ja9, Jaa, Jbf, Jbg, Ja6, Jad, Jbc, Jbe, Jbd, Jb8, Ja2, Ja1, Ja4, Ja3, Jax, Jay, decide_true, decide_false, Bool.not_true, Bool.not_false, Bool.false_eq_true, if_true, if_false, true_and]
  exact k μ'
theorem s44_ok (k : ∀ x ∈ odd71, E.nx [some (.script sc), some .state, some (wD sgs71), some (wD known71), a4, a5, a6, a7, a8, some x, a10] μ) : ws_4_4 [some (.script sc), some .state, some (wD sgs71), some (wD known71), a4, a5, a6, a7, a8, a9, a10] μ E := by
  unfold ws_4_4
  simp only [Jbu, initE, Jcw, Jci, Jbk, Jbl, Jbz, Jcr, Jcs, Jc8, Jco, Jbm, Jcy, Jbn, Jbt, Jdb, Jdc, Jda, Jdd, Jdi, Jdf, Jdg, Jde, Jc3, Jcc, Jd5, Jd4, Jc9, Jcl, Jd3, Jd2, Jcf, Jbr, Jd1, Jck, Jbj, Jcn, Jc7, Jbi, Jcm, Jcj, Jd7, Jd6, Jd9, Jbo, Jch, Jcq, Jc1, Jcx, Jcg, Jbp, Jct, Jcz, Jdk, Jdl, Jcd, Jcu, Jcv, Jc6, Jbq, Jc0, Jbw, Jce, gt, st, Jbb, Jb9, Jba, Jb7, Jbh, Ja5, atI0, atI1, atI2, atI3, atI4, ixN20, ixN21, List.map_cons, List.map_nil, List.cons_append, List.nil_append, List.append_nil, List.length_cons, List.length_nil, List.replicate_succ, List.replicate_zero, Nat.add_one_sub_one, Jd8, Jbs, Jbx, Jby, Jbv, Jae, Jag, Jah, Jaf, Jb6, Jav, Jaw, Jak, Jau, Jb3, Jat, Jas, Jam, Jal, Jb1, Jai, Jaj, Jaz, Jb0, Jap, Jb2, Jaq, Jar, Jan, Jao, Jb5, Jb4, Ja7, Ja8, Jac, Jab, Ja0, Ja9, Jaa, Jbf, Jbg, Ja6, Jad, Jbc, Jbe, Jbd, Jb8, Ja2, Ja1, Ja4, Ja3, Jax, Jay, decide_true, decide_false, Bool.not_true, Bool.not_false, Bool.false_eq_true, if_true, if_false, true_and]
  repeat refine And.intro (by decide) ?_
  intro p hp
  refine mk_RuleQ71 (ns := [1]) rfl (fun _ z => by cases z) (by decide) hp ?_
  refine ⟨by decide, by decide, by rw [sizeLine_eq]; decide, ?_⟩
  exact ok_pick (ds := odd71) rfl (fun z => by cases z) (by decide) fun x hx => k x hx
theorem ok_read_no {x : D} (hx : x ∈ odd71) (k : X btD μ) : wp_read_rule [x] μ Q X := by
  have go : ∀ {t : TyD}, tyD μ x = some t → isiD t (.ty "str") = some false → wp_read_rule [x] μ Q X := fun {t} ht hi => by
    unfold wp_read_rule
    simp only [Jbu, initE, Jcw, Jci, Jbk, Jbl, Jbz, Jcr, Jcs, Jc8, Jco, Jbm, Jcy, Jbn, Jbt, Jdb, Jdc, Jda, Jdd, Jdi, Jdf, Jdg, Jde, Jc3, Jcc, Jd5, Jd4, Jc9, Jcl, Jd3, Jd2, Jcf, Jbr, Jd1, Jck, Jbj, Jcn, Jc7, Jbi, Jcm, Jcj, Jd7, Jd6, Jd9, Jbo, Jch, Jcq, Jc1, Jcx, Jcg, Jbp, Jct, Jcz, Jdk, Jdl, Jcd, Jcu, Jcv, Jc6, Jbq, Jc0, Jbw, Jce, gt, st, Jbb, Jb9, Jba, Jb7, Jbh, Ja5, atI0, atI1, atI2, atI3, atI4, ixN20, ixN21, List.map_cons, List.map_nil, List.cons_append, List.nil_append, List.append_nil, List.length_cons, List.length_nil, List.replicate_succ, List.replicate_zero, Nat.add_one_sub_one, Jd8, Jbs, Jbx, Jby, Jbv, Jae, Jag, Jah, Jaf, Jb6, Jav, Jaw, Jak, Jau, Jb3, Jat, Jas, Jam, Jal, Jb1, Jai, Jaj, Jaz, Jb0, Jap, Jb2, Jaq, Jar, Jan, Jao, Jb5, Jb4, Ja7, Ja8, Jac, Jab, Ja0, Ja9, Jaa, Jbf, Jbg, Ja6, Jad, Jbc, Jbe, Jbd, Jb8, Ja2, Ja1, Ja4, Ja3, Jax, Jay, decide_true, decide_false, Bool.not_true, Bool.not_false, Bool.false_eq_true, if_true, if_false, true_and, cbIsi, two, ht, hi, isNone]
    exact k
  simp only [odd71, List.mem_cons, List.not_mem_nil, or_false] at hx
  rcases hx with rfl | rfl | rfl | rfl | rfl | rfl | rfl | rfl | rfl | rfl
  all_goals exact go rfl rfl
theorem s45_ok {x : D} (hx : x ∈ odd71) (k : E.nx [some (.script sc), some .state, some (wD sgs71), some (wD known71), a4, a5, a6, a7, a8, some x, some btD] μ) : ws_4_5 [some (.script sc), some .state, some (wD sgs71), some (wD known71), a4, a5, a6, a7, a8, some x, a10] μ E := by
  unfold ws_4_5
  simp only [Jbk, Jbq, Jbo, Jd6, Jd7, Jd4, gt]
  refine ok_read_no hx ⟨by decide, ?_⟩
  exact k
theorem is_bt71 {QQ : QR} {X : QD} : cbIsi [btD, .cls "BadText"] μ QQ X = QQ (.v (.bool true)) μ := propext Iff.rfl
theorem repr71 (q : QQ (.v (.str "0")) μ) : cbRepr [.int 0] μ QQ X := ok_repr (L := 501) (k := 0) rfl rfl (sh_int (by decide +kernel) (Nat.le_refl _)) (by decide) (by decide) (by
  have e : (pd (.int 0)).shown = "0" := by decide +kernel
  rw [e]
  exact q)
theorem s46_ok (k : E.nx [some (.script sc), some .state, some (wD sgs71), some (wD known71), a4, a5, a6, a7, a8, x9, some btD] μ) : ws_4_6 [some (.script sc), some .state, some (wD sgs71), some (wD known71), a4, a5, a6, a7, a8, x9, some btD] μ E := by
  unfold ws_4_6
  simp only [Jbu, initE, Jcw, Jci, Jbk, Jbl, Jbz, Jcr, Jcs, Jc8, Jco, Jbm, Jcy, Jbn, Jbt, Jdb, Jdc, Jda, Jdd, Jdi, Jdf, Jdg, Jde, Jc3, Jcc, Jd5, Jd4, Jc9, Jcl, Jd3, Jd2, Jcf, Jbr, Jd1, Jck, Jbj, Jcn, Jc7, Jbi, Jcm, Jcj, Jd7, Jd6, Jd9, Jbo, Jch, Jcq, Jc1, Jcx, Jcg, Jbp, Jct, Jcz, Jdk, Jdl, Jcd, Jcu, Jcv, Jc6, Jbq, Jc0, Jbw, Jce, gt, st, Jbb, Jb9, Jba, Jb7, Jbh, Ja5, atI0, atI1, atI2, atI3, atI4, ixN20, ixN21, List.map_cons, List.map_nil, List.cons_append, List.nil_append, List.append_nil, List.length_cons, List.length_nil, List.replicate_succ, List.replicate_zero, Nat.add_one_sub_one, Jd8, Jbs, Jbx, Jby, Jbv, Jae, Jag, Jah, Jaf, Jb6, Jav, Jaw, Jak, Jau, Jb3, Jat, Jas, Jam, Jal, Jb1, Jai, Jaj, Jaz, Jb0, Jap, Jb2, Jaq, Jar, Jan, Jao, Jb5, Jb4, Ja7, Ja8, Jac, Jab, Ja0, Ja9, Jaa, Jbf, Jbg, Ja6, Jad, Jbc, Jbe, Jbd, Jb8, Ja2, Ja1, Ja4, Ja3, Jax, Jay, decide_true, decide_false, Bool.not_true, Bool.not_false, Bool.false_eq_true, if_true, if_false, true_and]
  rw [is_bt71]
  simp only [Jbu, initE, Jcw, Jci, Jbk, Jbl, Jbz, Jcr, Jcs, Jc8, Jco, Jbm, Jcy, Jbn, Jbt, Jdb, Jdc, Jda, Jdd, Jdi, Jdf, Jdg, Jde, Jc3, Jcc, Jd5, Jd4, Jc9, Jcl, Jd3, Jd2, Jcf, Jbr, Jd1, Jck, Jbj, Jcn, Jc7, Jbi, Jcm, Jcj, Jd7, Jd6, Jd9, Jbo, Jch, Jcq, Jc1, Jcx, Jcg, Jbp, Jct, Jcz, Jdk, Jdl, Jcd, Jcu, Jcv, Jc6, Jbq, Jc0, Jbw, Jce, gt, st, Jbb, Jb9, Jba, Jb7, Jbh, Ja5, atI0, atI1, atI2, atI3, atI4, ixN20, ixN21, List.map_cons, List.map_nil, List.cons_append, List.nil_append, List.append_nil, List.length_cons, List.length_nil, List.replicate_succ, List.replicate_zero, Nat.add_one_sub_one, Jd8, Jbs, Jbx, Jby, Jbv, Jae, Jag, Jah, Jaf, Jb6, Jav, Jaw, Jak, Jau, Jb3, Jat, Jas, Jam, Jal, Jb1, Jai, Jaj, Jaz, Jb0, Jap, Jb2, Jaq, Jar, Jan, Jao, Jb5, Jb4, Ja7, Ja8, Jac, Jab, Ja0, Ja9, Jaa, Jbf, Jbg, Ja6, Jad, Jbc, Jbe, Jbd, Jb8, Ja2, Ja1, Ja4, Ja3, Jax, Jay, decide_true, decide_false, Bool.not_true, Bool.not_false, Bool.false_eq_true, if_true, if_false, true_and, fldD]
  refine repr71 ?_
  simp only [Jbu, initE, Jcw, Jci, Jbk, Jbl, Jbz, Jcr, Jcs, Jc8, Jco, Jbm, Jcy, Jbn, Jbt, Jdb, Jdc, Jda, Jdd, Jdi, Jdf, Jdg, Jde, Jc3, Jcc, Jd5, Jd4, Jc9, Jcl, Jd3, Jd2, Jcf, Jbr, Jd1, Jck, Jbj, Jcn, Jc7, Jbi, Jcm, Jcj, Jd7, Jd6, Jd9, Jbo, Jch, Jcq, Jc1, Jcx, Jcg, Jbp, Jct, Jcz, Jdk, Jdl, Jcd, Jcu, Jcv, Jc6, Jbq, Jc0, Jbw, Jce, gt, st, Jbb, Jb9, Jba, Jb7, Jbh, Ja5, atI0, atI1, atI2, atI3, atI4, ixN20, ixN21, List.map_cons, List.map_nil, List.cons_append, List.nil_append, List.append_nil, List.length_cons, List.length_nil, List.replicate_succ, List.replicate_zero, Nat.add_one_sub_one, Jd8, Jbs, Jbx, Jby, Jbv, Jae, Jag, Jah, Jaf, Jb6, Jav, Jaw, Jak, Jau, Jb3, Jat, Jas, Jam, Jal, Jb1, Jai, Jaj, Jaz, Jb0, Jap, Jb2, Jaq, Jar, Jan, Jao, Jb5, Jb4, Ja7, Ja8, Jac, Jab, Ja0, Ja9, Jaa, Jbf, Jbg, Ja6, Jad, Jbc, Jbe, Jbd, Jb8, Ja2, Ja1, Ja4, Ja3, Jax, Jay, decide_true, decide_false, Bool.not_true, Bool.not_false, Bool.false_eq_true, if_true, if_false, true_and]
  exact k
theorem turn_ok (k : ∀ (a2 a3 a4 a5 a6 a7 a8 a9 a10 : Option D) μ', E.nx [some (.script sc), some .state, some (wD sgs71), some (wD known71), a4, a5, a6, a7, a8, a9, a10] μ') : wb_4 [some (.script sc), some .state, some (wD sgs71), some (wD known71), a4, a5, a6, a7, a8, a9, a10] μ E := by
  unfold wb_4
  simp only [Jcw]
  refine s40_ok fun t ht => ?_
  refine s41_ok ht fun μ1 => ?_
  refine s42_ok ht fun a2 a3 a4 a5 a6 a7 a8 a9 a10 μ2 => ?_
  refine s43_ok fun μ3 => ?_
  refine s44_ok fun x hx => ?_
  refine s45_ok hx ?_
  dsimp only
  exact s46_ok (k none none _ _ _ _ _ _ _ _)
theorem last_ok (k : ∀ μ', E.rt (.bool true) μ') : ws_5 [some (.script sc), some .state, some (wD sgs71), some (wD known71), a4, a5, a6, a7, a8, a9, a10] μ E := by
  unfold ws_5
  simp only [Jbu, initE, Jcw, Jci, Jbk, Jbl, Jbz, Jcr, Jcs, Jc8, Jco, Jbm, Jcy, Jbn, Jbt, Jdb, Jdc, Jda, Jdd, Jdi, Jdf, Jdg, Jde, Jc3, Jcc, Jd5, Jd4, Jc9, Jcl, Jd3, Jd2, Jcf, Jbr, Jd1, Jck, Jbj, Jcn, Jc7, Jbi, Jcm, Jcj, Jd7, Jd6, Jd9, Jbo, Jch, Jcq, Jc1, Jcx, Jcg, Jbp, Jct, Jcz, Jdk, Jdl, Jcd, Jcu, Jcv, Jc6, Jbq, Jc0, Jbw, Jce, gt, st, Jbb, Jb9, Jba, Jb7, Jbh, Ja5, atI0, atI1, atI2, atI3, atI4, ixN20, ixN21, List.map_cons, List.map_nil, List.cons_append, List.nil_append, List.append_nil, List.length_cons, List.length_nil, List.replicate_succ, List.replicate_zero, Nat.add_one_sub_one, Jd8, Jbs, Jbx, Jby, Jbv, Jae, Jag, Jah, Jaf, Jb6, Jav, Jaw, Jak, Jau, Jb3, Jat, Jas, Jam, Jal, Jb1, Jai, Jaj, Jaz, Jb0, Jap, Jb2, Jaq, Jar, Jan, Jao, Jb5, Jb4, Ja7, Ja8, Jac, Jab, Ja0, Ja9, Jaa, Jbf, Jbg, Ja6, Jad, Jbc, Jbe, Jbd, Jb8, Ja2, Ja1, Ja4, Ja3, Jax, Jay, decide_true, decide_false, Bool.not_true, Bool.not_false, Bool.false_eq_true, if_true, if_false, true_and]
  have kl : known71.length = 25 := by decide
  refine ⟨by rw [List.length_map, kl, sizeLine_eq]; decide, lc_inv (fun i acc μ' => acc = []) rfl ?_ ?_⟩
  · rintro i x acc μ' N hx rfl hN
    have hx2 : (known71.map fun w => D.str (S w))[i]? = some x := hx
    rw [List.getElem?_map] at hx2
    obtain ⟨w, hw, rfl⟩ := Option.map_eq_some_iff.mp hx2
    refine ⟨trivial, ?_⟩
    simp only [Jbu, initE, Jcw, Jci, Jbk, Jbl, Jbz, Jcr, Jcs, Jc8, Jco, Jbm, Jcy, Jbn, Jbt, Jdb, Jdc, Jda, Jdd, Jdi, Jdf, Jdg, Jde, Jc3, Jcc, Jd5, Jd4, Jc9, Jcl, Jd3, Jd2, Jcf, Jbr, Jd1, Jck, Jbj, Jcn, Jc7, Jbi, Jcm, Jcj, Jd7, Jd6, Jd9, Jbo, Jch, Jcq, Jc1, Jcx, Jcg, Jbp, Jct, Jcz, Jdk, Jdl, Jcd, Jcu, Jcv, Jc6, Jbq, Jc0, Jbw, Jce, gt, st, Jbb, Jb9, Jba, Jb7, Jbh, Ja5, atI0, atI1, atI2, atI3, atI4, ixN20, ixN21, List.map_cons, List.map_nil, List.cons_append, List.nil_append, List.append_nil, List.length_cons, List.length_nil, List.replicate_succ, List.replicate_zero, Nat.add_one_sub_one, Jd8, Jbs, Jbx, Jby, Jbv, Jae, Jag, Jah, Jaf, Jb6, Jav, Jaw, Jak, Jau, Jb3, Jat, Jas, Jam, Jal, Jb1, Jai, Jaj, Jaz, Jb0, Jap, Jb2, Jaq, Jar, Jan, Jao, Jb5, Jb4, Ja7, Ja8, Jac, Jab, Ja0, Ja9, Jaa, Jbf, Jbg, Ja6, Jad, Jbc, Jbe, Jbd, Jb8, Ja2, Ja1, Ja4, Ja3, Jax, Jay, decide_true, decide_false, Bool.not_true, Bool.not_false, Bool.false_eq_true, if_true, if_false, true_and, wipeE]
    refine ok_law_right (known_ag w (List.mem_of_getElem? hw)) fun μ2 => ?_
    simp only [Jbu, initE, Jcw, Jci, Jbk, Jbl, Jbz, Jcr, Jcs, Jc8, Jco, Jbm, Jcy, Jbn, Jbt, Jdb, Jdc, Jda, Jdd, Jdi, Jdf, Jdg, Jde, Jc3, Jcc, Jd5, Jd4, Jc9, Jcl, Jd3, Jd2, Jcf, Jbr, Jd1, Jck, Jbj, Jcn, Jc7, Jbi, Jcm, Jcj, Jd7, Jd6, Jd9, Jbo, Jch, Jcq, Jc1, Jcx, Jcg, Jbp, Jct, Jcz, Jdk, Jdl, Jcd, Jcu, Jcv, Jc6, Jbq, Jc0, Jbw, Jce, gt, st, Jbb, Jb9, Jba, Jb7, Jbh, Ja5, atI0, atI1, atI2, atI3, atI4, ixN20, ixN21, List.map_cons, List.map_nil, List.cons_append, List.nil_append, List.append_nil, List.length_cons, List.length_nil, List.replicate_succ, List.replicate_zero, Nat.add_one_sub_one, Jd8, Jbs, Jbx, Jby, Jbv, Jae, Jag, Jah, Jaf, Jb6, Jav, Jaw, Jak, Jau, Jb3, Jat, Jas, Jam, Jal, Jb1, Jai, Jaj, Jaz, Jb0, Jap, Jb2, Jaq, Jar, Jan, Jao, Jb5, Jb4, Ja7, Ja8, Jac, Jab, Ja0, Ja9, Jaa, Jbf, Jbg, Ja6, Jad, Jbc, Jbe, Jbd, Jb8, Ja2, Ja1, Ja4, Ja3, Jax, Jay, decide_true, decide_false, Bool.not_true, Bool.not_false, Bool.false_eq_true, if_true, if_false, true_and, wipeE]
    exact hN _ _ rfl
  · rintro acc μ' rfl
    refine ⟨trivial, by decide, ?_⟩
    exact same_l (xs := []) (X := fun _ _ => False) rfl (by decide +kernel) (k _)
end
theorem law_ok : ∀ ns : List Int, ns.length ≤ 63 → wr_law (some (.script ns) :: some .state :: List.replicate (11 - 2) Option.none) (fun _ => Option.none) lawEnds := by
  intro sc hl
  unfold wr_law
  have el : cbLen [.script sc] = fun μ Q _ => Q (.v (.int sc.length)) μ := by
    funext μ Q X
    simp [cbLen, one, sqD, iL_len]
  simp only [Jcw]
  refine s0_ok ?_
  refine s123_ok ?_
  unfold ws_4
  simp only [Jbu, initE, Jcw, Jci, Jbk, Jbl, Jbz, Jcr, Jcs, Jc8, Jco, Jbm, Jcy, Jbn, Jbt, Jdb, Jdc, Jda, Jdd, Jdi, Jdf, Jdg, Jde, Jc3, Jcc, Jd5, Jd4, Jc9, Jcl, Jd3, Jd2, Jcf, Jbr, Jd1, Jck, Jbj, Jcn, Jc7, Jbi, Jcm, Jcj, Jd7, Jd6, Jd9, Jbo, Jch, Jcq, Jc1, Jcx, Jcg, Jbp, Jct, Jcz, Jdk, Jdl, Jcd, Jcu, Jcv, Jc6, Jbq, Jc0, Jbw, Jce, gt, st, Jbb, Jb9, Jba, Jb7, Jbh, Ja5, atI0, atI1, atI2, atI3, atI4, ixN20, ixN21, List.map_cons, List.map_nil, List.cons_append, List.nil_append, List.append_nil, List.length_cons, List.length_nil, List.replicate_succ, List.replicate_zero, Nat.add_one_sub_one, Jd8, Jbs, Jbx, Jby, Jbv, Jae, Jag, Jah, Jaf, Jb6, Jav, Jaw, Jak, Jau, Jb3, Jat, Jas, Jam, Jal, Jb1, Jai, Jaj, Jaz, Jb0, Jap, Jb2, Jaq, Jar, Jan, Jao, Jb5, Jb4, Ja7, Ja8, Jac, Jab, Ja0, Ja9, Jaa, Jbf, Jbg, Ja6, Jad, Jbc, Jbe, Jbd, Jb8, Ja2, Ja1, Ja4, Ja3, Jax, Jay, decide_true, decide_false, Bool.not_true, Bool.not_false, Bool.false_eq_true, if_true, if_false, true_and, el]
  refine ⟨⟨by split <;> omega, by split <;> omega⟩, by rw [rangeD_len]; split <;> omega, ?_⟩
  refine for_inv (fun i e μ' => ∃ (a2 a3 a4 a5 a6 a7 a8 a9 a10 : Option D), e = [some (.script sc), some .state, some (wD sgs71), some (wD known71), a4, a5, a6, a7, a8, a9, a10]) ⟨none, none, _, _, _, _, _, _, _, rfl⟩ ?_ ?_
  · rintro i x e μ' N hx ⟨a2, a3, a4, a5, a6, a7, a8, a9, a10, rfl⟩ hN
    refine ⟨trivial, ?_⟩
    simp only [Jdb]
    show wb_4 [some (.script sc), some .state, some (wD sgs71), some (wD known71), some x, a5, a6, a7, a8, a9, a10] μ' _
    exact turn_ok fun a2 a3 a4 a5 a6 a7 a8 a9 a10 μ2 => hN _ _ ⟨none, none, _, _, _, _, _, _, _, rfl⟩
  · rintro e μ' ⟨a2, a3, a4, a5, a6, a7, a8, a9, a10, rfl⟩
    refine ⟨trivial, ?_⟩
    exact last_ok fun _ => rfl
end DL

set_option Elab.async false
set_option linter.all false
set_option maxRecDepth 100000
set_option maxHeartbeats 0
set_option exponentiation.threshold 100000
namespace KLaw
open PySem PySem.Spec PyProof.Rows L2 DL
theorem n_Rule : ("Rule" : Str) ∈ nsL := by decide
theorem e_BadRule : ("BadRule" : Str) ∈ esL := by decide
theorem e_BadPower : ("BadPower" : Str) ∈ esL := by decide
theorem e_BadText : ("BadText" : Str) ∈ esL := by decide
theorem i_BadProgram : ("BadProgram" : Str) ∈ nsL ++ esL := by decide
theorem i_BadText : ("BadText" : Str) ∈ nsL ++ esL := by decide
abbrev N_law_mixed : List Str := ["_law_state", "_law_turn", "_law_found", "_law_prime", "_law_blend", "_law_cell"]
theorem sc_law_mixed : FnScope N_law_mixed ["_law_state"] (defScope (topS 37)) := ⟨rfl, rfl, rfl, by decide +kernel, rfl, by decide +kernel, by decide +kernel⟩
abbrev N_law_take : List Str := ["_law_state", "_law_size", "_law_found"]
theorem sc_law_take : FnScope N_law_take ["_law_state", "_law_size"] (defScope (topS 38)) := ⟨rfl, rfl, rfl, by decide +kernel, rfl, by decide +kernel, by decide +kernel⟩
abbrev N_law_pick : List Str := ["_law_state", "_law_some"]
theorem sc_law_pick : FnScope N_law_pick ["_law_state", "_law_some"] (defScope (topS 39)) := ⟨rfl, rfl, rfl, by decide +kernel, rfl, by decide +kernel, by decide +kernel⟩
abbrev N_law_number : List Str := ["_law_state", "_law_great", "_law_size"]
theorem sc_law_number : FnScope N_law_number ["_law_state", "_law_great"] (defScope (topS 40)) := ⟨rfl, rfl, rfl, by decide +kernel, rfl, by decide +kernel, by decide +kernel⟩
abbrev N_law_trimmed : List Str := ["_law_row", "_law_left"]
theorem sc_law_trimmed : FnScope N_law_trimmed ["_law_row"] (defScope (topS 41)) := ⟨rfl, rfl, rfl, by decide +kernel, rfl, by decide +kernel, by decide +kernel⟩
abbrev N_law_rule : List Str := ["_law_state", "_law_most", "_law_great", "_law_place"]
theorem sc_law_rule : FnScope N_law_rule ["_law_state", "_law_most", "_law_great"] (defScope (topS 42)) := ⟨rfl, rfl, rfl, by decide +kernel, rfl, by decide +kernel, by decide +kernel⟩
abbrev N_law_term_page : List Str := ["_law_worth", "_law_place", "_law_letter"]
theorem sc_law_term_page : FnScope N_law_term_page ["_law_worth", "_law_place"] (defScope (topS 30)) := ⟨rfl, rfl, rfl, by decide +kernel, rfl, by decide +kernel, by decide +kernel⟩
abbrev N_law_rule_page : List Str := ["_law_row", "_law_found", "_law_place", "_law_worth", "_law_sign"]
theorem sc_law_rule_page : FnScope N_law_rule_page ["_law_row"] (defScope (topS 31)) := ⟨rfl, rfl, rfl, by decide +kernel, rfl, by decide +kernel, by decide +kernel⟩
abbrev N_law_figures : List Str := ["_law_word", "_law_most", "_law_sign"]
theorem sc_law_figures : FnScope N_law_figures ["_law_word", "_law_most"] (defScope (topS 32)) := ⟨rfl, rfl, rfl, by decide +kernel, rfl, by decide +kernel, by decide +kernel⟩
abbrev N_law_term_read : List Str := ["_law_words", "_law_word", "_law_place", "_law_worth", "_law_is_good"]
theorem sc_law_term_read : FnScope N_law_term_read ["_law_words"] (defScope (topS 33)) := ⟨rfl, rfl, rfl, by decide +kernel, rfl, by decide +kernel, by decide +kernel⟩
abbrev N_law_rule_read : List Str := ["_law_page", "_law_sign", "_law_row", "_law_words", "_law_rest", "_law_word", "_law_term"]
theorem sc_law_rule_read : FnScope N_law_rule_read ["_law_page"] (defScope (topS 34)) := ⟨rfl, rfl, rfl, by decide +kernel, rfl, by decide +kernel, by decide +kernel⟩
abbrev N_is_plain_number : List Str := ["word", "most", "sign"]
theorem sc_is_plain_number : FnScope N_is_plain_number ["word", "most"] (defScope (topS 20)) := ⟨rfl, rfl, rfl, by decide +kernel, rfl, by decide +kernel, by decide +kernel⟩
abbrev N_power_in : List Str := ["word"]
theorem sc_power_in : FnScope N_power_in ["word"] (defScope (topS 24)) := ⟨rfl, rfl, rfl, by decide +kernel, rfl, by decide +kernel, by decide +kernel⟩
abbrev N_term_at : List Str := ["words", "at", "number", "used", "power"]
theorem sc_term_at : FnScope N_term_at ["words", "at"] (defScope (topS 25)) := ⟨rfl, rfl, rfl, by decide +kernel, rfl, by decide +kernel, by decide +kernel⟩
abbrev N_numbers_of_terms : List Str := ["words", "sign", "found", "at", "number", "power", "used"]
theorem sc_numbers_of_terms : FnScope N_numbers_of_terms ["words", "sign"] (defScope (topS 26)) := ⟨rfl, rfl, rfl, by decide +kernel, rfl, by decide +kernel, by decide +kernel⟩
abbrev N_is_list : List Str := ["thing"]
theorem sc_is_list : FnScope N_is_list ["thing"] (defScope (topS 10)) := ⟨rfl, rfl, rfl, by decide +kernel, rfl, by decide +kernel, by decide +kernel⟩
abbrev N_is_number : List Str := ["thing"]
theorem sc_is_number : FnScope N_is_number ["thing"] (defScope (topS 8)) := ⟨rfl, rfl, rfl, by decide +kernel, rfl, by decide +kernel, by decide +kernel⟩
abbrev N_without_end : List Str := ["numbers", "many"]
theorem sc_without_end : FnScope N_without_end ["numbers"] (defScope (topS 11)) := ⟨rfl, rfl, rfl, by decide +kernel, rfl, by decide +kernel, by decide +kernel⟩
abbrev N_Rule___init__ : List Str := ["self", "coefficients", "at", "number"]
theorem sc_Rule___init__ : FnScope N_Rule___init__ ["self", "coefficients"] (defScope (inClass (topS 12) 0)) := ⟨rfl, rfl, rfl, by decide +kernel, rfl, by decide +kernel, by decide +kernel⟩
abbrev N_Rule_degree : List Str := ["self"]
theorem sc_Rule_degree : FnScope N_Rule_degree ["self"] (defScope (inClass (topS 12) 2)) := ⟨rfl, rfl, rfl, by decide +kernel, rfl, by decide +kernel, by decide +kernel⟩
abbrev N_is_from : List Str := ["thing", "least"]
theorem sc_is_from : FnScope N_is_from ["thing", "least"] (defScope (topS 9)) := ⟨rfl, rfl, rfl, by decide +kernel, rfl, by decide +kernel, by decide +kernel⟩
abbrev N_Rule___getitem__ : List Str := ["self", "power"]
theorem sc_Rule___getitem__ : FnScope N_Rule___getitem__ ["self", "power"] (defScope (inClass (topS 12) 5)) := ⟨rfl, rfl, rfl, by decide +kernel, rfl, by decide +kernel, by decide +kernel⟩
abbrev N_power_text : List Str := ["power"]
theorem sc_power_text : FnScope N_power_text ["power"] (defScope (topS 21)) := ⟨rfl, rfl, rfl, by decide +kernel, rfl, by decide +kernel, by decide +kernel⟩
abbrev N_term_text : List Str := ["number", "power"]
theorem sc_term_text : FnScope N_term_text ["number", "power"] (defScope (topS 22)) := ⟨rfl, rfl, rfl, by decide +kernel, rfl, by decide +kernel, by decide +kernel⟩
abbrev N_rule_text : List Str := ["rule", "found", "power", "number", "signs"]
theorem sc_rule_text : FnScope N_rule_text ["rule"] (defScope (topS 23)) := ⟨rfl, rfl, rfl, by decide +kernel, rfl, by decide +kernel, by decide +kernel⟩
abbrev N_rule_in : List Str := ["text", "is_below", "terms", "rule", "power"]
theorem sc_rule_in : FnScope N_rule_in ["text"] (defScope (topS 27)) := ⟨rfl, rfl, rfl, by decide +kernel, rfl, by decide +kernel, by decide +kernel⟩
abbrev N_read_rule : List Str := ["text", "found"]
theorem sc_read_rule : FnScope N_read_rule ["text"] (defScope (topS 28)) := ⟨rfl, rfl, rfl, by decide +kernel, rfl, by decide +kernel, by decide +kernel⟩
abbrev N_Rule_coefficients : List Str := ["self"]
theorem sc_Rule_coefficients : FnScope N_Rule_coefficients ["self"] (defScope (inClass (topS 12) 1)) := ⟨rfl, rfl, rfl, by decide +kernel, rfl, by decide +kernel, by decide +kernel⟩
abbrev N_law_right : List Str := ["_law_page", "_law_due", "_law_found", "_law_errors", "_law_wrong", "_law_error", "_law_one"]
theorem sc_law_right : FnScope N_law_right ["_law_page"] (defScope (topS 44)) := ⟨rfl, rfl, rfl, by decide +kernel, rfl, by decide +kernel, by decide +kernel⟩
abbrev N_law_bent_page : List Str := ["_law_state", "_law_page", "_law_signs", "_law_spot", "_law_way", "_law_ahead", "_law_rest"]
theorem sc_law_bent_page : FnScope N_law_bent_page ["_law_state", "_law_page", "_law_signs"] (defScope (topS 35)) := ⟨rfl, rfl, rfl, by decide +kernel, rfl, by decide +kernel, by decide +kernel⟩
abbrev N_law_begun : List Str := ["_law_script", "_law_wide", "_law_cell"]
theorem sc_law_begun : FnScope N_law_begun ["_law_script"] (defScope (topS 36)) := ⟨rfl, rfl, rfl, by decide +kernel, rfl, by decide +kernel, by decide +kernel⟩
abbrev N_law : List Str := ["_law_script", "_law_state", "_law_signs", "_law_known", "_law_turn", "_law_page", "_law_lap", "_law_bent", "_law_change", "_law_odd", "_law_error"]
theorem sc_law : FnScope N_law ["_law_script"] (defScope (topS 45)) := ⟨rfl, rfl, rfl, by decide +kernel, rfl, by decide +kernel, by decide +kernel⟩
abbrev N_BadRule___init__ : List Str := ["self", "at"]
theorem sc_BadRule___init__ : FnScope N_BadRule___init__ ["self", "at"] (defScope (inClass (topS 3) 0)) := ⟨rfl, rfl, rfl, by decide +kernel, rfl, by decide +kernel, by decide +kernel⟩
abbrev N_BadText___init__ : List Str := ["self", "line"]
theorem sc_BadText___init__ : FnScope N_BadText___init__ ["self", "line"] (defScope (inClass (topS 6) 0)) := ⟨rfl, rfl, rfl, by decide +kernel, rfl, by decide +kernel, by decide +kernel⟩
abbrev N_law_caught : List Str := ["_law_work_here", "_law_caught_here", "_law_error"]
theorem sc_law_caught : FnScope N_law_caught ["_law_work_here"] (defScope (topS 43)) := ⟨rfl, rfl, rfl, by decide +kernel, rfl, by decide +kernel, by decide +kernel⟩
structure Tx (K : PySem.W.Frag) (mg : Str → Option Value) : Prop where
  g_BadPower : mg "BadPower" = some (.ref (He.ga K "BadPower"))
  g_BadProgram : mg "BadProgram" = some (.ref (He.ga K "BadProgram"))
  g_BadRule : mg "BadRule" = some (.ref (He.ga K "BadRule"))
  g_BadText : mg "BadText" = some (.ref (He.ga K "BadText"))
  g_CrossError : mg "CrossError" = some (.ref (He.ga K "CrossError"))
  g_FIGURES : ∃ t, mg "FIGURES" = some (.str "0123456789" t)
  g_MOST_FIGURES : ∃ t, mg "MOST_FIGURES" = some (.int (12) t)
  g_MOST_POWER : ∃ t, mg "MOST_POWER" = some (.int (24) t)
  g_Rule : mg "Rule" = some (.ref (He.ga K "Rule"))
  g__law_begun : mg "_law_begun" = some (.ref (He.ga K "_law_begun"))
  g__law_bent_page : mg "_law_bent_page" = some (.ref (He.ga K "_law_bent_page"))
  g__law_caught : mg "_law_caught" = some (.ref (He.ga K "_law_caught"))
  g__law_figures : mg "_law_figures" = some (.ref (He.ga K "_law_figures"))
  g__law_mixed : mg "_law_mixed" = some (.ref (He.ga K "_law_mixed"))
  g__law_number : mg "_law_number" = some (.ref (He.ga K "_law_number"))
  g__law_pick : mg "_law_pick" = some (.ref (He.ga K "_law_pick"))
  g__law_right : mg "_law_right" = some (.ref (He.ga K "_law_right"))
  g__law_rule : mg "_law_rule" = some (.ref (He.ga K "_law_rule"))
  g__law_rule_page : mg "_law_rule_page" = some (.ref (He.ga K "_law_rule_page"))
  g__law_rule_read : mg "_law_rule_read" = some (.ref (He.ga K "_law_rule_read"))
  g__law_take : mg "_law_take" = some (.ref (He.ga K "_law_take"))
  g__law_term_page : mg "_law_term_page" = some (.ref (He.ga K "_law_term_page"))
  g__law_term_read : mg "_law_term_read" = some (.ref (He.ga K "_law_term_read"))
  g__law_trimmed : mg "_law_trimmed" = some (.ref (He.ga K "_law_trimmed"))
  g_is_from : mg "is_from" = some (.ref (He.ga K "is_from"))
  g_is_list : mg "is_list" = some (.ref (He.ga K "is_list"))
  g_is_number : mg "is_number" = some (.ref (He.ga K "is_number"))
  g_is_plain_number : mg "is_plain_number" = some (.ref (He.ga K "is_plain_number"))
  g_numbers_of_terms : mg "numbers_of_terms" = some (.ref (He.ga K "numbers_of_terms"))
  g_power_in : mg "power_in" = some (.ref (He.ga K "power_in"))
  g_power_text : mg "power_text" = some (.ref (He.ga K "power_text"))
  g_read_rule : mg "read_rule" = some (.ref (He.ga K "read_rule"))
  g_rule_in : mg "rule_in" = some (.ref (He.ga K "rule_in"))
  g_rule_text : mg "rule_text" = some (.ref (He.ga K "rule_text"))
  g_term_at : mg "term_at" = some (.ref (He.ga K "term_at"))
  g_term_text : mg "term_text" = some (.ref (He.ga K "term_text"))
  g_without_end : mg "without_end" = some (.ref (He.ga K "without_end"))
  g_law : mg "law" = some (.ref (He.ga K "law"))
  n_abs : mg "abs" = none
  n_all : mg "all" = none
  n_bool : mg "bool" = none
  n_enumerate : mg "enumerate" = none
  n_int : mg "int" = none
  n_isinstance : mg "isinstance" = none
  n_len : mg "len" = none
  n_list : mg "list" = none
  n_min : mg "min" = none
  n_range : mg "range" = none
  n_repr : mg "repr" = none
  n_str : mg "str" = none
  n_tuple : mg "tuple" = none
  ctx : CtxOk (cx K)
  hes : ∀ n ∈ esL, PySem.W.exmOne K (.ref (He.ga K n)) (.ref (He.ga K "CrossError")) = some true
  kp_caught : PySem.W.keepIn K (.ref (He.ga K "_law_caught")) = true
  cl_Rule : Cls K (He.ga K "Rule")
  er_BadRule : ErI K (He.ga K "BadRule") (He.ma K (He.ga K "BadRule") "__init__") "at"
  er_BadText : ErI K (He.ga K "BadText") (He.ma K (He.ga K "BadText") "__init__") "line"
  er_BadPower : ErN K (He.ga K "BadPower")
  ef_line : ∀ n ∈ esL, PySem.W.findIn K (.ref (He.ga K n)) "line" = some none
  fi_Rule_getitem : PySem.W.fnIn K (He.ma K (He.ga K "Rule") "__getitem__") = true
  mk_Rule : Mk K (He.ga K "Rule") (He.ma K (He.ga K "Rule") "__init__")
  na_Rule_own_numbers : NoAttr K (He.ga K "Rule") "own_numbers"
  prop_Rule_coefficients : PropOf K (He.ga K "Rule") "coefficients" (He.ma K (He.ga K "Rule") "coefficients") (recAt K "property" (He.ma K (He.ga K "Rule") "coefficients"))
  prop_Rule_degree : PropOf K (He.ga K "Rule") "degree" (He.ma K (He.ga K "Rule") "degree") (recAt K "property" (He.ma K (He.ga K "Rule") "degree"))
  spl_Rule_getitem : Spl K (He.ga K "Rule") "__getitem__" (He.ma K (He.ga K "Rule") "__getitem__")
  cr_CE : ClX.CRead K (He.ga K "CrossError") (.type "type")
  vi_CE : PySem.W.findCls K (.ref (He.ga K "CrossError")) (.type "type") "__init__" = some (.val (.builtin "ValueError.__init__"))
  tbn : ((cx K).tb.map (·.1)).Nodup
  f_law_mixed : ∃ fd, FunD K "_law_mixed" "_law_mixed" (defArgs (topS 37)) (defBody (topS 37)) (defScope (topS 37)) (d_law_mixed.dvs K) [] (He.ga K "_law_mixed") fd
  f_law_take : ∃ fd, FunD K "_law_take" "_law_take" (defArgs (topS 38)) (defBody (topS 38)) (defScope (topS 38)) (d_law_take.dvs K) [] (He.ga K "_law_take") fd
  f_law_pick : ∃ fd, FunD K "_law_pick" "_law_pick" (defArgs (topS 39)) (defBody (topS 39)) (defScope (topS 39)) (d_law_pick.dvs K) [] (He.ga K "_law_pick") fd
  f_law_number : ∃ fd, FunD K "_law_number" "_law_number" (defArgs (topS 40)) (defBody (topS 40)) (defScope (topS 40)) (d_law_number.dvs K) [] (He.ga K "_law_number") fd
  f_law_trimmed : ∃ fd, FunD K "_law_trimmed" "_law_trimmed" (defArgs (topS 41)) (defBody (topS 41)) (defScope (topS 41)) (d_law_trimmed.dvs K) [] (He.ga K "_law_trimmed") fd
  f_law_rule : ∃ fd, FunD K "_law_rule" "_law_rule" (defArgs (topS 42)) (defBody (topS 42)) (defScope (topS 42)) (d_law_rule.dvs K) [] (He.ga K "_law_rule") fd
  f_law_term_page : ∃ fd, FunD K "_law_term_page" "_law_term_page" (defArgs (topS 30)) (defBody (topS 30)) (defScope (topS 30)) (d_law_term_page.dvs K) [] (He.ga K "_law_term_page") fd
  f_law_rule_page : ∃ fd, FunD K "_law_rule_page" "_law_rule_page" (defArgs (topS 31)) (defBody (topS 31)) (defScope (topS 31)) (d_law_rule_page.dvs K) [] (He.ga K "_law_rule_page") fd
  f_law_figures : ∃ fd, FunD K "_law_figures" "_law_figures" (defArgs (topS 32)) (defBody (topS 32)) (defScope (topS 32)) (d_law_figures.dvs K) [] (He.ga K "_law_figures") fd
  f_law_term_read : ∃ fd, FunD K "_law_term_read" "_law_term_read" (defArgs (topS 33)) (defBody (topS 33)) (defScope (topS 33)) (d_law_term_read.dvs K) [] (He.ga K "_law_term_read") fd
  f_law_rule_read : ∃ fd, FunD K "_law_rule_read" "_law_rule_read" (defArgs (topS 34)) (defBody (topS 34)) (defScope (topS 34)) (d_law_rule_read.dvs K) [] (He.ga K "_law_rule_read") fd
  f_is_plain_number : ∃ fd, FunD K "is_plain_number" "is_plain_number" (defArgs (topS 20)) (defBody (topS 20)) (defScope (topS 20)) (d_is_plain_number.dvs K) [] (He.ga K "is_plain_number") fd
  f_power_in : ∃ fd, FunD K "power_in" "power_in" (defArgs (topS 24)) (defBody (topS 24)) (defScope (topS 24)) (d_power_in.dvs K) [] (He.ga K "power_in") fd
  f_term_at : ∃ fd, FunD K "term_at" "term_at" (defArgs (topS 25)) (defBody (topS 25)) (defScope (topS 25)) (d_term_at.dvs K) [] (He.ga K "term_at") fd
  f_numbers_of_terms : ∃ fd, FunD K "numbers_of_terms" "numbers_of_terms" (defArgs (topS 26)) (defBody (topS 26)) (defScope (topS 26)) (d_numbers_of_terms.dvs K) [] (He.ga K "numbers_of_terms") fd
  f_is_list : ∃ fd, FunD K "is_list" "is_list" (defArgs (topS 10)) (defBody (topS 10)) (defScope (topS 10)) (d_is_list.dvs K) [] (He.ga K "is_list") fd
  f_is_number : ∃ fd, FunD K "is_number" "is_number" (defArgs (topS 8)) (defBody (topS 8)) (defScope (topS 8)) (d_is_number.dvs K) [] (He.ga K "is_number") fd
  f_without_end : ∃ fd, FunD K "without_end" "without_end" (defArgs (topS 11)) (defBody (topS 11)) (defScope (topS 11)) (d_without_end.dvs K) [] (He.ga K "without_end") fd
  f_Rule___init__ : ∃ fd, FunD K "__init__" "Rule.__init__" (defArgs (inClass (topS 12) 0)) (defBody (inClass (topS 12) 0)) (defScope (inClass (topS 12) 0)) (d_Rule___init__.dvs K) [] (He.ma K (He.ga K "Rule") "__init__") fd
  f_Rule_degree : ∃ fd, FunD K "degree" "Rule.degree" (defArgs (inClass (topS 12) 2)) (defBody (inClass (topS 12) 2)) (defScope (inClass (topS 12) 2)) (d_Rule_degree.dvs K) [] (recAt K "property" (He.ma K (He.ga K "Rule") "degree")) fd
  f_is_from : ∃ fd, FunD K "is_from" "is_from" (defArgs (topS 9)) (defBody (topS 9)) (defScope (topS 9)) (d_is_from.dvs K) [] (He.ga K "is_from") fd
  f_Rule___getitem__ : ∃ fd, FunD K "__getitem__" "Rule.__getitem__" (defArgs (inClass (topS 12) 5)) (defBody (inClass (topS 12) 5)) (defScope (inClass (topS 12) 5)) (d_Rule___getitem__.dvs K) [] (He.ma K (He.ga K "Rule") "__getitem__") fd
  f_power_text : ∃ fd, FunD K "power_text" "power_text" (defArgs (topS 21)) (defBody (topS 21)) (defScope (topS 21)) (d_power_text.dvs K) [] (He.ga K "power_text") fd
  f_term_text : ∃ fd, FunD K "term_text" "term_text" (defArgs (topS 22)) (defBody (topS 22)) (defScope (topS 22)) (d_term_text.dvs K) [] (He.ga K "term_text") fd
  f_rule_text : ∃ fd, FunD K "rule_text" "rule_text" (defArgs (topS 23)) (defBody (topS 23)) (defScope (topS 23)) (d_rule_text.dvs K) [] (He.ga K "rule_text") fd
  f_rule_in : ∃ fd, FunD K "rule_in" "rule_in" (defArgs (topS 27)) (defBody (topS 27)) (defScope (topS 27)) (d_rule_in.dvs K) [] (He.ga K "rule_in") fd
  f_read_rule : ∃ fd, FunD K "read_rule" "read_rule" (defArgs (topS 28)) (defBody (topS 28)) (defScope (topS 28)) (d_read_rule.dvs K) [] (He.ga K "read_rule") fd
  f_Rule_coefficients : ∃ fd, FunD K "coefficients" "Rule.coefficients" (defArgs (inClass (topS 12) 1)) (defBody (inClass (topS 12) 1)) (defScope (inClass (topS 12) 1)) (d_Rule_coefficients.dvs K) [] (recAt K "property" (He.ma K (He.ga K "Rule") "coefficients")) fd
  f_law_right : ∃ fd, FunD K "_law_right" "_law_right" (defArgs (topS 44)) (defBody (topS 44)) (defScope (topS 44)) (d_law_right.dvs K) [] (He.ga K "_law_right") fd
  f_law_bent_page : ∃ fd, FunD K "_law_bent_page" "_law_bent_page" (defArgs (topS 35)) (defBody (topS 35)) (defScope (topS 35)) (d_law_bent_page.dvs K) [] (He.ga K "_law_bent_page") fd
  f_law_begun : ∃ fd, FunD K "_law_begun" "_law_begun" (defArgs (topS 36)) (defBody (topS 36)) (defScope (topS 36)) (d_law_begun.dvs K) [] (He.ga K "_law_begun") fd
  f_law : ∃ fd, FunD K "law" "law" (defArgs (topS 45)) (defBody (topS 45)) (defScope (topS 45)) (d_law.dvs K) [] (He.ga K "law") fd
  f_BadRule___init__ : ∃ fd, FunD K "__init__" "BadRule.__init__" (defArgs (inClass (topS 3) 0)) (defBody (inClass (topS 3) 0)) (defScope (inClass (topS 3) 0)) (d_BadRule___init__.dvs K) [] (He.ma K (He.ga K "BadRule") "__init__") fd
  f_BadText___init__ : ∃ fd, FunD K "__init__" "BadText.__init__" (defArgs (inClass (topS 6) 0)) (defBody (inClass (topS 6) 0)) (defScope (inClass (topS 6) 0)) (d_BadText___init__.dvs K) [] (He.ma K (He.ga K "BadText") "__init__") fd
  f_law_caught : ∃ fd, FunD K "_law_caught" "_law_caught" (defArgs (topS 43)) (defBody (topS 43)) (defScope (topS 43)) (d_law_caught.dvs K) [] (He.ga K "_law_caught") fd
theorem tx {K : PySem.W.Frag} {h : Heap} {mg : Str → Option Value} (X : K.In h) (G : h.Ns mainGlobals mg) (c : SaysX bs fn K) : Tx K mg where
  g_BadPower := He.glo_ok X G (c.fact 0)
  g_BadProgram := He.glo_ok X G (c.fact 1)
  g_BadRule := He.glo_ok X G (c.fact 2)
  g_BadText := He.glo_ok X G (c.fact 3)
  g_CrossError := He.glo_ok X G (c.fact 4)
  g_FIGURES := He.str_ok X G (c.fact 5)
  g_MOST_FIGURES := He.int_ok X G (c.fact 6)
  g_MOST_POWER := He.int_ok X G (c.fact 7)
  g_Rule := He.glo_ok X G (c.fact 8)
  g__law_begun := He.glo_ok X G (c.fact 9)
  g__law_bent_page := He.glo_ok X G (c.fact 10)
  g__law_caught := He.glo_ok X G (c.fact 11)
  g__law_figures := He.glo_ok X G (c.fact 12)
  g__law_mixed := He.glo_ok X G (c.fact 13)
  g__law_number := He.glo_ok X G (c.fact 14)
  g__law_pick := He.glo_ok X G (c.fact 15)
  g__law_right := He.glo_ok X G (c.fact 16)
  g__law_rule := He.glo_ok X G (c.fact 17)
  g__law_rule_page := He.glo_ok X G (c.fact 18)
  g__law_rule_read := He.glo_ok X G (c.fact 19)
  g__law_take := He.glo_ok X G (c.fact 20)
  g__law_term_page := He.glo_ok X G (c.fact 21)
  g__law_term_read := He.glo_ok X G (c.fact 22)
  g__law_trimmed := He.glo_ok X G (c.fact 23)
  g_is_from := He.glo_ok X G (c.fact 24)
  g_is_list := He.glo_ok X G (c.fact 25)
  g_is_number := He.glo_ok X G (c.fact 26)
  g_is_plain_number := He.glo_ok X G (c.fact 27)
  g_numbers_of_terms := He.glo_ok X G (c.fact 28)
  g_power_in := He.glo_ok X G (c.fact 29)
  g_power_text := He.glo_ok X G (c.fact 30)
  g_read_rule := He.glo_ok X G (c.fact 31)
  g_rule_in := He.glo_ok X G (c.fact 32)
  g_rule_text := He.glo_ok X G (c.fact 33)
  g_term_at := He.glo_ok X G (c.fact 34)
  g_term_text := He.glo_ok X G (c.fact 35)
  g_without_end := He.glo_ok X G (c.fact 36)
  g_law := He.glo_ok X G (c.fact 37)
  n_abs := He.free_ok X G (c.fact 38)
  n_all := He.free_ok X G (c.fact 39)
  n_bool := He.free_ok X G (c.fact 40)
  n_enumerate := He.free_ok X G (c.fact 41)
  n_int := He.free_ok X G (c.fact 42)
  n_isinstance := He.free_ok X G (c.fact 43)
  n_len := He.free_ok X G (c.fact 44)
  n_list := He.free_ok X G (c.fact 45)
  n_min := He.free_ok X G (c.fact 46)
  n_range := He.free_ok X G (c.fact 47)
  n_repr := He.free_ok X G (c.fact 48)
  n_str := He.free_ok X G (c.fact 49)
  n_tuple := He.free_ok X G (c.fact 50)
  ctx := ctxB_ok (c.fact 51)
  hes := all_ok (c.fact 52) fun _ h => of_decide_eq_true h
  kp_caught := c.fact 53
  cl_Rule := He.cls_ok (c.fact 54)
  er_BadRule := eriB_ok (c.fact 55)
  er_BadText := eriB_ok (c.fact 56)
  er_BadPower := erB_ok (c.fact 57)
  ef_line := all_ok (c.fact 58) fun _ h => noneB_ok h
  fi_Rule_getitem := c.fact 59
  mk_Rule := He.mkr_ok (c.fact 60)
  na_Rule_own_numbers := He.noat_ok (c.fact 61)
  prop_Rule_coefficients := propB_ok (c.fact 62)
  prop_Rule_degree := propB_ok (c.fact 63)
  spl_Rule_getitem := splB_ok (c.fact 64)
  cr_CE := creadB_ok (c.fact 65)
  vi_CE := vInit_ok (c.fact 66)
  tbn := of_decide_eq_true (c.fact 67)
  f_law_mixed := c.def_ 0 (d := d_law_mixed)
  f_law_take := c.def_ 1 (d := d_law_take)
  f_law_pick := c.def_ 2 (d := d_law_pick)
  f_law_number := c.def_ 3 (d := d_law_number)
  f_law_trimmed := c.def_ 4 (d := d_law_trimmed)
  f_law_rule := c.def_ 5 (d := d_law_rule)
  f_law_term_page := c.def_ 6 (d := d_law_term_page)
  f_law_rule_page := c.def_ 7 (d := d_law_rule_page)
  f_law_figures := c.def_ 8 (d := d_law_figures)
  f_law_term_read := c.def_ 9 (d := d_law_term_read)
  f_law_rule_read := c.def_ 10 (d := d_law_rule_read)
  f_is_plain_number := c.def_ 11 (d := d_is_plain_number)
  f_power_in := c.def_ 12 (d := d_power_in)
  f_term_at := c.def_ 13 (d := d_term_at)
  f_numbers_of_terms := c.def_ 14 (d := d_numbers_of_terms)
  f_is_list := c.def_ 15 (d := d_is_list)
  f_is_number := c.def_ 16 (d := d_is_number)
  f_without_end := c.def_ 17 (d := d_without_end)
  f_Rule___init__ := c.def_ 18 (d := d_Rule___init__)
  f_Rule_degree := c.def_ 19 (d := d_Rule_degree)
  f_is_from := c.def_ 20 (d := d_is_from)
  f_Rule___getitem__ := c.def_ 21 (d := d_Rule___getitem__)
  f_power_text := c.def_ 22 (d := d_power_text)
  f_term_text := c.def_ 23 (d := d_term_text)
  f_rule_text := c.def_ 24 (d := d_rule_text)
  f_rule_in := c.def_ 25 (d := d_rule_in)
  f_read_rule := c.def_ 26 (d := d_read_rule)
  f_Rule_coefficients := c.def_ 27 (d := d_Rule_coefficients)
  f_law_right := c.def_ 28 (d := d_law_right)
  f_law_bent_page := c.def_ 29 (d := d_law_bent_page)
  f_law_begun := c.def_ 30 (d := d_law_begun)
  f_law := c.def_ 31 (d := d_law)
  f_BadRule___init__ := c.def_ 32 (d := d_BadRule___init__)
  f_BadText___init__ := c.def_ 33 (d := d_BadText___init__)
  f_law_caught := c.def_ 34 (d := d_law_caught)
abbrev TbB (K : PySem.W.Frag) (base : Heap) (mg : Str → Option Value) : Prop := ∀ f ∈ tf, LamX.TabB base mg (codeAt K (f K)) (tabAt K (f K))
abbrev LL_law_right : Nat := 7
theorem tm_law_right : (fun K => (He.ga K "_law_right")) ∈ tf := List.mem_cons_self
theorem tbm_law_right {K : PySem.W.Frag} : (tabAt K (He.ga K "_law_right"), ("_law_right" : Str) ++ ".<locals>." ++ "<lambda>") ∈ (cx K).tb := List.mem_cons_self
theorem tbu_law_right {K : PySem.W.Frag} {mg : Str → Option Value} (T : Tx K mg) : ∀ p ∈ (cx K).tb, p.1 = tabAt K (He.ga K "_law_right") → p.2 = ("_law_right" : Str) ++ ".<locals>." ++ "<lambda>" := by
  exact tb_uniq T.tbn tbm_law_right
abbrev LL_law : Nat := 7
theorem tm_law : (fun K => (He.ga K "law")) ∈ tf := (List.mem_cons_of_mem _ List.mem_cons_self)
theorem tbm_law {K : PySem.W.Frag} : (tabAt K (He.ga K "law"), ("law" : Str) ++ ".<locals>." ++ "<lambda>") ∈ (cx K).tb := (List.mem_cons_of_mem _ List.mem_cons_self)
theorem tbu_law {K : PySem.W.Frag} {mg : Str → Option Value} (T : Tx K mg) : ∀ p ∈ (cx K).tb, p.1 = tabAt K (He.ga K "law") → p.2 = ("law" : Str) ++ ".<locals>." ++ "<lambda>" := by
  exact tb_uniq T.tbn tbm_law
section
variable {P : Program} {w : PySem.World} {K : PySem.W.Frag} {mg : Str → Option Value} {base : Heap}
theorem ok_BadRule___init__ (T : Tx K mg) : ∃ fd, FnOk P w K mg base C8.CX0 1 (He.ma K (He.ga K "BadRule") "__init__") fd ["self", "at"] (sp_ei K "at") ∧ Binds K fd ["self", "at"] [] := by
  obtain ⟨fd, F⟩ := T.f_BadRule___init__
  exact ⟨fd, einit_of F sc_BadRule___init__ T.g_CrossError rfl rfl rfl T.cr_CE T.vi_CE, F.bindsN fun _ _ _ _ _ _ us hl => match us, hl with | [_, _], _ => rfl⟩
theorem ok_BadText___init__ (T : Tx K mg) : ∃ fd, FnOk P w K mg base C8.CX0 1 (He.ma K (He.ga K "BadText") "__init__") fd ["self", "line"] (sp_ei K "line") ∧ Binds K fd ["self", "line"] [] := by
  obtain ⟨fd, F⟩ := T.f_BadText___init__
  exact ⟨fd, einit_of F sc_BadText___init__ T.g_CrossError rfl rfl rfl T.cr_CE T.vi_CE, F.bindsN fun _ _ _ _ _ _ us hl => match us, hl with | [_, _], _ => rfl⟩
theorem sc__caught : FnScope N_law_caught ["_law_work_here"] (defScope (topS 43)) := sc_law_caught
theorem ok_law_mixed (T : Tx K mg) (TB : TbB K base mg) : OkW P w (cx K) mg base 1 (He.ga K "_law_mixed") ["_law_state"] wp_law_mixed (1) (d_law_mixed.dvs K) := by
  obtain ⟨fd, F⟩ := T.f_law_mixed
  have nd := sc_law_mixed.nd
  have hb : Binds K fd ["_law_state"] [] := F.bindsN fun _ _ _ _ _ _ us hl => match us, hl with | [_], _ => rfl
  refine ⟨fd, fnW_of F sc_law_mixed (fun vs H Q E h => len_mixed h) (fun A outer s H vs Q E gd hr h => ⟨rd_law_mixed (cx K), PSs.nox ?_, run_mixed rfl h⟩), hb, F.kp, ⟨[], .nil, hb⟩⟩
  exact (pss_cons (ps_par (i := 1) (j := 2) (by rfl) nd rfl rfl (by decide) rfl rfl (pa_cons (pe_op op_add (pe_dget (hu_of hr) (pv 0) pe_str (fun _ _ => rfl)) pe_int) (pa_cons pe_int pa_nil)) (by rfl))
      (pss_cons (ps_dput (hu_of hr) (pv 0) pe_str (pv 1) rfl)
      (pss_cons (ps_for PassesOwn.never rfl (pi_list (pe_lst (pa_cons pe_int (pa_cons pe_int (pa_cons pe_int (pa_cons pe_int pa_nil)))))) (pg_name (i := 3) nd rfl (Or.inl rfl)) (pss_cons (ps_set (i := 4) nd rfl (Or.inl rfl) (pe_op op_add (pe_op op_mul pe_int (pv 1)) (pe_op op_fdiv (pv 3) pe_int)))
      (pss_cons (ps_for PassesOwn.never rfl (pi_list (pe_dget (hu_of hr) (pv 0) pe_str (fun _ _ => rfl))) (pg_name (i := 5) nd rfl (Or.inl rfl)) (pss_one (ps_set (i := 4) nd rfl (Or.inl rfl) (pe_op op_mod (pe_callTy call_intG (by rfl) T.n_int (by decide +kernel) (pa_cons (pe_op op_add (pe_op op_add (pe_op op_mul (pv 4) pe_int) (pv 5)) (pv 1)) pa_nil)) (pv 3)))))
      (pss_one (ps_set (i := 2) nd rfl (Or.inl rfl) (pe_op op_add (pe_op op_mul (pv 2) pe_int) (pe_op op_mod (pe_callTy call_intG (by rfl) T.n_int (by decide +kernel) (pa_cons (pe_op op_pow27 (pv 4) pe_int) pa_nil)) (pv 3))))))))
      (pss_one (ps_ret (pv 2))))))
theorem ok_law_take (T : Tx K mg) (TB : TbB K base mg) : OkW P w (cx K) mg base 2 (He.ga K "_law_take") ["_law_state", "_law_size"] wp_law_take (1) (d_law_take.dvs K) := by
  obtain ⟨fd, F⟩ := T.f_law_take
  obtain ⟨_, G_law_mixed, b_law_mixed, k_law_mixed, _, v_law_mixed, c_law_mixed⟩ := ok_law_mixed (P := P) (w := w) (base := base) T TB
  have nd := sc_law_take.nd
  have hb : Binds K fd ["_law_state", "_law_size"] [] := F.bindsN fun _ _ _ _ _ _ us hl => match us, hl with | [_, _], _ => rfl
  refine ⟨fd, fnW_of F sc_law_take (fun vs H Q E h => len_take h) (fun A outer s H vs Q E gd hr h => ⟨rd_law_take (cx K), PSs.nox ?_, run_take rfl h⟩), hb, F.kp, ⟨[], .nil, hb⟩⟩
  exact (pss_cons (ps_if (pt_cmpR op_eq (pe_dget (hu_of hr) (pv 0) pe_str (fun _ _ => rfl)) pe_int (nomark _)) (pss_one (ps_dput (hu_of hr) (pv 0) pe_str (pe_ifExp (pt_cmpR (op_neD hr.units) (pe_dget (hu_of hr) (pv 0) pe_str (fun _ _ => rfl)) (pe_lst pa_nil) (nomark _)) (pe_bm PySem.F.plainAttrs_list PySem.F.slot_list_pop PySem.F.type_list_pop mt_popAt (pe_dget (hu_of hr) (pv 0) pe_str (fun _ _ => rfl)) (pa_cons pe_int pa_nil)) (pe_callW0 G_law_mixed gd (hr.mono (by decide)) rfl T.g__law_mixed k_law_mixed b_law_mixed (pa_cons (pv 0) pa_nil))) rfl)) pss_nil)
      (pss_cons (ps_set (i := 2) nd rfl (Or.inl rfl) (pe_op op_mod (pe_callTy call_intG (by rfl) T.n_int (by decide +kernel) (pa_cons (pe_dget (hu_of hr) (pv 0) pe_str (fun _ _ => rfl)) pa_nil)) (pv 1)))
      (pss_cons (ps_dput (hu_of hr) (pv 0) pe_str (pe_op op_fdivW (pe_dget (hu_of hr) (pv 0) pe_str (fun _ _ => rfl)) (pv 1)) rfl)
      (pss_one (ps_ret (pv 2))))))
theorem okF_law_pick (T : Tx K mg) (TB : TbB K base mg) {fd : FuncData} (F : FunD K "_law_pick" "_law_pick" (defArgs (topS 39)) (defBody (topS 39)) (defScope (topS 39)) (d_law_pick.dvs K) [] (He.ga K "_law_pick") fd) : FnW P w K mg base 3 (He.ga K "_law_pick") fd ["_law_state", "_law_some"] (SpW (cx K) wp_law_pick (1)) := by
  obtain ⟨_, G_law_take, b_law_take, k_law_take, _, v_law_take, c_law_take⟩ := ok_law_take (P := P) (w := w) (base := base) T TB
  have nd := sc_law_pick.nd
  refine fnW_of F sc_law_pick (fun vs H Q E h => SpW.len rfl h) (fun A outer s H vs Q E gd hr h => ?_)
  have tk : Takes (cxOf (L2.CX P w) P w K mg base N_law_pick "_law_pick" (defScope (topS 39)) (He.ga K "_law_pick") (.ref (codeAt K (He.ga K "_law_pick"))) A outer s H E) (fun cls d _ H => E cls d H) := takes_of rfl rfl rfl rfl
  exact ⟨_, gs_le (c := cx K) (W := fun cls d _ H => E cls d H) (kb := 1) (gs_one (g_ret (g_ix (g_var (pv 1)) (g_call G_law_take gd (hr.mono (by decide)) rfl T.g__law_take k_law_take b_law_take .nil (fun _ _ => .nil) tk (ga_cons (g_var (pv 0)) (ga_cons (g_cb w_len (by rfl) T.n_len PySem.boot_len (ga_cons (g_var (pv 1)) ga_nil)) ga_nil)))))) (by decide +kernel), run_wDef (N := N_law_pick) h (Nat.le_refl _)⟩
theorem ok_law_pick (T : Tx K mg) (TB : TbB K base mg) : OkW P w (cx K) mg base 3 (He.ga K "_law_pick") ["_law_state", "_law_some"] wp_law_pick (1) (d_law_pick.dvs K) := by
  obtain ⟨fd, F⟩ := T.f_law_pick
  have hb : Binds K fd ["_law_state", "_law_some"] [] := F.bindsN fun _ _ _ _ _ _ us hl => match us, hl with | [_, _], _ => rfl
  exact ⟨fd, okF_law_pick T TB F, hb, F.kp, ⟨[], .nil, hb⟩⟩
theorem okF_law_number (T : Tx K mg) (TB : TbB K base mg) {fd : FuncData} (F : FunD K "_law_number" "_law_number" (defArgs (topS 40)) (defBody (topS 40)) (defScope (topS 40)) (d_law_number.dvs K) [] (He.ga K "_law_number") fd) : FnW P w K mg base 4 (He.ga K "_law_number") fd ["_law_state", "_law_great"] (SpW (cx K) wp_law_number (2 ^ 2)) := by
  obtain ⟨_, G_law_pick, b_law_pick, k_law_pick, _, v_law_pick, c_law_pick⟩ := ok_law_pick (P := P) (w := w) (base := base) T TB
  obtain ⟨_, G_law_take, b_law_take, k_law_take, _, v_law_take, c_law_take⟩ := ok_law_take (P := P) (w := w) (base := base) T TB
  have nd := sc_law_number.nd
  refine fnW_of F sc_law_number (fun vs H Q E h => SpW.len rfl h) (fun A outer s H vs Q E gd hr h => ?_)
  have tk : Takes (cxOf (L2.CX P w) P w K mg base N_law_number "_law_number" (defScope (topS 40)) (He.ga K "_law_number") (.ref (codeAt K (He.ga K "_law_number"))) A outer s H E) (fun cls d _ H => E cls d H) := takes_of rfl rfl rfl rfl
  exact ⟨_, gs_le (c := cx K) (W := fun cls d _ H => E cls d H) (kb := 2 ^ 2) (gs_cons (g_set (i := 2) nd rfl (Or.inl rfl) (g_call G_law_pick gd (hr.mono (by decide)) rfl T.g__law_pick k_law_pick b_law_pick .nil (fun _ _ => .nil) tk (ga_cons (g_var (pv 0)) (ga_cons (g_lst (ga_cons g_int (ga_cons g_int (ga_cons g_int (ga_cons g_int (ga_cons g_int (ga_cons (g_call G_law_take gd (hr.mono (by decide)) rfl T.g__law_take k_law_take b_law_take .nil (fun _ _ => .nil) tk (ga_cons (g_var (pv 0)) (ga_cons (g_op w_add (g_var (pv 1)) g_int) ga_nil))) ga_nil))))))) ga_nil))))
      (gs_one (g_ret (g_call G_law_pick gd (hr.mono (by decide)) rfl T.g__law_pick k_law_pick b_law_pick .nil (fun _ _ => .nil) tk (ga_cons (g_var (pv 0)) (ga_cons (g_lst (ga_cons (g_cb w_min2 (by rfl) T.n_min (by decide +kernel) (ga_cons (g_var (pv 2)) (ga_cons (g_var (pv 1)) ga_nil))) (ga_cons (g_op w_sub g_int (g_cb w_min2 (by rfl) T.n_min (by decide +kernel) (ga_cons (g_var (pv 2)) (ga_cons (g_var (pv 1)) ga_nil)))) ga_nil))) ga_nil)))))) (by decide +kernel), run_wDef (N := N_law_number) h (Nat.le_refl _)⟩
theorem ok_law_number (T : Tx K mg) (TB : TbB K base mg) : OkW P w (cx K) mg base 4 (He.ga K "_law_number") ["_law_state", "_law_great"] wp_law_number (2 ^ 2) (d_law_number.dvs K) := by
  obtain ⟨fd, F⟩ := T.f_law_number
  have hb : Binds K fd ["_law_state", "_law_great"] [] := F.bindsN fun _ _ _ _ _ _ us hl => match us, hl with | [_, _], _ => rfl
  exact ⟨fd, okF_law_number T TB F, hb, F.kp, ⟨[], .nil, hb⟩⟩
theorem okF_law_trimmed (T : Tx K mg) (TB : TbB K base mg) {fd : FuncData} (F : FunD K "_law_trimmed" "_law_trimmed" (defArgs (topS 41)) (defBody (topS 41)) (defScope (topS 41)) (d_law_trimmed.dvs K) [] (He.ga K "_law_trimmed") fd) : FnW P w K mg base 1 (He.ga K "_law_trimmed") fd ["_law_row"] (SpW (cx K) wp_law_trimmed (0)) := by
  have nd := sc_law_trimmed.nd
  refine fnW_of F sc_law_trimmed (fun vs H Q E h => SpW.len rfl h) (fun A outer s H vs Q E gd hr h => ?_)
  have tk : Takes (cxOf (L2.CX P w) P w K mg base N_law_trimmed "_law_trimmed" (defScope (topS 41)) (He.ga K "_law_trimmed") (.ref (codeAt K (He.ga K "_law_trimmed"))) A outer s H E) (fun cls d _ H => E cls d H) := takes_of rfl rfl rfl rfl
  exact ⟨_, gs_le (c := cx K) (W := fun cls d _ H => E cls d H) (kb := 0) (gs_cons (g_set (i := 1) nd rfl (Or.inl rfl) (g_cty w_list (by rfl) T.n_list (by decide +kernel) (ga_cons (g_var (pv 0)) ga_nil)))
      (gs_cons (g_while (passes_of rfl) (g_pt (g_wand (g_tcmp (w_ne hr.units) (g_var (pv 1)) (g_lst ga_nil) (nomark _)) (g_wand1 (g_tcmp (w_eq hr.units) (g_ix (g_var (pv 1)) (g_un w_neg g_int)) g_int (nomark _))))) (gs_one (g_drop (g_lm0 mw_pop (fun r h => pe_bm0 PySem.F.plainAttrs_list PySem.F.slot_list_pop PySem.F.type_list_pop h (g_var (pv 1)))))))
      (gs_one (g_fz 1 (g_ret (g_var (pv 1))))))) (by decide +kernel), run_wDef (N := N_law_trimmed) h (Nat.le_refl _)⟩
theorem ok_law_trimmed (T : Tx K mg) (TB : TbB K base mg) : OkW P w (cx K) mg base 1 (He.ga K "_law_trimmed") ["_law_row"] wp_law_trimmed (0) (d_law_trimmed.dvs K) := by
  obtain ⟨fd, F⟩ := T.f_law_trimmed
  have hb : Binds K fd ["_law_row"] [] := F.bindsN fun _ _ _ _ _ _ us hl => match us, hl with | [_], _ => rfl
  exact ⟨fd, okF_law_trimmed T TB F, hb, F.kp, ⟨[], .nil, hb⟩⟩
theorem okF_law_rule (T : Tx K mg) (TB : TbB K base mg) {fd : FuncData} (F : FunD K "_law_rule" "_law_rule" (defArgs (topS 42)) (defBody (topS 42)) (defScope (topS 42)) (d_law_rule.dvs K) [] (He.ga K "_law_rule") fd) : FnW P w K mg base 5 (He.ga K "_law_rule") fd ["_law_state", "_law_most", "_law_great"] (SpW (cx K) wp_law_rule (2 ^ 27)) := by
  obtain ⟨_, G_law_number, b_law_number, k_law_number, _, v_law_number, c_law_number⟩ := ok_law_number (P := P) (w := w) (base := base) T TB
  obtain ⟨_, G_law_take, b_law_take, k_law_take, _, v_law_take, c_law_take⟩ := ok_law_take (P := P) (w := w) (base := base) T TB
  obtain ⟨_, G_law_trimmed, b_law_trimmed, k_law_trimmed, _, v_law_trimmed, c_law_trimmed⟩ := ok_law_trimmed (P := P) (w := w) (base := base) T TB
  have nd := sc_law_rule.nd
  refine fnW_of F sc_law_rule (fun vs H Q E h => SpW.len rfl h) (fun A outer s H vs Q E gd hr h => ?_)
  have tk : Takes (cxOf (L2.CX P w) P w K mg base N_law_rule "_law_rule" (defScope (topS 42)) (He.ga K "_law_rule") (.ref (codeAt K (He.ga K "_law_rule"))) A outer s H E) (fun cls d _ H => E cls d H) := takes_of rfl rfl rfl rfl
  exact ⟨_, gs_le (c := cx K) (W := fun cls d _ H => E cls d H) (kb := 2 ^ 27) (gs_one (g_ret (g_call G_law_trimmed gd (hr.mono (by decide)) rfl T.g__law_trimmed k_law_trimmed b_law_trimmed .nil (fun _ _ => .nil) tk (ga_cons (g_lc (own := [("_law_place", 3)]) nd (gi_rng1 (by rfl) T.n_range (ga_cons (g_call G_law_take gd (hr.mono (by decide)) rfl T.g__law_take k_law_take b_law_take .nil (fun _ _ => .nil) tk (ga_cons (g_var (pv 0)) (ga_cons (g_op w_add (g_var (pv 1)) g_int) ga_nil))) ga_nil)) (blkOk_by (own := [("_law_place", 3)]) (N := N_law_rule) (sc := defScope (topS 42)) (by decide +kernel)) (fun _ _ _ _ _ => (gg_name (i := 3) nd rfl (Or.inl rfl))) (fun _ _ _ _ _ => gt_yes) (fun _ _ _ _ _ => (g_call G_law_number gd (hr.mono (by decide)) rfl T.g__law_number k_law_number b_law_number .nil (fun _ _ => .nil) LamX.takes0 (ga_cons (g_var (pv 0)) (ga_cons (g_var (pv 2)) ga_nil))))) ga_nil)))) (by decide +kernel), run_wDef (N := N_law_rule) h (Nat.le_refl _)⟩
theorem ok_law_rule (T : Tx K mg) (TB : TbB K base mg) : OkW P w (cx K) mg base 5 (He.ga K "_law_rule") ["_law_state", "_law_most", "_law_great"] wp_law_rule (2 ^ 27) (d_law_rule.dvs K) := by
  obtain ⟨fd, F⟩ := T.f_law_rule
  have hb : Binds K fd ["_law_state", "_law_most", "_law_great"] [] := F.bindsN fun _ _ _ _ _ _ us hl => match us, hl with | [_, _, _], _ => rfl
  exact ⟨fd, okF_law_rule T TB F, hb, F.kp, ⟨[], .nil, hb⟩⟩
theorem okF_law_term_page (T : Tx K mg) (TB : TbB K base mg) {fd : FuncData} (F : FunD K "_law_term_page" "_law_term_page" (defArgs (topS 30)) (defBody (topS 30)) (defScope (topS 30)) (d_law_term_page.dvs K) [] (He.ga K "_law_term_page") fd) : FnW P w K mg base 1 (He.ga K "_law_term_page") fd ["_law_worth", "_law_place"] (SpW (cx K) wp_law_term_page (0)) := by
  have nd := sc_law_term_page.nd
  refine fnW_of F sc_law_term_page (fun vs H Q E h => SpW.len rfl h) (fun A outer s H vs Q E gd hr h => ?_)
  have tk : Takes (cxOf (L2.CX P w) P w K mg base N_law_term_page "_law_term_page" (defScope (topS 30)) (He.ga K "_law_term_page") (.ref (codeAt K (He.ga K "_law_term_page"))) A outer s H E) (fun cls d _ H => E cls d H) := takes_of rfl rfl rfl rfl
  exact ⟨_, gs_le (c := cx K) (W := fun cls d _ H => E cls d H) (kb := 0) (gs_cons (g_set (i := 2) nd rfl (Or.inl rfl) (g_if (g_tcmp w_lt (g_var (pv 1)) g_int (nomark _)) (g_ix (g_lst (ga_cons g_str (ga_cons g_str ga_nil))) (g_var (pv 1))) (g_op w_add g_str (g_cty w_str (by rfl) T.n_str (by decide +kernel) (ga_cons (g_var (pv 1)) ga_nil)))))
      (gs_cons (g_ifS (g_pt (g_wand (g_tcmp w_gt (g_var (pv 1)) g_int (nomark _)) (g_wand1 (g_tcmp (w_eq hr.units) (g_var (pv 0)) g_int (nomark _))))) (gs_one (g_ret (g_var (pv 2)))) gs_nil)
      (gs_one (g_ret (g_op w_add (g_op w_add (g_cty w_str (by rfl) T.n_str (by decide +kernel) (ga_cons (g_var (pv 0)) ga_nil)) (g_op w_mulS g_str (g_cty w_int (by rfl) T.n_int (by decide +kernel) (ga_cons (g_cmp w_gt (g_var (pv 1)) g_int (nomark _)) ga_nil)))) (g_var (pv 2))))))) (by decide +kernel), run_wDef (N := N_law_term_page) h (Nat.le_refl _)⟩
theorem ok_law_term_page (T : Tx K mg) (TB : TbB K base mg) : OkW P w (cx K) mg base 1 (He.ga K "_law_term_page") ["_law_worth", "_law_place"] wp_law_term_page (0) (d_law_term_page.dvs K) := by
  obtain ⟨fd, F⟩ := T.f_law_term_page
  have hb : Binds K fd ["_law_worth", "_law_place"] [] := F.bindsN fun _ _ _ _ _ _ us hl => match us, hl with | [_, _], _ => rfl
  exact ⟨fd, okF_law_term_page T TB F, hb, F.kp, ⟨[], .nil, hb⟩⟩
theorem okF_law_rule_page (T : Tx K mg) (TB : TbB K base mg) {fd : FuncData} (F : FunD K "_law_rule_page" "_law_rule_page" (defArgs (topS 31)) (defBody (topS 31)) (defScope (topS 31)) (d_law_rule_page.dvs K) [] (He.ga K "_law_rule_page") fd) : FnW P w K mg base 2 (He.ga K "_law_rule_page") fd ["_law_row"] (SpW (cx K) wp_law_rule_page (0)) := by
  obtain ⟨_, G_law_term_page, b_law_term_page, k_law_term_page, _, v_law_term_page, c_law_term_page⟩ := ok_law_term_page (P := P) (w := w) (base := base) T TB
  have nd := sc_law_rule_page.nd
  refine fnW_of F sc_law_rule_page (fun vs H Q E h => SpW.len rfl h) (fun A outer s H vs Q E gd hr h => ?_)
  have tk : Takes (cxOf (L2.CX P w) P w K mg base N_law_rule_page "_law_rule_page" (defScope (topS 31)) (He.ga K "_law_rule_page") (.ref (codeAt K (He.ga K "_law_rule_page"))) A outer s H E) (fun cls d _ H => E cls d H) := takes_of rfl rfl rfl rfl
  exact ⟨_, gs_le (c := cx K) (W := fun cls d _ H => E cls d H) (kb := 0) (gs_cons (g_set (i := 1) nd rfl (Or.inl rfl) g_str)
      (gs_cons (g_for (passes_of rfl) (gi_rng3 (by rfl) T.n_range (ga_cons (g_op w_sub (g_cb w_len (by rfl) T.n_len PySem.boot_len (ga_cons (g_var (pv 0)) ga_nil)) g_int) (ga_cons (g_un w_neg g_int) (ga_cons (g_un w_neg g_int) ga_nil)))) (gg_name (i := 2) nd rfl (Or.inl rfl)) (gs_cons (g_set (i := 3) nd rfl (Or.inl rfl) (g_ix (g_var (pv 0)) (g_var (pv 2))))
      (gs_one (g_ifS (g_tcmp (w_ne hr.units) (g_var (pv 3)) g_int (nomark _)) (gs_cons (g_set (i := 4) nd rfl (Or.inl rfl) (g_if (g_tcmp (w_eq hr.units) (g_var (pv 1)) g_str (nomark _)) (g_ix (g_lst (ga_cons g_str (ga_cons g_str ga_nil))) (g_cty w_int (by rfl) T.n_int (by decide +kernel) (ga_cons (g_cmp w_gt (g_var (pv 3)) g_int (nomark _)) ga_nil))) (g_ix (g_lst (ga_cons g_str (ga_cons g_str ga_nil))) (g_cty w_int (by rfl) T.n_int (by decide +kernel) (ga_cons (g_cmp w_gt (g_var (pv 3)) g_int (nomark _)) ga_nil)))))
      (gs_one (g_set (i := 1) nd rfl (Or.inl rfl) (g_op w_add (g_op w_add (g_var (pv 1)) (g_var (pv 4))) (g_call G_law_term_page gd (hr.mono (by decide)) rfl T.g__law_term_page k_law_term_page b_law_term_page .nil (fun _ _ => .nil) tk (ga_cons (g_cb w_abs (by rfl) T.n_abs (by decide +kernel) (ga_cons (g_var (pv 3)) ga_nil)) (ga_cons (g_var (pv 2)) ga_nil))))))) gs_nil))))
      (gs_one (g_ret (g_if (g_tcmp (w_ne hr.units) (g_var (pv 1)) g_str (nomark _)) (g_var (pv 1)) g_str))))) (by decide +kernel), run_wDef (N := N_law_rule_page) h (Nat.le_refl _)⟩
theorem ok_law_rule_page (T : Tx K mg) (TB : TbB K base mg) : OkW P w (cx K) mg base 2 (He.ga K "_law_rule_page") ["_law_row"] wp_law_rule_page (0) (d_law_rule_page.dvs K) := by
  obtain ⟨fd, F⟩ := T.f_law_rule_page
  have hb : Binds K fd ["_law_row"] [] := F.bindsN fun _ _ _ _ _ _ us hl => match us, hl with | [_], _ => rfl
  exact ⟨fd, okF_law_rule_page T TB F, hb, F.kp, ⟨[], .nil, hb⟩⟩
theorem okF_law_figures (T : Tx K mg) (TB : TbB K base mg) {fd : FuncData} (F : FunD K "_law_figures" "_law_figures" (defArgs (topS 32)) (defBody (topS 32)) (defScope (topS 32)) (d_law_figures.dvs K) [] (He.ga K "_law_figures") fd) : FnW P w K mg base 1 (He.ga K "_law_figures") fd ["_law_word", "_law_most"] (SpW (cx K) wp_law_figures (0)) := by
  have nd := sc_law_figures.nd
  refine fnW_of F sc_law_figures (fun vs H Q E h => SpW.len rfl h) (fun A outer s H vs Q E gd hr h => ?_)
  have tk : Takes (cxOf (L2.CX P w) P w K mg base N_law_figures "_law_figures" (defScope (topS 32)) (He.ga K "_law_figures") (.ref (codeAt K (He.ga K "_law_figures"))) A outer s H E) (fun cls d _ H => E cls d H) := takes_of rfl rfl rfl rfl
  exact ⟨_, gs_le (c := cx K) (W := fun cls d _ H => E cls d H) (kb := 0) (gs_cons (g_ifS (g_pt (g_wor (g_tnot (g_tchain op_le op_le g_int (g_cb w_len (by rfl) T.n_len PySem.boot_len (ga_cons (g_var (pv 0)) ga_nil)) (g_var (pv 1)))) (g_wor1 (g_tcmp (w_ne hr.units) (g_lc (own := [("_law_sign", 2)]) nd (gi_str (g_var (pv 0))) (blkOk_by (own := [("_law_sign", 2)]) (N := N_law_figures) (sc := defScope (topS 32)) (by decide +kernel)) (fun _ _ _ _ _ => (gg_name (i := 2) nd rfl (Or.inl rfl))) (fun _ _ _ _ _ => (gt_one (g_tcmp w_notinS (g_var (pv 2)) g_str (by rfl)))) (fun _ _ _ _ _ => (g_var (pv 2)))) (g_lst ga_nil) (nomark _))))) (gs_one (g_ret g_non)) gs_nil)
      (gs_one (g_ret (g_if (g_pt (g_wor (g_tcmp (w_eq hr.units) (g_var (pv 0)) g_str (nomark _)) (g_wor1 (g_tcmp (w_ne hr.units) (g_ix (g_var (pv 0)) g_int) g_str (nomark _))))) (g_cty w_intS (by rfl) T.n_int (by decide +kernel) (ga_cons (g_var (pv 0)) ga_nil)) g_non)))) (by decide +kernel), run_wDef (N := N_law_figures) h (Nat.le_refl _)⟩
theorem ok_law_figures (T : Tx K mg) (TB : TbB K base mg) : OkW P w (cx K) mg base 1 (He.ga K "_law_figures") ["_law_word", "_law_most"] wp_law_figures (0) (d_law_figures.dvs K) := by
  obtain ⟨fd, F⟩ := T.f_law_figures
  have hb : Binds K fd ["_law_word", "_law_most"] [] := F.bindsN fun _ _ _ _ _ _ us hl => match us, hl with | [_, _], _ => rfl
  exact ⟨fd, okF_law_figures T TB F, hb, F.kp, ⟨[], .nil, hb⟩⟩
theorem okF_law_term_read (T : Tx K mg) (TB : TbB K base mg) {fd : FuncData} (F : FunD K "_law_term_read" "_law_term_read" (defArgs (topS 33)) (defBody (topS 33)) (defScope (topS 33)) (d_law_term_read.dvs K) [] (He.ga K "_law_term_read") fd) : FnW P w K mg base 2 (He.ga K "_law_term_read") fd ["_law_words"] (SpW (cx K) wp_law_term_read (0)) := by
  obtain ⟨_, G_law_figures, b_law_figures, k_law_figures, _, v_law_figures, c_law_figures⟩ := ok_law_figures (P := P) (w := w) (base := base) T TB
  have nd := sc_law_term_read.nd
  refine fnW_of F sc_law_term_read (fun vs H Q E h => SpW.len rfl h) (fun A outer s H vs Q E gd hr h => ?_)
  have tk : Takes (cxOf (L2.CX P w) P w K mg base N_law_term_read "_law_term_read" (defScope (topS 33)) (He.ga K "_law_term_read") (.ref (codeAt K (He.ga K "_law_term_read"))) A outer s H E) (fun cls d _ H => E cls d H) := takes_of rfl rfl rfl rfl
  exact ⟨_, gs_le (c := cx K) (W := fun cls d _ H => E cls d H) (kb := 0) (gs_cons (g_set (i := 1) nd rfl (Or.inl rfl) (g_ix (g_var (pv 0)) (g_un w_neg g_int)))
      (gs_cons (g_set (i := 2) nd rfl (Or.inl rfl) (g_if (g_tcmp (w_eq hr.units) (g_sl w_sl (g_var (pv 1)) go_none (go_some g_int)) g_str (nomark _)) (g_call G_law_figures gd (hr.mono (by decide)) rfl T.g__law_figures k_law_figures b_law_figures .nil (fun _ _ => .nil) tk (ga_cons (g_sl w_sl (g_var (pv 1)) (go_some g_int) go_none) (ga_cons g_int ga_nil))) (g_if (g_tcmp (w_eq hr.units) (g_var (pv 1)) g_str (nomark _)) g_int g_int)))
      (gs_cons (g_ifS (g_pt (g_wor (g_tcmp w_is (g_var (pv 2)) g_non (nomark _)) (g_wor1 (g_tcmp w_gt (g_var (pv 2)) g_int (nomark _))))) (gs_one (g_ret g_non)) gs_nil)
      (gs_cons (g_ifS (g_pt (g_wor (g_tcmp (w_eq hr.units) (g_cb w_len (by rfl) T.n_len PySem.boot_len (ga_cons (g_var (pv 0)) ga_nil)) g_int (nomark _)) (g_wor1 (g_tcmp (w_eq hr.units) (g_var (pv 2)) g_int (nomark _))))) (gs_cons (g_set (i := 3) nd rfl (Or.inl rfl) (g_call G_law_figures gd (hr.mono (by decide)) rfl T.g__law_figures k_law_figures b_law_figures .nil (fun _ _ => .nil) tk (ga_cons (g_ix (g_var (pv 0)) g_int) (ga_cons g_int ga_nil))))
      (gs_cons (g_set (i := 4) nd rfl (Or.inl rfl) (g_and (g_cmp w_isnot (g_var (pv 3)) g_non (nomark _)) (g_one (g_cmp (w_eq hr.units) (g_cmp (w_eq hr.units) (g_cb w_len (by rfl) T.n_len PySem.boot_len (ga_cons (g_var (pv 0)) ga_nil)) g_int (nomark _)) (g_cmp (w_eq hr.units) (g_var (pv 2)) g_int (nomark _)) (nomark _)))))
      (gs_one (g_ret (g_if (g_tval (g_var (pv 4))) (g_tup (ga_cons (g_var (pv 3)) (ga_cons (g_var (pv 2)) ga_nil))) g_non))))) gs_nil)
      (gs_one (g_ret (g_tup (ga_cons g_int (ga_cons (g_var (pv 2)) ga_nil))))))))) (by decide +kernel), run_wDef (N := N_law_term_read) h (Nat.le_refl _)⟩
theorem ok_law_term_read (T : Tx K mg) (TB : TbB K base mg) : OkW P w (cx K) mg base 2 (He.ga K "_law_term_read") ["_law_words"] wp_law_term_read (0) (d_law_term_read.dvs K) := by
  obtain ⟨fd, F⟩ := T.f_law_term_read
  have hb : Binds K fd ["_law_words"] [] := F.bindsN fun _ _ _ _ _ _ us hl => match us, hl with | [_], _ => rfl
  exact ⟨fd, okF_law_term_read T TB F, hb, F.kp, ⟨[], .nil, hb⟩⟩
theorem okF_law_rule_read (T : Tx K mg) (TB : TbB K base mg) {fd : FuncData} (F : FunD K "_law_rule_read" "_law_rule_read" (defArgs (topS 34)) (defBody (topS 34)) (defScope (topS 34)) (d_law_rule_read.dvs K) [] (He.ga K "_law_rule_read") fd) : FnW P w K mg base 3 (He.ga K "_law_rule_read") fd ["_law_page"] (SpW (cx K) wp_law_rule_read (0)) := by
  obtain ⟨_, G_law_rule_page, b_law_rule_page, k_law_rule_page, _, v_law_rule_page, c_law_rule_page⟩ := ok_law_rule_page (P := P) (w := w) (base := base) T TB
  obtain ⟨_, G_law_term_read, b_law_term_read, k_law_term_read, _, v_law_term_read, c_law_term_read⟩ := ok_law_term_read (P := P) (w := w) (base := base) T TB
  obtain ⟨_, G_law_trimmed, b_law_trimmed, k_law_trimmed, _, v_law_trimmed, c_law_trimmed⟩ := ok_law_trimmed (P := P) (w := w) (base := base) T TB
  have nd := sc_law_rule_read.nd
  refine fnW_of F sc_law_rule_read (fun vs H Q E h => SpW.len rfl h) (fun A outer s H vs Q E gd hr h => ?_)
  have tk : Takes (cxOf (L2.CX P w) P w K mg base N_law_rule_read "_law_rule_read" (defScope (topS 34)) (He.ga K "_law_rule_read") (.ref (codeAt K (He.ga K "_law_rule_read"))) A outer s H E) (fun cls d _ H => E cls d H) := takes_of rfl rfl rfl rfl
  exact ⟨_, gs_le (c := cx K) (W := fun cls d _ H => E cls d H) (kb := 0) (gs_cons (g_par3N (hp := ps_par3 (i := 1) (j := 2) (l := 3) rfl nd rfl rfl rfl (by decide) (by decide) (by decide) rfl rfl rfl (ga_cons g_int (ga_cons (g_op w_mul (g_lst (ga_cons g_int ga_nil)) g_int) (ga_cons (g_lst ga_nil) ga_nil))) rfl))
      (gs_cons (g_set (i := 4) nd rfl (Or.inl rfl) (g_var (pv 0)))
      (gs_cons (g_ifS (g_tcmp (w_eq hr.units) (g_sl w_sl (g_var (pv 0)) go_none (go_some g_int)) g_str (nomark _)) (gs_one (g_parN (hp := ps_par (i := 1) (j := 4) rfl nd rfl rfl (by decide) rfl rfl (ga_cons (g_un w_neg g_int) (ga_cons (g_sl w_sl (g_var (pv 0)) (go_some g_int) go_none) ga_nil)) rfl))) gs_nil)
      (gs_cons (g_for (passes_of rfl) (gi_seq (g_op w_add (g_sm PySem.F.slot_str_split PySem.F.type_str_split mw_split (g_var (pv 4)) g_str (fun r h => pe_m1 PySem.F.slot_str_split PySem.F.type_str_split h (g_var (pv 4)) g_str)) (g_lst (ga_cons g_str ga_nil)))) (gg_name (i := 5) nd rfl (Or.inl rfl)) (gs_one (g_ifS (g_tcmp w_in (g_var (pv 5)) (g_tup (ga_cons g_str (ga_cons g_str ga_nil))) (by rfl)) (gs_cons (g_set (i := 6) nd rfl (Or.inl rfl) (g_if (g_tchain op_lt op_lt g_int (g_cb w_len (by rfl) T.n_len PySem.boot_len (ga_cons (g_var (pv 3)) ga_nil)) g_int) (g_call G_law_term_read gd (hr.mono (by decide)) rfl T.g__law_term_read k_law_term_read b_law_term_read .nil (fun _ _ => .nil) tk (ga_cons (g_var (pv 3)) ga_nil)) g_non))
      (gs_cons (g_ifS (g_tcmp w_is (g_var (pv 6)) g_non (nomark _)) (gs_one (g_ret g_non)) gs_nil)
      (gs_cons (g_setL (g_op w_add (g_ix (g_var (pv 2)) (g_ix (g_var (pv 6)) g_int)) (g_op w_mul (g_var (pv 1)) (g_ix (g_var (pv 6)) g_int))) (g_var (pv 2)) (g_ix (g_var (pv 6)) g_int))
      (gs_one (g_parN (hp := ps_par (i := 1) (j := 3) rfl nd rfl rfl (by decide) rfl rfl (ga_cons (g_ix (g_lst (ga_cons (g_un w_neg g_int) (ga_cons g_int ga_nil))) (g_cty w_int (by rfl) T.n_int (by decide +kernel) (ga_cons (g_cmp (w_eq hr.units) (g_var (pv 5)) g_str (nomark _)) ga_nil))) (ga_cons (g_lst ga_nil) ga_nil)) rfl)))))) (gs_one (g_set (i := 3) nd rfl (Or.inl rfl) (g_op w_add (g_var (pv 3)) (g_lst (ga_cons (g_var (pv 5)) ga_nil))))))))
      (gs_cons (g_set (i := 2) nd rfl (Or.inl rfl) (g_call G_law_trimmed gd (hr.mono (by decide)) rfl T.g__law_trimmed k_law_trimmed b_law_trimmed .nil (fun _ _ => .nil) tk (ga_cons (g_var (pv 2)) ga_nil)))
      (gs_one (g_fz 2 (g_ret (g_if (g_tcmp (w_eq hr.units) (g_call G_law_rule_page gd (hr.mono (by decide)) rfl T.g__law_rule_page k_law_rule_page b_law_rule_page .nil (fun _ _ => .nil) tk (ga_cons (g_var (pv 2)) ga_nil)) (g_var (pv 0)) (nomark _)) (g_var (pv 2)) g_non))))))))) (by decide +kernel), run_wDef (N := N_law_rule_read) h (Nat.le_refl _)⟩
theorem ok_law_rule_read (T : Tx K mg) (TB : TbB K base mg) : OkW P w (cx K) mg base 3 (He.ga K "_law_rule_read") ["_law_page"] wp_law_rule_read (0) (d_law_rule_read.dvs K) := by
  obtain ⟨fd, F⟩ := T.f_law_rule_read
  have hb : Binds K fd ["_law_page"] [] := F.bindsN fun _ _ _ _ _ _ us hl => match us, hl with | [_], _ => rfl
  exact ⟨fd, okF_law_rule_read T TB F, hb, F.kp, ⟨[], .nil, hb⟩⟩
theorem okF_is_plain_number (T : Tx K mg) (TB : TbB K base mg) {fd : FuncData} (F : FunD K "is_plain_number" "is_plain_number" (defArgs (topS 20)) (defBody (topS 20)) (defScope (topS 20)) (d_is_plain_number.dvs K) [] (He.ga K "is_plain_number") fd) : FnW P w K mg base 1 (He.ga K "is_plain_number") fd ["word", "most"] (SpW (cx K) wp_is_plain_number (0)) := by
  have nd := sc_is_plain_number.nd
  refine fnW_of F sc_is_plain_number (fun vs H Q E h => SpW.len rfl h) (fun A outer s H vs Q E gd hr h => ?_)
  have tk : Takes (cxOf (L2.CX P w) P w K mg base N_is_plain_number "is_plain_number" (defScope (topS 20)) (He.ga K "is_plain_number") (.ref (codeAt K (He.ga K "is_plain_number"))) A outer s H E) (fun cls d _ H => E cls d H) := takes_of rfl rfl rfl rfl
  exact ⟨_, gs_le (c := cx K) (W := fun cls d _ H => E cls d H) (kb := 0) (gs_cons (g_ifS (g_pt (g_wor (g_tnot (g_tchain op_le op_le g_int (g_cb w_len (by rfl) T.n_len PySem.boot_len (ga_cons (g_var (pv 0)) ga_nil)) (g_var (pv 1)))) (g_wor1 (g_tnot (g_tval (g_cb w_all (by rfl) T.n_all (by decide +kernel) (ga_cons (g_lc (own := [("sign", 2)]) nd (gi_str (g_var (pv 0))) (blkOk_by (own := [("sign", 2)]) (N := N_is_plain_number) (sc := defScope (topS 20)) (by decide +kernel)) (fun _ _ _ _ _ => (gg_name (i := 2) nd rfl (Or.inl rfl))) (fun _ _ _ _ _ => gt_yes) (fun _ _ _ _ _ => (g_cmp w_inS (g_var (pv 2)) (g_glS rfl T.g_FIGURES) (by rfl)))) ga_nil))))))) (gs_one (g_ret g_bl)) gs_nil)
      (gs_one (g_ret (g_or (g_cmp (w_eq hr.units) (g_var (pv 0)) g_str (nomark _)) (g_one (g_cmp (w_ne hr.units) (g_ix (g_var (pv 0)) g_int) g_str (nomark _))))))) (by decide +kernel), run_wDef (N := N_is_plain_number) h (Nat.le_refl _)⟩
theorem ok_is_plain_number (T : Tx K mg) (TB : TbB K base mg) : OkW P w (cx K) mg base 1 (He.ga K "is_plain_number") ["word", "most"] wp_is_plain_number (0) (d_is_plain_number.dvs K) := by
  obtain ⟨fd, F⟩ := T.f_is_plain_number
  have hb : Binds K fd ["word", "most"] [] := F.bindsN fun _ _ _ _ _ _ us hl => match us, hl with | [_, _], _ => rfl
  exact ⟨fd, okF_is_plain_number T TB F, hb, F.kp, ⟨[], .nil, hb⟩⟩
theorem okF_power_in (T : Tx K mg) (TB : TbB K base mg) {fd : FuncData} (F : FunD K "power_in" "power_in" (defArgs (topS 24)) (defBody (topS 24)) (defScope (topS 24)) (d_power_in.dvs K) [] (He.ga K "power_in") fd) : FnW P w K mg base 2 (He.ga K "power_in") fd ["word"] (SpW (cx K) wp_power_in (0)) := by
  obtain ⟨_, G_is_plain_number, b_is_plain_number, k_is_plain_number, _, v_is_plain_number, c_is_plain_number⟩ := ok_is_plain_number (P := P) (w := w) (base := base) T TB
  have nd := sc_power_in.nd
  refine fnW_of F sc_power_in (fun vs H Q E h => SpW.len rfl h) (fun A outer s H vs Q E gd hr h => ?_)
  have tk : Takes (cxOf (L2.CX P w) P w K mg base N_power_in "power_in" (defScope (topS 24)) (He.ga K "power_in") (.ref (codeAt K (He.ga K "power_in"))) A outer s H E) (fun cls d _ H => E cls d H) := takes_of rfl rfl rfl rfl
  exact ⟨_, gs_le (c := cx K) (W := fun cls d _ H => E cls d H) (kb := 0) (gs_cons (g_ifS (g_tcmp (w_eq hr.units) (g_var (pv 0)) g_str (nomark _)) (gs_one (g_ret g_int)) gs_nil)
      (gs_cons (g_ifS (g_pt (g_wor (g_tcmp (w_ne hr.units) (g_sl w_sl (g_var (pv 0)) go_none (go_some g_int)) g_str (nomark _)) (g_wor (g_tnot (g_tval (g_call G_is_plain_number gd (hr.mono (by decide)) rfl T.g_is_plain_number k_is_plain_number b_is_plain_number .nil (fun _ _ => .nil) tk (ga_cons (g_sl w_sl (g_var (pv 0)) (go_some g_int) go_none) (ga_cons g_int ga_nil))))) (g_wor1 (g_tcmp w_gt (g_cty w_intS (by rfl) T.n_int (by decide +kernel) (ga_cons (g_sl w_sl (g_var (pv 0)) (go_some g_int) go_none) ga_nil)) (g_glI rfl T.g_MOST_POWER) (nomark _)))))) (gs_one (g_ret g_non)) gs_nil)
      (gs_one (g_ret (g_cty w_intS (by rfl) T.n_int (by decide +kernel) (ga_cons (g_sl w_sl (g_var (pv 0)) (go_some g_int) go_none) ga_nil)))))) (by decide +kernel), run_wDef (N := N_power_in) h (Nat.le_refl _)⟩
theorem ok_power_in (T : Tx K mg) (TB : TbB K base mg) : OkW P w (cx K) mg base 2 (He.ga K "power_in") ["word"] wp_power_in (0) (d_power_in.dvs K) := by
  obtain ⟨fd, F⟩ := T.f_power_in
  have hb : Binds K fd ["word"] [] := F.bindsN fun _ _ _ _ _ _ us hl => match us, hl with | [_], _ => rfl
  exact ⟨fd, okF_power_in T TB F, hb, F.kp, ⟨[], .nil, hb⟩⟩
theorem okF_term_at (T : Tx K mg) (TB : TbB K base mg) {fd : FuncData} (F : FunD K "term_at" "term_at" (defArgs (topS 25)) (defBody (topS 25)) (defScope (topS 25)) (d_term_at.dvs K) [] (He.ga K "term_at") fd) : FnW P w K mg base 3 (He.ga K "term_at") fd ["words", "at"] (SpW (cx K) wp_term_at (0)) := by
  obtain ⟨_, G_is_plain_number, b_is_plain_number, k_is_plain_number, _, v_is_plain_number, c_is_plain_number⟩ := ok_is_plain_number (P := P) (w := w) (base := base) T TB
  obtain ⟨_, G_power_in, b_power_in, k_power_in, _, v_power_in, c_power_in⟩ := ok_power_in (P := P) (w := w) (base := base) T TB
  have nd := sc_term_at.nd
  refine fnW_of F sc_term_at (fun vs H Q E h => SpW.len rfl h) (fun A outer s H vs Q E gd hr h => ?_)
  have tk : Takes (cxOf (L2.CX P w) P w K mg base N_term_at "term_at" (defScope (topS 25)) (He.ga K "term_at") (.ref (codeAt K (He.ga K "term_at"))) A outer s H E) (fun cls d _ H => E cls d H) := takes_of rfl rfl rfl rfl
  exact ⟨_, gs_le (c := cx K) (W := fun cls d _ H => E cls d H) (kb := 0) (gs_cons (g_asg (g_tup (ga_cons g_int (ga_cons g_int ga_nil))) (gg_tup (ggs_cons (gg_name (i := 2) nd rfl (Or.inl rfl)) (ggs_cons (gg_name (i := 3) nd rfl (Or.inl rfl)) ggs_nil))))
      (gs_cons (g_ifS (g_tval (g_call G_is_plain_number gd (hr.mono (by decide)) rfl T.g_is_plain_number k_is_plain_number b_is_plain_number .nil (fun _ _ => .nil) tk (ga_cons (g_ix (g_var (pv 0)) (g_var (pv 1))) (ga_cons (g_glI rfl T.g_MOST_FIGURES) ga_nil)))) (gs_one (g_parN (hp := ps_par (i := 2) (j := 3) rfl nd rfl rfl (by decide) rfl rfl (ga_cons (g_cty w_intS (by rfl) T.n_int (by decide +kernel) (ga_cons (g_ix (g_var (pv 0)) (g_var (pv 1))) ga_nil)) (ga_cons g_int ga_nil)) rfl))) gs_nil)
      (gs_cons (g_set (i := 4) nd rfl (Or.inl rfl) (g_if (g_tcmp w_lt (g_op w_add (g_var (pv 1)) (g_var (pv 3))) (g_cb w_len (by rfl) T.n_len PySem.boot_len (ga_cons (g_var (pv 0)) ga_nil)) (nomark _)) (g_call G_power_in gd (hr.mono (by decide)) rfl T.g_power_in k_power_in b_power_in .nil (fun _ _ => .nil) tk (ga_cons (g_ix (g_var (pv 0)) (g_op w_add (g_var (pv 1)) (g_var (pv 3)))) ga_nil)) g_non))
      (gs_one (g_ret (g_if (g_tcmp w_is (g_var (pv 4)) g_non (nomark _)) (g_tup (ga_cons (g_var (pv 2)) (ga_cons g_int (ga_cons (g_var (pv 3)) ga_nil)))) (g_tup (ga_cons (g_var (pv 2)) (ga_cons (g_var (pv 4)) (ga_cons (g_op w_add (g_var (pv 3)) g_int) ga_nil)))))))))) (by decide +kernel), run_wDef (N := N_term_at) h (Nat.le_refl _)⟩
theorem ok_term_at (T : Tx K mg) (TB : TbB K base mg) : OkW P w (cx K) mg base 3 (He.ga K "term_at") ["words", "at"] wp_term_at (0) (d_term_at.dvs K) := by
  obtain ⟨fd, F⟩ := T.f_term_at
  have hb : Binds K fd ["words", "at"] [] := F.bindsN fun _ _ _ _ _ _ us hl => match us, hl with | [_, _], _ => rfl
  exact ⟨fd, okF_term_at T TB F, hb, F.kp, ⟨[], .nil, hb⟩⟩
theorem okF_numbers_of_terms (T : Tx K mg) (TB : TbB K base mg) {fd : FuncData} (F : FunD K "numbers_of_terms" "numbers_of_terms" (defArgs (topS 26)) (defBody (topS 26)) (defScope (topS 26)) (d_numbers_of_terms.dvs K) [] (He.ga K "numbers_of_terms") fd) : FnW P w K mg base 4 (He.ga K "numbers_of_terms") fd ["words", "sign"] (SpW (cx K) wp_numbers_of_terms (0)) := by
  obtain ⟨_, G_term_at, b_term_at, k_term_at, _, v_term_at, c_term_at⟩ := ok_term_at (P := P) (w := w) (base := base) T TB
  have nd := sc_numbers_of_terms.nd
  refine fnW_of F sc_numbers_of_terms (fun vs H Q E h => SpW.len rfl h) (fun A outer s H vs Q E gd hr h => ?_)
  have tk : Takes (cxOf (L2.CX P w) P w K mg base N_numbers_of_terms "numbers_of_terms" (defScope (topS 26)) (He.ga K "numbers_of_terms") (.ref (codeAt K (He.ga K "numbers_of_terms"))) A outer s H E) (fun cls d _ H => E cls d H) := takes_of rfl rfl rfl rfl
  exact ⟨_, gs_le (c := cx K) (W := fun cls d _ H => E cls d H) (kb := 0) (gs_cons (g_parN (hp := ps_par (i := 2) (j := 3) rfl nd rfl rfl (by decide) rfl rfl (ga_cons g_dict0 (ga_cons g_int ga_nil)) rfl))
      (gs_cons (g_while (passes_of rfl) (g_tcmp w_lt (g_var (pv 3)) (g_cb w_len (by rfl) T.n_len PySem.boot_len (ga_cons (g_var (pv 0)) ga_nil)) (nomark _)) (gs_cons (g_asg (g_call G_term_at gd (hr.mono (by decide)) rfl T.g_term_at k_term_at b_term_at .nil (fun _ _ => .nil) tk (ga_cons (g_var (pv 0)) (ga_cons (g_var (pv 3)) ga_nil))) (gg_tup (ggs_cons (gg_name (i := 4) nd rfl (Or.inl rfl)) (ggs_cons (gg_name (i := 5) nd rfl (Or.inl rfl)) (ggs_cons (gg_name (i := 6) nd rfl (Or.inl rfl)) ggs_nil)))))
      (gs_cons (g_ifS (g_tcmp (w_eq hr.units) (g_var (pv 6)) g_int (nomark _)) (gs_one (g_ret g_non)) gs_nil)
      (gs_cons (g_kput (units1 hr.units) (g_var (pv 2)) (g_var (pv 5)) (g_op w_add (g_kget2 (units1 hr.units) (g_var (pv 2)) (g_var (pv 5)) g_int ⟨rfl, rfl, rfl, rfl⟩) (g_op w_mul (g_var (pv 1)) (g_var (pv 4)))))
      (gs_cons (g_aug (i := 3) nd rfl (Or.inl rfl) (g_var (pv 6)) ip_add)
      (gs_one (g_ifS (g_tcmp w_lt (g_var (pv 3)) (g_cb w_len (by rfl) T.n_len PySem.boot_len (ga_cons (g_var (pv 0)) ga_nil)) (nomark _)) (gs_cons (g_ifS (g_pt (g_wor (g_tcmp w_notin (g_ix (g_var (pv 0)) (g_var (pv 3))) (g_tup (ga_cons g_str (ga_cons g_str ga_nil))) (by rfl)) (g_wor1 (g_tcmp (w_eq hr.units) (g_op w_add (g_var (pv 3)) g_int) (g_cb w_len (by rfl) T.n_len PySem.boot_len (ga_cons (g_var (pv 0)) ga_nil)) (nomark _))))) (gs_one (g_ret g_non)) gs_nil)
      (gs_cons (g_set (i := 1) nd rfl (Or.inl rfl) (g_if (g_tcmp (w_eq hr.units) (g_ix (g_var (pv 0)) (g_var (pv 3))) g_str (nomark _)) g_int (g_un w_neg g_int)))
      (gs_one (g_aug (i := 3) nd rfl (Or.inl rfl) g_int ip_add)))) gs_nil)))))))
      (gs_one (g_fz 2 (g_ret (g_var (pv 2))))))) (by decide +kernel), run_wDef (N := N_numbers_of_terms) h (Nat.le_refl _)⟩
theorem ok_numbers_of_terms (T : Tx K mg) (TB : TbB K base mg) : OkW P w (cx K) mg base 4 (He.ga K "numbers_of_terms") ["words", "sign"] wp_numbers_of_terms (0) (d_numbers_of_terms.dvs K) := by
  obtain ⟨fd, F⟩ := T.f_numbers_of_terms
  have hb : Binds K fd ["words", "sign"] [] := F.bindsN fun _ _ _ _ _ _ us hl => match us, hl with | [_, _], _ => rfl
  exact ⟨fd, okF_numbers_of_terms T TB F, hb, F.kp, ⟨[], .nil, hb⟩⟩
theorem okF_is_list (T : Tx K mg) (TB : TbB K base mg) {fd : FuncData} (F : FunD K "is_list" "is_list" (defArgs (topS 10)) (defBody (topS 10)) (defScope (topS 10)) (d_is_list.dvs K) [] (He.ga K "is_list") fd) : FnW P w K mg base 1 (He.ga K "is_list") fd ["thing"] (SpW (cx K) wp_is_list (0)) := by
  have nd := sc_is_list.nd
  refine fnW_of F sc_is_list (fun vs H Q E h => SpW.len rfl h) (fun A outer s H vs Q E gd hr h => ?_)
  have tk : Takes (cxOf (L2.CX P w) P w K mg base N_is_list "is_list" (defScope (topS 10)) (He.ga K "is_list") (.ref (codeAt K (He.ga K "is_list"))) A outer s H E) (fun cls d _ H => E cls d H) := takes_of rfl rfl rfl rfl
  exact ⟨_, gs_le (c := cx K) (W := fun cls d _ H => E cls d H) (kb := 0) (gs_one (g_ret (g_cb (w_isi T.ctx) (by rfl) T.n_isinstance (by decide +kernel) (ga_cons (g_var (pv 0)) (ga_cons (g_tup (ga_cons (g_ty (pe_bltn (by rfl) T.n_list (by decide +kernel) rfl)) (ga_cons (g_ty (pe_bltn (by rfl) T.n_tuple (by decide +kernel) rfl)) ga_nil))) ga_nil))))) (by decide +kernel), run_wDef (N := N_is_list) h (Nat.le_refl _)⟩
theorem ok_is_list (T : Tx K mg) (TB : TbB K base mg) : OkW P w (cx K) mg base 1 (He.ga K "is_list") ["thing"] wp_is_list (0) (d_is_list.dvs K) := by
  obtain ⟨fd, F⟩ := T.f_is_list
  have hb : Binds K fd ["thing"] [] := F.bindsN fun _ _ _ _ _ _ us hl => match us, hl with | [_], _ => rfl
  exact ⟨fd, okF_is_list T TB F, hb, F.kp, ⟨[], .nil, hb⟩⟩
theorem okF_is_number (T : Tx K mg) (TB : TbB K base mg) {fd : FuncData} (F : FunD K "is_number" "is_number" (defArgs (topS 8)) (defBody (topS 8)) (defScope (topS 8)) (d_is_number.dvs K) [] (He.ga K "is_number") fd) : FnW P w K mg base 1 (He.ga K "is_number") fd ["thing"] (SpW (cx K) wp_is_number (0)) := by
  have nd := sc_is_number.nd
  refine fnW_of F sc_is_number (fun vs H Q E h => SpW.len rfl h) (fun A outer s H vs Q E gd hr h => ?_)
  have tk : Takes (cxOf (L2.CX P w) P w K mg base N_is_number "is_number" (defScope (topS 8)) (He.ga K "is_number") (.ref (codeAt K (He.ga K "is_number"))) A outer s H E) (fun cls d _ H => E cls d H) := takes_of rfl rfl rfl rfl
  exact ⟨_, gs_le (c := cx K) (W := fun cls d _ H => E cls d H) (kb := 0) (gs_one (g_ret (g_and (g_cb (w_isi T.ctx) (by rfl) T.n_isinstance (by decide +kernel) (ga_cons (g_var (pv 0)) (ga_cons (g_ty (pe_bltn (by rfl) T.n_int (by decide +kernel) rfl)) ga_nil))) (g_one (g_not (g_cb (w_isi T.ctx) (by rfl) T.n_isinstance (by decide +kernel) (ga_cons (g_var (pv 0)) (ga_cons (g_ty (pe_bltn (by rfl) T.n_bool (by decide +kernel) rfl)) ga_nil)))))))) (by decide +kernel), run_wDef (N := N_is_number) h (Nat.le_refl _)⟩
theorem ok_is_number (T : Tx K mg) (TB : TbB K base mg) : OkW P w (cx K) mg base 1 (He.ga K "is_number") ["thing"] wp_is_number (0) (d_is_number.dvs K) := by
  obtain ⟨fd, F⟩ := T.f_is_number
  have hb : Binds K fd ["thing"] [] := F.bindsN fun _ _ _ _ _ _ us hl => match us, hl with | [_], _ => rfl
  exact ⟨fd, okF_is_number T TB F, hb, F.kp, ⟨[], .nil, hb⟩⟩
theorem okF_without_end (T : Tx K mg) (TB : TbB K base mg) {fd : FuncData} (F : FunD K "without_end" "without_end" (defArgs (topS 11)) (defBody (topS 11)) (defScope (topS 11)) (d_without_end.dvs K) [] (He.ga K "without_end") fd) : FnW P w K mg base 1 (He.ga K "without_end") fd ["numbers"] (SpW (cx K) wp_without_end (0)) := by
  have nd := sc_without_end.nd
  refine fnW_of F sc_without_end (fun vs H Q E h => SpW.len rfl h) (fun A outer s H vs Q E gd hr h => ?_)
  have tk : Takes (cxOf (L2.CX P w) P w K mg base N_without_end "without_end" (defScope (topS 11)) (He.ga K "without_end") (.ref (codeAt K (He.ga K "without_end"))) A outer s H E) (fun cls d _ H => E cls d H) := takes_of rfl rfl rfl rfl
  exact ⟨_, gs_le (c := cx K) (W := fun cls d _ H => E cls d H) (kb := 0) (gs_cons (g_set (i := 1) nd rfl (Or.inl rfl) (g_cb w_len (by rfl) T.n_len PySem.boot_len (ga_cons (g_var (pv 0)) ga_nil)))
      (gs_cons (g_while (passes_of rfl) (g_pt (g_wand (g_tcmp w_gt (g_var (pv 1)) g_int (nomark _)) (g_wand1 (g_tcmp (w_eq hr.units) (g_ix (g_var (pv 0)) (g_op w_sub (g_var (pv 1)) g_int)) g_int (nomark _))))) (gs_one (g_aug (i := 1) nd rfl (Or.inl rfl) g_int ip_sub)))
      (gs_one (g_ret (g_cty w_tuple (by rfl) T.n_tuple (by decide +kernel) (ga_cons (g_sl w_sl (g_var (pv 0)) go_none (go_some (g_var (pv 1)))) ga_nil)))))) (by decide +kernel), run_wDef (N := N_without_end) h (Nat.le_refl _)⟩
theorem ok_without_end (T : Tx K mg) (TB : TbB K base mg) : OkW P w (cx K) mg base 1 (He.ga K "without_end") ["numbers"] wp_without_end (0) (d_without_end.dvs K) := by
  obtain ⟨fd, F⟩ := T.f_without_end
  have hb : Binds K fd ["numbers"] [] := F.bindsN fun _ _ _ _ _ _ us hl => match us, hl with | [_], _ => rfl
  exact ⟨fd, okF_without_end T TB F, hb, F.kp, ⟨[], .nil, hb⟩⟩
theorem okF_Rule___init__ (T : Tx K mg) (TB : TbB K base mg) {fd : FuncData} (F : FunD K "__init__" "Rule.__init__" (defArgs (inClass (topS 12) 0)) (defBody (inClass (topS 12) 0)) (defScope (inClass (topS 12) 0)) (d_Rule___init__.dvs K) [] (He.ma K (He.ga K "Rule") "__init__") fd) : FnW P w K mg base 3 (He.ma K (He.ga K "Rule") "__init__") fd ["self", "coefficients"] (SpW (cx K) wp_Rule___init__ (0)) := by
  obtain ⟨_, G_is_list, b_is_list, k_is_list, _, v_is_list, c_is_list⟩ := ok_is_list (P := P) (w := w) (base := base) T TB
  obtain ⟨_, G_is_number, b_is_number, k_is_number, _, v_is_number, c_is_number⟩ := ok_is_number (P := P) (w := w) (base := base) T TB
  obtain ⟨_, G_without_end, b_without_end, k_without_end, _, v_without_end, c_without_end⟩ := ok_without_end (P := P) (w := w) (base := base) T TB
  obtain ⟨_, GE_BadRule, bE_BadRule⟩ := ok_BadRule___init__ (P := P) (w := w) (base := base) T
  have nd := sc_Rule___init__.nd
  refine fnW_of F sc_Rule___init__ (fun vs H Q E h => SpW.len rfl h) (fun A outer s H vs Q E gd hr h => ?_)
  have tk : Takes (cxOf (L2.CX P w) P w K mg base N_Rule___init__ "Rule.__init__" (defScope (inClass (topS 12) 0)) (He.ma K (He.ga K "Rule") "__init__") (.ref (codeAt K (He.ma K (He.ga K "Rule") "__init__"))) A outer s H E) (fun cls d _ H => E cls d H) := takes_of rfl rfl rfl rfl
  exact ⟨_, gs_le (c := cx K) (W := fun cls d _ H => E cls d H) (kb := 0) (gs_cons (g_ifS (g_tnot (g_tval (g_call G_is_list gd (hr.mono (by decide)) rfl T.g_is_list k_is_list b_is_list .nil (fun _ _ => .nil) tk (ga_cons (g_var (pv 1)) ga_nil)))) (gs_one (g_rzA (n := "BadRule") rfl tk T.er_BadRule.t T.er_BadRule.ini T.er_BadRule.fn T.er_BadRule.nof GE_BadRule (hr.mono (by decide)) bE_BadRule rfl T.g_BadRule g_non e_BadRule)) gs_nil)
      (gs_cons (g_for (passes_of rfl) (gi_enum (by rfl) T.n_enumerate (ga_cons (g_var (pv 1)) ga_nil)) (gg_tup (ggs_cons (gg_name (i := 2) nd rfl (Or.inl rfl)) (ggs_cons (gg_name (i := 3) nd rfl (Or.inl rfl)) ggs_nil))) (gs_one (g_ifS (g_tnot (g_tval (g_call G_is_number gd (hr.mono (by decide)) rfl T.g_is_number k_is_number b_is_number .nil (fun _ _ => .nil) tk (ga_cons (g_var (pv 3)) ga_nil)))) (gs_one (g_rzA (n := "BadRule") rfl tk T.er_BadRule.t T.er_BadRule.ini T.er_BadRule.fn T.er_BadRule.nof GE_BadRule (hr.mono (by decide)) bE_BadRule rfl T.g_BadRule (g_var (pv 2)) e_BadRule)) gs_nil)))
      (gs_one (g_setF (n := "Rule") (g_var (pv 0)) (g_call G_without_end gd (hr.mono (by decide)) rfl T.g_without_end k_without_end b_without_end .nil (fun _ _ => .nil) tk (ga_cons (g_var (pv 1)) ga_nil)) T.cl_Rule T.na_Rule_own_numbers)))) (by decide +kernel), run_wDef (N := N_Rule___init__) h (Nat.le_refl _)⟩
theorem ok_Rule___init__ (T : Tx K mg) (TB : TbB K base mg) : OkW P w (cx K) mg base 3 (He.ma K (He.ga K "Rule") "__init__") ["self", "coefficients"] wp_Rule___init__ (0) (d_Rule___init__.dvs K) := by
  obtain ⟨fd, F⟩ := T.f_Rule___init__
  have hb : Binds K fd ["self", "coefficients"] [] := by
    obtain ⟨ds, r, b⟩ := FunD.binds1 (ps := ["self", "coefficients"]) F 2 1 (by intro z; cases z) rfl fun _ _ _ _ _ _ _ us its hl hi => match us, its, hl, hi with | [_, _], [_], _, _ => ⟨_, rfl, rfl⟩
    cases r
    exact b
  have hc : ∃ ds, Vals (d_Rule___init__.dvs K) ds ∧ Binds K fd ["self", "coefficients"] ds := by
    obtain ⟨ds, r, b⟩ := FunD.binds1 (ps := ["self", "coefficients"]) F 1 0 (by intro z; cases z) rfl fun _ _ _ _ _ _ _ us its hl hi => match us, its, hl, hi with | [_], [_], _, _ => ⟨_, rfl, rfl⟩
    exact ⟨ds, r, b⟩
  exact ⟨fd, okF_Rule___init__ T TB F, hb, F.kp, hc⟩
theorem okF_Rule_degree (T : Tx K mg) (TB : TbB K base mg) {fd : FuncData} (F : FunD K "degree" "Rule.degree" (defArgs (inClass (topS 12) 2)) (defBody (inClass (topS 12) 2)) (defScope (inClass (topS 12) 2)) (d_Rule_degree.dvs K) [] (recAt K "property" (He.ma K (He.ga K "Rule") "degree")) fd) : FnW P w K mg base 1 (recAt K "property" (He.ma K (He.ga K "Rule") "degree")) fd ["self"] (SpW (cx K) wp_Rule_degree (0)) := by
  have nd := sc_Rule_degree.nd
  refine fnW_of F sc_Rule_degree (fun vs H Q E h => SpW.len rfl h) (fun A outer s H vs Q E gd hr h => ?_)
  have tk : Takes (cxOf (L2.CX P w) P w K mg base N_Rule_degree "Rule.degree" (defScope (inClass (topS 12) 2)) (recAt K "property" (He.ma K (He.ga K "Rule") "degree")) (.ref (codeAt K (recAt K "property" (He.ma K (He.ga K "Rule") "degree")))) A outer s H E) (fun cls d _ H => E cls d H) := takes_of rfl rfl rfl rfl
  exact ⟨_, gs_le (c := cx K) (W := fun cls d _ H => E cls d H) (kb := 0) (gs_one (g_ret (g_op w_sub (g_cb w_len (by rfl) T.n_len PySem.boot_len (ga_cons (g_fld (n := "Rule") (g_var (pv 0)) T.cl_Rule T.na_Rule_own_numbers) ga_nil)) g_int))) (by decide +kernel), run_wDef (N := N_Rule_degree) h (Nat.le_refl _)⟩
theorem ok_Rule_degree (T : Tx K mg) (TB : TbB K base mg) : OkW P w (cx K) mg base 1 (recAt K "property" (He.ma K (He.ga K "Rule") "degree")) ["self"] wp_Rule_degree (0) (d_Rule_degree.dvs K) := by
  obtain ⟨fd, F⟩ := T.f_Rule_degree
  have hb : Binds K fd ["self"] [] := F.bindsN fun _ _ _ _ _ _ us hl => match us, hl with | [_], _ => rfl
  exact ⟨fd, okF_Rule_degree T TB F, hb, F.kp, ⟨[], .nil, hb⟩⟩
theorem okF_is_from (T : Tx K mg) (TB : TbB K base mg) {fd : FuncData} (F : FunD K "is_from" "is_from" (defArgs (topS 9)) (defBody (topS 9)) (defScope (topS 9)) (d_is_from.dvs K) [] (He.ga K "is_from") fd) : FnW P w K mg base 2 (He.ga K "is_from") fd ["thing", "least"] (SpW (cx K) wp_is_from (0)) := by
  obtain ⟨_, G_is_number, b_is_number, k_is_number, _, v_is_number, c_is_number⟩ := ok_is_number (P := P) (w := w) (base := base) T TB
  have nd := sc_is_from.nd
  refine fnW_of F sc_is_from (fun vs H Q E h => SpW.len rfl h) (fun A outer s H vs Q E gd hr h => ?_)
  have tk : Takes (cxOf (L2.CX P w) P w K mg base N_is_from "is_from" (defScope (topS 9)) (He.ga K "is_from") (.ref (codeAt K (He.ga K "is_from"))) A outer s H E) (fun cls d _ H => E cls d H) := takes_of rfl rfl rfl rfl
  exact ⟨_, gs_le (c := cx K) (W := fun cls d _ H => E cls d H) (kb := 0) (gs_one (g_ret (g_and (g_call G_is_number gd (hr.mono (by decide)) rfl T.g_is_number k_is_number b_is_number .nil (fun _ _ => .nil) tk (ga_cons (g_var (pv 0)) ga_nil)) (g_one (g_cmp w_ge (g_var (pv 0)) (g_var (pv 1)) (nomark _)))))) (by decide +kernel), run_wDef (N := N_is_from) h (Nat.le_refl _)⟩
theorem ok_is_from (T : Tx K mg) (TB : TbB K base mg) : OkW P w (cx K) mg base 2 (He.ga K "is_from") ["thing", "least"] wp_is_from (0) (d_is_from.dvs K) := by
  obtain ⟨fd, F⟩ := T.f_is_from
  have hb : Binds K fd ["thing", "least"] [] := F.bindsN fun _ _ _ _ _ _ us hl => match us, hl with | [_, _], _ => rfl
  exact ⟨fd, okF_is_from T TB F, hb, F.kp, ⟨[], .nil, hb⟩⟩
theorem okF_Rule___getitem__ (T : Tx K mg) (TB : TbB K base mg) {fd : FuncData} (F : FunD K "__getitem__" "Rule.__getitem__" (defArgs (inClass (topS 12) 5)) (defBody (inClass (topS 12) 5)) (defScope (inClass (topS 12) 5)) (d_Rule___getitem__.dvs K) [] (He.ma K (He.ga K "Rule") "__getitem__") fd) : FnW P w K mg base 3 (He.ma K (He.ga K "Rule") "__getitem__") fd ["self", "power"] (SpW (cx K) wp_Rule___getitem__ (0)) := by
  obtain ⟨_, G_is_from, b_is_from, k_is_from, _, v_is_from, c_is_from⟩ := ok_is_from (P := P) (w := w) (base := base) T TB
  have nd := sc_Rule___getitem__.nd
  refine fnW_of F sc_Rule___getitem__ (fun vs H Q E h => SpW.len rfl h) (fun A outer s H vs Q E gd hr h => ?_)
  have tk : Takes (cxOf (L2.CX P w) P w K mg base N_Rule___getitem__ "Rule.__getitem__" (defScope (inClass (topS 12) 5)) (He.ma K (He.ga K "Rule") "__getitem__") (.ref (codeAt K (He.ma K (He.ga K "Rule") "__getitem__"))) A outer s H E) (fun cls d _ H => E cls d H) := takes_of rfl rfl rfl rfl
  exact ⟨_, gs_le (c := cx K) (W := fun cls d _ H => E cls d H) (kb := 0) (gs_cons (g_ifS (g_tnot (g_tval (g_call G_is_from gd (hr.mono (by decide)) rfl T.g_is_from k_is_from b_is_from .nil (fun _ _ => .nil) tk (ga_cons (g_var (pv 1)) (ga_cons g_int ga_nil))))) (gs_one (g_rz (n := "BadPower") rfl tk PySem.F.excBase_ValueError T.er_BadPower.q T.g_BadPower T.er_BadPower.kp (raises_own T.er_BadPower.be T.er_BadPower.ty) rfl e_BadPower)) gs_nil)
      (gs_one (g_ret (g_if (g_tcmp w_lt (g_var (pv 1)) (g_cb w_len (by rfl) T.n_len PySem.boot_len (ga_cons (g_fld (n := "Rule") (g_var (pv 0)) T.cl_Rule T.na_Rule_own_numbers) ga_nil)) (nomark _)) (g_ix (g_fld (n := "Rule") (g_var (pv 0)) T.cl_Rule T.na_Rule_own_numbers) (g_var (pv 1))) g_int)))) (by decide +kernel), run_wDef (N := N_Rule___getitem__) h (Nat.le_refl _)⟩
theorem ok_Rule___getitem__ (T : Tx K mg) (TB : TbB K base mg) : OkW P w (cx K) mg base 3 (He.ma K (He.ga K "Rule") "__getitem__") ["self", "power"] wp_Rule___getitem__ (0) (d_Rule___getitem__.dvs K) := by
  obtain ⟨fd, F⟩ := T.f_Rule___getitem__
  have hb : Binds K fd ["self", "power"] [] := F.bindsN fun _ _ _ _ _ _ us hl => match us, hl with | [_, _], _ => rfl
  exact ⟨fd, okF_Rule___getitem__ T TB F, hb, F.kp, ⟨[], .nil, hb⟩⟩
theorem okF_power_text (T : Tx K mg) (TB : TbB K base mg) {fd : FuncData} (F : FunD K "power_text" "power_text" (defArgs (topS 21)) (defBody (topS 21)) (defScope (topS 21)) (d_power_text.dvs K) [] (He.ga K "power_text") fd) : FnW P w K mg base 1 (He.ga K "power_text") fd ["power"] (SpW (cx K) wp_power_text (0)) := by
  have nd := sc_power_text.nd
  refine fnW_of F sc_power_text (fun vs H Q E h => SpW.len rfl h) (fun A outer s H vs Q E gd hr h => ?_)
  have tk : Takes (cxOf (L2.CX P w) P w K mg base N_power_text "power_text" (defScope (topS 21)) (He.ga K "power_text") (.ref (codeAt K (He.ga K "power_text"))) A outer s H E) (fun cls d _ H => E cls d H) := takes_of rfl rfl rfl rfl
  exact ⟨_, gs_le (c := cx K) (W := fun cls d _ H => E cls d H) (kb := 0) (gs_one (g_ret (g_if (g_tcmp (w_eq hr.units) (g_var (pv 0)) g_int (nomark _)) g_str (g_fs (GJ.cons g_str (GJ.cons (g_fmt (g_var (pv 0))) GJ.nil)))))) (by decide +kernel), run_wDef (N := N_power_text) h (Nat.le_refl _)⟩
theorem ok_power_text (T : Tx K mg) (TB : TbB K base mg) : OkW P w (cx K) mg base 1 (He.ga K "power_text") ["power"] wp_power_text (0) (d_power_text.dvs K) := by
  obtain ⟨fd, F⟩ := T.f_power_text
  have hb : Binds K fd ["power"] [] := F.bindsN fun _ _ _ _ _ _ us hl => match us, hl with | [_], _ => rfl
  exact ⟨fd, okF_power_text T TB F, hb, F.kp, ⟨[], .nil, hb⟩⟩
theorem okF_term_text (T : Tx K mg) (TB : TbB K base mg) {fd : FuncData} (F : FunD K "term_text" "term_text" (defArgs (topS 22)) (defBody (topS 22)) (defScope (topS 22)) (d_term_text.dvs K) [] (He.ga K "term_text") fd) : FnW P w K mg base 2 (He.ga K "term_text") fd ["number", "power"] (SpW (cx K) wp_term_text (0)) := by
  obtain ⟨_, G_power_text, b_power_text, k_power_text, _, v_power_text, c_power_text⟩ := ok_power_text (P := P) (w := w) (base := base) T TB
  have nd := sc_term_text.nd
  refine fnW_of F sc_term_text (fun vs H Q E h => SpW.len rfl h) (fun A outer s H vs Q E gd hr h => ?_)
  have tk : Takes (cxOf (L2.CX P w) P w K mg base N_term_text "term_text" (defScope (topS 22)) (He.ga K "term_text") (.ref (codeAt K (He.ga K "term_text"))) A outer s H E) (fun cls d _ H => E cls d H) := takes_of rfl rfl rfl rfl
  exact ⟨_, gs_le (c := cx K) (W := fun cls d _ H => E cls d H) (kb := 0) (gs_cons (g_ifS (g_tcmp (w_eq hr.units) (g_var (pv 1)) g_int (nomark _)) (gs_one (g_ret (g_cty w_str (by rfl) T.n_str (by decide +kernel) (ga_cons (g_var (pv 0)) ga_nil)))) gs_nil)
      (gs_one (g_ret (g_if (g_tcmp (w_eq hr.units) (g_var (pv 0)) g_int (nomark _)) (g_call G_power_text gd (hr.mono (by decide)) rfl T.g_power_text k_power_text b_power_text .nil (fun _ _ => .nil) tk (ga_cons (g_var (pv 1)) ga_nil)) (g_fs (GJ.cons (g_fmt (g_var (pv 0))) (GJ.cons g_str (GJ.cons (g_fmt (g_call G_power_text gd (hr.mono (by decide)) rfl T.g_power_text k_power_text b_power_text .nil (fun _ _ => .nil) tk (ga_cons (g_var (pv 1)) ga_nil))) GJ.nil)))))))) (by decide +kernel), run_wDef (N := N_term_text) h (Nat.le_refl _)⟩
theorem ok_term_text (T : Tx K mg) (TB : TbB K base mg) : OkW P w (cx K) mg base 2 (He.ga K "term_text") ["number", "power"] wp_term_text (0) (d_term_text.dvs K) := by
  obtain ⟨fd, F⟩ := T.f_term_text
  have hb : Binds K fd ["number", "power"] [] := F.bindsN fun _ _ _ _ _ _ us hl => match us, hl with | [_, _], _ => rfl
  exact ⟨fd, okF_term_text T TB F, hb, F.kp, ⟨[], .nil, hb⟩⟩
theorem okF_rule_text (T : Tx K mg) (TB : TbB K base mg) {fd : FuncData} (F : FunD K "rule_text" "rule_text" (defArgs (topS 23)) (defBody (topS 23)) (defScope (topS 23)) (d_rule_text.dvs K) [] (He.ga K "rule_text") fd) : FnW P w K mg base 5 (He.ga K "rule_text") fd ["rule"] (SpW (cx K) wp_rule_text (0)) := by
  obtain ⟨_, G_Rule___getitem__, b_Rule___getitem__, k_Rule___getitem__, _, v_Rule___getitem__, c_Rule___getitem__⟩ := ok_Rule___getitem__ (P := P) (w := w) (base := base) T TB
  obtain ⟨_, G_Rule_degree, b_Rule_degree, k_Rule_degree, _, v_Rule_degree, c_Rule_degree⟩ := ok_Rule_degree (P := P) (w := w) (base := base) T TB
  obtain ⟨_, G_term_text, b_term_text, k_term_text, _, v_term_text, c_term_text⟩ := ok_term_text (P := P) (w := w) (base := base) T TB
  have nd := sc_rule_text.nd
  refine fnW_of F sc_rule_text (fun vs H Q E h => SpW.len rfl h) (fun A outer s H vs Q E gd hr h => ?_)
  have tk : Takes (cxOf (L2.CX P w) P w K mg base N_rule_text "rule_text" (defScope (topS 23)) (He.ga K "rule_text") (.ref (codeAt K (He.ga K "rule_text"))) A outer s H E) (fun cls d _ H => E cls d H) := takes_of rfl rfl rfl rfl
  exact ⟨_, gs_le (c := cx K) (W := fun cls d _ H => E cls d H) (kb := 0) (gs_cons (g_set (i := 1) nd rfl (Or.inl rfl) g_str)
      (gs_cons (g_for (passes_of rfl) (gi_rng3 (by rfl) T.n_range (ga_cons (g_prop (n := "Rule") (g_var (pv 0)) T.cl_Rule T.prop_Rule_degree G_Rule_degree gd (hr.mono (by decide)) b_Rule_degree) (ga_cons (g_un w_neg g_int) (ga_cons (g_un w_neg g_int) ga_nil)))) (gg_name (i := 2) nd rfl (Or.inl rfl)) (gs_cons (g_set (i := 3) nd rfl (Or.inl rfl) (g_ixO (n := "Rule") G_Rule___getitem__ gd (hr.mono (by decide)) b_Rule___getitem__ tk T.spl_Rule_getitem T.fi_Rule_getitem (g_var (pv 0)) (g_var (pv 2))))
      (gs_one (g_ifS (g_tcmp (w_ne hr.units) (g_var (pv 3)) g_int (nomark _)) (gs_cons (g_set (i := 4) nd rfl (Or.inl rfl) (g_if (g_tcmp (w_eq hr.units) (g_var (pv 1)) g_str (nomark _)) (g_tup (ga_cons g_str (ga_cons g_str ga_nil))) (g_tup (ga_cons g_str (ga_cons g_str ga_nil)))))
      (gs_one (g_set (i := 1) nd rfl (Or.inl rfl) (g_op w_add (g_op w_add (g_var (pv 1)) (g_ix (g_var (pv 4)) (g_cty w_int (by rfl) T.n_int (by decide +kernel) (ga_cons (g_cmp w_gt (g_var (pv 3)) g_int (nomark _)) ga_nil)))) (g_call G_term_text gd (hr.mono (by decide)) rfl T.g_term_text k_term_text b_term_text .nil (fun _ _ => .nil) tk (ga_cons (g_cb w_abs (by rfl) T.n_abs (by decide +kernel) (ga_cons (g_var (pv 3)) ga_nil)) (ga_cons (g_var (pv 2)) ga_nil))))))) gs_nil))))
      (gs_one (g_ret (g_if (g_tcmp (w_ne hr.units) (g_var (pv 1)) g_str (nomark _)) (g_var (pv 1)) g_str))))) (by decide +kernel), run_wDef (N := N_rule_text) h (Nat.le_refl _)⟩
theorem ok_rule_text (T : Tx K mg) (TB : TbB K base mg) : OkW P w (cx K) mg base 5 (He.ga K "rule_text") ["rule"] wp_rule_text (0) (d_rule_text.dvs K) := by
  obtain ⟨fd, F⟩ := T.f_rule_text
  have hb : Binds K fd ["rule"] [] := F.bindsN fun _ _ _ _ _ _ us hl => match us, hl with | [_], _ => rfl
  exact ⟨fd, okF_rule_text T TB F, hb, F.kp, ⟨[], .nil, hb⟩⟩
theorem okF_rule_in (T : Tx K mg) (TB : TbB K base mg) {fd : FuncData} (F : FunD K "rule_in" "rule_in" (defArgs (topS 27)) (defBody (topS 27)) (defScope (topS 27)) (d_rule_in.dvs K) [] (He.ga K "rule_in") fd) : FnW P w K mg base 6 (He.ga K "rule_in") fd ["text"] (SpW (cx K) wp_rule_in (0)) := by
  obtain ⟨_, G_Rule___init__, b_Rule___init__, k_Rule___init__, _, v_Rule___init__, c_Rule___init__⟩ := ok_Rule___init__ (P := P) (w := w) (base := base) T TB
  obtain ⟨_, G_numbers_of_terms, b_numbers_of_terms, k_numbers_of_terms, _, v_numbers_of_terms, c_numbers_of_terms⟩ := ok_numbers_of_terms (P := P) (w := w) (base := base) T TB
  obtain ⟨_, G_rule_text, b_rule_text, k_rule_text, _, v_rule_text, c_rule_text⟩ := ok_rule_text (P := P) (w := w) (base := base) T TB
  have nd := sc_rule_in.nd
  refine fnW_of F sc_rule_in (fun vs H Q E h => SpW.len rfl h) (fun A outer s H vs Q E gd hr h => ?_)
  have tk : Takes (cxOf (L2.CX P w) P w K mg base N_rule_in "rule_in" (defScope (topS 27)) (He.ga K "rule_in") (.ref (codeAt K (He.ga K "rule_in"))) A outer s H E) (fun cls d _ H => E cls d H) := takes_of rfl rfl rfl rfl
  exact ⟨_, gs_le (c := cx K) (W := fun cls d _ H => E cls d H) (kb := 0) (gs_cons (g_set (i := 1) nd rfl (Or.inl rfl) (g_cmp (w_eq hr.units) (g_sl w_sl (g_var (pv 0)) go_none (go_some g_int)) g_str (nomark _)))
      (gs_cons (g_set (i := 2) nd rfl (Or.inr rfl) (g_call G_numbers_of_terms gd (hr.mono (by decide)) rfl T.g_numbers_of_terms k_numbers_of_terms b_numbers_of_terms .nil (fun _ _ => .nil) tk (ga_cons (g_sm PySem.F.slot_str_split PySem.F.type_str_split mw_split (g_if (g_tval (g_var (pv 1))) (g_sl w_sl (g_var (pv 0)) (go_some g_int) go_none) (g_var (pv 0))) g_str (fun r h => pe_m1 PySem.F.slot_str_split PySem.F.type_str_split h (g_if (g_tval (g_var (pv 1))) (g_sl w_sl (g_var (pv 0)) (go_some g_int) go_none) (g_var (pv 0))) g_str)) (ga_cons (g_if (g_tval (g_var (pv 1))) (g_un w_neg g_int) g_int) ga_nil))))
      (gs_cons (g_ifS (g_tcmp w_is (g_var (pv 2)) g_non (nomark _)) (gs_one (g_ret g_non)) gs_nil)
      (gs_cons (g_set (i := 3) nd rfl (Or.inl rfl) (g_make (n := "Rule") T.mk_Rule G_Rule___init__ gd (hr.mono (by decide)) rfl T.g_Rule b_Rule___init__ .nil (fun _ _ => .nil) tk (ga_cons (g_lc (own := [("power", 4)]) nd (gi_rng1 (by rfl) T.n_range (ga_cons (g_op w_add (g_glI rfl T.g_MOST_POWER) g_int) ga_nil)) (blkOk_by (own := [("power", 4)]) (N := N_rule_in) (sc := defScope (topS 27)) (by decide +kernel)) (fun _ _ _ _ _ => (gg_name (i := 4) nd rfl (Or.inl rfl))) (fun _ _ _ _ _ => gt_yes) (fun _ _ _ _ _ => (g_kget2 (units1 hr.units) (g_var (pv 2)) (g_var (pv 4)) g_int ⟨rfl, rfl, rfl, rfl⟩))) ga_nil) n_Rule))
      (gs_one (g_ret (g_if (g_tcmp (w_eq hr.units) (g_call G_rule_text gd (hr.mono (by decide)) rfl T.g_rule_text k_rule_text b_rule_text .nil (fun _ _ => .nil) tk (ga_cons (g_var (pv 3)) ga_nil)) (g_var (pv 0)) (nomark _)) (g_var (pv 3)) g_non))))))) (by decide +kernel), run_wDef (N := N_rule_in) h (Nat.le_refl _)⟩
theorem ok_rule_in (T : Tx K mg) (TB : TbB K base mg) : OkW P w (cx K) mg base 6 (He.ga K "rule_in") ["text"] wp_rule_in (0) (d_rule_in.dvs K) := by
  obtain ⟨fd, F⟩ := T.f_rule_in
  have hb : Binds K fd ["text"] [] := F.bindsN fun _ _ _ _ _ _ us hl => match us, hl with | [_], _ => rfl
  exact ⟨fd, okF_rule_in T TB F, hb, F.kp, ⟨[], .nil, hb⟩⟩
theorem okF_read_rule (T : Tx K mg) (TB : TbB K base mg) {fd : FuncData} (F : FunD K "read_rule" "read_rule" (defArgs (topS 28)) (defBody (topS 28)) (defScope (topS 28)) (d_read_rule.dvs K) [] (He.ga K "read_rule") fd) : FnW P w K mg base 7 (He.ga K "read_rule") fd ["text"] (SpW (cx K) wp_read_rule (0)) := by
  obtain ⟨_, G_rule_in, b_rule_in, k_rule_in, _, v_rule_in, c_rule_in⟩ := ok_rule_in (P := P) (w := w) (base := base) T TB
  obtain ⟨_, GE_BadText, bE_BadText⟩ := ok_BadText___init__ (P := P) (w := w) (base := base) T
  have nd := sc_read_rule.nd
  refine fnW_of F sc_read_rule (fun vs H Q E h => SpW.len rfl h) (fun A outer s H vs Q E gd hr h => ?_)
  have tk : Takes (cxOf (L2.CX P w) P w K mg base N_read_rule "read_rule" (defScope (topS 28)) (He.ga K "read_rule") (.ref (codeAt K (He.ga K "read_rule"))) A outer s H E) (fun cls d _ H => E cls d H) := takes_of rfl rfl rfl rfl
  exact ⟨_, gs_le (c := cx K) (W := fun cls d _ H => E cls d H) (kb := 0) (gs_cons (g_set (i := 1) nd rfl (Or.inl rfl) (g_if (g_tval (g_cb (w_isi T.ctx) (by rfl) T.n_isinstance (by decide +kernel) (ga_cons (g_var (pv 0)) (ga_cons (g_ty (pe_bltn (by rfl) T.n_str (by decide +kernel) rfl)) ga_nil)))) (g_call G_rule_in gd (hr.mono (by decide)) rfl T.g_rule_in k_rule_in b_rule_in .nil (fun _ _ => .nil) tk (ga_cons (g_var (pv 0)) ga_nil)) g_non))
      (gs_cons (g_ifS (g_tcmp w_is (g_var (pv 1)) g_non (nomark _)) (gs_one (g_rzA (n := "BadText") rfl tk T.er_BadText.t T.er_BadText.ini T.er_BadText.fn T.er_BadText.nof GE_BadText (hr.mono (by decide)) bE_BadText rfl T.g_BadText g_int e_BadText)) gs_nil)
      (gs_one (g_ret (g_var (pv 1)))))) (by decide +kernel), run_wDef (N := N_read_rule) h (Nat.le_refl _)⟩
theorem ok_read_rule (T : Tx K mg) (TB : TbB K base mg) : OkW P w (cx K) mg base 7 (He.ga K "read_rule") ["text"] wp_read_rule (0) (d_read_rule.dvs K) := by
  obtain ⟨fd, F⟩ := T.f_read_rule
  have hb : Binds K fd ["text"] [] := F.bindsN fun _ _ _ _ _ _ us hl => match us, hl with | [_], _ => rfl
  exact ⟨fd, okF_read_rule T TB F, hb, F.kp, ⟨[], .nil, hb⟩⟩
theorem okF_Rule_coefficients (T : Tx K mg) (TB : TbB K base mg) {fd : FuncData} (F : FunD K "coefficients" "Rule.coefficients" (defArgs (inClass (topS 12) 1)) (defBody (inClass (topS 12) 1)) (defScope (inClass (topS 12) 1)) (d_Rule_coefficients.dvs K) [] (recAt K "property" (He.ma K (He.ga K "Rule") "coefficients")) fd) : FnW P w K mg base 1 (recAt K "property" (He.ma K (He.ga K "Rule") "coefficients")) fd ["self"] (SpW (cx K) wp_Rule_coefficients (0)) := by
  have nd := sc_Rule_coefficients.nd
  refine fnW_of F sc_Rule_coefficients (fun vs H Q E h => SpW.len rfl h) (fun A outer s H vs Q E gd hr h => ?_)
  have tk : Takes (cxOf (L2.CX P w) P w K mg base N_Rule_coefficients "Rule.coefficients" (defScope (inClass (topS 12) 1)) (recAt K "property" (He.ma K (He.ga K "Rule") "coefficients")) (.ref (codeAt K (recAt K "property" (He.ma K (He.ga K "Rule") "coefficients")))) A outer s H E) (fun cls d _ H => E cls d H) := takes_of rfl rfl rfl rfl
  exact ⟨_, gs_le (c := cx K) (W := fun cls d _ H => E cls d H) (kb := 0) (gs_one (g_ret (g_fld (n := "Rule") (g_var (pv 0)) T.cl_Rule T.na_Rule_own_numbers))) (by decide +kernel), run_wDef (N := N_Rule_coefficients) h (Nat.le_refl _)⟩
theorem ok_Rule_coefficients (T : Tx K mg) (TB : TbB K base mg) : OkW P w (cx K) mg base 1 (recAt K "property" (He.ma K (He.ga K "Rule") "coefficients")) ["self"] wp_Rule_coefficients (0) (d_Rule_coefficients.dvs K) := by
  obtain ⟨fd, F⟩ := T.f_Rule_coefficients
  have hb : Binds K fd ["self"] [] := F.bindsN fun _ _ _ _ _ _ us hl => match us, hl with | [_], _ => rfl
  exact ⟨fd, okF_Rule_coefficients T TB F, hb, F.kp, ⟨[], .nil, hb⟩⟩
theorem okF_law_right (T : Tx K mg) (TB : TbB K base mg) {fd : FuncData} (F : FunD K "_law_right" "_law_right" (defArgs (topS 44)) (defBody (topS 44)) (defScope (topS 44)) (d_law_right.dvs K) [] (He.ga K "_law_right") fd) : FnW P w K mg base 10 (He.ga K "_law_right") fd ["_law_page"] (SpW (cx K) wp_law_right (0)) := by
  obtain ⟨_, G_Rule_coefficients, b_Rule_coefficients, k_Rule_coefficients, _, v_Rule_coefficients, c_Rule_coefficients⟩ := ok_Rule_coefficients (P := P) (w := w) (base := base) T TB
  obtain ⟨_, G_law_rule_read, b_law_rule_read, k_law_rule_read, _, v_law_rule_read, c_law_rule_read⟩ := ok_law_rule_read (P := P) (w := w) (base := base) T TB
  obtain ⟨_, G_read_rule, b_read_rule, k_read_rule, _, v_read_rule, c_read_rule⟩ := ok_read_rule (P := P) (w := w) (base := base) T TB
  obtain ⟨_, F_caught⟩ := T.f_law_caught
  have b_caught := F_caught.bindsN (ps := ["_law_work_here"]) fun _ _ _ _ _ _ us hl => match us, hl with | [_], _ => rfl
  have hes := T.hes
  have nd := sc_law_right.nd
  obtain ⟨fk_kb_read_rule_0, FK_kb_read_rule_0⟩ := T.f_read_rule
  have GK_read_rule := okF_read_rule (P := P) (w := w) (base := base) T TB FK_kb_read_rule_0
  have kb_read_rule_0 : KB K fk_kb_read_rule_0 ["text"] 0 ["text"] [0] := kbn0 FK_kb_read_rule_0 0 ["text"] [0] fun _ _ _ _ _ _ us ws hl hw => match us, ws, hl, hw with | [], [_], _, _ => rfl
  refine fnW_of F sc_law_right (fun vs H Q E h => SpW.len rfl h) (fun A outer s H vs Q E gd hr h => ?_)
  have tk : Takes (cxOf (L2.CX P w) P w K mg base N_law_right "_law_right" (defScope (topS 44)) (He.ga K "_law_right") (.ref (codeAt K (He.ga K "_law_right"))) A outer s H E) (fun cls d _ H => E cls d H) := takes_of rfl rfl rfl rfl
  exact ⟨_, gs_le (c := cx K) (W := fun cls d _ H => E cls d H) (kb := 0) (gs_cons (g_asg (g_tup (ga_cons (g_call G_law_rule_read gd (hr.mono (by decide)) rfl T.g__law_rule_read k_law_rule_read b_law_rule_read .nil (fun _ _ => .nil) tk (ga_cons (g_var (pv 0)) ga_nil)) (ga_cons (g_lst ga_nil) ga_nil))) (gg_tup (ggs_cons (gg_name (i := 1) nd rfl (Or.inl rfl)) (ggs_cons (gg_name (i := 2) nd rfl (Or.inr rfl)) ggs_nil))))
      (gs_cons (g_set (i := 3) nd rfl (Or.inl rfl) (g_lst (ga_cons (g_caught (kl := LL_law_right) gd rfl T.g__law_caught T.kp_caught F_caught b_caught sc__caught (Or.inl rfl) sc__caught.nd rfl rfl rfl T.g_CrossError (TB _ tm_law_right) rfl tbm_law_right (tbu_law_right T) (hr.mono (by decide)) (LamX.lamS_by (sc := defScope (topS 44)) (by decide +kernel)) rfl (fun _ _ _ _ _ => rfl) hes (fun A outer s H E f c' gd hr => (g_lmN mw_app (fun r h => pe_bm PySem.F.plainAttrs_list PySem.F.slot_list_append PySem.F.type_list_append h (g_var (pv 2)) (ga_cons (g_call G_read_rule gd (hr.mono (by decide)) rfl T.g_read_rule k_read_rule b_read_rule .nil (fun _ _ => .nil) (takes_of rfl rfl rfl rfl) (ga_cons (g_var (pv 0)) ga_nil)) ga_nil))))) ga_nil)))
      (gs_cons (g_drop (g_lmN mw_app (fun r h => pe_bm PySem.F.plainAttrs_list PySem.F.slot_list_append PySem.F.type_list_append h (g_var (pv 3)) (ga_cons (g_caught (kl := LL_law_right) gd rfl T.g__law_caught T.kp_caught F_caught b_caught sc__caught (Or.inl rfl) sc__caught.nd rfl rfl rfl T.g_CrossError (TB _ tm_law_right) rfl tbm_law_right (tbu_law_right T) (hr.mono (by decide)) (LamX.lamS_by (sc := defScope (topS 44)) (by decide +kernel)) rfl (fun _ _ _ _ _ => rfl) hes (fun A outer s H E f c' gd hr => (g_lmN mw_app (fun r h => pe_bm PySem.F.plainAttrs_list PySem.F.slot_list_append PySem.F.type_list_append h (g_var (pv 2)) (ga_cons (g_callK GK_read_rule gd (hr.mono (by decide)) rfl T.g_read_rule k_read_rule kb_read_rule_0 (takes_of rfl rfl rfl rfl) (gk_cons (g_var (pv 0)) gk_nil)) ga_nil))))) ga_nil))))
      (gs_cons (g_ifS (g_tcmp w_is (g_var (pv 1)) g_non (nomark _)) (gs_cons (g_setLc (i := 4) (own := [("_law_error", 5)]) nd rfl rfl (sw_true rfl rfl rfl (by decide +kernel)) (gi_seq (g_var (pv 3))) (blkOk_by (own := [("_law_error", 5)]) (N := N_law_right) (sc := defScope (topS 44)) (by decide +kernel)) (fun _ _ _ _ _ => (gg_name (i := 5) nd rfl (Or.inl rfl))) (fun _ _ _ _ _ => (gt_one (g_pt (g_wor (g_tnot (g_tval (g_cb (w_isi T.ctx) (by rfl) T.n_isinstance (by decide +kernel) (ga_cons (g_var (pv 5)) (ga_cons (g_cls (pe_glob rfl T.g_BadText rfl) i_BadText) ga_nil))))) (g_wor1 (g_tval (g_cb (w_isi T.ctx) (by rfl) T.n_isinstance (by decide +kernel) (ga_cons (g_var (pv 5)) (ga_cons (g_cls (pe_glob rfl T.g_BadProgram rfl) i_BadProgram) ga_nil))))))))) (fun _ _ _ _ _ => (g_var (pv 5))))
      (gs_one (g_fz 2 (g_fz 3 (g_ret (g_and (g_cmp (w_eq hr.units) (g_var (pv 4)) (g_lst ga_nil) (nomark _)) (g_and (g_cmp (w_eq hr.units) (g_lc (own := [("_law_error", 5)]) nd (gi_seq (g_var (pv 3))) (blkOk_by (own := [("_law_error", 5)]) (N := N_law_right) (sc := defScope (topS 44)) (by decide +kernel)) (fun _ _ _ _ _ => (gg_name (i := 5) nd rfl (Or.inl rfl))) (fun _ _ _ _ _ => gt_yes) (fun _ _ _ _ _ => (g_errF T.ctx T.ef_line (g_var (pv 5))))) (g_lst (ga_cons g_int (ga_cons g_int ga_nil))) (nomark _)) (g_one (g_cmp (w_eq hr.units) (g_var (pv 2)) (g_lst ga_nil) (nomark _)))))))))) gs_nil)
      (gs_one (g_fz 2 (g_fz 3 (g_ret (g_and (g_cmp (w_eq hr.units) (g_var (pv 3)) (g_lst (ga_cons g_non (ga_cons g_non ga_nil))) (nomark _)) (g_one (g_cmp (w_eq hr.units) (g_lc (own := [("_law_one", 6)]) nd (gi_seq (g_var (pv 2))) (blkOk_by (own := [("_law_one", 6)]) (N := N_law_right) (sc := defScope (topS 44)) (by decide +kernel)) (fun _ _ _ _ _ => (gg_name (i := 6) nd rfl (Or.inl rfl))) (fun _ _ _ _ _ => gt_yes) (fun _ _ _ _ _ => (g_cty w_list (by rfl) T.n_list (by decide +kernel) (ga_cons (g_prop (n := "Rule") (g_var (pv 6)) T.cl_Rule T.prop_Rule_coefficients G_Rule_coefficients gd (hr.mono (by decide)) b_Rule_coefficients) ga_nil)))) (g_lst (ga_cons (g_var (pv 1)) (ga_cons (g_var (pv 1)) ga_nil))) (nomark _)))))))))))) (by decide +kernel), run_wDef (N := N_law_right) h (Nat.le_refl _)⟩
theorem ok_law_right (T : Tx K mg) (TB : TbB K base mg) : OkW P w (cx K) mg base 10 (He.ga K "_law_right") ["_law_page"] wp_law_right (0) (d_law_right.dvs K) := by
  obtain ⟨fd, F⟩ := T.f_law_right
  have hb : Binds K fd ["_law_page"] [] := F.bindsN fun _ _ _ _ _ _ us hl => match us, hl with | [_], _ => rfl
  exact ⟨fd, okF_law_right T TB F, hb, F.kp, ⟨[], .nil, hb⟩⟩
theorem okF_law_bent_page (T : Tx K mg) (TB : TbB K base mg) {fd : FuncData} (F : FunD K "_law_bent_page" "_law_bent_page" (defArgs (topS 35)) (defBody (topS 35)) (defScope (topS 35)) (d_law_bent_page.dvs K) [] (He.ga K "_law_bent_page") fd) : FnW P w K mg base 4 (He.ga K "_law_bent_page") fd ["_law_state", "_law_page", "_law_signs"] (SpW (cx K) wp_law_bent_page (2 ^ 3)) := by
  obtain ⟨_, G_law_pick, b_law_pick, k_law_pick, _, v_law_pick, c_law_pick⟩ := ok_law_pick (P := P) (w := w) (base := base) T TB
  obtain ⟨_, G_law_take, b_law_take, k_law_take, _, v_law_take, c_law_take⟩ := ok_law_take (P := P) (w := w) (base := base) T TB
  have nd := sc_law_bent_page.nd
  refine fnW_of F sc_law_bent_page (fun vs H Q E h => SpW.len rfl h) (fun A outer s H vs Q E gd hr h => ?_)
  have tk : Takes (cxOf (L2.CX P w) P w K mg base N_law_bent_page "_law_bent_page" (defScope (topS 35)) (He.ga K "_law_bent_page") (.ref (codeAt K (He.ga K "_law_bent_page"))) A outer s H E) (fun cls d _ H => E cls d H) := takes_of rfl rfl rfl rfl
  exact ⟨_, gs_le (c := cx K) (W := fun cls d _ H => E cls d H) (kb := 2 ^ 3) (gs_cons (g_parN (hp := ps_par (i := 3) (j := 4) rfl nd rfl rfl (by decide) rfl rfl (ga_cons (g_call G_law_take gd (hr.mono (by decide)) rfl T.g__law_take k_law_take b_law_take .nil (fun _ _ => .nil) tk (ga_cons (g_var (pv 0)) (ga_cons (g_op w_add (g_cb w_len (by rfl) T.n_len PySem.boot_len (ga_cons (g_var (pv 1)) ga_nil)) g_int) ga_nil))) (ga_cons (g_call G_law_take gd (hr.mono (by decide)) rfl T.g__law_take k_law_take b_law_take .nil (fun _ _ => .nil) tk (ga_cons (g_var (pv 0)) (ga_cons g_int ga_nil))) ga_nil)) rfl))
      (gs_cons (g_ifS (g_tcmp (w_eq hr.units) (g_var (pv 4)) g_int (nomark _)) (gs_one (g_ret (g_op w_add (g_op w_add (g_sl w_sl (g_var (pv 1)) go_none (go_some (g_var (pv 3)))) (g_call G_law_pick gd (hr.mono (by decide)) rfl T.g__law_pick k_law_pick b_law_pick .nil (fun _ _ => .nil) tk (ga_cons (g_var (pv 0)) (ga_cons (g_var (pv 2)) ga_nil)))) (g_sl w_sl (g_var (pv 1)) (go_some (g_var (pv 3))) go_none)))) gs_nil)
      (gs_cons (g_ifS (g_tcmp (w_eq hr.units) (g_var (pv 4)) g_int (nomark _)) (gs_one (g_ret (g_op w_add (g_sl w_sl (g_var (pv 1)) go_none (go_some (g_var (pv 3)))) (g_sl w_sl (g_var (pv 1)) (go_some (g_op w_add (g_var (pv 3)) g_int)) go_none)))) gs_nil)
      (gs_cons (g_ifS (g_tcmp (w_eq hr.units) (g_var (pv 4)) g_int (nomark _)) (gs_one (g_ret (g_op w_add (g_op w_add (g_sl w_sl (g_var (pv 1)) go_none (go_some (g_var (pv 3)))) (g_call G_law_pick gd (hr.mono (by decide)) rfl T.g__law_pick k_law_pick b_law_pick .nil (fun _ _ => .nil) tk (ga_cons (g_var (pv 0)) (ga_cons (g_var (pv 2)) ga_nil)))) (g_sl w_sl (g_var (pv 1)) (go_some (g_op w_add (g_var (pv 3)) g_int)) go_none)))) gs_nil)
      (gs_cons (g_ifS (g_tcmp (w_eq hr.units) (g_var (pv 4)) g_int (nomark _)) (gs_cons (g_parN (hp := ps_par (i := 5) (j := 6) rfl nd rfl rfl (by decide) rfl rfl (ga_cons (g_sl w_sl (g_var (pv 1)) go_none (go_some (g_var (pv 3)))) (ga_cons (g_sl w_sl (g_var (pv 1)) (go_some (g_var (pv 3))) go_none) ga_nil)) rfl))
      (gs_one (g_ret (g_op w_add (g_op w_add (g_op w_add (g_var (pv 5)) (g_sl w_sl (g_var (pv 6)) (go_some g_int) (go_some g_int))) (g_sl w_sl (g_var (pv 6)) go_none (go_some g_int))) (g_sl w_sl (g_var (pv 6)) (go_some g_int) go_none))))) gs_nil)
      (gs_one (g_ret (g_if (g_tcmp (w_eq hr.units) (g_var (pv 4)) g_int (nomark _)) (g_sl w_sl (g_var (pv 1)) go_none (go_some (g_var (pv 3)))) (g_op w_add (g_var (pv 1)) (g_call G_law_pick gd (hr.mono (by decide)) rfl T.g__law_pick k_law_pick b_law_pick .nil (fun _ _ => .nil) tk (ga_cons (g_var (pv 0)) (ga_cons (g_var (pv 2)) ga_nil)))))))))))) (by decide +kernel), run_wDef (N := N_law_bent_page) h (Nat.le_refl _)⟩
theorem ok_law_bent_page (T : Tx K mg) (TB : TbB K base mg) : OkW P w (cx K) mg base 4 (He.ga K "_law_bent_page") ["_law_state", "_law_page", "_law_signs"] wp_law_bent_page (2 ^ 3) (d_law_bent_page.dvs K) := by
  obtain ⟨fd, F⟩ := T.f_law_bent_page
  have hb : Binds K fd ["_law_state", "_law_page", "_law_signs"] [] := F.bindsN fun _ _ _ _ _ _ us hl => match us, hl with | [_, _, _], _ => rfl
  exact ⟨fd, okF_law_bent_page T TB F, hb, F.kp, ⟨[], .nil, hb⟩⟩
theorem ok_law_begun (T : Tx K mg) (TB : TbB K base mg) : ∃ fd, FnW P w K mg base 1 (He.ga K "_law_begun") fd ["_law_script"] (sp_law_begun (cx K)) ∧ Binds K fd ["_law_script"] [] ∧ PySem.W.keepIn K (.ref (He.ga K "_law_begun")) = true := by
  obtain ⟨fd, F⟩ := T.f_law_begun
  have nd := sc_law_begun.nd
  have hb : Binds K fd ["_law_script"] [] := F.bindsN fun _ _ _ _ _ _ us hl => match us, hl with | [_], _ => rfl
  refine ⟨fd, fnW_of F sc_law_begun (fun vs H Q E h => by obtain ⟨a, ns, rfl, _⟩ := h; rfl) (fun A outer s H vs Q E gd hr h => ⟨rd_law_begun (cx K), PSs.nox ?_, run_begun rfl h⟩), hb, F.kp⟩
  exact (pss_cons (ps_setLc (i := 1) (own := [("_law_cell", 2)]) rfl nd rfl rfl (sw_true rfl rfl rfl (by decide +kernel)) (pi_list (pv 0)) (blkOk_by (own := [("_law_cell", 2)]) (N := N_law_begun) (sc := defScope (topS 36)) (by decide +kernel)) (fun _ _ _ _ _ => (pg_name (i := 2) nd rfl (Or.inl rfl))) (fun _ _ _ _ _ => (pts_one (pt_cmpR op_ge (pe_callB call_absG (by rfl) T.n_abs (by decide +kernel) (pa_cons (pv 2) pa_nil)) (pe_op op_pow27 pe_int pe_int) (nomark _)))) (fun _ _ _ _ _ => (pe_op op_sub (pe_callB call_absG (by rfl) T.n_abs (by decide +kernel) (pa_cons (pv 2) pa_nil)) (pe_op op_pow27 pe_int pe_int))))
      (pss_one (ps_ret (pe_disp (pps_cons pe_str (pv 1) (pps_cons pe_str (pe_lc (own := [("_law_cell", 2)]) rfl nd (pi_list (pv 0)) (blkOk_by (own := [("_law_cell", 2)]) (N := N_law_begun) (sc := defScope (topS 36)) (by decide +kernel)) (fun _ _ _ _ _ => (pg_name (i := 2) nd rfl (Or.inl rfl))) (fun _ _ _ _ _ => pts_nil) (fun _ _ _ _ _ => (pe_op op_mod (pe_callTy call_intG (by rfl) T.n_int (by decide +kernel) (pa_cons (pe_callB call_absG (by rfl) T.n_abs (by decide +kernel) (pa_cons (pv 2) pa_nil)) pa_nil)) pe_int))) (pps_cons pe_str pe_int (pps_cons pe_str pe_int pps_nil)))) (by rfl) (by rfl) (fun z => by cases z) (by decide)))))
theorem ok_law (T : Tx K mg) (TB : TbB K base mg) {fd : FuncData} (F : FunD K "law" "law" (defArgs (topS 45)) (defBody (topS 45)) (defScope (topS 45)) (d_law.dvs K) [] (He.ga K "law") fd) : FnW P w K mg base 11 (He.ga K "law") fd ["_law_script"] (spLaw (cx K)) := by
  obtain ⟨_, G_Rule___init__, b_Rule___init__, k_Rule___init__, _, v_Rule___init__, c_Rule___init__⟩ := ok_Rule___init__ (P := P) (w := w) (base := base) T TB
  obtain ⟨_, G_law_begun, b_law_begun, k_law_begun⟩ := ok_law_begun (P := P) (w := w) (base := base) T TB
  obtain ⟨_, G_law_bent_page, b_law_bent_page, k_law_bent_page, _, v_law_bent_page, c_law_bent_page⟩ := ok_law_bent_page (P := P) (w := w) (base := base) T TB
  obtain ⟨_, G_law_pick, b_law_pick, k_law_pick, _, v_law_pick, c_law_pick⟩ := ok_law_pick (P := P) (w := w) (base := base) T TB
  obtain ⟨_, G_law_right, b_law_right, k_law_right, _, v_law_right, c_law_right⟩ := ok_law_right (P := P) (w := w) (base := base) T TB
  obtain ⟨_, G_law_rule, b_law_rule, k_law_rule, _, v_law_rule, c_law_rule⟩ := ok_law_rule (P := P) (w := w) (base := base) T TB
  obtain ⟨_, G_law_rule_page, b_law_rule_page, k_law_rule_page, _, v_law_rule_page, c_law_rule_page⟩ := ok_law_rule_page (P := P) (w := w) (base := base) T TB
  obtain ⟨_, G_law_take, b_law_take, k_law_take, _, v_law_take, c_law_take⟩ := ok_law_take (P := P) (w := w) (base := base) T TB
  obtain ⟨_, G_read_rule, b_read_rule, k_read_rule, _, v_read_rule, c_read_rule⟩ := ok_read_rule (P := P) (w := w) (base := base) T TB
  obtain ⟨_, F_caught⟩ := T.f_law_caught
  have b_caught := F_caught.bindsN (ps := ["_law_work_here"]) fun _ _ _ _ _ _ us hl => match us, hl with | [_], _ => rfl
  have hes := T.hes
  have nd := sc_law.nd
  refine fnW_of F sc_law (fun vs H Q E h => by obtain ⟨a, ns, rfl, _⟩ := h; rfl) (fun A outer s H vs Q E gd hr h => ?_)
  have tk : Takes (cxOf (L2.CX P w) P w K mg base N_law "law" (defScope (topS 45)) (He.ga K "law") (.ref (codeAt K (He.ga K "law"))) A outer s H E) (fun cls d _ H => E cls d H) := takes_of rfl rfl rfl rfl
  have first : PS (cxOf (L2.CX P w) P w K mg base N_law "law" (defScope (topS 45)) (He.ga K "law") (.ref (codeAt K (He.ga K "law"))) A outer s H E) (defBody (topS 45)).head! _ := ps_set (i := 1) nd rfl (Or.inl rfl) (pe_callW0 G_law_begun gd (hr.mono (by decide)) rfl T.g__law_begun k_law_begun b_law_begun (pa_cons (pv 0) pa_nil))
  have rest : GSs (cxOf (L2.CX P w) P w K mg base N_law "law" (defScope (topS 45)) (He.ga K "law") (.ref (codeAt K (He.ga K "law"))) A outer s H E) (cx K) (fun cls d _ H => E cls d H) (2 ^ 193) (defBody (topS 45)).tail wr_law := gs_le (gs_cons (g_set (i := 2) nd rfl (Or.inl rfl) (g_lst (ga_cons g_str (ga_cons g_str (ga_cons g_str (ga_cons g_str (ga_cons g_str (ga_cons g_str (ga_cons g_str (ga_cons g_str (ga_cons g_str (ga_cons g_str (ga_cons g_str (ga_cons g_str (ga_cons g_str (ga_cons g_str (ga_cons g_str ga_nil)))))))))))))))))
      (gs_cons (g_set (i := 3) nd rfl (Or.inl rfl) (g_lst (ga_cons g_str (ga_cons g_str (ga_cons g_str (ga_cons g_str (ga_cons g_str (ga_cons g_str (ga_cons g_str (ga_cons g_str (ga_cons g_str (ga_cons g_str (ga_cons g_str (ga_cons g_str (ga_cons g_str (ga_cons g_str (ga_cons g_str ga_nil)))))))))))))))))
      (gs_cons (g_set (i := 3) nd rfl (Or.inl rfl) (g_op w_add (g_var (pv 3)) (g_lst (ga_cons g_str (ga_cons g_str (ga_cons g_str (ga_cons g_str (ga_cons g_str (ga_cons g_str (ga_cons g_str (ga_cons g_str ga_nil)))))))))))
      (gs_cons (g_set (i := 3) nd rfl (Or.inl rfl) (g_op w_add (g_var (pv 3)) (g_lst (ga_cons g_str (ga_cons g_str ga_nil)))))
      (gs_cons (g_for (passes_of rfl) (gi_rng1 (by rfl) T.n_range (ga_cons (g_op w_add g_int (g_cb w_min2 (by rfl) T.n_min (by decide +kernel) (ga_cons (g_cb w_len (by rfl) T.n_len PySem.boot_len (ga_cons (g_var (pv 0)) ga_nil)) (ga_cons g_int ga_nil)))) ga_nil)) (gg_name (i := 4) nd rfl (Or.inl rfl)) (gs_cons (g_set (i := 5) nd rfl (Or.inl rfl) (g_call G_law_rule_page gd (hr.mono (by decide)) rfl T.g__law_rule_page k_law_rule_page b_law_rule_page .nil (fun _ _ => .nil) tk (ga_cons (g_call G_law_rule gd (hr.mono (by decide)) rfl T.g__law_rule k_law_rule b_law_rule .nil (fun _ _ => .nil) tk (ga_cons (g_var (pv 1)) (ga_cons g_int (ga_cons (g_call G_law_pick gd (hr.mono (by decide)) rfl T.g__law_pick k_law_pick b_law_pick .nil (fun _ _ => .nil) tk (ga_cons (g_var (pv 1)) (ga_cons (g_lst (ga_cons g_int (ga_cons (g_op w_pow g_int g_int) ga_nil))) ga_nil))) ga_nil)))) ga_nil)))
      (gs_cons (g_ifS (g_tnot (g_tval (g_call G_law_right gd (hr.mono (by decide)) rfl T.g__law_right k_law_right b_law_right .nil (fun _ _ => .nil) tk (ga_cons (g_var (pv 5)) ga_nil)))) (gs_one (g_ret g_bl)) gs_nil)
      (gs_cons (g_for (passes_of rfl) (gi_rng1 (by rfl) T.n_range (ga_cons g_int ga_nil)) (gg_name (i := 6) nd rfl (Or.inl rfl)) (gs_cons (g_set (i := 7) nd rfl (Or.inl rfl) (g_var (pv 5)))
      (gs_cons (g_for (passes_of rfl) (gi_rng1 (by rfl) T.n_range (ga_cons (g_op w_add g_int (g_call G_law_take gd (hr.mono (by decide)) rfl T.g__law_take k_law_take b_law_take .nil (fun _ _ => .nil) tk (ga_cons (g_var (pv 1)) (ga_cons g_int ga_nil)))) ga_nil)) (gg_name (i := 8) nd rfl (Or.inl rfl)) (gs_one (g_set (i := 7) nd rfl (Or.inl rfl) (g_call G_law_bent_page gd (hr.mono (by decide)) rfl T.g__law_bent_page k_law_bent_page b_law_bent_page .nil (fun _ _ => .nil) tk (ga_cons (g_var (pv 1)) (ga_cons (g_var (pv 7)) (ga_cons (g_var (pv 2)) ga_nil)))))))
      (gs_one (g_ifS (g_tnot (g_tval (g_call G_law_right gd (hr.mono (by decide)) rfl T.g__law_right k_law_right b_law_right .nil (fun _ _ => .nil) tk (ga_cons (g_var (pv 7)) ga_nil)))) (gs_one (g_ret g_bl)) gs_nil)))))
      (gs_cons (g_ifS (g_tnot (g_tval (g_call G_law_right gd (hr.mono (by decide)) rfl T.g__law_right k_law_right b_law_right .nil (fun _ _ => .nil) tk (ga_cons (g_call G_law_pick gd (hr.mono (by decide)) rfl T.g__law_pick k_law_pick b_law_pick .nil (fun _ _ => .nil) tk (ga_cons (g_var (pv 1)) (ga_cons (g_var (pv 3)) ga_nil))) ga_nil)))) (gs_one (g_ret g_bl)) gs_nil)
      (gs_cons (g_set (i := 9) nd rfl (Or.inr rfl) (g_call G_law_pick gd (hr.mono (by decide)) rfl T.g__law_pick k_law_pick b_law_pick .nil (fun _ _ => .nil) tk (ga_cons (g_var (pv 1)) (ga_cons (g_lst (ga_cons g_non (ga_cons g_int (ga_cons g_int (ga_cons g_bl (ga_cons (g_lst (ga_cons g_str ga_nil)) (ga_cons (g_tup (ga_cons g_str ga_nil)) (ga_cons g_dict0 (ga_cons (g_make (n := "Rule") T.mk_Rule G_Rule___init__ gd (hr.mono (by decide)) rfl T.g_Rule b_Rule___init__ .nil (fun _ _ => .nil) tk (ga_cons (g_lst (ga_cons g_int ga_nil)) ga_nil) n_Rule) (ga_cons (g_lst ga_nil) (ga_cons (g_tup ga_nil) ga_nil))))))))))) ga_nil))))
      (gs_cons (g_set (i := 10) nd rfl (Or.inl rfl) (g_caught (kl := LL_law) gd rfl T.g__law_caught T.kp_caught F_caught b_caught sc__caught (Or.inl rfl) sc__caught.nd rfl rfl rfl T.g_CrossError (TB _ tm_law) rfl tbm_law (tbu_law T) (hr.mono (by decide)) (LamX.lamS_by (sc := defScope (topS 45)) (by decide +kernel)) rfl (fun _ _ _ _ _ => rfl) hes (fun A outer s H E f c' gd hr => (g_call G_read_rule gd (hr.mono (by decide)) rfl T.g_read_rule k_read_rule b_read_rule .nil (fun _ _ => .nil) (takes_of rfl rfl rfl rfl) (ga_cons (g_var (pv 9)) ga_nil)))))
      (gs_one (g_ifS (g_pt (g_wor (g_tnot (g_tval (g_cb (w_isi T.ctx) (by rfl) T.n_isinstance (by decide +kernel) (ga_cons (g_var (pv 10)) (ga_cons (g_cls (pe_glob rfl T.g_BadText rfl) i_BadText) ga_nil))))) (g_wor1 (g_tcmp (w_ne hr.units) (g_cb (w_repr gd hr.units) (by rfl) T.n_repr (by decide +kernel) (ga_cons (g_errF T.ctx T.ef_line (g_var (pv 10))) ga_nil)) g_str (nomark _))))) (gs_one (g_ret g_bl)) gs_nil)))))))))
      (gs_one (g_ret (g_cmp (w_eq hr.units) (g_lc (own := [("_law_page", 5)]) nd (gi_seq (g_var (pv 3))) (blkOk_by (own := [("_law_page", 5)]) (N := N_law) (sc := defScope (topS 45)) (by decide +kernel)) (fun _ _ _ _ _ => (gg_name (i := 5) nd rfl (Or.inl rfl))) (fun _ _ _ _ _ => (gt_one (g_tnot (g_tval (g_call G_law_right gd (hr.mono (by decide)) rfl T.g__law_right k_law_right b_law_right .nil (fun _ _ => .nil) LamX.takes0 (ga_cons (g_var (pv 5)) ga_nil)))))) (fun _ _ _ _ _ => (g_var (pv 5)))) (g_lst ga_nil) (nomark _))))))))) (by decide +kernel)
  exact ⟨_, pss_cons first rest, law_start (N := N_law) (k := 2 ^ 193) (W := fun cls d _ H => E cls d H) (by decide) (by decide +kernel) law_ok h⟩
end
end KLaw
open PySem PySem.W PySem.Calls PyProof.Rows
theorem PySem.Challenge.cw_crossadds_k71_rules_read_or_refused_holds : PySem.Challenge.rw_crossadds_k71_rules_read_or_refused.Holds := by
  w_on; o_law
  refine HandSHeadRun.head_any (r := OpenLaw.row PySem.Challenge.rw_crossadds_k71_rules_read_or_refused) (q := view (OpenLaw.row PySem.Challenge.rw_crossadds_k71_rules_read_or_refused).prog [45]) (H := KLaw.hk) (ob := KLaw.ob) (M := 8000) (loose := KLaw.loose) (d := HandSHeadRun.topDef (OpenLaw.row PySem.Challenge.rw_crossadds_k71_rules_read_or_refused).prog 45) (kwd := []) KLaw.ob_eq
    (by kernel_rfl) (fun s => by kernel_rfl) KLaw.run (by kernel_rfl) (by kernel_rfl) (by kernel_rfl) (by rfl) (by first | assumption | decide +kernel) (by decide +kernel) ⟨rfl, rfl, rfl, rfl, rfl, by decide +kernel⟩ ?hw ?hc
  case hw => w_witness2
  case hc =>
    refine DL.walk_of (l := PySem.Challenge.rw_crossadds_k71_rules_read_or_refused) (n := 63) (k := 11) (x := "_law_script") rfl (by decide) (by kernel_rfl) ⟨rfl, by decide, by decide⟩ ?F
    intro w mg fa h Y G hmg0
    obtain ⟨K, KX, c⟩ := Y
    have hmg : mg ("law" : PySem.Str) = some (.ref fa) := by
      have e : (HandSHeadRun.topDef (OpenLaw.row PySem.Challenge.rw_crossadds_k71_rules_read_or_refused).prog 45).name = ("law" : PySem.Str) := by kernel_rfl
      rw [← e]
      exact hmg0
    have T := KLaw.tx KX G c.t
    have e := hmg.symm.trans T.g_law
    cases e
    obtain ⟨fd, F⟩ := T.f_law
    refine ⟨KLaw.cx K, fd, DL.tabsOf K KLaw.tf, KX, DL.tabs_all (P := fun p => h.get? p.2 = some { cls := .none, data := .fields #[] }) c.empty, DL.tabs_all (P := fun p => K.lookup p.2 = none) c.out, DL.tabs_all (P := fun p => PySem.W.CodeHd h p.1 p.2) (fun f hf => PySem.W.codeHd_of_K KX (c.hd f hf)), ?tb, fun s v => (L2.FunD.bindsA (ps := ["_law_script"]) F fun _ _ _ _ _ _ us hl => match us, hl with | [_], _ => rfl) s [v] rfl, fun base _ _ TB => ?_⟩
    case tb =>
      intro p hp
      simp only [List.mem_cons, List.not_mem_nil, or_false] at hp
      rcases hp with rfl | rfl
      · exact ⟨_, List.mem_cons_self, rfl⟩
      · exact ⟨_, (List.mem_cons_of_mem _ List.mem_cons_self), rfl⟩
    exact KLaw.ok_law (P := (PySem.Challenge.rw_crossadds_k71_rules_read_or_refused).prog) (w := w) (base := base) T (fun f hf => TB _ (DL.tabs_mem hf)) F
