import PyProof.Rows.All
import Wide.All
import OpenK.AllK
import Wide.FinOn
import HandS.ForMost
import HandS.Wide
import HandS.WideBits
import HandS.Star
import HandS.Property
import HandS.IsInst
import HandS.Style
import HandS.TupAny
import HandS.Defaults
import HandS.Flow
import HandS.Lambda
import HandS.Exc
import KE.KOpsOwn
import PyProof.InstEq
import PyProof.InstNe
import HandS.TupMul
import HandS.Zip
import HandS.Head0
import HandS.Head1
import HandS.Head2
import HandS.HeadEnd
import HandS.HeadHook1
import HandS.HeadHook2
import KE.GoesMore
import KE.KRevSl
import KE.KIsAll
import HandS.ExcIs
import HandS.ExcField
import PyProof.ReprReads
import PyProof.ReprRoads
import PyProof.ReprLen
import PyProof.P3Eq
import PyProof.Fits
import HandS.ExcInit
import HandS.ExcOwn
import HandS.ClsMeth
import HandS.RaiseMore
import HandS.ExcValue
import HandS.EndTab
import HandS.HeadHook4
import PyProof.ListRange
import HandS.MakeKwOnly
import HandS.OwnEq
import HandS.NamedTupGet
import PyProof.StrReplace2
import PyProof.Rows.Digits
import KE.DataEq
import HandS.DictTup
import HandS.Conv
import HandS.Iter
import HandS.SortRule
import KE.KDictSum
import HandS.DictComp
import KE.KDictCopyH
import KE.KDictOf
import KE.KDictPairs
import HandS.SortKw
import KE.DataMinMax
import KE.KEqDict
import PySem.Challenge.RW_crossadds_k01_errors_apart
set_option Elab.async false
set_option linter.all false
set_option maxRecDepth 100000
set_option maxHeartbeats 4000000
/-! A0: a logic of plain data over the hand layer: data, cells, the world. -/
namespace DL
open PySem L2

/-- plain data; a cell is a thing that still changes -/
inductive D where
  | none | bool (b : Bool) | int (i : Int) | str (s : Str)
  | list (ds : List D) | tup (ds : List D)
  | dk (ks : List Key) (ds : List D) | dt (ks : List (List Key)) (ds : List D)
  | obj (c : Str) (fs : List Str) (ds : List D)
  | script (ns : List Int) | state | ty (n : String) | cls (n : Str)
  | err (c : Str) (fs : List Str) (ds : List D)
  | cell (a : Addr)
/-- what a cell holds -/
inductive Nd where
  | list (ds : List D) | dk (ks : List Key) (ds : List D) | dt (ks : List (List Key)) (ds : List D)
  | obj (c : Str) (fs : List Str) (ds : List D)
def Nd.frz : Nd → D
  | .list ds => .list ds
  | .dk ks ds => .dk ks ds
  | .dt ks ds => .dt ks ds
  | .obj c fs ds => .obj c fs ds
abbrev Mu := Addr → Option Nd
def up (μ : Mu) (a : Addr) (x : Nd) : Mu := fun b => if b = a then some x else μ b
def del (μ : Mu) (a : Addr) : Mu := fun b => if b = a then Option.none else μ b
theorem up_same {μ : Mu} {a : Addr} {x : Nd} : up μ a x a = some x := if_pos rfl
theorem up_ne {μ : Mu} {a b : Addr} {x : Nd} (h : b ≠ a) : up μ a x b = μ b := if_neg h
theorem up_up {μ : Mu} {a : Addr} {x y : Nd} : up (up μ a x) a y = up μ a y := by
  funext b
  unfold up
  split <;> rfl
theorem del_same {μ : Mu} {a : Addr} : del μ a a = Option.none := if_pos rfl
theorem del_ne {μ : Mu} {a b : Addr} (h : b ≠ a) : del μ a b = μ b := if_neg h
theorem del_up {μ : Mu} {a : Addr} {x : Nd} (h : μ a = Option.none) : del (up μ a x) a = μ := by
  funext b
  by_cases z : b = a
  · subst z
    rw [del_same, h]
  · rw [del_ne z, up_ne z]

/-- the written part, the classes by name -/
structure Ctx where
  K : PySem.W.Frag
  cl : Str → Addr
  tb : List (Addr × Str) := []
  ns : List Str := []
  es : List Str := []
/-- the built-in types that are named -/
def tyNames : List String := ["int", "bool", "str", "list", "tuple", "dict", "NoneType", "ValueError", "KeyError", "ZeroDivisionError", "TypeError"]
/-- where the law's state stands: its dict, its list of wide cells, its list of cells -/
structure SA where
  d : Addr
  l : Addr
  k : Addr
  T : List (Addr × Str) := []

/-- at a: an error of the class cls, its dict at d -/
def ErO (a : Addr) (cls : Value) (d : Option Addr) : HO := .ext fun h => ∃ (oe : Obj) (vs : Array Value), h.get? a = some oe ∧ Zc cls d oe ∧ oe.data = .fields vs
/-- what an error's dict holds -/
def ErF (I : Hp) (d : Option Addr) (fs : List Str) (xs : List V) : Prop := fs.length = xs.length ∧ ((d = none ∧ fs = []) ∨ ∃ dx, d = some dx ∧ I dx = some (.xd (List.zip fs xs)))
/-- no pair that begins with a number (such a pair may be a dict's key) -/
def isIntV : V → Bool
  | .int _ => true
  | _ => false
def noKey : List V → Bool
  | [v, _] => !isIntV v
  | _ => true
/-- a tuple at a: made while running, or one of the written part that is no key -/
def TupA (K : PySem.W.Frag) (I : Hp) (a : Addr) (xs : List V) : Prop := I a = some (.tup xs) ∨ (noKey xs = true ∧ SqT K I a xs)
theorem TupA.sq {K : PySem.W.Frag} {I : Hp} {a : Addr} {xs : List V} (h : TupA K I a xs) : SqT K I a xs := by
  rcases h with h | ⟨_, h⟩
  · exact .inl (.inl h)
  · exact h
mutual
/-- what a value stands for, by what is known -/
inductive Rep (c : Ctx) (S : Option SA) (I : Hp) : D → V → Prop where
  | none : Rep c S I .none .non
  | bool {b} : Rep c S I (.bool b) (.bl b)
  | int {i} : Rep c S I (.int i) (.int i)
  | str {s} : Rep c S I (.str s) (.str s)
  | list {a ds xs} (h : I a = some (.lst xs)) (r : Reps c S I ds xs) : Rep c S I (.list ds) (.ref a)
  | tup {a ds xs} (h : TupA c.K I a xs) (r : Reps c S I ds xs) : Rep c S I (.tup ds) (.ref a)
  | dk {a ks ds xs} (h : I a = some (.dK (List.zip ks xs))) (r : Reps c S I ds xs) (l : ks.length = xs.length) : Rep c S I (.dk ks ds) (.ref a)
  | dt {a ks ds xs} (h : I a = some (.dT (List.zip ks xs))) (r : Reps c S I ds xs) (l : ks.length = xs.length) : Rep c S I (.dt ks ds) (.ref a)
  | obj {a n dx fs ds xs} (h : I a = some (.ins (c.cl n) dx (List.zip fs xs))) (r : Reps c S I ds xs) (l : fs.length = xs.length) (hn : n ∈ c.ns) : Rep c S I (.obj n fs ds) (.ref a)
  | script {a ns} (h : SqL c.K I a (ns.map V.int)) : Rep c S I (.script ns) (.ref a)
  | state {s} (h : S = some s) (ht : s.T = c.tb) : Rep c S I .state (.ref s.d)
  | ty {n} (hn : n ∈ tyNames) : Rep c S I (.ty n) (.ty n)
  | cls {n} (hn : n ∈ c.ns ++ c.es) : Rep c S I (.cls n) (.ref (c.cl n))
  | err {a n d fs ds xs} (h : I a = some (ErO a (.ref (c.cl n)) d)) (hf : ErF I d fs xs) (r : Reps c S I ds xs) (hn : n ∈ c.es) : Rep c S I (.err n fs ds) (.ref a)
  | cell {a} : Rep c S I (.cell a) (.ref a)
inductive Reps (c : Ctx) (S : Option SA) (I : Hp) : List D → List V → Prop where
  | nil : Reps c S I [] []
  | cons {d ds x xs} (h : Rep c S I d x) (r : Reps c S I ds xs) : Reps c S I (d :: ds) (x :: xs)
end

theorem Same.sqT {K : PySem.W.Frag} {H H' : Hp} {a : Addr} {xs : List V} (e : Same H H') (h : SqT K H a xs) : SqT K H' a xs := by
  rcases h with (h | ⟨o, h⟩) | h
  · exact .inl (.inl (e _ _ h))
  · exact .inl (.inr ⟨o, e _ _ h⟩)
  · exact .inr h
theorem Same.tup {K : PySem.W.Frag} {H H' : Hp} {a : Addr} {xs : List V} (e : Same H H') (h : TupA K H a xs) : TupA K H' a xs := by
  rcases h with h | ⟨h, g⟩
  · exact .inl (e _ _ h)
  · exact .inr ⟨h, Same.sqT e g⟩
theorem ErF.mono {I I' : Hp} (e : Same I I') {d : Option Addr} {fs : List Str} {xs : List V} (h : ErF I d fs xs) : ErF I' d fs xs := by
  obtain ⟨h1, h2⟩ := h
  refine ⟨h1, ?_⟩
  rcases h2 with z | ⟨dx, z, q⟩
  · exact .inl z
  · exact .inr ⟨dx, z, e _ _ q⟩
section
variable {c : Ctx} {S : Option SA} {I I' : Hp}
mutual
theorem Rep.mono (e : Same I I') : ∀ {d : D} {v : V}, Rep c S I d v → Rep c S I' d v
  | _, _, .none => .none
  | _, _, .bool => .bool
  | _, _, .int => .int
  | _, _, .str => .str
  | _, _, .list h r => .list (e _ _ h) (Reps.mono e r)
  | _, _, .tup h r => .tup (Same.tup e h) (Reps.mono e r)
  | _, _, .dk h r l => .dk (e _ _ h) (Reps.mono e r) l
  | _, _, .dt h r l => .dt (e _ _ h) (Reps.mono e r) l
  | _, _, .obj h r l hn => .obj (e _ _ h) (Reps.mono e r) l hn
  | _, _, .script h => .script (e.seq h)
  | _, _, .state h t => .state h t
  | _, _, .ty hn => .ty hn
  | _, _, .cls hn => .cls hn
  | _, _, .err h f r hn => .err (e _ _ h) (f.mono e) (Reps.mono e r) hn
  | _, _, .cell => .cell
theorem Reps.mono (e : Same I I') : ∀ {ds : List D} {xs : List V}, Reps c S I ds xs → Reps c S I' ds xs
  | _, _, .nil => .nil
  | _, _, .cons h r => .cons (Rep.mono e h) (Reps.mono e r)
end
theorem Reps.length : ∀ {ds : List D} {xs : List V}, Reps c S I ds xs → ds.length = xs.length
  | _, _, .nil => rfl
  | _, _, .cons _ r => by rw [List.length_cons, List.length_cons, r.length]
theorem Reps.get : ∀ {ds : List D} {xs : List V} {i : Nat} {d : D}, Reps c S I ds xs → ds[i]? = some d → ∃ x, xs[i]? = some x ∧ Rep c S I d x
  | _, _, _, _, .nil, h => by simp at h
  | _, _, 0, _, .cons r _, h => by
    simp at h
    subst h
    exact ⟨_, rfl, r⟩
  | _, _, i + 1, d, .cons _ r, h => by
    obtain ⟨x, h1, h2⟩ := r.get (i := i) (by simpa using h)
    exact ⟨x, by simpa using h1, h2⟩
theorem Reps.append : ∀ {ds es : List D} {xs ys : List V}, Reps c S I ds xs → Reps c S I es ys → Reps c S I (ds ++ es) (xs ++ ys)
  | _, _, _, _, .nil, s => s
  | _, _, _, _, .cons h r, s => .cons h (r.append s)
theorem Reps.set {d : D} {x : V} (q : Rep c S I d x) : ∀ {ds : List D} {xs : List V} (i : Nat), Reps c S I ds xs → Reps c S I (ds.set i d) (xs.set i x)
  | _, _, _, .nil => .nil
  | _, _, 0, .cons _ r => .cons q r
  | _, _, i + 1, .cons h r => .cons h (Reps.set q i r)
theorem Reps.take : ∀ {ds : List D} {xs : List V} (i : Nat), Reps c S I ds xs → Reps c S I (ds.take i) (xs.take i)
  | _, _, 0, _ => .nil
  | _, _, _ + 1, .nil => .nil
  | _, _, i + 1, .cons h r => .cons h (r.take i)
theorem Reps.drop : ∀ {ds : List D} {xs : List V} (i : Nat), Reps c S I ds xs → Reps c S I (ds.drop i) (xs.drop i)
  | _, _, 0, r => r
  | _, _, _ + 1, .nil => .nil
  | _, _, i + 1, .cons _ r => r.drop i
theorem Reps.reverse : ∀ {ds : List D} {xs : List V}, Reps c S I ds xs → Reps c S I ds.reverse xs.reverse
  | _, _, .nil => .nil
  | _, _, .cons h r => by
    rw [List.reverse_cons, List.reverse_cons]
    exact r.reverse.append (.cons h .nil)
theorem Reps.flat {ds : List D} {xs : List V} (q : Reps c S I ds xs) : ∀ n : Nat, Reps c S I (List.replicate n ds).flatten (List.replicate n xs).flatten
  | 0 => .nil
  | n + 1 => by
    rw [List.replicate_succ, List.replicate_succ, List.flatten_cons, List.flatten_cons]
    exact q.append (Reps.flat q n)
theorem Reps.ints : ∀ {ns : List Int} {xs : List V}, Reps c S I (ns.map D.int) xs → xs = ns.map V.int
  | [], _, .nil => rfl
  | _ :: ns, _, .cons h r => by
    cases h
    rw [r.ints]
    rfl
theorem Reps.of_ints : ∀ {ns : List Int}, Reps c S I (ns.map D.int) (ns.map V.int)
  | [] => .nil
  | _ :: _ => .cons .int Reps.of_ints
end
/-- what a cell's thing is -/
inductive NdR (c : Ctx) (S : Option SA) (I : Hp) : Nd → HO → Prop where
  | list {ds xs} (r : Reps c S I ds xs) : NdR c S I (.list ds) (.lst xs)
  | dk {ks ds xs} (r : Reps c S I ds xs) (l : ks.length = xs.length) : NdR c S I (.dk ks ds) (.dK (List.zip ks xs))
  | dt {ks ds xs} (r : Reps c S I ds xs) (l : ks.length = xs.length) : NdR c S I (.dt ks ds) (.dT (List.zip ks xs))
  | obj {n dx fs ds xs} (r : Reps c S I ds xs) (l : fs.length = xs.length) (hn : n ∈ c.ns) : NdR c S I (.obj n fs ds) (.ins (c.cl n) dx (List.zip fs xs))
theorem NdR.mono {c : Ctx} {S : Option SA} {I I' : Hp} (e : Same I I') {nd : Nd} {o : HO} (h : NdR c S I nd o) : NdR c S I' nd o := by
  cases h with
  | list r => exact .list (r.mono e)
  | dk r l => exact .dk (r.mono e) l
  | dt r l => exact .dt (r.mono e) l
  | obj r l hn => exact .obj (r.mono e) l hn
theorem NdR.frz {c : Ctx} {S : Option SA} {I : Hp} {nd : Nd} {o : HO} {a : Addr} (h : NdR c S I nd o) (ha : I a = some o) : Rep c S I nd.frz (.ref a) := by
  cases h with
  | list r => exact .list ha r
  | dk r l => exact .dk ha r l
  | dt r l => exact .dt ha r l
  | obj r l hn => exact .obj ha r l hn

/-! ### the world -/
def isDict : HO → Bool
  | .dK _ => true
  | .dT _ => true
  | _ => false
/-- no table of code objects -/
def notTb : HO → Prop
  | .tbl _ => False
  | _ => True
def notTX : HO → Prop
  | .tbl _ => False
  | .ext _ => False
  | .tup _ => False
  | _ => True
theorem notTX.tb : ∀ {o : HO}, notTX o → notTb o := fun {o} h => by cases o <;> first | trivial | exact h
theorem NdR.tx {c : Ctx} {S : Option SA} {I : Hp} {nd : Nd} {o : HO} (h : NdR c S I nd o) : notTX o := by cases h <;> trivial
/-- the places of the state -/
def Cell (a : SA) (b : Addr) : Prop := (b = a.d ∨ b = a.l ∨ b = a.k) ∨ ∃ p ∈ a.T, b = p.1
def StOk (s : SA) (n : Nat) (H : Hp) : Prop := LamX.Tabs s.T H ∧ s.l ≠ s.k ∧ ∃ (ws cs : List Int) (r t : Int),
  H s.d = some (.dK [(Sum.inr "wide", .ref s.l), (Sum.inr "cells", .ref s.k), (Sum.inr "rest", .int r), (Sum.inr "turn", .int t)]) ∧
  H s.l = some (.lst (ws.map V.int)) ∧ H s.k = some (.lst (cs.map V.int)) ∧ ws.length ≤ 63 ∧ cs.length ≤ 63 ∧ 0 ≤ t ∧ t ≤ (n : Int)
/-- a thing that is left alone: nobody knows it, or it is a known dict while it is walked -/
def Lf (S : Option SA) (I : Hp) (μ : Mu) (b : Addr) (o : HO) : Prop := (I b = Option.none ∧ μ b = Option.none ∧ notTX o ∧ ∀ a, S = some a → ¬ Cell a b) ∨ ∃ ob u, o = .frz ob u ∧ isDict u = true ∧ I b = some u
theorem Lf.to {S : Option SA} {I I' : Hp} {μ μ' : Mu} {b : Addr} {o : HO} (h : Lf S I μ b o) (hi : I' b = I b) (hm : μ b = Option.none → μ' b = Option.none) : Lf S I' μ' b o := by
  rcases h with ⟨h1, h2, h3⟩ | ⟨ob, u, h1, h2, h3⟩
  · exact .inl ⟨by rw [hi]; exact h1, hm h2, h3⟩
  · exact .inr ⟨ob, u, h1, h2, by rw [hi]; exact h3⟩
/-- what is known (I), the cells (μ), what is left alone meanwhile (F), the state -/
structure Wd (c : Ctx) (S : Option SA) (F : Hp) (n : Nat) (I : Hp) (μ : Mu) (H : Hp) : Prop where
  i : ∀ b o, I b = some o → H b = some o ∨ (isDict o = true ∧ ∃ ob, H b = some (.frz ob o))
  m : ∀ b nd, μ b = some nd → I b = Option.none ∧ ∃ o, NdR c S I nd o ∧ H b = some o
  s : ∀ a, S = some a → StOk a n H ∧ ∀ b, Cell a b → I b = Option.none ∧ μ b = Option.none
  ni : ∀ b o, I b = some o → notTb o
  f : ∀ b o, F b = some o → H b = some o ∧ Lf S I μ b o
  z : ∃ a, S = some a ∧ a.T = c.tb
theorem none_of {α : Type} {x : Option α} (h : ∀ o, x = some o → False) : x = Option.none := by
  cases e : x with
  | none => rfl
  | some o => exact (h o e).elim
theorem StOk.up {s : SA} {n m : Nat} {H : Hp} (h : StOk s n H) (e : n ≤ m) : StOk s m H := by
  obtain ⟨h9, h0, ws, cs, r, t, h1, h2, h3, h4, h5, h6, h7⟩ := h
  exact ⟨h9, h0, ws, cs, r, t, h1, h2, h3, h4, h5, h6, by omega⟩
theorem StOk.cells {s : SA} {n : Nat} {H : Hp} (h : StOk s n H) {b : Addr} (q : Cell s b) : ∃ o, H b = some o := by
  obtain ⟨h9, h0, ws, cs, r, t, h1, h2, h3, _⟩ := h
  rcases q with (rfl | rfl | rfl) | ⟨p, hp, rfl⟩
  · exact ⟨_, h1⟩
  · exact ⟨_, h2⟩
  · exact ⟨_, h3⟩
  · obtain ⟨ps, z, _⟩ := h9 p hp
    exact ⟨_, z⟩
/-- the tables stay where they and what they tell stay -/
theorem tabs_keep {T : List (Addr × Str)} {H H' : Hp} (h : LamX.Tabs T H) (k : ∀ p ∈ T, H' p.1 = H p.1) (k2 : ∀ b φ, H b = some (.ext φ) → H' b = some (.ext φ)) : LamX.Tabs T H' := fun p hp => by
  obtain ⟨ps, h1, h2, h3⟩ := h p hp
  refine ⟨ps, by rw [k p hp]; exact h1, h2, fun pos cv hc => ?_⟩
  obtain ⟨c, e1, e2⟩ := h3 pos cv hc
  exact ⟨c, e1, k2 _ _ e2⟩
theorem StOk.keep {s : SA} {n : Nat} {H H' : Hp} (h : StOk s n H) (k : ∀ b, Cell s b → H' b = H b) (k2 : ∀ b φ, H b = some (.ext φ) → H' b = some (.ext φ)) : StOk s n H' := by
  obtain ⟨h9, h0, ws, cs, r, t, h1, h2, h3, h4⟩ := h
  exact ⟨tabs_keep h9 (fun p hp => k _ (.inr ⟨p, hp, rfl⟩)) k2, h0, ws, cs, r, t, by rw [k _ (.inl (.inl rfl))]; exact h1, by rw [k _ (.inl (.inr (.inl rfl)))]; exact h2, by rw [k _ (.inl (.inr (.inr rfl)))]; exact h3, h4⟩
section
variable {c : Ctx} {S : Option SA} {n m : Nat} {I H F F' : Hp} {μ μ' : Mu} {p : Addr} {u o : HO} {nd : Nd}
/-- what is left alone and not walked -/
theorem Wd.f0 (w : Wd c S F n I μ H) {b : Addr} {o : HO} (h : F b = some o) (ho : ∀ ob u, o ≠ .frz ob u) : H b = some o ∧ I b = Option.none ∧ μ b = Option.none ∧ notTX o ∧ ∀ a, S = some a → ¬ Cell a b := by
  obtain ⟨h1, h2⟩ := w.f b o h
  rcases h2 with h2 | ⟨ob, u, h3, _⟩
  · exact ⟨h1, h2⟩
  · exact absurd h3 (ho ob u)
theorem Wd.up (w : Wd c S F n I μ H) (e : n ≤ m) : Wd c S F m I μ H := ⟨w.i, w.m, fun a h => ⟨(w.s a h).1.up e, (w.s a h).2⟩, w.ni, w.f, w.z⟩
/-- less is owned -/
theorem Wd.drop (w : Wd c S F n I μ H) (e : ∀ b nd, μ' b = some nd → μ b = some nd) : Wd c S F n I μ' H :=
  ⟨w.i, fun b nd h => w.m b nd (e b nd h), fun a h => ⟨(w.s a h).1, fun b q => ⟨((w.s a h).2 b q).1, none_of fun o z => by
    have := e b o z
    rw [((w.s a h).2 b q).2] at this
    cases this⟩⟩, w.ni, fun b o h => ⟨(w.f b o h).1, (w.f b o h).2.to rfl fun hm => none_of (fun nd z => nomatch hm.symm.trans (e b nd z))⟩, w.z⟩
/-- less is left alone -/
theorem Wd.less (w : Wd c S F n I μ H) (e : ∀ b o, F' b = some o → F b = some o) : Wd c S F' n I μ H := ⟨w.i, w.m, w.s, w.ni, fun b o h => w.f b o (e b o h), w.z⟩
theorem Wd.nf (w : Wd c S F n I μ H) (h : H p = Option.none) : F p = Option.none := none_of fun o e => by
  have := (w.f p o e).1
  rw [h] at this
  cases this
theorem Wd.nfm (w : Wd c S F n I μ H) (h : μ p = some nd) : F p = Option.none := none_of fun o e => by
  rcases (w.f p o e).2 with ⟨_, h2, _⟩ | ⟨ob, u, _, _, h3⟩
  · rw [h] at h2
    cases h2
  · rw [(w.m p nd h).1] at h3
    cases h3
theorem Wd.fresh (w : Wd c S F n I μ H) (h : H p = Option.none) : I p = Option.none ∧ μ p = Option.none := by
  constructor
  · refine none_of fun o e => ?_
    rcases w.i p o e with z | ⟨_, ob, z⟩
    · rw [h] at z; cases z
    · rw [h] at z; cases z
  · refine none_of fun nd e => ?_
    obtain ⟨_, o, _, z⟩ := w.m p nd e
    rw [h] at z; cases z
theorem Wd.ne_st (w : Wd c S F n I μ H) (h : H p = Option.none) {a : SA} (e : S = some a) {b : Addr} (q : Cell a b) : b ≠ p := by
  obtain ⟨o, z⟩ := (w.s a e).1.cells q
  exact ne_of_none z h
theorem ext_new (h : H p = Option.none) : ∀ b φ, H b = some (.ext φ) → upd H p u b = some (.ext φ) := fun b φ e => by
  rw [upd_ne (ne_of_none e h)]
  exact e
theorem same_new (h : I p = Option.none) : Same I (upd I p u) := fun b o e => by
  rw [upd_ne (ne_of_none e h)]
  exact e
/-- a new thing of which nothing is said -/
theorem Wd.frame (w : Wd c S F n I μ H) (h : H p = Option.none) : Wd c S F n I μ (upd H p u) := by
  have hf := w.fresh h
  refine ⟨fun b o e => ?_, fun b nd e => ?_, fun a e => ⟨?_, (w.s a e).2⟩, w.ni, fun b o e => ⟨by rw [upd_ne (ne_of_none (w.f b o e).1 h)]; exact (w.f b o e).1, (w.f b o e).2⟩, w.z⟩
  · rw [upd_ne (ne_of_none e hf.1)]
    exact w.i b o e
  · obtain ⟨h1, o, h2, h3⟩ := w.m b nd e
    exact ⟨h1, o, h2, by rw [upd_ne (ne_of_none h3 h)]; exact h3⟩
  · exact (w.s a e).1.keep (fun b q => upd_ne (w.ne_st h e q)) (ext_new h)
/-- it is known from now on -/
theorem Wd.know (w : Wd c S F n I μ H) (h : H p = some u) (hi : I p = Option.none) (hm : μ p = Option.none) (hc : ∀ a, S = some a → ¬ Cell a p) (hf : F p = Option.none) (hu : notTb u) : Wd c S F n (upd I p u) μ H := by
  have sm : Same I (upd I p u) := same_new hi
  have ap : ∀ {b : Addr}, b ≠ p → upd I p u b = I b := fun z => upd_ne z
  refine ⟨fun b o e => ?_, fun b nd e => ?_, fun a e => ⟨(w.s a e).1, fun b q => ?_⟩, fun b o e => ?_, fun b o e => ⟨(w.f b o e).1, (w.f b o e).2.to (ap (ne_of_none e hf)) id⟩, w.z⟩
  · by_cases z : b = p
    · subst z
      rw [upd_same] at e
      cases e
      exact .inl h
    · rw [ap z] at e
      exact w.i b o e
  · have z : b ≠ p := fun z => by
      rw [z, hm] at e
      cases e
    obtain ⟨h1, o, h2, h3⟩ := w.m b nd e
    exact ⟨by rw [ap z]; exact h1, o, h2.mono sm, h3⟩
  · have z : b ≠ p := fun z => hc a e (z ▸ q)
    rw [ap z]
    exact (w.s a e).2 b q
  · by_cases z : b = p
    · subst z
      rw [upd_same] at e
      cases e
      exact hu
    · rw [ap z] at e
      exact w.ni b o e
/-- it is a cell from now on -/
theorem Wd.own (w : Wd c S F n I μ H) (r : NdR c S I nd u) (h : H p = some u) (hi : I p = Option.none) (hc : ∀ a, S = some a → ¬ Cell a p) (hf : F p = Option.none) : Wd c S F n I (DL.up μ p nd) H := by
  refine ⟨w.i, fun b nd' e => ?_, fun a e => ⟨(w.s a e).1, fun b q => ?_⟩, w.ni, fun b o e => ⟨(w.f b o e).1, (w.f b o e).2.to rfl fun hm => by rw [up_ne (ne_of_none e hf)]; exact hm⟩, w.z⟩
  · by_cases z : b = p
    · subst z
      rw [up_same] at e
      cases e
      exact ⟨hi, u, r, h⟩
    · rw [up_ne z] at e
      exact w.m b nd' e
  · rw [up_ne fun (z : b = p) => hc a e (z ▸ q)]
    exact (w.s a e).2 b q
theorem Wd.no_cell (w : Wd c S F n I μ H) (h : H p = Option.none) : ∀ a, S = some a → ¬ Cell a p := fun _ e q => w.ne_st h e q rfl
/-- a new thing, known -/
theorem Wd.new (w : Wd c S F n I μ H) (h : H p = Option.none) (hu : notTb u := by trivial) : Wd c S F n (upd I p u) μ (upd H p u) :=
  (w.frame h).know upd_same (w.fresh h).1 (w.fresh h).2 (w.no_cell h) (w.nf h) hu
/-- a new thing, a cell -/
theorem Wd.newCell (w : Wd c S F n I μ H) (h : H p = Option.none) (r : NdR c S I nd u) : Wd c S F n I (DL.up μ p nd) (upd H p u) :=
  (w.frame h).own r upd_same (w.fresh h).1 (w.no_cell h) (w.nf h)
/-- a cell is changed -/
theorem Wd.put (w : Wd c S F n I μ H) {nd0 : Nd} (h : μ p = some nd0) (r : NdR c S I nd u) : Wd c S F n I (DL.up μ p nd) (upd H p u) := by
  obtain ⟨hi, o0, r0, h0⟩ := w.m p nd0 h
  have hc : ∀ a, S = some a → ¬ Cell a p := fun a e q => by
    have := ((w.s a e).2 p q).2
    rw [h] at this
    cases this
  have hf := w.nfm h
  refine ⟨fun b o e => ?_, fun b nd' e => ?_, fun a e => ⟨?_, fun b q => ?_⟩, w.ni, fun b o e => ⟨by rw [upd_ne (ne_of_none e hf)]; exact (w.f b o e).1, (w.f b o e).2.to rfl fun hm => by rw [up_ne (ne_of_none e hf)]; exact hm⟩, w.z⟩
  · rw [upd_ne (ne_of_none e hi)]
    exact w.i b o e
  · by_cases z : b = p
    · subst z
      rw [up_same] at e
      cases e
      exact ⟨hi, u, r, upd_same⟩
    · rw [up_ne z] at e
      rw [upd_ne z]
      exact w.m b nd' e
  · refine (w.s a e).1.keep (fun b q => upd_ne fun z => hc a e (z ▸ q)) fun b φ z => ?_
    rw [upd_ne fun q => ?_]
    · exact z
    · rw [q, h0] at z
      cases z
      exact r0.tx
  · rw [up_ne fun (z : b = p) => hc a e (z ▸ q)]
    exact (w.s a e).2 b q
theorem Wd.lst (w : Wd c S F n I μ H) {xs : List V} (h : I p = some (.lst xs)) : H p = some (.lst xs) := by
  rcases w.i p _ h with z | ⟨z, _⟩
  · exact z
  · cases z
theorem Wd.ins (w : Wd c S F n I μ H) {C dx : Addr} {fs : List (Str × V)} (h : I p = some (.ins C dx fs)) : H p = some (.ins C dx fs) := by
  rcases w.i p _ h with z | ⟨z, _⟩
  · exact z
  · cases z
theorem Wd.tupH (w : Wd c S F n I μ H) {K : PySem.W.Frag} {xs : List V} (h : TupA K I p xs) : SqT K H p xs := by
  rcases h.sq with (h | ⟨o, h⟩) | h
  · rcases w.i p _ h with z | ⟨z, _⟩
    · exact .inl (.inl z)
    · cases z
  · rcases w.i p _ h with z | ⟨z, _⟩
    · exact .inl (.inr ⟨o, z⟩)
    · cases z
  · exact .inr h
theorem Wd.seqH (w : Wd c S F n I μ H) {K : PySem.W.Frag} {xs : List V} (h : SqL K I p xs) : SqL K H p xs := by
  rcases h with (h | ⟨o, h⟩) | h
  · rcases w.i p _ h with z | ⟨z, _⟩
    · exact .inl (.inl z)
    · cases z
  · rcases w.i p _ h with z | ⟨z, _⟩
    · exact .inl (.inr ⟨o, z⟩)
    · cases z
  · exact .inr h
end
/-! ### the names' values -/
abbrev EnvD := List (Option D)
def gt : EnvD → Nat → Option D
  | [], _ => Option.none
  | x :: _, 0 => x
  | _ :: r, n + 1 => gt r n
def st : EnvD → Nat → Option D → EnvD
  | [], _, _ => []
  | _ :: r, 0, x => x :: r
  | y :: r, n + 1, x => y :: st r n x
inductive EnvR (c : Ctx) (S : Option SA) (I : Hp) : EnvD → L2.St → Prop where
  | nil : EnvR c S I [] []
  | no {e σ x} (h : EnvR c S I e σ) : EnvR c S I (Option.none :: e) (x :: σ)
  | yes {e σ d v} (r : Rep c S I d v) (h : EnvR c S I e σ) : EnvR c S I (some d :: e) (some v :: σ)
section
variable {c : Ctx} {S : Option SA} {I I' : Hp}
theorem EnvR.mono (k : Same I I') : ∀ {e : EnvD} {σ : L2.St}, EnvR c S I e σ → EnvR c S I' e σ
  | _, _, .nil => .nil
  | _, _, .no h => .no (h.mono k)
  | _, _, .yes r h => .yes (r.mono k) (h.mono k)
theorem EnvR.len : ∀ {e : EnvD} {σ : L2.St}, EnvR c S I e σ → e.length = σ.length
  | _, _, .nil => rfl
  | _, _, .no h => by rw [List.length_cons, List.length_cons, h.len]
  | _, _, .yes _ h => by rw [List.length_cons, List.length_cons, h.len]
theorem EnvR.get {d : D} : ∀ {e : EnvD} {σ : L2.St} {i : Nat}, EnvR c S I e σ → gt e i = some d → ∃ v, σ[i]? = some (some v) ∧ Rep c S I d v
  | _, _, _, .nil, h => by simp [gt] at h
  | _, _, 0, .no _, h => by simp [gt] at h
  | _, _, 0, .yes r _, h => by
    simp only [gt, Option.some.injEq] at h
    subst h
    exact ⟨_, rfl, r⟩
  | _, _, i + 1, .no q, h => by simpa using q.get (i := i) (by simpa [gt] using h)
  | _, _, i + 1, .yes _ q, h => by simpa using q.get (i := i) (by simpa [gt] using h)
theorem EnvR.put {d : D} {v : V} (r : Rep c S I d v) : ∀ {e : EnvD} {σ : L2.St} (i : Nat), EnvR c S I e σ → EnvR c S I (st e i (some d)) (σ.set i (some v))
  | _, _, _, .nil => .nil
  | _, _, 0, .no h => .yes r h
  | _, _, 0, .yes _ h => .yes r h
  | _, _, i + 1, .no h => .no (EnvR.put r i h)
  | _, _, i + 1, .yes q h => .yes q (EnvR.put r i h)
theorem EnvR.clr {x : Option V} : ∀ {e : EnvD} {σ : L2.St} (i : Nat), EnvR c S I e σ → EnvR c S I (st e i Option.none) (σ.set i x)
  | _, _, _, .nil => .nil
  | _, _, 0, .no h => .no h
  | _, _, 0, .yes _ h => .no h
  | _, _, i + 1, .no h => .no (EnvR.clr i h)
  | _, _, i + 1, .yes q h => .yes q (EnvR.clr i h)
/-- comprehension names are gone -/
def wipeE (e : EnvD) : List Nat → EnvD
  | [] => e
  | v :: vs => st (wipeE e vs) v Option.none
theorem EnvR.wipe : ∀ (vs : List Nat) {e : EnvD} {σ : L2.St}, EnvR c S I e σ → EnvR c S I (wipeE e vs) (L2.wipe σ vs)
  | [], _, _, h => h
  | v :: vs, _, _, h => EnvR.clr v (EnvR.wipe vs h)
theorem EnvR.init (m : Nat) : ∀ {ds : List D} {vs : List V}, Reps c S I ds vs → EnvR c S I (ds.map some ++ List.replicate m Option.none) (vs.map some ++ List.replicate m Option.none)
  | _, _, .nil => by
    induction m with
    | zero => exact .nil
    | succ m ih => exact .no ih
  | _, _, .cons r rs => .yes r (EnvR.init m rs)
end
/-- an error as it leaves -/
def ErrAt (c : Ctx) (S : Option SA) (I : Hp) (err : D) (cls : Value) (d : Option Addr) : Prop := ∃ n fs ds xs, err = .err n fs ds ∧ cls = .ref (c.cl n) ∧ ErF I d fs xs ∧ Reps c S I ds xs ∧ n ∈ c.es
theorem ErrAt.mono {c : Ctx} {S : Option SA} {I I' : Hp} (e : Same I I') {err : D} {cls : Value} {d : Option Addr} (h : ErrAt c S I err cls d) : ErrAt c S I' err cls d := by
  obtain ⟨n, fs, ds, xs, h1, h2, h3, h4⟩ := h
  exact ⟨n, fs, ds, xs, h1, h2, h3.mono e, h4.1.mono e, h4.2⟩
end DL

set_option Elab.async false
set_option linter.all false
set_option maxRecDepth 100000
set_option maxHeartbeats 4000000
/-! A1: wishes over data (weakest preconditions), and that a reading keeps them: expressions. -/
namespace DL
open PySem PyProof.Rows L2
/-- the most draws that are mixed -/
def LIM : Nat := 2 ^ 20000
/-- a result: a piece of data, or a new thing that nobody holds yet -/
inductive Rs where
  | v (d : D) | n (nd : Nd)
abbrev QD := D → Mu → Prop
abbrev QR := Rs → Mu → Prop
abbrev WE := EnvD → Mu → QD → QD → Prop
abbrev WT := EnvD → Mu → (Bool → Mu → Prop) → QD → Prop
abbrev WA := EnvD → Mu → (List D → Mu → Prop) → QD → Prop
abbrev WO := EnvD → Mu → (Option Int → Mu → Prop) → QD → Prop
abbrev WOp := D → D → Mu → QR → QD → Prop
abbrev WU := D → Mu → QR → QD → Prop
abbrev WC := List D → Mu → QR → QD → Prop
abbrev WM := D → List D → Mu → QR → QD → Prop
/-- a def -/
abbrev WP := List D → Mu → QD → QD → Prop
/-- a new thing is known from now on (false), or a cell (true) -/
def sett : Bool → QD → QR
  | _, Q, .v d, μ => Q d μ
  | false, Q, .n nd, μ => Q nd.frz μ
  | true, Q, .n nd, μ => ∀ p, μ p = Option.none → Q (.cell p) (up μ p nd)
/-! ### wishes -/
def wV (i : Nat) : WE := fun e μ Q _ => match gt e i with
  | some d => Q d μ
  | Option.none => False
def wK (d : D) : WE := fun _ μ Q _ => Q d μ
def wOp (m : Bool) (o : WOp) (a b : WE) : WE := fun e μ Q X => a e μ (fun x μ1 => b e μ1 (fun y μ2 => o x y μ2 (sett m Q) X) X) X
def wUn (m : Bool) (o : WU) (a : WE) : WE := fun e μ Q X => a e μ (fun x μ1 => o x μ1 (sett m Q) X) X
def waNil : WA := fun _ μ Q _ => Q [] μ
def waCons (a : WE) (r : WA) : WA := fun e μ Q X => a e μ (fun x μ1 => r e μ1 (fun xs μ2 => Q (x :: xs) μ2) X) X
def wTup (a : WA) : WE := fun e μ Q X => a e μ (fun xs μ1 => xs.length ≤ sizeLine ∧ Q (.tup xs) μ1) X
def wLst (m : Bool) (a : WA) : WE := fun e μ Q X => a e μ (fun xs μ1 => xs.length ≤ sizeLine ∧ sett m Q (.n (.list xs)) μ1) X
def wCb (m : Bool) (o : WC) (a : WA) : WE := fun e μ Q X => a e μ (fun xs μ1 => o xs μ1 (sett m Q) X) X
/-- tests -/
def wTst (a : WE) : WT := fun e μ Q X => a e μ (fun x μ1 => match x with
  | .bool b => Q b μ1
  | _ => False) X
def wNotT (t : WT) : WT := fun e μ Q X => t e μ (fun b μ1 => Q (!b) μ1) X
def wAndT (t u : WT) : WT := fun e μ Q X => t e μ (fun b μ1 => if b = true then u e μ1 Q X else Q false μ1) X
def wOrT (t u : WT) : WT := fun e μ Q X => t e μ (fun b μ1 => if b = true then Q true μ1 else u e μ1 Q X) X
def wIf (t : WT) (a b : WE) : WE := fun e μ Q X => t e μ (fun k μ1 => if k = true then a e μ1 Q X else b e μ1 Q X) X
def wAnd (a b : WE) : WE := fun e μ Q X => a e μ (fun x μ1 => match x with
  | .bool k => if k = true then b e μ1 Q X else Q (.bool false) μ1
  | _ => False) X
def wOr (a b : WE) : WE := fun e μ Q X => a e μ (fun x μ1 => match x with
  | .bool k => if k = true then Q (.bool true) μ1 else b e μ1 Q X
  | _ => False) X
def wNot (a : WE) : WE := fun e μ Q X => a e μ (fun x μ1 => match x with
  | .bool k => Q (.bool (!k)) μ1
  | _ => False) X
def woNone : WO := fun _ μ Q _ => Q Option.none μ
def woSome (a : WE) : WO := fun e μ Q X => a e μ (fun x μ1 => match x with
  | .int i => Q (some i) μ1
  | _ => False) X
def wSl (m : Bool) (o : D → Option Int → Option Int → Mu → QR → QD → Prop) (a : WE) (l h : WO) : WE := fun e μ Q X => a e μ (fun x μ1 => l e μ1 (fun lo μ2 => h e μ2 (fun hi μ3 => o x lo hi μ3 (sett m Q) X) X) X) X
/-! ### readings -/
section
variable (c : Ctx) (W : WX) (S : Option SA) (F : Hp) (n : Nat) (I : Hp)
def RsR (S : Option SA) (F : Hp) (I : Hp) (μ : Mu) (H : Hp) : Rs → V → Prop
  | .v d, v => Rep c S I d v
  | .n nd, v => ∃ l o, v = .ref l ∧ H l = some o ∧ NdR c S I nd o ∧ I l = Option.none ∧ μ l = Option.none ∧ (∀ a, S = some a → ¬ Cell a l) ∧ F l = Option.none
def QV (Qd : QD) (Q : VK) : Prop := ∀ d μ' v I' H', Qd d μ' → Same I I' → Wd c S F n I' μ' H' → Rep c S I' d v → Q v H'
def QVR (Qd : QR) (Q : VK) : Prop := ∀ r μ' v I' H', Qd r μ' → Same I I' → Wd c S F n I' μ' H' → RsR c S F I' μ' H' r v → Q v H'
def QVA (Qd : List D → Mu → Prop) (Q : List V → Hp → Prop) : Prop := ∀ ds μ' vs I' H', Qd ds μ' → Same I I' → Wd c S F n I' μ' H' → Reps c S I' ds vs → Q vs H'
def QVB {α : Type} (Qd : α → Mu → Prop) (Q : α → Hp → Prop) : Prop := ∀ b μ' I' H', Qd b μ' → Same I I' → Wd c S F n I' μ' H' → Q b H'
def XV (σ : L2.St) (Xd : QD) : Prop := ∀ d μ' cls dx I' H', Xd d μ' → Same I I' → Wd c S F n I' μ' H' → ErrAt c S I' d cls dx → W cls dx σ H'
end
section
variable {c : Ctx} {W : WX} {S : Option SA} {F : Hp} {n n' : Nat} {I I' : Hp} {σ : L2.St} {Xd : QD}
theorem XV.mono (h : XV c W S F n I σ Xd) (e : n' ≤ n) (s : Same I I') : XV c W S F n' I' σ Xd := fun d μ' cls dx I2 H2 p s2 w er => h d μ' cls dx I2 H2 p (s.trans s2) (w.up e) er
theorem QV.mono {Qd : QD} {Q : VK} (h : QV c S F n I Qd Q) (e : n' ≤ n) (s : Same I I') : QV c S F n' I' Qd Q := fun d μ' v I2 H2 p s2 w er => h d μ' v I2 H2 p (s.trans s2) (w.up e) er
theorem QVB.mono {α : Type} {Qd : α → Mu → Prop} {Q : α → Hp → Prop} (h : QVB c S F n I Qd Q) (e : n' ≤ n) (s : Same I I') : QVB c S F n' I' Qd Q := fun d μ' I2 H2 p s2 w => h d μ' I2 H2 p (s.trans s2) (w.up e)
theorem RsR.new {μ : Mu} {H : Hp} {p : Addr} {u : HO} {nd : Nd} (w : Wd c S F n I μ H) (h : H p = Option.none) (r : NdR c S I nd u) : Wd c S F n I μ (upd H p u) ∧ RsR c S F I μ (upd H p u) (.n nd) (.ref p) :=
  ⟨w.frame h, p, u, rfl, upd_same, r, (w.fresh h).1, (w.fresh h).2, w.no_cell h, w.nf h⟩
/-- a result settles -/
theorem settle {μ : Mu} {H : Hp} {r : Rs} {v : V} {m : Bool} {Q : QD} (w : Wd c S F n I μ H) (hr : RsR c S F I μ H r v) (h : sett m Q r μ) : ∃ d μ' I', Q d μ' ∧ Same I I' ∧ Wd c S F n I' μ' H ∧ Rep c S I' d v := by
  cases r with
  | v d => exact ⟨d, μ, I, (by cases m <;> exact h), Same.refl I, w, hr⟩
  | n nd =>
    obtain ⟨l, o, rfl, hl, nr, hi, hm, hc, hf⟩ := hr
    cases m with
    | false =>
      have sm : Same I (upd I l o) := same_new hi
      exact ⟨nd.frz, μ, upd I l o, h, sm, w.know hl hi hm hc hf nr.tx.tb, (nr.mono sm).frz upd_same⟩
    | true => exact ⟨.cell l, up μ l nd, I, h l hm, Same.refl I, w.own nr hl hi hc hf, .cell⟩
theorem QV.sett {m : Bool} {Qd : QD} {Q : VK} (h : QV c S F n I Qd Q) : QVR c S F n I (sett m Qd) Q := fun r μ' v I' H' p s w rr => by
  obtain ⟨d, μ2, I2, q, s2, w2, r2⟩ := settle w rr p
  exact h d μ2 v I2 H' q (s.trans s2) w2 r2
end
section
variable (c : Ctx) (W : WX) (k : Nat)
def ldE (w : WE) : TE := fun σ H Q => ∃ S F n I μ e Qd Xd, n + k ≤ LIM ∧ EnvR c S I e σ ∧ Wd c S F n I μ H ∧ w e μ Qd Xd ∧ QV c S F (n + k) I Qd Q ∧ XV c W S F (n + k) I σ Xd
def ldT (w : WT) : TT := fun σ H Q => ∃ S F n I μ e Qd Xd, n + k ≤ LIM ∧ EnvR c S I e σ ∧ Wd c S F n I μ H ∧ w e μ Qd Xd ∧ QVB c S F (n + k) I Qd Q ∧ XV c W S F (n + k) I σ Xd
def ldA (w : WA) : TA := fun σ H Q => ∃ S F n I μ e Qd Xd, n + k ≤ LIM ∧ EnvR c S I e σ ∧ Wd c S F n I μ H ∧ w e μ Qd Xd ∧ QVA c S F (n + k) I Qd Q ∧ XV c W S F (n + k) I σ Xd
def ldO (w : WO) : TO := fun σ H Q => ∃ S F n I μ e Qd Xd, n + k ≤ LIM ∧ EnvR c S I e σ ∧ Wd c S F n I μ H ∧ w e μ Qd Xd ∧ QVB c S F (n + k) I Qd Q ∧ XV c W S F (n + k) I σ Xd
/-- operations by values -/
def ld2 (o : WOp) (σ : L2.St) : R2 := fun x y H Q => ∃ S F n I μ dx dy Qd Xd, n + k ≤ LIM ∧ Wd c S F n I μ H ∧ Rep c S I dx x ∧ Rep c S I dy y ∧ o dx dy μ Qd Xd ∧ QVR c S F (n + k) I Qd Q ∧ XV c W S F (n + k) I σ Xd
def ld1 (o : WU) (σ : L2.St) : V → Hp → VK → Prop := fun x H Q => ∃ S F n I μ dx Qd Xd, n + k ≤ LIM ∧ Wd c S F n I μ H ∧ Rep c S I dx x ∧ o dx μ Qd Xd ∧ QVR c S F (n + k) I Qd Q ∧ XV c W S F (n + k) I σ Xd
def ldC (o : WC) (σ : L2.St) : List V → Hp → VK → Prop := fun xs H Q => ∃ S F n I μ ds Qd Xd, n + k ≤ LIM ∧ Wd c S F n I μ H ∧ Reps c S I ds xs ∧ o ds μ Qd Xd ∧ QVR c S F (n + k) I Qd Q ∧ XV c W S F (n + k) I σ Xd
def ldSl (o : D → Option Int → Option Int → Mu → QR → QD → Prop) (σ : L2.St) : V → Option Int → Option Int → Hp → VK → Prop := fun x lo hi H Q => ∃ S F n I μ d Qd Xd, n + k ≤ LIM ∧ Wd c S F n I μ H ∧ Rep c S I d x ∧ o d lo hi μ Qd Xd ∧ QVR c S F (n + k) I Qd Q ∧ XV c W S F (n + k) I σ Xd
end
/-! ### judgements -/
section
variable (X : Cx) (c : Ctx) (W : WX) (k : Nat)
abbrev GE (ex : Expr) (w : WE) : Prop := PE X ex (ldE c W k w)
abbrev GT (ex : Expr) (w : WT) : Prop := PT X ex (ldT c W k w)
abbrev GW (ex : Expr) (w : WT) : Prop := PW X ex (ldT c W k w)
abbrev GA (es : List Expr) (w : WA) : Prop := PA X es (ldA c W k w)
abbrev GO (ex : Option Expr) (w : WO) : Prop := PO X ex (ldO c W k w)
/-- an operation that keeps a wish -/
def Op2 (f : Value → Value → Sem Value) (o : WOp) : Prop := ∀ (pins : List (Addr × Obj)) (s : Shared) (σ : L2.St) (H : Hp) (x y : V) (v u : Value) (Q : VK), Inv X pins σ H s → RelV x v → RelV y u → ld2 c W k o σ x y H Q → wpAny (model X.prog X.w) X.A (f v u) (EP X pins σ Q) X.xe s
def Op1 (f : Value → Sem Value) (o : WU) : Prop := ∀ (pins : List (Addr × Obj)) (s : Shared) (σ : L2.St) (H : Hp) (x : V) (v : Value) (Q : VK), Inv X pins σ H s → RelV x v → ld1 c W k o σ x H Q → wpAny (model X.prog X.w) X.A (f v) (EP X pins σ Q) X.xe s
end
theorem _root_.L2.PE.imp {X : Cx} {ex : Expr} {t t' : TE} (h : PE X ex t) (i : ∀ σ H Q, t' σ H Q → t σ H Q) : PE X ex t' := ⟨fun pins s σ H Q J z => h.run pins s σ H Q J (i σ H Q z)⟩
theorem _root_.L2.PT.imp {X : Cx} {ex : Expr} {t t' : TT} (h : PT X ex t) (i : ∀ σ H Q, t' σ H Q → t σ H Q) : PT X ex t' := ⟨fun pins s σ H Q J z => h.run pins s σ H Q J (i σ H Q z)⟩
theorem _root_.L2.PW.imp {X : Cx} {ex : Expr} {t t' : TT} (h : PW X ex t) (i : ∀ σ H Q, t' σ H Q → t σ H Q) : PW X ex t' := ⟨fun wh pins s σ H Q J z => h.run wh pins s σ H Q J (i σ H Q z)⟩
theorem _root_.L2.PA.imp {X : Cx} {es : List Expr} {t t' : TA} (h : PA X es t) (i : ∀ σ H Q, t' σ H Q → t σ H Q) : PA X es t' := ⟨fun pos pins s σ H Q J z => h.run pos pins s σ H Q J (i σ H Q z)⟩
section
variable {X : Cx} {c : Ctx} {W : WX} {k ka kb kc ko : Nat} {a b d : Expr} {wa wb : WE} {o : WOp} {m : Bool} {pos : Pos} {es : List Expr} {wr : WA} {wt wu : WT}
theorem op2_of {f : Value → Value → Sem Value} {r : R2} (h : OpR X f r) (i : ∀ σ x y H Q, ld2 c W k o σ x y H Q → r x y H Q) : Op2 X c W k f o := fun pins s σ H x y v u Q J rx ry z => h pins s σ H x y v u Q J rx ry (i σ x y H Q z)
/-- two expressions in a row, as wishes -/
theorem ld_two {o : WOp} {σ : L2.St} {H : Hp} {Q : VK} (h : ldE c W (ka + (kb + ko)) (wOp m o wa wb) σ H Q) : ldE c W ka wa σ H fun x H1 => ldE c W kb wb σ H1 fun y H2 => ld2 c W ko o σ x y H2 Q := by
  obtain ⟨S, F, n, I, μ, e, Qd, Xd, hl, he, hw, h, q, x⟩ := h
  refine ⟨S, F, n, I, μ, e, _, Xd, by omega, he, hw, h, fun da μ1 va I1 H1 pa s1 w1 ra => ?_, x.mono (by omega) (Same.refl I)⟩
  refine ⟨S, F, n + ka, I1, μ1, e, _, Xd, by omega, he.mono s1, w1, pa, fun db μ2 vb I2 H2 pb s2 w2 rb => ?_, x.mono (by omega) s1⟩
  exact ⟨S, F, n + ka + kb, I2, μ2, da, db, _, Xd, by omega, w2, ra.mono s2, rb, pb, (q.mono (by omega) (s1.trans s2)).sett, x.mono (by omega) (s1.trans s2)⟩
theorem g_op {op : Operator} (ho : Op2 X c W ko (binaryOp op) o) (ha : GE X c W ka a wa) (hb : GE X c W kb b wb) : GE X c W (ka + (kb + ko)) (.BinOp a op b pos) (wOp m o wa wb) :=
  ⟨fun pins s σ H Q J h => wpAny_BinOp (binT ha hb J (ld_two h) fun v u s2 x y H2 I2 rx ry q => ho pins s2 σ H2 x y v u Q I2 rx ry q)⟩
theorem ld_un {o : WU} {σ : L2.St} {H : Hp} {Q : VK} (h : ldE c W (ka + ko) (wUn m o wa) σ H Q) : ldE c W ka wa σ H fun x H1 => ld1 c W ko o σ x H1 Q := by
  obtain ⟨S, F, n, I, μ, e, Qd, Xd, hl, he, hw, h, q, x⟩ := h
  refine ⟨S, F, n, I, μ, e, _, Xd, by omega, he, hw, h, fun da μ1 va I1 H1 pa s1 w1 ra => ?_, x.mono (by omega) (Same.refl I)⟩
  exact ⟨S, F, n + ka, I1, μ1, da, _, Xd, by omega, w1, ra, pa, (q.mono (by omega) s1).sett, x.mono (by omega) s1⟩
theorem g_un {op : UnaryOp} {o : WU} (ho : Op1 X c W ko (unaryOp op) o) (ha : GE X c W ka a wa) : GE X c W (ka + ko) (.UnaryOp op a pos) (wUn m o wa) :=
  ⟨fun pins s σ H Q J h => UnaryOp_ (thn (ha.run pins s σ H _ J (ld_un h)) fun v s1 ⟨x, H1, I1, r1, q1⟩ => ho pins s1 σ H1 x v Q I1 r1 q1)⟩
theorem g_cmp {op : CmpOp} (ho : Op2 X c W ko (compareOp op) o) (ha : GE X c W ka a wa) (hb : GE X c W kb b wb) (hm : behindInMarks op b = false) : GE X c W (ka + (kb + ko)) (.Compare a [op] [b] pos) (wOp m o wa wb) :=
  ⟨fun pins s σ H Q J h => wpAny_Compare1 (binT ha hb J (ld_two h) fun v u s2 x y H2 I2 rx ry q => ho pins s2 σ H2 x y v u Q I2 rx ry q) hm⟩
/-- a value as a test -/
theorem ld_tst {σ : L2.St} {H : Hp} {Q : Bool → Hp → Prop} (h : ldT c W k (wTst wa) σ H Q) : ldE c W k wa σ H fun x H' => ∃ k, x = .bl k ∧ Q k H' := by
  obtain ⟨S, F, n, I, μ, e, Qd, Xd, hl, he, hw, h, q, x⟩ := h
  refine ⟨S, F, n, I, μ, e, _, Xd, hl, he, hw, h, fun da μ1 va I1 H1 pa s1 w1 ra => ?_, x⟩
  cases ra <;> first | exact False.elim pa | exact ⟨_, rfl, q _ μ1 I1 H1 pa s1 w1⟩
theorem g_tcmp {op : CmpOp} (ho : Op2 X c W ko (compareOp op) o) (ha : GE X c W ka a wa) (hb : GE X c W kb b wb) (hm : behindInMarks op b = false) : GT X c W (ka + (kb + ko)) (.Compare a [op] [b] pos) (wTst (wOp false o wa wb)) := by
  refine ⟨fun pins s σ H Q J h => ?_⟩
  refine wpAny_isTrue_Compare1 (thn (ha.run pins s σ H _ J (ld_two (ld_tst h))) fun v s1 ⟨x, H1, I1, r1, q1⟩ => thn (hb.run pins s1 σ H1 _ I1 q1) fun u s2 ⟨y, H2, I2, r2, q2⟩ =>
    thn (ho pins s2 σ H2 x y v u _ I2 r1 r2 q2) fun cc s3 ⟨z, H3, I3, r3, k, e, q3⟩ => ?_) hm
  subst e
  cases r3
  exact wpAny_truthy_bool ⟨H3, I3, q3⟩
theorem g_tval (ha : GE X c W k a wa) (he : ∀ whole, isTrue a X.env whole = (do let v ← whole; standAt a.pos; holding [v] (truthy v)) := by intro _; rfl) : GT X c W k a (wTst wa) := (pt_val ha he).imp fun σ H Q h => ld_tst h
theorem g_tnot (ha : GT X c W k a wt) : GT X c W k (.UnaryOp .Not a pos) (wNotT wt) := (pt_not ha).imp fun σ H Q h => by
  obtain ⟨S, F, n, I, μ, e, Qd, Xd, hl, he, hw, h, q, x⟩ := h
  exact ⟨S, F, n, I, μ, e, _, Xd, hl, he, hw, h, fun b μ1 I1 H1 pb s1 w1 => q _ μ1 I1 H1 pb s1 w1, x⟩
theorem g_wand1 (ha : GT X c W k a wt) : GW X c W k (.BoolOp .And [a] pos) wt := pw_and1 ha
theorem g_wor1 (ha : GT X c W k a wt) : GW X c W k (.BoolOp .Or [a] pos) wt := pw_or1 ha
theorem ite_b {b : Bool} {A B A' B' : Prop} (h : if b = true then A else B) (h1 : b = true → A → A') (h2 : b = false → B → B') : if b = true then A' else B' := by
  cases b with
  | true => exact h1 rfl h
  | false => exact h2 rfl h
theorem g_wand {rest : List Expr} (ha : GT X c W ka a wt) (hb : GW X c W kb (.BoolOp .And (b :: rest) pos) wu) : GW X c W (ka + kb) (.BoolOp .And (a :: b :: rest) pos) (wAndT wt wu) := (pw_and ha hb).imp fun σ H Q h => by
  obtain ⟨S, F, n, I, μ, e, Qd, Xd, hl, he, hw, h, q, x⟩ := h
  refine ⟨S, F, n, I, μ, e, _, Xd, by omega, he, hw, h, fun b μ1 I1 H1 pb s1 w1 => ?_, x.mono (by omega) (Same.refl I)⟩
  exact ite_b pb (fun _ h => ⟨S, F, n + ka, I1, μ1, e, Qd, Xd, by omega, he.mono s1, w1, h, q.mono (by omega) s1, x.mono (by omega) s1⟩) fun _ h => q _ μ1 I1 H1 h s1 (w1.up (by omega))
theorem g_wor {rest : List Expr} (ha : GT X c W ka a wt) (hb : GW X c W kb (.BoolOp .Or (b :: rest) pos) wu) : GW X c W (ka + kb) (.BoolOp .Or (a :: b :: rest) pos) (wOrT wt wu) := (pw_or ha hb).imp fun σ H Q h => by
  obtain ⟨S, F, n, I, μ, e, Qd, Xd, hl, he, hw, h, q, x⟩ := h
  refine ⟨S, F, n, I, μ, e, _, Xd, by omega, he, hw, h, fun b μ1 I1 H1 pb s1 w1 => ?_, x.mono (by omega) (Same.refl I)⟩
  exact ite_b pb (fun _ h => q _ μ1 I1 H1 h s1 (w1.up (by omega))) fun _ h => ⟨S, F, n + ka, I1, μ1, e, Qd, Xd, by omega, he.mono s1, w1, h, q.mono (by omega) s1, x.mono (by omega) s1⟩
theorem g_pt (h : GW X c W k a wt) : GT X c W k a wt := h.pt
/-! values by and, or, not, if -/
theorem g_one {op} (h : GE X c W k a wa) : GE X c W k (.BoolOp op [a] pos) wa := pe_one h
theorem g_and {rest : List Expr} (ha : GE X c W ka a wa) (hb : GE X c W kb (.BoolOp .And (b :: rest) pos) wb) : GE X c W (ka + kb) (.BoolOp .And (a :: b :: rest) pos) (wAnd wa wb) := L2.PE.imp (pe_and ha hb) fun σ H Q h => by
  obtain ⟨S, F, n, I, μ, e, Qd, Xd, hl, he, hw, h, q, x⟩ := h
  refine ⟨S, F, n, I, μ, e, _, Xd, by omega, he, hw, h, fun da μ1 va I1 H1 pa s1 w1 ra => ?_, x.mono (by omega) (Same.refl I)⟩
  cases ra <;> first | exact False.elim pa | refine ⟨_, rfl, ite_b pa (fun _ h => ⟨S, F, n + ka, I1, μ1, e, Qd, Xd, by omega, he.mono s1, w1, h, q.mono (by omega) s1, x.mono (by omega) s1⟩) fun _ h => q _ μ1 _ I1 H1 h s1 (w1.up (by omega)) .bool⟩
theorem g_not (ha : GE X c W k a wa) : GE X c W k (.UnaryOp .Not a pos) (wNot wa) := L2.PE.imp (pe_not ha) fun σ H Q h => by
  obtain ⟨S, F, n, I, μ, e, Qd, Xd, hl, he, hw, h, q, x⟩ := h
  refine ⟨S, F, n, I, μ, e, _, Xd, by omega, he, hw, h, fun da μ1 va I1 H1 pa s1 w1 ra => ?_, x⟩
  cases ra <;> first | exact False.elim pa | exact ⟨_, rfl, q _ μ1 _ I1 H1 pa s1 w1 .bool⟩
theorem g_if (hc : GT X c W kc d wt) (ha : GE X c W ka a wa) (hb : GE X c W kb b wb) : GE X c W (kc + (ka + kb)) (.IfExp d a b pos) (wIf wt wa wb) := L2.PE.imp (pe_ifExp hc ha hb) fun σ H Q h => by
  obtain ⟨S, F, n, I, μ, e, Qd, Xd, hl, he, hw, h, q, x⟩ := h
  refine ⟨S, F, n, I, μ, e, _, Xd, by omega, he, hw, h, fun b μ1 I1 H1 pb s1 w1 => ?_, x.mono (by omega) (Same.refl I)⟩
  exact ite_b pb (fun _ h => ⟨S, F, n + kc, I1, μ1, e, Qd, Xd, by omega, he.mono s1, w1, h, q.mono (by omega) s1, x.mono (by omega) s1⟩) fun _ h => ⟨S, F, n + kc, I1, μ1, e, Qd, Xd, by omega, he.mono s1, w1, h, q.mono (by omega) s1, x.mono (by omega) s1⟩
/-! names, constants -/
theorem g_var {i : Nat} {x : Str} (h : PE X (.Name x pos) (tVar i)) : GE X c W 0 (.Name x pos) (wV i) := h.imp fun σ H Q h => by
  obtain ⟨S, F, n, I, μ, e, Qd, Xd, hl, he, hw, h, q, x⟩ := h
  unfold wV at h
  cases hg : gt e i with
  | none =>
    rw [hg] at h
    exact h.elim
  | some d =>
    rw [hg] at h
    obtain ⟨v, h1, h2⟩ := he.get hg
    exact ⟨v, h1, q d μ v I H h (Same.refl I) hw h2⟩
theorem g_con {ex : Expr} {v : V} {d : D} (h : PE X ex (tC v)) (r : ∀ S I, Rep c S I d v) : GE X c W 0 ex (wK d) := h.imp fun σ H Q h => by
  obtain ⟨S, F, n, I, μ, e, Qd, Xd, hl, he, hw, h, q, x⟩ := h
  exact q d μ v I H h (Same.refl I) hw (r S I)
theorem g_int {i j p} : GE X c W 0 (.Constant (.int i) j p) (wK (.int i)) := g_con pe_int fun _ _ => .int
theorem g_bl {i j p} : GE X c W 0 (.Constant (.bool i) j p) (wK (.bool i)) := g_con pe_bl fun _ _ => .bool
theorem g_str {i j p} : GE X c W 0 (.Constant (.str i) j p) (wK (.str i)) := g_con pe_str fun _ _ => .str
theorem g_non {j p} : GE X c W 0 (.Constant .none j p) (wK .none) := g_con pe_non fun _ _ => .none
/-! arguments -/
theorem ga_nil : GA X c W 0 [] waNil := L2.PA.imp pa_nil fun σ H Q h => by
  obtain ⟨S, F, n, I, μ, e, Qd, Xd, hl, he, hw, h, q, x⟩ := h
  exact q [] μ [] I H h (Same.refl I) hw .nil
theorem ld_cons {σ : L2.St} {H : Hp} {Q : List V → Hp → Prop} (h : ldA c W (ka + kb) (waCons wa wr) σ H Q) : tCons (ldE c W ka wa) (ldA c W kb wr) σ H Q := by
  obtain ⟨S, F, n, I, μ, e, Qd, Xd, hl, he, hw, h, q, x⟩ := h
  refine ⟨S, F, n, I, μ, e, _, Xd, by omega, he, hw, h, fun da μ1 va I1 H1 pa s1 w1 ra => ?_, x.mono (by omega) (Same.refl I)⟩
  refine ⟨S, F, n + ka, I1, μ1, e, _, Xd, by omega, he.mono s1, w1, pa, fun ds μ2 vs I2 H2 pb s2 w2 rb => ?_, x.mono (by omega) s1⟩
  exact q _ μ2 _ I2 H2 pb (s1.trans s2) (w2.up (by omega)) (.cons (ra.mono s2) rb)
theorem ga_cons (ha : GE X c W ka a wa) (hr : GA X c W kb es wr) (hs : starEach (a :: es) X.env = (false, eval a X.env) :: starEach es X.env := by rfl) : GA X c W (ka + kb) (a :: es) (waCons wa wr) := L2.PA.imp (pa_cons ha hr hs) fun σ H Q h => ld_cons h
/-! displays -/
theorem g_tup {x1} (h : GA X c W k es wr) : GE X c W k (.Tuple es x1 pos) (wTup wr) := L2.PE.imp (pe_tup h) fun σ H Q h => by
  obtain ⟨S, F, n, I, μ, e, Qd, Xd, hl, he, hw, h, q, x⟩ := h
  refine ⟨S, F, n, I, μ, e, _, Xd, hl, he, hw, h, fun ds μ1 vs I1 H1 ⟨hz, pa⟩ s1 w1 ra => ?_, x⟩
  refine ⟨by rw [← ra.length]; exact hz, fun p hp => ?_⟩
  have sm : Same I1 (upd I1 p (.tup vs)) := same_new (w1.fresh hp).1
  exact q _ μ1 _ _ _ pa (s1.trans sm) (w1.new hp) (.tup (.inl upd_same) (ra.mono sm))
theorem g_lst (h : GA X c W k es wr) : GE X c W k (.List es pos) (wLst m wr) := L2.PE.imp (pe_lst h) fun σ H Q h => by
  obtain ⟨S, F, n, I, μ, e, Qd, Xd, hl, he, hw, h, q, x⟩ := h
  refine ⟨S, F, n, I, μ, e, _, Xd, hl, he, hw, h, fun ds μ1 vs I1 H1 ⟨hz, pa⟩ s1 w1 ra => ?_, x⟩
  refine ⟨by rw [← ra.length]; exact hz, fun p hp => ?_⟩
  obtain ⟨w2, r2⟩ := RsR.new w1 hp (.list ra)
  exact (q.sett (m := m)) _ μ1 _ _ _ pa s1 w2 r2
/-! built-ins called by their names -/
theorem ld_cb {o : WC} {σ : L2.St} {H : Hp} {Q : VK} (h : ldE c W (ka + ko) (wCb m o wr) σ H Q) : ldA c W ka wr σ H fun xs H1 => ldC c W ko o σ xs H1 Q := by
  obtain ⟨S, F, n, I, μ, e, Qd, Xd, hl, he, hw, h, q, x⟩ := h
  refine ⟨S, F, n, I, μ, e, _, Xd, by omega, he, hw, h, fun ds μ1 vs I1 H1 pa s1 w1 ra => ?_, x.mono (by omega) (Same.refl I)⟩
  exact ⟨S, F, n + ka, I1, μ1, ds, _, Xd, by omega, w1, ra, pa, (q.mono (by omega) s1).sett, x.mono (by omega) s1⟩
/-- a built-in that keeps a wish -/
def CbW (X : Cx) (c : Ctx) (f : Value) (o : WC) : Prop := ∃ r, CallR X f r ∧ ∀ W σ xs H Q, ldC c W 0 o σ xs H Q → r xs H Q
theorem g_cb {x : Str} {id : String} {p : Pos} {o : WC} (hc : CbW X c (.builtin id) o) (hg : Gl X x) (hm : X.mg x = none) (hv : bootBuiltins x = some (.builtin id)) (ha : GA X c W k (a :: es) wr) (hn : x ≠ "__name__" := by decide) (hdb : (x == ("__debug__" : Str)) = false := by decide)
    (he : starEach (a :: es) X.env = (false, eval a X.env) :: starEach es X.env := by rfl) (hpl : (backTo pos (starEach es X.env)).any (·.1) = false := by rfl) : GE X c W (k + 0) (.Call (.Name x p) (a :: es) [] pos) (wCb m o wr) := by
  obtain ⟨r, h1, h2⟩ := hc
  refine L2.PE.imp (pe_callB h1 hg hm hv ha hn hdb he hpl) fun σ H Q h => ?_
  have h3 := ld_cb h
  obtain ⟨S, F, n, I, μ, e, Qd, Xd, hl, he, hw, h, q, x⟩ := h3
  exact ⟨S, F, n, I, μ, e, Qd, Xd, hl, he, hw, h, fun ds μ' vs I' H' p s w r => h2 W σ vs H' Q (q ds μ' vs I' H' p s w r), x⟩
theorem g_cty {x : Str} {T : String} {p : Pos} {o : WC} (hc : CbW X c (.type T) o) (hg : Gl X x) (hm : X.mg x = none) (hv : bootBuiltins x = some (.type T)) (ha : GA X c W k (a :: es) wr) (hn : x ≠ "__name__" := by decide) (hdb : (x == ("__debug__" : Str)) = false := by decide)
    (he : starEach (a :: es) X.env = (false, eval a X.env) :: starEach es X.env := by rfl) (hpl : (backTo pos (starEach es X.env)).any (·.1) = false := by rfl) : GE X c W (k + 0) (.Call (.Name x p) (a :: es) [] pos) (wCb m o wr) := by
  obtain ⟨r, h1, h2⟩ := hc
  refine L2.PE.imp (pe_callTy h1 hg hm hv ha hn hdb he hpl) fun σ H Q h => ?_
  have h3 := ld_cb h
  obtain ⟨S, F, n, I, μ, e, Qd, Xd, hl, he, hw, h, q, x⟩ := h3
  exact ⟨S, F, n, I, μ, e, Qd, Xd, hl, he, hw, h, fun ds μ' vs I' H' p s w r => h2 W σ vs H' Q (q ds μ' vs I' H' p s w r), x⟩
/-! slices -/
theorem go_none : GO X c W 0 none woNone := ⟨fun pins s σ H Q J h => po_none.run pins s σ H Q J (by
  obtain ⟨S, F, n, I, μ, e, Qd, Xd, hl, he, hw, h, q, x⟩ := h
  exact q _ μ I H h (Same.refl I) hw)⟩
theorem go_some (ha : GE X c W k a wa) : GO X c W k (some a) (woSome wa) := ⟨fun pins s σ H Q J h => (po_some ha).run pins s σ H Q J (by
  obtain ⟨S, F, n, I, μ, e, Qd, Xd, hl, he, hw, h, q, x⟩ := h
  refine ⟨S, F, n, I, μ, e, _, Xd, hl, he, hw, h, fun da μ1 va I1 H1 pa s1 w1 ra => ?_, x⟩
  cases ra <;> first | exact False.elim pa | exact ⟨_, rfl, q _ μ1 I1 H1 pa s1 w1⟩)⟩
def SlW (X : Cx) (c : Ctx) (o : D → Option Int → Option Int → Mu → QR → QD → Prop) : Prop := ∃ r, SlR X r ∧ ∀ W σ x lo hi H Q, ldSl c W 0 o σ x lo hi H Q → r x lo hi H Q
theorem g_sl {lo hi : Option Expr} {wl wh : WO} {p2 : Pos} {o : D → Option Int → Option Int → Mu → QR → QD → Prop} (ho : SlW X c o) (ha : GE X c W k a wa) (hl : GO X c W ka lo wl) (hh : GO X c W kb hi wh) : GE X c W (k + (ka + kb)) (.Subscript a (.Slice lo hi none p2) pos) (wSl m o wa wl wh) := by
  obtain ⟨r, h1, h2⟩ := ho
  refine L2.PE.imp (pe_slice h1 ha hl hh) fun σ H Q h => ?_
  obtain ⟨S, F, n, I, μ, e, Qd, Xd, hl, he, hw, h, q, x⟩ := h
  refine ⟨S, F, n, I, μ, e, _, Xd, by omega, he, hw, h, fun da μ1 va I1 H1 pa s1 w1 ra => ?_, x.mono (by omega) (Same.refl I)⟩
  refine ⟨S, F, n + k, I1, μ1, e, _, Xd, by omega, he.mono s1, w1, pa, fun lo μ2 I2 H2 pb s2 w2 => ?_, x.mono (by omega) s1⟩
  refine ⟨S, F, n + k + ka, I2, μ2, e, _, Xd, by omega, he.mono (s1.trans s2), w2, pb, fun hi μ3 I3 H3 pc s3 w3 => ?_, x.mono (by omega) (s1.trans s2)⟩
  exact h2 W σ _ _ _ _ _ ⟨S, F, n + k + ka + kb, I3, μ3, da, _, Xd, by omega, w3, ra.mono (s2.trans s3), pc, (q.mono (by omega) ((s1.trans s2).trans s3)).sett, x.mono (by omega) ((s1.trans s2).trans s3)⟩
end
end DL

set_option Elab.async false
set_option linter.all false
set_option maxRecDepth 100000
set_option maxHeartbeats 4000000
/-! A2: operations on data, and that the layer's rules keep them. -/
namespace DL
open PySem PyProof.Rows L2
abbrev iL (ns : List Int) : List D := ns.map D.int
def ndL : Option Nd → Option (List D)
  | some (.list ds) => some ds
  | _ => Option.none
/-- a list's items -/
def seqL (μ : Mu) : D → Option (List D)
  | .list ds => some ds
  | .cell p => ndL (μ p)
  | _ => Option.none
/-- a list's or a tuple's items -/
def sqD (μ : Mu) : D → Option (List D)
  | .tup ds => some ds
  | .script ns => some (iL ns)
  | .list ds => some ds
  | .cell p => ndL (μ p)
  | _ => Option.none
section
variable {c : Ctx} {S : Option SA} {F : Hp} {n : Nat} {I H : Hp} {μ : Mu} {d : D} {v : V} {ds : List D}
theorem ndL_some {x : Option Nd} (h : ndL x = some ds) : x = some (.list ds) := by
  unfold ndL at h
  split at h
  · cases h
    rfl
  · cases h
theorem Wd.cellL (w : Wd c S F n I μ H) {p : Addr} (h : ndL (μ p) = some ds) : ∃ xs, H p = some (.lst xs) ∧ Reps c S I ds xs := by
  obtain ⟨_, o, r, h2⟩ := w.m p _ (ndL_some h)
  cases r with
  | list r => exact ⟨_, h2, r⟩
theorem seqL_rep (w : Wd c S F n I μ H) (r : Rep c S I d v) (h : seqL μ d = some ds) : ∃ l xs, v = .ref l ∧ H l = some (.lst xs) ∧ Reps c S I ds xs := by
  cases r with
  | list g r =>
    cases h
    exact ⟨_, _, rfl, w.lst g, r⟩
  | cell =>
    obtain ⟨xs, h1, h2⟩ := w.cellL h
    exact ⟨_, xs, rfl, h1, h2⟩
  | _ => cases h
theorem sqD_rep (w : Wd c S F n I μ H) (r : Rep c S I d v) (h : sqD μ d = some ds) : ∃ l xs, v = .ref l ∧ (SqL c.K H l xs ∨ SqT c.K H l xs) ∧ Reps c S I ds xs := by
  cases r with
  | list g r =>
    cases h
    exact ⟨_, _, rfl, .inl (SqL.of (w.lst g)), r⟩
  | tup g r =>
    cases h
    exact ⟨_, _, rfl, .inr (w.tupH g), r⟩
  | script g =>
    cases h
    exact ⟨_, _, rfl, .inl (w.seqH g), Reps.of_ints⟩
  | cell =>
    obtain ⟨xs, h1, h2⟩ := w.cellL h
    exact ⟨_, xs, rfl, .inl (SqL.of h1), h2⟩
  | _ => cases h
end
/-! ### + - * // % ** -/
def oAdd : WOp := fun x y μ Q _ => match x with
  | .int i => (match y with
    | .int j => Q (.v (.int (i + j))) μ
    | _ => False)
  | .str a => (match y with
    | .str b => a.length + b.length ≤ sizeLine ∧ Q (.v (.str (a ++ b))) μ
    | _ => False)
  | .tup a => (match y with
    | .tup b => a.length + b.length ≤ sizeLine ∧ Q (.v (.tup (a ++ b))) μ
    | _ => False)
  | x => (match seqL μ x, seqL μ y with
    | some a, some b => a.length + b.length ≤ sizeLine ∧ Q (.n (.list (a ++ b))) μ
    | _, _ => False)
def oInt2 (C : Int → Int → Prop) (f : Int → Int → D) : WOp := fun x y μ Q _ => match x with
  | .int i => (match y with
    | .int j => C i j ∧ Q (.v (f i j)) μ
    | _ => False)
  | _ => False
def oSub : WOp := oInt2 (fun _ _ => True) fun i j => .int (i - j)
def oFdiv : WOp := oInt2 CDivW fun i j => .int (i / j)
def oMod : WOp := oInt2 (fun _ j => 0 < j) fun i j => .int (i % j)
def CPowW (i j : Int) : Prop := 0 ≤ j ∧ (Builtin.Int.intBits i : Int) * j ≤ 2 ^ 27
def oPow : WOp := oInt2 CPowW fun i j => .int (i ^ j.toNat)
def CMulU (i j : Int) : Prop := CMulX i j ∨ CMul i j
def oMul : WOp := fun x y μ Q _ => match x with
  | .int i => (match y with
    | .int j => CMulU i j ∧ Q (.v (.int (i * j))) μ
    | _ => False)
  | x => (match seqL μ x, y with
    | some a, .int k => -(2 ^ 63) ≤ k ∧ k < 2 ^ 63 ∧ a.length * k.toNat ≤ sizeLine ∧ Q (.n (.list (List.replicate k.toNat a).flatten)) μ
    | _, _ => False)
def oLt : WOp := oInt2 (fun _ _ => True) fun i j => .bool (decide (i < j))
def oLe : WOp := oInt2 (fun _ _ => True) fun i j => .bool (decide (i ≤ j))
def oGt : WOp := oInt2 (fun _ _ => True) fun i j => .bool (decide (j < i))
def oGe : WOp := oInt2 (fun _ _ => True) fun i j => .bool (decide (j ≤ i))
def oNeg : WU := fun x μ Q _ => match x with
  | .int i => Q (.v (.int (-i))) μ
  | _ => False
section
variable {X : Cx} {c : Ctx} {W : WX}
theorem op_pow27 : OpR X (binaryOp .Pow) (rI CPowW fun i j => .int (i ^ j.toNat)) := opI fun _ _ _ _ _ _ _ hc q => pow_int hc.1 hc.2 q
/-- two ints -/
theorem ld_int2 {C : Int → Int → Prop} {f : Int → Int → D} {g : Int → Int → V} (hg : ∀ S I i j, Rep c S I (f i j) (g i j)) {σ : L2.St} {x y : V} {H : Hp} {Q : VK} (h : ld2 c W 0 (oInt2 C f) σ x y H Q) : rI C g x y H Q := by
  obtain ⟨S, F, n, I, μ, dx, dy, Qd, Xd, hl, w, rx, ry, h, q, _⟩ := h
  cases rx <;> try exact h.elim
  cases ry <;> try exact h.elim
  exact ⟨_, _, rfl, rfl, h.1, q _ μ _ I H h.2 (Same.refl I) w (hg S I _ _)⟩
theorem rI0_of {g : Int → Int → V} {x y : V} {H : Hp} {Q : VK} (h : rI (fun _ _ => True) g x y H Q) : rI0 g x y H Q := by
  obtain ⟨i, j, h1, h2, _, h3⟩ := h
  exact ⟨i, j, h1, h2, h3⟩
theorem w_sub : Op2 X c W 0 (binaryOp .Sub) oSub := op2_of op_sub fun σ x y H Q h => rI0_of (ld_int2 (fun _ _ _ _ => .int) h)
theorem w_pow : Op2 X c W 0 (binaryOp .Pow) oPow := op2_of op_pow27 fun σ x y H Q h => ld_int2 (fun _ _ _ _ => .int) h
theorem w_gt : Op2 X c W 0 (compareOp .Gt) oGt := op2_of op_gt fun σ x y H Q h => rI0_of (ld_int2 (fun _ _ _ _ => .bool) h)
theorem w_neg : Op1 X c W 0 (unaryOp .USub) oNeg := fun pins s σ H x v Q J rx h => un_neg pins s σ H x v Q J rx (by
  obtain ⟨S, F, n, I, μ, dx, Qd, Xd, hl, w, rx, h, q, _⟩ := h
  cases rx <;> try exact h.elim
  exact ⟨_, rfl, q _ μ _ I H h (Same.refl I) w .int⟩)
theorem w_add (hK : X.K = c.K := by rfl) : Op2 X c W 0 (binaryOp .Add) oAdd := by
  obtain ⟨K, cl, tb, ns, es0⟩ := c
  cases hK
  refine op2_of (op_add.or (op_add_str.or (op_catA.or op_cat))) fun σ x y H Q h => ?_
  obtain ⟨S, F, n, I, μ, dx, dy, Qd, Xd, hl, w, rx, ry, h, q, _⟩ := h
  unfold oAdd at h
  split at h
  · split at h
    · cases rx
      cases ry
      exact .inl ⟨_, _, rfl, rfl, q _ μ _ I H h (Same.refl I) w .int⟩
    · exact h.elim
  · split at h
    · cases rx
      cases ry
      exact .inr (.inl ⟨_, _, rfl, rfl, h.1, q _ μ _ I H h.2 (Same.refl I) w .str⟩)
    · exact h.elim
  · split at h
    · rename_i a _ _ b
      cases rx with
      | @tup pa _ xs g1 r1 =>
        cases ry with
        | @tup pb _ ys g2 r2 =>
          refine .inr (.inr (.inl ⟨_, _, _, _, rfl, rfl, w.tupH g1, w.tupH g2, by rw [← r1.length, ← r2.length]; exact h.1, fun e => ?_, fun e1 e2 => ?_, fun e1 e2 p hp => ?_⟩))
          · subst e
            cases r1
            exact q _ μ _ I H h.2 (Same.refl I) w (.tup g2 r2)
          · subst e2
            cases r2
            have h2 := h.2
            rw [List.append_nil] at h2
            exact q _ μ _ I H h2 (Same.refl I) w (.tup g1 r1)
          · have sm : Same I (upd I p (.tup (xs ++ ys))) := same_new (w.fresh hp).1
            exact q _ μ _ _ _ h.2 sm (w.new hp) (.tup (.inl upd_same) ((r1.append r2).mono sm))
    · exact h.elim
  · split at h
    · rename_i _ _ _ _ _ _ e1 e2
      obtain ⟨l1, xs, rfl, h1, r1⟩ := seqL_rep w rx e1
      obtain ⟨l2, ys, rfl, h2, r2⟩ := seqL_rep w ry e2
      refine .inr (.inr (.inr ⟨_, _, _, _, rfl, rfl, h1, h2, by rw [← r1.length, ← r2.length]; exact h.1, fun p hp => ?_⟩))
      obtain ⟨w2, rr⟩ := RsR.new w hp (NdR.list (r1.append r2))
      exact q _ μ _ _ _ h.2 (Same.refl I) w2 rr
    · exact h.elim
theorem w_mul : Op2 X c W 0 (binaryOp .Mult) oMul := by
  refine op2_of (op_mulX.or (op_mul.or op_rep)) fun σ x y H Q h => ?_
  obtain ⟨S, F, n, I, μ, dx, dy, Qd, Xd, hl, w, rx, ry, h, q, _⟩ := h
  unfold oMul at h
  split at h
  · split at h
    · cases rx
      cases ry
      rcases h.1 with z | z
      · exact .inl ⟨_, _, rfl, rfl, z, q _ μ _ I H h.2 (Same.refl I) w .int⟩
      · exact .inr (.inl ⟨_, _, rfl, rfl, z, q _ μ _ I H h.2 (Same.refl I) w .int⟩)
    · exact h.elim
  · split at h
    · rename_i _ _ _ _ a k e1
      obtain ⟨l1, xs, rfl, h1, r1⟩ := seqL_rep w rx e1
      cases ry
      refine .inr (.inr ⟨_, _, _, rfl, rfl, h1, h.1, h.2.1, by rw [← r1.length]; exact h.2.2.1, fun p hp => ?_⟩)
      obtain ⟨w2, rr⟩ := RsR.new w hp (NdR.list (r1.flat k.toNat))
      exact q _ μ _ _ _ h.2.2.2 (Same.refl I) w2 rr
    · exact h.elim
end
/-! ### items, slices -/
theorem atI_rep {c : Ctx} {S : Option SA} {I : Hp} {ds : List D} {xs : List V} {i : Int} {d : D} (r : Reps c S I ds xs) (h : atI ds i = some d) : ∃ x, atI xs i = some x ∧ Rep c S I d x := by
  unfold atI at h ⊢
  rw [← r.length]
  cases q : ixN ds.length i with
  | none =>
    rw [q] at h
    cases h
  | some j =>
    rw [q] at h
    exact r.get h
def oIx : WOp := fun x y μ Q _ => match x with
  | .str z => (match y with
    | .int i => z.length ≤ sizeLine ∧ (match atI z.cps.toList i with
      | some ch => Q (.v (.str ⟨#[ch]⟩)) μ
      | Option.none => False)
    | _ => False)
  | x => (match sqD μ x, y with
    | some ds, .int i => (match atI ds i with
      | some d => Q (.v d) μ
      | Option.none => False)
    | _, _ => False)
/-- a slice's items -/
def cutD (xs : List D) (lo hi : Option Int) : List D := (xs.drop (HT.sIx xs.length 0 lo)).take (HT.sIx xs.length xs.length hi - HT.sIx xs.length 0 lo)
theorem cut_rep {c : Ctx} {S : Option SA} {I : Hp} {ds : List D} {xs : List V} (r : Reps c S I ds xs) (lo hi : Option Int) : Reps c S I (cutD ds lo hi) (cutV xs lo hi) := by
  unfold cutD cutV
  rw [r.length]
  exact (r.drop _).take _
def oSl : D → Option Int → Option Int → Mu → QR → QD → Prop := fun x lo hi μ Q _ => match x with
  | .str z => z.length ≤ sizeLine ∧ Q (.v (.str (cutS z lo hi))) μ
  | .tup ds => Q (.v (.tup (cutD ds lo hi))) μ
  | x => (match seqL μ x with
    | some ds => Q (.n (.list (cutD ds lo hi))) μ
    | Option.none => False)
section
variable {X : Cx} {c : Ctx} {W : WX} {k ka kb : Nat} {a b : Expr} {wa wb : WE} {m : Bool} {pos : Pos}
theorem ld_ix {σ : L2.St} {x y : V} {H : Hp} {Q : VK} (h : ld2 c W 0 oIx σ x y H Q) : rIx c.K x y H Q := by
  obtain ⟨S, F, n, I, μ, dx, dy, Qd, Xd, hl, w, rx, ry, h, q, _⟩ := h
  unfold oIx at h
  split at h
  · split at h
    · obtain ⟨hz, h⟩ := h
      split at h
      · rename_i ch e
        cases rx
        cases ry
        exact .inr (.inr ⟨_, _, _, rfl, rfl, hz, e, q _ μ _ I H h (Same.refl I) w .str⟩)
      · exact h.elim
    · exact h.elim
  · split at h
    · rename_i _ _ _ _ ds i e1
      split at h
      · rename_i d e2
        obtain ⟨l, xs, rfl, h1, r1⟩ := sqD_rep w rx e1
        cases ry
        obtain ⟨v, h3, h4⟩ := atI_rep r1 e2
        rcases h1 with h1 | h1
        · exact .inl ⟨_, _, _, _, rfl, rfl, h1, h3, q _ μ _ I H h (Same.refl I) w h4⟩
        · exact .inr (.inl ⟨_, _, _, _, rfl, rfl, h1, h3, q _ μ _ I H h (Same.refl I) w h4⟩)
      · exact h.elim
    · exact h.elim
theorem g_ix (ha : GE X c W ka a wa) (hb : GE X c W kb b wb) (hp : PlainIx b := by exact fun _ _ => rfl) (hK : X.K = c.K := by rfl) : GE X c W (ka + (kb + 0)) (.Subscript a b pos) (wOp m oIx wa wb) := by
  obtain ⟨K, cl, tb, ns, es0⟩ := c
  cases hK
  refine L2.PE.imp (pe_ix ix_seq ha hb hp) fun σ H Q h => ?_
  obtain ⟨S, F, n, I, μ, e, Qd, Xd, hl, he, hw, h, q, x⟩ := ld_two h
  refine ⟨S, F, n, I, μ, e, Qd, Xd, hl, he, hw, h, fun d μ1 v I1 H1 p s1 w1 r1 => ?_, x⟩
  obtain ⟨S, F, n, I, μ, e, Qd, Xd, hl, he, hw, h, q, x⟩ := q d μ1 v I1 H1 p s1 w1 r1
  exact ⟨S, F, n, I, μ, e, Qd, Xd, hl, he, hw, h, fun d μ1 v I1 H1 p s1 w1 r1 => ld_ix (q d μ1 v I1 H1 p s1 w1 r1), x⟩
theorem w_sl (hK : X.K = c.K := by rfl) : SlW X c oSl := by
  obtain ⟨K, cl, tb, ns, es0⟩ := c
  cases hK
  refine ⟨_, SlR.or sl_str (SlR.or sl_tupA sl_list), fun W σ x lo hi H Q h => ?_⟩
  obtain ⟨S, F, n, I, μ, d, Qd, Xd, hl, w, r, h, q, _⟩ := h
  unfold oSl at h
  split at h
  · cases r
    exact .inl ⟨_, rfl, h.1, q _ μ _ I H h.2 (Same.refl I) w .str⟩
  · cases r with
    | @tup a _ xs g r =>
      refine .inr (.inl ⟨_, _, rfl, w.tupH g, fun hw => ?_, fun hw p hp => ?_⟩)
      · refine q _ μ _ I H h (Same.refl I) w ?_
        have e1 : cutV xs lo hi = xs := by
          unfold cutV
          rw [hw.1, hw.2, List.drop_zero, Nat.sub_zero, List.take_length]
        have r4 := cut_rep r lo hi
        rw [e1] at r4
        exact .tup g r4
      · have sm : Same I (upd I p (.tup (cutV xs lo hi))) := same_new (w.fresh hp).1
        exact q _ μ _ _ _ h sm (w.new hp) (.tup (.inl upd_same) ((cut_rep r lo hi).mono sm))
  · split at h
    · rename_i ds e1
      obtain ⟨l1, xs, rfl, h1, r1⟩ := seqL_rep w r e1
      refine .inr (.inr ⟨_, _, rfl, SqL.of h1, fun p hp => ?_⟩)
      obtain ⟨w2, rr⟩ := RsR.new w hp (NdR.list (cut_rep r1 lo hi))
      exact q _ μ _ _ _ h (Same.refl I) w2 rr
    · exact h.elim
end
/-! ### built-ins by their names -/
def one (xs : List D) (f : D → Prop) : Prop := match xs with
  | [x] => f x
  | _ => False
def two (xs : List D) (f : D → D → Prop) : Prop := match xs with
  | [x, y] => f x y
  | _ => False
theorem one_cases {xs : List D} {f : D → Prop} (h : one xs f) : ∃ x, xs = [x] ∧ f x := by
  unfold one at h
  split at h
  · exact ⟨_, rfl, h⟩
  · exact h.elim
theorem two_cases {xs : List D} {f : D → D → Prop} (h : two xs f) : ∃ x y, xs = [x, y] ∧ f x y := by
  unfold two at h
  split at h
  · exact ⟨_, _, rfl, h⟩
  · exact h.elim
theorem reps1 {c : Ctx} {S : Option SA} {I : Hp} {x : D} {vs : List V} (r : Reps c S I [x] vs) : ∃ v, vs = [v] ∧ Rep c S I x v := by
  cases r with
  | cons h r =>
    cases r
    exact ⟨_, rfl, h⟩
theorem reps2 {c : Ctx} {S : Option SA} {I : Hp} {x y : D} {vs : List V} (r : Reps c S I [x, y] vs) : ∃ v u, vs = [v, u] ∧ Rep c S I x v ∧ Rep c S I y u := by
  cases r with
  | cons h r =>
    obtain ⟨u, rfl, h2⟩ := reps1 r
    exact ⟨_, u, rfl, h, h2⟩
def cbLen : WC := fun xs μ Q _ => one xs fun x => match x with
  | .str z => z.length ≤ sizeLine ∧ Q (.v (.int (z.length : Int))) μ
  | x => (match sqD μ x with
    | some ds => Q (.v (.int (ds.length : Int))) μ
    | Option.none => False)
def int1 (x : D) (f : Int → Prop) : Prop := match x with
  | .int i => f i
  | _ => False
theorem int1_cases {x : D} {f : Int → Prop} (h : int1 x f) : ∃ i, x = .int i ∧ f i := by
  unfold int1 at h
  split at h
  · exact ⟨_, rfl, h⟩
  · exact h.elim
def cbMin2 : WC := fun xs μ Q _ => two xs fun x y => int1 x fun i => int1 y fun j => Q (.v (.int (if j < i then j else i))) μ
def cbMax2 : WC := fun xs μ Q _ => two xs fun x y => int1 x fun i => int1 y fun j => Q (.v (.int (if j > i then j else i))) μ
def cbAbs : WC := fun xs μ Q _ => one xs fun x => int1 x fun i => Q (.v (.int (if i < 0 then -i else i))) μ
def cbList : WC := fun xs μ Q _ => one xs fun x => match sqD μ x with
  | some ds => Q (.n (.list ds)) μ
  | Option.none => False
def cbTup : WC := fun xs μ Q _ => one xs fun x => match sqD μ x with
  | some ds => Q (.v (.tup ds)) μ
  | Option.none => False
section
variable {X : Cx} {c : Ctx} {W : WX}
theorem cbw_of {f : Value} {o : WC} {r : List V → Hp → VK → Prop} (h : CallR X f r) (i : ∀ S F n I μ ds vs H Qd Xd Q, Wd c S F n I μ H → Reps c S I ds vs → o ds μ Qd Xd → QVR c S F n I Qd Q → r vs H Q) : CbW X c f o := ⟨r, h, fun W σ xs H Q h => by
  obtain ⟨S, F, n, I, μ, ds, Qd, Xd, hl, w, rs, h, q, _⟩ := h
  exact i S F n I μ ds xs H Qd Xd Q w rs h q⟩
theorem w_len (hK : X.K = c.K := by rfl) : CbW X c (.builtin "len") cbLen := by
  obtain ⟨K, cl, tb, ns, es0⟩ := c
  cases hK
  refine cbw_of call_len fun S F n I μ ds vs H Qd Xd Q w rs h q => ?_
  obtain ⟨x, rfl, g⟩ := one_cases h
  obtain ⟨v, rfl, rv⟩ := reps1 rs
  clear h rs
  revert g; intro h
  split at h
  · cases rv
    exact ⟨_, _, rfl, ⟨h.1, rfl⟩, q _ μ _ I H h.2 (Same.refl I) w .int⟩
  · split at h
    · rename_i ds e
      obtain ⟨l, xs, rfl, h1, r1⟩ := sqD_rep w rv e
      rw [r1.length] at h
      rcases h1 with h1 | h1
      · exact ⟨_, _, rfl, .inl ⟨_, h1, rfl⟩, q _ μ _ I H h (Same.refl I) w .int⟩
      · exact ⟨_, _, rfl, .inr ⟨_, h1, rfl⟩, q _ μ _ I H h (Same.refl I) w .int⟩
    · exact h.elim
theorem w_min2 (hc : X.calm = true := by rfl) : CbW X c (.builtin "min") cbMin2 := cbw_of (call_min2 hc) fun S F n I μ ds vs H Qd Xd Q w rs h q => by
  obtain ⟨x, y, rfl, h⟩ := two_cases h
  obtain ⟨i, rfl, h⟩ := int1_cases h
  obtain ⟨j, rfl, h⟩ := int1_cases h
  obtain ⟨v, u, rfl, rv, ru⟩ := reps2 rs
  cases rv
  cases ru
  exact ⟨i, j, rfl, q _ μ _ I H h (Same.refl I) w .int⟩
theorem w_tuple (hK : X.K = c.K := by rfl) : CbW X c (.type "tuple") cbTup := by
  obtain ⟨K, cl, tb, ns, es0⟩ := c
  cases hK
  refine cbw_of call_tuple_of fun S F n I μ ds vs H Qd Xd Q w rs h q => ?_
  obtain ⟨x, rfl, g⟩ := one_cases h
  obtain ⟨v, rfl, rv⟩ := reps1 rs
  clear h rs
  revert g; intro h
  split at h
  · rename_i ds e
    have new : ∀ {xs : List V}, Reps ⟨X.K, cl, tb, ns, es0⟩ S I ds xs → ∀ p, H p = Option.none → Q (.ref p) (upd H p (.tup xs)) := fun {xs} r1 p hp => by
      have sm : Same I (upd I p (.tup xs)) := same_new (w.fresh hp).1
      exact q _ μ _ _ _ h sm (w.new hp) (.tup (.inl upd_same) (r1.mono sm))
    cases rv with
    | list g r =>
      cases e
      exact ⟨_, _, rfl, .inl ⟨SqL.of (w.lst g), new r⟩⟩
    | tup g r =>
      cases e
      exact ⟨_, _, rfl, .inr ⟨w.tupH g, q _ μ _ I H h (Same.refl I) w (.tup g r)⟩⟩
    | script g =>
      cases e
      exact ⟨_, _, rfl, .inl ⟨w.seqH g, new Reps.of_ints⟩⟩
    | cell =>
      obtain ⟨xs, h1, h2⟩ := w.cellL e
      exact ⟨_, _, rfl, .inl ⟨SqL.of h1, new h2⟩⟩
    | _ => cases e
  · exact h.elim
end
/-! ### is None -/
def isNone : D → Bool
  | .none => true
  | _ => false
def oIsN : WOp := fun x y μ Q _ => match y with
  | .none => Q (.v (.bool (isNone x))) μ
  | _ => False
def oNotN : WOp := fun x y μ Q _ => match y with
  | .none => Q (.v (.bool (!isNone x))) μ
  | _ => False
section
variable {X : Cx} {c : Ctx} {W : WX}
end
end DL

set_option Elab.async false
set_option linter.all false
set_option maxRecDepth 100000
set_option maxHeartbeats 4000000
/-! A3: statements, targets, what is walked, loops, comprehensions. -/
namespace DL
open PySem PyProof.Rows L2
structure WEnds where
  nx : EnvD → Mu → Prop
  rt : QD
  bk : EnvD → Mu → Prop
  ct : EnvD → Mu → Prop
  xp : D → EnvD → Mu → Prop
abbrev WS := EnvD → Mu → WEnds → Prop
abbrev WG := D → EnvD → (EnvD → Prop) → Prop
abbrev WGs := List D → EnvD → (EnvD → Prop) → Prop
/-- what is walked: the items, what stays meanwhile -/
structure Src where
  xs : List D
  ok : Mu → Prop
abbrev WI := EnvD → Mu → (Src → Mu → Prop) → QD → Prop
/-! ### wishes -/
def wSeq (a b : WS) : WS := fun e μ E => a e μ { E with nx := fun e1 μ1 => b e1 μ1 E }
def wNext : WS := fun e μ E => E.nx e μ
def wBreak : WS := fun e μ E => E.bk e μ
def wCont : WS := fun e μ E => E.ct e μ
def wAsg (i : Nat) (a : WE) : WS := fun e μ E => a e μ (fun d μ1 => E.nx (st e i (some d)) μ1) fun d μ1 => E.xp d e μ1
def wAsgG (g : WG) (a : WE) : WS := fun e μ E => a e μ (fun d μ1 => g d e fun e1 => E.nx e1 μ1) fun d μ1 => E.xp d e μ1
def wDrop (a : WE) : WS := fun e μ E => a e μ (fun _ μ1 => E.nx e μ1) fun d μ1 => E.xp d e μ1
def wRet (a : WE) : WS := fun e μ E => a e μ E.rt fun d μ1 => E.xp d e μ1
def wRetN : WS := fun _ μ E => E.rt .none μ
def wIfS (t : WT) (a b : WS) : WS := fun e μ E => t e μ (fun k μ1 => if k = true then a e μ1 E else b e μ1 E) fun d μ1 => E.xp d e μ1
def wPar (i j : Nat) (a : WA) : WS := fun e μ E => a e μ (fun ds μ1 => match ds with
  | [x, y] => E.nx (st (st e i (some x)) j (some y)) μ1
  | _ => False) fun d μ1 => E.xp d e μ1
def wAug (i : Nat) (f : Int → Int → Int) (a : WE) : WS := fun e μ E => match gt e i with
  | some (.int x) => a e μ (fun d μ1 => match d with
    | .int y => E.nx (st e i (some (.int (f x y)))) μ1
    | _ => False) fun d μ1 => E.xp d e μ1
  | _ => False
/-- l[i] = v -/
def wSetL (v o i : WE) : WS := fun e μ E => v e μ (fun d μ1 => o e μ1 (fun x μ2 => i e μ2 (fun y μ3 => match x, y with
  | .cell p, .int k => (match ndL (μ3 p) with
    | some ds => (match ixN ds.length k with
      | some j => E.nx e (up μ3 p (.list (ds.set j d)))
      | Option.none => False)
    | Option.none => False)
  | _, _ => False) fun d μ1 => E.xp d e μ1) fun d μ1 => E.xp d e μ1) fun d μ1 => E.xp d e μ1
def wgN (i : Nat) : WG := fun d e Q => Q (st e i (some d))
def wgNil : WGs := fun ds e Q => match ds with
  | [] => Q e
  | _ => False
def wgCons (g : WG) (gs : WGs) : WGs := fun ds e Q => match ds with
  | d :: ds => g d e fun e1 => gs ds e1 Q
  | _ => False
def wgTup (n : Nat) (gs : WGs) : WG := fun d e Q => match d with
  | .tup ds => ds.length = n ∧ gs ds e Q
  | _ => False
def okS : D → List D → Mu → Prop
  | .cell p, ds, μ => ndL (μ p) = some ds
  | _, _, _ => True
def wiSeq (a : WE) : WI := fun e μ Q X => a e μ (fun d μ1 => match sqD μ1 d with
  | some ds => Q ⟨ds, okS d ds⟩ μ1
  | Option.none => False) X
def rangeD (lo : Int) (n : Nat) : List D := (List.range n).map fun (i : Nat) => .int (lo + (i : Int))
def inR (i : Int) : Prop := -(2 ^ 62) ≤ i ∧ i < 2 ^ 62
def wiRng1 (a : WA) : WI := fun e μ Q X => a e μ (fun ds μ1 => one ds fun x => int1 x fun j => inR j ∧ Q ⟨rangeD 0 j.toNat, fun _ => True⟩ μ1) X
def wiRng2 (a : WA) : WI := fun e μ Q X => a e μ (fun ds μ1 => two ds fun x y => int1 x fun lo => int1 y fun hi => inR lo ∧ inR hi ∧ Q ⟨rangeD lo (hi - lo).toNat, fun _ => True⟩ μ1) X
def goFor (ok : Mu → Prop) (g : WG) (b : WS) : List D → WS
  | [], e, μ, E => ok μ ∧ E.nx e μ
  | x :: xs, e, μ, E => ok μ ∧ g x e fun e1 => b e1 μ { nx := fun e2 μ2 => goFor ok g b xs e2 μ2 E, rt := E.rt, bk := E.nx, ct := fun e2 μ2 => goFor ok g b xs e2 μ2 E, xp := E.xp }
def wFor (s : WI) (g : WG) (b : WS) : WS := fun e μ E => s e μ (fun s μ1 => s.xs.length ≤ 2 ^ 63 ∧ goFor s.ok g b s.xs e μ1 E) fun d μ1 => E.xp d e μ1
/-- n turns at most -/
def goWhile (t : WT) (b : WS) : Nat → WS
  | 0, _, _, _ => False
  | n + 1, e, μ, E => t e μ (fun k μ1 => if k = true then b e μ1 { nx := fun e2 μ2 => goWhile t b n e2 μ2 E, rt := E.rt, bk := E.nx, ct := fun e2 μ2 => goWhile t b n e2 μ2 E, xp := E.xp } else E.nx e μ1) fun d μ1 => E.xp d e μ1
def wWhile (t : WT) (b : WS) : WS := fun e μ E => ∃ n, n ≤ 2 ^ 63 ∧ goWhile t b n e μ E
def wYes : WT := fun _ μ Q _ => Q true μ
def goLc (ok : Mu → Prop) (g : WG) (t : WT) (a : WE) (e : EnvD) (X : QD) : List D → List D → Mu → (List D → Mu → Prop) → Prop
  | [], acc, μ, Q => ok μ ∧ Q acc μ
  | x :: xs, acc, μ, Q => ok μ ∧ g x e fun e1 => t e1 μ (fun k μ1 => if k = true then a e1 μ1 (fun d μ2 => goLc ok g t a e X xs (acc ++ [d]) μ2 Q) X else goLc ok g t a e X xs acc μ1 Q) X
def wLc (m : Bool) (s : WI) (g : WG) (t : WT) (a : WE) (vs : List Nat) : WE := fun e μ Q X => s e μ (fun s μ1 => s.xs.length ≤ sizeLine ∧ goLc s.ok g t a (wipeE e vs) (fun _ _ => False) s.xs [] μ1 fun ds μ2 => sett m Q (.n (.list ds)) μ2) X
/-! ### readings -/
structure EV (c : Ctx) (W : WX) (S : Option SA) (F : Hp) (n : Nat) (I : Hp) (E : WEnds) (K : Ends) : Prop where
  nx : ∀ e' μ' σ' I' H', E.nx e' μ' → Same I I' → EnvR c S I' e' σ' → Wd c S F n I' μ' H' → K.nx σ' H'
  rt : ∀ d μ' v I' H', E.rt d μ' → Same I I' → Wd c S F n I' μ' H' → Rep c S I' d v → K.rt v H'
  bk : ∀ e' μ' σ' I' H', E.bk e' μ' → Same I I' → EnvR c S I' e' σ' → Wd c S F n I' μ' H' → K.bk σ' H'
  ct : ∀ e' μ' σ' I' H', E.ct e' μ' → Same I I' → EnvR c S I' e' σ' → Wd c S F n I' μ' H' → K.ct σ' H'
  xp : ∀ d e' μ' cls dx σ' I' H', E.xp d e' μ' → Same I I' → EnvR c S I' e' σ' → Wd c S F n I' μ' H' → ErrAt c S I' d cls dx → W cls dx σ' H'
theorem EV.mono {c : Ctx} {W : WX} {S : Option SA} {F : Hp} {n n' : Nat} {I I' : Hp} {E : WEnds} {K : Ends} (h : EV c W S F n I E K) (l : n' ≤ n) (s : Same I I') : EV c W S F n' I' E K :=
  ⟨fun e' μ' σ' I2 H' p s2 r w => h.nx e' μ' σ' I2 H' p (s.trans s2) r (w.up l), fun d μ' v I2 H' p s2 w r => h.rt d μ' v I2 H' p (s.trans s2) (w.up l) r, fun e' μ' σ' I2 H' p s2 r w => h.bk e' μ' σ' I2 H' p (s.trans s2) r (w.up l),
    fun e' μ' σ' I2 H' p s2 r w => h.ct e' μ' σ' I2 H' p (s.trans s2) r (w.up l), fun d e' μ' cls dx σ' I2 H' p s2 r w er => h.xp d e' μ' cls dx σ' I2 H' p (s.trans s2) r (w.up l) er⟩
theorem EV.lessF {c : Ctx} {W : WX} {S : Option SA} {F F' : Hp} {n : Nat} {I : Hp} {E : WEnds} {K : Ends} (h : EV c W S F n I E K) (l : ∀ b o, F b = some o → F' b = some o) : EV c W S F' n I E K :=
  ⟨fun e' μ' σ' I2 H' p s2 r w => h.nx e' μ' σ' I2 H' p s2 r (w.less l), fun d μ' v I2 H' p s2 w r => h.rt d μ' v I2 H' p s2 (w.less l) r, fun e' μ' σ' I2 H' p s2 r w => h.bk e' μ' σ' I2 H' p s2 r (w.less l),
    fun e' μ' σ' I2 H' p s2 r w => h.ct e' μ' σ' I2 H' p s2 r (w.less l), fun d e' μ' cls dx σ' I2 H' p s2 r w er => h.xp d e' μ' cls dx σ' I2 H' p s2 r (w.less l) er⟩
/-- what errors of an expression come to -/
theorem EV.x {c : Ctx} {W : WX} {S : Option SA} {F : Hp} {n : Nat} {I : Hp} {E : WEnds} {K : Ends} {e : EnvD} {σ : L2.St} (h : EV c W S F n I E K) (he : EnvR c S I e σ) : XV c W S F n I σ fun d μ1 => E.xp d e μ1 := fun d μ' cls dx I' H' p s w er => h.xp d e μ' cls dx σ I' H' p s (he.mono s) w er
section
variable (c : Ctx) (W : WX) (k : Nat)
def ldS (w : WS) : TS := fun K σ H => ∃ S F n I μ e E, n + k ≤ LIM ∧ EnvR c S I e σ ∧ Wd c S F n I μ H ∧ w e μ E ∧ EV c W S F (n + k) I E K
/-- a target; js the slots that it stores -/
def ldG (js : List Nat) (g : WG) : TG := fun v σ H Q => ∃ S F n I μ e d Qd, EnvR c S I e σ ∧ Wd c S F n I μ H ∧ Rep c S I d v ∧ g d e Qd ∧ ∀ e' σ', Qd e' → EnvR c S I e' σ' → (∀ i, i ∉ js → σ'[i]? = σ[i]?) → σ'.length = σ.length → Q σ' H
def ldGs (js : List Nat) (g : WGs) : TGs := fun vs σ H Q => ∃ S F n I μ e ds Qd, EnvR c S I e σ ∧ Wd c S F n I μ H ∧ Reps c S I ds vs ∧ g ds e Qd ∧ ∀ e' σ', Qd e' → EnvR c S I e' σ' → (∀ i, i ∉ js → σ'[i]? = σ[i]?) → σ'.length = σ.length → Q σ' H
def SubF (F F' : Hp) : Prop := ∀ b o, F b = some o → F' b = some o
def ItD (S : Option SA) (F0 : Hp) (J : It) (I1 : Hp) (s : Src) : Prop := ∀ F i n I μ H, SubF F0 F → Same I1 I → Wd c S F n I μ H → s.ok μ →
  (∀ d, s.xs[i]? = some d → J.go i H ∧ ∀ v H', J.yld i H v H' → ∃ I', Same I I' ∧ Wd c S F n I' μ H' ∧ Rep c S I' d v) ∧ (s.xs[i]? = Option.none → J.stop i H)
def ldI (w : WI) : TI := fun σ H R => ∃ S F n I μ e Qd Xd, n + k ≤ LIM ∧ EnvR c S I e σ ∧ Wd c S F n I μ H ∧ w e μ Qd Xd ∧ (∀ s μ' J I' H' F', SubF F F' → Qd s μ' → Same I I' → Wd c S F' (n + k) I' μ' H' → ItD c S F' J I' s → R J H') ∧ XV c W S F (n + k) I σ Xd
end
section
variable (X : Cx) (c : Ctx) (W : WX) (k : Nat)
abbrev GS (s : Stmt) (w : WS) : Prop := PS X s (ldS c W k w)
abbrev GSs (s : List Stmt) (w : WS) : Prop := PSs X s (ldS c W k w)
abbrev GG (js : List Nat) (t : Expr) (g : WG) : Prop := PG X t (ldG c js g)
abbrev GGs (js : List Nat) (t : List Expr) (g : WGs) : Prop := PGs X t (ldGs c js g)
abbrev GI (tg it : Expr) (w : WI) : Prop := PI X tg it (ldI c W k w)
end
theorem _root_.L2.PS.imp {X : Cx} {s : Stmt} {t t' : TS} (h : PS X s t) (i : ∀ D σ H, t' D σ H → t D σ H) : PS X s t' := ⟨fun pins s σ H D J z => h.run pins s σ H D J (i D σ H z)⟩
theorem _root_.L2.PSs.imp {X : Cx} {s : List Stmt} {t t' : TS} (h : PSs X s t) (i : ∀ D σ H, t' D σ H → t D σ H) : PSs X s t' := ⟨fun pins s σ H D J z => h.run pins s σ H D J (i D σ H z)⟩
theorem _root_.L2.PG.imp {X : Cx} {s : Expr} {t t' : TG} (h : PG X s t) (i : ∀ v σ H Q, t' v σ H Q → t v σ H Q) : PG X s t' := ⟨fun pins s σ H v u Q J r z => h.run pins s σ H v u Q J r (i v σ H Q z)⟩
theorem _root_.L2.PGs.imp {X : Cx} {s : List Expr} {t t' : TGs} (h : PGs X s t) (i : ∀ v σ H Q, t' v σ H Q → t v σ H Q) : PGs X s t' := ⟨fun pins s σ H v u Q J r z => h.run pins s σ H v u Q J r (i v σ H Q z)⟩
theorem _root_.L2.PI.imp {X : Cx} {tg s : Expr} {t t' : TI} (h : PI X tg s t) (i : ∀ σ H Q, t' σ H Q → t σ H Q) : PI X tg s t' := ⟨fun pins s σ H R J z => h.run pins s σ H R J (i σ H R z)⟩
section
variable {X : Cx} {c : Ctx} {W : WX} {k ka kb kc ko : Nat} {a b d tg it : Expr} {wa wb wo wi' : WE} {m : Bool} {pos pos' : Pos} {es : List Expr} {wr : WA} {wt wu : WT} {s : Stmt} {ss ss2 : List Stmt} {w1 w2 : WS} {i j : Nat} {x y : Str} {js js2 : List Nat} {g : WG} {gs : WGs} {wi : WI}
theorem gs_nil : GSs X c W 0 [] wNext := L2.PSs.imp pss_nil fun K σ H h => by
  obtain ⟨S, F, n, I, μ, e, E, hl, he, hw, h, q⟩ := h
  exact q.nx e μ σ I H h (Same.refl I) he hw
theorem ldS_seq {K : Ends} {σ : L2.St} {H : Hp} (h : ldS c W (ka + kb) (wSeq w1 w2) K σ H) : tSeq (ldS c W ka w1) (ldS c W kb w2) K σ H := by
  obtain ⟨S, F, n, I, μ, e, E, hl, he, hw, h, q⟩ := h
  refine ⟨S, F, n, I, μ, e, _, by omega, he, hw, h, ?_⟩
  have q1 := q.mono (n' := n + ka) (by omega) (Same.refl I)
  exact ⟨fun e1 μ1 σ1 I1 H1 p1 s1 r1 u1 => ⟨S, F, n + ka, I1, μ1, e1, E, by omega, r1, u1, p1, q.mono (by omega) s1⟩, q1.rt, q1.bk, q1.ct, q1.xp⟩
theorem gs_cons (h1 : GS X c W ka s w1) (h2 : GSs X c W kb ss w2) : GSs X c W (ka + kb) (s :: ss) (wSeq w1 w2) := L2.PSs.imp (pss_cons h1 h2) fun K σ H h => ldS_seq h
theorem gs_one (h1 : GS X c W k s w1) : GSs X c W k [s] w1 := pss_one h1
theorem ldE_S {Q : VK} {σ : L2.St} {H : Hp} {E : WEnds} {K : Ends} {S : Option SA} {F : Hp} {n : Nat} {I : Hp} {μ : Mu} {e : EnvD} {Qd : QD} (hl : n + k ≤ LIM) (he : EnvR c S I e σ) (hw : Wd c S F n I μ H) (q : EV c W S F (n + k) I E K) (h : wa e μ Qd fun d μ1 => E.xp d e μ1)
    (hq : QV c S F (n + k) I Qd Q) : ldE c W k wa σ H Q := ⟨S, F, n, I, μ, e, Qd, _, hl, he, hw, h, hq, q.x he⟩
theorem g_ret (ha : GE X c W k a wa) : GS X c W k (.Return (some a) pos) (wRet wa) := L2.PS.imp (ps_ret ha) fun K σ H h => by
  obtain ⟨S, F, n, I, μ, e, E, hl, he, hw, h, q⟩ := h
  exact ldE_S hl he hw q h fun d μ1 v I1 H1 p s1 u1 r1 => q.rt d μ1 v I1 H1 p s1 u1 r1
theorem g_ifS {bb b2 : List Stmt} (hc : GT X c W kc d wt) (ha : GSs X c W ka bb w1) (hb : GSs X c W kb b2 w2) : GS X c W (kc + (ka + kb)) (.If d bb b2 pos) (wIfS wt w1 w2) := L2.PS.imp (ps_if hc ha hb) fun K σ H h => by
  obtain ⟨S, F, n, I, μ, e, E, hl, he, hw, h, q⟩ := h
  refine ⟨S, F, n, I, μ, e, _, _, by omega, he, hw, h, fun b μ1 I1 H1 pb s1 u1 => ?_, (q.x he).mono (by omega) (Same.refl I)⟩
  exact ite_b pb (fun _ h => ⟨S, F, n + kc, I1, μ1, e, E, by omega, he.mono s1, u1, h, q.mono (by omega) s1⟩) fun _ h => ⟨S, F, n + kc, I1, μ1, e, E, by omega, he.mono s1, u1, h, q.mono (by omega) s1⟩
theorem ld_asg {K : Ends} {σ : L2.St} {H : Hp} (h : ldS c W k (wAsg i wa) K σ H) : tAsg (ldE c W k wa) (gName i) K σ H := by
  obtain ⟨S, F, n, I, μ, e, E, hl, he, hw, h, q⟩ := h
  exact ldE_S hl he hw q h fun d μ1 v I1 H1 p s1 u1 r1 => q.nx _ μ1 _ I1 H1 p s1 ((he.mono s1).put r1 i) u1
theorem g_set (hN : X.N.Nodup) (hi : X.N[i]? = some x) (hx : Loc X.env.scope x) (he : GE X c W k a wa) (hs : swapsWith a (some (.Name x pos')) pos.line X.env = pure false := by rfl) (hf : X.fn x = true ∨ X.env.scope.names.lookup x = some .local := by first | exact .inl rfl | exact .inr rfl | assumption) :
    GS X c W k (.Assign [.Name x pos'] a pos) (wAsg i wa) := L2.PS.imp (ps_set hN hi hx he hs hf) fun K σ H h => ld_asg h
theorem g_parN {hp : PS X s (tPar i j (ldA c W k wr))} : GS X c W k s (wPar i j wr) := L2.PS.imp hp fun K σ H h => by
  obtain ⟨S, F, n, I, μ, e, E, hl, he, hw, h, q⟩ := h
  refine ⟨S, F, n, I, μ, e, _, _, hl, he, hw, h, fun ds μ1 vs I1 H1 p s1 u1 r1 => ?_, q.x he⟩
  cases r1 with
  | nil => exact False.elim p
  | cons r1 r2 =>
    cases r2 with
    | nil => exact False.elim p
    | cons r2 r3 =>
      cases r3 with
      | nil => exact ⟨_, _, rfl, q.nx _ μ1 _ I1 H1 p s1 (((he.mono s1).put r1 i).put r2 j) u1⟩
      | cons => exact False.elim p
theorem g_aug {op : Operator} {f : Int → Int → Int} (hN : X.N.Nodup) (hi : X.N[i]? = some x) (hx : Loc X.env.scope x) (he : GE X c W k a wa) (ho : PIp X op (ipI f)) (hf : X.fn x = true ∨ X.env.scope.names.lookup x = some .local := by first | exact .inl rfl | exact .inr rfl | assumption) :
    GS X c W k (.AugAssign (.Name x pos') op a pos) (wAug i f wa) := L2.PS.imp (ps_aug hN hi hx he ho hf) fun K σ H h => by
  obtain ⟨S, F, n, I, μ, e, E, hl, he, hw, h, q⟩ := h
  unfold wAug at h
  split at h
  · rename_i z hz
    obtain ⟨v, h1, h2⟩ := he.get hz
    cases h2
    refine ⟨_, h1, ldE_S hl he hw q h fun d μ1 v I1 H1 p s1 u1 r1 => ?_⟩
    cases r1 <;> first | exact False.elim p | exact ⟨_, _, rfl, rfl, q.nx _ μ1 _ I1 H1 p s1 ((he.mono s1).put .int i) u1⟩
  · exact h.elim
/-! targets -/
theorem gg_name (hN : X.N.Nodup) (hi : X.N[i]? = some x) (hx : Loc X.env.scope x) (hf : X.fn x = true ∨ X.env.scope.names.lookup x = some .local := by first | exact .inl rfl | exact .inr rfl | assumption) : GG X c [i] (.Name x pos) (wgN i) := L2.PG.imp (pg_name hN hi hx hf) fun v σ H Q h => by
  obtain ⟨S, F, n, I, μ, e, d, Qd, he, hw, r, h, q⟩ := h
  exact q _ _ h (he.put r i) (fun j hj => List.getElem?_set_ne fun z => hj (by rw [z]; exact List.mem_cons_self)) List.length_set
theorem ggs_nil : GGs X c [] [] wgNil := L2.PGs.imp pgs_nil fun vs σ H Q h => by
  obtain ⟨S, F, n, I, μ, e, ds, Qd, he, hw, r, h, q⟩ := h
  cases r with
  | nil => exact ⟨rfl, q e σ h he (fun _ _ => rfl) rfl⟩
  | cons => exact False.elim h
theorem ggs_cons (h1 : GG X c js a g) (h2 : GGs X c js2 es gs) (hs : (assignEach (a :: es) X.env).map (·.2) = assign a X.env :: (assignEach es X.env).map (·.2) := by rfl) : GGs X c (js ++ js2) (a :: es) (wgCons g gs) := L2.PGs.imp (pgs_cons h1 h2 hs) fun vs σ H Q h => by
  obtain ⟨S, F, n, I, μ, e, ds, Qd, he, hw, r, h, q⟩ := h
  cases r with
  | nil => exact False.elim h
  | cons r1 r2 =>
    refine ⟨_, _, rfl, S, F, n, I, μ, e, _, _, he, hw, r1, h, fun e1 σ1 p1 he1 k1 l1 => ?_⟩
    refine ⟨S, F, n, I, μ, e1, _, _, he1, hw, r2, p1, fun e2 σ2 p2 he2 k2 l2 => ?_⟩
    exact q e2 σ2 p2 he2 (fun i hi => (k2 i fun z => hi (List.mem_append_right _ z)).trans (k1 i fun z => hi (List.mem_append_left _ z))) (l2.trans l1)
theorem gg_tup {kk n : Nat} (h : GGs X c js es gs) (hc : X.calm = true := by rfl) (hn : (assignEach es X.env).length = n := by rfl) (hst : (assignEach es X.env).findIdx? (·.1) = none := by rfl) (hK : X.K = c.K := by rfl) : GG X c js (.Tuple es kk pos) (wgTup n gs) := by
  obtain ⟨K, cl, tb, ns, es0⟩ := c
  cases hK
  refine L2.PG.imp (pg_tup hc h hn hst) fun v σ H Q h => ?_
  obtain ⟨S, F, m, I, μ, e, d, Qd, he, hw, r, h, q⟩ := h
  cases r <;> try exact False.elim h
  rename_i a ds xs g r
  exact ⟨_, _, rfl, hw.tupH g, by rw [← r.length]; exact h.1, S, F, m, I, μ, e, ds, Qd, he, hw, r, h.2, q⟩
/-! what is walked -/
def iSeq (K : PySem.W.Frag) (tl : TE) : TI := fun σ H R => tl σ H fun x H1 => ∃ a xs, x = .ref a ∧ ((SqL K H1 a xs ∧ R (Itl K a) H1) ∨ (SqT K H1 a xs ∧ R (Itt K a) H1))
theorem pi_seq {tl : TE} (hl : PE X a tl) : PI X tg a (iSeq X.K tl) := by
  refine ⟨fun pins s σ H R I h => ?_⟩
  refine thn (hl.run pins s σ H _ I h) fun v s1 ⟨x, H1, I1, r1, q1⟩ => ?_
  obtain ⟨a, xs, e, q1⟩ := q1
  subst e
  cases r1
  rcases q1 with ⟨hq, q⟩ | ⟨hq, q⟩
  · obtain ⟨its, rv, p, hz⟩ := I1.list hq
    refine wpAny_pyIter_list p.isList ?_
    refine ⟨s1.heap.objs.size, [s1.heap.objs.size], _, _, H1, rfl, I1.kept (t' := s1.toks) fun b o e => Heap.get?_push_of_some _ e, turn_list a _, ⟨_, Heap.get?_push_size _ rfl, rfl, rfl⟩, fun b hb => ?_, q⟩
    have e : b = s1.heap.objs.size := by simpa using hb
    subst e
    exact I1.fpOk (Nat.le_refl _) (I1.hok.fresh (Nat.le_refl _))
  · obtain ⟨its, rv, p, hz⟩ := I1.tuple hq
    refine wpAny_pyIter_tuple (show s1.heap.IsTuple a its.toArray from p) ?_
    refine ⟨s1.heap.objs.size, [s1.heap.objs.size], _, _, H1, rfl, I1.kept (t' := s1.toks) fun b o e => Heap.get?_push_of_some _ e, turn_tuple a _, ⟨_, Heap.get?_push_size _ rfl, rfl, rfl⟩, fun b hb => ?_, q⟩
    have e : b = s1.heap.objs.size := by simpa using hb
    subst e
    exact I1.fpOk (Nat.le_refl _) (I1.hok.fresh (Nat.le_refl _))
theorem itd_list {S : Option SA} {F0 I1 : Hp} {a : Addr} {ds : List D} {ok : Mu → Prop} (h : ∀ F n I μ H, Same I1 I → Wd c S F n I μ H → ok μ → ∃ xs, SqL c.K H a xs ∧ Reps c S I ds xs) : ItD c S F0 (Itl c.K a) I1 ⟨ds, ok⟩ := fun F i n I μ H _ s w o => by
  obtain ⟨xs, hq, r⟩ := h F n I μ H s w o
  refine ⟨fun d hd => ?_, fun hd => ?_⟩
  · obtain ⟨x, hx, rx⟩ := r.get hd
    refine ⟨⟨xs, x, hq, hx⟩, fun v H' ⟨e1, y⟩ => ⟨I, Same.refl I, by rw [e1]; exact w, ?_⟩⟩
    have e2 := y xs hq
    rw [hx] at e2
    rw [← Option.some.inj e2]
    exact rx
  · refine ⟨xs, hq, ?_⟩
    rw [← r.length]
    exact List.getElem?_eq_none_iff.mp hd
theorem itd_tup {S : Option SA} {F0 I1 : Hp} {a : Addr} {ds : List D} {ok : Mu → Prop} (h : ∀ F n I μ H, Same I1 I → Wd c S F n I μ H → ok μ → ∃ xs, SqT c.K H a xs ∧ Reps c S I ds xs) : ItD c S F0 (Itt c.K a) I1 ⟨ds, ok⟩ := fun F i n I μ H _ s w o => by
  obtain ⟨xs, hq, r⟩ := h F n I μ H s w o
  refine ⟨fun d hd => ?_, fun hd => ?_⟩
  · obtain ⟨x, hx, rx⟩ := r.get hd
    refine ⟨⟨xs, x, hq, hx⟩, fun v H' ⟨e1, y⟩ => ⟨I, Same.refl I, by rw [e1]; exact w, ?_⟩⟩
    have e2 := y xs hq
    rw [hx] at e2
    rw [← Option.some.inj e2]
    exact rx
  · refine ⟨xs, hq, ?_⟩
    rw [← r.length]
    exact List.getElem?_eq_none_iff.mp hd
/-- a list or a tuple, as it is walked -/
theorem itd_sq {S : Option SA} {F F0 : Hp} {n : Nat} {I H : Hp} {μ : Mu} {d : D} {v : V} {ds : List D} (w : Wd c S F n I μ H) (r : Rep c S I d v) (e : sqD μ d = some ds) : ∃ a xs, v = .ref a ∧ ((SqL c.K H a xs ∧ ItD c S F0 (Itl c.K a) I ⟨ds, okS d ds⟩) ∨ (SqT c.K H a xs ∧ ItD c S F0 (Itt c.K a) I ⟨ds, okS d ds⟩)) := by
  cases r with
  | list g r =>
    cases e
    exact ⟨_, _, rfl, .inl ⟨SqL.of (w.lst g), itd_list fun F n I2 μ2 H2 s2 w2 _ => ⟨_, SqL.of (w2.lst (s2 _ _ g)), r.mono s2⟩⟩⟩
  | tup g r =>
    cases e
    exact ⟨_, _, rfl, .inr ⟨w.tupH g, itd_tup fun F n I2 μ2 H2 s2 w2 _ => ⟨_, w2.tupH (Same.tup s2 g), r.mono s2⟩⟩⟩
  | script g =>
    cases e
    exact ⟨_, _, rfl, .inl ⟨w.seqH g, itd_list fun F n I2 μ2 H2 s2 w2 _ => ⟨_, w2.seqH (s2.seq g), Reps.of_ints⟩⟩⟩
  | cell =>
    obtain ⟨xs, h1, h2⟩ := w.cellL e
    refine ⟨_, _, rfl, .inl ⟨SqL.of h1, itd_list fun F n I2 μ2 H2 s2 w2 o => ?_⟩⟩
    obtain ⟨ys, h3, h4⟩ := w2.cellL o
    exact ⟨ys, SqL.of h3, h4⟩
  | _ => cases e
theorem gi_seq (ha : GE X c W k a wa) (hK : X.K = c.K := by rfl) : GI X c W k tg a (wiSeq wa) := by
  obtain ⟨K, cl, tb, ns, es0⟩ := c
  cases hK
  refine L2.PI.imp (pi_seq ha) fun σ H R h => ?_
  obtain ⟨S, F, n, I, μ, e, Qd, Xd, hl, he, hw, h, q, x⟩ := h
  refine ⟨S, F, n, I, μ, e, _, Xd, hl, he, hw, h, fun d μ1 v I1 H1 p s1 u1 r1 => ?_, x⟩
  dsimp only at p
  split at p
  · rename_i ds e1
    obtain ⟨a, xs, rfl, h1⟩ := itd_sq (F0 := F) u1 r1 e1
    refine ⟨a, xs, rfl, ?_⟩
    rcases h1 with ⟨h1, h2⟩ | ⟨h1, h2⟩
    · exact .inl ⟨h1, q _ μ1 _ I1 H1 F (fun _ _ z => z) p s1 u1 h2⟩
    · exact .inr ⟨h1, q _ μ1 _ I1 H1 F (fun _ _ z => z) p s1 u1 h2⟩
  · exact p.elim
theorem rangeD_get (lo : Int) (n i : Nat) : (rangeD lo n)[i]? = if i < n then some (.int (lo + (i : Int))) else Option.none := by
  unfold rangeD
  rw [List.getElem?_map]
  by_cases h : i < n
  · rw [List.getElem?_range h, if_pos h]
    rfl
  · rw [List.getElem?_eq_none (by rw [List.length_range]; omega), if_neg h]
    rfl
theorem rangeD_len (lo : Int) (n : Nat) : (rangeD lo n).length = n := by
  unfold rangeD
  rw [List.length_map, List.length_range]
theorem itr_d {S : Option SA} {F0 I : Hp} {ok : Mu → Prop} (lo : Int) (n : Nat) : ItD c S F0 (Itr lo n) I ⟨rangeD lo n, ok⟩ := fun F i m I2 O2 H2 _ s2 w2 o => by
  show (∀ d, (rangeD lo n)[i]? = some d → _) ∧ ((rangeD lo n)[i]? = _ → _)
  rw [rangeD_get]
  by_cases h : i < n
  · rw [if_pos h]
    refine ⟨fun d hd => ⟨h, fun v H' ⟨e1, e2⟩ => ⟨I2, Same.refl I2, by rw [e1]; exact w2, ?_⟩⟩, fun hd => by cases hd⟩
    rw [← Option.some.inj hd, e2]
    exact .int
  · rw [if_neg h]
    refine ⟨fun d hd => (by cases hd), fun _ => ?_⟩
    show n ≤ i
    omega
theorem gi_rng1 {p : Pos} (hg : Gl X "range") (hm : X.mg "range" = none) (ha : GA X c W k [a] wr) (hs : starEach [a] X.env = [(false, eval a X.env)] := by rfl) : GI X c W k tg (.Call (.Name "range" p) [a] [] pos) (wiRng1 wr) := L2.PI.imp (pi_range1 hg hm ha hs) fun σ H R h => by
  obtain ⟨S, F, n, I, μ, e, Qd, Xd, hl, he, hw, h, q, x⟩ := h
  refine ⟨S, F, n, I, μ, e, _, Xd, hl, he, hw, h, fun ds μ1 vs I1 H1 p s1 u1 r1 => ?_, x⟩
  obtain ⟨z, rfl, p⟩ := one_cases p
  obtain ⟨j, rfl, p⟩ := int1_cases p
  obtain ⟨v, rfl, rv⟩ := reps1 r1
  cases rv
  exact ⟨j, rfl, p.1.1, p.1.2, q _ μ1 _ I1 H1 F (fun _ _ z => z) p.2 s1 u1 (itr_d 0 _)⟩
/-! loops -/
theorem g_for {body : List Stmt} {kk : Nat} (hp : PassesOwn (model X.prog X.w) X.A X.env X.xe) (hi : GI X c W ka tg it wi) (hg : GG X c js tg g) (hb : GSs X c W kk body w1) (hc : X.calm = true := by rfl) (hs : ∀ x, foldedSetIterable it X.env x = pure x := by intro _; rfl) :
    GS X c W (ka + 2 ^ 63 * kk) (.For tg it body [] pos) (wFor wi g w1) := L2.PS.imp (ps_for hp hc hi hg hb hs) fun K σ H h => by
  obtain ⟨S, F, n, I, μ, e, E, hl, he, hw, h, q⟩ := h
  refine ⟨S, F, n, I, μ, e, _, _, by omega, he, hw, h, fun sr μ1 J I1 H1 F' sf p s1 u1 it1 => ?_, (q.x he).mono (by omega) (Same.refl I)⟩
  obtain ⟨hlen, p⟩ := p
  have hk : sr.xs.length * kk ≤ 2 ^ 63 * kk := Nat.mul_le_mul_right kk hlen
  refine ⟨fun i r σ' H' => r = sr.xs.length - i ∧ i ≤ sr.xs.length ∧ ∃ e' μ' I', Same I1 I' ∧ EnvR c S I' e' σ' ∧ Wd c S F' (n + ka + i * kk) I' μ' H' ∧ goFor sr.ok g w1 (sr.xs.drop i) e' μ' E,
    ⟨sr.xs.length, by omega, Nat.zero_le _, e, μ1, I1, Same.refl I1, he.mono s1, by rw [Nat.zero_mul, Nat.add_zero]; exact u1, p⟩, ?_⟩
  rintro i r σ2 H2 ⟨rfl, hi, e2, μ2, I2, s2, r2, u2, p2⟩
  by_cases hlt : i < sr.xs.length
  · have hx1 : sr.xs[i]? = some sr.xs[i] := List.getElem?_eq_getElem hlt
    rw [List.drop_eq_getElem_cons hlt] at p2
    obtain ⟨ok2, p2⟩ := p2
    obtain ⟨hgo, hy⟩ := (it1 F' i _ I2 μ2 H2 (fun _ _ z => z) s2 u2 ok2).1 _ hx1
    refine .inr ⟨hgo, fun σ' H' => ∃ e' μ' I', Same I1 I' ∧ EnvR c S I' e' σ' ∧ Wd c S F' (n + ka + (i + 1) * kk) I' μ' H' ∧ goFor sr.ok g w1 (sr.xs.drop (i + 1)) e' μ' E, fun σ' H' z => ⟨sr.xs.length - (i + 1), by omega, rfl, hlt, z⟩, fun x H3 yl => ?_⟩
    obtain ⟨I3, s3, u3, r3⟩ := hy x H3 yl
    have hmul : (i + 1) * kk = i * kk + kk := by rw [Nat.add_mul, Nat.one_mul]
    have hle : (i + 1) * kk ≤ sr.xs.length * kk := Nat.mul_le_mul_right kk hlt
    refine ⟨S, F', _, I3, μ2, e2, _, _, r2.mono s3, u3, r3, p2, fun e4 σ4 p4 r4 _ _ => ?_⟩
    refine ⟨S, F', n + ka + i * kk, I3, μ2, e4, _, by omega, r4, u3, p4, ?_⟩
    have q3 := (q.lessF sf).mono (n' := n + ka + i * kk + kk) (by omega) ((s1.trans s2).trans s3)
    refine ⟨fun e5 μ5 σ5 I5 H5 p5 s5 r5 u5 => ⟨e5, μ5, I5, (s2.trans s3).trans s5, r5, u5.up (by omega), p5⟩, q3.rt, q3.nx, fun e5 μ5 σ5 I5 H5 p5 s5 r5 u5 => ⟨e5, μ5, I5, (s2.trans s3).trans s5, r5, u5.up (by omega), p5⟩, q3.xp⟩
  · have e0 : i = sr.xs.length := by omega
    subst e0
    rw [List.drop_length] at p2
    obtain ⟨ok2, p2⟩ := p2
    exact .inl ⟨(it1 F' _ _ I2 μ2 H2 (fun _ _ z => z) s2 u2 ok2).2 (List.getElem?_eq_none_iff.mpr (Nat.le_refl _)), (q.lessF sf).nx e2 μ2 σ2 I2 H2 p2 (s1.trans s2) r2 (u2.up (by omega))⟩
theorem g_while {body : List Stmt} {kt kk : Nat} (hp : PassesOwn (model X.prog X.w) X.A X.env X.xe) (ht : GT X c W kt a wt) (hb : GSs X c W kk body w1) : GS X c W (2 ^ 63 * (kt + kk)) (.While a body [] pos) (wWhile wt w1) := L2.PS.imp (ps_while hp ht hb) fun K σ H h => by
  obtain ⟨S, F, n, I, μ, e, E, hl, he, hw, ⟨N, hN, h⟩, q⟩ := h
  have hk : N * (kt + kk) ≤ 2 ^ 63 * (kt + kk) := Nat.mul_le_mul_right _ hN
  refine ⟨fun r σ' H' => r ≤ N ∧ ∃ e' μ' I', Same I I' ∧ EnvR c S I' e' σ' ∧ Wd c S F (n + (N - r) * (kt + kk)) I' μ' H' ∧ goWhile wt w1 r e' μ' E, ⟨N, Nat.le_refl _, e, μ, I, Same.refl I, he, by rw [Nat.sub_self, Nat.zero_mul, Nat.add_zero]; exact hw, h⟩, ?_⟩
  rintro r σ2 H2 ⟨hr, e2, μ2, I2, s2, r2, u2, p2⟩
  cases r with
  | zero => exact p2.elim
  | succ r =>
    have hmul : (N - r) * (kt + kk) = (N - (r + 1)) * (kt + kk) + (kt + kk) := by rw [show N - r = N - (r + 1) + 1 by omega, Nat.add_mul, Nat.one_mul]
    have hle : (N - r) * (kt + kk) ≤ N * (kt + kk) := Nat.mul_le_mul_right _ (by omega)
    refine ⟨S, F, n + (N - (r + 1)) * (kt + kk), I2, μ2, e2, _, _, by omega, r2, u2, p2, fun b μ3 I3 H3 p3 s3 u3 => ?_, ((q.mono (n' := n + 2 ^ 63 * (kt + kk)) (Nat.le_refl _) s2).x r2).mono (by omega) (Same.refl I2)⟩
    refine ite_b p3 (fun _ p4 => ⟨fun σ' H' => ∃ e' μ' I', Same I I' ∧ EnvR c S I' e' σ' ∧ Wd c S F (n + (N - r) * (kt + kk)) I' μ' H' ∧ goWhile wt w1 r e' μ' E, fun σ' H' z => ⟨r, Nat.lt_succ_self r, by omega, z⟩, ?_⟩) fun _ p4 => q.nx e2 μ3 σ2 I3 H3 p4 (s2.trans s3) (r2.mono s3) (u3.up (by omega))
    refine ⟨S, F, n + (N - (r + 1)) * (kt + kk) + kt, I3, μ3, e2, _, by omega, r2.mono s3, u3, p4, ?_⟩
    have q3 := q.mono (n' := n + (N - (r + 1)) * (kt + kk) + kt + kk) (by omega) (s2.trans s3)
    exact ⟨fun e5 μ5 σ5 I5 H5 p5 s5 r5 u5 => ⟨e5, μ5, I5, (s2.trans s3).trans s5, r5, u5.up (by omega), p5⟩, q3.rt, q3.nx, fun e5 μ5 σ5 I5 H5 p5 s5 r5 u5 => ⟨e5, μ5, I5, (s2.trans s3).trans s5, r5, u5.up (by omega), p5⟩, q3.xp⟩
end
/-! ### comprehensions -/
theorem wipe_eq {σ σ' : L2.St} (hl : σ'.length = σ.length) : ∀ {vs : List Nat}, (∀ i, i ∉ vs → σ'[i]? = σ[i]?) → wipe σ' vs = wipe σ vs := by
  intro vs h
  have key : ∀ (vs : List Nat) (σ : L2.St) (i : Nat), (wipe σ vs)[i]? = if i ∈ vs then (if i < σ.length then some Option.none else Option.none) else σ[i]? := by
    intro vs
    induction vs with
    | nil =>
      intro σ i
      rw [if_neg (by simp)]
      rfl
    | cons a vs ih =>
      intro σ i
      show ((wipe σ vs).set a Option.none)[i]? = _
      by_cases hi : a = i
      · subst hi
        rw [if_pos List.mem_cons_self]
        by_cases hv : a < σ.length
        · rw [if_pos hv, List.getElem?_set_self (by rw [wipe_length]; exact hv)]
        · rw [if_neg hv, List.getElem?_eq_none (by rw [List.length_set, wipe_length]; omega)]
      · rw [List.getElem?_set_ne hi, ih]
        by_cases hm : i ∈ vs
        · rw [if_pos hm, if_pos (List.mem_cons_of_mem _ hm)]
        · rw [if_neg hm, if_neg (by
            intro z
            rcases List.mem_cons.mp z with z | z
            · exact hi z.symm
            · exact hm z)]
  refine List.ext_getElem? fun i => ?_
  rw [key, key, hl]
  by_cases hm : i ∈ vs
  · rw [if_pos hm, if_pos hm]
  · rw [if_neg hm, if_neg hm]
    exact h i hm
theorem wipe_get {σ : L2.St} {vs : List Nat} {i : Nat} (h : i ∉ vs) : (wipe σ vs)[i]? = σ[i]? := by
  induction vs with
  | nil => rfl
  | cons a vs ih =>
    show ((wipe σ vs).set a Option.none)[i]? = _
    rw [List.getElem?_set_ne (fun z => h (by rw [z]; exact List.mem_cons_self)), ih fun z => h (List.mem_cons_of_mem _ z)]
abbrev W0 : WX := fun _ _ _ _ => False
section
variable {X : Cx} {c : Ctx} {W : WX} {k ka kb kc kt kk : Nat} {m : Bool} {js : List Nat} {g : WG} {wi : WI} {wt : WT} {wa : WE} {vs : List Nat}
/-- one more thing is left alone -/
theorem Wd.leave {S : Option SA} {F : Hp} {n : Nat} {I H : Hp} {μ : Mu} {p : Addr} {o : HO} (w : Wd c S F n I μ H) (h : H p = some o) (hi : I p = none) (hm : μ p = none) (ho : notTX o) (hc : ∀ a, S = some a → ¬ Cell a p) : Wd c S (upd F p o) n I μ H := ⟨w.i, w.m, w.s, w.ni, fun b u e => by
  by_cases z : b = p
  · subst z
    rw [upd_same] at e
    cases e
    exact ⟨h, .inl ⟨hi, hm, ho, hc⟩⟩
  · rw [upd_ne z] at e
    exact w.f b u e, w.z⟩
/-- what is left alone changes -/
theorem Wd.turn {S : Option SA} {F : Hp} {n : Nat} {I H : Hp} {μ : Mu} {p : Addr} {o u : HO} (w : Wd c S (upd F p o) n I μ H) (hu : notTX u) (no : ∀ ob v, o ≠ .frz ob v := by intro _ _ z; cases z) : Wd c S (upd F p u) n I μ (upd H p u) := by
  obtain ⟨h1, h2, h3, h4, h5⟩ := w.f0 upd_same no
  refine ⟨fun b v e => ?_, fun b nd e => ?_, fun a e => ⟨?_, (w.s a e).2⟩, w.ni, fun b v e => ?_, w.z⟩
  · rw [upd_ne (ne_of_none e h2)]
    exact w.i b v e
  · obtain ⟨g1, v, g2, g3⟩ := w.m b nd e
    refine ⟨g1, v, g2, ?_⟩
    rw [upd_ne fun z => ?_]
    · exact g3
    · rw [z, h3] at e
      cases e
  · refine (w.s a e).1.keep (fun b q => upd_ne fun (z : b = p) => h5 a e (z ▸ q)) fun b φ z => ?_
    rw [upd_ne fun q => ?_]
    · exact z
    · rw [q, h1] at z
      cases z
      exact h4
  · by_cases z : b = p
    · subst z
      rw [upd_same] at e ⊢
      cases e
      exact ⟨rfl, .inl ⟨h2, h3, hu, h5⟩⟩
    · have e2 : upd F p o b = some v := by
        rw [upd_ne z] at e ⊢
        exact e
      rw [upd_ne z]
      exact w.f b v e2
theorem sub_new {F : Hp} {p : Addr} {o : HO} (h : F p = none) : SubF F (upd F p o) := fun b u e => by
  rw [upd_ne (ne_of_none e h)]
  exact e
theorem ld_lc {σ : L2.St} {H : Hp} {Q : VK} (hjs : ∀ i ∈ js, i ∈ vs) (h : ldE c W (ka + sizeLine * (kt + kk)) (wLc m wi g wt wa vs) σ H Q) : tLc (ldI c W ka wi) (ldG c js g) (ldT c W0 kt wt) (ldE c W0 kk wa) vs σ H Q := by
  obtain ⟨S, F, n, I, μ, e, Qd, Xd, hl, he, hw, h, q, x⟩ := h
  refine ⟨S, F, n, I, μ, e, _, Xd, by omega, he, hw, h, fun sr μ1 J I1 H1 F' sf p s1 u1 it1 Dl hD => ?_, x.mono (by omega) (Same.refl I)⟩
  obtain ⟨hlen, p⟩ := p
  have hk : sr.xs.length * (kt + kk) ≤ sizeLine * (kt + kk) := Nat.mul_le_mul_right _ hlen
  have fD := u1.fresh hD
  have nD := u1.no_cell hD
  have nF := u1.nf hD
  refine ⟨fun i r H' => r = sr.xs.length - i ∧ i ≤ sr.xs.length ∧ ∃ I' μ' acc ds, Same I1 I' ∧ Wd c S (upd F' Dl (.lst acc)) (n + ka + i * (kt + kk)) I' μ' H' ∧ Reps c S I' ds acc ∧ ds.length ≤ i ∧ goLc sr.ok g wt wa (wipeE e vs) (fun _ _ => False) (sr.xs.drop i) ds μ' fun ds μ2 => sett m Qd (.n (.list ds)) μ2,
    ⟨sr.xs.length, by omega, Nat.zero_le _, I1, μ1, [], [], Same.refl I1, by rw [Nat.zero_mul, Nat.add_zero]; exact (u1.frame hD).leave upd_same fD.1 fD.2 trivial nD, .nil, Nat.le_refl _, p⟩, ?_⟩
  rintro i r H2 ⟨rfl, hi, I2, μ2, acc, ds, s2, u2, r2, l2, p2⟩
  by_cases hlt : i < sr.xs.length
  · have hx1 : sr.xs[i]? = some sr.xs[i] := List.getElem?_eq_getElem hlt
    rw [List.drop_eq_getElem_cons hlt] at p2
    obtain ⟨ok2, p2⟩ := p2
    obtain ⟨hgo, hy⟩ := (it1 _ i _ I2 μ2 H2 (sub_new nF) s2 u2 ok2).1 _ hx1
    refine .inr ⟨hgo, fun H' => ∃ I' μ' acc ds, Same I1 I' ∧ Wd c S (upd F' Dl (.lst acc)) (n + ka + (i + 1) * (kt + kk)) I' μ' H' ∧ Reps c S I' ds acc ∧ ds.length ≤ i + 1 ∧ goLc sr.ok g wt wa (wipeE e vs) (fun _ _ => False) (sr.xs.drop (i + 1)) ds μ' fun ds μ2 => sett m Qd (.n (.list ds)) μ2, fun H' z => ⟨sr.xs.length - (i + 1), by omega, rfl, hlt, z⟩, fun v H3 yl => ?_⟩
    obtain ⟨I3, s3, u3, r3⟩ := hy v H3 yl
    have hmul : (i + 1) * (kt + kk) = i * (kt + kk) + (kt + kk) := by rw [Nat.add_mul, Nat.one_mul]
    have hle : (i + 1) * (kt + kk) ≤ sr.xs.length * (kt + kk) := Nat.mul_le_mul_right _ hlt
    have he3 := EnvR.wipe vs (he.mono ((s1.trans s2).trans s3))
    refine ⟨S, _, _, I3, μ2, wipeE e vs, _, _, he3, u3, r3, p2, fun e4 σ4 p4 r4 k4 l4 => ⟨?_, ?_⟩⟩
    · have e1 : wipe σ4 vs = wipe (wipe σ vs) vs := wipe_eq l4 fun j hj => k4 j fun z => hj (hjs j z)
      rw [e1]
      exact wipe_eq (wipe_length σ vs) fun j hj => wipe_get hj
    · refine ⟨S, _, n + ka + i * (kt + kk), I3, μ2, e4, _, _, by omega, r4, u3, p4, fun b μ5 I5 H5 p5 s5 u5 => ?_, fun d μ' cls dx I' H' z => z.elim⟩
      refine ite_b p5 (fun _ p6 => ?_) fun _ p6 => ⟨I5, μ5, acc, ds, (s2.trans s3).trans s5, u5.up (by omega), r2.mono (s3.trans s5), by omega, p6⟩
      refine ⟨S, _, n + ka + i * (kt + kk) + kt, I5, μ5, e4, _, _, by omega, r4.mono s5, u5, p6, fun d μ7 v7 I7 H7 p7 s7 u7 r7 => ?_, fun d μ' cls dx I' H' z => z.elim⟩
      have r8 := r2.mono ((s3.trans s5).trans s7)
      refine ⟨acc, (u7.f Dl _ upd_same).1, by rw [← r8.length]; omega, I7, μ7, acc ++ [v7], ds ++ [d], ((s2.trans s3).trans s5).trans s7, (u7.turn (u := .lst (acc ++ [v7])) trivial).up (by omega), r8.append (.cons r7 .nil), by rw [List.length_append]; show ds.length + 1 ≤ i + 1; omega, p7⟩
  · have e0 : i = sr.xs.length := by omega
    subst e0
    rw [List.drop_length] at p2
    obtain ⟨ok2, p2⟩ := p2
    refine .inl ⟨(it1 _ _ _ I2 μ2 H2 (sub_new nF) s2 u2 ok2).2 (List.getElem?_eq_none_iff.mpr (Nat.le_refl _)), ?_⟩
    obtain ⟨h1, h2, h3, h4, h5⟩ := u2.f0 (b := Dl) upd_same fun _ _ z => nomatch z
    refine (q.sett (m := m)) _ μ2 _ I2 H2 p2 (s1.trans s2) ((u2.less fun b o e => ?_).up (by omega)) ⟨Dl, _, rfl, h1, .list r2, h2, h3, h5, none_of fun o z => nomatch (sf _ _ z).symm.trans nF⟩
    rw [upd_ne (ne_of_none (sf _ _ e) nF)]
    exact sf _ _ e
theorem gt_yes {X' : Cx} : PTs X' [] (ldT c W0 0 wYes) := ⟨fun pins s σ H Q J h => pts_nil.run pins s σ H Q J (by
  obtain ⟨S, F, n, I, μ, e, Qd, Xd, hl, he, hw, h, q, x⟩ := h
  exact q true μ I H h (Same.refl I) hw)⟩
theorem g_lc {elt tg iter : Expr} {ifs : List Expr} {scope : Scope} {own : List (Str × Nat)} {pos : Pos} (hN : X.N.Nodup) (hi : GI X c W ka tg iter wi) (ok : BlkOk X.N X.env.scope scope own)
    (hg : ∀ (s : Shared) (H : Hp) (C : Addr) (cl : List (Str × Addr)) (fp : List Addr), GG (X.blk s H scope (compEnvC scope cl C X.env) fp) c js tg g) (ht : ∀ (s : Shared) (H : Hp) (C : Addr) (cl : List (Str × Addr)) (fp : List Addr), PTs (X.blk s H scope (compEnvC scope cl C X.env) fp) ifs (ldT c W0 kt wt))
    (he : ∀ (s : Shared) (H : Hp) (C : Addr) (cl : List (Str × Addr)) (fp : List Addr), GE (X.blk s H scope (compEnvC scope cl C X.env) fp) c W0 kk elt wa) (hjs : ∀ i ∈ js, i ∈ own.map (·.2) := by decide) (hc : X.calm = true := by rfl) (hs : ∀ x, foldedSetIterable iter X.env x = pure x := by intro _; rfl) :
    GE X c W (ka + sizeLine * (kt + kk)) (.ListComp elt [⟨tg, iter, ifs, 0⟩] scope pos) (wLc m wi g wt wa (own.map (·.2))) := L2.PE.imp (pe_lc hc hN hi ok hg ht he hs) fun σ H Q h => ld_lc hjs h
end
end DL

set_option Elab.async false
set_option linter.all false
set_option maxRecDepth 100000
set_option maxHeartbeats 4000000
/-! Y1: rules of the machine for operators of own classes; the head's facts. -/
namespace DL
open PySem PySem.Calls PyProof.Rows L2
section
variable {prog : Program} {w : World} {A : Around} {E : Value → Shared → Prop} {s : Shared} {K : PySem.W.Frag} {x y C f : Addr} {ox oy : Obj} {od od' : Option Obj}
end
/-! ### over the layer -/
/-- what a class has a special method by -/
structure Spl (K : PySem.W.Frag) (C : Addr) (nm : Str) (f : Addr) : Prop where
  at_ : PySem.W.findIn K (.ref C) nm = some (some (.ref f))
  fn : PySem.W.isFn K (.ref f) = true
section
variable {prog : Program} {w : PySem.World} {A : Around} {E : Value → Shared → Prop} {s : Shared} {K : PySem.W.Frag} {x y C f : Addr} {ox oy : Obj} {od od' : Option Obj}
end
/-- what a class has its != by -/
structure NeOf (K : PySem.W.Frag) (C : Addr) : Prop where
  at_ : PySem.W.findIn K (.ref C) "__ne__" = some (some (.builtin "object.__ne__"))
  ob : PySem.W.mroIn K C (.type "object") = some true
end DL
namespace DL
open PySem PySem.Spec PyProof.Rows L2
/-- what the look for an instance's class asks of the class -/
structure IsiC (K : PySem.W.Frag) (C : Addr) : Prop where
  cl : Cls K C
  ha : PySem.W.findIn K (.ref C) "__class__" = some (some (.builtin "object.__class__"))
  hn : PySem.W.specialIn K (.builtin "object.__class__") "__get__" = some (some (.builtin "getset_descriptor.__get__"))
  htk : PySem.W.takesIn K (.builtin "object.__class__") = some true
  hm : PySem.W.mroIn K C (.type "object") = some true
/-! ### the head's facts: defs by their addresses, any Bools besides -/
structure DefX where
  at_ : PySem.W.Frag → Addr
  name : Str
  qual : Str
  params : Arguments
  body : List Stmt
  scope : Scope
  dfl : List He.Dv := []
def fnX (K : PySem.W.Frag) (a : Addr) : He.FnW := match K.lookup a with
  | some ⟨_, _, .func fd, _⟩ => some (fd.name, fd.qualname, fd.params, fd.body, fd.scope, fd.globals, fd.closure, fd.builtins)
  | _ => none
def DefX.val (d : DefX) : He.FnW := some (d.name, d.qual, d.params, .stmts d.body, d.scope, mainGlobals, [], builtinsNs)
def DefX.dvs (K : PySem.W.Frag) (d : DefX) : List V := d.dfl.map (He.Dv.v K)
def DefX.ok (K : PySem.W.Frag) (d : DefX) : Bool := PySem.W.keepIn K (.ref (d.at_ K)) && (match K.lookup (d.at_ K) with
  | some ⟨_, _, .func fd, _⟩ => PySem.W.codeIn K fd.code d.qual && He.dflB K fd.defaults (d.dvs K)
  | _ => false)
theorem DefX.funD {K : PySem.W.Frag} {d : DefX} (e : fnX K (d.at_ K) = d.val) (c : d.ok K = true) : ∃ fd, FunD K d.name d.qual d.params d.body d.scope (d.dvs K) [] (d.at_ K) fd := by
  obtain ⟨kp, c2⟩ := He.ba c
  unfold fnX at e
  cases q : K.lookup (d.at_ K) with
  | none =>
    rw [q] at c2
    cases c2
  | some o =>
    obtain ⟨oc, od, dt, osl⟩ := o
    rw [q] at c2 e
    cases dt with
    | func fd =>
      obtain ⟨n1, n2, n3, n4, n5, n6, n7, n8, n9, n10, n11, n12, n13, n14, n15⟩ := fd
      have e2 : (some (n1, n2, n3, n4, n5, n6, n7, n15) : He.FnW) = some (d.name, d.qual, d.params, .stmts d.body, d.scope, mainGlobals, [], builtinsNs) := e
      simp only [Option.some.injEq, Prod.mk.injEq] at e2
      obtain ⟨h1, h2, h3, h4, h5, h6, h7, h8⟩ := e2
      subst h1 h2 h3 h4 h5 h6 h7 h8
      have c3 : (PySem.W.codeIn K n13 d.qual && He.dflB K n8 (d.dvs K)) = true := c2
      obtain ⟨k1, k3⟩ := He.ba c3
      exact ⟨_, ⟨oc, od, n8, n9, n10, n11, n12, n13, n14, osl, rfl, q, k1, He.dflB_ok k3, .inl rfl⟩, kp⟩
    | _ => cases c2
abbrev AlX : Type := Bool × List He.FnW
def obsX (bs : List (PySem.W.Frag → Bool)) (fn : List DefX) (K : PySem.W.Frag) : AlX := ((bs.all fun b => b K) && fn.all fun d => d.ok K, fn.map fun d => fnX K (d.at_ K))
def valX (fn : List DefX) : AlX := (true, fn.map DefX.val)
def SaysX (bs : List (PySem.W.Frag → Bool)) (fn : List DefX) (K : PySem.W.Frag) : Prop := obsX bs fn K = valX fn
section
variable {bs : List (PySem.W.Frag → Bool)} {fn : List DefX} {K : PySem.W.Frag}
theorem SaysX.fact (c : SaysX bs fn K) (i : Nat) {f : PySem.W.Frag → Bool} (h : bs[i]? = some f := by rfl) : f K = true := by
  have c1 := (He.ba (show ((bs.all fun b => b K) && fn.all fun d => d.ok K) = true from congrArg (fun z : AlX => z.1) c)).1
  exact List.all_eq_true.mp c1 f (List.mem_of_getElem? h)
theorem SaysX.def_ (c : SaysX bs fn K) (i : Nat) {d : DefX} (h : fn[i]? = some d := by rfl) : ∃ fd, FunD K d.name d.qual d.params d.body d.scope (d.dvs K) [] (d.at_ K) fd := by
  have c2 := (He.ba (show ((bs.all fun b => b K) && fn.all fun d => d.ok K) = true from congrArg (fun z : AlX => z.1) c)).2
  have e : fn.map (fun d => fnX K (d.at_ K)) = fn.map DefX.val := congrArg (fun z : AlX => z.2) c
  have e2 : (fn.map fun d => fnX K (d.at_ K))[i]? = (fn.map DefX.val)[i]? := by rw [e]
  rw [List.getElem?_map, List.getElem?_map, h] at e2
  exact DefX.funD (Option.some.inj e2) (List.all_eq_true.mp c2 d (List.mem_of_getElem? h))
end
/-! addresses: a property's getter, a static method's def -/
def recAt (K : PySem.W.Frag) (T : String) (p : Addr) : Addr := match PySem.W.recIn K p T with
  | some (.ref g :: _) => g
  | _ => 0
def isSomeRef (o : Option (List Value)) (g : Addr) : Bool := match o with
  | some (.ref a :: _) => decide (a = g)
  | _ => false
/-- a property of a class -/
def propB (K : PySem.W.Frag) (C : Addr) (f : Str) : Bool := He.eqO (PySem.W.findIn K (.ref C) f) (some (some (.ref (He.ma K C f)))) && (He.eqO (PySem.W.specialIn K (.ref (He.ma K C f)) "__get__") (some (some (.builtin "property.__get__"))) &&
  (decide (PySem.W.takesIn K (.ref (He.ma K C f)) = some true) && isSomeRef (PySem.W.recIn K (He.ma K C f) "property") (recAt K "property" (He.ma K C f))))
theorem propB_ok {K : PySem.W.Frag} {C : Addr} {f : Str} (h : propB K C f = true) : PropOf K C f (He.ma K C f) (recAt K "property" (He.ma K C f)) := by
  obtain ⟨h1, h⟩ := He.ba h
  obtain ⟨h2, h⟩ := He.ba h
  obtain ⟨h3, h4⟩ := He.ba h
  refine ⟨He.eqO_ok h1, He.eqO_ok h2, of_decide_eq_true h3, ?_⟩
  unfold isSomeRef at h4
  split at h4
  · rename_i a rest e
    have e2 := of_decide_eq_true h4
    rw [e2] at e
    exact ⟨rest, e⟩
  · cases h4
def isiB (K : PySem.W.Frag) (C : Addr) : Bool := He.eqO (PySem.W.findIn K (.ref C) "__class__") (some (some (.builtin "object.__class__"))) && (He.eqO (PySem.W.specialIn K (.builtin "object.__class__") "__get__") (some (some (.builtin "getset_descriptor.__get__"))) &&
  (decide (PySem.W.takesIn K (.builtin "object.__class__") = some true) && decide (PySem.W.mroIn K C (.type "object") = some true)))
theorem isiB_ok {K : PySem.W.Frag} {C : Addr} (hc : Cls K C) (h : isiB K C = true) : IsiC K C := by
  obtain ⟨h1, h⟩ := He.ba h
  obtain ⟨h2, h⟩ := He.ba h
  obtain ⟨h3, h4⟩ := He.ba h
  exact ⟨hc, He.eqO_ok h1, He.eqO_ok h2, of_decide_eq_true h3, of_decide_eq_true h4⟩
def kitB2 (K : PySem.W.Frag) (t u : Value) (b : Bool) : Bool := decide (PySem.W.kitOne K t u = some b)
theorem kitB2_ok {K : PySem.W.Frag} {t u : Value} {b : Bool} (h : kitB2 K t u b = true) : PySem.W.kitOne K t u = some b := of_decide_eq_true h
end DL

set_option Elab.async false
set_option linter.all false
set_option maxRecDepth 100000
set_option maxHeartbeats 4000000
/-! DLe: enumerate of a tuple, a tuple turned about. -/
namespace DL
open PySem PySem.Calls PyProof.Rows
open AutoSeq1 (wpAny_loadPart')
theorem meets_enumerate_newT (l : Addr) (items : Array Value) (n : Nat) (dct : Option Addr) (sl : Array (Option Value)) :
    Meets (Builtin.«enumerate.__new__» ⟨[.type "enumerate", .ref l], []⟩) (fun _ R s => s.heap.get? l = some { cls := .type "tuple", dict := dct, data := .seq items n, slots := sl } ∧
      R (.ok (.ret (.ref (s.heap.push { cls := .type "tuple_iterator", data := .fields #[.ref l, .int 0 0] }).objs.size)))
        { s with heap := (s.heap.push { cls := .type "tuple_iterator", data := .fields #[.ref l, .int 0 0] }).push { cls := .type "enumerate", data := .fields #[.none, .bool false, .ref s.heap.objs.size, rawInt 0, .none, .none] } }) :=
  .of_wp fun prog w A R s h => by
    obtain ⟨hp, g, d, tk, os⟩ := s; obtain ⟨hl, h⟩ := h
    have hsub := sub_enumerate
    have hL : Heap.IsTuple (Shared.heap ⟨hp, g, d, tk, os⟩) l items := ⟨_, hl, rfl, n, rfl⟩
    wp_walk using wpAny_loadPart' hl
    refine wpAny_stack_any fun st => wpAny_pure ?_
    split
    · rename_i c _ _ _ _ _
      cases (c == Value.type "enumerate")
      · wp_walk using wpAny_loadPart' hl, wpAny_pyIter_tuple hL
        exact ⟨_, rfl, h⟩
      · wp_walk using wpAny_loadPart' hl, wpAny_pyIter_tuple hL
        exact ⟨_, rfl, h⟩
    · wp_walk using wpAny_loadPart' hl, wpAny_pyIter_tuple hL
      exact ⟨_, rfl, h⟩
section
variable {prog : Program} {w : PySem.World} {A : Around} {Ex : Value → Shared → Prop} {s : Shared}
theorem call_enumerate_tuple {l : Addr} {items : Array Value} {Q : Value → Shared → Prop} (hL : s.heap.IsTuple l items)
    (h : ∀ h', IsEnum h' (s.heap.objs.size + 1) s.heap.objs.size 0 .none → h'.IsTupleIter s.heap.objs.size l 0 → h'.objs.size = s.heap.objs.size + 2 →
      (∀ b o, s.heap.get? b = some o → h'.get? b = some o) → Q (.ref (s.heap.objs.size + 1)) { s with heap := h' }) :
    wpAny (model prog w) A (call (.type "enumerate") [.ref l]) Q Ex s := by
  obtain ⟨⟨c, dct, dt, sl⟩, hl, hc, n, hd⟩ := hL
  replace hc : c = .type "tuple" := hc
  replace hd : dt = .seq items n := hd
  subst hc hd
  refine callType_new F.called_enumerate (by decide) (F.typeCall_enumerate_1 _) (F.newCall_enumerate_1 _) (fun obj => F.args_object_init_2 obj _) F.entry_enumerate_new
    (meets_enumerate_newT l items n dct sl) ⟨hl, ?_⟩
  have hz : (s.heap.push { cls := .type "tuple_iterator", data := .fields #[.ref l, .int 0 0] }).objs.size = s.heap.objs.size + 1 := Heap.size_push ..
  show _ ∧ _
  rw [hz]
  have he : IsEnum ((s.heap.push { cls := .type "tuple_iterator", data := .fields #[.ref l, .int 0 0] }).push
      { cls := .type "enumerate", data := .fields #[.none, .bool false, .ref s.heap.objs.size, rawInt 0, .none, .none] }) (s.heap.objs.size + 1) s.heap.objs.size 0 .none := by
    have := Heap.get?_push_size (s.heap.push { cls := .type "tuple_iterator", data := .fields #[.ref l, .int 0 0] })
      (o := { cls := .type "enumerate", data := .fields #[.none, .bool false, .ref s.heap.objs.size, rawInt 0, .none, .none] }) rfl
    rw [hz] at this; exact this
  refine ⟨⟨_, he, rfl⟩, h _ he ⟨_, Heap.get?_push_of_some _ (Heap.get?_push_size _ rfl), rfl, rfl⟩ (by rw [Heap.size_push, hz]) fun b o x => Heap.get?_push_of_some _ (Heap.get?_push_of_some _ x)⟩
/-! ### t[::-1] -/
end
end DL
namespace DL
open PySem PySem.Spec PyProof.Rows L2
section
variable {X : Cx}
/-- enumerate of a tuple: each item in a new pair -/
def IteT (K : PySem.W.Frag) (a : Addr) : It :=
  ⟨fun i H => ∃ (xs : List V) (x : V), SqT K H a xs ∧ xs[i]? = some x, fun i H v H' => ∃ T x, v = .ref T ∧ H T = none ∧ H' = upd H T (.tup [.int (i : Nat), x]) ∧ ∀ xs, SqT K H a xs → xs[i]? = some x, fun i H => ∃ xs : List V, SqT K H a xs ∧ xs.length ≤ i⟩
theorem turn_enumT {P : Program} {w : PySem.World} {K : PySem.W.Frag} {elts : List Expr} {kk : Nat} {tpos : Pos} (a e it : Addr) :
    Turn P w K (.Tuple elts kk tpos) (IteT K a) [e, it] e (fun i h => (∃ old, IsEnum h e it ((i : Nat) : Int) old) ∧ h.IsTupleIter it a i ∧ e ≠ it) where
  mem := by simp
  obj := fun i h st b hb => by
    obtain ⟨⟨old, he⟩, ⟨o, ho, hc, hd⟩, _⟩ := st
    have e' : b = e ∨ b = it := by simpa using hb
    rcases e' with z | z
    · rw [z]; exact ⟨_, he, fun v q => nomatch q⟩
    · rw [z]; exact ⟨o, ho, fun v q => by rw [hd] at q; cases q⟩
  keep := fun i h h' st k => let ⟨⟨old, he⟩, hi, hne⟩ := st; ⟨⟨old, k e (by simp) _ he⟩, hi.at fun o q => k it (by simp) o q, hne⟩
  item := by
    intro X hP hw hK hc i pins s σ H E I hf st hg
    subst hP hw hK
    obtain ⟨⟨old, he⟩, hit, hne⟩ := st
    obtain ⟨xs, x, hq, hx⟩ := hg
    obtain ⟨its, rv, p, hz⟩ := I.tuple hq
    obtain ⟨u, hu, ru⟩ := rv.get hx
    have hel : e < s.heap.objs.size := Heap.lt_size he
    have hil : it < s.heap.objs.size := by obtain ⟨_, q, _⟩ := hit; exact Heap.lt_size q
    have hpT : s.heap.IsTuple a its.toArray := p
    have nea : e ≠ a := fun z => by
      obtain ⟨o, h1, h2, _⟩ := hpT
      subst z
      rw [show s.heap.get? e = some _ from he] at h1
      cases h1
      exact absurd (Value.type.inj h2) (by decide)
    have nia : a ≠ it := fun z => by
      obtain ⟨o, h1, h2, _⟩ := hpT
      obtain ⟨o2, h3, h4, _⟩ := hit
      subst z
      rw [h1] at h3
      cases h3
      rw [h2] at h4
      exact absurd (Value.type.inj h4) (by decide)
    have hui : its.toArray[i]? = some u := by simpa using hu
    have hlt : i < its.toArray.size := (Array.getElem?_eq_some_iff.mp hui).1
    refine wpAny_pyNext_enum_itemD (Draws.tuple (A := X.A.in1) (I.ok.hd hc) it a nia its.toArray) he ⟨hit, hpT⟩ hlt hne (by simp; exact ⟨hne, nea⟩) fun x' h' tk hx' ho hst' hT hsz hk => ?_
    have ex : x' = u := by
      rw [hui] at hx'
      exact (Option.some.inj hx').symm
    subst ex
    refine ⟨_, rfl, wpAny_letOwnedTupleGo_enum (s := { s with heap := h', toks := tk + 1 }) ho fun h'' he' sb => ?_⟩
    have hT2 : h''.get? s.heap.objs.size = some { cls := .type "tuple", data := .seq #[.int i tk, x'] } := (sb.2 _ (Nat.ne_of_gt hel)).trans hT
    have new : ObjOk X.prog X.w (upd H s.heap.objs.size (.tup [.int (i : Nat), x])) h'' s.heap.objs.size (.tup [.int (i : Nat), x]) :=
      ⟨by show 2 ≤ sizeLine; decide, [.int i tk, x'], .cons ⟨_, rfl⟩ (.cons ru .nil), ⟨_, hT2, rfl, _, rfl⟩⟩
    have I1 : Inv X pins σ (upd H s.heap.objs.size (.tup [.int (i : Nat), x])) { s with heap := h'', toks := tk + 1 } :=
      I.turnedNew (ch := [e, it]) (fun b ob hb q => (sb.2 b (fun z => hb (by simp [z]))).trans (hk b ob (fun z => hb (by simp [z])) (fun z => hb (by simp [z])) q)) hf (Nat.le_refl _) new
    refine ⟨.ref s.heap.objs.size, _, I1, rfl, ⟨_, x, rfl, I.hok.fresh (Nat.le_refl _), rfl, fun ys hy => by rw [I.tuple_inj hy hq]; exact hx⟩, ⟨⟨x', ?_⟩, hst'.1.at fun o q => (sb.2 it (Ne.symm hne)).trans q, hne⟩, fun b hb => ?_⟩
    · have e1 : ((i + 1 : Nat) : Int) = (i : Int) + 1 := by omega
      rw [e1]; exact he'
    · have hb' : b < s.heap.objs.size := by
        have e' : b = e ∨ b = it := by simpa using hb
        rcases e' with z | z
        · rw [z]; exact hel
        · rw [z]; exact hil
      rw [upd_ne (Nat.ne_of_lt hb')]
      exact (hf b hb).1
  done := by
    intro X hP hw hK hc i pins s σ H E I hf st hg
    subst hP hw hK
    obtain ⟨⟨old, he⟩, hit, hne⟩ := st
    obtain ⟨xs, hq, hx⟩ := hg
    obtain ⟨its, rv, p, hz⟩ := I.tuple hq
    obtain ⟨f0, f1, f2, f3, f4, f5⟩ := hf it (by simp)
    have hl := rv.length
    have hpT : s.heap.IsTuple a its.toArray := p
    have hT : s.TypeIs (.ref e) "enumerate" := ⟨_, he, rfl⟩
    unfold pyNext
    refine wpAny_bind (wpAny_attempt (wpAny_callSpecial?_slot (name := Str.ofString "__next__") hT F.slot_enumerate_next
      (wpAny_call_entry F.slot_enumerate_next hT F.entry_enumerate_next ?_ (F.args_enumerate_next_1 _))))
    show wpAny _ _ (field (.ref e) 2 >>= _) _ _ _
    refine wpAny_bind (wpAny_field he rfl (x := .ref it) rfl ?_)
    refine wpAny_bind (wpAny_nextOf_tuple_end (I.ok.hd hc) hit hpT (by simp; omega) fun h' x he' hx' => ?_)
    obtain ⟨o, ho, hcc⟩ := hx'
    refine wpAny_bind (wpAny_isInstance (T := "StopIteration") (b := true) ⟨o, ho, hcc⟩ isSubtype_stop ?_)
    exact wpAny_pure ⟨rfl, I.turned (t' := s.toks) (fun b o hb q => he' b o hb q) f0 f1 f3 f4 f5⟩
  self := fun A i s Q E st h => let ⟨⟨_, he⟩, _⟩ := st; wpAny_pyIter_enum he h
/-- enumerate of a list or a tuple -/
def iEnumU (K : PySem.W.Frag) (ta : TA) : TI := fun σ H R => ta σ H fun vs H1 => ∃ a xs, vs = [.ref a] ∧ ((SqL K H1 a xs ∧ R (Ite K a) H1) ∨ (SqT K H1 a xs ∧ R (IteT K a) H1))
theorem pi_enumU {e : Expr} {ta : TA} {p pos tpos : Pos} {elts : List Expr} {kk : Nat} (hg : Gl X "enumerate") (hm : X.mg "enumerate" = none) (ha : PA X [e] ta) (hs : starEach [e] X.env = [(false, eval e X.env)] := by rfl) :
    PI X (.Tuple elts kk tpos) (.Call (.Name "enumerate" p) [e] [] pos) (iEnumU X.K ta) := by
  refine ⟨fun pins s σ H R I h => ?_⟩
  refine Call_ (ld_blt I hg hm boot_enumerate (PyProof.Rows.callWith_type1 (thn (ha.run pos pins s σ H _ I h) fun us s1 ⟨vs, H1, I1, r1, q1⟩ => ?_) hs rfl))
  obtain ⟨a, xs, ex, hq⟩ := q1
  subst ex
  cases r1 with
  | cons r rr =>
    cases rr
    cases r
    rcases hq with ⟨hq, q⟩ | ⟨hq, q⟩
    · obtain ⟨its, rv, p', hz⟩ := I1.list hq
      refine call_enumerate_list p'.isList fun h' he hit hsz hk => wpAny_pyIter_enum he ?_
      have I2 : Inv X pins σ H1 { s1 with heap := h' } := I1.kept (t' := s1.toks) hk
      refine ⟨s1.heap.objs.size + 1, [s1.heap.objs.size + 1, s1.heap.objs.size], _, _, H1, rfl, I2, turn_enum a (s1.heap.objs.size + 1) s1.heap.objs.size, ⟨⟨.none, he⟩, hit, Nat.succ_ne_self _⟩, fun b hb => ?_, q⟩
      have e' : b = s1.heap.objs.size + 1 ∨ b = s1.heap.objs.size := by simpa using hb
      have hle : s1.heap.objs.size ≤ b := by
        rcases e' with z | z
        · rw [z]; exact Nat.le_add_right _ _
        · rw [z]; exact Nat.le_refl _
      exact I1.fpOk hle (I1.hok.fresh hle)
    · obtain ⟨its, rv, p', hz⟩ := I1.tuple hq
      refine call_enumerate_tuple (show s1.heap.IsTuple a its.toArray from p') fun h' he hit hsz hk => wpAny_pyIter_enum he ?_
      have I2 : Inv X pins σ H1 { s1 with heap := h' } := I1.kept (t' := s1.toks) hk
      refine ⟨s1.heap.objs.size + 1, [s1.heap.objs.size + 1, s1.heap.objs.size], _, _, H1, rfl, I2, turn_enumT a (s1.heap.objs.size + 1) s1.heap.objs.size, ⟨⟨.none, he⟩, hit, Nat.succ_ne_self _⟩, fun b hb => ?_, q⟩
      have e' : b = s1.heap.objs.size + 1 ∨ b = s1.heap.objs.size := by simpa using hb
      have hle : s1.heap.objs.size ≤ b := by
        rcases e' with z | z
        · rw [z]; exact Nat.le_add_right _ _
        · rw [z]; exact Nat.le_refl _
      exact I1.fpOk hle (I1.hok.fresh hle)
end
end DL

set_option Elab.async false
set_option linter.all false
set_option maxRecDepth 100000
set_option maxHeartbeats 4000000
/-! A4: defs and their calls, objects, fields, properties, operators of own classes. -/
namespace DL
open PySem PySem.Spec PyProof.Rows L2
/-! ### views of objects -/
def ndO : Option Nd → Option (Str × List Str × List D)
  | some (.obj n fs ds) => some (n, fs, ds)
  | _ => Option.none
def asObj (μ : Mu) : D → Option (Str × List Str × List D)
  | .obj n fs ds => some (n, fs, ds)
  | .cell p => ndO (μ p)
  | _ => Option.none
theorem ndO_some {x : Option Nd} {n : Str} {fs : List Str} {ds : List D} (h : ndO x = some (n, fs, ds)) : x = some (.obj n fs ds) := by
  unfold ndO at h
  split at h
  · cases h
    rfl
  · cases h
theorem asObj_rep {c : Ctx} {S : Option SA} {F : Hp} {m : Nat} {I H : Hp} {μ : Mu} {d : D} {v : V} {n : Str} {fs : List Str} {ds : List D} (w : Wd c S F m I μ H) (r : Rep c S I d v) (h : asObj μ d = some (n, fs, ds)) :
    ∃ a dx xs, v = .ref a ∧ H a = some (.ins (c.cl n) dx (List.zip fs xs)) ∧ Reps c S I ds xs ∧ fs.length = xs.length ∧ n ∈ c.ns := by
  cases r with
  | obj g r l hn =>
    cases h
    exact ⟨_, _, _, rfl, w.ins g, r, l, hn⟩
  | cell =>
    obtain ⟨_, o, r, h2⟩ := w.m _ _ (ndO_some h)
    cases r with
    | obj r l hn => exact ⟨_, _, _, rfl, h2, r, l, hn⟩
  | _ => cases h
def fldD (f : Str) : List Str → List D → Option D
  | g :: gs, d :: ds => if f = g then some d else fldD f gs ds
  | _, _ => Option.none
theorem fld_rep {c : Ctx} {S : Option SA} {I : Hp} {f : Str} {d : D} : ∀ {fs : List Str} {ds : List D} {xs : List V}, Reps c S I ds xs → fldD f fs ds = some d → ∃ x, (List.zip fs xs).lookup f = some x ∧ Rep c S I d x
  | [], _, _, _, h => by simp [fldD] at h
  | _ :: _, _, _, .nil, h => by simp [fldD] at h
  | g :: gs, _, _, .cons (x := x) r rs, h => by
    unfold fldD at h
    by_cases e : f = g
    · rw [if_pos e] at h
      cases h
      subst e
      exact ⟨x, by simp [List.lookup], r⟩
    · rw [if_neg e] at h
      obtain ⟨y, h1, h2⟩ := fld_rep rs h
      refine ⟨y, ?_, h2⟩
      rw [List.zip_cons_cons, List.lookup_cons, show (f == g) = false from beq_eq_false_iff_ne.mpr e]
      exact h1
/-- a field is stored -/
def putN (f : Str) (d : D) : List Str → List D → List Str × List D
  | g :: gs, x :: xs => if g = f then (g :: gs, d :: xs) else ((g :: (putN f d gs xs).1), (x :: (putN f d gs xs).2))
  | gs, xs => (gs ++ [f], xs ++ [d])
theorem putN_rep {c : Ctx} {S : Option SA} {I : Hp} {f : Str} {d : D} {v : V} (r : Rep c S I d v) : ∀ {fs : List Str} {ds : List D} {xs : List V}, Reps c S I ds xs → fs.length = xs.length →
    ∃ ys, Reps c S I (putN f d fs ds).2 ys ∧ (putN f d fs ds).1.length = ys.length ∧ putF f v (List.zip fs xs) = List.zip (putN f d fs ds).1 ys
  | [], _, _, .nil, _ => ⟨[v], .cons r .nil, rfl, rfl⟩
  | [], _, _ :: _, .cons _ _, h => by cases h
  | _ :: _, _, [], .nil, h => by cases h
  | g :: gs, _, x :: xs, .cons h rs, l => by
    unfold putN
    by_cases e : g = f
    · rw [if_pos e]
      refine ⟨v :: xs, .cons r rs, by simpa using l, ?_⟩
      rw [List.zip_cons_cons, List.zip_cons_cons]
      show (if g = f then _ else _) = _
      rw [if_pos e]
    · rw [if_neg e]
      obtain ⟨ys, h1, h2, h3⟩ := putN_rep (f := f) r rs (by simpa using l : gs.length = xs.length)
      refine ⟨x :: ys, .cons h h1, by simpa using h2, ?_⟩
      rw [List.zip_cons_cons, List.zip_cons_cons, ← h3]
      show (if g = f then _ else _) = _
      rw [if_neg e]
/-! ### wishes -/
def wCall (s : WP) (dd : List D) (a : WA) : WE := fun e μ Q X => a e μ (fun ds μ1 => s (ds ++ dd) μ1 Q X) X
/-- an instance of the class n without an attribute m -/
def isOf (n m : Str) (μ : Mu) (x : D) (P : Prop) : Prop := match asObj μ x with
  | some (k, fs, _) => k = n ∧ m ∉ fs ∧ P
  | Option.none => False
theorem isOf_cases {n m : Str} {μ : Mu} {x : D} {P : Prop} (h : isOf n m μ x P) : ∃ fs ds, asObj μ x = some (n, fs, ds) ∧ m ∉ fs ∧ P := by
  unfold isOf at h
  split at h
  · rename_i k fs ds e
    obtain ⟨rfl, h1, h2⟩ := h
    exact ⟨fs, ds, e, h1, h2⟩
  · exact h.elim
def wMeth (n m : Str) (s : WP) (dd : List D) (r : WE) (a : WA) : WE := fun e μ Q X => r e μ (fun x μ1 => isOf n m μ1 x (a e μ1 (fun ds μ2 => s (x :: (ds ++ dd)) μ2 Q X) X)) X
def wProp (n f : Str) (s : WP) (r : WE) : WE := fun e μ Q X => r e μ (fun x μ1 => isOf n f μ1 x (s [x] μ1 Q fun _ _ => False)) X
def wFld (n f : Str) (r : WE) : WE := fun e μ Q X => r e μ (fun x μ1 => match asObj μ1 x with
  | some (k, fs, ds) => k = n ∧ (match fldD f fs ds with
    | some d => Q d μ1
    | Option.none => False)
  | Option.none => False) X
def wSetF (n f : Str) (o v : WE) : WS := fun e μ E => v e μ (fun d μ1 => o e μ1 (fun x μ2 => match x with
  | .cell p => (match ndO (μ2 p) with
    | some (k, fs, ds) => k = n ∧ fs.length < 1000 ∧ E.nx e (up μ2 p (.obj k (putN f d fs ds).1 (putN f d fs ds).2))
    | Option.none => False)
  | _ => False) fun d μ1 => E.xp d e μ1) fun d μ1 => E.xp d e μ1
def wMake (m : Bool) (n : Str) (s : WP) (dd : List D) (a : WA) : WE := fun e μ Q X => a e μ (fun ds μ1 => ∀ p, μ1 p = Option.none → s (.cell p :: (ds ++ dd)) (up μ1 p (.obj n [] [])) (fun r μ2 => r = .none ∧ (match μ2 p with
  | some nd => sett m Q (.n nd) (del μ2 p)
  | Option.none => False)) X) X
/-- a def of n parameters, N names -/
def initE (N : Nat) (ds : List D) : EnvD := ds.map some ++ List.replicate (N - ds.length) Option.none
def wDef (n N : Nat) (b : WS) : WP := fun ds μ Q X => ds.length = n ∧ b (initE N ds) μ ⟨fun _ μ1 => Q .none μ1, Q, fun _ _ => False, fun _ _ => False, fun d _ μ1 => X d μ1⟩
/-! ### a def's promise -/
def SpW (c : Ctx) (s : WP) (k : Nat) : Sp := fun vs H Q Ex => ∃ S F n I μ ds Qd Xd, n + k ≤ LIM ∧ Wd c S F n I μ H ∧ Reps c S I ds vs ∧ s ds μ Qd Xd ∧ QV c S F (n + k) I Qd Q ∧ ∀ d μ' cls dx I' H', Xd d μ' → Same I I' → Wd c S F (n + k) I' μ' H' → ErrAt c S I' d cls dx → Ex cls dx H'
/-- what a def asks of the calls around it: nothing, or that no repr is under way -/
class Gds where
  ok : Around → Prop
  in1 : ∀ {A : Around}, ok A → ok A.in1
  deeper : ∀ {A : Around} {e : Env}, ok A → ok (A.deeper e)
  tyc : ∀ {A : Around} {us : Args}, ok A → ok (A.under (.builtin "type.__call__" us))
theorem guards_tyc {A : Around} {us : Args} (gd : A.guards = some []) : (A.under (.builtin "type.__call__" us)).guards = some [] := by
  first | exact gd | (simpa [Around.under, Code.isGuard, guardIds] using gd)
/-- no repr is under way -/
instance (priority := low) gdsR : Gds := ⟨fun A => A.guards = some [], fun h => h, fun h => h, guards_tyc⟩
/-- nothing is asked -/
@[reducible] def gdsT : Gds := ⟨fun _ => True, fun h => h, fun h => h, fun h => h⟩
variable [Gds]
structure FnW (P : Program) (w : PySem.World) (K : PySem.W.Frag) (mg : Str → Option Value) (base : Heap) (k : Nat) (f : Addr) (fd : FuncData) (ps : List Str) (sp : Sp) : Prop where
  len : ∀ vs H Q E, sp vs H Q E → vs.length = ps.length
  run : ∀ (A : Around) (outer : List Env) (s : Shared) (H : Hp) (args : Args) (us : List Value) (vs : List V) (Q : VK) (E : XK), Gds.ok A → Room k A → Env0 P w K mg base A outer s H →
    BindsTo s fd args (ps.zip us) → Vals vs us → sp vs H Q E → codeAny (model P w) A (.call (.ref f) args) (CR (L2.CX P w) outer P w H s Q E) s
/-- a def's code object -/
def codeAt (K : PySem.W.Frag) (f : Addr) : Addr := match K.lookup f with
  | some ⟨_, _, .func fd, _⟩ => (match fd.code with
    | .ref c => c
    | _ => 0)
  | _ => 0
theorem codeAt_eq {K : PySem.W.Frag} {f : Addr} {oc : Value} {od : Option Addr} {osl : Array (Option Value)} {fd : FuncData} {q : Str} (lk : K.lookup f = some ⟨oc, od, .func fd, osl⟩) (h : PySem.W.codeIn K fd.code q = true) : fd.code = .ref (codeAt K f) := by
  unfold codeAt
  rw [lk]
  show fd.code = .ref (match fd.code with | .ref c => c | _ => 0)
  cases e : fd.code with
  | ref c => rfl
  | _ =>
    rw [e] at h
    cases h
section
variable {P : Program} {w : PySem.World} {K : PySem.W.Frag} {mg : Str → Option Value} {base : Heap} {k : Nat} {f : Addr} {fd : FuncData} {ps : List Str} {sp : Sp}
theorem fnW_of {x qual : Str} {pa : Arguments} {bd : List Stmt} {sc : Scope} {dvs : List V} {kws : List (Str × V)} {N : List Str} (F : FunD K x qual pa bd sc dvs kws f fd) (Sc : FnScope N ps sc) (len : ∀ vs H Q E, sp vs H Q E → vs.length = ps.length)
    (hb : ∀ (A : Around) (outer : List Env) (s : Shared) (H : Hp) (vs : List V) (Q : VK) (E : XK), Gds.ok (A.deeper (envOfC qual sc s.heap.objs.size f (.ref (codeAt K f)))) → Room k (A.deeper (envOfC qual sc s.heap.objs.size f (.ref (codeAt K f)))) → sp vs H Q E →
      ∃ t, PSs (cxOf (L2.CX P w) P w K mg base N qual sc f (.ref (codeAt K f)) A outer s H E) bd t ∧ t { nx := fun _ H' => Q .non H', rt := Q } (start N vs) H) : FnW P w K mg base (k + 1) f fd ps sp := by
  obtain ⟨oc, od, dV, kV, doc, pm, an, cdv, ct, osl, rfl, lk, hc, _, _⟩ := F.ex
  have hcd : cdv = .ref (codeAt K f) := codeAt_eq (fd := PySem.W.fnOf x qual pa bd sc dV kV doc pm an cdv ct) lk hc
  subst hcd
  refine ⟨len, fun A outer s H args us vs Q E gd room en bi re hs => ?_⟩
  have many := len _ _ _ _ hs
  have kin : K.In s.heap := en.mod.kin.keeps fun b o z => (en.bs b o z).1
  have nol : s.heap.NoLimit := en.mod.nolimit.keeps fun b o z => (en.bs b o z).1
  have kinds : ∀ y ∈ ps.zip us, sc.names.lookup y.1 = some .local ∨ (sc.names.lookup y.1 = some .cell ∧ ((cellsFrom (s.heap.objs.size + 1) sc.names []).lookup y.1).isSome = true) := by
    rintro ⟨n, v⟩ hy
    have hp := Sc.par n (List.of_mem_zip hy).1
    rcases hp with z | z
    · exact .inl z
    · exact .inr ⟨z, PySem.W.cellsFrom_some _ _ _ (.inl z)⟩
  have after : ∀ s1 : Shared, InCallC s s.heap.objs.size (bindL (envOfC qual sc s.heap.objs.size f (.ref (codeAt K f))).kindOf (ps.zip us) fun _ => none) (cellsFrom (s.heap.objs.size + 1) sc.names [])
        (bindC (envOfC qual sc s.heap.objs.size f (.ref (codeAt K f))).kindOf (ps.zip us) fun _ => none) s1 → s1.heap.NoLimit ∧ codeAny (model P w) A (.func bd (envOfC qual sc s.heap.objs.size f (.ref (codeAt K f)))) (CR (L2.CX P w) outer P w H s Q E) s1 := fun s1 x1 => by
    refine ⟨nol.keeps x1.toInCall.keep, codeAny_func ?_⟩
    obtain ⟨t, ht, hq⟩ := hb A outer s H vs Q E (Gds.deeper gd) (room.deeper _) hs
    have J : Inv (cxOf (L2.CX P w) P w K mg base N qual sc f (.ref (codeAt K f)) A outer s H E) [] (start N vs) H s1 := inv_start Sc room.hd en many re x1
    refine wpAny_mono (ht.run [] s1 (start N vs) H _ J hq) (fun fl s2 z => ?_) fun e s2 z => z
    cases fl with
    | ret u =>
      obtain ⟨v, σ2, H2, J2, rv, q2⟩ := z
      exact ⟨v, H2, J2.os, J2.bare, J2.base, J2.hok, rv, q2⟩
    | next =>
      obtain ⟨σ2, H2, J2, q2⟩ := z
      exact ⟨.non, H2, J2.os, J2.bare, J2.base, J2.hok, rfl, q2⟩
    | brk => exact z.elim fun _ z => z.elim fun _ z => False.elim z.2
    | cont => exact z.elim fun _ z => z.elim fun _ z => False.elim z.2
  refine codeAny_call_function room.depth (kin _ _ lk) rfl Sc.co Sc.gen rfl (PySem.W.codeRec_of kin hc) (bi _ _ _ _ (wpAny_newFunctionEnv_cells Sc.kind kinds fun env he s1 x1 => ?_))
  subst he
  exact after s1 x1
end
theorem SpW.len {c : Ctx} {n N : Nat} {b : WS} {k : Nat} {ps : List Str} (hn : n = ps.length) {vs : List V} {H : Hp} {Q : VK} {Ex : XK} (h : SpW c (wDef n N b) k vs H Q Ex) : vs.length = ps.length := by
  obtain ⟨S, F, m, I, μ, ds, Qd, Xd, hl, w, r, h, _⟩ := h
  rw [← r.length, h.1, hn]
/-- a def's body runs -/
theorem run_wDef {c : Ctx} {n : Nat} {b : WS} {k kb : Nat} {N : List Str} {vs : List V} {H : Hp} {Q : VK} {Ex : XK} (h : SpW c (wDef n N.length b) k vs H Q Ex) (hk : kb ≤ k) : ldS c (fun cls d _ H => Ex cls d H) kb b { nx := fun _ H' => Q .non H', rt := Q } (L2.start N vs) H := by
  obtain ⟨S, F, m, I, μ, ds, Qd, Xd, hl, w, r, ⟨hn, h⟩, q, x⟩ := h
  refine ⟨S, F, m, I, μ, initE N.length ds, _, by omega, ?_, w, h, ⟨fun e' μ' σ' I' H' p s r' w' => q .none μ' .non I' H' p s (w'.up (by omega)) .none, fun d μ' v I' H' p s w' r' => q d μ' v I' H' p s (w'.up (by omega)) r', fun _ _ _ _ _ p => p.elim, fun _ _ _ _ _ p => p.elim, fun d e' μ' cls dx σ' I' H' p s _ w' er => x d μ' cls dx I' H' p s (w'.up (by omega)) er⟩⟩
  unfold initE L2.start
  rw [r.length]
  exact EnvR.init _ r
/-- a def with its promise -/
def OkW (P : Program) (w : PySem.World) (c : Ctx) (mg : Str → Option Value) (base : Heap) (k : Nat) (f : Addr) (ps : List Str) (s : WP) (kf : Nat) (dvs : List V) : Prop :=
  ∃ fd, FnW P w c.K mg base k f fd ps (SpW c s kf) ∧ Binds c.K fd ps [] ∧ PySem.W.keepIn c.K (.ref f) = true ∧ ∃ ds, Vals dvs ds ∧ Binds c.K fd ps ds
section
variable {X : Cx} {c : Ctx} {W : WX} {k kf ka kb ko : Nat} {f C : Addr} {fd : FuncData} {ps : List Str} {sp : Sp} {s : WP} {dvs : List V} {dv : List Value} {dd : List D}
theorem FnW.mono {j : Nat} (F : FnW X.prog X.w X.K X.mg X.base j f fd ps sp) (h : j ≤ k) : FnW X.prog X.w X.K X.mg X.base k f fd ps sp := ⟨F.len, fun A outer s H args us vs Q E gd hr => F.run A outer s H args us vs Q E gd (hr.mono h)⟩
/-- the callee runs -/
theorem run_fnW {pins : List (Addr × Obj)} {σ : L2.St} {H : Hp} {s : Shared} {Q : VK} {us : List Value} {vs : List V} (F : FnW X.prog X.w X.K X.mg X.base k f fd ps sp) (gd : Gds.ok X.A) (hr : Room k X.A) (hb : Binds X.K fd ps dv) (hd : Vals dvs dv) (tk : Takes X W)
    (J : Inv X pins σ H s) (r : Vals vs us) (h : sp (vs ++ dvs) H Q fun cls d H' => W cls d σ H') : wpAny (model X.prog X.w) X.A (call (.ref f) us) (EP X pins σ Q) X.xe s := by
  have r2 : Vals (vs ++ dvs) (us ++ dv) := r.append hd
  have hl : (us ++ dv).length = ps.length := by rw [← r2.length]; exact F.len _ _ _ _ h
  refine wpAny_call (codeAny_mono (F.run X.A X.stack s H ⟨us, []⟩ (us ++ dv) (vs ++ dvs) Q _ gd hr J.env0 (hb s us J.kIn hl) r2 h) fun r s' hq => ?_)
  cases r with
  | error e => exact tk e s' (XE.of_call J (fun _ _ _ h => h) hq)
  | ok fl =>
    cases fl with
    | ret u => exact J.after hq
    | next => exact False.elim hq
    | brk => exact False.elim hq
    | cont => exact False.elim hq
/-- a call as a wish: the arguments, then the promise -/
theorem ld_call {wr : WA} {σ : L2.St} {H : Hp} {Q : VK} (hd : ∀ S I, Reps c S I dd dvs) (h : ldE c W (ka + kf) (wCall s dd wr) σ H Q) : ldA c W ka wr σ H fun vs H1 => SpW c s kf (vs ++ dvs) H1 Q fun cls d H' => W cls d σ H' := by
  obtain ⟨S, F, n, I, μ, e, Qd, Xd, hl, he, hw, h, q, x⟩ := h
  refine ⟨S, F, n, I, μ, e, _, Xd, by omega, he, hw, h, fun ds μ1 vs I1 H1 pa s1 w1 ra => ?_, x.mono (by omega) (Same.refl I)⟩
  exact ⟨S, F, n + ka, I1, μ1, _, Qd, Xd, by omega, w1, ra.append (hd S I1), pa, q.mono (by omega) s1, fun d μ' cls dx I' H' p s2 w' er => x d μ' cls dx I' H' p (s1.trans s2) (w'.up (by omega)) er⟩
variable {x m : Str} {p pos apos : Pos} {a o : Expr} {es : List Expr} {wr : WA} {wo : WE}
/-- f(a, ..) -/
theorem g_call (F : FnW X.prog X.w X.K X.mg X.base k f fd ps (SpW c s kf)) (gd : Gds.ok X.A) (hr : Room k X.A) (hg : Gl X x) (hm : X.mg x = some (.ref f)) (hk : PySem.W.keepIn X.K (.ref f) = true) (hb : Binds X.K fd ps dv) (hd : Vals dvs dv) (hdd : ∀ S I, Reps c S I dd dvs) (tk : Takes X W)
    (ha : GA X c W ka (a :: es) wr) (hdb : (x == ("__debug__" : Str)) = false := by decide) (he : starEach (a :: es) X.env = (false, eval a X.env) :: starEach es X.env := by rfl) (hpl : (backTo pos (starEach es X.env)).any (·.1) = false := by rfl) :
    GE X c W (ka + kf) (.Call (.Name x p) (a :: es) [] pos) (wCall s dd wr) := by
  refine ⟨fun pins s σ H Q J h => ?_⟩
  refine wpAny_Call_Name_kw (ld_glob J hg hm ?_ hdb)
  refine PySem.W.callWith_K (h₀ := X.base) J.ok.mod.kin hk (thn (ha.run pos pins s σ H _ J (ld_call hdd h)) fun us s1 ⟨vs, H1, I1, r, q⟩ => ⟨I1.kIn, ?_⟩) he hpl
  exact run_fnW F gd hr hb hd tk I1 r q
/-! properties, fields -/
theorem getprop_okW {pr g aa dx : Addr} {fs : List (Str × V)} {pins : List (Addr × Obj)} {σ : L2.St} {H : Hp} {s : Shared} {Q : VK} {b : Bool} {E' : Value → Shared → Prop} (J : Inv X pins σ H s) (ea : H aa = some (.ins C dx fs)) (cc : Cls X.K C) (hp : PropOf X.K C m pr g)
    (F : FnW X.prog X.w X.K X.mg X.base k g fd ps sp) (gd : Gds.ok X.A) (hr : Room (k + 1) X.A) (hb : Binds X.K fd ps []) (h : sp [.ref aa] H Q fun _ _ _ => False) : wpAny (model X.prog X.w) X.A (getAttr (.ref aa) m b) (EP X pins σ Q) E' s := by
  obtain ⟨mA, O, _, _, _, _⟩ := ins_get J.hok ea
  obtain ⟨od, Jx, _⟩ := O.look
  obtain ⟨rest, hrec⟩ := hp.rec_
  have I1 := J.tok (s.toks + 1)
  have hl : ([Value.ref aa] ++ ([] : List Value)).length = ps.length := by
    rw [← F.len _ _ _ _ h]
    rfl
  have hc : (PySem.W.clsIn X.K C).isSome = true := by
    obtain ⟨cd, hc, _⟩ := PySem.W.any_some cc.hd
    rw [hc]
    rfl
  have hbs := hb { s with toks := s.toks + 1 } [.ref aa] I1.kIn hl
  rw [List.append_nil] at hbs
  refine PySem.W.get_bind J.kIn Jx (PySem.W.plainGet_of (cc.get m)).1 (PySem.W.findObj_data hc hp.at_ hp.get hp.tak) (PySem.W.plainGet_of (cc.get m)).2 (wpAny_call (PySem.W.prop_get (s := { s with toks := s.toks + 1 }) J.kIn hrec ?_))
  refine codeAny_mono (F.run X.A.in1 X.stack { s with toks := s.toks + 1 } H ⟨[.ref aa], []⟩ [.ref aa] [.ref aa] Q _ (Gds.in1 gd) hr.in1 I1.env0.in1 hbs (.cons rfl .nil) h) fun r s' hq => ?_
  cases r with
  | error er =>
    obtain ⟨_, _, _, _, _, _, _, _, _, _, _, _, z⟩ := hq
    exact z.elim
  | ok fl =>
    cases fl with
    | ret u =>
      obtain ⟨v, H', I3, rv, q3⟩ := I1.after hq
      show wpAny _ _ (handedOut u) _ _ _
      rw [PySem.W.handedOut_of (handed_of rv)]
      exact wpAny_pure ⟨v, H', I3, rv, q3⟩
    | next => exact False.elim hq
    | brk => exact False.elim hq
    | cont => exact False.elim hq
theorem g_prop {n : Str} {pr g : Addr} (ho : GE X c W ko o wo) (cc : Cls X.K (c.cl n)) (hp : PropOf X.K (c.cl n) m pr g) (F : FnW X.prog X.w X.K X.mg X.base k g fd ps (SpW c s kf)) (gd : Gds.ok X.A) (hr : Room (k + 1) X.A) (hb : Binds X.K fd ps [])
    (hab : attributeBase o m X.env (eval o X.env) = eval o X.env := by rfl) : GE X c W (ko + kf) (.Attribute o m pos) (wProp n m s wo) := by
  refine ⟨fun pins sh σ H Q J h => ?_⟩
  have h2 : ldE c W ko wo σ H fun x H1 => ∃ a dx fs, x = .ref a ∧ H1 a = some (.ins (c.cl n) dx fs) ∧ SpW c s kf [.ref a] H1 Q fun _ _ _ => False := by
    obtain ⟨S, F', nn, I, μ, e, Qd, Xd, hl, he, hw, h, q, x⟩ := h
    refine ⟨S, F', nn, I, μ, e, _, Xd, by omega, he, hw, h, fun d μ1 v I1 H1 pa s1 w1 ra => ?_, x.mono (by omega) (Same.refl I)⟩
    obtain ⟨fs, ds, e1, e2, pa⟩ := isOf_cases pa
    obtain ⟨a, dx, xs, rfl, h1, r1, l1⟩ := asObj_rep w1 ra e1
    exact ⟨a, dx, _, rfl, h1, S, F', nn + ko, I1, μ1, [d], Qd, _, by omega, w1, .cons ra .nil, pa, q.mono (by omega) s1, fun _ _ _ _ _ _ z => z.elim⟩
  refine attr_of hab (thn (ho.run pins sh σ H _ J h2) fun u s1 ⟨x, H1, I1, rx, a, dx, fs, ex, ea, q⟩ => ?_)
  subst ex
  obtain rfl : u = Value.ref a := rx
  exact getprop_okW I1 ea cc hp F gd hr hb q
theorem g_fld {n : Str} (ho : GE X c W ko o wo) (cc : Cls X.K (c.cl n)) (hn : NoAttr X.K (c.cl n) m) (hb : attributeBase o m X.env (eval o X.env) = eval o X.env := by rfl) : GE X c W ko (.Attribute o m pos) (wFld n m wo) := L2.PE.imp (pe_fld ho hb) fun σ H Q h => by
  obtain ⟨S, F', nn, I, μ, e, Qd, Xd, hl, he, hw, h, q, x⟩ := h
  refine ⟨S, F', nn, I, μ, e, _, Xd, hl, he, hw, h, fun d μ1 v I1 H1 pa s1 w1 ra => ?_, x⟩
  dsimp only at pa
  split at pa
  · rename_i k fs ds e1
    obtain ⟨rfl, pa⟩ := pa
    split at pa
    · rename_i d2 e2
      obtain ⟨a, dx, xs, rfl, h1, r1, l1⟩ := asObj_rep w1 ra e1
      obtain ⟨y, h2, h3⟩ := fld_rep r1 e2
      exact ⟨_, _, _, _, y, rfl, h1, cc, hn, h2, q d2 μ1 y I1 H1 pa s1 w1 h3⟩
    · exact pa.elim
  · exact pa.elim
theorem g_setF {n : Str} {v : Expr} {wv : WE} {pos' : Pos} (ho : GE X c W ko o wo) (hv : GE X c W ka v wv) (cc : Cls X.K (c.cl n)) (hn : NoAttr X.K (c.cl n) m) (hs : swapsWith v (some (.Attribute o m pos')) pos.line X.env = pure false := by rfl) :
    GS X c W (ka + ko) (.Assign [.Attribute o m pos'] v pos) (wSetF n m wo wv) := L2.PS.imp (ps_fld ho hv hs) fun K σ H h => by
  obtain ⟨S, F', nn, I, μ, e, E, hl, he, hw, h, q⟩ := h
  refine ⟨S, F', nn, I, μ, e, _, _, by omega, he, hw, h, fun d μ1 v I1 H1 pa s1 w1 ra => ?_, (q.x he).mono (by omega) (Same.refl I)⟩
  refine ⟨S, F', nn + ka, I1, μ1, e, _, _, by omega, he.mono s1, w1, pa, fun d2 μ2 v2 I2 H2 pb s2 w2 rb => ?_, (q.x he).mono (by omega) s1⟩
  dsimp only at pb
  split at pb
  · split at pb
    · rename_i pp _ k fs ds e1
      obtain ⟨rfl, hz, pb⟩ := pb
      cases rb
      obtain ⟨_, o2, r2, h2⟩ := w2.m _ _ (ndO_some e1)
      cases r2 with
      | @obj _ dx _ _ xs r2 l2 hn2 =>
        obtain ⟨ys, g1, g2, g3⟩ := putN_rep (f := m) (ra.mono s2) r2 l2
        refine ⟨_, _, _, _, rfl, h2, cc, hn, by rw [List.length_zip, ← l2, Nat.min_self]; exact hz, ?_⟩
        rw [g3]
        exact q.nx e _ σ I2 _ pb (s1.trans s2) (he.mono (s1.trans s2)) ((w2.put (ndO_some e1) (NdR.obj g1 g2 hn2)).up (by omega))
    · exact pb.elim
  · exact pb.elim
/-! C(..) -/
theorem run_makeW {pins : List (Addr × Obj)} {σ : L2.St} {H : Hp} {s : Shared} {Q : VK} {us : List Value} {vs : List V} (M : Mk X.K C f) (F : FnW X.prog X.w X.K X.mg X.base k f fd ps sp) (gd : Gds.ok X.A) (hr : Room (k + 1) X.A) (hb : Binds X.K fd ps dv) (hd : Vals dvs dv)
    (tk : Takes X W) (J : Inv X pins σ H s) (r : Vals vs us)
    (h : ∀ x dx, H x = none → H dx = none → dx ≠ x → sp (.ref x :: (vs ++ dvs)) (upd (upd H dx (.own x)) x (.ins C dx [])) (fun v H2 => v = .non ∧ Q (.ref x) H2) fun cls d H' => W cls d σ H') :
    wpAny (model X.prog X.w) X.A (call (.ref C) us) (EP X pins σ Q) X.xe s := by
  have hq := h (s.heap.objs.size + 1) s.heap.objs.size (J.hok.fresh (Nat.le_succ _)) (J.hok.fresh (Nat.le_refl _)) (Nat.ne_of_lt (Nat.lt_succ_self _))
  have I2 := Inv.made (C := C) J
  have r2 : Vals (V.ref (s.heap.objs.size + 1) :: (vs ++ dvs)) (Value.ref (s.heap.objs.size + 1) :: (us ++ dv)) := .cons rfl (r.append hd)
  have hl : (Value.ref (s.heap.objs.size + 1) :: us ++ dv).length = ps.length := by
    have e := r2.length
    rw [F.len _ _ _ _ hq] at e
    exact e.symm
  have gd2 : Gds.ok (X.A.under (.builtin "type.__call__" ⟨.ref C :: us, []⟩)) := Gds.tyc gd
  refine wpAny_call (make_map (f := f) J.kIn M.makes M.init (beq_iff_eq.mp M.fn) (codeAny_mono (F.run _ X.stack _ _ ⟨Value.ref (s.heap.objs.size + 1) :: us, []⟩ (Value.ref (s.heap.objs.size + 1) :: (us ++ dv)) _ _ _ gd2 (hr.make C us [])
    (I2.env0.make C us []) (hb _ (Value.ref (s.heap.objs.size + 1) :: us) I2.kIn hl) r2 hq) fun r s' hq' => ?_))
  cases r with
  | error e => exact tk e s' (XE.of_call I2 (fun _ _ _ h => h) hq')
  | ok fl =>
    cases fl with
    | ret u =>
      obtain ⟨v, H', I3, rv, ev, q3⟩ := I2.after hq'
      subst ev
      exact ⟨rv, ⟨V.ref (s.heap.objs.size + 1), H', I3, rfl, q3⟩⟩
    | next => exact False.elim hq'
    | brk => exact False.elim hq'
    | cont => exact False.elim hq'
theorem ld_make {n : Str} {mm : Bool} {σ : L2.St} {H : Hp} {Q : VK} (hns : n ∈ c.ns) (hd : ∀ S I, Reps c S I dd dvs) (h : ldE c W (ka + kf) (wMake mm n s dd wr) σ H Q) : ldA c W ka wr σ H fun vs H1 => ∀ x dx, H1 x = none → H1 dx = none → dx ≠ x →
    SpW c s kf (.ref x :: (vs ++ dvs)) (upd (upd H1 dx (.own x)) x (.ins (c.cl n) dx [])) (fun v H2 => v = .non ∧ Q (.ref x) H2) fun cls d H' => W cls d σ H' := by
  obtain ⟨S, F, nn, I, μ, e, Qd, Xd, hl, he, hw, h, q, x⟩ := h
  refine ⟨S, F, nn, I, μ, e, _, Xd, by omega, he, hw, h, fun ds μ1 vs I1 H1 pa s1 w1 ra p dx hp hdx ne => ?_, x.mono (by omega) (Same.refl I)⟩
  have w2 := w1.frame (p := dx) (u := .own p) hdx
  have hp2 : upd H1 dx (.own p) p = none := by rw [upd_ne (Ne.symm ne)]; exact hp
  have w3 := w2.newCell (p := p) (u := .ins (c.cl n) dx []) (nd := .obj n [] []) hp2 (NdR.obj (fs := []) (xs := []) .nil rfl hns)
  refine ⟨S, F, nn + ka, I1, _, _, _, Xd, by omega, w3, .cons .cell (ra.append (hd S I1)), pa p (w1.fresh hp).2, fun d μ2 v I2 H2 pb s2 w4 rb => ?_, fun d μ' cls dx I' H' p s2 w' er => x d μ' cls dx I' H' p (s1.trans s2) (w'.up (by omega)) er⟩
  obtain ⟨rfl, pb⟩ := pb
  cases rb
  refine ⟨rfl, ?_⟩
  split at pb
  · rename_i nd e1
    obtain ⟨hi, o, r1, h1⟩ := w4.m p nd e1
    have hnc : ∀ a, S = some a → ¬ Cell a p := fun a ea qq => by
      have := ((w4.s a ea).2 p qq).2
      rw [e1] at this
      cases this
    refine (q.sett (m := mm)) _ (del μ2 p) _ I2 H2 pb (s1.trans s2) ((w4.drop fun b nd' e => ?_).up (by omega)) ⟨p, o, rfl, h1, r1, hi, del_same, hnc, w4.nfm e1⟩
    by_cases z : b = p
    · rw [z, del_same] at e
      cases e
    · rw [del_ne z] at e
      exact e
  · exact pb.elim
theorem g_make {n : Str} {mm : Bool} (M : Mk X.K (c.cl n) f) (F : FnW X.prog X.w X.K X.mg X.base k f fd ps (SpW c s kf)) (gd : Gds.ok X.A) (hr : Room (k + 1) X.A) (hg : Gl X x) (hm : X.mg x = some (.ref (c.cl n))) (hb : Binds X.K fd ps dv) (hd : Vals dvs dv) (hdd : ∀ S I, Reps c S I dd dvs) (tk : Takes X W)
    (ha : GA X c W ka (a :: es) wr) (hns : n ∈ c.ns := by decide) (hdb : (x == ("__debug__" : Str)) = false := by decide) (he : starEach (a :: es) X.env = (false, eval a X.env) :: starEach es X.env := by rfl) (hpl : (backTo pos (starEach es X.env)).any (·.1) = false := by rfl) :
    GE X c W (ka + kf) (.Call (.Name x p) (a :: es) [] pos) (wMake mm n s dd wr) := by
  refine ⟨fun pins s σ H Q J h => ?_⟩
  refine wpAny_Call_Name_kw (ld_glob J hg hm ?_ hdb)
  refine PySem.W.callWith_K (h₀ := X.base) J.ok.mod.kin M.kp (thn (ha.run pos pins s σ H _ J (ld_make hns hdd h)) fun us s1 ⟨vs, H1, I1, r, q⟩ => ⟨I1.kIn, ?_⟩) he hpl
  exact run_makeW M F gd hr hb hd tk I1 r q
end
end DL

set_option Elab.async false
set_option linter.all false
set_option maxRecDepth 100000
set_option maxHeartbeats 4000000
/-! A5: operators of own classes, instances called, enumerate, reversal, stars, methods of lists. -/
namespace DL
open PySem PySem.Calls PySem.Spec PyProof.Rows L2
variable [Gds]
def clsOf (μ : Mu) (x : D) : Option Str := (asObj μ x).map fun z => z.1
def wCallI (n : Str) (s : WP) (r : WE) (a : WA) : WE := fun e μ Q X => r e μ (fun x μ1 => clsOf μ1 x = some n ∧ a e μ1 (fun ds μ2 => clsOf μ2 x = some n ∧ s (x :: ds) μ2 Q X) X) X
section
variable {X : Cx} {c : Ctx} {W : WX} {k kf ka kb ko : Nat} {f C : Addr} {fd : FuncData} {ps : List Str} {s : WP} {n : Str}
variable {a b o : Expr} {wa wb wo : WE} {pos : Pos} {es : List Expr} {wr : WA} {m : Bool}
end
/-! ### enumerate, reversal, stars -/
def enumD : Nat → List D → List D
  | _, [] => []
  | i, d :: ds => .tup [.int (i : Int), d] :: enumD (i + 1) ds
theorem enumD_get : ∀ (ds : List D) (k i : Nat), (enumD k ds)[i]? = (ds[i]?).map fun d => .tup [.int ((k + i : Nat) : Int), d]
  | [], _, _ => rfl
  | d :: ds, k, 0 => rfl
  | d :: ds, k, i + 1 => by
    show (enumD (k + 1) ds)[i]? = (ds[i]?).map _
    rw [enumD_get ds (k + 1) i, show k + 1 + i = k + (i + 1) by omega]
theorem enumD_len : ∀ (ds : List D) (k : Nat), (enumD k ds).length = ds.length
  | [], _ => rfl
  | d :: ds, k => by rw [enumD, List.length_cons, List.length_cons, enumD_len ds]
def wiEnum (a : WA) : WI := fun e μ Q X => a e μ (fun ds μ1 => one ds fun d => match sqD μ1 d with
  | some xs => Q ⟨enumD 0 xs, okS d xs⟩ μ1
  | Option.none => False) X
def wRev (m : Bool) (a : WE) : WE := fun e μ Q X => a e μ (fun x μ1 => match x with
  | .tup ds => Q (.tup ds.reverse) μ1
  | x => (match seqL μ1 x with
    | some ds => sett m Q (.n (.list ds.reverse)) μ1
    | Option.none => False)) X
def waStar (a : WE) (r : WA) : WA := fun e μ Q X => a e μ (fun x μ1 => match sqD μ1 x with
  | some ds => r e μ1 (fun es μ2 => Q (ds ++ es) μ2) X
  | Option.none => False) X
section
variable {X : Cx} {c : Ctx} {W : WX} {k ka kb : Nat} {a tg : Expr} {wa : WE} {pos p : Pos} {es : List Expr} {wr : WA} {m : Bool}
/-- what enumerate tells of a sequence that is walked -/
theorem itd_enum {S : Option SA} {F0 I1 : Hp} {J : It} {ds : List D} {ok : Mu → Prop} {sq : Hp → List V → Prop} (h : ∀ F n I μ H, Same I1 I → Wd c S F n I μ H → ok μ → ∃ xs, sq H xs ∧ Reps c S I ds xs)
    (hgo : ∀ i H xs x, sq H xs → xs[i]? = some x → J.go i H) (hy : ∀ i H xs x v H', sq H xs → xs[i]? = some x → J.yld i H v H' → ∃ T, v = .ref T ∧ H T = none ∧ H' = upd H T (.tup [.int (i : Nat), x])) (hst : ∀ i H xs, sq H xs → xs.length ≤ i → J.stop i H) : ItD c S F0 J I1 ⟨enumD 0 ds, ok⟩ := fun F i n I μ H _ s w o => by
  obtain ⟨xs, hq, r⟩ := h F n I μ H s w o
  show (∀ d, (enumD 0 ds)[i]? = some d → _) ∧ ((enumD 0 ds)[i]? = _ → _)
  rw [enumD_get]
  refine ⟨fun d hd => ?_, fun hd => ?_⟩
  · cases hx : ds[i]? with
    | none =>
      rw [hx] at hd
      cases hd
    | some d0 =>
      rw [hx] at hd
      have hd' : D.tup [.int ((0 + i : Nat) : Int), d0] = d := Option.some.inj hd
      obtain ⟨x, hx1, rx⟩ := r.get hx
      refine ⟨hgo i H xs x hq hx1, fun v H' yl => ?_⟩
      obtain ⟨T, e1, hT, e2⟩ := hy i H xs x v H' hq hx1 yl
      have sm : Same I (upd I T (.tup [.int (i : Nat), x])) := same_new (w.fresh hT).1
      refine ⟨_, sm, by rw [e2]; exact w.new hT, ?_⟩
      rw [e1, ← hd', Nat.zero_add]
      exact .tup (.inl upd_same) (.cons .int (.cons (rx.mono sm) .nil))
  · refine hst i H xs hq ?_
    rw [← r.length]
    cases hx : ds[i]? with
    | none => exact List.getElem?_eq_none_iff.mp hx
    | some d0 =>
      rw [hx] at hd
      cases hd
theorem itd_enumL {S : Option SA} {F0 I1 : Hp} {aa : Addr} {ds : List D} {ok : Mu → Prop} (h : ∀ F n I μ H, Same I1 I → Wd c S F n I μ H → ok μ → ∃ xs, SqL c.K H aa xs ∧ Reps c S I ds xs) : ItD c S F0 (Ite c.K aa) I1 ⟨enumD 0 ds, ok⟩ :=
  itd_enum (sq := fun H xs => SqL c.K H aa xs) h (fun i H xs x hq hx => ⟨xs, x, hq, hx⟩) (fun i H xs x v H' hq hx ⟨T, x2, e1, hT, e2, y⟩ => by
    have e3 := y xs hq
    rw [hx] at e3
    have e4 : x = x2 := Option.some.inj e3
    subst e4
    exact ⟨T, e1, hT, e2⟩) fun i H xs hq hl => ⟨xs, hq, hl⟩
theorem itd_enumT {S : Option SA} {F0 I1 : Hp} {aa : Addr} {ds : List D} {ok : Mu → Prop} (h : ∀ F n I μ H, Same I1 I → Wd c S F n I μ H → ok μ → ∃ xs, SqT c.K H aa xs ∧ Reps c S I ds xs) : ItD c S F0 (IteT c.K aa) I1 ⟨enumD 0 ds, ok⟩ :=
  itd_enum (sq := fun H xs => SqT c.K H aa xs) h (fun i H xs x hq hx => ⟨xs, x, hq, hx⟩) (fun i H xs x v H' hq hx ⟨T, x2, e1, hT, e2, y⟩ => by
    have e3 := y xs hq
    rw [hx] at e3
    have e4 : x = x2 := Option.some.inj e3
    subst e4
    exact ⟨T, e1, hT, e2⟩) fun i H xs hq hl => ⟨xs, hq, hl⟩
theorem gi_enum {tpos : Pos} {elts : List Expr} {kk : Nat} (hg : Gl X "enumerate") (hm : X.mg "enumerate" = none) (ha : GA X c W k [a] wr) (hs : starEach [a] X.env = [(false, eval a X.env)] := by rfl) (hK : X.K = c.K := by rfl) : GI X c W k (.Tuple elts kk tpos) (.Call (.Name "enumerate" p) [a] [] pos) (wiEnum wr) := by
  obtain ⟨K, cl, tb, ns, es0⟩ := c
  cases hK
  refine L2.PI.imp (pi_enumU hg hm ha hs) fun σ H R h => ?_
  obtain ⟨S, F, n, I, μ, e, Qd, Xd, hl, he, hw, h, q, x⟩ := h
  refine ⟨S, F, n, I, μ, e, _, Xd, hl, he, hw, h, fun ds μ1 vs I1 H1 p s1 u1 r1 => ?_, x⟩
  obtain ⟨z, rfl, p2⟩ := one_cases p
  obtain ⟨v, rfl, rv⟩ := reps1 r1
  clear p
  split at p2
  · rename_i xs e1
    cases rv with
    | list g r =>
      cases e1
      exact ⟨_, _, rfl, .inl ⟨SqL.of (u1.lst g), q _ μ1 _ I1 H1 F (fun _ _ z => z) p2 s1 u1 (itd_enumL fun F n I2 μ2 H2 s2 w2 _ => ⟨_, SqL.of (w2.lst (s2 _ _ g)), r.mono s2⟩)⟩⟩
    | tup g r =>
      cases e1
      exact ⟨_, _, rfl, .inr ⟨u1.tupH g, q _ μ1 _ I1 H1 F (fun _ _ z => z) p2 s1 u1 (itd_enumT fun F n I2 μ2 H2 s2 w2 _ => ⟨_, w2.tupH (Same.tup s2 g), r.mono s2⟩)⟩⟩
    | script g =>
      cases e1
      exact ⟨_, _, rfl, .inl ⟨u1.seqH g, q _ μ1 _ I1 H1 F (fun _ _ z => z) p2 s1 u1 (itd_enumL fun F n I2 μ2 H2 s2 w2 _ => ⟨_, w2.seqH (s2.seq g), Reps.of_ints⟩)⟩⟩
    | cell =>
      obtain ⟨ys, h1, h2⟩ := u1.cellL e1
      refine ⟨_, _, rfl, .inl ⟨SqL.of h1, q _ μ1 _ I1 H1 F (fun _ _ z => z) p2 s1 u1 (itd_enumL fun F n I2 μ2 H2 s2 w2 o => ?_)⟩⟩
      obtain ⟨zs, h3, h4⟩ := w2.cellL o
      exact ⟨zs, SqL.of h3, h4⟩
    | _ => cases e1
  · exact p2.elim
end
/-! ### methods of lists -/
def isL (μ : Mu) (x : D) : Prop := (seqL μ x).isSome = true
/-- x.m(..) of a list -/
def wLm (m : Bool) (o : WM) (r : WE) (a : WA) : WE := fun e μ Q X => r e μ (fun x μ1 => isL μ1 x ∧ a e μ1 (fun xs μ2 => o x xs μ2 (sett m Q) X) X) X
section
variable {X : Cx} {c : Ctx} {W : WX} {ko ka : Nat} {a o : Expr} {wo : WE} {es : List Expr} {wr : WA} {m : Bool} {name : Str} {id : String}
end
end DL

set_option Elab.async false
set_option linter.all false
set_option maxRecDepth 100000
set_option maxHeartbeats 4000000
/-! Y3: isinstance of an error, whatever dict it has. -/
namespace DL
open PySem PySem.W PySem.Spec PySem.Calls PyProof.Rows L2
section
variable {prog : Program} {w : PySem.World} {A : Around} {E : Value → Shared → Prop} {s : Shared} {K : Frag} {x C : Addr} {ox : Obj} {od : Option Obj}
theorem class_find (T : ExcC K C) : findObj K C od "__class__" = some (.bind (.builtin "getset_descriptor.__get__") (.builtin "object.__class__")) := by
  have hc : (clsIn K C).isSome = true := by
    obtain ⟨cd, z, _⟩ := any_some T.hd
    rw [z]
    rfl
  cases od with
  | none => exact findObj_dataN hc T.ha T.hn T.ht
  | some o => exact findObj_data hc T.ha T.hn T.ht
theorem class_exc {Q : Option Value → Shared → Prop} (T : ExcC K C) (kin : K.In s.heap) (ins : PySem.W.InstAt s.heap x ox C od) (fin : Q (some (.ref C)) { s with toks := s.toks + 1 }) : wpAny (model prog w) A (getAttr? (.ref x) "__class__") Q E s := by
  obtain ⟨hp, gs, dr, tk, osx⟩ := s
  have l0 := ins.type (M := model prog w)
  have l1 := looks_findIn (M := model prog w) kin T.hg
  have l2 := looks_findIn (M := model prog w) kin T.hk
  have l3 := looks_find (M := model prog w) kin ins (class_find T)
  have below : Looks (model prog w) hp (isInstance (.ref x) (.type "BaseException")) true := l0.andThen (looks_subIn kin T.hs)
  have z0 : (false && onTheHeap (Value.builtin "BaseException.__getattribute__")) = false := rfl
  have z2 : (Value.builtin "BaseException.__getattribute__" == Value.builtin "object.__getattribute__") = false := by decide +kernel
  have z1 : (onTheHeap (Value.ref C) && Value.builtin "BaseException.__getattribute__" == Value.builtin "object.__getattribute__") = false := by
    rw [z2]
    rfl
  unfold getAttr? getAttrBy? getAttrBy
  refine wpAny_bind (wpAny_mkText (wpAny_bind (wpAny_attempt (wpAny_holding (wpAny_bind (l0.at (wpAny_bind (l1.at ?_))))))))
  show wpAny _ _ (if (onTheHeap (Value.ref C) && Value.builtin "BaseException.__getattribute__" == Value.builtin "object.__getattribute__") = true then _ else _) _ _ _
  rw [z1, if_neg Bool.false_ne_true]
  unfold getAttrByItsOwn hookBefore
  refine wpAny_bind ?_
  rw [if_pos (show onTheHeap (Value.ref C) = true from rfl)]
  refine l2.at (wpAny_bind (wpAny_attempt (wpAny_holding ?_)))
  unfold callGetattribute
  rw [z0, if_neg Bool.false_ne_true]
  unfold boundAndCalled
  rw [PySem.F.excAttr_ValueError.ga.bind (.ref x)]
  refine wpAny_bind (wpAny_pure ?_)
  show wpAny _ _ (call (.builtin "BaseException.__getattribute__") [.ref x, .str "__class__" tk]) _ _ _
  refine wpAny_call (codeAny_call_builtin PySem.F.excAttr_ValueError.ga.plain PySem.F.entry_bexc_ga (@check_slot (model prog w) _ _ ⟨hp, gs, dr, tk + 1, osx⟩ "BaseException.__getattribute__" "BaseException" "__getattribute__" (.ref x) [.str "__class__" tk] [] _ (by decide +kernel) (by decide +kernel) below (PySem.F.args_bexc_ga (.ref x) (.str "__class__" tk)) ?_))
  unfold Builtin.«object.__getattribute__»
  refine wpAny_bind (wpAny_of_eq (a := ((Value.ref x : Value), [Value.str "__class__" tk])) (by first | rfl | (simp only [slotArgs]; rfl)) (wpAny_bind (wpAny_pure (wpAny_bind (l0.at (wpAny_bind (l3.at ?_)))))))
  show wpAny _ _ (holding [Value.builtin "object.__class__"] (call (.builtin "getset_descriptor.__get__") [.builtin "object.__class__", .ref x, .ref C]) >>= ret) _ _ _
  refine wpAny_bind (wpAny_holding (wpAny_call (class_get (s := ⟨hp, gs, dr, tk + 1, osx⟩) (ox := ox) (od := od) kin ins T.hm (wpAny_pure ?_))))
  show wpAny _ _ (handedOut (.ref C)) _ _ _
  rw [handedOut_of (v := .ref C) rfl]
  first
    | exact wpAny_pure (wpAny_pure fin)
    | exact wpAny_pure fin
    | exact wpAny_pure (wpAny_bind (wpAny_pure (wpAny_pure fin)))
theorem kitx_err (T : ExcC K C) : KitX K (.ref x) (.ref C) (fun h => ∃ ox od, PySem.W.InstAt h x ox C od) where
  ty := fun _ _ _ ⟨_, _, ins⟩ => ins.type
  it := fun _ _ kin _ => by
    obtain ⟨cd, hc, _⟩ := any_some T.hd
    unfold clsIn at hc
    split at hc
    · rename_i _ _ _ _ ho
      intro A' Q' E' s' k q
      unfold isType loadHead
      exact wpAny_bind (wpAny_loadPart (k _ _ (kin _ _ ho)) (wpAny_pure q))
    · cases hc
  ne := fun h tp dd its n sl kin htp => by
    obtain ⟨cd, hc, _⟩ := any_some T.hd
    refine Bool.eq_false_iff.mpr fun q => ?_
    have e : C = tp := Value.ref.inj (beq_iff_eq.mp q)
    subst e
    unfold clsIn at hc
    split at hc
    · rename_i _ _ _ _ ho
      cases (kin _ _ ho).symm.trans htp
    · cases hc
  ca := fun kin ⟨_, _, ins⟩ k => class_exc T kin ins k
end
/-- the error at a as the machine sees it -/
theorem inst_err {X : Cx} {pins : List (Addr × Obj)} {σ : L2.St} {H : Hp} {s : Shared} {a C : Addr} {d : Option Addr} {fs : List Str} {xs : List V} (J : Inv X pins σ H s) (h : H a = some (ErO a (.ref C) d)) (hf : ErF H d fs xs) : ∃ oe od, PySem.W.InstAt s.heap a oe C od ∧ ∀ f v, (List.zip fs xs).lookup f = some v → ∃ o u, od = some o ∧ PySem.W.lookIn f o = some (some u) ∧ RelV v u := by
  obtain ⟨⟨oe, vs, h1, h2, h3⟩, _⟩ := J.hok a _ h
  have no : PySem.W.notCls oe = true := by
    unfold PySem.W.notCls
    rw [h3]
  rcases hf.2 with ⟨rfl, rfl⟩ | ⟨dx, rfl, hd⟩
  · exact ⟨oe, none, ⟨h1, h2.1, no, by rw [h2.2]; trivial⟩, fun f v z => by simp at z⟩
  · obtain ⟨mA, hns, hr⟩ := J.hok dx _ hd
    obtain ⟨od, ho, hl⟩ := lookIn_ns hns
    refine ⟨oe, some od, ⟨h1, h2.1, no, by rw [h2.2]; exact ho⟩, fun f v z => ?_⟩
    obtain ⟨u, hu, ru⟩ := RelO.some_of (v := v) (o := mA f) (by rw [← z]; exact hr f)
    exact ⟨od, u, rfl, by rw [hl, hu], ru⟩
end DL

set_option Elab.async false
set_option linter.all false
set_option maxRecDepth 100000
set_option maxHeartbeats 4000000
/-! A6: equality of data, isinstance, in, repr, fields of errors. -/
namespace DL
open PySem PySem.Spec PyProof.Rows L2
variable [Gds]
mutual
def pd : D → PyData
  | .bool b => .bool b
  | .int i => .int i
  | .str s => .str s
  | .list ds => .list (pds ds)
  | .tup ds => .tuple (pds ds)
  | _ => .none
def pds : List D → List PyData
  | [] => []
  | d :: ds => pd d :: pds ds
end
mutual
/-- data of None, bools, ints, texts, lists, tuples -/
def plainD : D → Bool
  | .none => true
  | .bool _ => true
  | .int _ => true
  | .str _ => true
  | .list ds => plainsD ds
  | .tup ds => plainsD ds
  | _ => false
def plainsD : List D → Bool
  | [] => true
  | d :: ds => plainD d && plainsD ds
end
section
variable {c : Ctx} {S : Option SA} {F : Hp} {n : Nat} {I H : Hp} {μ : Mu}
mutual
theorem rep_dp (w : Wd c S F n I μ H) : ∀ {d : D} {v : V}, Rep c S I d v → plainD d = true → Dp c.K H v (pd d)
  | _, _, .none, _ => by rw [pd]; exact .non; all_goals intros; contradiction
  | _, _, .bool, _ => by rw [pd]; exact .bl _
  | _, _, .int, _ => by rw [pd]; exact .int _
  | _, _, .str, _ => by rw [pd]; exact .str _
  | _, _, .list h r, p => by
    rw [pd]
    rw [plainD] at p
    exact .lst (SqL.of (w.lst h)) (reps_dp w r p)
  | _, _, .tup h r, p => by
    rw [pd]
    rw [plainD] at p
    exact .tup (w.tupH h) (reps_dp w r p)
  | _, _, .dk h r l, p => by simp [plainD] at p
  | _, _, .dt h r l, p => by simp [plainD] at p
  | _, _, .obj h r l _, p => by simp [plainD] at p
  | _, _, .script h, p => by simp [plainD] at p
  | _, _, .state h t, p => by simp [plainD] at p
  | _, _, .ty _, p => by simp [plainD] at p
  | _, _, .cls _, p => by simp [plainD] at p
  | _, _, .err h f r _, p => by simp [plainD] at p
  | _, _, .cell, p => by simp [plainD] at p
theorem reps_dp (w : Wd c S F n I μ H) : ∀ {ds : List D} {vs : List V}, Reps c S I ds vs → plainsD ds = true → DpAll c.K H vs (pds ds)
  | _, _, .nil, _ => by rw [pds]; exact .nil
  | _, _, .cons h r, p => by
    rw [pds]
    rw [plainsD, Bool.and_eq_true] at p
    exact .cons (rep_dp w h p.1) (reps_dp w r p.2)
end
end
/-- a list that is a cell, as it stands -/
def drf (μ : Mu) : D → D
  | .cell p => (match ndL (μ p) with
    | some ds => .list ds
    | Option.none => .cell p)
  | d => d
theorem drf_dp {c : Ctx} {S : Option SA} {F : Hp} {n : Nat} {I H : Hp} {μ : Mu} {d : D} {v : V} (w : Wd c S F n I μ H) (r : Rep c S I d v) (p : plainD (drf μ d) = true) : Dp c.K H v (pd (drf μ d)) := by
  cases d with
  | cell a =>
    cases r
    cases e : ndL (μ a) with
    | none =>
      have e2 : drf μ (.cell a) = .cell a := by
        simp only [drf, e]
      rw [e2] at p
      simp [plainD] at p
    | some ds =>
      have e2 : drf μ (.cell a) = .list ds := by
        simp only [drf, e]
      rw [e2] at p ⊢
      rw [pd]
      rw [plainD] at p
      obtain ⟨xs, h1, h2⟩ := w.cellL e
      exact .lst (SqL.of h1) (reps_dp w h2 p)
  | _ => exact rep_dp w r p
/-- == of plain data -/
structure EqOk (a b : D) : Prop where
  pa : plainD a = true
  pb : plainD b = true
  sa : SeqAt.shaped (pd a) = true
  sb : SeqAt.shaped (pd b) = true
def eqG (a b : D) (Q : Bool → Prop) : Prop := EqOk a b ∧ Q (PyData.eqv (pd a) (pd b))
def eqU (x y : D) (μ : Mu) (Q : Bool → Prop) : Prop := match x with
  | .int i => (match y with
    | .int j => Q (decide (i = j))
    | y => eqG (.int i) (drf μ y) Q)
  | .str a => (match y with
    | .str b => Q (decide (a = b))
    | y => eqG (.str a) (drf μ y) Q)
  | x => eqG (drf μ x) (drf μ y) Q
def oEq : WOp := fun x y μ Q _ => eqU x y μ fun b => Q (.v (.bool b)) μ
def oNe : WOp := fun x y μ Q _ => eqU x y μ fun b => Q (.v (.bool (!b))) μ
section
variable {X : Cx} {c : Ctx} {W : WX}
theorem dec_intV {i j : Int} : decide (V.int i = V.int j) = decide (i = j) := by
  by_cases h : i = j
  · rw [h, decide_eq_true rfl, decide_eq_true rfl]
  · rw [decide_eq_false h, decide_eq_false fun z => h (V.int.inj z)]
theorem dec_strV {i j : Str} : decide (V.str i = V.str j) = decide (i = j) := by
  by_cases h : i = j
  · rw [h, decide_eq_true rfl, decide_eq_true rfl]
  · rw [decide_eq_false h, decide_eq_false fun z => h (V.str.inj z)]
theorem eqU_cases {S : Option SA} {F : Hp} {n : Nat} {I H : Hp} {μ : Mu} {x y : D} {v u : V} {Q : Bool → Prop} (w : Wd c S F n I μ H) (rx : Rep c S I x v) (ry : Rep c S I y u) (h : eqU x y μ Q) : (scal v u = true ∧ Q (decide (v = u))) ∨ ∃ d e, Dp c.K H v d ∧ Dp c.K H u e ∧ SeqAt.shaped d = true ∧ SeqAt.shaped e = true ∧ Q (PyData.eqv d e) := by
  have gen : ∀ {x : D} {v : V}, Rep c S I x v → eqG (drf μ x) (drf μ y) Q → ∃ d e, Dp c.K H v d ∧ Dp c.K H u e ∧ SeqAt.shaped d = true ∧ SeqAt.shaped e = true ∧ Q (PyData.eqv d e) := fun rx ⟨o, q⟩ => ⟨_, _, drf_dp w rx o.pa, drf_dp w ry o.pb, o.sa, o.sb, q⟩
  unfold eqU at h
  split at h
  · split at h
    · cases rx
      cases ry
      exact .inl ⟨rfl, by rw [dec_intV]; exact h⟩
    · exact .inr (gen rx h)
  · split at h
    · cases rx
      cases ry
      exact .inl ⟨rfl, by rw [dec_strV]; exact h⟩
    · exact .inr (gen rx h)
  · exact .inr (gen rx h)
theorem w_eq (hu : X.A.units + 64 < cLine) (hK : X.K = c.K := by rfl) : Op2 X c W 0 (compareOp .Eq) oEq := by
  obtain ⟨K, cl, tb, ns, es0⟩ := c
  cases hK
  refine op2_of (op_eq.or (op_eqD hu)) fun σ x y H Q h => ?_
  obtain ⟨S, F, n, I, μ, dx, dy, Qd, Xd, hl, w, rx, ry, h, q, _⟩ := h
  rcases eqU_cases w rx ry h with ⟨h1, h2⟩ | ⟨d, e, h1, h2, h3, h4, h5⟩
  · exact .inl ⟨h1, q _ μ _ I H h2 (Same.refl I) w .bool⟩
  · exact .inr ⟨d, e, h1, h2, h3, h4, q _ μ _ I H h5 (Same.refl I) w .bool⟩
theorem w_ne (hu : X.A.units + 64 < cLine) (hK : X.K = c.K := by rfl) : Op2 X c W 0 (compareOp .NotEq) oNe := by
  obtain ⟨K, cl, tb, ns, es0⟩ := c
  cases hK
  refine op2_of (op_ne.or (op_neD hu)) fun σ x y H Q h => ?_
  obtain ⟨S, F, n, I, μ, dx, dy, Qd, Xd, hl, w, rx, ry, h, q, _⟩ := h
  rcases eqU_cases w rx ry h with ⟨h1, h2⟩ | ⟨d, e, h1, h2, h3, h4, h5⟩
  · exact .inl ⟨h1, q _ μ _ I H h2 (Same.refl I) w .bool⟩
  · exact .inr ⟨d, e, h1, h2, h3, h4, q _ μ _ I H h5 (Same.refl I) w .bool⟩
end
/-! ### isinstance -/
inductive TyD where
  | b (n : String) | o (n : Str)
def ndTy : Option Nd → Option TyD
  | some (.list _) => some (.b "list")
  | some (.dk _ _) => some (.b "dict")
  | some (.dt _ _) => some (.b "dict")
  | some (.obj n _ _) => some (.o n)
  | Option.none => Option.none
def tyD (μ : Mu) : D → Option TyD
  | .none => some (.b "NoneType")
  | .bool _ => some (.b "bool")
  | .int _ => some (.b "int")
  | .str _ => some (.b "str")
  | .list _ => some (.b "list")
  | .tup _ => some (.b "tuple")
  | .dk _ _ => some (.b "dict")
  | .dt _ _ => some (.b "dict")
  | .obj n _ _ => some (.o n)
  | .err n _ _ => some (.o n)
  | .cell p => ndTy (μ p)
  | _ => Option.none
/-- the errors of the package -/
def errNames : List Str := ["CrossError", "BadRule", "BadPower", "BadFormula", "BadPair", "BadProgram", "BadPoint", "BadCount", "TooMany", "NoCore", "BadDeed", "NothingLeft", "BadJournal", "BadText"]
def subCC (n m : Str) : Bool := decide (n = m) || (decide (m = "CrossError") && errNames.contains n)
def subCT (n : Str) (t : String) : Bool := decide (t = "ValueError") && errNames.contains n
def isi1 (t : TyD) (y : D) : Option Bool := match y with
  | .ty u => (match t with
    | .b a => kitB a u
    | .o n => some (subCT n u))
  | .cls m => (match t with
    | .b _ => some false
    | .o n => some (subCC n m))
  | _ => Option.none
def isiN (t : TyD) : List D → Option Bool
  | [] => some false
  | y :: ys => (match isi1 t y, isiN t ys with
    | some a, some b => some (a || b)
    | _, _ => Option.none)
def isiD (t : TyD) (y : D) : Option Bool := match y with
  | .tup ys => isiN t ys
  | y => isi1 t y
def cbIsi : WC := fun xs μ Q _ => two xs fun x y => match tyD μ x with
  | some t => (match isiD t y with
    | some b => Q (.v (.bool b)) μ
    | Option.none => False)
  | Option.none => False
/-- what a law's classes say -/
structure CtxOk (c : Ctx) : Prop where
  isi : ∀ n ∈ c.ns, IsiC c.K (c.cl n)
  exc : ∀ n ∈ c.es, ExcC c.K (c.cl n)
  cc : ∀ n ∈ c.ns ++ c.es, ∀ m ∈ c.ns ++ c.es, PySem.W.kitOne c.K (.ref (c.cl n)) (.ref (c.cl m)) = some (subCC n m)
  ct : ∀ n ∈ c.ns ++ c.es, ∀ t ∈ tyNames, PySem.W.kitOne c.K (.ref (c.cl n)) (.type t) = some (subCT n t)
  tc : ∀ t ∈ tyNames, ∀ n ∈ c.ns ++ c.es, PySem.W.kitOne c.K (.type t) (.ref (c.cl n)) = some false
def TyV (c : Ctx) : TyD → Value → Prop
  | .b n, u => u = .type n ∧ n ∈ tyNames
  | .o n, u => u = .ref (c.cl n) ∧ n ∈ c.ns ++ c.es
section
variable {X : Cx} {c : Ctx} {W : WX}
/-- a type, of a walked dict with tuple keys, too -/
def TyZ (K : PySem.W.Frag) (H : Hp) (v : V) (u : Value) : Prop := TyX K H v u ∨ ∃ a o kvs, v = .ref a ∧ u = .type "dict" ∧ H a = some (.frz o (.dT kvs))
theorem kitZ_of {pins : List (Addr × Obj)} {σ : L2.St} {H : Hp} {s : Shared} {x : V} {u t : Value} (I : Inv X pins σ H s) (rx : RelV x u) (ty : TyZ X.K H x t) : ∃ P : Heap → Prop, PySem.W.KitX X.K u t P ∧ P s.heap ∧ u ≠ .builtin "__main__.__loader__#opaque" := by
  rcases ty with ty | ⟨a, ob, kvs, rfl, rfl, ea⟩
  · exact kit_of I rx ty
  · cases (show u = Value.ref a from rx)
    obtain ⟨_, _, _, xs, _, o, es, ep, h1, h2, _⟩ := (show ObjOk X.prog X.w H s.heap a (.frz ob (.dT kvs)) from I.hok a _ ea)
    exact ⟨_, PySem.W.kitx_dict, ⟨o, h1, h2.1⟩, fun z => nomatch z⟩
theorem ty_rep (T : CtxOk c) {S : Option SA} {F : Hp} {n : Nat} {I H : Hp} {μ : Mu} {d : D} {v : V} {t : TyD} (w : Wd c S F n I μ H) (r : Rep c S I d v) (h : tyD μ d = some t) (he : ∀ n fs ds, d ≠ .err n fs ds) : ∃ u, TyV c t u ∧ TyZ c.K H v u := by
  cases r with
  | none => cases h; exact ⟨_, ⟨rfl, by decide⟩, .inl <| .base .non⟩
  | bool => cases h; exact ⟨_, ⟨rfl, by decide⟩, .inl <| .base (.bl _)⟩
  | int => cases h; exact ⟨_, ⟨rfl, by decide⟩, .inl <| .base (.int _)⟩
  | str => cases h; exact ⟨_, ⟨rfl, by decide⟩, .inl <| .base (.str _)⟩
  | list g r => cases h; exact ⟨_, ⟨rfl, by decide⟩, .inl <| .base (.lst (w.lst g))⟩
  | tup g r =>
    cases h
    refine ⟨_, ⟨rfl, by decide⟩, ?_⟩
    rcases w.tupH g with (g | ⟨o, g⟩) | ⟨o, its, m, g, h2, _⟩
    · exact .inl (.base (.tup g))
    · exact .inl (.fTuple g)
    · exact .inl (.kTuple g h2)
  | dk g r l =>
    cases h
    refine ⟨_, ⟨rfl, by decide⟩, ?_⟩
    rcases w.i _ _ g with z | ⟨_, ob, z⟩
    · exact .inl (.base (.dK z))
    · exact .inl (.fDict z)
  | dt g r l =>
    cases h
    refine ⟨_, ⟨rfl, by decide⟩, ?_⟩
    rcases w.i _ _ g with z | ⟨_, ob, z⟩
    · exact .inl (.base (.dT z))
    · exact .inr ⟨_, _, _, rfl, rfl, z⟩
  | obj g r l hn =>
    cases h
    have hc := T.isi _ hn
    exact ⟨_, ⟨rfl, List.mem_append_left _ hn⟩, .inl <| .base (.ins (w.ins g) hc.cl hc.ha hc.hn hc.htk hc.hm)⟩
  | err => exact absurd rfl (he _ _ _)
  | @cell p =>
    have h' : ndTy (μ p) = some t := h
    cases e : μ p with
    | none =>
      rw [e] at h'
      cases h'
    | some nd =>
      rw [e] at h'
      obtain ⟨_, o, r, hh⟩ := w.m p nd e
      cases r with
      | list r => cases h'; exact ⟨_, ⟨rfl, by decide⟩, .inl <| .base (.lst hh)⟩
      | dk r l => cases h'; exact ⟨_, ⟨rfl, by decide⟩, .inl <| .base (.dK hh)⟩
      | dt r l => cases h'; exact ⟨_, ⟨rfl, by decide⟩, .inl <| .base (.dT hh)⟩
      | obj r l hn =>
        cases h'
        have hc := T.isi _ hn
        exact ⟨_, ⟨rfl, List.mem_append_left _ hn⟩, .inl <| .base (.ins hh hc.cl hc.ha hc.hn hc.htk hc.hm)⟩
  | _ => cases h
theorem Wd.err {S : Option SA} {F : Hp} {n : Nat} {I H : Hp} {μ : Mu} {a : Addr} {cv : Value} {dd : Option Addr} (w : Wd c S F n I μ H) (h : I a = some (ErO a cv dd)) : H a = some (ErO a cv dd) := by
  rcases w.i _ _ h with z | ⟨z, _⟩
  · exact z
  · cases z
theorem Wd.erF {S : Option SA} {F : Hp} {n : Nat} {I H : Hp} {μ : Mu} {dd : Option Addr} {fs : List Str} {xs : List V} (w : Wd c S F n I μ H) (h : ErF I dd fs xs) : ErF H dd fs xs := by
  refine ⟨h.1, ?_⟩
  rcases h.2 with z | ⟨dx, z1, z2⟩
  · exact .inl z
  · rcases w.i _ _ z2 with z | ⟨z, _⟩
    · exact .inr ⟨dx, z1, z⟩
    · cases z
theorem isi1_kit (T : CtxOk c) {S : Option SA} {I : Hp} {t : TyD} {u : Value} {y : D} {v : V} {b : Bool} (ht : TyV c t u) (r : Rep c S I y v) (h : isi1 t y = some b) : ∃ k, ClsV v k ∧ PySem.W.kitOne c.K u k = some b := by
  cases r with
  | ty hn =>
    refine ⟨_, .ty _, ?_⟩
    cases t with
    | b a =>
      obtain ⟨rfl, _⟩ := ht
      exact kit_ty h
    | o n =>
      obtain ⟨rfl, hm⟩ := ht
      rw [T.ct _ hm _ hn]
      exact h
  | cls hn =>
    refine ⟨_, .own _, ?_⟩
    cases t with
    | b a =>
      obtain ⟨rfl, hm⟩ := ht
      rw [T.tc _ hm _ hn]
      exact h
    | o n =>
      obtain ⟨rfl, hm⟩ := ht
      rw [T.cc _ hm _ hn]
      exact h
  | _ => cases h
theorem isiN_kit (T : CtxOk c) {S : Option SA} {I : Hp} {t : TyD} {u : Value} (ht : TyV c t u) : ∀ {ys : List D} {vs : List V} {b : Bool}, Reps c S I ys vs → isiN t ys = some b → ∃ ks, Paired ClsV vs ks ∧ PySem.W.kitAny c.K u ks = some b
  | _, _, _, .nil, h => by
    cases h
    exact ⟨[], .nil, rfl⟩
  | y :: ys, _, b, .cons r rs, h => by
    rw [isiN] at h
    split at h
    · rename_i b1 b2 e1 e2
      cases h
      obtain ⟨k, h1, h2⟩ := isi1_kit T ht r e1
      obtain ⟨ks, p, q⟩ := isiN_kit T ht rs e2
      refine ⟨k :: ks, .cons h1 p, kitAny_cons h2 (fun z => ?_) fun z => ?_⟩
      · rw [z]
        exact q
      · rw [z]
        rfl
    · cases h
theorem isiN_tup (T : CtxOk c) {S : Option SA} {I : Hp} {t : TyD} {u : Value} {ys : List D} {v : V} {b : Bool} (ht : TyV c t u) (r : Rep c S I (.tup ys) v) (h : isiN t ys = some b) : ∃ a xs ks, v = .ref a ∧ TupA c.K I a xs ∧ Paired ClsV xs ks ∧ PySem.W.kitAny c.K u ks = some b := by
  cases r with
  | tup g r =>
    obtain ⟨ks, p, q⟩ := isiN_kit T ht r h
    exact ⟨_, _, ks, rfl, g, p, q⟩
/-- isinstance, any value that is known, a class or a tuple of them -/
theorem call_isiW (T : CtxOk c) {pins : List (Addr × Obj)} {s : Shared} {σ σ' : L2.St} {H : Hp} {xs : List V} {us : List Value} {Q : VK} (hK : X.K = c.K) (J : Inv X pins σ H s) (rv : Vals xs us) (h : ldC c W 0 cbIsi σ' xs H Q) : wpAny (model X.prog X.w) X.A (call (.builtin "isinstance") us) (EP X pins σ Q) X.xe s := by
  obtain ⟨K, cl, tb, ns, es0⟩ := c
  cases hK
  obtain ⟨S, F, n, I, μ, ds, Qd, Xd, hl, w, rs, h, q, _⟩ := h
  obtain ⟨x, y, rfl, g⟩ := two_cases h
  obtain ⟨v, u, rfl, rx, ry⟩ := reps2 rs
  obtain ⟨v1, v2, rfl, r1, r2⟩ := vals2 rv
  clear h rs rv
  split at g
  · rename_i t et
    split at g
    · rename_i b eb
      have fin : ∀ tk, EP X pins σ Q (.bool b) { s with toks := tk } := fun tk => ⟨.bl b, H, J.tok tk, rfl, q _ μ _ I H g (Same.refl I) w .bool⟩
      -- the type of x, as isinstance asks it
      have ask : ∃ z, TyV ⟨X.K, cl, tb, ns, es0⟩ t z ∧ ∃ P : Heap → Prop, PySem.W.KitX X.K v1 z P ∧ P s.heap ∧ v1 ≠ .builtin "__main__.__loader__#opaque" := by
        by_cases he : ∃ n fs ds, x = .err n fs ds
        · obtain ⟨m, fs, es, rfl⟩ := he
          cases et
          cases rx with
          | err g1 g2 g3 hn =>
            obtain ⟨oe, od, ins, _⟩ := inst_err (C := cl m) (fs := fs) J (w.err g1) (w.erF g2)
            cases r1
            exact ⟨_, ⟨rfl, List.mem_append_right _ hn⟩, _, kitx_err (T.exc m hn), ⟨oe, od, ins⟩, fun z => nomatch z⟩
        · obtain ⟨z, h1, h2⟩ := ty_rep T w rx et fun n fs ds e => he ⟨n, fs, ds, e⟩
          exact ⟨z, h1, kitZ_of J r1 h2⟩
      obtain ⟨z, tz, P, Z, p, hx⟩ := ask
      unfold isiD at eb
      split at eb
      · obtain ⟨a, xs, ks, rfl, gt, pk, ek⟩ := isiN_tup T tz ry eb
        cases (show v2 = Value.ref a from r2)
        obtain ⟨its, rv, ht, hz⟩ := J.tuple (w.tupH gt)
        have e3 := ClsV.all pk rv
        subst e3
        obtain ⟨⟨oc, od, dt, sl⟩, h1, h2, m, h3⟩ := ht
        dsimp only at h2 h3
        subst h2 h3
        exact PySem.W.kia_tup Z J.kIn p h1 ek hx fin
      · obtain ⟨k, ck, ek⟩ := isi1_kit T tz ry eb
        have e2 := ck.eq r2
        subst e2
        exact PySem.W.kia_one Z J.kIn p ek hx fin
    · exact g.elim
  · exact g.elim
theorem w_isi (T : CtxOk c) (hK : X.K = c.K := by rfl) : CbW X c (.builtin "isinstance") cbIsi := ⟨fun xs H Q => ∃ W σ, ldC c W 0 cbIsi σ xs H Q, fun pins s σ H xs us Q J rv ⟨W, σ', h⟩ => call_isiW T hK J rv h, fun W σ xs H Q h => ⟨W, σ, h⟩⟩
end
/-! ### in -/
def flatD : D → Bool
  | .none => true
  | .bool _ => true
  | .int _ => true
  | .str _ => true
  | _ => false
/-- == of flat data -/
def eqF : D → D → Bool
  | .none, .none => true
  | .bool a, .bool b => a == b
  | .bool a, .int j => (if a then 1 else 0) == j
  | .int i, .bool b => i == (if b then 1 else 0)
  | .int i, .int j => i == j
  | .str a, .str b => a == b
  | _, _ => false
def vF : D → V
  | .bool b => .bl b
  | .int i => .int i
  | .str s => .str s
  | _ => .non
theorem rep_flat {c : Ctx} {S : Option SA} {I : Hp} {d : D} {v : V} (r : Rep c S I d v) (h : flatD d = true) : v = vF d ∧ flatV v = true := by
  cases r <;> first | exact ⟨rfl, rfl⟩ | cases h
theorem reps_flat {c : Ctx} {S : Option SA} {I : Hp} : ∀ {ds : List D} {vs : List V}, Reps c S I ds vs → ds.all flatD = true → vs = ds.map vF ∧ vs.all flatV = true
  | _, _, .nil, _ => ⟨rfl, rfl⟩
  | _, _, .cons r rs, h => by
    rw [List.all_cons, Bool.and_eq_true] at h
    obtain ⟨h1, h2⟩ := rep_flat r h.1
    obtain ⟨h3, h4⟩ := reps_flat rs h.2
    exact ⟨by rw [h1, h3, List.map_cons], by rw [List.all_cons, h2, h4]; rfl⟩
def inF (x : D) (ds : List D) : Bool := ds.any fun y => eqF y x
theorem eqF_eqV {a b : D} (ha : flatD a = true) (hb : flatD b = true) : eqV (vF a) (vF b) = eqF a b := by
  cases a <;> cases b <;> first | rfl | (simp [flatD] at ha; done) | (simp [flatD] at hb; done)
theorem inF_inV {x : D} {ds : List D} (hx : flatD x = true) (hd : ds.all flatD = true) : inV (vF x) (ds.map vF) = inF x ds := by
  unfold inV inF
  induction ds with
  | nil => rfl
  | cons d ds ih =>
    rw [List.all_cons, Bool.and_eq_true] at hd
    rw [List.map_cons, List.any_cons, List.any_cons, ih hd.2, eqF_eqV hd.1 hx]
def oIn (neg : Bool) : WOp := fun x y μ Q _ => match sqD μ y with
  | some ds => flatD x = true ∧ ds.all flatD = true ∧ Q (.v (.bool (if neg then !inF x ds else inF x ds))) μ
  | Option.none => False
section
variable {X : Cx} {c : Ctx} {W : WX}
theorem ld_in {neg : Bool} {σ : L2.St} {x y : V} {H : Hp} {Q : VK} (h : ld2 c W 0 (oIn neg) σ x y H Q) : rIn c.K neg x y H Q := by
  obtain ⟨S, F, n, I, μ, dx, dy, Qd, Xd, hl, w, rx, ry, h, q, _⟩ := h
  unfold oIn at h
  split at h
  · rename_i ds e
    obtain ⟨l, xs, rfl, h1, r1⟩ := sqD_rep w ry e
    obtain ⟨e1, f1⟩ := rep_flat rx h.1
    obtain ⟨e2, f2⟩ := reps_flat r1 h.2.1
    refine ⟨l, xs, rfl, h1, f1, f2, ?_⟩
    rw [e1, e2, inF_inV h.1 h.2.1]
    exact q _ μ _ I H h.2.2 (Same.refl I) w .bool
  · exact h.elim
theorem w_notin (hK : X.K = c.K := by rfl) : Op2 X c W 0 (compareOp .NotIn) (oIn true) := by
  obtain ⟨K, cl, tb, ns, es0⟩ := c
  cases hK
  exact op2_of op_notIn_seq fun σ x y H Q h => ld_in h
end
/-! ### repr of plain data -/
structure Sh (L k : Nat) (p : PyData) : Prop where
  len : p.shown.length ≤ L
  dep : p.depth ≤ k
  can : p.showable = true
  nod : p.hasDict = false
section
variable {X : Cx} {c : Ctx} {W : WX}
end
/-! ### a field of an error -/
def wErrF (f : Str) (r : WE) : WE := fun e μ Q X => r e μ (fun x μ1 => match x with
  | .err _ fs ds => (match fldD f fs ds with
    | some d => Q d μ1
    | Option.none => False)
  | _ => False) X
section
variable {X : Cx} {c : Ctx} {W : WX} {ko : Nat} {o : Expr} {wo : WE} {m : Str} {pos : Pos}
theorem g_errF (T : CtxOk c) (hn : ∀ n ∈ c.es, PySem.W.findIn X.K (.ref (c.cl n)) m = some none) (ho : GE X c W ko o wo) (hb : attributeBase o m X.env (eval o X.env) = eval o X.env := by rfl) (hK : X.K = c.K := by rfl) : GE X c W ko (.Attribute o m pos) (wErrF m wo) := by
  obtain ⟨K, cl, tb, ns, es0⟩ := c
  cases hK
  refine ⟨fun pins s σ H Q J h => ?_⟩
  have h2 : ldE ⟨X.K, cl, tb, ns, es0⟩ W ko wo σ H fun x H1 => ∃ a n d fs xs v, x = .ref a ∧ n ∈ es0 ∧ H1 a = some (ErO a (.ref (cl n)) d) ∧ ErF H1 d fs xs ∧ (List.zip fs xs).lookup m = some v ∧ Q v H1 := by
    obtain ⟨S, F, n, I, μ, e, Qd, Xd, hl, he, hw, h, q, x⟩ := h
    refine ⟨S, F, n, I, μ, e, _, Xd, hl, he, hw, h, fun d μ1 v I1 H1 pa s1 w1 ra => ?_, x⟩
    cases ra <;> try exact False.elim pa
    rename_i a n dd fs ds xs h1 h2 h3 h4
    dsimp only at pa
    split at pa
    · rename_i y ey
      obtain ⟨v, g1, g2⟩ := fld_rep h3 ey
      exact ⟨a, n, dd, fs, xs, v, rfl, h4, w1.err h1, w1.erF h2, g1, q y μ1 v I1 H1 pa s1 w1 g2⟩
    · exact pa.elim
  refine attr_of hb (thn (ho.run pins s σ H _ J h2) fun u s1 ⟨x, H1, I1, rx, a, n, d, fs, xs, v, ex, hm, e1, e2, e3, q⟩ => ?_)
  subst ex
  cases rx
  obtain ⟨oe, od, ins, z⟩ := inst_err I1 e1 e2
  obtain ⟨o', u', rfl, hl, ru⟩ := z m v e3
  have T2 := T.exc n hm
  exact HandSPX.exc_get I1.kIn ins T2.hg T2.hk T2.hs (PySem.W.findObj_own T2.hd (hn n hm) rfl hl) (handed_of ru) ⟨v, H1, I1.tok _, ru, q⟩
end
end DL

set_option Elab.async false
set_option linter.all false
set_option maxRecDepth 100000
set_option maxHeartbeats 4000000
/-! A7: the law's own state of draws. -/
namespace DL
open PySem PyProof.Rows L2
variable [Gds]
def rAbs : List V → Hp → VK → Prop := fun xs H Q => ∃ i, xs = [.int i] ∧ Q (.int (if i < 0 then -i else i)) H
def rInt1 : List V → Hp → VK → Prop := fun xs H Q => (∃ i, xs = [.int i] ∧ Q (.int i) H) ∨ ∃ k, xs = [.bl k] ∧ Q (.int (if k then 1 else 0)) H
theorem call_absG {X : Cx} : CallR X (.builtin "abs") rAbs := call_abs
theorem call_intG {X : Cx} : CallR X (.type "int") rInt1 := call_int1
theorem pds_ints : ∀ ns : List Int, pds (ns.map D.int) = ns.map PyData.int
  | [] => rfl
  | n :: ns => by rw [List.map_cons, pds, pd, pds_ints ns]; rfl
theorem canLay_ints : ∀ ns : List Int, PyData.canLayAll0 (ns.map PyData.int) = true
  | [] => rfl
  | n :: ns => by rw [List.map_cons, PyData.canLayAll0, PyData.canLay0, canLay_ints ns]; rfl
theorem depth_ints : ∀ ns : List Int, PyData.depthAll (ns.map PyData.int) = 0
  | [] => rfl
  | n :: ns => by
    rw [List.map_cons, PyData.depthAll, depth_ints ns]
    rfl
theorem shaped_ints (ns : List Int) : SeqAt.shaped (pd (.list (ns.map D.int))) = true := by
  rw [pd, pds_ints]
  unfold SeqAt.shaped
  rw [PyData.canLay0, canLay_ints, PyData.depth, depth_ints]
  rfl
/-- f(a, ..) where nothing is raised -/
theorem pe_callW0 {X : Cx} {k : Nat} {f : Addr} {fd : FuncData} {ps : List Str} {sp : Sp} {x : Str} {p pos : Pos} {e : Expr} {es : List Expr} {t : TA} (G : FnW X.prog X.w X.K X.mg X.base k f fd ps sp) (gd : Gds.ok X.A) (room : Room k X.A) (gl : Gl X x) (hm : X.mg x = some (.ref f)) (kp : PySem.W.keepIn X.K (.ref f) = true) (bi : Binds X.K fd ps [])
    (ha : PA X (e :: es) t) (hdb : (x == ("__debug__" : Str)) = false := by decide) (he : starEach (e :: es) X.env = (false, eval e X.env) :: starEach es X.env := by rfl) (hpl : (backTo pos (starEach es X.env)).any (·.1) = false := by rfl) :
    PE X (.Call (.Name x p) (e :: es) [] pos) (tCall sp [] E0 t) := ⟨fun pins s σ H Q J h => wpAny_Call_Name_kw (ld_glob J gl hm (PySem.W.callWith_K (h₀ := X.base) J.ok.mod.kin kp (thn (ha.run pos pins s σ H _ J h) fun us s1 ⟨vs, H1, J1, r1, q1⟩ => ⟨J1.kIn, run_fnW (W := W0) (dvs := []) G gd room bi .nil (fun u s' z => by
      obtain ⟨_, _, _, _, _, _, _, _, _, _, _, _, _, _, _, _, z⟩ := z
      exact z.elim) J1 r1 q1⟩) he hpl) hdb)⟩
def stD (l k : Addr) (r t : Int) : List (Key × V) := [(Sum.inr "wide", .ref l), (Sum.inr "cells", .ref k), (Sum.inr "rest", .int r), (Sum.inr "turn", .int t)]
theorem st_wide (l k : Addr) (r t : Int) : valV (stD l k r t) (Sum.inr "wide") = some (.ref l) := rfl
theorem st_cells (l k : Addr) (r t : Int) : valV (stD l k r t) (Sum.inr "cells") = some (.ref k) := rfl
theorem st_rest (l k : Addr) (r t : Int) : valV (stD l k r t) (Sum.inr "rest") = some (.int r) := rfl
theorem st_turn (l k : Addr) (r t : Int) : valV (stD l k r t) (Sum.inr "turn") = some (.int t) := rfl
theorem put_rest (l k : Addr) (r t r' : Int) : putK (stD l k r t) (Sum.inr "rest") (.int r') = stD l k r' t := rfl
theorem put_turn (l k : Addr) (r t t' : Int) : putK (stD l k r t) (Sum.inr "turn") (.int t') = stD l k r t' := rfl

theorem tabs_upd {T : List (Addr × Str)} {H : Hp} {x : Addr} {o u : HO} (h : LamX.Tabs T H) (hx : H x = some o) (ho : notTX o) : LamX.Tabs T (upd H x u) := by
  refine tabs_keep h (fun p hp => upd_ne fun z => ?_) fun b φ e => ?_
  · obtain ⟨ps, h1, _⟩ := h p hp
    rw [z, hx] at h1
    cases h1
    exact ho
  · rw [upd_ne fun z => ?_]
    · exact e
    · rw [z, hx] at e
      cases e
      exact ho
/-- the state's own cells change -/
theorem Wd.st {c : Ctx} {s : SA} {F : Hp} {n m : Nat} {I H H' : Hp} {μ : Mu} (w : Wd c (some s) F n I μ H) (h : StOk s m H') (k : ∀ b o, b ≠ s.d → b ≠ s.l → b ≠ s.k → H b = some o → H' b = some o) : Wd c (some s) F m I μ H' := by
  have ne : ∀ {b : Addr}, (Cell s b → False) → b ≠ s.d ∧ b ≠ s.l ∧ b ≠ s.k := fun {b} hb => ⟨fun e => hb (.inl (.inl e)), fun e => hb (.inl (.inr (.inl e))), fun e => hb (.inl (.inr (.inr e)))⟩
  have nI : ∀ {b : Addr} {o : HO}, I b = some o → Cell s b → False := fun {b o} e q => by
    rw [((w.s s rfl).2 b q).1] at e
    cases e
  have nM : ∀ {b : Addr} {o : Nd}, μ b = some o → Cell s b → False := fun {b o} e q => by
    rw [((w.s s rfl).2 b q).2] at e
    cases e
  refine ⟨fun b o e => ?_, fun b nd e => ?_, fun a e => ?_, w.ni, fun b o e => ?_, w.z⟩
  · obtain ⟨n1, n2, n3⟩ := ne (nI e)
    rcases w.i b o e with z | ⟨z, ob, z2⟩
    · exact .inl (k b o n1 n2 n3 z)
    · exact .inr ⟨z, ob, k b _ n1 n2 n3 z2⟩
  · obtain ⟨n1, n2, n3⟩ := ne (nM e)
    obtain ⟨h1, o, h2, h3⟩ := w.m b nd e
    exact ⟨h1, o, h2, k b _ n1 n2 n3 h3⟩
  · cases e
    exact ⟨h, (w.s s rfl).2⟩
  · obtain ⟨h1, hL⟩ := w.f b o e
    obtain ⟨n1, n2, n3⟩ := ne (b := b) (by
      rcases hL with ⟨_, _, _, h5⟩ | ⟨ob, u, _, _, h3⟩
      · exact h5 s rfl
      · exact nI h3)
    exact ⟨k b _ n1 n2 n3 h1, hL⟩
/-- one more long number -/
def wp_law_mixed : WP := fun ds μ Q _ => match ds with
  | [.state] => ∀ i, Q (.int i) μ
  | _ => False
abbrev rd_law_mixed (c : Ctx) : TS := (tSeq (tPar 1 2 (tCons (tOp (rI0 fun i j => .int (i + j)) (tDGet (tVar 0) (tC (.str "turn"))) (tC (.int 1))) (tCons (tC (.int 0)) tNil)))
    (tSeq (sDPut (tVar 0) (tC (.str "turn")) (tVar 1))
    (tSeq (tFor (iList c.K (tLst (tCons (tC (.int 2147483629)) (tCons (tC (.int 2147483587)) (tCons (tC (.int 2147483579)) (tCons (tC (.int 2147483563)) tNil)))))) (gName 3) (tSeq (tAsg (tOp (rI0 fun i j => .int (i + j)) (tOp (rI CMul fun i j => .int (i * j)) (tC (.int 49999)) (tVar 1)) (tOp (rI CDiv fun i j => .int (i / j)) (tVar 3) (tC (.int 23)))) (gName 4))
    (tSeq (tFor (iList c.K (tDGet (tVar 0) (tC (.str "cells")))) (gName 5) (tAsg (tOp (rI (fun _ j => 0 < j) fun i j => .int (i % j)) (tCB rInt1 (tCons (tOp (rI0 fun i j => .int (i + j)) (tOp (rI0 fun i j => .int (i + j)) (tOp (rI CMul fun i j => .int (i * j)) (tVar 4) (tC (.int 48271))) (tVar 5)) (tVar 1)) tNil)) (tVar 3)) (gName 4)))
    (tAsg (tOp (rI0 fun i j => .int (i + j)) (tOp (rI CMul fun i j => .int (i * j)) (tVar 2) (tC (.int 2147483647))) (tOp (rI (fun _ j => 0 < j) fun i j => .int (i % j)) (tCB rInt1 (tCons (tOp (rI CPowW fun i j => .int (i ^ j.toNat)) (tVar 4) (tC (.int 5))) tNil)) (tVar 3))) (gName 2)))))
    (tRet (tVar 2)))))
def primes : List Int := [2147483629, 2147483587, 2147483579, 2147483563]
theorem primes_ok : ∀ p ∈ primes, 0 < p ∧ p < 2147483648 := by decide
theorem DGet.st {H : Hp} {s : SA} {r t : Int} {key : Str} {v : V} (h : H s.d = some (.dK (stD s.l s.k r t))) (e : valV (stD s.l s.k r t) (Sum.inr key) = some v) : DGet H s.d (.str key) (some v) := by
  rw [← e]
  exact DGet.k (k := Sum.inr key) h
theorem pow5 {b : Int} (h : b.natAbs < 2 ^ 20100) : (Builtin.Int.intBits b : Int) * 5 ≤ 2 ^ 27 := by
  have := intBits_le h
  omega
theorem run_mixed {c : Ctx} {N : List Str} (hN : N.length = 6) {vs : List V} {H : Hp} {Q : VK} {Ex : XK} (hs : SpW c wp_law_mixed 1 vs H Q Ex) : rd_law_mixed c { nx := fun _ H' => Q .non H', rt := Q } (L2.start N vs) H := by
  obtain ⟨S, F, n, I, μ, ds, Qd, Xd, hl, w, rs, h, q, _⟩ := hs
  unfold wp_law_mixed at h
  split at h
  case h_2 => exact h.elim
  cases rs with
  | cons r1 r2 =>
    cases r2
    cases r1 with
    | @state s hS hTB =>
      subst hS
      obtain ⟨htb, hlk, ws, cs, r, t, hd, hw, hk, hwl, hcl, ht0, htn⟩ := (w.s s rfl).1
      have est : L2.start N [V.ref s.d] = [some (V.ref s.d), none, none, none, none, none] := by
        unfold L2.start
        rw [hN]
        rfl
      rw [est]
      -- turn = state["turn"] + 1, found = 0
      refine ⟨_, rfl, s.d, .int t, rfl, DGet.st hd (st_turn _ _ _ _), t, 1, rfl, rfl, ?_⟩
      refine ⟨_, _, rfl, ?_⟩
      -- state["turn"] = turn
      refine ⟨_, rfl, _, rfl, s.d, _, rfl, DPut.k (k := Sum.inr "turn") hd (by show 4 < sizeLine; decide), ?_⟩
      have ndl : s.l ≠ s.d := fun z => by
        rw [z, hd] at hw
        cases hw
      have ndk : s.k ≠ s.d := fun z => by
        rw [z, hd] at hk
        cases hk
      have w1 : Wd c (some s) F (n + 1) I μ (upd H s.d (.dK (stD s.l s.k r (t + 1)))) := by
        refine w.st ⟨tabs_upd htb hd trivial, hlk, ws, cs, r, t + 1, upd_same, by rw [upd_ne ndl]; exact hw, by rw [upd_ne ndk]; exact hk, hwl, hcl, by omega, by push_cast; omega⟩ fun b o h1 h2 h3 e => ?_
        rw [upd_ne h1]
        exact e
      show tSeq _ _ _ _ (upd H s.d (.dK (putK (stD s.l s.k r t) (Sum.inr "turn") (.int (t + 1)))))
      rw [put_turn]
      generalize upd H s.d (.dK (stD s.l s.k r (t + 1))) = H1 at w1
      -- for prime in [..]
      refine ⟨by show 4 ≤ sizeLine; decide, fun l0 hl0 => ⟨l0, rfl, ⟨_, SqL.of upd_same⟩, ?_⟩⟩
      have f0 := w1.nf hl0
      have w2 : Wd c (some s) (upd F l0 (.lst (primes.map V.int))) (n + 1) I μ (upd H1 l0 (.lst (primes.map V.int))) := (w1.frame hl0).leave upd_same (w1.fresh hl0).1 (w1.fresh hl0).2 trivial (w1.no_cell hl0)
      refine for_list (K := c.K) (a := l0) (xs := primes.map V.int) (fun i σ H' => ∃ (f : Int) (p b cl : Option V), σ = [some (V.ref s.d), some (V.int (t + 1)), some (V.int f), p, b, cl] ∧ Wd c (some s) (upd F l0 (.lst (primes.map V.int))) (n + 1) I μ H')
        ⟨0, _, _, _, rfl, w2⟩ (fun i σ H' _ ⟨_, _, _, _, _, w'⟩ => SqL.of (w'.f _ _ upd_same).1) ?_ ?_
      · rintro i x σ H' hx ⟨f, p, b, cl, rfl, w'⟩
        have hxm : x ∈ primes.map V.int := List.mem_of_getElem? hx
        obtain ⟨pr, hpr, rfl⟩ := List.mem_map.mp hxm
        obtain ⟨hp0, hp1⟩ := primes_ok pr hpr
        obtain ⟨htb', hlk', ws', cs', r', t', hd', hw', hk', hwl', hcl', ht0', htn'⟩ := (w'.s s rfl).1
        -- blend = 49999 * turn + prime // 23
        refine ⟨_, rfl, 49999, t + 1, rfl, rfl, .inl ⟨by decide, by decide⟩, ?_⟩
        refine ⟨_, rfl, pr, 23, rfl, rfl, ⟨by decide, by decide⟩, _, _, rfl, rfl, ?_⟩
        -- for cell in state["cells"]
        refine ⟨_, rfl, s.d, _, rfl, DGet.st hd' (st_cells _ _ _ _), s.k, rfl, ⟨_, SqL.of hk'⟩, ?_⟩
        refine for_list (K := c.K) (a := s.k) (xs := cs'.map V.int) (fun j σ2 H2 => ∃ (bl : Int) (cl2 : Option V), σ2 = [some (V.ref s.d), some (V.int (t + 1)), some (V.int f), some (V.int pr), some (V.int bl), cl2] ∧ H2 = H' ∧ bl.natAbs < 2 ^ 20100)
          ⟨_, cl, rfl, rfl, ?_⟩ (fun j σ2 H2 _ ⟨_, _, _, e, _⟩ => by rw [e]; exact SqL.of hk') ?_ ?_
        · have h23 : 0 ≤ pr / 23 ∧ pr / 23 < 2147483648 := by omega
          have e1 : (49999 * (t + 1) + pr / 23).natAbs ≤ 49999 * LIM + 2147483648 := by omega
          refine Nat.lt_of_le_of_lt e1 ?_
          unfold LIM
          decide +kernel
        · rintro j x σ2 H2 hx2 ⟨bl, cl2, rfl, rfl, hbl⟩
          obtain ⟨cv, hcv, rfl⟩ := List.mem_map.mp (List.mem_of_getElem? hx2)
          refine ⟨_, rfl, bl, 48271, rfl, rfl, .inr ⟨by decide, by decide⟩, ?_⟩
          refine ⟨_, rfl, _, _, rfl, rfl, _, rfl, _, _, rfl, rfl, .inl ⟨_, rfl, _, rfl, _, _, rfl, rfl, hp0, ?_⟩⟩
          refine ⟨_, _, rfl, rfl, ?_⟩
          have h1 := Int.emod_nonneg (bl * 48271 + cv + (t + 1)) (show pr ≠ 0 by omega)
          have h2 := Int.emod_lt_of_pos (bl * 48271 + cv + (t + 1)) hp0
          refine Nat.lt_of_lt_of_le (m := 2 ^ 31) (by omega) (Nat.pow_le_pow_right (by decide) (by decide))
        · rintro σ2 H2 ⟨bl, cl2, rfl, rfl, hbl⟩
          refine ⟨_, rfl, f, 2147483647, rfl, rfl, .inr ⟨by decide, by decide⟩, ?_⟩
          refine ⟨_, rfl, bl, 5, rfl, rfl, ⟨by decide, pow5 hbl⟩, .inl ⟨_, rfl, _, rfl, _, _, rfl, rfl, hp0, _, _, rfl, rfl, ?_⟩⟩
          exact ⟨_, _, _, _, rfl, w'⟩
      · rintro σ H' ⟨f, p, b, cl, rfl, w'⟩
        exact ⟨_, rfl, q (.int f) μ _ I H' (h f) (Same.refl I) (w'.less fun b o e => by rw [upd_ne (ne_of_none e f0)]; exact e) .int⟩
/-! ### a draw -/
def wp_law_take : WP := fun ds μ Q _ => match ds with
  | [.state, .int m] => (0 < m ∧ m.natAbs.log2 < 9000) ∧ ∀ i, 0 ≤ i → i < m → Q (.int i) μ
  | _ => False
abbrev rd_law_take (c : Ctx) : TS := (tSeq (tIfS (tTest (tOp rEq (tDGet (tVar 0) (tC (.str "rest"))) (tC (.int 0)))) (sDPut (tVar 0) (tC (.str "rest")) (tIf (tTest (tOp (rNeD c.K) (tDGet (tVar 0) (tC (.str "wide"))) (tLst tNil))) (tBM c.K "list" rPopAt (tDGet (tVar 0) (tC (.str "wide"))) (tCons (tC (.int 0)) tNil)) (tCall (SpW c wp_law_mixed 1) [] E0 (tCons (tVar 0) tNil)))) tNext)
    (tSeq (tAsg (tOp (rI (fun _ j => 0 < j) fun i j => .int (i % j)) (tCB rInt1 (tCons (tDGet (tVar 0) (tC (.str "rest"))) tNil)) (tVar 1)) (gName 2))
    (tSeq (sDPut (tVar 0) (tC (.str "rest")) (tOp (rI CDivW fun i j => .int (i / j)) (tDGet (tVar 0) (tC (.str "rest"))) (tVar 1)))
    (tRet (tVar 2)))))
theorem seq0 (n : Nat) : seqIndex? 0 (n + 1) = some 0 := by
  unfold seqIndex?
  simp
theorem run_take {c : Ctx} {N : List Str} (hN : N.length = 3) {vs : List V} {H : Hp} {Q : VK} {Ex : XK} (hs : SpW c wp_law_take 1 vs H Q Ex) : rd_law_take c { nx := fun _ H' => Q .non H', rt := Q } (L2.start N vs) H := by
  obtain ⟨S, F, n, I, μ, ds, Qd, Xd, hl, w, rs, h, q, _⟩ := hs
  unfold wp_law_take at h
  split at h
  case h_2 => exact h.elim
  rename_i m
  obtain ⟨⟨hm0, hm1⟩, h⟩ := h
  cases rs with
  | cons r1 r2 =>
    cases r2 with
    | cons r2 r3 =>
      cases r3
      cases r2
      cases r1 with
      | @state s hS hTB =>
        subst hS
        have est : L2.start N [V.ref s.d, V.int m] = [some (V.ref s.d), some (V.int m), none] := by
          unfold L2.start
          rw [hN]
          rfl
        rw [est]
        -- what follows the if
        have rest : ∀ I2 H', Same I I2 → Wd c (some s) F (n + 1) I2 μ H' → tSeq (tAsg (tOp (rI (fun _ j => 0 < j) fun i j => .int (i % j)) (tCB rInt1 (tCons (tDGet (tVar 0) (tC (.str "rest"))) tNil)) (tVar 1)) (gName 2))
            (tSeq (sDPut (tVar 0) (tC (.str "rest")) (tOp (rI CDivW fun i j => .int (i / j)) (tDGet (tVar 0) (tC (.str "rest"))) (tVar 1)))
            (tRet (tVar 2))) { nx := fun _ H' => Q .non H', rt := Q } [some (V.ref s.d), some (V.int m), none] H' := fun I2 H' sm0 w' => by
          obtain ⟨htb, hlk, ws, cs, r, t, hd, hw, hk, hwl, hcl, ht0, htn⟩ := (w'.s s rfl).1
          refine ⟨_, rfl, s.d, _, rfl, DGet.st hd (st_rest _ _ _ _), .inl ⟨r, rfl, _, rfl, r, m, rfl, rfl, hm0, ?_⟩⟩
          refine ⟨_, rfl, s.d, _, rfl, DGet.st hd (st_rest _ _ _ _), _, rfl, r, m, rfl, rfl, ⟨hm0, hm1⟩, _, rfl, s.d, _, rfl, DPut.k (k := Sum.inr "rest") hd (by show 4 < sizeLine; decide), ?_⟩
          have ndl : s.l ≠ s.d := fun z => by
            rw [z, hd] at hw
            cases hw
          have ndk : s.k ≠ s.d := fun z => by
            rw [z, hd] at hk
            cases hk
          refine ⟨_, rfl, q (.int (r % m)) μ _ I2 _ (h _ (Int.emod_nonneg _ (by omega)) (Int.emod_lt_of_pos _ hm0)) sm0 ?_ .int⟩
          show Wd c (some s) F (n + 1) I2 μ (upd H' s.d (.dK (putK (stD s.l s.k r t) (Sum.inr "rest") (.int (r / m)))))
          rw [put_rest]
          refine w'.st ⟨tabs_upd htb hd trivial, hlk, ws, cs, r / m, t, upd_same, by rw [upd_ne ndl]; exact hw, by rw [upd_ne ndk]; exact hk, hwl, hcl, ht0, htn⟩ fun b o h1 h2 h3 e => ?_
          rw [upd_ne h1]
          exact e
        obtain ⟨htb, hlk, ws, cs, r, t, hd, hw, hk, hwl, hcl, ht0, htn⟩ := (w.s s rfl).1
        refine ⟨_, rfl, s.d, _, rfl, DGet.st hd (st_rest _ _ _ _), rfl, _, rfl, ?_⟩
        refine ite2 (fun _ => ?_) (fun _ => rest I H (Same.refl I) (w.up (by omega)))
        -- a new rest
        have ndl : s.l ≠ s.d := fun z => by
          rw [z, hd] at hw
          cases hw
        have ndk : s.k ≠ s.d := fun z => by
          rw [z, hd] at hk
          cases hk
        have store : ∀ (v : Int) I2 H', Wd c (some s) F (n + 1) I2 μ H' → ∃ a H4, V.ref s.d = .ref a ∧ DPut H' a (.str "rest") (.int v) H4 ∧ Wd c (some s) F (n + 1) I2 μ H4 := fun v I2 H' w' => by
          obtain ⟨htb, hlk, ws, cs, r, t, hd, hw, hk, hwl, hcl, ht0, htn⟩ := (w'.s s rfl).1
          refine ⟨s.d, _, rfl, DPut.k (k := Sum.inr "rest") hd (by show 4 < sizeLine; decide), ?_⟩
          show Wd c (some s) F (n + 1) I2 μ (upd H' s.d (.dK (putK (stD s.l s.k r t) (Sum.inr "rest") (.int v))))
          rw [put_rest]
          have ndl : s.l ≠ s.d := fun z => by
            rw [z, hd] at hw
            cases hw
          have ndk : s.k ≠ s.d := fun z => by
            rw [z, hd] at hk
            cases hk
          refine w'.st ⟨tabs_upd htb hd trivial, hlk, ws, cs, v, t, upd_same, by rw [upd_ne ndl]; exact hw, by rw [upd_ne ndk]; exact hk, hwl, hcl, ht0, htn⟩ fun b o h1 h2 h3 e => ?_
          rw [upd_ne h1]
          exact e
        refine ⟨_, rfl, s.d, _, rfl, DGet.st hd (st_wide _ _ _ _), Nat.zero_le _, fun p hp => ?_⟩
        have hpl : s.l ≠ p := ne_of_none hw hp
        have hw' : upd H p (.lst []) s.l = some (.lst (ws.map V.int)) := by rw [upd_ne hpl]; exact hw
        have hd' : upd H p (.lst []) s.d = some (.dK (stD s.l s.k r t)) := by rw [upd_ne (ne_of_none hd hp)]; exact hd
        have hk' : upd H p (.lst []) s.k = some (.lst (cs.map V.int)) := by rw [upd_ne (ne_of_none hk hp)]; exact hk
        have w2 : Wd c (some s) F n I μ (upd H p (.lst [])) := w.frame hp
        have dpw : ∀ (xs : List Int) (b : Addr), upd H p (.lst []) b = some (.lst (xs.map V.int)) → Dp c.K (upd H p (.lst [])) (.ref b) (.list (xs.map PyData.int)) := fun xs b hb => by
          refine .lst (SqL.of hb) ?_
          clear hb
          induction xs with
          | nil => exact .nil
          | cons x xs ih => exact .cons (.int x) ih
        refine ⟨_, _, dpw ws s.l hw', dpw [] p upd_same, ?_, ?_, _, rfl, ?_⟩
        · have := shaped_ints ws
          rw [pd, pds_ints] at this
          exact this
        · decide +kernel
        · cases ws with
          | nil =>
            refine iteF ?_
            -- by mixing
            refine ⟨_, rfl, ?_⟩
            refine ⟨some s, F, n, I, μ, [.state], fun d μ' => μ' = μ ∧ ∃ i, d = .int i, fun _ _ => False, hl, w2, .cons (.state rfl hTB) .nil, fun i => ⟨rfl, i, rfl⟩, fun d μ' v I' H' ⟨e0, i, hi⟩ sm w3 r3 => ?_, fun _ _ _ _ _ _ z => z.elim⟩
            subst e0 hi
            cases r3
            obtain ⟨a, H4, e1, e2, e3⟩ := store i I' H' w3
            exact ⟨_, rfl, a, H4, e1, e2, rest I' H4 sm e3⟩
          | cons x xs =>
            refine iteT ?_
            refine ⟨_, rfl, s.d, _, rfl, DGet.st hd' (st_wide _ _ _ _), .inl ⟨rfl, _, SqL.of hw'⟩, ?_⟩
            refine ⟨s.l, _, 0, 0, .int x, rfl, rfl, hw', by decide, by decide, ?_, rfl, ?_⟩
            · rw [List.length_map]
              exact seq0 _
            · have w4 : Wd c (some s) F (n + 1) I μ (upd (upd H p (.lst [])) s.l (.lst (xs.map V.int))) := by
                refine w2.st ⟨tabs_upd ((w2.s s rfl).1.1) hw' trivial, hlk, xs, cs, r, t, by rw [upd_ne (Ne.symm ndl)]; exact hd', upd_same, by rw [upd_ne (Ne.symm hlk)]; exact hk', ?_, hcl, ht0, by push_cast; omega⟩ fun b o h1 h2 h3 e => ?_
                · rw [List.length_cons] at hwl
                  omega
                · rw [upd_ne h2]
                  exact e
              obtain ⟨a, H4, e1, e2, e3⟩ := store x I _ w4
              exact ⟨_, rfl, a, H4, e1, e2, rest I H4 (Same.refl I) e3⟩
/-! ### the state's making -/
def sp_law_begun (c : Ctx) : Sp := fun vs H Q _ => ∃ (a : Addr) (ns : List Int), vs = [.ref a] ∧ SqL c.K H a (ns.map V.int) ∧ ns.length ≤ 63 ∧ LamX.Tabs c.tb H ∧
  ∀ (s : SA) H', s.T = c.tb → H s.d = Option.none → H s.l = Option.none → H s.k = Option.none → StOk s 0 H' → Same H H' → Q (.ref s.d) H'
abbrev rd_law_begun (c : Ctx) : TS := (tSeq (tAsg (tLc (iList c.K (tVar 0)) (gName 2) (tTest (tOp (rI0 fun i j => .bl (decide (j ≤ i))) (tCB rAbs (tCons (tVar 2) tNil)) (tOp (rI CPowW fun i j => .int (i ^ j.toNat)) (tC (.int 10)) (tC (.int 18))))) (tOp (rI0 fun i j => .int (i - j)) (tCB rAbs (tCons (tVar 2) tNil)) (tOp (rI CPowW fun i j => .int (i ^ j.toNat)) (tC (.int 10)) (tC (.int 18)))) [2]) (gName 1))
    (tRet (tDisp [((tC (.str "wide")), (tVar 1)), ((tC (.str "cells")), (tLc (iList c.K (tVar 0)) (gName 2) tYes (tOp (rI (fun _ j => 0 < j) fun i j => .int (i % j)) (tCB rInt1 (tCons (tCB rAbs (tCons (tVar 2) tNil)) tNil)) (tC (.int 2147483629))) [2])), ((tC (.str "rest")), (tC (.int 0))), ((tC (.str "turn")), (tC (.int 0)))])))
theorem st_merge (l k : Addr) : mergeK [] (stD l k 0 0) = stD l k 0 0 := rfl
theorem run_begun {c : Ctx} {N : List Str} (hN : N.length = 3) {vs : List V} {H : Hp} {Q : VK} {Ex : XK} (hs : sp_law_begun c vs H Q Ex) : rd_law_begun c { nx := fun _ H' => Q .non H', rt := Q } (L2.start N vs) H := by
  obtain ⟨a, ns, rfl, hS, hl, hT, q⟩ := hs
  have est : L2.start N [V.ref a] = [some (V.ref a), none, none] := by
    unfold L2.start
    rw [hN]
    rfl
  rw [est]
  have get : ∀ {i : Nat} {y : V}, (ns.map V.int)[i]? = some y → ∃ z, y = V.int z := fun {i y} h => by
    obtain ⟨z, _, e⟩ := List.mem_map.mp (List.mem_of_getElem? h)
    exact ⟨z, e.symm⟩
  refine ⟨_, rfl, a, rfl, ⟨_, hS⟩, fun Dw hD => lc_list (K := c.K) (a := a) (xs := ns.map V.int) (fun i H' => Same H H' ∧ ∃ ws : List Int, H' Dw = some (.lst (ws.map V.int)) ∧ ws.length ≤ i) ⟨same_new hD, [], upd_same, Nat.le_refl _⟩ (fun i H' _ p => p.1.seq hS) ?_ ?_⟩
  · rintro i y H' hy ⟨sm, ws, hw, hwl⟩
    obtain ⟨z, rfl⟩ := get hy
    have hil : i < ns.length := by
      have := (List.getElem?_eq_some_iff.mp hy).1
      rw [List.length_map] at this
      exact this
    refine ⟨rfl, _, rfl, z, rfl, 10, 18, rfl, rfl, ⟨by decide, by decide +kernel⟩, _, _, rfl, rfl, _, rfl, ?_⟩
    refine ite2 (fun _ => ?_) (fun _ => ⟨sm, ws, hw, by omega⟩)
    refine ⟨_, rfl, z, rfl, 10, 18, rfl, rfl, ⟨by decide, by decide +kernel⟩, _, _, rfl, rfl, _, hw, ?_, ?_, ws ++ [(if z < 0 then -z else z) - 10 ^ (18 : Int).toNat], ?_, ?_⟩
    · rw [List.length_map]
      exact small1000 (by omega)
    · intro b o e
      rw [upd_ne (ne_of_none e hD)]
      exact sm b o e
    · rw [upd_same, List.map_append]
      rfl
    · rw [List.length_append]
      show ws.length + 1 ≤ i + 1
      omega
  · rintro H1 ⟨sm1, ws, hw, hwl⟩
    rw [List.length_map] at hwl
    intro p hp
    have hpD : Dw ≠ p := ne_of_none hw hp
    have hpH : H p = none := sm1.free hp
    have smp : Same H (upd H1 p (.dK [])) := fun b o e => by
      rw [upd_ne (ne_of_none e hpH)]
      exact sm1 b o e
    refine ⟨_, rfl, _, rfl, a, rfl, ⟨_, smp.seq hS⟩, fun Dc hDc => lc_list (K := c.K) (a := a) (xs := ns.map V.int) (fun i H' => Same (upd H1 p (.dK [])) H' ∧ ∃ cs : List Int, H' Dc = some (.lst (cs.map V.int)) ∧ cs.length ≤ i) ⟨same_new hDc, [], upd_same, Nat.le_refl _⟩ (fun i H' _ p => (smp.trans p.1).seq hS) ?_ ?_⟩
    · rintro i y H' hy ⟨sm, cs, hc, hcl⟩
      obtain ⟨z, rfl⟩ := get hy
      have hil : i < ns.length := by
        have := (List.getElem?_eq_some_iff.mp hy).1
        rw [List.length_map] at this
        exact this
      refine ⟨rfl, ?_⟩
      unfold tYes
      dsimp only
      rw [if_pos rfl]
      refine ⟨_, rfl, z, rfl, .inl ⟨_, rfl, _, _, rfl, rfl, (by show (0 : Int) < 2147483629; decide), _, hc, ?_, ?_, cs ++ [(if z < 0 then -z else z) % 2147483629], ?_, ?_⟩⟩
      · rw [List.length_map]
        exact small1000 (by omega)
      · intro b o e
        rw [upd_ne (ne_of_none e hDc)]
        exact sm b o e
      · rw [upd_same, List.map_append]
        rfl
      · rw [List.length_append]
        show cs.length + 1 ≤ i + 1
        omega
    · rintro H2 ⟨sm2, cs, hc, hcl⟩
      rw [List.length_map] at hcl
      have hDcp : Dc ≠ p := fun z => by
        rw [z, upd_same] at hDc
        cases hDc
      have hDcw : Dw ≠ Dc := fun z => by
        rw [← z, upd_ne hpD, hw] at hDc
        cases hDc
      refine ⟨sm2 _ _ upd_same, stD Dw Dc 0 0, rfl, by show 4 ≤ 15; decide, ?_⟩
      rw [st_merge]
      have hDcH : H Dc = none := smp.free hDc
      have smF : ∀ u, Same H (upd H2 p u) := fun u b o e => by
        rw [upd_ne (ne_of_none e hpH)]
        exact sm2 b o (smp b o e)
      refine q ⟨p, Dw, Dc, c.tb⟩ _ rfl hpH hD hDcH ⟨hT.ext (smF _), hDcw, ws, cs, 0, 0, upd_same, ?_, ?_, by omega, by omega, by omega, by omega⟩ (smF _)
      · rw [upd_ne hpD]
        exact sm2 _ _ (by rw [upd_ne hpD]; exact hw)
      · rw [upd_ne hDcp]
        exact hc
/-! ### the law -/
def spLaw (c : Ctx) : Sp := fun vs H Q _ => ∃ (a : Addr) (ns : List Int), vs = [.ref a] ∧ SqL c.K H a (ns.map V.int) ∧ ns.length ≤ 63 ∧ (∀ p ∈ c.tb, H p.1 = some (.tbl #[])) ∧ ∀ H', Q (.bl true) H'
/-- the law's wish behind its first row -/
def lawEnds : WEnds := ⟨fun _ _ => False, fun d _ => d = .bool true, fun _ _ => False, fun _ _ => False, fun _ _ _ => False⟩
theorem law_start {c : Ctx} {W : WX} {u : WS} {N : List Str} {k : Nat} (hN : 2 ≤ N.length) (hk : k ≤ LIM) (h : ∀ ns : List Int, ns.length ≤ 63 → u (some (.script ns) :: some .state :: List.replicate (N.length - 2) Option.none) (fun _ => Option.none) lawEnds)
    {vs : List V} {H : Hp} {Q : VK} {Ex : XK} (hs : spLaw c vs H Q Ex) : tSeq (tAsg (tCall (sp_law_begun c) [] E0 (tCons (tVar 0) tNil)) (gName 1)) (ldS c W k u) { nx := fun _ H' => Q .non H', rt := Q } (L2.start N vs) H := by
  obtain ⟨a, ns, rfl, hS, hl, hT, q⟩ := hs
  have est : L2.start N [V.ref a] = some (V.ref a) :: none :: List.replicate (N.length - 2) none := by
    unfold L2.start
    obtain ⟨m, hm⟩ : ∃ m, N.length = m + 2 := ⟨N.length - 2, by omega⟩
    rw [hm]
    rfl
  rw [est]
  refine ⟨_, rfl, a, ns, rfl, hS, hl, fun p hp => .nil (hT p hp), fun s H' eT h1 h2 h3 hst sm => ?_⟩
  show ldS c W k u _ (some (V.ref a) :: some (V.ref s.d) :: List.replicate (N.length - 2) none) H'
  obtain ⟨I, hI, hIS⟩ : ∃ I : Hp, (∀ b o, I b = some o → H b = some o ∧ notTb o) ∧ SqL c.K I a (ns.map V.int) := by
    have one : ∀ o0 : HO, H a = some o0 → notTb o0 → ∃ I : Hp, (∀ b o, I b = some o → H b = some o ∧ notTb o) ∧ I a = some o0 := fun o0 e0 n0 => by
      refine ⟨fun b => if b = a then some o0 else Option.none, fun b o e => ?_, if_pos rfl⟩
      by_cases z : b = a
      · have e2 := (if_pos z).symm.trans e
        cases e2
        rw [z]
        exact ⟨e0, n0⟩
      · have e2 := (if_neg z).symm.trans e
        cases e2
    rcases hS with (z | ⟨o, z⟩) | z
    · obtain ⟨I, p1, p2⟩ := one _ z trivial
      exact ⟨I, p1, .inl (.inl p2)⟩
    · obtain ⟨I, p1, p2⟩ := one _ z trivial
      exact ⟨I, p1, .inl (.inr ⟨o, p2⟩)⟩
    · exact ⟨fun _ => Option.none, fun _ _ e => (by cases e), .inr z⟩
  have w : Wd c (some s) (fun _ => Option.none) 0 I (fun _ => Option.none) H' := by
    refine ⟨fun b o e => .inl (sm _ _ (hI b o e).1), fun b o e => (by cases e), fun x e => ?_, fun b o e => (hI b o e).2, fun b o e => (by cases e), s, rfl, eT⟩
    cases e
    refine ⟨hst, fun b hb => ⟨none_of fun o e => ?_, rfl⟩⟩
    obtain ⟨e1, e2⟩ := hI b o e
    rcases hb with (z | z | z) | ⟨p, hp, z⟩
    · rw [z, h1] at e1; cases e1
    · rw [z, h2] at e1; cases e1
    · rw [z, h3] at e1; cases e1
    · rw [eT] at hp
      rw [z, hT p hp] at e1
      cases e1
      exact e2
  have r : Rep c (some s) I (.script ns) (.ref a) := .script hIS
  have er : EnvR c (some s) I (some (.script ns) :: some .state :: List.replicate (N.length - 2) Option.none) (some (V.ref a) :: some (V.ref s.d) :: List.replicate (N.length - 2) none) := by
    refine .yes r (.yes (.state rfl eT) ?_)
    exact EnvR.init (N.length - 2) (ds := []) (vs := []) .nil
  refine ⟨some s, fun _ => Option.none, 0, I, fun _ => Option.none, _, lawEnds, by omega, er, w, h ns hl, ⟨fun _ _ _ _ _ p => p.elim, fun d μ' v I' H2 p s2 w2 r2 => ?_, fun _ _ _ _ _ p => p.elim, fun _ _ _ _ _ p => p.elim, fun _ _ _ _ _ _ _ _ p => p.elim⟩⟩
  cases p
  cases r2
  exact q H2
end DL

set_option Elab.async false
set_option linter.all false
set_option maxRecDepth 100000
set_option maxHeartbeats 4000000
/-! A8: raise, errors with a field, errors caught, a cell that stays as it is from now on. -/
namespace DL
open PySem PySem.Spec PyProof.Rows L2
/-! ### raise -/
def wRz (n : Str) : WS := fun e μ E => E.xp (.err n [] []) e μ
def wRzA (n f : Str) (a : WE) : WS := fun e μ E => a e μ (fun d μ1 => E.xp (.err n [f] [d]) e μ1) fun d μ1 => E.xp d e μ1
/-- the error's own __init__: its field is kept -/
def sp_ei (K : PySem.W.Frag) (f : Str) : Sp := fun vs H Q _ => ∃ (a C : Addr) (y : V), vs = [.ref a, y] ∧ OexC K C ∧ PySem.W.findIn K (.ref C) f = some none ∧ H a = some (exo a C none) ∧ ∀ dx, H dx = none → dx ≠ a → Q .non (upd (upd H dx (exd dx [(f, y)])) a (exo a C (some dx)))
section
variable {X : Cx}
/-- CrossError.__init__(self, ..) -/
theorem pe_ceinit {x : Str} {CE : Addr} {e : Expr} {es : List Expr} {ta : TA} {p1 p2 pos : Pos} {pl : Sem Bool} (hg : Gl X x) (hm : X.mg x = some (.ref CE)) (rd : ClX.CRead X.K CE (.type "type"))
    (vV : PySem.W.findCls X.K (.ref CE) (.type "type") "__init__" = some (.val (.builtin "ValueError.__init__"))) (ha : PA X (e :: es) ta) (hdb : (x == ("__debug__" : Str)) = false := by decide)
    (hc : eval (.Call (.Attribute (.Name x p1) "__init__" p2) (e :: es) [] pos) X.env = (do
      let ov ← eval (.Name x p1) X.env
      standAt p2.atName
      let (f, first) ← holding [ov] (getMethod ov "__init__" pl)
      callWith pos f first (backTo pos (starEach (e :: es) X.env)) (backToKw pos (keywordEach [] X.env))) := by rfl)
    (he : starEach (e :: es) X.env = (false, eval e X.env) :: starEach es X.env := by rfl) (hpl : (backTo pos (starEach es X.env)).any (·.1) = false := by rfl) :
    PE X (.Call (.Attribute (.Name x p1) "__init__" p2) (e :: es) [] pos) (tVeI X.K ta) := by
  refine ⟨fun pins s σ H Q J h => ?_⟩
  refine PySem.W.methodCall_KW (ld_glob J hg hm ?_ hdb) hc
  refine PySem.W.method_cls J.kIn rd.ga (PySem.W.cls_value J.kIn rd.rd vV (by decide +kernel) ?_)
  show wpAny _ _ (callWith pos (Value.builtin "ValueError.__init__") [] (backTo pos (starEach (e :: es) X.env)) []) _ _ _
  refine PyProof.Rows.callWith_method1 (thn (ha.run pos pins _ σ H _ (J.tok _) h) fun us s1 ⟨vs, H1, J1, r1, a, C, ws, ev, hl, T, ea, q⟩ => ?_) he hpl
  subst ev
  cases r1 with
  | @cons _ u0 _ ur ra rw' =>
    obtain rfl : u0 = Value.ref a := ra
    exact oinit_ok T J1 ea (by rw [← Paired.length rw', sizeLine_eq]; omega) fun s' J2 => ⟨.non, H1, J2, rfl, q⟩
end
/-- def __init__(self, f): CrossError.__init__(self, '..'); self.f = f -/
theorem einit_of {P : Program} {w : PySem.World} {K : PySem.W.Frag} {mg : Str → Option Value} {base : Heap} {fa CE : Addr} {fd : FuncData} {x qual s a fld txt : Str} {pa : Arguments} {sc : Scope} {dvs : List V} {kws : List (Str × V)} {j : Nat} {p1 p2 p3 p4 p5 p6 p7 p8 p9 p10 : Pos}
    (F : FunD K x qual pa [.Expr (.Call (.Attribute (.Name "CrossError" p1) "__init__" p2) [.Name s p3, .Constant (.str txt) j p4] [] p5) p6, .Assign [.Attribute (.Name s p7) fld p8] (.Name a p9) p10] sc dvs kws fa fd)
    (Sc : FnScope [s, a] [s, a] sc) (hm : mg "CrossError" = some (.ref CE)) (hgl : sc.names.lookup ("CrossError" : Str) = some .globalImplicit) (hs : sc.names.lookup s = some .local) (ha : sc.names.lookup a = some .local) (rd : ClX.CRead K CE (.type "type"))
    (vV : PySem.W.findCls K (.ref CE) (.type "type") "__init__" = some (.val (.builtin "ValueError.__init__")))
    {pl : Env → Sem Bool} (hcl : ∀ env, eval (.Call (.Attribute (.Name "CrossError" p1) "__init__" p2) [.Name s p3, .Constant (.str txt) j p4] [] p5) env = (do
      let ov ← eval (.Name "CrossError" p1) env
      standAt p2.atName
      let (f, first) ← holding [ov] (getMethod ov "__init__" (pl env))
      callWith p5 f first (backTo p5 (starEach [.Name s p3, .Constant (.str txt) j p4] env)) (backToKw p5 (keywordEach [] env))) := by intro _; rfl)
    (hsw : ∀ env, swapsWith (.Call (.Attribute (.Name "CrossError" p1) "__init__" p2) [.Name s p3, .Constant (.str txt) j p4] [] p5) none p6.line env = pure false := by intro _; rfl) (hsw2 : ∀ env, swapsWith (.Name a p9) (some (.Attribute (.Name s p7) fld p8)) p10.line env = pure false := by intro _; rfl)
    (ds : (s == ("__debug__" : Str)) = false := by decide) (ds2 : (s == ("__classdict__" : Str)) = false := by decide) (da : (a == ("__debug__" : Str)) = false := by decide) (da2 : (a == ("__classdict__" : Str)) = false := by decide) :
    FnOk P w K mg base C8.CX0 1 fa fd [s, a] (sp_ei K fld) := by
  refine F.ok (k := 0) Sc (fun vs H Q E h => ?_) fun cdv A outer sh H vs Q E hr h => ?_
  · obtain ⟨_, _, _, rfl, _⟩ := h
    rfl
  · obtain ⟨a0, C, y, rfl, T, hf, hx, q⟩ := h
    refine ⟨_, pss_cons (ps_expr (pe_ceinit (X := cxOf C8.CX0 P w K mg base [s, a] qual sc fa cdv A outer sh H E) hgl hm rd vV (pa_cons (pe_var (i := 0) rfl (Or.inl hs) ds ds2) (pa_cons pe_str pa_nil)) (hc := hcl _)) (hsw _)) (pss_one (ps_ost (X := cxOf C8.CX0 P w K mg base [s, a] qual sc fa cdv A outer sh H E) (pe_var (i := 0) rfl (Or.inl hs) ds ds2) (pe_var (i := 1) rfl (Or.inl ha) da da2) (hsw2 _))), ?_⟩
    exact ⟨_, rfl, a0, C, _, rfl, by show 1 ≤ 1000; omega, T, hx, y, rfl, _, rfl, a0, C, rfl, T, hf, .inl ⟨hx, q⟩⟩
section
variable {X : Cx} {c : Ctx} {W : WX} {k ka : Nat} {a : Expr} {wa : WE} {n x f : Str} {p p2 pos pos' : Pos}
theorem exd_del {H1 : Hp} {a C dx : Addr} {f : Str} {y : V} (ha : H1 a = none) (hd : dx ≠ a) : upd (L2.del (upd (upd (upd H1 a (exo a C none)) dx (exd dx [(f, y)])) a (exo a C (some dx))) a) dx (.xd [(f, y)]) = upd H1 dx (.xd [(f, y)]) := by
  funext b
  by_cases h1 : b = dx
  · subst h1
    rw [upd_same, upd_same]
  · rw [upd_ne h1, upd_ne h1]
    by_cases h2 : b = a
    · subst h2
      rw [L2.del_same, ha]
    · rw [L2.del_ne h2, upd_ne h2, upd_ne h1, upd_ne h2]
theorem g_rzA {fI : Addr} {fd : FuncData} {ps : List Str} (hc : X.calm = true) (tk : Takes X W) (T : OexC X.K (c.cl n)) (iC : PySem.W.findIn X.K (.ref (c.cl n)) "__init__" = some (some (.ref fI))) (tI : PySem.W.typeIn X.K (.ref fI) = some (.type "function")) (hf : PySem.W.findIn X.K (.ref (c.cl n)) f = some none)
    (G : FnOk X.prog X.w X.K X.mg X.base C8.CX0 k fI fd ps (sp_ei X.K f)) (hr : Room (k + 1) X.A) (hb : Binds X.K fd ps []) (hg : Gl X x) (hm : X.mg x = some (.ref (c.cl n))) (ha : GE X c W ka a wa) (hn : n ∈ c.es := by decide) (hdb : (x == ("__debug__" : Str)) = false := by decide) (hst : starEach [a] X.env = [(false, eval a X.env)] := by rfl) :
    GS X c W ka (.Raise (some (.Call (.Name x p) [a] [] pos)) none pos') (wRzA n f wa) := L2.PS.imp (ps_raise hc tk (pmk_oex (ds := []) (dvs := []) T iC tI G hr hb .nil (fun _ _ _ _ _ _ _ z => False.elim z) hg hm (ga_cons ha ga_nil hst) hdb hst rfl)) fun K σ H h => by
  obtain ⟨S, F, nn, I, μ, e, E, hl, he, hw, h, q⟩ := h
  refine ⟨S, F, nn, I, μ, e, fun ds μ1 => one ds fun d => E.xp (.err n [f] [d]) e μ1, _, hl, he, hw, h, fun ds μ1 vs I1 H1 pa s1 w1 ra => ?_, q.x he⟩
  cases ra with
  | nil => exact pa.elim
  | cons r1 r2 =>
    cases r2 with
    | cons _ _ => exact pa.elim
    | nil =>
      rename_i d y
      refine ⟨by show 1 ≤ 1000; omega, fun b hb1 => ⟨b, _, y, rfl, T, hf, upd_same, fun dx h1 h2 => ⟨rfl, dx, [(f, y)], upd_same, ?_, ?_, ?_⟩⟩⟩
      · rw [upd_ne h2, upd_same]
      · rw [upd_ne h2] at h1
        exact h1
      · rw [upd_ne h2] at h1
        rw [exd_del hb1 h2]
        have sm : Same I1 (upd I1 dx (.xd [(f, y)])) := same_new (w1.fresh h1).1
        exact q.x he _ μ1 _ _ _ _ pa (s1.trans sm) (w1.new h1) ⟨n, [f], [d], [y], rfl, rfl, ⟨rfl, .inr ⟨dx, rfl, upd_same⟩⟩, .cons (r1.mono sm) .nil, hn⟩
/-! ### a cell that stays as it is from now on -/
def wFz (i : Nat) (w : WS) : WS := fun e μ E => match gt e i with
  | some (.cell b) => (match μ b with
    | some nd => w (st e i (some nd.frz)) (del μ b) E
    | Option.none => False)
  | some _ => w e μ E
  | Option.none => False
theorem EnvR.same {S : Option SA} {I : Hp} {d : D} {v : V} : ∀ {e : EnvD} {σ : L2.St} {i : Nat}, EnvR c S I e σ → σ[i]? = some (some v) → Rep c S I d v → EnvR c S I (st e i (some d)) σ
  | _, _, _, .nil, h, _ => by simp at h
  | _, _, 0, .no h, h1, r => by
    simp at h1
    subst h1
    exact .yes r h
  | _, _, 0, .yes _ h, h1, r => by
    simp at h1
    subst h1
    exact .yes r h
  | _, _, i + 1, .no h, h1, r => .no (EnvR.same h (by simpa using h1) r)
  | _, _, i + 1, .yes q h, h1, r => .yes q (EnvR.same h (by simpa using h1) r)
end
end DL

set_option Elab.async false
set_option linter.all false
set_option maxRecDepth 100000
set_option maxHeartbeats 4000000
/-! A9: caught(lambda: ..). -/
namespace DL
open PySem PySem.Spec PyProof.Rows L2
variable [Gds]
open LamX (lamCx lamEnv LamS GivesTo CodeO ExtN Tabs TabB tLam)
section
variable {X : Cx} {pins : List (Addr × Obj)} {σ : L2.St} {H HZ : Hp} {s s1 : Shared}
end
section
variable {X : Cx} {pins : List (Addr × Obj)} {σ : L2.St} {H : Hp} {s : Shared}
/-- an error that is new since the frame began is tracked from now on -/
theorem inv_track {a : Addr} {oe : Obj} {vs : Array Value} {cls : Value} {d : Option Addr} (J : Inv X pins σ H s) (ha : s.heap.get? a = some oe) (na : H a = none) (nl : a ≠ X.env.locals) (hz : Zc cls d oe) (hd : oe.data = .fields vs) (new : X.s_0.heap.get? a = none)
    (np : ∀ p ∈ X.pn ++ pins, p.1 ≠ a) : Inv X pins σ (upd H a (ErO a cls d)) s := by
  have up : ∀ {b : Addr} {o : HO}, H b = some o → upd H a (ErO a cls d) b = some o := fun {b o} e => by
    rw [upd_ne (ne_of_none e na)]
    exact e
  have old : ∀ {b : Addr} {o : Obj}, X.s_0.heap.get? b = some o → b ≠ a := fun {b o} e z => by
    rw [z, new] at e
    cases e
  refine ⟨J.ok, J.os, J.bare, ⟨J.base.keep, J.base.slot, fun b o e n hx => ?_, J.base.there, fun b xs e => up (J.base.tups b xs e), fun b o u e => up (J.base.frzs b o u e), fun b ps e => ?_⟩, J.loc, J.cell, ?_, fun y c e => ?_, fun p hp => ?_, ?_, J.len⟩
  · rw [upd_ne (old e)]
    exact J.base.free b o e n hx
  · obtain ⟨more, z⟩ := J.base.tbls b ps e
    exact ⟨more, up z⟩
  · rw [upd_ne (Ne.symm nl)]
    exact J.free
  · obtain ⟨v, o, e1, e2⟩ := J.cell y c e
    rw [upd_ne fun z => ?_]
    · exact J.freeC y c e
    · rw [z, ha] at e1
      cases e1
      rw [hd] at e2
      cases e2
  · obtain ⟨e1, e2, e3⟩ := J.pin p hp
    exact ⟨e1, by rw [upd_ne (np p hp)]; exact e2, e3⟩
  · exact J.hok.laidN (fun _ _ z => z) na ⟨⟨oe, vs, ha, hz, hd⟩, ⟨oe, ha⟩, fun h1 h2 ⟨o, v, e1, e2, e3⟩ k => ⟨o, v, k _ e1, e2, e3⟩⟩
end
section
variable {X : Cx} {x n : Str} {c : Value} {i : Nat} {body suite : List Stmt} {b₀ : Stmt} {np pos pos' : Pos} {tb : WX → TS} {ts : Addr → Value → Option Addr → TS}
end
/-! ### over data -/
/-- what caught tells: None, or the error, which is one of the classes es -/
def wCaught (es : List Str) (w : WE) : WE := fun e μ Q _ => w e μ (fun _ μ1 => Q .none μ1) fun d μ1 => match d with
  | .err n _ _ => n ∈ es ∧ Q d μ1
  | _ => False
section
variable {X : Cx} {c : Ctx} {W : WX} {k kl : Nat} {w : WE} {es : List Str}
end
end DL

set_option Elab.async false
set_option linter.all false
set_option maxRecDepth 100000
set_option maxHeartbeats 4000000
/-! A10: the law's end, with tables of code objects, where no repr is under way. -/
namespace DL
open PySem PySem.Spec PyProof.Rows L2
open LamX (TabB)
/-- what the caller asks behind the law -/
abbrev Ended (s1 : Shared) : Result → Shared → Prop := fun r s' => r = .ok (.ret (.bool true)) ∧ OldK s1.heap s'.heap ∧ s'.os = s1.os ∧ AllBare s'.gens
section
variable {P : Program} {w : PySem.World} {K : PySem.W.Frag} {mg mb : Str → Option Value} {k : Nat} {fa a : Addr} {fd : FuncData} {x : Str} {sp : Sp} {s1 : Shared} {vs : List Value} {ns : List Int} {cs : List (Addr × Addr)}
/-- what is known of the law's heap -/
structure LawH (K : PySem.W.Frag) (mg mb : Str → Option Value) (s1 : Shared) (cs : List (Addr × Addr)) (a : Addr) (vs : List Value) : Prop where
  kx : K.In s1.heap
  hns : s1.heap.Ns mainGlobals mg
  hb : s1.heap.Ns builtinsNs mb
  hbb : ∀ x : Str, x ≠ "__name__" → mb x = bootBuiltins x
  lim : s1.heap.NoLimit
  hg : s1.gens = #[]
  tab : ∀ p ∈ cs, s1.heap.get? p.2 = some { cls := .none, data := .fields #[] }
  ntab : ∀ p ∈ cs, K.lookup p.2 = none
  code : ∀ p ∈ cs, PySem.W.CodeHd s1.heap p.1 p.2
  bm : ∃ (bm : Addr) (ob : Obj), mg "__builtins__" = some (.ref bm) ∧ bm ≠ builtinsNs ∧ s1.heap.get? bm = some ob ∧ ob.cls = .type "module" ∧ ob.dict = some builtinsNs ∧ ob.data = .plain
  ha : s1.heap.get? a = some { cls := .type "list", data := .seq vs.toArray }
def isTb (cs : List (Addr × Addr)) (b : Addr) : Prop := ∃ p ∈ cs, b = p.2
/-- what is tracked ahead of the law: the script, the tables -/
structure Track (cs : List (Addr × Addr)) (K : PySem.W.Frag) (a : Addr) (H : Hp) : Prop where
  tb : ∀ p ∈ cs, H p.2 = some (.tbl #[])
  only : ∀ b u, H b = some u → (b = a ∧ K.lookup a = none ∧ ∃ o xs, u = .frz o (.lst xs)) ∨ isTb cs b
theorem law_end (L : LawH K mg mb s1 cs a vs) (room : Room k callerA) (F : ∀ base : Heap, K.In base → base.Ns mainGlobals mg → (∀ p ∈ cs, TabB base mg p.1 p.2) → FnW P w K mg base k fa fd [x] sp) (bi : ∀ (s : Shared) (u : Value), BindsTo s fd ⟨[u], []⟩ [(x, u)])
    {H : Hp} (T : Track cs K a H) (hok : HOk P w H s1.heap) (hs : sp [.ref a] H (fun v _ => v = .bl true) fun _ _ _ => False) : codeAny (model P w) callerA (.call (.ref fa) ⟨[.ref a], []⟩) (Ended s1) s1 := by
  have isT : ∀ {b : Addr}, isTb cs b → s1.heap.get? b = some { cls := .none, data := .fields #[] } := by
    rintro b ⟨p, hp, rfl⟩
    exact L.tab p hp
  have seen : ∀ {b : Addr} {o : Obj}, s1.heap.get? b = some o → H b = none → (hidT s1.heap H).get? b = some o := fun p q => hidT_get p q
  have off : ∀ {b : Addr} {o : Obj}, s1.heap.get? b = some o → (∀ vs n, o.data ≠ .seq vs n) → o.data ≠ .fields #[] → H b = none := fun {b o} e h1 h2 => none_of fun u q => by
    rcases T.only b u q with ⟨z, _⟩ | z
    · rw [z, L.ha] at e
      cases e
      exact h1 _ _ rfl
    · rw [isT z] at e
      cases e
      exact h2 rfl
  have dct : ∀ {b : Addr} {o : Obj} {es : Array DictEntry} {n : Nat}, s1.heap.get? b = some o → o.data = .dict es n → H b = none := fun {b o es n} e d => off e (fun _ _ z => by rw [d] at z; cases z) fun z => by rw [d] at z; cases z
  have names : ∀ {b : Addr} {m : Str → Option Value}, s1.heap.Ns b m → (hidT s1.heap H).Ns b m := by
    rintro b m ⟨o, es, n, p, q, r⟩
    exact ⟨o, es, n, seen p (dct p q), q, r⟩
  have kin : K.In (hidT s1.heap H) := fun b o p => seen (L.kx b o p) (none_of fun u q => by
    rcases T.only b u q with ⟨z, z2, _⟩ | ⟨t, ht, z⟩
    · rw [z, z2] at p
      cases p
    · rw [z, L.ntab t ht] at p
      cases p)
  have md : Mod K mg (hidT s1.heap H) := by
    obtain ⟨mc, l1, l2⟩ := L.lim
    exact ⟨kin, names L.hns, ⟨mb, names L.hb, L.hbb⟩, ⟨mc, names l1, l2⟩⟩
  have tabs : ∀ p ∈ cs, TabB (hidT s1.heap H) mg p.1 p.2 := fun p hp => by
    have tp := L.tab p hp
    refine ⟨?_, ?_, fun z => ?_⟩
    · obtain ⟨o, us, file, tf, flags, tg, inF, text, tt, e1, r1, r2, r3, rest⟩ := L.code p hp
      refine ⟨o, us, file, tf, flags, tg, inF, text, tt, seen e1 (off e1 (fun _ _ z => ?_) fun z => ?_), r1, r2, r3, rest⟩
      · rw [r2] at z
        cases z
      · rw [r2] at z
        cases z
        simp at r3
    · obtain ⟨bm, ob, b1, b2, b3, b4, b5, b6⟩ := L.bm
      refine ⟨bm, ob, b1, b2, fun q => ?_, fun q => ?_, seen b3 (off b3 (fun _ _ z => ?_) fun z => ?_), b4, b5, b6⟩
      · obtain ⟨o, es, n, e, hd, _⟩ := L.hns
        rw [q, e] at b3
        cases b3
        rw [hd] at b6
        cases b6
      · rw [q, tp] at b3
        cases b3
        cases b6
      · rw [b6] at z
        cases z
      · rw [b6] at z
        cases z
    · obtain ⟨o, es, n, e, hd, _⟩ := L.hns
      rw [z, tp] at e
      cases e
      cases hd
  have en : Env0 P w K mg (hidT s1.heap H) callerA [] s1 H := ⟨rfl, md, fun b o p => of_hidT p, Nat.le_of_eq (hidT_size _ _), trivial, fun b p => absurd (show b ∈ ([] : List Addr) from p) List.not_mem_nil, hok, .of_eq L.hg⟩
  refine codeAny_mono ((F _ kin (names L.hns) tabs).run callerA [] s1 H ⟨[.ref a], []⟩ [.ref a] [.ref a] _ _ rfl room en (bi s1 (.ref a)) (.cons rfl .nil) hs) fun res s2 z => ?_
  match res, z with
  | .error e, z =>
    obtain ⟨_, _, _, _, _, _, _, _, _, _, _, _, z⟩ := z
    exact z.elim
  | .ok .next, z => exact False.elim z
  | .ok .brk, z => exact False.elim z
  | .ok .cont, z => exact False.elim z
  | .ok (.ret u), z =>
    obtain ⟨v, H2, e1, e2, un, hok2, e3, e4⟩ := z
    cases (show v = .bl true from e4)
    cases (show u = Value.bool true from e3)
    have kept : ∀ b o, ¬ isTb cs b → s1.heap.get? b = some o → s2.heap.get? b = some o := fun b o nb p => by
      cases q : H b with
      | none => exact un.keep b o p q (fun q => nomatch (show b ∈ ([] : List Addr) from q)) List.not_mem_nil
      | some u =>
        rcases T.only b u q with ⟨_, _, ob, xs, z⟩ | z
        · rw [z] at q
          have p1 := (hok b _ q).1
          have p2 := (hok2 b _ (un.frzs b ob _ q)).1
          rw [p] at p1
          cases p1
          exact p2
        · exact absurd z nb
    have grown : ∀ {b : Addr}, isTb cs b → ∃ more : Array Value, s2.heap.get? b = some { cls := .none, data := .fields more } := by
      rintro b ⟨p, hp, rfl⟩
      obtain ⟨more, z⟩ := un.tbls p.2 #[] (T.tb p hp)
      exact ⟨_, hok2 p.2 _ z⟩
    refine ⟨rfl, ⟨fun b o p => ?_, fun b o p => ?_⟩, e1, e2⟩
    · rcases Classical.em (isTb cs b) with z | z
      · obtain ⟨more, hm⟩ := grown z
        rw [isT z] at p
        cases p
        obtain ⟨p, hp, rfl⟩ := z
        exact .inr (.inl ⟨((L.code p hp).tab (L.tab p hp)).isCodeTable, rfl, #[], more, rfl, by rw [Array.empty_append]; exact hm⟩)
      · exact .inl (kept b o z p)
    · rcases Classical.em (isTb cs b) with z | z
      · obtain ⟨more, hm⟩ := grown z
        exact ⟨_, hm⟩
      · exact ⟨o, kept b o z p⟩
theorem law_runs (L : LawH K mg mb s1 cs a vs) (hi : IntsAre vs ns) (hl : ns.length ≤ sizeLine) (room : Room k callerA) (F : ∀ base : Heap, K.In base → base.Ns mainGlobals mg → (∀ p ∈ cs, TabB base mg p.1 p.2) → FnW P w K mg base k fa fd [x] sp) (bi : ∀ (s : Shared) (u : Value), BindsTo s fd ⟨[u], []⟩ [(x, u)])
    (hsp : ∀ H : Hp, (∀ p ∈ cs, H p.2 = some (.tbl #[])) → SqL K H a (ns.map V.int) → sp [.ref a] H (fun v _ => v = .bl true) fun _ _ _ => False) : codeAny (model P w) callerA (.call (.ref fa) ⟨[.ref a], []⟩) (Ended s1) s1 := by
  have rv := vals_ints hi
  have aT : ¬ isTb cs a := by
    rintro ⟨p, hp, z⟩
    have q := L.tab p hp
    rw [← z, L.ha] at q
    cases (show Data.seq vs.toArray _ = Data.fields #[] from congrArg Obj.data (Option.some.inj q))
  classical
  let H0 : Hp := fun b => if isTb cs b then some (.tbl #[]) else none
  have on : ∀ {b : Addr}, isTb cs b → H0 b = some (.tbl #[]) := fun z => if_pos z
  have no : ∀ {b : Addr}, ¬ isTb cs b → H0 b = none := fun z => if_neg z
  have ok0 : ∀ {H : Hp} {b : Addr} {u : HO}, H0 b = some u → ObjOk P w H s1.heap b u := fun {H b u} q => by
    rcases Classical.em (isTb cs b) with z | z
    · rw [on z] at q
      cases q
      obtain ⟨p, hp, rfl⟩ := z
      exact L.tab p hp
    · rw [no z] at q
      cases q
  have t0 : ∀ {b : Addr} {u : HO}, H0 b = some u → isTb cs b := fun {b u} q => Classical.byContradiction fun z => by
    rw [no z] at q
    cases q
  cases hk : K.lookup a with
  | some o =>
    have p := L.kx a o hk
    rw [L.ha] at p
    cases p
    refine law_end L room F bi (H := H0) ⟨fun p hp => on ⟨p, hp, rfl⟩, fun b u q => .inr (t0 q)⟩ (fun b u q => ok0 q) (hsp _ (fun p hp => on ⟨p, hp, rfl⟩) (.inr ⟨_, vs.toArray, _, hk, rfl, rfl, rfl, by rw [List.size_toArray, hi.length]; exact hl, rv⟩))
  | none =>
    let h0 : HO := .frz { cls := .type "list", data := .seq vs.toArray } (.lst (ns.map V.int))
    have ne : ∀ {p : Addr × Addr}, p ∈ cs → p.2 ≠ a := fun {p} hp z => aT ⟨p, hp, z.symm⟩
    refine law_end L room F bi (H := upd H0 a h0) ⟨fun p hp => by rw [upd_ne (ne hp)]; exact on ⟨p, hp, rfl⟩, fun b u q => ?_⟩ (fun b u q => ?_) (hsp _ (fun p hp => by rw [upd_ne (ne hp)]; exact on ⟨p, hp, rfl⟩) (.inl (.inr ⟨_, upd_same⟩)))
    · by_cases z : b = a
      · subst z
        rw [upd_same] at q
        cases q
        exact .inl ⟨rfl, hk, _, _, rfl⟩
      · rw [upd_ne z] at q
        exact .inr (t0 q)
    · by_cases z : b = a
      · subst z
        rw [upd_same] at q
        cases q
        exact ⟨L.ha, by rw [List.length_map]; exact hl, vs, _, rv, L.ha⟩
      · rw [upd_ne z] at q
        exact ok0 q
end
/-- a law, by its def's promise at the head's heap h -/
def LawAt (l : PySem.W.OpenLaw) (w : PySem.World) (k n : Nat) (x : Str) (mg : Str → Option Value) (fa : Addr) (h : Heap) : Prop :=
  ∃ (c : Ctx) (fd : FuncData) (cs : List (Addr × Addr)), c.K.In h ∧ (∀ p ∈ cs, h.get? p.2 = some { cls := .none, data := .fields #[] }) ∧ (∀ p ∈ cs, c.K.lookup p.2 = none) ∧ (∀ p ∈ cs, PySem.W.CodeHd h p.1 p.2) ∧ (∀ p ∈ c.tb, isTb cs p.1) ∧ (∀ (s : Shared) (u : Value), BindsTo s fd ⟨[u], []⟩ [(x, u)]) ∧
    ∀ base : Heap, c.K.In base → base.Ns mainGlobals mg → (∀ p ∈ cs, TabB base mg p.1 p.2) → FnW l.prog w c.K mg base k fa fd [x] (spLaw c)
theorem walk_of {l : PySem.W.OpenLaw} {n k : Nat} {q : Program} {loose : List Str} {XP : (Str → Option Value) → Heap → Prop} {YP : PySem.World → Heap → Prop} {d : DefRec} {x : Str} (hn : l.most = some n) (hn2 : n ≤ 63) (hdf : d.params.defaults = []) (room : Room k callerA)
    (F : ∀ (w : PySem.World) (mg : Str → Option Value) (fa : Addr) (h : Heap), YP w h → h.Ns mainGlobals mg → mg d.name = some (.ref fa) → LawAt l w k n x mg fa h) :
    PySem.W.WalkO q loose XP YP l.row.toRowW d [] (fun f vs => PySem.call f vs) := Att.attach_call hn hdf fun w s0 s1 mg mb fa o pm cd doc a vs ns G Y ho hd hcd hmg hobj hints hlen hg => by
  obtain ⟨c, fd, cs, kx, b1, b2, b3, b4, b5, b6⟩ := F w mg fa _ Y G.T.g hmg
  refine law_runs ⟨kx, G.T.g, G.T.b, G.T.builtins, G.T.nolimit, hg, b1, b2, b3, G.T.bmain, hobj⟩ hints (by rw [sizeLine_eq]; omega) room b6 b5 fun H hT hS => ⟨a, ns, rfl, hS, by omega, fun p hp => ?_, fun _ => rfl⟩
  obtain ⟨r, hr, e⟩ := b4 p hp
  rw [e]
  exact hT r hr
end DL

set_option Elab.async false
set_option linter.all false
set_option maxRecDepth 100000
set_option maxHeartbeats 4000000
/-! A11: the head's facts: with empty tables left out; errors, classes by lists of names; static methods; some displays. -/
namespace DL
open PySem PySem.Spec PyProof.Rows L2
variable [Gds]
/-! ### the hook with tables -/
/-- the bits of addresses; what is new joins them, the last in front -/
def newY : List Addr → Nat → List Addr → Nat × List Addr
  | [], m, acc => (m, acc)
  | a :: as, m, acc => HandSHeadRun.frNat a fun a => match Nat.beq (Nat.mod (Nat.shiftRight m a) 2) 1 with
    | true => newY as m acc
    | false => HandSHeadRun.frNat (Nat.add m (Nat.pow 2 a)) fun m => newY as m (a :: acc)
/-- n rounds from those in front -/
def goY (g : Addr → Option Obj) : Nat → Nat → List Addr → List Addr → List Addr
  | 0, _, _, all => all.reverse
  | n + 1, m, fr, all => match newY (fr.flatMap fun a => match g a with
    | some o => He.refsD o
    | none => []) m [] with
    | (m, new) => goY g n m new.reverse (new ++ all)
/-- what the names reach in n steps, and the interpreter's own statics -/
def asY (g : Addr → Option Obj) (n : Nat) : List Addr := goY g n (Nat.pow 2 mainGlobals) [mainGlobals] [mainGlobals] ++ [cStatics, sysModules]
abbrev tabAt (K : PySem.W.Frag) (f : Addr) : Addr := He.tabOf K (codeAt K f)
structure SaysY (bs : List (PySem.W.Frag → Bool)) (fn : List DefX) (tf : List (PySem.W.Frag → Addr)) (h : Heap) (K : PySem.W.Frag) : Prop where
  t : SaysX bs fn K
  hd : ∀ f ∈ tf, PySem.W.codeHdIn K (codeAt K (f K)) (tabAt K (f K)) = true
  out : ∀ f ∈ tf, K.lookup (tabAt K (f K)) = none
  empty : ∀ f ∈ tf, h.get? (tabAt K (f K)) = some { cls := .none, data := .fields #[] }
def tabsY (g : Addr → Option Obj) (tf : List (PySem.W.Frag → Addr)) (K : PySem.W.Frag) : Bool := tf.all fun f => PySem.W.codeHdIn K (codeAt K (f K)) (tabAt K (f K)) && (match g (tabAt K (f K)) with
  | some o => He.emptyTab o
  | none => false)
abbrev AlY : Type := AlX × Bool
def obsY (n : Nat) (bs : List (PySem.W.Frag → Bool)) (fn : List DefX) (tf : List (PySem.W.Frag → Addr)) (g : Addr → Option Obj) : AlY := (obsX bs fn (He.frT g (asY g n)), tabsY g tf (He.frT g (asY g n)))
theorem saysY_of {n : Nat} {bs : List (PySem.W.Frag → Bool)} {fn : List DefX} {tf : List (PySem.W.Frag → Addr)} {h : Heap} (e : obsY n bs fn tf h.get? = (valX fn, true)) : SaysY bs fn tf h (He.frT h.get? (asY h.get? n)) := by
  have e1 : obsX bs fn (He.frT h.get? (asY h.get? n)) = valX fn := congrArg (fun z : AlY => z.1) e
  have e2 : tabsY h.get? tf (He.frT h.get? (asY h.get? n)) = true := congrArg (fun z : AlY => z.2) e
  have each : ∀ f ∈ tf, PySem.W.codeHdIn (He.frT h.get? (asY h.get? n)) (codeAt (He.frT h.get? (asY h.get? n)) (f (He.frT h.get? (asY h.get? n)))) (tabAt (He.frT h.get? (asY h.get? n)) (f (He.frT h.get? (asY h.get? n)))) = true ∧
      ∃ o, h.get? (tabAt (He.frT h.get? (asY h.get? n)) (f (He.frT h.get? (asY h.get? n)))) = some o ∧ He.emptyTab o = true := fun f hf => by
    obtain ⟨z1, z2⟩ := He.ba (List.all_eq_true.mp e2 f hf)
    refine ⟨z1, ?_⟩
    split at z2
    · rename_i o q
      exact ⟨o, q, z2⟩
    · cases z2
  refine ⟨e1, fun f hf => (each f hf).1, fun f hf => ?_, fun f hf => ?_⟩
  · obtain ⟨_, o, q, z⟩ := each f hf
    exact He.frT_none q z
  · obtain ⟨_, o, q, z⟩ := each f hf
    rw [q, He.emptyTab_eq z]
def hookY (n : Nat) (bs : List (PySem.W.Frag → Bool)) (fn : List DefX) (tf : List (PySem.W.Frag → Addr)) : PySem.W.Hook where
  α := AlY
  obs := fun s => obsY n bs fn tf s.heap.get?
  val := fun _ => (valX fn, true)
  says := fun _ h => ∃ K : PySem.W.Frag, K.In h ∧ SaysY bs fn tf h K
  of := fun _ _ e => ⟨_, He.frT_in, saysY_of e⟩
  keeps := fun _ _ _ ⟨K, hK, c⟩ k => ⟨K, PySem.W.Frag.In.keeps hK k, ⟨c.t, c.hd, c.out, fun f hf => k _ _ (c.empty f hf)⟩⟩
theorem obsY_eq {n : Nat} {bs : List (PySem.W.Frag → Bool)} {fn : List DefX} {tf : List (PySem.W.Frag → Addr)} {g : Addr → Option Obj} {s : Shared} (h : ∀ a, g a = s.heap.get? a) : obsY n bs fn tf g = (hookY n bs fn tf).obs s := by
  have e : g = s.heap.get? := funext h
  rw [e] <;> rfl
/-- the tables of the defs tf -/
def tabsOf (K : PySem.W.Frag) (tf : List (PySem.W.Frag → Addr)) : List (Addr × Addr) := tf.map fun f => (codeAt K (f K), tabAt K (f K))
/-! ### Bools of the head -/
def noneB (o : Option (Option Value)) : Bool := match o with
  | some none => true
  | _ => false
theorem noneB_ok {o : Option (Option Value)} (h : noneB o = true) : o = some none := by
  unfold noneB at h
  split at h
  · rfl
  · cases h
theorem all_ok {α : Type} {l : List α} {p : α → Bool} {P : α → Prop} (h : l.all p = true) (i : ∀ a, p a = true → P a) : ∀ a ∈ l, P a := fun a ha => i a (List.all_eq_true.mp h a ha)
def excB (K : PySem.W.Frag) (D : Addr) : Bool := He.eqO (PySem.W.findIn K (.ref D) "__getattribute__") (some (some (.builtin "BaseException.__getattribute__"))) && (noneB (PySem.W.findIn K (.ref D) "__getattr__") && (decide (PySem.W.subIn K (.ref D) (.type "BaseException") = some true) && (PySem.W.hasDictIn K D &&
  (He.eqO (PySem.W.findIn K (.ref D) "__class__") (some (some (.builtin "object.__class__"))) && (He.eqO (PySem.W.specialIn K (.builtin "object.__class__") "__get__") (some (some (.builtin "getset_descriptor.__get__"))) && (decide (PySem.W.takesIn K (.builtin "object.__class__") = some true) && decide (PySem.W.mroIn K D (.type "object") = some true)))))))
theorem excB_ok {K : PySem.W.Frag} {D : Addr} (h : excB K D = true) : ExcC K D := by
  obtain ⟨h1, h⟩ := He.ba h
  obtain ⟨h2, h⟩ := He.ba h
  obtain ⟨h3, h⟩ := He.ba h
  obtain ⟨h4, h⟩ := He.ba h
  obtain ⟨h5, h⟩ := He.ba h
  obtain ⟨h6, h⟩ := He.ba h
  obtain ⟨h7, h8⟩ := He.ba h
  exact ⟨He.eqO_ok h1, noneB_ok h2, of_decide_eq_true h3, h4, He.eqO_ok h5, He.eqO_ok h6, of_decide_eq_true h7, of_decide_eq_true h8⟩
/-- all that is asked of the classes of a law -/
def ctxB (ns es : List Str) (K : PySem.W.Frag) : Bool := (ns.all fun n => (He.Fa.cls n).ok K && isiB K (He.ga K n)) && ((es.all fun n => excB K (He.ga K n)) && (((ns ++ es).all fun n => (ns ++ es).all fun m => kitB2 K (.ref (He.ga K n)) (.ref (He.ga K m)) (subCC n m)) &&
  (((ns ++ es).all fun n => tyNames.all fun t => kitB2 K (.ref (He.ga K n)) (.type t) (subCT n t)) && (tyNames.all fun t => (ns ++ es).all fun n => kitB2 K (.type t) (.ref (He.ga K n)) false))))
theorem ctxB_ok {ns es : List Str} {K : PySem.W.Frag} {tb : List (Addr × Str)} (h : ctxB ns es K = true) : CtxOk { K := K, cl := He.ga K, tb := tb, ns := ns, es := es } := by
  obtain ⟨h1, h⟩ := He.ba h
  obtain ⟨h2, h⟩ := He.ba h
  obtain ⟨h3, h⟩ := He.ba h
  obtain ⟨h4, h5⟩ := He.ba h
  refine ⟨all_ok h1 fun n z => ?_, all_ok h2 fun n z => excB_ok z, all_ok h3 fun n z => all_ok z fun m z => kitB2_ok z, all_ok h4 fun n z => all_ok z fun m z => kitB2_ok z, all_ok h5 fun n z => all_ok z fun m z => kitB2_ok z⟩
  obtain ⟨z1, z2⟩ := He.ba z
  exact isiB_ok (He.cls_ok z1) z2
/-- an error class without own __init__ -/
structure ErN (K : PySem.W.Frag) (C : Addr) : Prop where
  q : PySem.W.excIn K C PySem.HandSPX.veTail "ValueError.__new__" = true
  kp : PySem.W.keepIn K (.ref C) = true
  be : PySem.W.subIn K (.ref C) (.type "BaseException") = some true
  ty : PySem.W.typeIn K (.ref C) = some (.type "type")
def erB (K : PySem.W.Frag) (C : Addr) : Bool := PySem.W.excIn K C PySem.HandSPX.veTail "ValueError.__new__" && (PySem.W.keepIn K (.ref C) && (decide (PySem.W.subIn K (.ref C) (.type "BaseException") = some true) && decide (PySem.W.typeIn K (.ref C) = some (.type "type"))))
theorem erB_ok {K : PySem.W.Frag} {C : Addr} (h : erB K C = true) : ErN K C := by
  obtain ⟨h1, h⟩ := He.ba h
  obtain ⟨h2, h⟩ := He.ba h
  obtain ⟨h3, h4⟩ := He.ba h
  exact ⟨h1, h2, of_decide_eq_true h3, of_decide_eq_true h4⟩
/-- one with an own __init__ and the field f -/
structure ErI (K : PySem.W.Frag) (C fI : Addr) (f : Str) : Prop where
  t : OexC K C
  ini : PySem.W.findIn K (.ref C) "__init__" = some (some (.ref fI))
  fn : PySem.W.typeIn K (.ref fI) = some (.type "function")
  nof : PySem.W.findIn K (.ref C) f = some none
def oexB (K : PySem.W.Frag) (C : Addr) : Bool := match K.lookup C with
  | some ⟨.type "type", _, .cls cd, sl⟩ => (match cd.mro, sl.toList with
    | .ref C' :: bm, [_, _, _, _, some (.builtin n), _] => C' == C && (n == "ValueError.__new__" && (!cd.hasDel && (cd.hasDict && PySem.HandSPX.refsVE bm)))
    | _, _ => false)
  | _ => false
theorem oexB_ok {K : PySem.W.Frag} {C : Addr} (h : oexB K C = true) : ∃ nm q N bs bm sn sub ab col dd k0 k1 k2 k3 k5, K.lookup C = some (excClassObj nm q C N bs bm true sn sub ab col dd k0 k1 k2 k3 k5 "ValueError.__new__") ∧ PySem.HandSPX.refsVE bm = true := by
  unfold oexB at h
  split at h
  · rename_i dd cd sl ho
    split at h
    · rename_i C' bm k0 k1 k2 k3 n k5 hm hs
      simp only [Bool.and_eq_true, beq_iff_eq, Bool.not_eq_true'] at h
      obtain ⟨rfl, rfl, hdel, hdct, hr⟩ := h
      obtain ⟨nm, bs, mro, ns, qn, hd, sn, sub, ab, col, del⟩ := cd
      dsimp only at hm hdel hdct
      subst hm hdel hdct
      have hsl : sl = #[k0, k1, k2, k3, some (.builtin "ValueError.__new__"), k5] := by
        obtain ⟨l⟩ := sl
        simp only at hs
        rw [hs]
      subst hsl
      exact ⟨nm, qn, ns, bs, bm, sn, sub, ab, col, dd, k0, k1, k2, k3, k5, ho, hr⟩
    · cases h
  · cases h
def eriB (K : PySem.W.Frag) (C fI : Addr) (f : Str) : Bool := oexB K C && (He.eqO (PySem.W.findIn K (.ref C) "__setattr__") (some (some (.builtin "object.__setattr__"))) && (decide (PySem.W.subIn K (.ref C) (.type "BaseException") = some true) && (decide (PySem.W.typeIn K (.ref C) = some (.type "type")) && (PySem.W.keepIn K (.ref C) &&
  (He.eqO (PySem.W.findIn K (.ref C) "__init__") (some (some (.ref fI))) && (decide (PySem.W.typeIn K (.ref fI) = some (.type "function")) && noneB (PySem.W.findIn K (.ref C) f)))))))
theorem eriB_ok {K : PySem.W.Frag} {C fI : Addr} {f : Str} (h : eriB K C fI f = true) : ErI K C fI f := by
  obtain ⟨h1, h⟩ := He.ba h
  obtain ⟨h2, h⟩ := He.ba h
  obtain ⟨h3, h⟩ := He.ba h
  obtain ⟨h4, h⟩ := He.ba h
  obtain ⟨h5, h⟩ := He.ba h
  obtain ⟨h6, h⟩ := He.ba h
  obtain ⟨h7, h8⟩ := He.ba h
  exact ⟨⟨oexB_ok h1, He.eqO_ok h2, of_decide_eq_true h3, of_decide_eq_true h4, h5⟩, He.eqO_ok h6, of_decide_eq_true h7, noneB_ok h8⟩
/-- what of a class is read: the base's __init__, a static method -/
def vInit (K : PySem.W.Frag) (C : Addr) : Bool := match PySem.W.findCls K (.ref C) (.type "type") "__init__" with
  | some (.val (.builtin n)) => n == "ValueError.__init__"
  | _ => false
theorem vInit_ok {K : PySem.W.Frag} {C : Addr} (h : vInit K C = true) : PySem.W.findCls K (.ref C) (.type "type") "__init__" = some (.val (.builtin "ValueError.__init__")) := by
  unfold vInit at h
  split at h
  · rename_i n e
    rw [e, beq_iff_eq.mp h]
  · cases h
def creadB (K : PySem.W.Frag) (C : Addr) : Bool := PySem.W.readsIn K C (.type "type") && He.eqO (PySem.W.specialIn K (.ref C) "__getattribute__") (some (some (.builtin "type.__getattribute__")))
theorem creadB_ok {K : PySem.W.Frag} {C : Addr} (h : creadB K C = true) : ClX.CRead K C (.type "type") := by
  obtain ⟨h1, h2⟩ := He.ba h
  exact ⟨h1, He.eqO_ok h2⟩
structure SMet (K : PySem.W.Frag) (C : Addr) (m : Str) (p g : Addr) : Prop where
  at_ : PySem.W.findCls K (.ref C) (.type "type") m = some (.get (.builtin "staticmethod.__get__") (.ref p) .none (.ref C))
  rc : ∃ rest, PySem.W.recIn K p "staticmethod" = some (.ref g :: rest)
  kp : PySem.W.keepIn K (.ref g) = true
section
variable {X : Cx} {c : Ctx} {W : WX} {k kf ka : Nat} {n m x : Str} {a : Expr} {es : List Expr} {wr : WA} {s : WP} {f pp : Addr} {fd : FuncData} {ps : List Str} {p pos apos : Pos}
theorem g_cls {ex : Expr} (h : PE X ex (tC (.ref (c.cl n)))) (hn : n ∈ c.ns ++ c.es) : GE X c W 0 ex (wK (.cls n)) := g_con h fun _ _ => .cls hn
theorem g_ty {ex : Expr} {t : String} (h : PE X ex (tC (.ty t))) (hn : t ∈ tyNames := by decide) : GE X c W 0 ex (wK (.ty t)) := g_con h fun _ _ => .ty hn
end
/-! ### facts of the written part that later texts ask -/
section
open PySem.W
end
end DL

set_option Elab.async false
set_option linter.all false
set_option maxRecDepth 100000
set_option maxHeartbeats 4000000
/-! A12: defaults, costs, {}, list(range(..)). -/
namespace DL
open PySem PySem.Spec PyProof.Rows L2
section
variable {X : Cx} {c : Ctx} {W : WX} {k ka kb : Nat} {m : Bool} {a : Expr} {wr : WA} {pos : Pos}
theorem gs_le {ss : List Stmt} {w : WS} (h : GSs X c W ka ss w) (hk : ka ≤ kb) : GSs X c W kb ss w := L2.PSs.imp h fun K σ H h => by
  obtain ⟨S, F, n, I, μ, e, E, hl, he, hw, h, q⟩ := h
  exact ⟨S, F, n, I, μ, e, E, by omega, he, hw, h, q.mono (by omega) (Same.refl I)⟩
/-- {} -/
def wDict0 (m : Bool) : WE := fun _ μ Q _ => sett m Q (.n (.dk [] [])) μ
theorem g_dict0 : GE X c W 0 (.Dict [] [] pos) (wDict0 m) := L2.PE.imp pe_dnewK fun σ H Q h => by
  obtain ⟨S, F, n, I, μ, e, Qd, Xd, hl, he, hw, h, q, x⟩ := h
  intro p hp
  obtain ⟨w2, r2⟩ := RsR.new hw hp (NdR.dk (ks := []) (xs := []) .nil rfl)
  exact (q.sett (m := m)) _ μ _ I _ h (Same.refl I) w2 r2
/-! list(range(n)) -/
def wLrng (m : Bool) (a : WA) : WE := fun e μ Q X => a e μ (fun ds μ1 => one ds fun d => int1 d fun j => (0 ≤ j ∧ j ≤ 2 ^ 20) ∧ sett m Q (.n (.list (rangeD 0 j.toNat))) μ1) X
end
theorem len_mixed {c : Ctx} {vs : List V} {H : Hp} {Q : VK} {Ex : XK} {k : Nat} {x : Str} (h : SpW c wp_law_mixed k vs H Q Ex) : vs.length = [x].length := by
  obtain ⟨S, F, m, I, μ, ds, Qd, Xd, hl, w, r, h, _⟩ := h
  rw [← r.length]
  unfold wp_law_mixed at h
  split at h
  · rfl
  · exact h.elim
theorem len_take {c : Ctx} {vs : List V} {H : Hp} {Q : VK} {Ex : XK} {k : Nat} {x y : Str} (h : SpW c wp_law_take k vs H Q Ex) : vs.length = [x, y].length := by
  obtain ⟨S, F, m, I, μ, ds, Qd, Xd, hl, w, r, h, _⟩ := h
  rw [← r.length]
  unfold wp_law_take at h
  split at h
  · rfl
  · exact h.elim
theorem tabs_all {K : PySem.W.Frag} {tf : List (PySem.W.Frag → Addr)} {P : Addr × Addr → Prop} (h : ∀ f ∈ tf, P (codeAt K (f K), tabAt K (f K))) : ∀ p ∈ tabsOf K tf, P p := fun p hp => by
  obtain ⟨f, hf, rfl⟩ := List.mem_map.mp hp
  exact h f hf
theorem tabs_mem {K : PySem.W.Frag} {tf : List (PySem.W.Frag → Addr)} {f : PySem.W.Frag → Addr} (h : f ∈ tf) : (codeAt K (f K), tabAt K (f K)) ∈ tabsOf K tf := List.mem_map.mpr ⟨f, h, rfl⟩
end DL

set_option Elab.async false
set_option linter.all false
set_option maxRecDepth 100000
set_option maxHeartbeats 4000000
/-! A13: == of an own object and any thing of a known kind. -/
namespace DL
open PySem PySem.Spec PyProof.Rows L2
variable [Gds]
/-- no kind of thing comes ahead of the class -/
structure NotF (c : Ctx) (C : Addr) : Prop where
  ty : ∀ t ∈ tyNames, PySem.W.notFirst c.K C (.type t) = true
  cl : ∀ n ∈ c.ns ++ c.es, PySem.W.notFirst c.K C (.ref (c.cl n)) = true
theorem NotF.of {c : Ctx} {C : Addr} (h : NotF c C) {t : TyD} {u : Value} (q : TyV c t u) : PySem.W.notFirst c.K C u = true := by
  cases t with
  | b n =>
    obtain ⟨rfl, q⟩ := q
    exact h.ty _ q
  | o n =>
    obtain ⟨rfl, q⟩ := q
    exact h.cl _ q
section
variable {X : Cx} {c : Ctx} {W : WX} {k kf : Nat} {n : Str} {s : WP} {f : Addr} {fd : FuncData} {ps : List Str}
end
end DL

set_option Elab.async false
set_option linter.all false
set_option maxRecDepth 100000
set_option maxHeartbeats 4000000
/-! A14: keywords; all, any, insert, str of an int, is of bools, chains. -/
namespace DL
open PySem PyProof.Rows L2
variable [Gds]
/-! ### keywords: the values in the parameters' order -/
def permD {α : Type} (z : α) (js : List Nat) (xs : List α) : List α := js.map fun j => xs.getD j z
def waPerm (js : List Nat) (a : WA) : WA := fun e μ Q X => a e μ (fun ds μ1 => ds.length = js.length ∧ Q (permD D.none js ds) μ1) X
theorem getD_none {α : Type} {z : α} {xs : List α} {j : Nat} (h : xs[j]? = Option.none) : xs.getD j z = z := by rw [List.getD, h]; rfl
theorem getD_some {α : Type} {z x : α} {xs : List α} {j : Nat} (h : xs[j]? = some x) : xs.getD j z = x := by rw [List.getD, h]; rfl
theorem perm_vals {vs : List V} {us : List Value} (r : Vals vs us) : ∀ js : List Nat, Vals (permD V.non js vs) (permD Value.none js us)
  | [] => .nil
  | j :: js => by
    refine .cons ?_ (perm_vals r js)
    show RelV (vs.getD j V.non) (us.getD j Value.none)
    cases e : vs[j]? with
    | none =>
      have e2 : us[j]? = Option.none := by
        rw [List.getElem?_eq_none_iff] at e ⊢
        rw [← r.length]
        exact e
      rw [getD_none e, getD_none e2]
      exact rfl
    | some d =>
      obtain ⟨x, h1, h2⟩ := r.get e
      rw [getD_some e, getD_some h1]
      exact h2
abbrev KB (K : PySem.W.Frag) (fd : FuncData) (ps : List Str) (n : Nat) (ks : List Str) (js : List Nat) : Prop := KBn K fd ps n ks (fun us ws => us ++ permD Value.none js ws) (fun vs zs => vs ++ permD V.non js zs)
section
variable {K : PySem.W.Frag} {x qual : Str} {params : Arguments} {body : List Stmt} {scope : Scope} {dvs : List V} {kws : List (Str × V)} {f : Addr} {fd : FuncData} {ps : List Str}
theorem kbn0 (F : FunD K x qual params body scope [] kws f fd) (n : Nat) (ks : List Str) (js : List Nat)
    (h : ∀ (kV doc pm : Value) (an : Option Addr) (cdv ct : Value) (us ws : List Value), us.length = n → ws.length = ks.length → bindArgs (PySem.W.fnOf x qual params body scope .none kV doc pm an cdv ct) ⟨us, ks.zip ws⟩ = pure (ps.zip (us ++ permD Value.none js ws))) : KB K fd ps n ks js := by
  obtain ⟨oc, od, dV, kV, doc, pm, an, cdv, ct, osl, rfl, lk, hcd, hD, hK⟩ := F.ex
  rcases hD with ⟨_, rfl⟩ | ⟨e, _⟩
  · exact ⟨fun s us ws X l1 l2 => .of_eq (h kV doc pm an cdv ct us ws l1 l2), fun r1 r2 => r1.append (perm_vals r2 js)⟩
  · exact absurd rfl e
end
theorem _root_.L2.PK.imp {X : Cx} {kws : List Keyword} {t t' : TA} (h : PK X kws t) (i : ∀ σ H Q, t' σ H Q → t σ H Q) : PK X kws t' := ⟨fun pos pins s σ H Q J z => h.run pos pins s σ H Q J (i σ H Q z)⟩
section
variable {X : Cx} {c : Ctx} {W : WX} {k kf ka kb : Nat} {f C : Addr} {fd : FuncData} {ps ks : List Str} {sp : Sp} {s : WP} {js : List Nat} {x : Str} {p pos kpos : Pos} {e : Expr} {kws : List Keyword} {wr : WA} {wa : WE} {nm : Option Str}
abbrev GK (X : Cx) (c : Ctx) (W : WX) (k : Nat) (kws : List Keyword) (w : WA) : Prop := PK X kws (ldA c W k w)
theorem gk_nil : GK X c W 0 [] waNil := L2.PK.imp pk_nil fun σ H Q h => by
  obtain ⟨S, F, n, I, μ, e, Qd, Xd, hl, he, hw, h, q, x⟩ := h
  exact q [] μ [] I H h (Same.refl I) hw .nil
theorem gk_cons (ha : GE X c W ka e wa) (hr : GK X c W kb kws wr) : GK X c W (ka + kb) (⟨nm, e, kpos⟩ :: kws) (waCons wa wr) := L2.PK.imp (pk_cons ha hr) fun σ H Q h => ld_cons h
end
/-! ### all, any of a list of bools -/
section
variable {X : Cx} {c : Ctx} {W : WX}
/-! ### list.insert -/
/-! ### is, is not of bools -/
def oBB (f : Bool → Bool → Bool) : WOp := fun x y μ Q _ => match x with
  | .bool a => (match y with
    | .bool b => Q (.v (.bool (f a b))) μ
    | _ => False)
  | _ => False
abbrev oIsB : WOp := oBB fun a b => decide (a = b)
abbrev oNotB : WOp := oBB fun a b => !decide (a = b)
/-! ### a < b < c of ints -/
def wChain (p q : Int → Int → Bool) (a b d : WE) : WE := fun e μ Q X => a e μ (fun x μ1 => b e μ1 (fun y μ2 => int1 x fun i => int1 y fun j => if p i j = true then d e μ2 (fun z μ3 => int1 z fun k => Q (.bool (q j k)) μ3) X else Q (.bool false) μ2) X) X
variable {a b d : Expr} {wa wb wd : WE} {ka kb kc : Nat} {pos : Pos} {op op' : CmpOp} {p q : Int → Int → Bool}
end
end DL

set_option Elab.async false
set_option linter.all false
set_option maxRecDepth 100000
set_option maxHeartbeats 4000000
/-! A15: == of tuples and lists that hold instances with an own ==. -/
namespace GQ2
open PySem PySem.SeqAt
open AutoSeq1 (wpAny_loadPart')
open MeetsSeq MeetsSeq2 MeetsSeq3 SeqRoads2
section
variable {prog : Program} {w : World} {A : Around} {R : Result → Shared → Prop}
end
section
variable {prog : Program} {w : World} {A : Around} {E : Value → Shared → Prop} {s : Shared}
end
end GQ2
namespace DL
open PySem PyProof.Rows L2
variable [Gds]
/-! ### equality of data with instances of one class -/
mutual
def eqO : D → D → Bool
  | .tup xs, .tup ys => eqOs xs ys
  | .list xs, .list ys => eqOs xs ys
  | .obj _ _ xs, .obj _ _ ys => eqOs xs ys
  | x, y => eqF x y
def eqOs : List D → List D → Bool
  | [], [] => true
  | x :: xs, y :: ys => eqO x y && eqOs xs ys
  | _, _ => false
end
mutual
/-- they can be compared; n, fs, P: of the instances -/
def cmpO (n : Str) (fs : List Str) (P : List D → Bool) : D → D → Bool
  | .tup xs, .tup ys => cmpOs n fs P xs ys
  | .list xs, .list ys => cmpOs n fs P xs ys
  | .obj n1 f1 xs, .obj n2 f2 ys => decide (n1 = n) && (decide (f1 = fs) && (P xs && (decide (n2 = n) && (decide (f2 = fs) && P ys))))
  | x, y => flatD x && flatD y
def cmpOs (n : Str) (fs : List Str) (P : List D → Bool) : List D → List D → Bool
  | x :: xs, y :: ys => cmpO n fs P x y && (!eqO x y || cmpOs n fs P xs ys)
  | _, _ => true
end
/-- what is known of the instances' own == -/
structure OwnE (X : Cx) (c : Ctx) (k : Nat) (n : Str) (fs : List Str) (P : List D → Bool) : Prop where
  ex : ∃ (f : Addr) (fd : FuncData) (ps : List Str) (s : WP), FnW X.prog X.w X.K X.mg X.base k f fd ps (SpW c s 0) ∧ Binds X.K fd ps [] ∧ PySem.W.notFirst X.K (c.cl n) (.ref (c.cl n)) = true ∧ Spl X.K (c.cl n) "__eq__" f ∧
    ∀ μ xs ys (Q : QD) (E : QD), P xs = true → P ys = true → Q (.bool (eqOs xs ys)) μ → s [.obj n fs xs, .obj n fs ys] μ Q E
  cm : ∀ xs ys, P xs = true → P ys = true → cmpOs n fs P xs ys = true
section
variable {X : Cx} {c : Ctx} {W : WX} {k m : Nat} {n : Str} {fs : List Str} {P : List D → Bool} {S : Option SA} {F : Hp} {μ : Mu}
/-- what stands behind a comparison -/
def EqEnd (X : Cx) (c : Ctx) (S : Option SA) (F : Hp) (m : Nat) (μ : Mu) (I : Hp) (pins : List (Addr × Obj)) (σ : L2.St) (s' : Shared) : Prop := ∃ I' H', Inv X pins σ H' s' ∧ Same I I' ∧ Wd c S F m I' μ H'
/-- the same, by the rich comparison of two things -/
def RcB (X : Cx) (c : Ctx) (S : Option SA) (F : Hp) (m : Nat) (μ : Mu) (kk : Nat) (x y : D) : Prop := ∀ (A : Around) (pins : List (Addr × Obj)) (s : Shared) (σ : L2.St) (I H : Hp) (a b : Addr), Sub X kk A → Gds.ok A → Inv X pins σ H s → Wd c S F m I μ H →
  Rep c S I x (.ref a) → Rep c S I y (.ref b) → wpAny (model X.prog X.w) A (richCompare .Eq (.ref a) (.ref b)) (fun v s' => v = .bool (eqO x y) ∧ EqEnd X c S F m μ I pins σ s') X.xe s
theorem RcB.mono {x y : D} {kk kk' : Nat} (h : RcB X c S F m μ kk x y) (hk : kk ≤ kk') : RcB X c S F m μ kk' x y := fun A pins s σ I H a b sb => h A pins s σ I H a b (sb.mono hk)
end
end DL

set_option Elab.async false
set_option linter.all false
set_option maxRecDepth 100000
set_option maxHeartbeats 4000000
/-! A16: what a def owns is let go at its end; displays of dicts with one pair. -/
namespace DL
open PySem PyProof.Rows L2
def subMu (μ2 μ1 : Mu) : Prop := ∀ b nd, μ2 b = some nd → μ1 b = some nd
/-- a def at whose end cells may be let go -/
def wDefD (n N : Nat) (b : WS) : WP := fun ds μ Q X => wDef n N b ds μ (fun d μ1 => ∃ μ2, subMu μ2 μ1 ∧ Q d μ2) X
theorem SpW.drop {c : Ctx} {n N : Nat} {b : WS} {k : Nat} {vs : List V} {H : Hp} {Q : VK} {Ex : XK} (h : SpW c (wDefD n N b) k vs H Q Ex) : SpW c (wDef n N b) k vs H Q Ex := by
  obtain ⟨S, F, m, I, μ, ds, Qd, Xd, hl, w, r, h, q, x⟩ := h
  refine ⟨S, F, m, I, μ, ds, _, Xd, hl, w, r, h, fun d μ' v I' H' p s w' r' => ?_, x⟩
  obtain ⟨μ2, e, p⟩ := p
  exact q d μ2 v I' H' p s (w'.drop e) r'
theorem subMu.refl (μ : Mu) : subMu μ μ := fun _ _ h => h
theorem subMu.trans {μ1 μ2 μ3 : Mu} (a : subMu μ1 μ2) (b : subMu μ2 μ3) : subMu μ1 μ3 := fun p nd h => b p nd (a p nd h)
theorem subMu.up {μ1 μ2 : Mu} {p : Addr} {nd : Nd} (a : subMu μ1 μ2) (h : μ2 p = Option.none) : subMu μ1 (up μ2 p nd) := fun b x e => by
  have q := a b x e
  rw [up_ne fun z => by rw [z, h] at q; cases q]
  exact q
/-- a cell that was not owned at first changes -/
theorem subMu.put {μ1 μ2 : Mu} {p : Addr} {nd : Nd} (a : subMu μ1 μ2) (h : μ1 p = Option.none) : subMu μ1 (DL.up μ2 p nd) := fun b x e => by
  rw [up_ne fun z => by rw [z, h] at e; cases e]
  exact a b x e
def keyD : D → Option Key
  | .int i => some (Sum.inl i)
  | .str s => some (Sum.inr s)
  | _ => Option.none
theorem keyD_rep {c : Ctx} {S : Option SA} {I : Hp} {d : D} {v : V} {k : Key} (r : Rep c S I d v) (h : keyD d = some k) : v = kV k := by
  cases r <;> first | (cases h; rfl) | cases h
/-- {k: v} -/
def wDisp1 (m : Bool) (a b : WE) : WE := fun e μ Q X => a e μ (fun x μ1 => b e μ1 (fun y μ2 => match keyD x with
  | some k => sett m Q (.n (.dk [k] [y])) μ2
  | Option.none => False) X) X
/-- {(i, ..): v}, the key of ints as written -/
def wDispT (m : Bool) (ks : List Key) (b : WE) : WE := fun e μ Q X => b e μ (fun y μ2 => sett m Q (.n (.dt [ks] [y])) μ2) X
section
variable {X : Cx} {c : Ctx} {W : WX} {ka kb : Nat} {m : Bool} {a b : Expr} {wa wb : WE} {pos : Pos}
theorem leave_x {S : Option SA} {F : Hp} {n : Nat} {I : Hp} {σ : L2.St} {Xd : QD} {p : Addr} {o : HO} (nF : F p = none) (x : XV c W S F n I σ Xd) : XV c W S (upd F p o) n I σ Xd := fun d μ' cls dx I' H' z s w er => x d μ' cls dx I' H' z s (w.less fun b o e => by rw [upd_ne (ne_of_none e nF)]; exact e) er
theorem g_disp1 (ha : GE X c W ka a wa) (hb : GE X c W kb b wb) : GE X c W (ka + kb) (.Dict [some a] [b] pos) (wDisp1 m wa wb) :=
  L2.PE.imp (pe_disp (pps_cons ha hb pps_nil) rfl rfl (fun z => nomatch z) (show 1 ≤ 15 by decide)) fun σ H Q h => by
    obtain ⟨S, F, n, I, μ, e, Qd, Xd, hl, he, hw, h, q, x⟩ := h
    intro p hp
    have fD := hw.fresh hp
    have nD := hw.no_cell hp
    have nF := hw.nf hp
    show ldE c W ka wa σ (upd H p (.dK [])) fun x H1 => ldE c W kb wb σ H1 fun y H2 => H2 p = some (.dK []) ∧ ∃ kvs : List (Key × V), [(x, y)] = kvs.map (fun kv => (kV kv.1, kv.2)) ∧ kvs.length ≤ 15 ∧ Q (.ref p) (upd H2 p (.dK (mergeK [] kvs)))
    refine ⟨S, upd F p (.dK []), n, I, μ, e, _, Xd, by omega, he, (hw.frame hp).leave upd_same fD.1 fD.2 trivial nD, h, fun da μ1 va I1 H1 pa s1 w1 ra => ?_, leave_x nF (x.mono (by omega) (Same.refl I))⟩
    refine ⟨S, upd F p (.dK []), n + ka, I1, μ1, e, _, Xd, by omega, he.mono s1, w1, pa, fun db μ2 vb I2 H2 pb s2 w2 rb => ?_, leave_x nF (x.mono (by omega) s1)⟩
    split at pb
    · rename_i k ek
      obtain ⟨h1, h2, h3, h4, h5⟩ := w2.f0 (b := p) upd_same fun _ _ z => nomatch z
      have ev := keyD_rep ra ek
      subst ev
      refine ⟨h1, [(k, vb)], rfl, (show 1 ≤ 15 by decide), ?_⟩
      show Q (.ref p) (upd H2 p (.dK [(k, vb)]))
      have w3 := w2.turn (u := .dK [(k, vb)]) trivial
      refine (q.sett (m := m)) _ μ2 _ I2 _ pb (s1.trans s2) ((w3.less fun b o e => ?_).up (by omega)) ⟨p, _, rfl, upd_same, NdR.dk (ks := [k]) (xs := [vb]) (.cons rb .nil) rfl, h2, h3, h5, nF⟩
      rw [upd_ne (ne_of_none e nF)]
      exact e
    · exact pb.elim
def tDispT (tk tv : TE) : TE := fun σ H Q => ∀ p, H p = none → tk σ (upd H p (.dT [])) fun x H1 => tv σ H1 fun y H2 => H2 p = some (.dT []) ∧ ∃ b ks, x = .ref b ∧ H2 b = some (.tup (ks.map kV)) ∧ Q (.ref p) (upd H2 p (.dT [(ks, y)]))
theorem pe_dispT {tk tv : TE} (hu : X.A.units < cLine) (ha : PE X a tk) (hb : PE X b tv) : PE X (.Dict [some a] [b] pos) (tDispT tk tv) := by
  refine ⟨fun pins s σ H Q J q => ?_⟩
  have hn := J.hok.fresh (Nat.le_refl s.heap.objs.size)
  have I1 := J.laid (a := s.heap.objs.size) (o := .dT []) (h' := s.heap.push { cls := .type "dict", data := .dict #[] }) (t' := s.toks) (fun _ _ q => Heap.get?_push_of_some _ q) (Nat.le_refl _) (dt_empty s.heap J.big)
  rw [arm_eval_Dict, zip_pairTrees [some a] [b] X.env pos rfl rfl, dictDisplay_pairs _ (by intro z; cases z) (by show 1 < 17; decide)]
  refine wpAny_bind (wpAny_standAt (wpAny_bind ?_))
  unfold subDict
  refine wpAny_bind (wpAny_alloc ?_)
  refine wpAny_bind (wpAny_holding ?_)
  rw [if_pos (by show 1 ≤ 15; decide)]
  refine wpAny_bind (pairTrees_cons_walk (thn (ha.run pins _ σ _ _ I1 (q _ hn)) fun u s1 ⟨x, H1, I1, rx, q1⟩ => thn (hb.run pins s1 σ H1 _ I1 q1) fun w2 s2 ⟨y, H2, I2, ry, e, bb, ks, ex, eb, q2⟩ => pairTrees_nil_walk ?_))
  subst ex
  obtain rfl : u = Value.ref bb := rx
  refine wpAny_holding ?_
  rw [List.forIn_cons]
  obtain ⟨z, hd, xs, rel, dd⟩ := dt_of I2.hok e
  cases rel
  refine wpAny_bind ?_
  dsimp only
  refine wpAny_bind (wpAny_bind (wpAny_dictSet_heap (hsz := Nat.zero_le _) hu (key_of I2.hok eb) dd fun h' dd' hs => wpAny_pure ?_))
  dsimp only
  rw [List.forIn_nil]
  refine wpAny_pure (wpAny_pure (wpAny_pure (wpAny_pure ?_)))
  obtain ⟨q', es, ep, hq, g2, g3, g4, _, g5⟩ := dd'
  refine ⟨.ref s.heap.objs.size, _, d_write (ob := .dT [(ks, y)]) I2 (by rw [e]; exact True.intro) hs ⟨q', hq⟩ ⟨by rw [sizeLine_eq]; exact (show 1 ≤ _ by decide), hd, _, (KT.put (H := H2) (kvs := []) (xs := []) .nil ks eb ry).keeps fun cc ys ec => ?_, q', es, ep, hq, g2, g3, g4, g5⟩, rfl, q2⟩
  rw [upd_ne (ne_of ec e (fun z => nomatch z))]
  exact ec
theorem g_dispT {es : List Expr} {x1 : Nat} {is_ : List Int} (hu : X.A.units < cLine) (hk : PE X (.Tuple es x1 pos) (tTup fun _ H Q => Q (is_.map V.int) H)) (hz : is_.length ≤ sizeLine) (hb : GE X c W kb b wb) {p2 : Pos} : GE X c W kb (.Dict [some (.Tuple es x1 pos)] [b] p2) (wDispT m (is_.map Sum.inl) wb) :=
  L2.PE.imp (pe_dispT hu hk hb) fun σ H Q h => by
    obtain ⟨S, F, n, I, μ, e, Qd, Xd, hl, he, hw, h, q, x⟩ := h
    intro p hp
    have fD := hw.fresh hp
    have nD := hw.no_cell hp
    have nF := hw.nf hp
    refine ⟨by rw [List.length_map]; exact hz, fun b hbn => ?_⟩
    have hbp : b ≠ p := fun z => by rw [z, upd_same] at hbn; cases hbn
    have w0 := (hw.frame (u := .dT []) hp).leave upd_same fD.1 fD.2 trivial nD
    have fB := w0.fresh hbn
    have nB := w0.no_cell hbn
    have nFB := w0.nf hbn
    have w1 := w0.new (u := .tup (is_.map V.int)) hbn
    have s1 : Same I (upd I b (.tup (is_.map V.int))) := same_new fB.1
    refine ⟨S, _, n, _, μ, e, _, Xd, by omega, he.mono s1, w1, h, fun db μ2 vb I2 H2 pb s2 w2 rb => ?_, leave_x nF (x.mono (by omega) s1)⟩
    obtain ⟨h1, h2, h3, h4, h5⟩ := w2.f0 (b := p) upd_same fun _ _ z => nomatch z
    have g1 : H2 b = some (.tup (is_.map V.int)) := by
      rcases w2.i b _ (s2 _ _ upd_same) with z | ⟨z, _⟩
      · exact z
      · cases z
    refine ⟨h1, b, is_.map Sum.inl, rfl, by rw [g1, List.map_map]; rfl, ?_⟩
    have w4 := w2.turn (u := .dT [(is_.map Sum.inl, vb)]) trivial
    refine (q.sett (m := m)) _ μ2 _ I2 _ pb (s1.trans s2) (w4.less fun bb o ee => ?_) ⟨p, _, rfl, upd_same, NdR.dt (ks := [is_.map Sum.inl]) (xs := [vb]) (.cons rb .nil) rfl, h2, h3, h5, nF⟩
    rw [upd_ne (ne_of_none ee nF)]
    exact ee
end
end DL

set_option Elab.async false
set_option linter.all false
set_option maxRecDepth 100000
set_option maxHeartbeats 0
set_option exponentiation.threshold 100000
namespace KLaw
open PySem PySem.Spec PyProof.Rows L2 DL
def topS (i : Nat) : Stmt := PySem.Challenge.pw_crossadds_k01_errors_apart.main.body.getD i (.Pass ⟨0, 0, 0, 0⟩)
abbrev nsL : List Str := ["Rule"]
abbrev esL : List Str := ["CrossError", "BadRule", "BadPower", "BadFormula", "BadPair", "BadProgram", "BadPoint", "BadCount", "TooMany", "NoCore", "BadDeed", "NothingLeft", "BadJournal", "BadText"]
abbrev tf : List (PySem.W.Frag → Addr) := []
abbrev cx (K : PySem.W.Frag) : DL.Ctx := { K := K, cl := He.ga K, tb := [], ns := nsL, es := esL }
def d_is_list : DefX := ⟨fun K => (He.ga K "is_list"), "is_list", "is_list", defArgs (topS 19), defBody (topS 19), defScope (topS 19), []⟩
def d_is_number : DefX := ⟨fun K => (He.ga K "is_number"), "is_number", "is_number", defArgs (topS 17), defBody (topS 17), defScope (topS 17), []⟩
def d_without_end : DefX := ⟨fun K => (He.ga K "without_end"), "without_end", "without_end", defArgs (topS 20), defBody (topS 20), defScope (topS 20), []⟩
def d_Rule___init__ : DefX := ⟨fun K => (He.ma K (He.ga K "Rule") "__init__"), "__init__", "Rule.__init__", defArgs (inClass (topS 21) 0), defBody (inClass (topS 21) 0), defScope (inClass (topS 21) 0), [.adr (fun K => He.dflAt ("Rule", some "__init__") 0 K)]⟩
def d_law_mixed : DefX := ⟨fun K => (He.ga K "_law_mixed"), "_law_mixed", "_law_mixed", defArgs (topS 27), defBody (topS 27), defScope (topS 27), []⟩
def d_law_take : DefX := ⟨fun K => (He.ga K "_law_take"), "_law_take", "_law_take", defArgs (topS 28), defBody (topS 28), defScope (topS 28), []⟩
def d_law_pick : DefX := ⟨fun K => (He.ga K "_law_pick"), "_law_pick", "_law_pick", defArgs (topS 29), defBody (topS 29), defScope (topS 29), []⟩
def d_law_odd : DefX := ⟨fun K => (He.ga K "_law_odd"), "_law_odd", "_law_odd", defArgs (topS 30), defBody (topS 30), defScope (topS 30), []⟩
def d_law_each : DefX := ⟨fun K => (He.ga K "_law_each"), "_law_each", "_law_each", defArgs (topS 32), defBody (topS 32), defScope (topS 32), []⟩
def d_law_marks : DefX := ⟨fun K => (He.ga K "_law_marks"), "_law_marks", "_law_marks", defArgs (topS 31), defBody (topS 31), defScope (topS 31), []⟩
def d_Rule_coefficients : DefX := ⟨fun K => (recAt K "property" (He.ma K (He.ga K "Rule") "coefficients")), "coefficients", "Rule.coefficients", defArgs (inClass (topS 21) 1), defBody (inClass (topS 21) 1), defScope (inClass (topS 21) 1), []⟩
def d_law_bare : DefX := ⟨fun K => (He.ga K "_law_bare"), "_law_bare", "_law_bare", defArgs (topS 34), defBody (topS 34), defScope (topS 34), []⟩
def d_law_named : DefX := ⟨fun K => (He.ga K "_law_named"), "_law_named", "_law_named", defArgs (topS 33), defBody (topS 33), defScope (topS 33), []⟩
def d_law_kept : DefX := ⟨fun K => (He.ga K "_law_kept"), "_law_kept", "_law_kept", defArgs (topS 35), defBody (topS 35), defScope (topS 35), []⟩
def d_law_begun : DefX := ⟨fun K => (He.ga K "_law_begun"), "_law_begun", "_law_begun", defArgs (topS 26), defBody (topS 26), defScope (topS 26), []⟩
def d_law : DefX := ⟨fun K => (He.ga K "law"), "law", "law", defArgs (topS 36), defBody (topS 36), defScope (topS 36), []⟩
def d_BadDeed___init__ : DefX := ⟨fun K => (He.ma K (He.ga K "BadDeed") "__init__"), "__init__", "BadDeed.__init__", defArgs (inClass (topS 12) 0), defBody (inClass (topS 12) 0), defScope (inClass (topS 12) 0), []⟩
def d_BadJournal___init__ : DefX := ⟨fun K => (He.ma K (He.ga K "BadJournal") "__init__"), "__init__", "BadJournal.__init__", defArgs (inClass (topS 14) 0), defBody (inClass (topS 14) 0), defScope (inClass (topS 14) 0), []⟩
def d_BadProgram___init__ : DefX := ⟨fun K => (He.ma K (He.ga K "BadProgram") "__init__"), "__init__", "BadProgram.__init__", defArgs (inClass (topS 7) 0), defBody (inClass (topS 7) 0), defScope (inClass (topS 7) 0), []⟩
def d_BadRule___init__ : DefX := ⟨fun K => (He.ma K (He.ga K "BadRule") "__init__"), "__init__", "BadRule.__init__", defArgs (inClass (topS 3) 0), defBody (inClass (topS 3) 0), defScope (inClass (topS 3) 0), []⟩
def d_BadText___init__ : DefX := ⟨fun K => (He.ma K (He.ga K "BadText") "__init__"), "__init__", "BadText.__init__", defArgs (inClass (topS 15) 0), defBody (inClass (topS 15) 0), defScope (inClass (topS 15) 0), []⟩
def d_TooMany___init__ : DefX := ⟨fun K => (He.ma K (He.ga K "TooMany") "__init__"), "__init__", "TooMany.__init__", defArgs (inClass (topS 10) 0), defBody (inClass (topS 10) 0), defScope (inClass (topS 10) 0), []⟩
def bsA1 : List (PySem.W.Frag → Bool) := [fun K => (He.Fa.glo "BadCount").ok K,
  fun K => (He.Fa.glo "BadDeed").ok K,
  fun K => (He.Fa.glo "BadFormula").ok K,
  fun K => (He.Fa.glo "BadJournal").ok K,
  fun K => (He.Fa.glo "BadPair").ok K,
  fun K => (He.Fa.glo "BadPoint").ok K,
  fun K => (He.Fa.glo "BadPower").ok K,
  fun K => (He.Fa.glo "BadProgram").ok K,
  fun K => (He.Fa.glo "BadRule").ok K,
  fun K => (He.Fa.glo "BadText").ok K,
  fun K => (He.Fa.glo "CrossError").ok K,
  fun K => (He.Fa.glo "NoCore").ok K,
  fun K => (He.Fa.glo "NothingLeft").ok K,
  fun K => (He.Fa.glo "Rule").ok K,
  fun K => (He.Fa.glo "TooMany").ok K,
  fun K => (He.Fa.glo "_law_bare").ok K,
  fun K => (He.Fa.glo "_law_begun").ok K]
def bsA2 : List (PySem.W.Frag → Bool) := [fun K => (He.Fa.glo "_law_each").ok K,
  fun K => (He.Fa.glo "_law_kept").ok K,
  fun K => (He.Fa.glo "_law_marks").ok K,
  fun K => (He.Fa.glo "_law_mixed").ok K,
  fun K => (He.Fa.glo "_law_named").ok K,
  fun K => (He.Fa.glo "_law_odd").ok K,
  fun K => (He.Fa.glo "_law_pick").ok K,
  fun K => (He.Fa.glo "_law_take").ok K,
  fun K => (He.Fa.glo "is_list").ok K,
  fun K => (He.Fa.glo "is_number").ok K,
  fun K => (He.Fa.glo "without_end").ok K,
  fun K => (He.Fa.glo "law").ok K,
  fun K => (He.Fa.free "ValueError").ok K,
  fun K => (He.Fa.free "abs").ok K,
  fun K => (He.Fa.free "bool").ok K,
  fun K => (He.Fa.free "enumerate").ok K,
  fun K => (He.Fa.free "int").ok K]
def bsA3 : List (PySem.W.Frag → Bool) := [fun K => (He.Fa.free "isinstance").ok K,
  fun K => (He.Fa.free "len").ok K,
  fun K => (He.Fa.free "list").ok K,
  fun K => (He.Fa.free "min").ok K,
  fun K => (He.Fa.free "range").ok K,
  fun K => (He.Fa.free "repr").ok K,
  fun K => (He.Fa.free "tuple").ok K,
  ctxB nsL esL,
  fun K => (He.Fa.cls "Rule").ok K,
  fun K => noneB (PySem.W.nsIn K cStatics "sys.int_max_str_digits"),
  fun K => eriB K (He.ga K "BadDeed") (He.ma K (He.ga K "BadDeed") "__init__") "deed",
  fun K => eriB K (He.ga K "BadJournal") (He.ma K (He.ga K "BadJournal") "__init__") "at",
  fun K => eriB K (He.ga K "BadProgram") (He.ma K (He.ga K "BadProgram") "__init__") "at",
  fun K => eriB K (He.ga K "BadRule") (He.ma K (He.ga K "BadRule") "__init__") "at",
  fun K => eriB K (He.ga K "BadText") (He.ma K (He.ga K "BadText") "__init__") "line",
  fun K => eriB K (He.ga K "TooMany") (He.ma K (He.ga K "TooMany") "__init__") "most",
  fun K => erB K (He.ga K "BadCount")]
def bsA4 : List (PySem.W.Frag → Bool) := [fun K => erB K (He.ga K "BadFormula"),
  fun K => erB K (He.ga K "BadPair"),
  fun K => erB K (He.ga K "BadPoint"),
  fun K => erB K (He.ga K "BadPower"),
  fun K => erB K (He.ga K "CrossError"),
  fun K => erB K (He.ga K "NoCore"),
  fun K => erB K (He.ga K "NothingLeft"),
  fun K => esL.all fun n => noneB (PySem.W.findIn K (.ref (He.ga K n)) "at"),
  fun K => esL.all fun n => noneB (PySem.W.findIn K (.ref (He.ga K n)) "deed"),
  fun K => esL.all fun n => noneB (PySem.W.findIn K (.ref (He.ga K n)) "line"),
  fun K => esL.all fun n => noneB (PySem.W.findIn K (.ref (He.ga K n)) "most"),
  fun K => esL.all fun n => decide (PySem.W.kitOne K (.ref (He.ga K n)) (.type "ValueError") = some true),
  fun K => (He.Fa.mkr "Rule").ok K,
  fun K => (He.Fa.noat "Rule" "own_numbers").ok K,
  fun K => propB K (He.ga K "Rule") "coefficients",
  fun K => creadB K (He.ga K "CrossError"),
  fun K => vInit K (He.ga K "CrossError")]
def bs1 : List (PySem.W.Frag → Bool) := bsA1 ++ bsA2
def bs2 : List (PySem.W.Frag → Bool) := bsA3 ++ bsA4
def bs : List (PySem.W.Frag → Bool) := bs1 ++ bs2
def fnA1 : List DefX := [d_is_list, d_is_number, d_without_end, d_Rule___init__, d_law_mixed, d_law_take, d_law_pick, d_law_odd]
def fnA2 : List DefX := [d_law_each, d_law_marks, d_Rule_coefficients, d_law_bare, d_law_named, d_law_kept, d_law_begun, d_law]
def fnA3 : List DefX := [d_BadDeed___init__, d_BadJournal___init__, d_BadProgram___init__, d_BadRule___init__, d_BadText___init__, d_TooMany___init__]
def fn : List DefX := fnA1 ++ (fnA2 ++ fnA3)
abbrev R : PySem.W.OpenRow := PySem.W.OpenLaw.row PySem.Challenge.rw_crossadds_k01_errors_apart
def loose0 : List Str := ["_wall", "__name__", "CrossError", "BadRule", "BadPower", "BadFormula", "BadPair", "BadProgram", "BadPoint", "BadCount", "TooMany", "NoCore", "BadDeed", "NothingLeft", "BadJournal", "BadText", "is_number", "is_from", "is_list", "without_end", "Rule", "row_value", "row_sum", "row_product", "_law_begun", "_law_mixed", "_law_take", "_law_pick", "_law_odd", "_law_marks"]
def loose1 : List Str := ["_law_each", "_law_named", "_law_bare", "_law_kept"]
abbrev loose : List Str := loose0 ++ loose1
abbrev hk : PySem.W.Hook := hookY 7 bs fn tf
def ob (s : PySem.W.SharedT) : AlY := obsY 7 bs fn tf (HandSHeadRun.getT s)
theorem ob_eq (s : PySem.W.SharedT) : ob s = hk.obs s.abs := obsY_eq (HandSHeadRun.getT_eq s)
theorem p_three {α β γ δ : Type} {x : Option α} {f : α → β} {g : α → γ} {h : α → δ} {a : β} {b : γ} {c : δ} (h1 : x.map f = some a) (h2 : x.map g = some b) (h3 : x.map h = some c) : x.map (fun s => (f s, g s, h s)) = some (a, b, c) := by cases x with | none => cases h1 | some y => cases h1; cases h2; cases h3; rfl
theorem p_join {α : Type} {x : Option α} {b1 b2 : List (PySem.W.Frag → Bool)} {fn : List DefX} {tf : List (PySem.W.Frag → Addr)} {G : α → Addr → Option Obj} (h1 : x.map (fun s => b1.all fun b => b (He.frT (G s) (asY (G s) 7))) = some true) (h2 : x.map (fun s => b2.all fun b => b (He.frT (G s) (asY (G s) 7))) = some true) (h3 : x.map (fun s => (fn.all (fun d => d.ok (He.frT (G s) (asY (G s) 7))), tabsY (G s) tf (He.frT (G s) (asY (G s) 7)))) = some (true, true)) (h4 : x.map (fun s => fn.map fun d => fnX (He.frT (G s) (asY (G s) 7)) (d.at_ (He.frT (G s) (asY (G s) 7)))) = some (fn.map DefX.val)) : x.map (fun s => obsY 7 (b1 ++ b2) fn tf (G s)) = some (valX fn, true) := by
  cases x with
  | none => cases h1
  | some s =>
    have e1 := Option.some.inj h1
    have e2 := Option.some.inj h2
    have e3 := Option.some.inj h3
    have e4 := Option.some.inj h4
    have e5 := congrArg Prod.fst e3
    have e6 := congrArg Prod.snd e3
    dsimp only at e1 e2 e4 e5 e6
    show some (obsY 7 (b1 ++ b2) fn tf (G s)) = _
    unfold obsY obsX valX
    rw [List.all_append, e1, e2, e5, e6, e4]
    rfl
open PySem PySem.W PySem.Calls HandSHeadRun in theorem p_look (w : PySem.World) (os : PySem.OsState) : (endF (stepQ (denQ tabQ) R.prog w) 16000 R.prog w os).map (fun s => looksF R.prog (boot_heap w.params) s.abs) = some (true) := by kernel_rfl
open PySem PySem.W PySem.Calls HandSHeadRun in theorem p_seen (w : PySem.World) (os : PySem.OsState) : (endF (stepQ (denQ tabQ) R.prog w) 16000 R.prog w os).map (fun s => seenQ (PySem.W.view R.prog [36]) loose (importedModules R.prog.main.body) (fun s => xlAt (PySem.W.view R.prog [36]) [] s && recOk R.toRowW.records s) s.abs) = some (openGood (PySem.W.view R.prog [36]) loose) := by kernel_rfl
open PySem PySem.W PySem.Calls HandSHeadRun in theorem p_ob1 (w : PySem.World) (os : PySem.OsState) : (endF (stepQ (denQ tabQ) R.prog w) 16000 R.prog w os).map (fun s => bs1.all fun b => b (He.frT (HandSHeadRun.getT s) (asY (HandSHeadRun.getT s) 7))) = some (true) := by kernel_rfl
open PySem PySem.W PySem.Calls HandSHeadRun in theorem p_ob2 (w : PySem.World) (os : PySem.OsState) : (endF (stepQ (denQ tabQ) R.prog w) 16000 R.prog w os).map (fun s => bs2.all fun b => b (He.frT (HandSHeadRun.getT s) (asY (HandSHeadRun.getT s) 7))) = some (true) := by kernel_rfl
open PySem PySem.W PySem.Calls HandSHeadRun in theorem p_ob3 (w : PySem.World) (os : PySem.OsState) : (endF (stepQ (denQ tabQ) R.prog w) 16000 R.prog w os).map (fun s => (fn.all (fun d => d.ok (He.frT (HandSHeadRun.getT s) (asY (HandSHeadRun.getT s) 7))), tabsY (HandSHeadRun.getT s) tf (He.frT (HandSHeadRun.getT s) (asY (HandSHeadRun.getT s) 7)))) = some ((true, true)) := by kernel_rfl
open PySem PySem.W PySem.Calls HandSHeadRun in theorem p_ob4 (w : PySem.World) (os : PySem.OsState) : (endF (stepQ (denQ tabQ) R.prog w) 16000 R.prog w os).map (fun s => fn.map fun d => fnX (He.frT (HandSHeadRun.getT s) (asY (HandSHeadRun.getT s) 7)) (d.at_ (He.frT (HandSHeadRun.getT s) (asY (HandSHeadRun.getT s) 7)))) = some (fn.map DefX.val) := by kernel_rfl
open PySem PySem.W PySem.Calls HandSHeadRun in theorem p_ob (w : PySem.World) (os : PySem.OsState) : (endF (stepQ (denQ tabQ) R.prog w) 16000 R.prog w os).map (fun s => ob s) = some (hk.val w) := p_join (p_ob1 w os) (p_ob2 w os) (p_ob3 w os) (p_ob4 w os)
theorem run (w : PySem.World) : HandSHeadRun.RunEq R (PySem.W.view R.prog [36]) hk ob 16000 loose w := by
  intro os
  exact p_three (p_look w os) (p_seen w os) (p_ob w os)
end KLaw
set_option Elab.async false
set_option linter.all false
set_option maxRecDepth 100000
set_option maxHeartbeats 4000000
/-! A17: len by an own __len__, a tuple times a number, != of a tuple and (). -/
namespace DL
open PySem PyProof.Rows L2
variable [Gds]
section
variable {X : Cx} {c : Ctx} {W : WX} {k : Nat} {n : Str} {s : WP} {f : Addr} {fd : FuncData} {ps : List Str}
end
end DL

set_option Elab.async false
set_option linter.all false
set_option maxRecDepth 100000
set_option maxHeartbeats 4000000
/-! A18: what each wish says, as equations (printed by tools/mku.py). -/
namespace DL
open PySem PyProof.Rows L2
theorem Jbu (n N : Nat) (b : WS) (ds : List D) (μ : Mu) (Q : QD) (X : QD) : wDef n N b ds μ Q X = (ds.length = n ∧ b (initE N ds) μ ⟨fun _ μ1 => Q .none μ1, Q, fun _ _ => False, fun _ _ => False, fun d _ μ1 => X d μ1⟩) := propext Iff.rfl
theorem Jct (a b : WS) (e : EnvD) (μ : Mu) (E : WEnds) : wSeq a b e μ E = (a e μ { E with nx := fun e1 μ1 => b e1 μ1 E }) := propext Iff.rfl
theorem Jcg (e : EnvD) (μ : Mu) (E : WEnds) : wNext e μ E = (E.nx e μ) := propext Iff.rfl
theorem Jbk (i : Nat) (a : WE) (e : EnvD) (μ : Mu) (E : WEnds) : wAsg i a e μ E = (a e μ (fun d μ1 => E.nx (st e i (some d)) μ1) fun d μ1 => E.xp d e μ1) := propext Iff.rfl
theorem Jbl (g : WG) (a : WE) (e : EnvD) (μ : Mu) (E : WEnds) : wAsgG g a e μ E = (a e μ (fun d μ1 => g d e fun e1 => E.nx e1 μ1) fun d μ1 => E.xp d e μ1) := propext Iff.rfl
theorem Jbz (a : WE) (e : EnvD) (μ : Mu) (E : WEnds) : wDrop a e μ E = (a e μ (fun _ μ1 => E.nx e μ1) fun d μ1 => E.xp d e μ1) := propext Iff.rfl
theorem Jco (a : WE) (e : EnvD) (μ : Mu) (E : WEnds) : wRet a e μ E = (a e μ E.rt fun d μ1 => E.xp d e μ1) := propext Iff.rfl
theorem Jcp (u0' : EnvD) (μ : Mu) (E : WEnds) : wRetN u0' μ E = (E.rt .none μ) := propext Iff.rfl
theorem Jc5 (t : WT) (a b : WS) (e : EnvD) (μ : Mu) (E : WEnds) : wIfS t a b e μ E = (t e μ (fun k μ1 => if k = true then a e μ1 E else b e μ1 E) fun d μ1 => E.xp d e μ1) := propext Iff.rfl
theorem Jcm (i j : Nat) (a : WA) (e : EnvD) (μ : Mu) (E : WEnds) : wPar i j a e μ E = (a e μ (fun ds μ1 => match ds with
  | [x, y] => E.nx (st (st e i (some x)) j (some y)) μ1
  | _ => False) fun d μ1 => E.xp d e μ1) := propext Iff.rfl
theorem Jbm (i : Nat) (f : Int → Int → Int) (a : WE) (e : EnvD) (μ : Mu) (E : WEnds) : wAug i f a e μ E = (match gt e i with
  | some (.int x) => a e μ (fun d μ1 => match d with
    | .int y => E.nx (st e i (some (.int (f x y)))) μ1
    | _ => False) fun d μ1 => E.xp d e μ1
  | _ => False) := propext Iff.rfl
theorem Jcv (v o i : WE) (e : EnvD) (μ : Mu) (E : WEnds) : wSetL v o i e μ E = (v e μ (fun d μ1 => o e μ1 (fun x μ2 => i e μ2 (fun y μ3 => match x, y with
  | .cell p, .int k => (match ndL (μ3 p) with
    | some ds => (match ixN ds.length k with
      | some j => E.nx e (up μ3 p (.list (ds.set j d)))
      | Option.none => False)
    | Option.none => False)
  | _, _ => False) fun d μ1 => E.xp d e μ1) fun d μ1 => E.xp d e μ1) fun d μ1 => E.xp d e μ1) := propext Iff.rfl
theorem Jbn (e : EnvD) (μ : Mu) (E : WEnds) : wBreak e μ E = (E.bk e μ) := propext Iff.rfl
theorem Jbt (e : EnvD) (μ : Mu) (E : WEnds) : wCont e μ E = (E.ct e μ) := propext Iff.rfl
theorem Jd7 (i : Nat) (d : D) (e : EnvD) (Q : EnvD → Prop) : wgN i d e Q = (Q (st e i (some d))) := propext Iff.rfl
theorem Jd8 (ds : List D) (e : EnvD) (Q : EnvD → Prop) : wgNil ds e Q = (match ds with
  | [] => Q e
  | _ => False) := propext Iff.rfl
theorem Jd6 (g : WG) (gs : WGs) (ds : List D) (e : EnvD) (Q : EnvD → Prop) : wgCons g gs ds e Q = (match ds with
  | d :: ds => g d e fun e1 => gs ds e1 Q
  | _ => False) := propext Iff.rfl
theorem Jd9 (n : Nat) (gs : WGs) (d : D) (e : EnvD) (Q : EnvD → Prop) : wgTup n gs d e Q = (match d with
  | .tup ds => ds.length = n ∧ gs ds e Q
  | _ => False) := propext Iff.rfl
theorem Jdd (a : WE) (e : EnvD) (μ : Mu) (Q : Src → Mu → Prop) (X : QD) : wiSeq a e μ Q X = (a e μ (fun d μ1 => match sqD μ1 d with
  | some ds => Q ⟨ds, okS d ds⟩ μ1
  | Option.none => False) X) := propext Iff.rfl
theorem Jdb (a : WA) (e : EnvD) (μ : Mu) (Q : Src → Mu → Prop) (X : QD) : wiRng1 a e μ Q X = (a e μ (fun ds μ1 => one ds fun x => int1 x fun j => inR j ∧ Q ⟨rangeD 0 j.toNat, fun _ => True⟩ μ1) X) := propext Iff.rfl
theorem Jdc (a : WA) (e : EnvD) (μ : Mu) (Q : Src → Mu → Prop) (X : QD) : wiRng2 a e μ Q X = (a e μ (fun ds μ1 => two ds fun x y => int1 x fun lo => int1 y fun hi => inR lo ∧ inR hi ∧ Q ⟨rangeD lo (hi - lo).toNat, fun _ => True⟩ μ1) X) := propext Iff.rfl
theorem Jda (a : WA) (e : EnvD) (μ : Mu) (Q : Src → Mu → Prop) (X : QD) : wiEnum a e μ Q X = (a e μ (fun ds μ1 => one ds fun d => match sqD μ1 d with
  | some xs => Q ⟨enumD 0 xs, okS d xs⟩ μ1
  | Option.none => False) X) := propext Iff.rfl
theorem Jc2 (s : WI) (g : WG) (b : WS) (e : EnvD) (μ : Mu) (E : WEnds) : wFor s g b e μ E = (s e μ (fun s μ1 => s.xs.length ≤ 2 ^ 63 ∧ goFor s.ok g b s.xs e μ1 E) fun d μ1 => E.xp d e μ1) := propext Iff.rfl
theorem Jc8 (m : Bool) (s : WI) (g : WG) (t : WT) (a : WE) (vs : List Nat) (e : EnvD) (μ : Mu) (Q : QD) (X : QD) : wLc m s g t a vs e μ Q X = (s e μ (fun s μ1 => s.xs.length ≤ sizeLine ∧ goLc s.ok g t a (wipeE e vs) (fun _ _ => False) s.xs [] μ1 fun ds μ2 => sett m Q (.n (.list ds)) μ2) X) := propext Iff.rfl
theorem Jd1 (u0' : EnvD) (μ : Mu) (Q : Bool → Mu → Prop) (u1' : QD) : wYes u0' μ Q u1' = (Q true μ) := propext Iff.rfl
theorem Jd0 (i : Nat) (e : EnvD) (μ : Mu) (Q : QD) (u0' : QD) : wV i e μ Q u0' = (match gt e i with
  | some d => Q d μ
  | Option.none => False) := propext Iff.rfl
theorem Jc7 (d : D) (u0' : EnvD) (μ : Mu) (Q : QD) (u1' : QD) : wK d u0' μ Q u1' = (Q d μ) := propext Iff.rfl
theorem Jcj (m : Bool) (o : WOp) (a b : WE) (e : EnvD) (μ : Mu) (Q : QD) (X : QD) : wOp m o a b e μ Q X = (a e μ (fun x μ1 => b e μ1 (fun y μ2 => o x y μ2 (sett m Q) X) X) X) := propext Iff.rfl
theorem Jcz (m : Bool) (o : WU) (a : WE) (e : EnvD) (μ : Mu) (Q : QD) (X : QD) : wUn m o a e μ Q X = (a e μ (fun x μ1 => o x μ1 (sett m Q) X) X) := propext Iff.rfl
theorem Jcy (a : WA) (e : EnvD) (μ : Mu) (Q : QD) (X : QD) : wTup a e μ Q X = (a e μ (fun xs μ1 => xs.length ≤ sizeLine ∧ Q (.tup xs) μ1) X) := propext Iff.rfl
theorem Jcb (m : Bool) (a : WA) (e : EnvD) (μ : Mu) (Q : QD) (X : QD) : wLst m a e μ Q X = (a e μ (fun xs μ1 => xs.length ≤ sizeLine ∧ sett m Q (.n (.list xs)) μ1) X) := propext Iff.rfl
theorem Jbr (m : Bool) (o : WC) (a : WA) (e : EnvD) (μ : Mu) (Q : QD) (X : QD) : wCb m o a e μ Q X = (a e μ (fun xs μ1 => o xs μ1 (sett m Q) X) X) := propext Iff.rfl
theorem Jcx (a : WE) (e : EnvD) (μ : Mu) (Q : Bool → Mu → Prop) (X : QD) : wTst a e μ Q X = (a e μ (fun x μ1 => match x with
  | .bool b => Q b μ1
  | _ => False) X) := propext Iff.rfl
theorem Jci (t : WT) (e : EnvD) (μ : Mu) (Q : Bool → Mu → Prop) (X : QD) : wNotT t e μ Q X = (t e μ (fun b μ1 => Q (!b) μ1) X) := propext Iff.rfl
theorem Jbj (t u : WT) (e : EnvD) (μ : Mu) (Q : Bool → Mu → Prop) (X : QD) : wAndT t u e μ Q X = (t e μ (fun b μ1 => if b = true then u e μ1 Q X else Q false μ1) X) := propext Iff.rfl
theorem Jcl (t u : WT) (e : EnvD) (μ : Mu) (Q : Bool → Mu → Prop) (X : QD) : wOrT t u e μ Q X = (t e μ (fun b μ1 => if b = true then Q true μ1 else u e μ1 Q X) X) := propext Iff.rfl
theorem Jc4 (t : WT) (a b : WE) (e : EnvD) (μ : Mu) (Q : QD) (X : QD) : wIf t a b e μ Q X = (t e μ (fun k μ1 => if k = true then a e μ1 Q X else b e μ1 Q X) X) := propext Iff.rfl
theorem Jbi (a b : WE) (e : EnvD) (μ : Mu) (Q : QD) (X : QD) : wAnd a b e μ Q X = (a e μ (fun x μ1 => match x with
  | .bool k => if k = true then b e μ1 Q X else Q (.bool false) μ1
  | _ => False) X) := propext Iff.rfl
theorem Jck (a b : WE) (e : EnvD) (μ : Mu) (Q : QD) (X : QD) : wOr a b e μ Q X = (a e μ (fun x μ1 => match x with
  | .bool k => if k = true then Q (.bool true) μ1 else b e μ1 Q X
  | _ => False) X) := propext Iff.rfl
theorem Jch (a : WE) (e : EnvD) (μ : Mu) (Q : QD) (X : QD) : wNot a e μ Q X = (a e μ (fun x μ1 => match x with
  | .bool k => Q (.bool (!k)) μ1
  | _ => False) X) := propext Iff.rfl
theorem Jd3 (u0' : EnvD) (μ : Mu) (Q : List D → Mu → Prop) (u1' : QD) : waNil u0' μ Q u1' = (Q [] μ) := propext Iff.rfl
theorem Jd2 (a : WE) (r : WA) (e : EnvD) (μ : Mu) (Q : List D → Mu → Prop) (X : QD) : waCons a r e μ Q X = (a e μ (fun x μ1 => r e μ1 (fun xs μ2 => Q (x :: xs) μ2) X) X) := propext Iff.rfl
theorem Jd5 (a : WE) (r : WA) (e : EnvD) (μ : Mu) (Q : List D → Mu → Prop) (X : QD) : waStar a r e μ Q X = (a e μ (fun x μ1 => match sqD μ1 x with
  | some ds => r e μ1 (fun es μ2 => Q (ds ++ es) μ2) X
  | Option.none => False) X) := propext Iff.rfl
theorem Jbo (s : WP) (dd : List D) (a : WA) (e : EnvD) (μ : Mu) (Q : QD) (X : QD) : wCall s dd a e μ Q X = (a e μ (fun ds μ1 => s (ds ++ dd) μ1 Q X) X) := propext Iff.rfl
theorem Jcd (n m : Str) (s : WP) (dd : List D) (r : WE) (a : WA) (e : EnvD) (μ : Mu) (Q : QD) (X : QD) : wMeth n m s dd r a e μ Q X = (r e μ (fun x μ1 => isOf n m μ1 x (a e μ1 (fun ds μ2 => s (x :: (ds ++ dd)) μ2 Q X) X)) X) := propext Iff.rfl
theorem Jcn (n f : Str) (s : WP) (r : WE) (e : EnvD) (μ : Mu) (Q : QD) (X : QD) : wProp n f s r e μ Q X = (r e μ (fun x μ1 => isOf n f μ1 x (s [x] μ1 Q fun _ _ => False)) X) := propext Iff.rfl
theorem Jc1 (n f : Str) (r : WE) (e : EnvD) (μ : Mu) (Q : QD) (X : QD) : wFld n f r e μ Q X = (r e μ (fun x μ1 => match asObj μ1 x with
  | some (k, fs, ds) => k = n ∧ (match fldD f fs ds with
    | some d => Q d μ1
    | Option.none => False)
  | Option.none => False) X) := propext Iff.rfl
theorem Jcu (n f : Str) (o v : WE) (e : EnvD) (μ : Mu) (E : WEnds) : wSetF n f o v e μ E = (v e μ (fun d μ1 => o e μ1 (fun x μ2 => match x with
  | .cell p => (match ndO (μ2 p) with
    | some (k, fs, ds) => k = n ∧ fs.length < 1000 ∧ E.nx e (up μ2 p (.obj k (putN f d fs ds).1 (putN f d fs ds).2))
    | Option.none => False)
  | _ => False) fun d μ1 => E.xp d e μ1) fun d μ1 => E.xp d e μ1) := propext Iff.rfl
theorem Jbp (n : Str) (s : WP) (r : WE) (a : WA) (e : EnvD) (μ : Mu) (Q : QD) (X : QD) : wCallI n s r a e μ Q X = (r e μ (fun x μ1 => clsOf μ1 x = some n ∧ a e μ1 (fun ds μ2 => clsOf μ2 x = some n ∧ s (x :: ds) μ2 Q X) X) X) := propext Iff.rfl
theorem Jcq (m : Bool) (a : WE) (e : EnvD) (μ : Mu) (Q : QD) (X : QD) : wRev m a e μ Q X = (a e μ (fun x μ1 => match x with
  | .tup ds => Q (.tup ds.reverse) μ1
  | x => (match seqL μ1 x with
    | some ds => sett m Q (.n (.list ds.reverse)) μ1
    | Option.none => False)) X) := propext Iff.rfl
theorem Jcw (m : Bool) (o : D → Option Int → Option Int → Mu → QR → QD → Prop) (a : WE) (l h : WO) (e : EnvD) (μ : Mu) (Q : QD) (X : QD) : wSl m o a l h e μ Q X = (a e μ (fun x μ1 => l e μ1 (fun lo μ2 => h e μ2 (fun hi μ3 => o x lo hi μ3 (sett m Q) X) X) X) X) := propext Iff.rfl
theorem Jde (u0' : EnvD) (μ : Mu) (Q : Option Int → Mu → Prop) (u1' : QD) : woNone u0' μ Q u1' = (Q Option.none μ) := propext Iff.rfl
theorem Jdf (a : WE) (e : EnvD) (μ : Mu) (Q : Option Int → Mu → Prop) (X : QD) : woSome a e μ Q X = (a e μ (fun x μ1 => match x with
  | .int i => Q (some i) μ1
  | _ => False) X) := propext Iff.rfl
theorem Jc9 (m : Bool) (o : WM) (r : WE) (a : WA) (e : EnvD) (μ : Mu) (Q : QD) (X : QD) : wLm m o r a e μ Q X = (r e μ (fun x μ1 => isL μ1 x ∧ a e μ1 (fun xs μ2 => o x xs μ2 (sett m Q) X) X) X) := propext Iff.rfl
theorem Jcr (n : Str) (e : EnvD) (μ : Mu) (E : WEnds) : wRz n e μ E = (E.xp (.err n [] []) e μ) := propext Iff.rfl
theorem Jcs (n f : Str) (a : WE) (e : EnvD) (μ : Mu) (E : WEnds) : wRzA n f a e μ E = (a e μ (fun d μ1 => E.xp (.err n [f] [d]) e μ1) fun d μ1 => E.xp d e μ1) := propext Iff.rfl
theorem Jc3 (i : Nat) (w : WS) (e : EnvD) (μ : Mu) (E : WEnds) : wFz i w e μ E = (match gt e i with
  | some (.cell b) => (match μ b with
    | some nd => w (st e i (some nd.frz)) (del μ b) E
    | Option.none => False)
  | some _ => w e μ E
  | Option.none => False) := propext Iff.rfl
theorem Jbq (es : List Str) (w : WE) (e : EnvD) (μ : Mu) (Q : QD) (u0' : QD) : wCaught es w e μ Q u0' = (w e μ (fun _ μ1 => Q .none μ1) fun d μ1 => match d with
  | .err n _ _ => n ∈ es ∧ Q d μ1
  | _ => False) := propext Iff.rfl
theorem Jc0 (f : Str) (r : WE) (e : EnvD) (μ : Mu) (Q : QD) (X : QD) : wErrF f r e μ Q X = (r e μ (fun x μ1 => match x with
  | .err _ fs ds => (match fldD f fs ds with
    | some d => Q d μ1
    | Option.none => False)
  | _ => False) X) := propext Iff.rfl
theorem Jbw (m : Bool) (u0' : EnvD) (μ : Mu) (Q : QD) (u1' : QD) : wDict0 m u0' μ Q u1' = (sett m Q (.n (.dk [] [])) μ) := propext Iff.rfl
theorem Jca (m : Bool) (a : WA) (e : EnvD) (μ : Mu) (Q : QD) (X : QD) : wLrng m a e μ Q X = (a e μ (fun ds μ1 => one ds fun d => int1 d fun j => (0 ≤ j ∧ j ≤ 2 ^ 20) ∧ sett m Q (.n (.list (rangeD 0 j.toNat))) μ1) X) := propext Iff.rfl
theorem Jd4 (js : List Nat) (a : WA) (e : EnvD) (μ : Mu) (Q : List D → Mu → Prop) (X : QD) : waPerm js a e μ Q X = (a e μ (fun ds μ1 => ds.length = js.length ∧ Q (permD D.none js ds) μ1) X) := propext Iff.rfl
theorem Jbs (p q : Int → Int → Bool) (a b d : WE) (e : EnvD) (μ : Mu) (Q : QD) (X : QD) : wChain p q a b d e μ Q X = (a e μ (fun x μ1 => b e μ1 (fun y μ2 => int1 x fun i => int1 y fun j => if p i j = true then d e μ2 (fun z μ3 => int1 z fun k => Q (.bool (q j k)) μ3) X else Q (.bool false) μ2) X) X) := propext Iff.rfl
theorem Jbx (m : Bool) (a b : WE) (e : EnvD) (μ : Mu) (Q : QD) (X : QD) : wDisp1 m a b e μ Q X = (a e μ (fun x μ1 => b e μ1 (fun y μ2 => match keyD x with
  | some k => sett m Q (.n (.dk [k] [y])) μ2
  | Option.none => False) X) X) := propext Iff.rfl
theorem Jby (m : Bool) (ks : List Key) (b : WE) (e : EnvD) (μ : Mu) (Q : QD) (X : QD) : wDispT m ks b e μ Q X = (b e μ (fun y μ2 => sett m Q (.n (.dt [ks] [y])) μ2) X) := propext Iff.rfl
theorem Jbv (n N : Nat) (b : WS) (ds : List D) (μ : Mu) (Q : QD) (X : QD) : wDefD n N b ds μ Q X = (wDef n N b ds μ (fun d μ1 => ∃ μ2, subMu μ2 μ1 ∧ Q d μ2) X) := propext Iff.rfl
/-- what is wished behind an __init__ -/
def mkQ (m : Bool) (Q : QD) (p : Addr) : QD := fun r μ2 => r = .none ∧ (match μ2 p with
  | some nd => sett m Q (.n nd) (del μ2 p)
  | Option.none => False)
theorem Jcc (m : Bool) (n : Str) (s : WP) (dd : List D) (a : WA) (e : EnvD) (μ : Mu) (Q X : QD) : wMake m n s dd a e μ Q X = a e μ (fun ds μ1 => ∀ p, μ1 p = Option.none → s (.cell p :: (ds ++ dd)) (up μ1 p (.obj n [] [])) (mkQ m Q p) X) X := propext Iff.rfl
theorem mkQ_f {Q : QD} {p : Addr} {μ : Mu} {nd : Nd} (hp : μ p = Option.none) (q : Q nd.frz μ) : mkQ false Q p .none (up μ p nd) := by
  refine ⟨rfl, ?_⟩
  rw [up_same, del_up hp]
  exact q
theorem Jbb (m : Bool) (Q : QD) (d : D) (μ : Mu) : sett m Q (.v d) μ = Q d μ := by cases m <;> exact propext Iff.rfl
theorem Jb9 (Q : QD) (nd : Nd) (μ : Mu) : sett false Q (.n nd) μ = Q nd.frz μ := propext Iff.rfl
theorem Jba (Q : QD) (nd : Nd) (μ : Mu) : sett true Q (.n nd) μ = (∀ p, μ p = Option.none → Q (.cell p) (up μ p nd)) := propext Iff.rfl
theorem Jbc (μ : Mu) (ds : List D) : sqD μ (.list ds) = some ds := rfl
theorem Jbe (μ : Mu) (ds : List D) : sqD μ (.tup ds) = some ds := rfl
theorem Jbd (μ : Mu) (ns : List Int) : sqD μ (.script ns) = some (iL ns) := rfl
theorem Jb8 (μ : Mu) (ds : List D) : seqL μ (.list ds) = some ds := rfl
theorem Ja2 (ds : List D) : (Nd.list ds).frz = .list ds := rfl
theorem Ja1 (ks : List Key) (ds : List D) : (Nd.dk ks ds).frz = .dk ks ds := rfl
theorem Ja4 (ks : List (List Key)) (ds : List D) : (Nd.dt ks ds).frz = .dt ks ds := rfl
theorem Ja3 (c : Str) (fs : List Str) (ds : List D) : (Nd.obj c fs ds).frz = .obj c fs ds := rfl
theorem Jb7 (x : D) (f : D → Prop) : one [x] f = f x := propext Iff.rfl
theorem Jbh (x y : D) (f : D → D → Prop) : two [x, y] f = f x y := propext Iff.rfl
theorem Ja5 (i : Int) (f : Int → Prop) : int1 (.int i) f = f i := propext Iff.rfl
section
variable (μ : Mu) (Q : QR) (X : QD)
theorem Jae (i j : Int) : oAdd (.int i) (.int j) μ Q X = Q (.v (.int (i + j))) μ := propext Iff.rfl
theorem Jag (a b : Str) : oAdd (.str a) (.str b) μ Q X = (a.length + b.length ≤ sizeLine ∧ Q (.v (.str (a ++ b))) μ) := propext Iff.rfl
theorem Jah (a b : List D) : oAdd (.tup a) (.tup b) μ Q X = (a.length + b.length ≤ sizeLine ∧ Q (.v (.tup (a ++ b))) μ) := propext Iff.rfl
theorem Jaf (a b : List D) : oAdd (.list a) (.list b) μ Q X = (a.length + b.length ≤ sizeLine ∧ Q (.n (.list (a ++ b))) μ) := propext Iff.rfl
theorem Jb6 (i j : Int) : oSub (.int i) (.int j) μ Q X = Q (.v (.int (i - j))) μ := propext ⟨fun h => h.2, fun h => ⟨trivial, h⟩⟩
theorem Jav (i j : Int) : oMul (.int i) (.int j) μ Q X = (CMulU i j ∧ Q (.v (.int (i * j))) μ) := propext Iff.rfl
theorem Jaw (a : List D) (k : Int) : oMul (.list a) (.int k) μ Q X = (-(2 ^ 63) ≤ k ∧ k < 2 ^ 63 ∧ a.length * k.toNat ≤ sizeLine ∧ Q (.n (.list (List.replicate k.toNat a).flatten)) μ) := propext Iff.rfl
theorem Jak (i j : Int) : oFdiv (.int i) (.int j) μ Q X = (CDivW i j ∧ Q (.v (.int (i / j))) μ) := propext Iff.rfl
theorem Jau (i j : Int) : oMod (.int i) (.int j) μ Q X = (0 < j ∧ Q (.v (.int (i % j))) μ) := propext Iff.rfl
theorem Jb3 (i j : Int) : oPow (.int i) (.int j) μ Q X = (CPowW i j ∧ Q (.v (.int (i ^ j.toNat))) μ) := propext Iff.rfl
theorem Jat (i j : Int) : oLt (.int i) (.int j) μ Q X = Q (.v (.bool (decide (i < j)))) μ := propext ⟨fun h => h.2, fun h => ⟨trivial, h⟩⟩
theorem Jas (i j : Int) : oLe (.int i) (.int j) μ Q X = Q (.v (.bool (decide (i ≤ j)))) μ := propext ⟨fun h => h.2, fun h => ⟨trivial, h⟩⟩
theorem Jam (i j : Int) : oGt (.int i) (.int j) μ Q X = Q (.v (.bool (decide (j < i)))) μ := propext ⟨fun h => h.2, fun h => ⟨trivial, h⟩⟩
theorem Jal (i j : Int) : oGe (.int i) (.int j) μ Q X = Q (.v (.bool (decide (j ≤ i)))) μ := propext ⟨fun h => h.2, fun h => ⟨trivial, h⟩⟩
theorem Jb1 (i : Int) : oNeg (.int i) μ Q X = Q (.v (.int (-i))) μ := propext Iff.rfl
theorem Jai (i j : Int) : oEq (.int i) (.int j) μ Q X = Q (.v (.bool (decide (i = j)))) μ := propext Iff.rfl
theorem Jaj (i j : Str) : oEq (.str i) (.str j) μ Q X = Q (.v (.bool (decide (i = j)))) μ := propext Iff.rfl
theorem Jaz (i j : Int) : oNe (.int i) (.int j) μ Q X = Q (.v (.bool (!decide (i = j)))) μ := propext Iff.rfl
theorem Jb0 (i j : Str) : oNe (.str i) (.str j) μ Q X = Q (.v (.bool (!decide (i = j)))) μ := propext Iff.rfl
theorem Jap (x : D) : oIsN x .none μ Q X = Q (.v (.bool (isNone x))) μ := propext Iff.rfl
theorem Jb2 (x : D) : oNotN x .none μ Q X = Q (.v (.bool (!isNone x))) μ := propext Iff.rfl
theorem Jaq (ds : List D) (i : Int) : oIx (.list ds) (.int i) μ Q X = (match atI ds i with
  | some d => Q (.v d) μ
  | Option.none => False) := propext Iff.rfl
theorem Jar (ds : List D) (i : Int) : oIx (.tup ds) (.int i) μ Q X = (match atI ds i with
  | some d => Q (.v d) μ
  | Option.none => False) := propext Iff.rfl
theorem Jan (neg : Bool) (x : D) (ds : List D) : oIn neg x (.tup ds) μ Q X = (flatD x = true ∧ ds.all flatD = true ∧ Q (.v (.bool (if neg then !inF x ds else inF x ds))) μ) := propext Iff.rfl
theorem Jao (neg : Bool) (x : D) (ds : List D) : oIn neg x (.list ds) μ Q X = (flatD x = true ∧ ds.all flatD = true ∧ Q (.v (.bool (if neg then !inF x ds else inF x ds))) μ) := propext Iff.rfl
theorem Jb5 (ds : List D) (lo hi : Option Int) : oSl (.tup ds) lo hi μ Q X = Q (.v (.tup (cutD ds lo hi))) μ := propext Iff.rfl
theorem Jb4 (ds : List D) (lo hi : Option Int) : oSl (.list ds) lo hi μ Q X = Q (.n (.list (cutD ds lo hi))) μ := propext Iff.rfl
theorem Ja7 (ds : List D) : cbLen [.list ds] μ Q X = Q (.v (.int ds.length)) μ := propext Iff.rfl
theorem Ja8 (ds : List D) : cbLen [.tup ds] μ Q X = Q (.v (.int ds.length)) μ := propext Iff.rfl
theorem Jac (i j : Int) : cbMin2 [.int i, .int j] μ Q X = Q (.v (.int (if j < i then j else i))) μ := propext Iff.rfl
theorem Jab (i j : Int) : cbMax2 [.int i, .int j] μ Q X = Q (.v (.int (if j > i then j else i))) μ := propext Iff.rfl
theorem Ja0 (i : Int) : cbAbs [.int i] μ Q X = Q (.v (.int (if i < 0 then -i else i))) μ := propext Iff.rfl
theorem Ja9 (ds : List D) : cbList [.list ds] μ Q X = Q (.n (.list ds)) μ := propext Iff.rfl
theorem Jaa (ds : List D) : cbList [.tup ds] μ Q X = Q (.n (.list ds)) μ := propext Iff.rfl
theorem Jbf (ds : List D) : cbTup [.list ds] μ Q X = Q (.v (.tup ds)) μ := propext Iff.rfl
theorem Jbg (ds : List D) : cbTup [.tup ds] μ Q X = Q (.v (.tup ds)) μ := propext Iff.rfl
theorem Ja6 (a b : Bool) : oIsB (.bool a) (.bool b) μ Q X = Q (.v (.bool (decide (a = b)))) μ := propext Iff.rfl
theorem Jad (a b : Bool) : oNotB (.bool a) (.bool b) μ Q X = Q (.v (.bool (!decide (a = b)))) μ := propext Iff.rfl
end
end DL

set_option Elab.async false
set_option linter.all false
set_option maxRecDepth 100000
set_option maxHeartbeats 4000000
/-! A19: != of a list and [], of a tuple and (). -/
namespace GQ2
open PySem PySem.SeqAt
open AutoSeq1 (wpAny_loadPart')
open MeetsSeq MeetsSeq2 MeetsSeq3 SeqRoads2
section
variable {prog : Program} {w : World} {A : Around} {R : Result → Shared → Prop}
end
section
variable {prog : Program} {w : World} {A : Around} {E : Value → Shared → Prop} {s : Shared}
end
end GQ2
namespace DL
open PySem PyProof.Rows L2
/-- x != [], x != () -/
def oNe0 : WOp := fun x y μ Q _ => match x with
  | .tup ds => (match y with
    | .tup [] => Q (.v (.bool (!ds.isEmpty))) μ
    | _ => False)
  | x => (match seqL μ x, y with
    | some ds, .list [] => Q (.v (.bool (!ds.isEmpty))) μ
    | _, _ => False)
theorem Jax (ds : List D) (μ : Mu) (Q : QR) (X : QD) : oNe0 (.list ds) (.list []) μ Q X = Q (.v (.bool (!ds.isEmpty))) μ := propext Iff.rfl
theorem Jay (ds : List D) (μ : Mu) (Q : QR) (X : QD) : oNe0 (.tup ds) (.tup []) μ Q X = Q (.v (.bool (!ds.isEmpty))) μ := propext Iff.rfl
section
variable {X : Cx} {c : Ctx} {W : WX}
end
end DL

set_option Elab.async false
set_option linter.all false
set_option maxRecDepth 100000
/-! A20: zip of two tuples. -/
namespace DL
open PySem L2
section
variable {X : Cx} {c : Ctx} {W : WX} {k ka kb : Nat} {a b tg : Expr} {wa : WE} {pos p : Pos} {es : List Expr} {wr : WA} {m : Bool}
end
end DL

set_option Elab.async false
set_option linter.all false
set_option maxRecDepth 100000
/-! A21: repr of plain data with great numbers. -/
namespace PySem
open Sem (wp)
open Builtin Builtin.Str Builtin.Int
/-- no limit of figures was set -/
def DigOk (h : Heap) : Prop := ∀ M : Model, PySem.W.Looks M h (nsGet cStatics "sys.int_max_str_digits") none
theorem DigOk.keeps {h h' : Heap} (x : DigOk h) (k : ∀ b o, h.get? b = some o → h'.get? b = some o) : DigOk h' := fun M => (x M).keeps k
theorem digits_ok {M : Model} {A : Around} {E : Value → Shared → Prop} {s : Shared} {a : Int} {Q : Option Nat → Shared → Prop} (hn : DigOk s.heap) (ha : a.natAbs.log2 < 12900) (h : Q none s) : wpAny M A (Builtin.overDigitLimit? a) Q E s := by
  unfold Builtin.overDigitLimit?
  by_cases hs : a.natAbs.log2 < 1920
  · rw [if_pos hs]
    exact wpAny_pure h
  · rw [if_neg hs]
    unfold Builtin.intMaxStrDigits
    refine wpAny_bind (wpAny_bind (hn M A _ _ s (fun _ _ e => e) ?_))
    refine wpAny_pure ?_
    dsimp only
    rw [if_neg (by omega), if_pos (by simp; omega)]
    exact wpAny_pure h
theorem gives_int_reprB {a : Int} (t : Tok) (ha : a.natAbs.log2 < 12900) : GivesAt (fun s => DigOk s.heap) («int.__repr__» ⟨[.int a t], []⟩) (.str (toString a)) := by
  intro prog w A R s hP h
  unfold «int.__repr__»
  show wpAny _ _ (do let r ← overDigitLimit? a; _) _ _ s
  refine wpAny_bind (digits_ok hP ha ?_)
  exact wpAny_bind (wpAny_mkStr (wpAny_pure h.2) h.1)
section
variable {prog : Program} {w : World} {A : Around} {E : Value → Shared → Prop} {s : Shared}
theorem pyReprObj_intB {a : Int} {t : Tok} {Q : Value → Shared → Prop} (hn : DigOk s.heap) (ha : a.natAbs.log2 < 12900) (hx : (Str.ofString (toString a)).length ≤ sizeLine) (h : Q (.str (toString a) s.toks) { s with toks := s.toks + 1 }) : wpAny (model prog w) A (pyReprObj (.int a t)) Q E s := by
  have hv : [Value.int a t].any Value.onHeap = false := rfl
  unfold pyReprObj
  simp only [cRoomFor, hv, Bool.false_eq_true, if_false, pure_bind]
  refine wpAny_bind (wpAny_specialOf (name := Str.ofString "__repr__") (typeIs_int s a t) F.slot_int_repr.lookup ?_)
  refine wpAny_bind (m := callSpecialIfBound? (.int a t) (Str.ofString "__repr__")) (wpAny_callSpecialIfBound?_slot (name := Str.ofString "__repr__") (typeIs_int s a t) F.slot_int_repr (call_givesAt F.slot_int_repr (typeIs_int s a t) F.entry_int_repr (F.args_int_repr_1 _) (gives_int_reprB t ha) hn ⟨hx, ?_⟩))
  exact wpAny_bind (wpAny_isInstance (T := "str") (b := true) rfl isSubtype_str_str (wpAny_pure h))
theorem repr_of_intB {a : Int} {t : Tok} {Q : Value → Shared → Prop} (hn : DigOk s.heap) (ha : a.natAbs.log2 < 12900) (hx : (Str.ofString (toString a)).length ≤ sizeLine) (h : Q (.str (toString a) s.toks) { s with toks := s.toks + 1 }) : wpAny (model prog w) A (call (.builtin "repr") [.int a t]) Q E s := by
  have hv : [Value.int a t].any Value.onHeap = false := rfl
  refine Calls.call_function_entry F.kind_repr F.plain_repr F.entry_repr (F.args_repr1 _) ?_
  unfold Builtin.«repr»
  refine wpAny_bind (m := oneArg "repr" _) (wpAny_pure ?_)
  simp only [cRoomFor, hv, Bool.false_eq_true, if_false, pure_bind]
  refine wpAny_bind (wpAny_specialOf (name := Str.ofString "__repr__") (typeIs_int s a t) F.slot_int_repr.lookup ?_)
  refine wpAny_bind (m := callSpecialIfBound? (.int a t) (Str.ofString "__repr__")) (wpAny_callSpecialIfBound?_slot (name := Str.ofString "__repr__") (typeIs_int s a t) F.slot_int_repr (call_givesAt F.slot_int_repr (typeIs_int s a t) F.entry_int_repr (F.args_int_repr_1 _) (gives_int_reprB t ha) hn ⟨hx, ?_⟩))
  refine wpAny_bind (wpAny_isInstance (T := "str") (b := true) rfl isSubtype_str_str ?_)
  exact wpAny_pure ⟨_, rfl, h⟩
end
section
variable {prog : Program} {w : World} {h₀ : Heap}
theorem ReprK.intB {a : Int} (t : Tok) (hn : DigOk h₀) (ha : a.natAbs.log2 < 12900) (hx : (Str.ofString (toString a)).length ≤ sizeLine) (as : List Addr) (d : Nat) : ReprK prog w as h₀ d (.int a t) (toString a) := fun n hnn A g E s Q _ _ _ hk h => by
  have hn' : n ≤ sizeLine := by omega
  rw [pyReprUnder_leaf (v := .int a t) hn' (fun _ e => nomatch e)]
  unfold pyRepr
  exact wpAny_bind (pyReprObj_intB (hn.keeps hk) ha hx (wpAny_pure (h s.heap _ fun _ _ e => e)))
end
namespace PyData
mutual
/-- numbers of up to about 3880 figures; no dicts -/
def big : PyData → Bool
  | .none | .bool _ | .str _ => true
  | .int i => decide (i.natAbs.log2 < 12900)
  | .list xs | .tuple xs => bigAll xs
  | .dict _ => false
def bigAll : List PyData → Bool
  | [] => true
  | x :: xs => big x && bigAll xs
end
end PyData
section
variable {prog : Program} {w : World} {h₀ : Heap}
mutual
theorem ReprK.of_readsB (dg : DigOk h₀) : ∀ {v : Value} {d : PyData} {as : List Addr}, Reads h₀ v d as → d.big = true → d.shown.length ≤ sizeLine → ∃ bs, ReadAtMost h₀ d.depth bs ∧ ReprK prog w bs h₀ d.depth v d.shown
  | _, _, _, .none, _, _ => ⟨[], (fun _ h => nomatch h), by simp only [PyData.shown]; exact .of_is ReprIs.none _ _ _⟩
  | _, _, _, .bool b, _, _ => ⟨[], (fun _ h => nomatch h), by simp only [PyData.shown]; exact .of_is (ReprIs.bool b) _ _ _⟩
  | _, _, _, .int i t, hs, hz => ⟨[], (fun _ h => nomatch h), by simp only [PyData.shown] at hz ⊢; exact ReprK.intB t dg (by simpa [PyData.big] using hs) hz _ _⟩
  | _, _, _, .str x t, _, hz => ⟨[], (fun _ h => nomatch h), by simp only [PyData.shown]; exact .of_is (ReprIs.str x t (by simpa only [PyData.shown] using hz)) _ _ _⟩
  | _, _, _, .list (a := a) (vs := vs) (xs := xs) h1 h2 h3 h4, hs, hz => by
    have hz' : (listText (PyData.shownAll xs)).length ≤ sizeLine := by simpa only [PyData.shown] using hz
    obtain ⟨bs, hb, hk⟩ := ReprAllK.of_readsAllB dg h4 (by simpa [PyData.big] using hs) (fun t ht => Nat.le_trans (listText_mem_le ht) hz')
    have r : Reads h₀ (.ref a) (.list xs) _ := .list h1 h2 h3 h4
    have hna : a ∉ bs := not_mem_of_deeper r (by simp only [PyData.depth]; omega) hb
    refine ⟨a :: bs, ReadAtMost.cons r (by simp only [PyData.depth]; omega) hb, ?_⟩
    simp only [PyData.depth, PyData.shown]
    obtain ⟨l⟩ := vs
    cases l with
    | nil =>
      have h4' : ReadsAll h₀ [] xs _ := h4
      cases h4'
      simp only [PyData.shownAll, listText_nil]
      exact ReprK.listEmpty h1 h2 h3
    | cons x l => exact ReprK.list h1 h2 h3 hna (by simpa using hk.length_eq) (fun i y e => hk.item i y (by simpa using e))
  | _, _, _, .tuple (a := a) (xs := xs) h1 h2 h3 h4, hs, hz => by
    have hz' : (tupleText (PyData.shownAll xs)).length ≤ sizeLine := by simpa only [PyData.shown] using hz
    obtain ⟨bs, hb, hk⟩ := ReprAllK.of_readsAllB dg h4 (by simpa [PyData.big] using hs) (fun t ht => Nat.le_trans (tupleText_mem_le ht) hz')
    have r : Reads h₀ (.ref a) (.tuple xs) _ := .tuple h1 h2 h3 h4
    have hna : a ∉ bs := not_mem_of_deeper r (by simp only [PyData.depth]; omega) hb
    refine ⟨a :: bs, ReadAtMost.cons r (by simp only [PyData.depth]; omega) hb, ?_⟩
    simp only [PyData.depth, PyData.shown]
    exact ReprK.tuple h1 h2 h3 hna hk
  | _, _, _, .dict h1 h2 h3 h4 h5, hs, _ => by simp [PyData.big] at hs
theorem ReprAllK.of_readsAllB (dg : DigOk h₀) : ∀ {vs : List Value} {ds : List PyData} {as : List Addr}, ReadsAll h₀ vs ds as → PyData.bigAll ds = true → (∀ t ∈ PyData.shownAll ds, t.length ≤ sizeLine) →
    ∃ bs, ReadAtMost h₀ (PyData.depthAll ds) bs ∧ ReprAllK prog w bs h₀ (PyData.depthAll ds) vs (PyData.shownAll ds)
  | _, _, _, .nil, _, _ => ⟨[], (fun _ h => nomatch h), by simp only [PyData.shownAll]; exact .nil⟩
  | _, _, _, .cons (d := d) (ds := ds) r rs, hs, hz => by
    have hs' : d.big = true ∧ PyData.bigAll ds = true := by simpa [PyData.bigAll] using hs
    obtain ⟨b1, hb1, k1⟩ := ReprK.of_readsB dg r hs'.1 (hz _ (by simp only [PyData.shownAll]; exact List.mem_cons_self ..))
    obtain ⟨b2, hb2, k2⟩ := ReprAllK.of_readsAllB dg rs hs'.2 (fun t ht => hz t (by simp only [PyData.shownAll]; exact List.mem_cons_of_mem _ ht))
    refine ⟨b1 ++ b2, ?_, ?_⟩
    · intro b hm
      simp only [PyData.depthAll]
      rcases List.mem_append.mp hm with hm | hm
      · obtain ⟨d', as', r', hd'⟩ := hb1 b hm
        exact ⟨d', as', r', Nat.le_trans hd' (Nat.le_max_left _ _)⟩
      · obtain ⟨d', as', r', hd'⟩ := hb2 b hm
        exact ⟨d', as', r', Nat.le_trans hd' (Nat.le_max_right _ _)⟩
    · simp only [PyData.depthAll, PyData.shownAll]
      exact .cons ((k1.more fun b hb => List.mem_append_left _ hb).level_le (Nat.le_max_left _ _)) (k2.more_le (fun b hb => List.mem_append_right _ hb) (Nat.le_max_right _ _))
end
variable {a : Addr} {d : PyData} {as : List Addr}
theorem showsBy_of_readsB (dg : DigOk h₀) (r : Reads h₀ (.ref a) d as) (hs : d.big = true) (hsz : d.shown.length ≤ sizeLine) : ∃ T idr, ShowsBy prog w h₀ a d T idr := by
  cases r with
  | list h1 h2 h3 h4 =>
    rename_i o vs n xs bs₀
    have hz' : (listText (PyData.shownAll xs)).length ≤ sizeLine := by simpa only [PyData.shown] using hsz
    obtain ⟨bs, hb, hk⟩ := ReprAllK.of_readsAllB (prog := prog) (w := w) dg h4 (by simpa [PyData.big] using hs) (fun t ht => Nat.le_trans (listText_mem_le ht) hz')
    have hna : a ∉ bs := not_mem_of_deeper (.list h1 h2 h3 h4) (by simp only [PyData.depth]; omega) hb
    refine ⟨"list", "list.__repr__", F.slot_list_repr.toG, F.slot_list_str, F.slot_list_format, fun s hk0 => ⟨o, hk0 _ _ h1, h2⟩, fun A E s Q hg hu hk0 hQ => ?_⟩
    simp only [PyData.depth] at hu
    simp only [PyData.shown] at hQ
    obtain ⟨l⟩ := vs
    cases l with
    | nil =>
      have h4' : ReadsAll h₀ [] xs _ := h4
      cases h4'
      simp only [PyData.shownAll, listText_nil] at hQ
      exact call_list_repr_empty ⟨o, hk0 _ _ h1, h2⟩ (hk0 _ _ h1) h3 (hQ s.heap _ _ fun _ _ e => e)
    | cons x l =>
      exact call_list_reprK h1 h2 h3 hna (by simpa using hk.length_eq) (fun i y e => hk.item i y (by simpa using e)) hg (fun b _ => Clear.nil b) hu hk0 hQ hz'
  | tuple h1 h2 h3 h4 =>
    rename_i o vs n xs
    have hz' : (tupleText (PyData.shownAll xs)).length ≤ sizeLine := by simpa only [PyData.shown] using hsz
    obtain ⟨bs, hb, hk⟩ := ReprAllK.of_readsAllB (prog := prog) (w := w) dg h4 (by simpa [PyData.big] using hs) (fun t ht => Nat.le_trans (tupleText_mem_le ht) hz')
    have hna : a ∉ bs := not_mem_of_deeper (.tuple h1 h2 h3 h4) (by simp only [PyData.depth]; omega) hb
    refine ⟨"tuple", "tuple.__repr__", F.slot_tuple_repr, F.slot_tuple_str, F.slot_tuple_format, fun s hk0 => ⟨o, hk0 _ _ h1, h2⟩, fun A E s Q hg hu hk0 hQ => ?_⟩
    simp only [PyData.depth] at hu
    simp only [PyData.shown] at hQ
    exact call_tuple_reprK h1 h2 h3 hna hk hg (fun b _ => Clear.nil b) hu hk0 hQ hz'
  | dict h1 h2 h3 h4 h5 => simp [PyData.big] at hs
variable {A : Around} {E : Value → Shared → Prop} {s : Shared} {Q : Value → Shared → Prop}
theorem repr_of_readsB (dg : DigOk h₀) (r : Reads h₀ (.ref a) d as) (hs : d.big = true) (hg : A.guards = some []) (hu : A.units + (d.depth + 1) < cLine) (hk0 : ∀ b o, h₀.get? b = some o → s.heap.get? b = some o)
    (hQ : ∀ h' u tk, (∀ b o, s.heap.get? b = some o → h'.get? b = some o) → Q (.str d.shown u) { s with heap := h', toks := tk })
    (hsz : d.shown.length ≤ sizeLine) : wpAny (model prog w) A (call (.builtin "repr") [.ref a]) Q E s := by
  obtain ⟨T, idr, S⟩ := showsBy_of_readsB (prog := prog) (w := w) dg r hs hsz
  exact call_repr_slot (by omega) (S.typeIs s hk0) S.slotRepr (S.call A.in1 E s _ hg (by show A.units + 1 + d.depth < cLine; omega) hk0 fun h' u tk hk => ⟨_, _, rfl, hQ h' u tk hk⟩)
end
end PySem
namespace DL
open PySem L2
structure ShB (L k : Nat) (p : PyData) : Prop where
  len : p.shown.length ≤ L
  dep : p.depth ≤ k
  can : p.big = true
section
variable {X : Cx} {c : Ctx} {W : WX}
end
end DL

set_option Elab.async false
set_option linter.all false
set_option maxRecDepth 100000
set_option maxHeartbeats 4000000
/-! A22: tuple * int, whatever the int. -/
namespace L2
open PySem PySem.Spec PyProof.Rows
section
variable {X : Cx}
end
end L2
namespace DL
open PySem L2
section
variable {X : Cx} {c : Ctx} {W : WX}
end
end DL

set_option Elab.async false
set_option linter.all false
set_option maxRecDepth 100000
set_option maxHeartbeats 4000000
/-! A23: o.f, p.g = x, y. -/
namespace L2
open PySem PySem.Spec PyProof.Rows
end L2
namespace DL
open PySem PyProof.Rows L2
section
variable {X : Cx} {c : Ctx} {W : WX} {k ka kb kc ko : Nat} {a b o o2 v : Expr} {wo wo2 wv : WE} {pos pos1 pos2 pos3 : Pos} {n n2 f f2 : Str}
end
end DL

set_option Elab.async false
set_option linter.all false
set_option maxRecDepth 100000
set_option maxHeartbeats 4000000
/-! A24: x in a list or a tuple of plain data. -/
namespace L2
open PySem PySem.Spec PyProof.Rows
section
variable {X : Cx}
end
end L2
namespace DL
open PySem PyProof.Rows L2
section
variable {X : Cx} {c : Ctx} {W : WX}
end
end DL

set_option Elab.async false
set_option linter.all false
set_option maxRecDepth 100000
set_option maxHeartbeats 4000000
/-! A25: dicts of texts that change: {k: v, k: v, k: v}, d[k], d[k] = v; x += y of an own class. -/
namespace L2
open PySem PySem.Spec PyProof.Rows PySem.W
end L2
namespace DL
open PySem PyProof.Rows L2
variable [Gds]
section
variable {X : Cx} {c : Ctx} {W : WX} {k ka kb kc ko kf : Nat} {a b d o v : Expr} {wa wb wd wo wv : WE} {m : Bool} {pos pos' p1 p2 p3 : Pos} {q1 q2 q3 : Nat} {key k1 k2 k3 : Str}
end
end DL

set_option Elab.async false
set_option linter.all false
set_option maxRecDepth 100000
set_option maxHeartbeats 4000000
/-! A26: what an expression gives is frozen: from then on it never changes. -/
namespace DL
open PySem PyProof.Rows L2
section
variable {X : Cx} {c : Ctx} {W : WX} {k : Nat} {a : Expr} {wa : WE}
end
end DL

set_option Elab.async false
set_option linter.all false
set_option maxRecDepth 100000
set_option maxHeartbeats 4000000
/-! A27: != of tuples and lists that hold instances with an own ==. -/
namespace GQ2
open PySem PySem.SeqAt
open AutoSeq1 (wpAny_loadPart')
open MeetsSeq MeetsSeq2 MeetsSeq3 SeqRoads2
section
variable {prog : Program} {w : World} {A : Around} {R : Result → Shared → Prop}
end
section
variable {prog : Program} {w : World} {A : Around} {E : Value → Shared → Prop} {s : Shared}
end
end GQ2
namespace DL
open PySem PyProof.Rows L2
variable [Gds]
section
variable {X : Cx} {c : Ctx} {W : WX} {k m : Nat} {n : Str} {fs : List Str} {P : List D → Bool} {S : Option SA} {F : Hp} {μ : Mu}
end
end DL

set_option Elab.async false
set_option linter.all false
set_option maxRecDepth 100000
set_option maxHeartbeats 4000000
/-! A28: C(*x). -/
namespace DL
open PySem PySem.Spec PyProof.Rows L2
variable [Gds]
section
variable {X : Cx} {c : Ctx} {W : WX} {k kf ka : Nat} {a : Expr} {wa : WE} {n x : Str} {f : Addr} {fd : FuncData} {ps : List Str} {s : WP} {p sp_ pos : Pos}
end
end DL

set_option Elab.async false
set_option linter.all false
set_option maxRecDepth 100000
set_option maxHeartbeats 4000000
/-! M0: the mathematics of rows of numbers. -/
namespace M
/-- the value at x, the power 0 first -/
def ev : List Int → Int → Int
  | [], _ => 0
  | n :: ns, x => n + x * ev ns x
/-- without the zeros at the end -/
def trim : List Int → List Int
  | [] => []
  | n :: ns => if trim ns = [] ∧ n = 0 then [] else n :: trim ns
theorem trim_append_zero : ∀ ns : List Int, trim (ns ++ [0]) = trim ns
  | [] => by simp [trim]
  | n :: ns => by rw [List.cons_append, trim, trim, trim_append_zero ns]
theorem trim_self : ∀ ns : List Int, (∀ h : ns ≠ [], ns.getLast h ≠ 0) → trim ns = ns
  | [], _ => rfl
  | [n], h => by
    have := h (by simp)
    rw [trim, trim]
    simp at this
    simp [this]
  | n :: m :: ns, h => by
    have ih := trim_self (m :: ns) fun h2 => by simpa using h (by simp)
    rw [trim, ih]
    simp
theorem trim_mem {x : Int} : ∀ {ns : List Int}, x ∈ trim ns → x ∈ ns
  | [], h => h
  | n :: ns, h => by
    rw [trim] at h
    by_cases hc : trim ns = [] ∧ n = 0
    · rw [if_pos hc] at h
      cases h
    · rw [if_neg hc] at h
      rcases List.mem_cons.mp h with e | e
      · rw [e]; exact List.mem_cons_self
      · exact List.mem_cons_of_mem _ (trim_mem e)
end M

set_option Elab.async false
set_option linter.all false
set_option maxRecDepth 100000
set_option maxHeartbeats 4000000
/-! M1: products and compositions of rows. -/
namespace M
end M

set_option Elab.async false
set_option linter.all false
set_option maxRecDepth 100000
set_option maxHeartbeats 4000000
/-! M2: rows by their values. -/
namespace M
def fact : Nat → Nat
  | 0 => 1
  | d + 1 => (d + 1) * fact d
end M

set_option Elab.async false
set_option linter.all false
set_option maxRecDepth 100000
set_option maxHeartbeats 4000000
/-! M3: rows are what their values are; bounds of their numbers. -/
namespace M
/-! ### bounds -/
/-- numbers of so many bits -/
def Bt (b : Nat) (ns : List Int) : Prop := ∀ n ∈ ns, n.natAbs < 2 ^ b
theorem Bt.up {a b : Nat} {ns : List Int} (h : Bt a ns) (hb : a ≤ b) : Bt b ns := fun n hn => Nat.lt_of_lt_of_le (h n hn) (Nat.pow_le_pow_right (by decide) hb)
theorem Bt.trim {b : Nat} {ns : List Int} (h : Bt b ns) : Bt b (trim ns) := fun n hn => h n (trim_mem hn)
theorem Bt.nil {b : Nat} : Bt b [] := fun _ z => nomatch z
end M

set_option Elab.async false
set_option linter.all false
set_option maxRecDepth 100000
set_option maxHeartbeats 4000000
/-! P0: loops, by what stays. -/
namespace DL
open PySem L2
theorem for_inv {ok : Mu → Prop} {g : WG} {b : WS} {xs : List D} {e : EnvD} {μ : Mu} {E : WEnds} (P : Nat → EnvD → Mu → Prop) (h0 : P 0 e μ)
    (hs : ∀ i x e μ (N : EnvD → Mu → Prop), xs[i]? = some x → P i e μ → (∀ e' μ', P (i + 1) e' μ' → N e' μ') → ok μ ∧ g x e fun e1 => b e1 μ { nx := N, rt := E.rt, bk := E.nx, ct := N, xp := E.xp })
    (hd : ∀ e μ, P xs.length e μ → ok μ ∧ E.nx e μ) : goFor ok g b xs e μ E := by
  have key : ∀ (ys : List D) (i : Nat) (e : EnvD) (μ : Mu), xs.drop i = ys → i ≤ xs.length → P i e μ → goFor ok g b ys e μ E := by
    intro ys
    induction ys with
    | nil =>
      intro i e μ hy hi p
      have hl : xs.length ≤ i := List.drop_eq_nil_iff.mp hy
      have ei : i = xs.length := by omega
      subst ei
      exact hd e μ p
    | cons y ys ih =>
      intro i e μ hy hi p
      have hx : xs[i]? = some y := by
        have := List.getElem?_drop (xs := xs) (i := i) (j := 0)
        rw [hy] at this
        simpa using this.symm
      have hlt : i < xs.length := (List.getElem?_eq_some_iff.mp hx).1
      have hy2 : xs.drop (i + 1) = ys := by
        rw [← List.drop_drop, hy]
        rfl
      exact hs i y e μ (fun e2 μ2 => goFor ok g b ys e2 μ2 E) hx p fun e' μ' p' => ih (i + 1) e' μ' hy2 hlt p'
  exact key xs 0 e μ rfl (Nat.zero_le _) h0
theorem while_inv {t : WT} {b : WS} {E : WEnds} (P : Nat → EnvD → Mu → Prop)
    (hs : ∀ k e μ (N : EnvD → Mu → Prop), P k e μ → (∀ j e' μ', j < k → P j e' μ' → N e' μ') →
      t e μ (fun c μ1 => if c = true then b e μ1 { nx := N, rt := E.rt, bk := E.nx, ct := N, xp := E.xp } else E.nx e μ1) fun d μ1 => E.xp d e μ1) :
    ∀ (n k : Nat) (e : EnvD) (μ : Mu), k < n → P k e μ → goWhile t b n e μ E
  | 0, k, _, _, h, _ => absurd h (Nat.not_lt_zero k)
  | n + 1, k, e, μ, h, p => hs k e μ (fun e2 μ2 => goWhile t b n e2 μ2 E) p fun j e' μ' hj p' => while_inv P hs n j e' μ' (by omega) p'
theorem lc_inv {ok : Mu → Prop} {g : WG} {t : WT} {a : WE} {e : EnvD} {X : QD} {xs : List D} {μ : Mu} {Q : List D → Mu → Prop} (P : Nat → List D → Mu → Prop) (h0 : P 0 [] μ)
    (hs : ∀ i x acc μ (N : List D → Mu → Prop), xs[i]? = some x → P i acc μ → (∀ acc' μ', P (i + 1) acc' μ' → N acc' μ') → ok μ ∧ g x e fun e1 => t e1 μ (fun c μ1 => if c = true then a e1 μ1 (fun d μ2 => N (acc ++ [d]) μ2) X else N acc μ1) X)
    (hd : ∀ acc μ, P xs.length acc μ → ok μ ∧ Q acc μ) : goLc ok g t a e X xs [] μ Q := by
  have key : ∀ (ys : List D) (i : Nat) (acc : List D) (μ : Mu), xs.drop i = ys → i ≤ xs.length → P i acc μ → goLc ok g t a e X ys acc μ Q := by
    intro ys
    induction ys with
    | nil =>
      intro i acc μ hy hi p
      have hl : xs.length ≤ i := List.drop_eq_nil_iff.mp hy
      have ei : i = xs.length := by omega
      subst ei
      exact hd acc μ p
    | cons y ys ih =>
      intro i acc μ hy hi p
      have hx : xs[i]? = some y := by
        have := List.getElem?_drop (xs := xs) (i := i) (j := 0)
        rw [hy] at this
        simpa using this.symm
      have hlt : i < xs.length := (List.getElem?_eq_some_iff.mp hx).1
      have hy2 : xs.drop (i + 1) = ys := by
        rw [← List.drop_drop, hy]
        rfl
      exact hs i y acc μ (fun acc' μ2 => goLc ok g t a e X ys acc' μ2 Q) hx p fun acc' μ' p' => ih (i + 1) acc' μ' hy2 hlt p'
  exact key xs 0 [] μ rfl (Nat.zero_le _) h0
theorem atI0 {α : Type} (a : α) (l : List α) : atI (a :: l) 0 = some a := by
  unfold atI ixN
  rw [if_pos (by decide), if_pos (by show (0 : Int) < ((l.length + 1 : Nat) : Int); omega)]
  rfl
theorem atI1 {α : Type} (a b : α) (l : List α) : atI (a :: b :: l) 1 = some b := by
  unfold atI ixN
  rw [if_pos (by decide), if_pos (by show (1 : Int) < ((l.length + 1 + 1 : Nat) : Int); omega)]
  rfl
theorem atI2 {α : Type} (a b c : α) (l : List α) : atI (a :: b :: c :: l) 2 = some c := by
  unfold atI ixN
  rw [if_pos (by decide), if_pos (by show (2 : Int) < ((l.length + 1 + 1 + 1 : Nat) : Int); omega)]
  rfl
theorem atI3 {α : Type} (a b c d : α) (l : List α) : atI (a :: b :: c :: d :: l) 3 = some d := by
  unfold atI ixN
  rw [if_pos (by decide), if_pos (by show (3 : Int) < ((l.length + 1 + 1 + 1 + 1 : Nat) : Int); omega)]
  rfl
theorem atI4 {α : Type} (a b c d e : α) (l : List α) : atI (a :: b :: c :: d :: e :: l) 4 = some e := by
  unfold atI ixN
  rw [if_pos (by decide), if_pos (by show (4 : Int) < ((l.length + 1 + 1 + 1 + 1 + 1 : Nat) : Int); omega)]
  rfl
theorem ixN20 : ixN (0 + 1 + 1) 0 = some 0 := rfl
theorem ixN21 : ixN (0 + 1 + 1) 1 = some 1 := rfl
end DL

set_option Elab.async false
set_option linter.all false
set_option maxRecDepth 100000
set_option maxHeartbeats 4000000
/-! P1: what the defs of rules come to, plainly. -/
namespace DL
open PySem L2
def wp_is_list : WP := (wDef 1 1 (wRet (wCb false cbIsi (waCons (wV 0) (waCons (wTup (waCons (wK (.ty "list")) (waCons (wK (.ty "tuple")) waNil))) waNil)))))
def wp_is_number : WP := (wDef 1 1 (wRet (wAnd (wCb false cbIsi (waCons (wV 0) (waCons (wK (.ty "int")) waNil))) (wNot (wCb false cbIsi (waCons (wV 0) (waCons (wK (.ty "bool")) waNil)))))))
def numD : D → Bool
  | .int _ => true
  | _ => false
def listD (μ : Mu) (d : D) : Bool := (match tyD μ d with
  | some (.b "list") => true
  | some (.b "tuple") => true
  | _ => false)
section
variable {μ : Mu} {Q X : QD} {d : D}
theorem ty_num {t : TyD} (h : tyD μ d = some t) : isi1 t (.ty "int") = some (numD d || (match d with | .bool _ => true | _ => false)) ∧ isi1 t (.ty "bool") = some (match d with | .bool _ => true | _ => false) := by
  cases d with
  | cell p =>
    simp only [tyD] at h
    cases e : μ p with
    | none => rw [e] at h; cases h
    | some nd =>
      rw [e] at h
      cases nd <;> (cases h; constructor <;> rfl)
  | obj n fs ds => cases h; exact ⟨rfl, rfl⟩
  | err n fs ds => cases h; exact ⟨rfl, rfl⟩
  | _ => first | (cases h; exact ⟨rfl, rfl⟩) | cases h
theorem ok_is_number {t : TyD} (h : tyD μ d = some t) (q : Q (.bool (numD d)) μ) : wp_is_number [d] μ Q X := by
  obtain ⟨h1, h2⟩ := ty_num h
  unfold wp_is_number
  simp only [wDef, initE, wSeq, wNext, wAsg, wAsgG, wDrop, wRet, wRetN, wIfS, wPar, wAug, wSetL, wBreak, wCont, wgN, wgNil, wgCons, wgTup, wiSeq, wiRng1, wiRng2, wiEnum, wFor, wLc, wYes, wV, wK, wOp, wUn, wTup, wLst, wCb, wTst, wNotT, wAndT, wOrT, wIf, wAnd, wOr, wNot, waNil, waCons, waStar, wCall, wMeth, wProp, wFld, wSetF, wMake, wCallI, wRev, wSl, woNone, woSome, wLm, wRz, wRzA, wFz, wCaught, wErrF, wDict0, wLrng, gt, st, sett, one, two, int1, atI0, atI1, atI2, atI3, atI4, ixN20, ixN21, List.map_cons, List.map_nil, List.cons_append, List.nil_append, List.append_nil, List.length_cons, List.length_nil, List.replicate_succ, List.replicate_zero, Nat.add_one_sub_one]
  refine ⟨trivial, ?_⟩
  simp only [cbIsi, two, h, isiD, h1, h2, sett]
  cases d <;> simp_all [numD]
theorem ok_is_list {t : TyD} (h : tyD μ d = some t) (q : Q (.bool (listD μ d)) μ) : wp_is_list [d] μ Q X := by
  unfold wp_is_list
  simp only [wDef, initE, wSeq, wNext, wAsg, wAsgG, wDrop, wRet, wRetN, wIfS, wPar, wAug, wSetL, wBreak, wCont, wgN, wgNil, wgCons, wgTup, wiSeq, wiRng1, wiRng2, wiEnum, wFor, wLc, wYes, wV, wK, wOp, wUn, wTup, wLst, wCb, wTst, wNotT, wAndT, wOrT, wIf, wAnd, wOr, wNot, waNil, waCons, waStar, wCall, wMeth, wProp, wFld, wSetF, wMake, wCallI, wRev, wSl, woNone, woSome, wLm, wRz, wRzA, wFz, wCaught, wErrF, wDict0, wLrng, gt, st, sett, one, two, int1, atI0, atI1, atI2, atI3, atI4, ixN20, ixN21, List.map_cons, List.map_nil, List.cons_append, List.nil_append, List.append_nil, List.length_cons, List.length_nil, List.replicate_succ, List.replicate_zero, Nat.add_one_sub_one]
  refine ⟨trivial, by decide, ?_⟩
  simp only [cbIsi, two, h, isiD, sett]
  have e : isiN t [.ty "list", .ty "tuple"] = some (listD μ d) := by
    unfold listD
    rw [h]
    cases d with
    | cell p =>
      simp only [tyD] at h
      cases e : μ p with
      | none => rw [e] at h; cases h
      | some nd =>
        rw [e] at h
        cases nd <;> (cases h; rfl)
    | obj n fs ds => cases h; rfl
    | err n fs ds => cases h; rfl
    | _ => first | (cases h; rfl) | cases h
  rw [e]
  exact q
/-! ### sequences, however they stand -/
section
variable {QQ : QR} {ds : List D}
theorem len_sq (h : sqD μ d = some ds) : cbLen [d] μ QQ X = QQ (.v (.int ds.length)) μ := by
  cases d <;> simp_all [cbLen, one, sqD]
theorem ix_sq {i : Int} {x : D} (h : sqD μ d = some ds) (hi : atI ds i = some x) : oIx d (.int i) μ QQ X = QQ (.v x) μ := by
  cases d <;> simp_all [oIx, sqD]
/-- a slice, made a tuple -/
theorem sl_tup {lo hi : Option Int} {Q : QD} (h : sqD μ d = some ds) (hs : ∀ ns, d ≠ .script ns) (q : Q (.tup (cutD ds lo hi)) μ) : oSl d lo hi μ (sett false fun x μ1 => cbTup [x] μ1 (sett false Q) X) X := by
  cases d <;> simp_all [oSl, sqD, seqL, sett, cbTup, one, Nd.frz]
theorem atI_nat {α : Type} (xs : List α) (i : Nat) (h : i < xs.length) : atI xs (i : Int) = some xs[i] := by
  have e : ixN xs.length (i : Int) = some i := by
    unfold ixN
    simp [h]
  unfold atI
  rw [e]
  simp [h]
end
/-! ### rows -/
def wp_without_end : WP := (wDef 1 2 (wSeq (wAsg 1 (wCb false cbLen (waCons (wV 0) waNil)))
    (wSeq (wWhile (wAndT (wTst (wOp false oGt (wV 1) (wK (.int 0)))) (wTst (wOp false oEq (wOp false oIx (wV 0) (wOp false oSub (wV 1) (wK (.int 1)))) (wK (.int 0))))) (wAug 1 (fun i j => i - j) (wK (.int 1))))
    (wRet (wCb false cbTup (waCons (wSl false oSl (wV 0) woNone (woSome (wV 1))) waNil))))))
theorem iL_get (ns : List Int) (i : Nat) : (iL ns)[i]? = (ns[i]?).map D.int := by
  unfold iL
  rw [List.getElem?_map]
theorem iL_len (ns : List Int) : (iL ns).length = ns.length := by
  unfold iL
  rw [List.length_map]
theorem trim_take {ns : List Int} {k : Nat} (hk : k < ns.length) (h : ns[k]? = some 0) : M.trim (ns.take (k + 1)) = M.trim (ns.take k) := by
  have e : ns.take (k + 1) = ns.take k ++ [0] := by
    rw [List.take_succ, h]
    rfl
  rw [e, M.trim_append_zero]
theorem ok_without_end {ns : List Int} (h : sqD μ d = some (iL ns)) (hs : ∀ ns, d ≠ .script ns) (hl : ns.length ≤ 2 ^ 20) (q : Q (.tup (iL (M.trim ns))) μ) : wp_without_end [d] μ Q X := by
  unfold wp_without_end
  simp only [wDef, initE, wSeq, wNext, wAsg, wAsgG, wDrop, wRet, wRetN, wIfS, wPar, wAug, wSetL, wBreak, wCont, wgN, wgNil, wgCons, wgTup, wiSeq, wiRng1, wiRng2, wiEnum, wFor, wLc, wYes, wV, wK, wOp, wUn, wTup, wLst, wCb, wTst, wNotT, wAndT, wOrT, wIf, wAnd, wOr, wNot, waNil, waCons, waStar, wCall, wMeth, wProp, wFld, wSetF, wMake, wCallI, wRev, wSl, woNone, woSome, wLm, wRz, wRzA, wFz, wCaught, wErrF, wDict0, wLrng, gt, st, sett, one, two, int1, atI0, atI1, atI2, atI3, atI4, ixN20, ixN21, List.map_cons, List.map_nil, List.cons_append, List.nil_append, List.append_nil, List.length_cons, List.length_nil, List.replicate_succ, List.replicate_zero, Nat.add_one_sub_one]
  refine ⟨trivial, ?_⟩
  simp only [len_sq h, sett, wWhile, iL_len]
  refine ⟨ns.length + 1, by omega, while_inv (fun k e μ' => e = [some d, some (.int (k : Int))] ∧ μ' = μ ∧ k ≤ ns.length ∧ M.trim (ns.take k) = M.trim ns) ?_ _ _ _ _ (Nat.lt_succ_self _) ⟨rfl, rfl, Nat.le_refl _, by rw [List.take_length]⟩⟩
  rintro k e μ' N ⟨rfl, rfl, hk, ht⟩ hN
  simp only [wDef, initE, wSeq, wNext, wAsg, wAsgG, wDrop, wRet, wRetN, wIfS, wPar, wAug, wSetL, wBreak, wCont, wgN, wgNil, wgCons, wgTup, wiSeq, wiRng1, wiRng2, wiEnum, wFor, wLc, wYes, wV, wK, wOp, wUn, wTup, wLst, wCb, wTst, wNotT, wAndT, wOrT, wIf, wAnd, wOr, wNot, waNil, waCons, waStar, wCall, wMeth, wProp, wFld, wSetF, wMake, wCallI, wRev, wSl, woNone, woSome, wLm, wRz, wRzA, wFz, wCaught, wErrF, wDict0, wLrng, gt, st, sett, one, two, int1, atI0, atI1, atI2, atI3, atI4, ixN20, ixN21, List.map_cons, List.map_nil, List.cons_append, List.nil_append, List.append_nil, List.length_cons, List.length_nil, List.replicate_succ, List.replicate_zero, Nat.add_one_sub_one, oGt, oInt2, true_and]
  by_cases h0 : k = 0
  · subst h0
    have e0 : M.trim ns = [] := by rw [← ht]; rfl
    rw [if_neg (by decide), if_neg (by decide)]
    refine sl_tup h hs ?_
    have e : cutD (iL ns) none (some ((0 : Nat) : Int)) = iL (M.trim ns) := by
      rw [e0]
      unfold cutD
      rw [HT.sIx_nat, HT.sIx_none]
      simp [iL]
    rw [e]
    exact q
  · have hk1 : (0 : Int) < (k : Int) := by omega
    rw [if_pos (decide_eq_true hk1)]
    simp only [oSub, oInt2, true_and, sett]
    have e1 : ((k : Int) - 1) = ((k - 1 : Nat) : Int) := by omega
    have hlt : k - 1 < (iL ns).length := by rw [iL_len]; omega
    have hlt2 : k - 1 < ns.length := by omega
    rw [e1, ix_sq h (atI_nat (iL ns) (k - 1) hlt)]
    have e2 : (iL ns)[k - 1] = D.int ns[k - 1] := by simp [iL]
    rw [e2]
    simp only [sett, oEq, eqU]
    by_cases hz : ns[k - 1] = 0
    · rw [if_pos (decide_eq_true hz)]
      refine hN (k - 1) _ _ (by omega) ⟨rfl, rfl, by omega, ?_⟩
      have h3 := trim_take hlt2 (by rw [List.getElem?_eq_getElem hlt2, hz])
      rw [show k - 1 + 1 = k by omega] at h3
      rw [← h3]
      exact ht
    · rw [if_neg (by simp [hz])]
      refine sl_tup h hs ?_
      have e : cutD (iL ns) none (some ((k : Nat) : Int)) = iL (M.trim ns) := by
        have et : M.trim (ns.take k) = ns.take k := M.trim_self _ fun hne => by
          rw [List.getLast_take]
          simp [hz, List.getElem?_eq_getElem hlt2]
        rw [← ht, et]
        unfold cutD
        rw [HT.sIx_nat, HT.sIx_none]
        simp [iL, List.map_take, Nat.min_eq_left hk]
      rw [e]
      exact q
/-! ### rules -/
def wp_Rule___init__ : WP := (wDef 2 4 (wSeq (wIfS (wNotT (wTst (wCall wp_is_list [] (waCons (wV 1) waNil)))) (wRzA "BadRule" "at" (wK .none)) wNext)
    (wSeq (wFor (wiEnum (waCons (wV 1) waNil)) (wgTup 2 (wgCons (wgN 2) (wgCons (wgN 3) wgNil))) (wIfS (wNotT (wTst (wCall wp_is_number [] (waCons (wV 3) waNil)))) (wRzA "BadRule" "at" (wV 2)) wNext))
    (wSetF "Rule" "own_numbers" (wV 0) (wCall wp_without_end [] (waCons (wV 1) waNil))))))
def wp_Rule_coefficients : WP := (wDef 1 1 (wRet (wFld "Rule" "own_numbers" (wV 0))))
def ruleD (ns : List Int) : D := .obj "Rule" ["own_numbers"] [.tup (iL ns)]
theorem sq_up {p : Addr} {nd : Nd} {ds : List D} (h : sqD μ d = some ds) (hp : μ p = Option.none) : sqD (up μ p nd) d = some ds := by
  cases d with
  | cell a =>
    have ne : a ≠ p := fun z => by
      subst z
      simp [sqD, hp, ndL] at h
    simp only [sqD] at h ⊢
    rw [up_ne ne]
    exact h
  | _ => exact h
theorem ty_sq {ds : List D} (h : sqD μ d = some ds) (hs : ∀ ns, d ≠ .script ns) : ∃ t, tyD μ d = some t ∧ listD μ d = true := by
  cases d with
  | cell a =>
    simp only [sqD] at h
    have e := ndL_some h
    refine ⟨.b "list", ?_, ?_⟩ <;> simp [listD, tyD, ndTy, e]
  | tup ds => exact ⟨_, rfl, rfl⟩
  | list ds => exact ⟨_, rfl, rfl⟩
  | script ns => exact absurd rfl (hs ns)
  | _ => simp [sqD] at h
theorem okS_sq {ds : List D} (h : sqD μ d = some ds) : okS d ds μ := by
  cases d <;> first | trivial | exact h
theorem enum_iL {ns : List Int} {i : Nat} {x : D} (h : (enumD 0 (iL ns))[i]? = some x) : ∃ n, ns[i]? = some n ∧ x = .tup [.int (i : Int), .int n] := by
  rw [enumD_get, iL_get] at h
  cases e : ns[i]? with
  | none => rw [e] at h; cases h
  | some n =>
    rw [e] at h
    cases h
    exact ⟨n, rfl, by simp⟩
theorem ok_Rule_init {p : Addr} {ns : List Int} (h : sqD μ d = some (iL ns)) (hs : ∀ ns, d ≠ .script ns) (hp : μ p = Option.none) (hl : ns.length ≤ 2 ^ 20)
    (q : Q .none (up μ p (.obj "Rule" ["own_numbers"] [.tup (iL (M.trim ns))]))) : wp_Rule___init__ [.cell p, d] (up μ p (.obj "Rule" [] [])) Q X := by
  have h1 := sq_up (nd := .obj "Rule" [] []) h hp
  obtain ⟨t, h2, h3⟩ := ty_sq h1 hs
  unfold wp_Rule___init__
  simp only [wDef, initE, wSeq, wNext, wAsg, wAsgG, wDrop, wRet, wRetN, wIfS, wPar, wAug, wSetL, wBreak, wCont, wgN, wgNil, wgCons, wgTup, wiSeq, wiRng1, wiRng2, wiEnum, wFor, wLc, wYes, wV, wK, wOp, wUn, wTup, wLst, wCb, wTst, wNotT, wAndT, wOrT, wIf, wAnd, wOr, wNot, waNil, waCons, waStar, wCall, wMeth, wProp, wFld, wSetF, wMake, wCallI, wRev, wSl, woNone, woSome, wLm, wRz, wRzA, wFz, wCaught, wErrF, wDict0, wLrng, gt, st, sett, one, two, int1, atI0, atI1, atI2, atI3, atI4, ixN20, ixN21, List.map_cons, List.map_nil, List.cons_append, List.nil_append, List.append_nil, List.length_cons, List.length_nil, List.replicate_succ, List.replicate_zero, Nat.add_one_sub_one]
  refine ⟨trivial, ok_is_list h2 ?_⟩
  rw [h3]
  simp only [Bool.not_true, if_neg Bool.false_ne_true, h1]
  refine ⟨by rw [enumD_len, iL_len]; omega, for_inv (fun i e μ' => μ' = up μ p (.obj "Rule" [] []) ∧ ∃ a b, e = [some (.cell p), some d, a, b]) ⟨rfl, _, _, rfl⟩ ?_ ?_⟩
  · rintro i x e μ' N hx ⟨rfl, a, b, rfl⟩ hN
    obtain ⟨n, hn, rfl⟩ := enum_iL hx
    refine ⟨okS_sq h1, ?_⟩
    simp only [wDef, initE, wSeq, wNext, wAsg, wAsgG, wDrop, wRet, wRetN, wIfS, wPar, wAug, wSetL, wBreak, wCont, wgN, wgNil, wgCons, wgTup, wiSeq, wiRng1, wiRng2, wiEnum, wFor, wLc, wYes, wV, wK, wOp, wUn, wTup, wLst, wCb, wTst, wNotT, wAndT, wOrT, wIf, wAnd, wOr, wNot, waNil, waCons, waStar, wCall, wMeth, wProp, wFld, wSetF, wMake, wCallI, wRev, wSl, woNone, woSome, wLm, wRz, wRzA, wFz, wCaught, wErrF, wDict0, wLrng, gt, st, sett, one, two, int1, atI0, atI1, atI2, atI3, atI4, ixN20, ixN21, List.map_cons, List.map_nil, List.cons_append, List.nil_append, List.append_nil, List.length_cons, List.length_nil, List.replicate_succ, List.replicate_zero, Nat.add_one_sub_one]
    refine ⟨trivial, ok_is_number (t := .b "int") rfl ?_⟩
    exact hN _ _ ⟨rfl, _, _, rfl⟩
  · rintro e μ' ⟨rfl, a, b, rfl⟩
    refine ⟨okS_sq h1, ?_⟩
    simp only [wDef, initE, wSeq, wNext, wAsg, wAsgG, wDrop, wRet, wRetN, wIfS, wPar, wAug, wSetL, wBreak, wCont, wgN, wgNil, wgCons, wgTup, wiSeq, wiRng1, wiRng2, wiEnum, wFor, wLc, wYes, wV, wK, wOp, wUn, wTup, wLst, wCb, wTst, wNotT, wAndT, wOrT, wIf, wAnd, wOr, wNot, waNil, waCons, waStar, wCall, wMeth, wProp, wFld, wSetF, wMake, wCallI, wRev, wSl, woNone, woSome, wLm, wRz, wRzA, wFz, wCaught, wErrF, wDict0, wLrng, gt, st, sett, one, two, int1, atI0, atI1, atI2, atI3, atI4, ixN20, ixN21, List.map_cons, List.map_nil, List.cons_append, List.nil_append, List.append_nil, List.length_cons, List.length_nil, List.replicate_succ, List.replicate_zero, Nat.add_one_sub_one]
    refine ok_without_end h1 hs hl ?_
    simp only [up_same, ndO, putN, up_up]
    exact ⟨trivial, by decide, q⟩
/-- Rule(..) -/
theorem mk_Rule {Q X : QD} {ns : List Int} (h : sqD μ d = some (iL ns)) (hs : ∀ ns, d ≠ .script ns) (hl : ns.length ≤ 2 ^ 20) (q : Q (ruleD (M.trim ns)) μ) (p : Addr) (hp : μ p = Option.none) :
    wp_Rule___init__ [.cell p, d] (up μ p (.obj "Rule" [] [])) (fun r μ2 => r = .none ∧ (match μ2 p with
      | some nd => Q nd.frz (del μ2 p)
      | Option.none => False)) X := by
  refine ok_Rule_init h hs hp hl ⟨rfl, ?_⟩
  rw [up_same]
  show Q _ (del (up μ p _) p)
  rw [del_up hp]
  exact q
end
end DL

set_option Elab.async false
set_option linter.all false
set_option maxRecDepth 100000
set_option maxHeartbeats 4000000
/-! P2: rules at numbers, terms, equality. -/
namespace DL
open PySem L2
section
variable {μ : Mu} {Q X : QD} {d : D}
/-- no number is greater -/
def HUGE : Nat := 2 ^ 16000000
theorem ok_Rule_coefficients {ns : List Int} (q : Q (.tup (iL ns)) μ) : wp_Rule_coefficients [ruleD ns] μ Q X := by
  unfold wp_Rule_coefficients
  simp only [wDef, initE, wSeq, wNext, wAsg, wAsgG, wDrop, wRet, wRetN, wIfS, wPar, wAug, wSetL, wBreak, wCont, wgN, wgNil, wgCons, wgTup, wiSeq, wiRng1, wiRng2, wiEnum, wFor, wLc, wYes, wV, wK, wOp, wUn, wTup, wLst, wCb, wTst, wNotT, wAndT, wOrT, wIf, wAnd, wOr, wNot, waNil, waCons, waStar, wCall, wMeth, wProp, wFld, wSetF, wMake, wCallI, wRev, wSl, woNone, woSome, wLm, wRz, wRzA, wFz, wCaught, wErrF, wDict0, wLrng, gt, st, sett, one, two, int1, atI0, atI1, atI2, atI3, atI4, ixN20, ixN21, List.map_cons, List.map_nil, List.cons_append, List.nil_append, List.append_nil, List.length_cons, List.length_nil, List.replicate_succ, List.replicate_zero, Nat.add_one_sub_one, ruleD, asObj, fldD, if_true, true_and]
  exact q
end
end DL

set_option Elab.async false
set_option linter.all false
set_option maxRecDepth 100000
set_option maxHeartbeats 4000000
/-! P3: the laws' own helpers: draws, rows. -/
namespace DL
open PySem L2
def wp_law_pick : WP := (wDef 2 2 (wRet (wOp false oIx (wV 1) (wCall wp_law_take [] (waCons (wV 0) (waCons (wCb false cbLen (waCons (wV 1) waNil)) waNil))))))
section
variable {μ : Mu} {Q X : QD} {d : D}
theorem log_le {m : Int} (h : m.natAbs < 2 ^ 9000) : m.natAbs.log2 < 9000 := by
  by_cases h0 : m.natAbs = 0
  · rw [h0]
    decide
  · exact (Nat.log2_lt h0).mpr h
theorem ok_take {m : Int} (h0 : 0 < m) (h1 : m.natAbs < 2 ^ 9000) (q : ∀ i : Int, 0 ≤ i → i < m → Q (.int i) μ) : wp_law_take [.state, .int m] μ Q X := ⟨⟨h0, log_le h1⟩, q⟩
theorem ok_pick {ds : List D} (h : sqD μ d = some ds) (h0 : ds ≠ []) (h1 : ds.length ≤ 2 ^ 60) (q : ∀ x ∈ ds, Q x μ) : wp_law_pick [.state, d] μ Q X := by
  unfold wp_law_pick
  simp only [wDef, initE, wSeq, wNext, wAsg, wAsgG, wDrop, wRet, wRetN, wIfS, wPar, wAug, wSetL, wBreak, wCont, wgN, wgNil, wgCons, wgTup, wiSeq, wiRng1, wiRng2, wiEnum, wFor, wLc, wYes, wV, wK, wOp, wUn, wTup, wLst, wCb, wTst, wNotT, wAndT, wOrT, wIf, wAnd, wOr, wNot, waNil, waCons, waStar, wCall, wMeth, wProp, wFld, wSetF, wMake, wCallI, wRev, wSl, woNone, woSome, wLm, wRz, wRzA, wFz, wCaught, wErrF, wDict0, wLrng, gt, st, sett, one, two, int1, atI0, atI1, atI2, atI3, atI4, ixN20, ixN21, List.map_cons, List.map_nil, List.cons_append, List.nil_append, List.append_nil, List.length_cons, List.length_nil, List.replicate_succ, List.replicate_zero, Nat.add_one_sub_one, true_and, len_sq h]
  have hp : 0 < ds.length := List.length_pos_iff.mpr h0
  refine ok_take (by omega) ?_ fun i h2 h3 => ?_
  · rw [Int.natAbs_natCast]
    exact Nat.lt_of_le_of_lt h1 (Nat.pow_lt_pow_right (by decide) (by decide))
  · obtain ⟨j, rfl⟩ := Int.eq_ofNat_of_zero_le h2
    have hj : j < ds.length := by omega
    rw [ix_sq h (atI_nat ds j hj)]
    exact q _ (List.getElem_mem hj)
end
end DL

set_option Elab.async false
set_option linter.all false
set_option maxRecDepth 100000
set_option maxHeartbeats 4000000
/-! P4: what repr shows. -/
namespace DL
open PySem L2
theorem sh_int {L k : Nat} {i : Int} (hi : i.natAbs < 10 ^ 500) (h : 501 ≤ L) : Sh L k (.int i) := by
  have e := int_text_length_le10 (k := 500) (by decide) hi
  refine ⟨?_, Nat.zero_le _, ?_, rfl⟩
  · rw [PyData.shown_int, PySem.ofString_length]
    exact Nat.le_trans e h
  · rw [PyData.showable]
    refine decide_eq_true ?_
    by_cases h0 : i.natAbs = 0
    · rw [h0]; decide
    · exact (Nat.log2_lt h0).mpr (Nat.lt_trans hi (by decide +kernel))
theorem shownAll_sum {L k : Nat} : ∀ {ps : List PyData}, (∀ p ∈ ps, Sh L k p) → ((PyData.shownAll ps).map (·.length)).sum ≤ L * ps.length ∧ PyData.depthAll ps ≤ k ∧ PyData.showableAll ps = true ∧ PyData.hasDictAll ps = false
  | [], _ => ⟨Nat.zero_le _, Nat.zero_le _, rfl, rfl⟩
  | p :: ps, h => by
    obtain ⟨h1, h2, h3, h4⟩ := shownAll_sum (ps := ps) fun q hq => h q (List.mem_cons_of_mem _ hq)
    have hp := h p List.mem_cons_self
    refine ⟨?_, ?_, ?_, ?_⟩
    · rw [PyData.shownAll_cons, List.map_cons, List.sum_cons, List.length_cons, Nat.mul_succ]
      have := hp.len
      omega
    · rw [PyData.depthAll]
      exact Nat.max_le.mpr ⟨hp.dep, h2⟩
    · rw [PyData.showableAll, hp.can, h3]
      rfl
    · rw [PyData.hasDictAll, hp.nod, h4]
      rfl
theorem sh_list {L k m : Nat} {ps : List PyData} (h : ∀ p ∈ ps, Sh L k p) (hm : ps.length ≤ m) : Sh ((L + 2) * m + 3) (k + 1) (.list ps) := by
  obtain ⟨h1, h2, h3, h4⟩ := shownAll_sum h
  refine ⟨?_, ?_, ?_, ?_⟩
  · have e := listText_len_le (PyData.shownAll ps)
    rw [PyData.shownAll_length] at e
    rw [PyData.shown]
    have : (L + 2) * ps.length ≤ (L + 2) * m := Nat.mul_le_mul_left _ hm
    rw [Nat.add_mul] at this
    omega
  · rw [PyData.depth]; omega
  · rw [PyData.showable]; exact h3
  · rw [PyData.hasDict]; exact h4
theorem Sh.up {L k L' k' : Nat} {p : PyData} (h : Sh L k p) (h1 : L ≤ L') (h2 : k ≤ k') : Sh L' k' p := ⟨Nat.le_trans h.len h1, Nat.le_trans h.dep h2, h.can, h.nod⟩
theorem sh_ints {L k : Nat} {ns : List Int} (h : ∀ n ∈ ns, n.natAbs < 10 ^ 500) (hL : 501 ≤ L) : ∀ p ∈ pds (ns.map D.int), Sh L k p := fun p hp => by
  rw [pds_ints] at hp
  obtain ⟨n, hn, rfl⟩ := List.mem_map.mp hp
  exact sh_int (h n hn) hL
section
variable {μ : Mu} {Q X : QD} {QQ : QR} {d : D}
end
end DL

set_option Elab.async false
set_option linter.all false
set_option maxRecDepth 100000
set_option maxHeartbeats 4000000
/-! P5: the laws' own steps. -/
namespace DL
open PySem L2
inductive Stp where
  | x (ns : List Int) | y (ns : List Int) | move (s t : Int) | turn (a b c d : Int)
deriving DecidableEq
/-- as the laws write it -/
def Stp.b : Stp → D
  | .x ns => .tup [.str "x", .list (iL ns)]
  | .y ns => .tup [.str "y", .list (iL ns)]
  | .move s t => .tup [.str "move", .int s, .int t]
  | .turn a b c d => .tup [.str "turn", .int a, .int b, .int c, .int d]
/-- as the package has it -/
def Stp.p : Stp → D
  | .x ns => .tup [.str "x", ruleD ns]
  | .y ns => .tup [.str "y", ruleD ns]
  | .move s t => .tup [.str "move", .int s, .int t]
  | .turn a b c d => .tup [.str "turn", .int a, .int b, .int c, .int d]
def det1 (a b c d : Int) : Prop := a * d - b * c = 1 ∨ a * d - b * c = -1
def Stp.Ok (B : Nat) : Stp → Prop
  | .x ns => M.trim ns = ns ∧ ns.length ≤ 7 ∧ ∀ n ∈ ns, n.natAbs ≤ B
  | .y ns => M.trim ns = ns ∧ ns.length ≤ 7 ∧ ∀ n ∈ ns, n.natAbs ≤ B
  | .move s t => s.natAbs ≤ B ∧ t.natAbs ≤ B
  | .turn a b c d => det1 a b c d ∧ a.natAbs ≤ B ∧ b.natAbs ≤ B ∧ c.natAbs ≤ B ∧ d.natAbs ≤ B
theorem Stp.Ok.up {B B' : Nat} (h : B ≤ B') : ∀ {s : Stp}, s.Ok B → s.Ok B'
  | .x _, ⟨h1, h2, h3⟩ => ⟨h1, h2, fun n hn => Nat.le_trans (h3 n hn) h⟩
  | .y _, ⟨h1, h2, h3⟩ => ⟨h1, h2, fun n hn => Nat.le_trans (h3 n hn) h⟩
  | .move _ _, ⟨h1, h2⟩ => ⟨Nat.le_trans h1 h, Nat.le_trans h2 h⟩
  | .turn _ _ _ _, ⟨h0, h1, h2, h3, h4⟩ => ⟨h0, Nat.le_trans h1 h, Nat.le_trans h2 h, Nat.le_trans h3 h, Nat.le_trans h4 h⟩
section
variable {μ : Mu} {Q X : QD} {d : D} {B : Nat}
end
end DL

set_option Elab.async false
set_option linter.all false
set_option maxRecDepth 100000
set_option maxHeartbeats 4000000
/-! P6: steps drawn by the laws. -/
namespace DL
open PySem L2
section
variable {μ : Mu} {Q X : QD} {d : D} {B : Nat}
def Stp.len : Stp → Nat
  | .x ns => ns.length
  | .y ns => ns.length
  | _ => 0
end
end DL

set_option Elab.async false
set_option linter.all false
set_option maxRecDepth 100000
set_option maxHeartbeats 4000000
/-! P7: is_step, of any value. -/
namespace DL
open PySem L2
/-- the kind of a thing that is no cell -/
def tyF (d : D) : Option TyD := tyD (fun _ => Option.none) d
theorem tyF_tyD {d : D} {t : TyD} (h : tyF d = some t) (μ : Mu) : tyD μ d = some t := by
  cases d <;> first | exact h | (simp [tyF, tyD, ndTy] at h; done)
def isRuleB (d : D) : Bool := match tyF d with
  | some (.o n) => decide (n = "Rule")
  | _ => false
def detB : List D → Bool
  | [.int a, .int b, .int c, .int d] => decide (a * d - b * c = 1) || decide (a * d - b * c = -1)
  | _ => false
def oneRule : List D → Bool
  | [r] => isRuleB r
  | _ => false
/-- whether a value is a step -/
def stepB : D → Bool
  | .tup (.str w :: rest) => if w = "x" ∨ w = "y" then oneRule rest
    else rest.all numD && (if w = "move" then decide (rest.length = 2) else decide (w = "turn") && detB rest)
  | _ => false
/-- a value of a known kind, its numbers not too great -/
structure Good (d : D) : Prop where
  ty : ∃ t, tyF d = some t
  len : ∀ ds, d = .tup ds → ds.length ≤ 1000
  items : ∀ ds, d = .tup ds → ∀ x ∈ ds, (∃ t, tyF x = some t) ∧ ∀ i, x = .int i → i.natAbs ≤ HUGE
section
variable {μ : Mu} {Q X : QD} {d : D} {B : Nat}
end
end DL

set_option Elab.async false
set_option linter.all false
set_option maxRecDepth 100000
set_option maxHeartbeats 4000000
/-! P8: programs made, told, compared. -/
namespace DL
open PySem L2
section
variable {μ : Mu} {Q X : QD} {d : D} {B : Nat}
theorem enum_get {ds : List D} {i : Nat} {x : D} (h : (enumD 0 ds)[i]? = some x) : ∃ y, ds[i]? = some y ∧ x = .tup [.int (i : Int), y] := by
  rw [enumD_get] at h
  cases e : ds[i]? with
  | none => rw [e] at h; cases h
  | some n =>
    rw [e] at h
    cases h
    exact ⟨n, rfl, by simp⟩
theorem mkRule {Q X : QD} {ns : List Int} (h : sqD μ d = some (iL ns)) (hs : ∀ ns, d ≠ .script ns) (hl : ns.length ≤ 2 ^ 20) (q : Q (ruleD (M.trim ns)) μ) (p : Addr) (hp : μ p = Option.none) :
    wp_Rule___init__ [.cell p, d] (up μ p (.obj "Rule" [] [])) (mkQ false Q p) X := ok_Rule_init h hs hp hl (mkQ_f hp q)
end
end DL

set_option Elab.async false
set_option linter.all false
set_option maxRecDepth 100000
set_option maxHeartbeats 4000000
/-! P9: the laws' own ways there and back. -/
namespace DL
open PySem L2
section
variable {μ : Mu} {Q X : QD} {d : D} {B : Nat}
/-! ### the laws' own ways there and back -/
end
end DL

set_option Elab.async false
set_option linter.all false
set_option maxRecDepth 100000
set_option maxHeartbeats 4000000
/-! P10: == of programs and of steps. -/
namespace DL
open PySem L2
section
variable {μ : Mu} {Q X : QD} {d : D} {B : Nat}
end
/-! ### == of the laws' own steps -/
end DL

set_option Elab.async false
set_option linter.all false
set_option maxRecDepth 100000
set_option maxHeartbeats 4000000
/-! P11: odd values, slices, padded steps. -/
namespace DL
open PySem L2
def wp_law_odd : WP := (wDef 1 2 (wSeq (wAsg 1 (wLst false (waCons (wK .none) (waCons (wK (.bool true)) (waCons (wK (.bool false)) (waCons (wK (.int 0)) (waCons (wK (.int 1)) (waCons (wUn false oNeg (wK (.int 1))) (waCons (wK (.int 5)) (waCons (wOp false oPow (wK (.int 10)) (wK (.int 60))) (waCons (wK (.str "")) (waCons (wK (.str "x")) (waCons (wK (.str "turn")) (waCons (wTup waNil) (waCons (wLst false waNil) (waCons (wDict0 false) (waCons (wTup (waCons (wK (.str "x")) waNil)) (waCons (wTup (waCons (wK (.str "x")) (waCons (wK (.int 1)) waNil))) (waCons (wTup (waCons (wK (.str "move")) (waCons (wK (.int 1)) waNil))) waNil)))))))))))))))))))
    (wSeq (wAsg 1 (wOp false oAdd (wV 1) (wLst false (waCons (wTup (waCons (wK (.str "turn")) (waCons (wK (.int 2)) (waCons (wK (.int 0)) (waCons (wK (.int 0)) (waCons (wK (.int 1)) waNil)))))) (waCons (wTup (waCons (wK (.str "undo")) waNil)) (waCons (wLst false (waCons (wTup (waCons (wK (.str "x")) (waCons (wK (.int 0)) waNil))) waNil)) (waCons (wDisp1 false (wK (.str "a")) (wK (.int 1))) (waCons (wDispT false [Sum.inl 0, Sum.inl 0] (wK (.int 1))) (waCons (wTup (waCons (wK (.int 0)) (waCons (wK (.int 1)) waNil))) (waCons (wTup (waCons (wK (.int 1)) (waCons (wK (.bool true)) waNil))) (waCons (wMake false "Rule" wp_Rule___init__ [] (waCons (wLst false (waCons (wK (.int 1)) waNil)) waNil)) waNil)))))))))))
    (wRet (wCall wp_law_pick [] (waCons (wV 0) (waCons (wV 1) waNil)))))))
def oddL : List D := [.none, .bool true, .bool false, .int 0, .int 1, .int (-1), .int 5, .int (10 ^ (60 : Int).toNat), .str "", .str "x", .str "turn", .tup [], .list [], .dk [] [], .tup [.str "x"], .tup [.str "x", .int 1], .tup [.str "move", .int 1],
  .tup [.str "turn", .int 2, .int 0, .int 0, .int 1], .tup [.str "undo"], .list [.tup [.str "x", .int 0]], .dk [Sum.inr "a"] [.int 1], .dt [[Sum.inl 0, Sum.inl 0]] [.int 1], .tup [.int 0, .int 1], .tup [.int 1, .bool true], ruleD [1]]
section
variable {μ : Mu} {Q X : QD} {d : D} {B : Nat}
theorem pow1060 : CPowW 10 60 := ⟨by decide, by decide +kernel⟩
theorem ok_law_odd (q : ∀ x ∈ oddL, Q x μ) : wp_law_odd [.state] μ Q X := by
  unfold wp_law_odd
  simp only [Jbu, initE, Jct, Jcg, Jbk, Jbl, Jbz, Jco, Jcp, Jc5, Jcm, Jbm, Jcv, Jbn, Jbt, Jd7, Jd8, Jd6, Jd9, Jdd, Jdb, Jdc, Jda, Jc2, Jc8, Jd1, Jd0, Jc7, Jcj, Jcz, Jcy, Jcb, Jbr, Jcx, Jci, Jbj, Jcl, Jc4, Jbi, Jck, Jch, Jd3, Jd2, Jd5, Jbo, Jcd, Jcn, Jc1, Jcu, Jcc, Jbp, Jcq, Jcw, Jde, Jdf, Jc9, Jcr, Jcs, Jc3, Jbq, Jc0, Jbw, Jca, gt, st, Jbb, Jb9, Jba, Jb7, Jbh, Ja5, atI0, atI1, atI2, atI3, atI4, ixN20, ixN21, List.map_cons, List.map_nil, List.cons_append, List.nil_append, List.append_nil, List.length_cons, List.length_nil, List.replicate_succ, List.replicate_zero, Nat.add_one_sub_one, Jd4, Jbs, Jbx, Jby, Jbv, Jae, Jag, Jah, Jaf, Jb6, Jav, Jaw, Jak, Jau, Jb3, Jat, Jas, Jam, Jal, Jb1, Jai, Jaj, Jaz, Jb0, Jap, Jb2, Jaq, Jar, Jan, Jao, Jb5, Jb4, Ja7, Ja8, Jac, Jab, Ja0, Ja9, Jaa, Jbf, Jbg, Ja6, Jad, Jbc, Jbe, Jbd, Jb8, Ja2, Ja1, Ja4, Ja3]
  refine ⟨trivial, pow1060, by decide, by decide, by decide, by decide, by decide, by decide, by decide, by decide, by decide, by decide, by decide, by decide, by decide, ?_⟩
  intro p hp
  refine mkRule (ns := [1]) rfl (fun _ z => by cases z) (by decide) ⟨by decide, by decide, ?_⟩ p hp
  exact ok_pick rfl (fun z => by cases z) (by simp) fun x hx => q x hx
/-- a value that is no step, of a known kind -/
structure NoStep (d : D) : Prop where
  good : Good d
  no : stepB d = false
end
end DL

set_option Elab.async false
set_option linter.all false
set_option maxRecDepth 100000
set_option maxHeartbeats 4000000
/-! A29: dicts with tuple keys: {}, d[k], d.get(k, x), d[k] = v. -/
namespace DL
open PySem PyProof.Rows L2
abbrev TK := List Key
section
variable {c : Ctx} {S : Option SA} {F : Hp} {n : Nat} {I H : Hp} {μ : Mu}
end
/-! ### wishes -/
section
variable {X : Cx} {c : Ctx} {W : WX} {k ka kb kc ko kf : Nat} {a b d o v : Expr} {wa wb wd wo wv wk : WE} {m : Bool} {pos pos' apos cpos : Pos}
end
end DL

set_option Elab.async false
set_option linter.all false
set_option maxRecDepth 100000
set_option maxHeartbeats 4000000
/-! A30: dicts with tuple keys are walked: by keys, by items. -/
namespace L2
open PySem PySem.Spec PyProof.Rows
section
variable {P : Program} {w : World} {K : PySem.W.Frag} {tg : Expr} {d : Addr} {o : Obj} {es : Array DictEntry} {ep : Nat}
end
section
variable {X : Cx} {tg e : Expr} {td : TE} {apos cpos : Pos}
end
end L2
namespace DL
open PySem PyProof.Rows L2
section
variable {c : Ctx} {S : Option SA} {F : Hp} {n : Nat} {I H : Hp} {μ : Mu} {a : Addr} {u : HO}
end
section
variable {X : Cx} {c : Ctx} {W : WX} {k : Nat} {a tg : Expr} {wa : WE} {apos cpos : Pos}
end
end DL

set_option Elab.async false
set_option linter.all false
set_option maxRecDepth 100000
set_option maxHeartbeats 4000000
/-! A31: try, of which no exception is asked; names of whole numbers and texts. -/
namespace DL
open PySem PyProof.Rows L2
section
variable {X : Cx} {c : Ctx} {W : WX} {k : Nat} {x s : Str} {i : Int} {pos : Pos}
end
section
variable {X : Cx} {c : Ctx} {W : WX} {k : Nat} {a b d tg : Expr} {wr : WA} {pos : Pos}
end
end DL

set_option Elab.async false
set_option linter.all false
set_option maxRecDepth 100000
set_option maxHeartbeats 4000000
/-! A32: sorted(d), the keys pairs of whole numbers. -/
namespace L2
open PySem PySem.Spec PyProof.Rows
section
variable {prog : Program} {w : World} {A : Around} {E : Value → Shared → Prop} {s : Shared} {d : Addr} {o : Obj} {es : Array DictEntry} {ep : Nat}
end
section
variable {X : Cx}
end
end L2
namespace DL
open PySem PyProof.Rows L2
section
variable {X : Cx} {c : Ctx} {S : Option SA} {F : Hp} {n : Nat} {I H : Hp} {μ : Mu}
end
end DL

set_option Elab.async false
set_option linter.all false
set_option maxRecDepth 100000
set_option maxHeartbeats 4000000
/-! A33: {k: v for .. in .. if ..}, the keys tuples. -/
namespace L2
open PySem PySem.Spec PyProof.Rows
section
variable {X : Cx}
end
end L2
namespace DL
open PySem PyProof.Rows L2
section
variable {X : Cx} {c : Ctx} {W : WX} {k ka kb kc kt kk kv : Nat} {m : Bool} {js : List Nat} {g : WG} {wi : WI} {wt : WT} {wa wb : WE} {vs : List Nat}
end
end DL

set_option Elab.async false
set_option linter.all false
set_option maxRecDepth 100000
set_option maxHeartbeats 4000000
/-! A34: dict(d), dict(list of pairs), the keys pairs of small whole numbers. -/
namespace L2
open PySem PySem.Spec PyProof.Rows
/-! ### the hashes of small pairs are apart -/
def hM : Nat := 2 ^ 64
end L2
namespace L2
open PySem PySem.Spec PyProof.Rows
end L2

set_option Elab.async false
set_option linter.all false
set_option maxRecDepth 100000
set_option maxHeartbeats 4000000
/-! A35: dict(d), dict(list of pairs), the keys tuples. -/
namespace L2
open PySem PySem.Spec PyProof.Rows
section
variable {X : Cx}
end
end L2

set_option Elab.async false
set_option linter.all false
set_option maxRecDepth 100000
set_option maxHeartbeats 4000000
/-! A36: max(.., default=..), sum, max of a list; dict(..). -/
namespace L2
open PySem PySem.Spec PyProof.Rows
section
variable {prog : Program} {w : World} {A : Around} {E : Value → Shared → Prop} {s : Shared} {l : Addr} {its : List Value} {ns : List Int}
end
section
variable {X : Cx}
end
end L2
namespace DL
open PySem PyProof.Rows L2
section
variable {X : Cx} {c : Ctx} {W : WX} {ka kb : Nat} {wa wb : WA}
end
end DL

set_option Elab.async false
set_option linter.all false
set_option maxRecDepth 100000
set_option maxHeartbeats 4000000
/-! A37: == of dicts with tuple keys. -/
namespace L2
open PySem PySem.Spec PyProof.Rows
section
variable {prog : Program} {w : World} {K : Type} [DecidableEq K] {kind : HeapKind prog w K} {A : Around} {Er : Value → Shared → Prop} {s : Shared} {d1 d2 : Addr} {l1 l2 : List (K × Addr × Value)} {eqv : K × Addr × Value → Bool}
/-- a dict's object, its entries, that they are l -/
structure Laid (kind : HeapKind prog w K) (h : Heap) (d : Addr) (l : List (K × Addr × Value)) (o : Obj) (es : Array DictEntry) (ep : Nat) : Prop where
  at_ : h.get? d = some o
  dat : o.data = .dict es ep
  ents : es.toList = l.map (entryOfKey kind)
  keys : ∀ x ∈ l, kind.is h x.1 x.2.1
  nodup : (l.map (·.1)).Nodup
end
/-! ### by values: whole numbers -/
section
variable {X : Cx}
end
end L2

set_option Elab.async false
set_option linter.all false
set_option maxRecDepth 100000
set_option maxHeartbeats 4000000
/-! A38: == and != of dicts with tuple keys and whole numbers, as wishes. -/
namespace DL
open PySem PyProof.Rows L2
section
variable {X : Cx} {c : Ctx} {W : WX}
end
end DL

set_option Elab.async false
set_option linter.all false
set_option maxRecDepth 100000
set_option maxHeartbeats 4000000
/-! A39: repr of lists that hold dicts with tuple keys. -/
namespace PySem
section
variable {prog : Program} {w : World} {h₀ : Heap} {A : Around} {E : Value → Shared → Prop} {s : Shared}
/-- a value reads as a datum, and is told as it is -/
def Told (prog : Program) (w : World) (h₀ : Heap) (v : Value) (d : PyData) : Prop := (∃ as, Reads h₀ v d as) ∧ ∃ bs, ReadAtMost h₀ d.depth bs ∧ ReprK prog w bs h₀ d.depth v d.shown
theorem Told.plain {v : Value} {d : PyData} {as : List Addr} (dg : DigOk h₀) (r : Reads h₀ v d as) (big : d.big = true) (len : d.shown.length ≤ sizeLine) : Told prog w h₀ v d := ⟨⟨as, r⟩, ReprK.of_readsB dg r big len⟩
theorem Told.dict {a : Addr} {o : Obj} {es : Array DictEntry} {n : Nat} {kvs : List (PyData × PyData)} {as bs : List Addr} (dg : DigOk h₀) (h1 : h₀.get? a = some o) (h2 : o.cls = .type "dict") (h3 : o.data = .dict es n) (sys : (a == sysModules) = false) (h4 : ReadsAll h₀ (es.toList.map (·.key)) (kvs.map (·.1)) as) (h5 : ReadsAll h₀ (es.toList.map (·.val)) (kvs.map (·.2)) bs)
    (b1 : PyData.bigAll (kvs.map (·.1)) = true) (b2 : PyData.bigAll (kvs.map (·.2)) = true) (l1 : ∀ t ∈ PyData.shownAll (kvs.map (·.1)), t.length ≤ sizeLine) (l2 : ∀ t ∈ PyData.shownAll (kvs.map (·.2)), t.length ≤ sizeLine) : Told prog w h₀ (.ref a) (.dict kvs) := by
  obtain ⟨c1, m1, k1⟩ := ReprAllK.of_readsAllB (prog := prog) (w := w) dg h4 b1 l1
  obtain ⟨c2, m2, k2⟩ := ReprAllK.of_readsAllB (prog := prog) (w := w) dg h5 b2 l2
  have r : Reads h₀ (.ref a) (.dict kvs) _ := Reads.dict h1 h2 h3 h4 h5
  have dk := PyData.depthAll_keys_le kvs
  have dv := PyData.depthAll_vals_le kvs
  have deep : ReadAtMost h₀ (PyData.depthKv kvs) (c1 ++ c2) := (m1.mono dk).append (m2.mono dv)
  have out : a ∉ c1 ++ c2 := not_mem_of_deeper r (by simp only [PyData.depth]; omega) deep
  refine ⟨⟨_, r⟩, a :: (c1 ++ c2), deep.cons r (by simp only [PyData.depth]; omega), ?_⟩
  have q1 := k1.more_le (as' := c1 ++ c2) (fun b z => List.mem_append.mpr (.inl z)) dk
  have q2 := k2.more_le (as' := c1 ++ c2) (fun b z => List.mem_append.mpr (.inr z)) dv
  have key := ReprK.dict h1 h2 h3 sys out (ReprEntriesK.of_two es.toList _ _ q1 q2)
  simp only [PyData.depth, PyData.shown, PyData.shownKv_eq]
  exact key
/-- all items told, together -/
theorem told_all : ∀ {vs : List Value} {ds : List PyData}, Paired (Told prog w h₀) vs ds → ∃ as bs, ReadsAll h₀ vs ds as ∧ ReadAtMost h₀ (PyData.depthAll ds) bs ∧ ReprAllK prog w bs h₀ (PyData.depthAll ds) vs (PyData.shownAll ds)
  | _, _, .nil => ⟨[], [], .nil, (fun _ z => nomatch z), .nil⟩
  | v :: vs, d :: ds, .cons ⟨⟨a1, r1⟩, b1, m1, k1⟩ t => by
    obtain ⟨a2, b2, r2, m2, k2⟩ := told_all t
    have e1 : d.depth ≤ PyData.depthAll (d :: ds) := by simp only [PyData.depthAll]; exact Nat.le_max_left _ _
    have e2 : PyData.depthAll ds ≤ PyData.depthAll (d :: ds) := by simp only [PyData.depthAll]; exact Nat.le_max_right _ _
    refine ⟨_, b1 ++ b2, .cons r1 r2, (m1.mono e1).append (m2.mono e2), ?_⟩
    rw [PyData.shownAll]
    exact .cons ((k1.more fun b z => List.mem_append.mpr (.inl z)).level_le e1) (k2.more_le (fun b z => List.mem_append.mpr (.inr z)) e2)
theorem repr_told {a : Addr} {o : Obj} {vs : List Value} {n : Nat} {ds : List PyData} {Q : Value → Shared → Prop} (h1 : s.heap.get? a = some o) (h2 : o.cls = .type "list") (h3 : o.data = .seq vs.toArray n) (told : Paired (Told prog w s.heap) vs ds) (some1 : vs ≠ []) (gd : A.guards = some []) (room : A.units + (PyData.depthAll ds + 2) < cLine) (len : (PyData.list ds).shown.length ≤ sizeLine)
    (next : ∀ h' u tk, (∀ b o, s.heap.get? b = some o → h'.get? b = some o) → Q (.str (PyData.list ds).shown u) { s with heap := h', toks := tk }) : wpAny (model prog w) A (call (.builtin "repr") [.ref a]) Q E s := by
  obtain ⟨as, bs, r, m, k⟩ := told_all told
  have top : Reads s.heap (.ref a) (.list ds) _ := Reads.list h1 h2 h3 r
  have out : a ∉ bs := not_mem_of_deeper top (by simp only [PyData.depth]; omega) m
  cases vs with
  | nil => exact absurd rfl some1
  | cons x l =>
    simp only [PyData.shown] at next len
    exact call_repr_slot (by omega) ⟨o, h1, h2⟩ F.slot_list_repr.toG (call_list_reprK (s := s) (h₀ := s.heap) h1 h2 h3 out (by simpa using k.length_eq) (fun i y e => k.item i y (by simpa using e)) gd (fun b _ => Clear.nil b) (by show A.units + 1 + (PyData.depthAll ds + 1) < cLine; omega) (fun _ _ z => z) (fun h' u tk hk => ⟨_, _, rfl, next h' u tk hk⟩) len)
end
end PySem

set_option Elab.async false
set_option linter.all false
set_option maxRecDepth 100000
set_option maxHeartbeats 4000000
/-! A40: repr([..]) of lists that hold dicts of whole numbers with tuple keys, as a wish. -/
namespace DL
open PySem PyProof.Rows L2
def kp : Key → PyData
  | .inl i => .int i
  | .inr x => .str x
def kps (k : TK) : PyData := .tuple (k.map kp)
/-- a datum, dicts with tuple keys too -/
def pdT : D → PyData
  | .dt ks ds => .dict (List.zip (ks.map kps) (pds ds))
  | d => pd d
def tellT : D → Bool
  | .dt ks ds => PyData.bigAll (ks.map kps) && (PyData.bigAll (pds ds) && plainsD ds)
  | d => plainD d && (pd d).big
/-- an item of such a list -/
def Itm (K : PySem.W.Frag) (H : Hp) (v : V) (p : PyData) : Prop := (Dp K H v p ∧ p.big = true) ∨ ∃ (d : Addr) (ks : List TK) (xs : List V) (ps : List PyData), v = .ref d ∧ Rd H d (.dT (List.zip ks xs)) ∧ ks.length = xs.length ∧ DpAll K H xs ps ∧ p = .dict (List.zip (ks.map kps) ps) ∧ PyData.bigAll (ks.map kps) = true ∧ PyData.bigAll ps = true
theorem dpAll_len {K : PySem.W.Frag} {H : Hp} : ∀ {xs : List V} {ps : List PyData}, DpAll K H xs ps → xs.length = ps.length
  | _, _, .nil => rfl
  | _, _, .cons _ t => by rw [List.length_cons, List.length_cons, dpAll_len t]
theorem dp_key {K : PySem.W.Frag} {H : Hp} : ∀ k : TK, DpAll K H (k.map kV) (k.map kp)
  | [] => .nil
  | .inl i :: k => .cons (.int i) (dp_key k)
  | .inr x :: k => .cons (.str x) (dp_key k)
section
variable {X : Cx} {pins : List (Addr × Obj)} {σ : L2.St} {H : Hp} {s : Shared}
theorem reads_keys (I : Inv X pins σ H s) : ∀ {kvs : List (TK × V)} {ms : List (TK × Addr × Value)}, KT H kvs ms → ∃ as, ReadsAll s.heap (ms.map fun m => Value.ref m.2.1) (kvs.map fun p => kps p.1) as
  | _, _, .nil => ⟨_, .nil⟩
  | _, _, .cons h t => by
    obtain ⟨as, r⟩ := reads_keys I t
    obtain ⟨bs, r1⟩ := Dp.reads I (kps _) (.ref _) (.ref _) (Dp.tup (K := X.K) (SqT.of h.2.1) (dp_key _)) rfl
    exact ⟨_, .cons r1 r⟩
theorem vals_kt : ∀ {kvs : List (TK × V)} {ms : List (TK × Addr × Value)}, KT H kvs ms → Vals (kvs.map (·.2)) (ms.map (·.2.2))
  | _, _, .nil => .nil
  | _, _, .cons h t => .cons h.2.2 (vals_kt t)
theorem told_item (I : Inv X pins σ H s) (dg : DigOk s.heap) {v : V} {u : Value} {p : PyData} (r : RelV v u) (h : Itm X.K H v p) (len : p.shown.length ≤ sizeLine) : Told X.prog X.w s.heap u p := by
  rcases h with ⟨h, big⟩ | ⟨d, ks, xs, ps, rfl, hd, l, hx, rfl, b1, b2⟩
  · obtain ⟨as, rd⟩ := Dp.reads I p v u h r
    exact .plain dg rd big len
  · obtain rfl : u = Value.ref d := r
    obtain ⟨z, sys, ms, rel, o, es, ep, ho, hc, hdt, he, _⟩ := (show ObjOk X.prog X.w H s.heap d (.dT (List.zip ks xs)) from hd.ok I.hok)
    have lp := dpAll_len hx
    have e1 : es.toList.map (·.key) = ms.map fun m => Value.ref m.2.1 := by rw [he, List.map_map]; rfl
    have e2 : es.toList.map (·.val) = ms.map (·.2.2) := by rw [he, List.map_map]; rfl
    obtain ⟨as, rk⟩ := reads_keys I rel
    have hv := vals_kt rel
    rw [List.map_snd_zip (by omega)] at hv
    obtain ⟨bs, rv⟩ := Dp.readsAll I ps _ _ hx hv
    have f1 : (List.zip (ks.map kps) ps).map (·.1) = ks.map kps := List.map_fst_zip (by rw [List.length_map]; omega)
    have f2 : (List.zip (ks.map kps) ps).map (·.2) = ps := List.map_snd_zip (by rw [List.length_map]; omega)
    have f3 : (List.zip ks xs).map (fun p => kps p.1) = ks.map kps := by
      have := congrArg (List.map kps) (List.map_fst_zip (l₁ := ks) (l₂ := xs) (by omega))
      rw [List.map_map] at this
      exact this
    rw [f3, ← e1] at rk
    rw [← e2] at rv
    have len2 : (dictText (PyData.shownKv (List.zip (ks.map kps) ps))).length ≤ sizeLine := by simpa only [PyData.shown] using len
    refine .dict dg ho hc.1 hdt sys (by rw [f1]; exact rk) (by rw [f2]; exact rv) (by rw [f1]; exact b1) (by rw [f2]; exact b2) (fun t ht => ?_) (fun t ht => ?_)
    · obtain ⟨q, hq, hl⟩ := PyData.shownKv_key_le _ t ht
      exact Nat.le_trans hl (Nat.le_trans (dictText_mem_le hq) len2)
    · obtain ⟨q, hq, hl⟩ := PyData.shownKv_val_le _ t ht
      exact Nat.le_trans hl (Nat.le_trans (dictText_mem_le hq) len2)
theorem shown_mem {ps : List PyData} {p : PyData} (h : p ∈ ps) : p.shown ∈ PyData.shownAll ps := by
  induction ps with
  | nil => cases h
  | cons q ps ih =>
    rw [PyData.shownAll]
    rcases List.mem_cons.mp h with rfl | h
    · exact List.mem_cons_self
    · exact List.mem_cons_of_mem _ (ih h)
end
section
variable {X : Cx} {c : Ctx}
theorem tell_plain {d : D} (h : ∀ ks ds, d ≠ .dt ks ds) : tellT d = (plainD d && (pd d).big) ∧ pdT d = pd d := by
  cases d <;> first
    | exact ⟨rfl, rfl⟩
    | exact absurd rfl (h _ _)
theorem itm_rep {S : Option SA} {F : Hp} {n : Nat} {I H : Hp} {μ : Mu} (w : Wd c S F n I μ H) {d : D} {v : V} (r : Rep c S I d v) (h : tellT d = true) : Itm c.K H v (pdT d) := by
  by_cases z : ∃ ks ds, d = .dt ks ds
  · obtain ⟨ks, ds, rfl⟩ := z
    cases r with
    | @dt a _ _ xs g r l =>
      have h : (PyData.bigAll (ks.map kps) && (PyData.bigAll (pds ds) && plainsD ds)) = true := h
      rw [Bool.and_eq_true, Bool.and_eq_true] at h
      have hd : Rd H a (.dT (List.zip ks xs)) := by
        rcases w.i _ _ g with q | ⟨_, ob, q⟩
        · exact .inl q
        · exact .inr ⟨ob, q⟩
      exact .inr ⟨a, ks, xs, pds ds, rfl, hd, l, reps_dp w r h.2.2, rfl, h.1, h.2.1⟩
  · obtain ⟨e1, e2⟩ := tell_plain fun ks ds q => z ⟨ks, ds, q⟩
    rw [e1, Bool.and_eq_true] at h
    rw [e2]
    exact .inl ⟨rep_dp w r h.1, h.2⟩
end
end DL

set_option Elab.async false
set_option linter.all false
set_option maxRecDepth 100000
set_option maxHeartbeats 4000000
/-! A63: repr of tuples that hold dicts with tuple keys. -/
namespace PySem
section
variable {prog : Program} {w : World} {h₀ : Heap} {A : Around} {E : Value → Shared → Prop} {s : Shared}
theorem repr_toldTup {a : Addr} {o : Obj} {vs : List Value} {n : Nat} {ds : List PyData} {Q : Value → Shared → Prop} (h1 : s.heap.get? a = some o) (h2 : o.cls = .type "tuple") (h3 : o.data = .seq vs.toArray n) (told : Paired (Told prog w s.heap) vs ds) (gd : A.guards = some []) (room : A.units + (PyData.depthAll ds + 2) < cLine) (len : (PyData.tuple ds).shown.length ≤ sizeLine)
    (next : ∀ h' u tk, (∀ b o, s.heap.get? b = some o → h'.get? b = some o) → Q (.str (PyData.tuple ds).shown u) { s with heap := h', toks := tk }) : wpAny (model prog w) A (call (.builtin "repr") [.ref a]) Q E s := by
  obtain ⟨as, bs, r, m, k⟩ := told_all told
  have top : Reads s.heap (.ref a) (.tuple ds) _ := Reads.tuple h1 h2 h3 r
  have out : a ∉ bs := not_mem_of_deeper top (by simp only [PyData.depth]; omega) m
  simp only [PyData.shown] at next len
  exact call_repr_slot (by omega) ⟨o, h1, h2⟩ F.slot_tuple_repr (call_tuple_reprK (s := s) (h₀ := s.heap) h1 h2 h3 out (by simpa using k) gd (fun b _ => Clear.nil b) (by show A.units + 1 + (PyData.depthAll ds + 1) < cLine; omega) (fun _ _ z => z) (fun h' u tk hk => ⟨_, _, rfl, next h' u tk hk⟩) len)
end
end PySem
namespace DL
open PySem PyProof.Rows L2
theorem piled_mem : ∀ {l : List Str} {t : Str}, t ∈ l → t.length ≤ piled l
  | x :: l, t, h => by
    rw [piled_cons]
    rcases List.mem_cons.mp h with rfl | h
    · omega
    · have := piled_mem h
      omega
theorem tup_mem_le {l : List Str} {t : Str} (h : t ∈ l) : t.length ≤ (tupleText l).length := Nat.le_trans (piled_mem h) (piled_le_tupleText l)
section
variable {X : Cx} {c : Ctx}
end
end DL

set_option Elab.async false
set_option linter.all false
set_option maxRecDepth 100000
set_option maxHeartbeats 4000000
/-! A93: repr of data of any depth, dicts among them. -/
namespace PySem
section
variable {prog : Program} {w : World} {h₀ : Heap} {A : Around} {E : Value → Shared → Prop} {s : Shared}
theorem Told.lst {a : Addr} {o : Obj} {vs : List Value} {n : Nat} {ds : List PyData} (h1 : h₀.get? a = some o) (h2 : o.cls = .type "list") (h3 : o.data = .seq vs.toArray n) (t : Paired (Told prog w h₀) vs ds) : Told prog w h₀ (.ref a) (.list ds) := by
  obtain ⟨as, bs, r, m, k⟩ := told_all t
  have top : Reads h₀ (.ref a) (.list ds) _ := Reads.list h1 h2 h3 r
  have out : a ∉ bs := not_mem_of_deeper top (by simp only [PyData.depth]; omega) m
  refine ⟨⟨_, top⟩, a :: bs, m.cons top (by simp only [PyData.depth]; omega), ?_⟩
  simp only [PyData.depth, PyData.shown]
  cases vs with
  | nil =>
    cases t
    simp only [PyData.shownAll, listText_nil]
    exact ReprK.listEmpty h1 h2 h3
  | cons x l => exact ReprK.list h1 h2 h3 out (by simpa using k.length_eq) fun i y e => k.item i y (by simpa using e)
theorem Told.tpl {a : Addr} {o : Obj} {vs : List Value} {n : Nat} {ds : List PyData} (h1 : h₀.get? a = some o) (h2 : o.cls = .type "tuple") (h3 : o.data = .seq vs.toArray n) (t : Paired (Told prog w h₀) vs ds) : Told prog w h₀ (.ref a) (.tuple ds) := by
  obtain ⟨as, bs, r, m, k⟩ := told_all t
  have top : Reads h₀ (.ref a) (.tuple ds) _ := Reads.tuple h1 h2 h3 r
  have out : a ∉ bs := not_mem_of_deeper top (by simp only [PyData.depth]; omega) m
  refine ⟨⟨_, top⟩, a :: bs, m.cons top (by simp only [PyData.depth]; omega), ?_⟩
  simp only [PyData.depth, PyData.shown]
  exact ReprK.tuple h1 h2 h3 out (by simpa using k)
/-- a dict, its keys and values plain -/
theorem Told.dct {a : Addr} {o : Obj} {es : Array DictEntry} {n : Nat} {ks ps : List PyData} {as bs : List Addr} (dg : DigOk h₀) (h1 : h₀.get? a = some o) (h2 : o.cls = .type "dict") (h3 : o.data = .dict es n) (sys : (a == sysModules) = false) (h4 : ReadsAll h₀ (es.toList.map (·.key)) ks as) (h5 : ReadsAll h₀ (es.toList.map (·.val)) ps bs) (l : ks.length = ps.length)
    (b1 : PyData.bigAll ks = true) (b2 : PyData.bigAll ps = true) (len : (PyData.dict (List.zip ks ps)).shown.length ≤ sizeLine) : Told prog w h₀ (.ref a) (.dict (List.zip ks ps)) := by
  have f1 : (List.zip ks ps).map (·.1) = ks := List.map_fst_zip (by omega)
  have f2 : (List.zip ks ps).map (·.2) = ps := List.map_snd_zip (by omega)
  have len2 : (dictText (PyData.shownKv (List.zip ks ps))).length ≤ sizeLine := by simpa only [PyData.shown] using len
  refine .dict dg h1 h2 h3 sys (by rw [f1]; exact h4) (by rw [f2]; exact h5) (by rw [f1]; exact b1) (by rw [f2]; exact b2) (fun t ht => ?_) (fun t ht => ?_)
  · obtain ⟨q, hq, hl⟩ := PyData.shownKv_key_le _ t ht
    exact Nat.le_trans hl (Nat.le_trans (dictText_mem_le hq) len2)
  · obtain ⟨q, hq, hl⟩ := PyData.shownKv_val_le _ t ht
    exact Nat.le_trans hl (Nat.le_trans (dictText_mem_le hq) len2)
/-- repr of a dict -/
theorem repr_toldDct {a : Addr} {o : Obj} {es : Array DictEntry} {n : Nat} {ks ps : List PyData} {as bs : List Addr} {Q : Value → Shared → Prop} (dg : DigOk s.heap) (h1 : s.heap.get? a = some o) (h2 : o.cls = .type "dict") (h3 : o.data = .dict es n) (sys : (a == sysModules) = false) (h4 : ReadsAll s.heap (es.toList.map (·.key)) ks as) (h5 : ReadsAll s.heap (es.toList.map (·.val)) ps bs) (l : ks.length = ps.length)
    (b1 : PyData.bigAll ks = true) (b2 : PyData.bigAll ps = true) (gd : A.guards = some []) (room : A.units + (PyData.depthKv (List.zip ks ps) + 2) < cLine) (len : (PyData.dict (List.zip ks ps)).shown.length ≤ sizeLine)
    (next : ∀ h' u tk, (∀ b o, s.heap.get? b = some o → h'.get? b = some o) → Q (.str (PyData.dict (List.zip ks ps)).shown u) { s with heap := h', toks := tk }) : wpAny (model prog w) A (call (.builtin "repr") [.ref a]) Q E s := by
  have f1 : (List.zip ks ps).map (·.1) = ks := List.map_fst_zip (by omega)
  have f2 : (List.zip ks ps).map (·.2) = ps := List.map_snd_zip (by omega)
  have len2 : (dictText (PyData.shownKv (List.zip ks ps))).length ≤ sizeLine := by simpa only [PyData.shown] using len
  obtain ⟨c1, m1, k1⟩ := ReprAllK.of_readsAllB (prog := prog) (w := w) dg h4 b1 fun t ht => by
    obtain ⟨q, hq, hl⟩ := PyData.shownKv_key_le (List.zip ks ps) t (by rw [f1]; exact ht)
    exact Nat.le_trans hl (Nat.le_trans (dictText_mem_le hq) len2)
  obtain ⟨c2, m2, k2⟩ := ReprAllK.of_readsAllB (prog := prog) (w := w) dg h5 b2 fun t ht => by
    obtain ⟨q, hq, hl⟩ := PyData.shownKv_val_le (List.zip ks ps) t (by rw [f2]; exact ht)
    exact Nat.le_trans hl (Nat.le_trans (dictText_mem_le hq) len2)
  have r : Reads s.heap (.ref a) (.dict (List.zip ks ps)) _ := Reads.dict h1 h2 h3 (by rw [f1]; exact h4) (by rw [f2]; exact h5)
  have dk := PyData.depthAll_keys_le (List.zip ks ps)
  have dv := PyData.depthAll_vals_le (List.zip ks ps)
  rw [f1] at dk
  rw [f2] at dv
  have out : a ∉ c1 ++ c2 := not_mem_of_deeper r (by simp only [PyData.depth]; omega) ((m1.mono dk).append (m2.mono dv))
  have q1 := k1.more_le (as' := c1 ++ c2) (fun b z => List.mem_append.mpr (.inl z)) dk
  have q2 := k2.more_le (as' := c1 ++ c2) (fun b z => List.mem_append.mpr (.inr z)) dv
  have ent := ReprEntriesK.of_two es.toList _ _ q1 q2
  have e : PyData.shownKv (List.zip ks ps) = List.zipWith (fun x y : Str => x ++ ": " ++ y) (PyData.shownAll ks) (PyData.shownAll ps) := by rw [PyData.shownKv_eq, f1, f2]
  rw [← e] at ent
  simp only [PyData.shown] at next
  exact call_repr_slot (by omega) ⟨o, h1, h2⟩ F.slot_dict_repr (call_dict_reprK (s := s) (h₀ := s.heap) h1 h2 h3 sys out ent gd (fun b _ => Clear.nil b) (by show A.units + 1 + (PyData.depthKv (List.zip ks ps) + 1) < cLine; omega) (fun _ _ z => z) (fun h' u tk hk => ⟨_, _, rfl, next h' u tk hk⟩) len2)
end
end PySem
namespace DL
open PySem PyProof.Rows L2
mutual
/-- a datum of any depth -/
def pdA : D → PyData
  | .list ds => .list (pdAs ds)
  | .tup ds => .tuple (pdAs ds)
  | .dk ks ds => .dict (List.zip (ks.map kp) (pds ds))
  | .dt ks ds => .dict (List.zip (ks.map kps) (pds ds))
  | .none => .none
  | .bool b => .bool b
  | .int i => .int i
  | .str s => .str s
  | _ => .none
def pdAs : List D → List PyData
  | [] => []
  | d :: ds => pdA d :: pdAs ds
end
mutual
/-- what repr tells, whatever its depth -/
def tellA : D → Bool
  | .list ds => tellAs ds
  | .tup ds => tellAs ds
  | .dk ks ds => PyData.bigAll (ks.map kp) && (PyData.bigAll (pds ds) && plainsD ds)
  | .dt ks ds => PyData.bigAll (ks.map kps) && (PyData.bigAll (pds ds) && plainsD ds)
  | .none => true
  | .bool _ => true
  | .int i => decide (i.natAbs.log2 < 12900)
  | .str _ => true
  | _ => false
def tellAs : List D → Bool
  | [] => true
  | d :: ds => tellA d && tellAs ds
end
section
variable {X : Cx} {pins : List (Addr × Obj)} {σ : L2.St} {H : Hp} {s : Shared} {c : Ctx} {S : Option SA} {F : Hp} {n : Nat} {I : Hp} {μ : Mu}
theorem pairs_read {P : Program} {w : PySem.World} {h : Heap} : ∀ {es : List DictEntry} {kvs : List (Key × Value)}, Pairs (mixKind P w) es kvs → ∃ as, ReadsAll h (es.map (·.key)) (kvs.map fun q => kp q.1) as
  | _, _, .nil => ⟨_, .nil⟩
  | e :: es, q :: kvs, .cons h1 h2 t => by
    obtain ⟨as, r⟩ := pairs_read (h := h) t
    rcases keyIs_shape h1 with ⟨i, t, e1, e2⟩ | ⟨x, t, e1, e2⟩
    · refine ⟨_, .cons (as := []) ?_ r⟩
      show Reads h e.key (kp q.1) []
      rw [e1, e2]
      exact .int i t
    · refine ⟨_, .cons (as := []) ?_ r⟩
      show Reads h e.key (kp q.1) []
      rw [e1, e2]
      exact .str x t
theorem pairs_vals {P : Program} {w : PySem.World} : ∀ {es : List DictEntry} {kvs : List (Key × Value)} {xs : List (Key × V)}, Pairs (mixKind P w) es kvs → KV xs kvs → Vals (xs.map (·.2)) (es.map (·.val)) ∧ (xs.map fun q => kp q.1) = kvs.map fun q => kp q.1
  | _, _, _, .nil, .nil => ⟨.nil, rfl⟩
  | e :: es, q :: kvs, x :: xs, .cons h1 h2 t, .cons k ks => by
    obtain ⟨r1, r2⟩ := pairs_vals t ks
    refine ⟨.cons ?_ r1, ?_⟩
    · show RelV x.2 e.val
      rw [h2]
      exact k.2
    · rw [List.map_cons, List.map_cons, r2, k.1]
/-- the entries of a dict with numbers or texts as keys -/
theorem dk_reads (J : Inv X pins σ H s) (hK : X.K = c.K) (w : Wd c S F n I μ H) {a : Addr} {ks : List Key} {ds : List D} {xs : List V} (g : I a = some (.dK (List.zip ks xs))) (r : Reps c S I ds xs) (l : ks.length = xs.length) (hp : plainsD ds = true) :
    ∃ o es ep as bs, s.heap.get? a = some o ∧ o.cls = .type "dict" ∧ o.data = .dict es ep ∧ (a == sysModules) = false ∧ ReadsAll s.heap (es.toList.map (·.key)) (ks.map kp) as ∧ ReadsAll s.heap (es.toList.map (·.val)) (pds ds) bs ∧ (ks.map kp).length = (pds ds).length := by
  have hd : Rd H a (.dK (List.zip ks xs)) := by
    rcases w.i _ _ g with q | ⟨_, ob, q⟩
    · exact .inl q
    · exact .inr ⟨ob, q⟩
  obtain ⟨z, sys, vs, rel, o, es, ep, ho, hc, hdt, _, pr, _⟩ := (show ObjOk X.prog X.w H s.heap a (.dK (List.zip ks xs)) from hd.ok J.hok)
  obtain ⟨as, rk⟩ := pairs_read (h := s.heap) pr
  obtain ⟨rv, ek⟩ := pairs_vals pr rel
  have hx := reps_dp w r hp
  have lp := dpAll_len hx
  rw [List.map_snd_zip (by omega)] at rv
  obtain ⟨bs, rb⟩ := Dp.readsAll J (pds ds) _ _ (by rw [hK]; exact hx) rv
  have f3 : (List.zip ks xs).map (fun p => kp p.1) = ks.map kp := by
    have := congrArg (List.map kp) (List.map_fst_zip (l₁ := ks) (l₂ := xs) (by omega))
    rw [List.map_map] at this
    exact this
  rw [← ek, f3] at rk
  exact ⟨o, es, ep, as, bs, ho, hc.1, hdt, sys, rk, rb, by rw [List.length_map]; omega⟩
mutual
theorem told_d (J : Inv X pins σ H s) (hK : X.K = c.K) (dg : DigOk s.heap) (w : Wd c S F n I μ H) : ∀ {d : D} {v : V} {u : Value}, Rep c S I d v → tellA d = true → RelV v u → (pdA d).shown.length ≤ sizeLine → Told X.prog X.w s.heap u (pdA d)
  | .none, _, _, .none, _, r, len => by
    cases r
    exact .plain dg .none rfl len
  | .bool b, _, _, .bool, _, r, len => by
    cases r
    exact .plain dg (.bool b) rfl len
  | .int i, _, _, .int, h, r, len => by
    obtain ⟨t, rfl⟩ := r
    rw [tellA] at h
    exact .plain dg (.int i t) h len
  | .str x, _, _, .str, _, r, len => by
    obtain ⟨t, rfl⟩ := r
    exact .plain dg (.str x t) rfl len
  | .list ds, _, u, .list (a := a) g r, h, ru, len => by
    obtain rfl : u = Value.ref a := ru
    rw [tellA] at h
    rw [pdA] at len ⊢
    obtain ⟨its, rv, ⟨o, m, ho, hc, _, hdt⟩, _⟩ := J.list (SqL.of (K := X.K) (w.lst g))
    have hl2 : (listText (PyData.shownAll (pdAs ds))).length ≤ sizeLine := by simpa only [PyData.shown] using len
    exact .lst ho hc hdt (told_ds J hK dg w r h rv fun p hp => Nat.le_trans (listText_mem_le (shown_mem hp)) hl2)
  | .tup ds, _, u, .tup (a := a) g r, h, ru, len => by
    obtain rfl : u = Value.ref a := ru
    rw [tellA] at h
    rw [pdA] at len ⊢
    have g2 := w.tupH g
    rw [← hK] at g2
    obtain ⟨its, rv, ⟨o, ho, hc, m, hdt⟩, _⟩ := J.tuple g2
    have hl2 : (tupleText (PyData.shownAll (pdAs ds))).length ≤ sizeLine := by simpa only [PyData.shown] using len
    exact .tpl ho hc hdt (told_ds J hK dg w r h rv fun p hp => Nat.le_trans (tup_mem_le (shown_mem hp)) hl2)
  | .dk ks ds, _, u, .dk (a := a) g r l, h, ru, len => by
    obtain rfl : u = Value.ref a := ru
    rw [tellA, Bool.and_eq_true, Bool.and_eq_true] at h
    rw [pdA] at len ⊢
    obtain ⟨o, es, ep, as, bs, ho, hc, hdt, sys, rk, rb, le⟩ := dk_reads J hK w g r l h.2.2
    exact .dct dg ho hc hdt sys rk rb le h.1 h.2.1 len
  | .dt ks ds, _, u, .dt (a := a) g r l, h, ru, len => by
    have q : Itm X.K H (.ref a) (pdT (.dt ks ds)) := by
      rw [hK]
      exact itm_rep w (.dt g r l) (by rw [tellA] at h; exact h)
    rw [pdA] at len ⊢
    exact told_item J dg ru q len
theorem told_ds (J : Inv X pins σ H s) (hK : X.K = c.K) (dg : DigOk s.heap) (w : Wd c S F n I μ H) : ∀ {ds : List D} {vs : List V} {us : List Value}, Reps c S I ds vs → tellAs ds = true → Vals vs us → (∀ p ∈ pdAs ds, p.shown.length ≤ sizeLine) → PySem.Paired (Told X.prog X.w s.heap) us (pdAs ds)
  | [], _, _, .nil, _, .nil, _ => by
    rw [pdAs]
    exact .nil
  | d :: ds, _, _, .cons r rs, h, .cons ru rus, len => by
    rw [tellAs, Bool.and_eq_true] at h
    rw [pdAs] at len ⊢
    exact .cons (told_d J hK dg w r h.1 ru (len _ List.mem_cons_self)) (told_ds J hK dg w rs h.2 rus fun p hp => len p (List.mem_cons_of_mem _ hp))
end
/-- the entries of a dict with tuple keys -/
theorem dt_reads (J : Inv X pins σ H s) (hK : X.K = c.K) (w : Wd c S F n I μ H) {a : Addr} {ks : List TK} {ds : List D} {xs : List V} (g : I a = some (.dT (List.zip ks xs))) (r : Reps c S I ds xs) (l : ks.length = xs.length) (hp : plainsD ds = true) :
    ∃ o es ep as bs, s.heap.get? a = some o ∧ o.cls = .type "dict" ∧ o.data = .dict es ep ∧ (a == sysModules) = false ∧ ReadsAll s.heap (es.toList.map (·.key)) (ks.map kps) as ∧ ReadsAll s.heap (es.toList.map (·.val)) (pds ds) bs ∧ (ks.map kps).length = (pds ds).length := by
  have hd : Rd H a (.dT (List.zip ks xs)) := by
    rcases w.i _ _ g with q | ⟨_, ob, q⟩
    · exact .inl q
    · exact .inr ⟨ob, q⟩
  obtain ⟨z, sys, ms, rel, o, es, ep, ho, hc, hdt, he, _⟩ := (show ObjOk X.prog X.w H s.heap a (.dT (List.zip ks xs)) from hd.ok J.hok)
  have hx := reps_dp w r hp
  have lp := dpAll_len hx
  have e1 : es.toList.map (·.key) = ms.map fun m => Value.ref m.2.1 := by rw [he, List.map_map]; rfl
  have e2 : es.toList.map (·.val) = ms.map (·.2.2) := by rw [he, List.map_map]; rfl
  obtain ⟨as, rk⟩ := reads_keys J rel
  have hv := vals_kt rel
  rw [List.map_snd_zip (by omega)] at hv
  obtain ⟨bs, rv⟩ := Dp.readsAll J (pds ds) _ _ (by rw [hK]; exact hx) hv
  have f3 : (List.zip ks xs).map (fun p => kps p.1) = ks.map kps := by
    have := congrArg (List.map kps) (List.map_fst_zip (l₁ := ks) (l₂ := xs) (by omega))
    rw [List.map_map] at this
    exact this
  rw [f3, ← e1] at rk
  rw [← e2] at rv
  exact ⟨o, es, ep, as, bs, ho, hc.1, hdt, sys, rk, rv, by rw [List.length_map]; omega⟩
/-- repr of data of any depth -/
def cbReprA : WC := fun xs μ Q _ => one xs fun x => tellA x = true ∧ (pdA x).depth ≤ 60 ∧ (pdA x).shown.length ≤ sizeLine ∧ Q (.v (.str (pdA x).shown)) μ
end
section
variable {X : Cx} {c : Ctx}
theorem call_reprA (hD : PySem.W.nsIn X.K cStatics "sys.int_max_str_digits" = some none) (gd : X.A.guards = some []) (hu : X.A.units + 64 < cLine) {pins : List (Addr × Obj)} {s : Shared} {σ σ' : L2.St} {H : Hp} {xs : List V} {us : List Value} {W : WX} {Q : VK} (hK : X.K = c.K) (J : Inv X pins σ H s) (rv : Vals xs us) (h : ldC c W 0 cbReprA σ' xs H Q) :
    wpAny (model X.prog X.w) X.A (call (.builtin "repr") us) (EP X pins σ Q) X.xe s := by
  obtain ⟨S, F, n, I, μ, ds, Qd, Xd, hl, w, rs, h, q, _⟩ := h
  obtain ⟨x, rfl, g⟩ := one_cases h
  clear h
  obtain ⟨v, rfl, r⟩ := reps1 rs
  obtain ⟨u, rfl, ru⟩ := vals1 rv
  obtain ⟨h1, h2, h3, h4⟩ := g
  have dg : DigOk s.heap := fun M => PySem.W.looks_nsIn J.kIn hD
  have fin : ∀ tk t, EP X pins σ Q (.str (pdA x).shown t) { s with toks := tk } := fun tk t => ⟨.str _, H, J.tok tk, ⟨t, rfl⟩, q _ μ _ I H h4 (Same.refl I) w .str⟩
  have finK : ∀ h' t tk, (∀ b o, s.heap.get? b = some o → h'.get? b = some o) → EP X pins σ Q (.str (pdA x).shown t) { s with heap := h', toks := tk } := fun h' t tk kp => ⟨.str _, H, J.kept kp, ⟨t, rfl⟩, q _ μ _ I H h4 (Same.refl I) w .str⟩
  cases r with
  | none =>
    cases ru
    have := fin (s.toks + 1) s.toks
    rw [pdA, PyData.shown_none] at this
    exact PySem.P.repr_of_none this
  | @bool b =>
    cases ru
    have := fin (s.toks + 1) s.toks
    rw [pdA, PyData.shown_bool] at this
    exact PySem.P.repr_of_bool this
  | @int i =>
    obtain ⟨t, rfl⟩ := ru
    have := fin (s.toks + 1) s.toks
    rw [pdA, PyData.shown_int] at this h3
    rw [tellA] at h1
    exact repr_of_intB dg (of_decide_eq_true h1) h3 this
  | @str x =>
    obtain ⟨t, rfl⟩ := ru
    have := fin (s.toks + 1) s.toks
    rw [pdA, PyData.shown_str] at this h3
    exact PySem.P.repr_of_str this h3
  | @list a ds xs g r =>
    obtain rfl : u = Value.ref a := ru
    rw [tellA] at h1
    rw [pdA] at h2 h3 finK
    obtain ⟨its, rw', ⟨o, m, ho, hc, _, hdt⟩, _⟩ := J.list (SqL.of (K := X.K) (w.lst g))
    have hl2 : (listText (PyData.shownAll (pdAs ds))).length ≤ sizeLine := by simpa only [PyData.shown] using h3
    rw [PyData.depth] at h2
    have told := told_ds J hK dg w r h1 rw' fun p hp => Nat.le_trans (listText_mem_le (shown_mem hp)) hl2
    cases its with
    | nil =>
      cases rw'
      cases r
      rw [pdAs] at finK h3
      have rd : Reads s.heap (.ref a) (.list []) _ := Reads.list ho hc hdt .nil
      exact repr_of_readsB dg rd rfl gd (by simp only [PyData.depth, PyData.depthAll]; omega) (fun _ _ z => z) (fun h' t tk kp => finK h' t tk kp) h3
    | cons y ys => exact repr_told ho hc hdt told (List.cons_ne_nil _ _) gd (by omega) h3 fun h' t tk kp => finK h' t tk kp
  | @tup a ds xs g r =>
    obtain rfl : u = Value.ref a := ru
    rw [tellA] at h1
    rw [pdA] at h2 h3 finK
    have g2 := w.tupH g
    rw [← hK] at g2
    obtain ⟨its, rw', ⟨o, ho, hc, m, hdt⟩, _⟩ := J.tuple g2
    have hl2 : (tupleText (PyData.shownAll (pdAs ds))).length ≤ sizeLine := by simpa only [PyData.shown] using h3
    rw [PyData.depth] at h2
    exact repr_toldTup ho hc hdt (told_ds J hK dg w r h1 rw' fun p hp => Nat.le_trans (tup_mem_le (shown_mem hp)) hl2) gd (by omega) h3 fun h' t tk kp => finK h' t tk kp
  | @dk a ks ds xs g r l =>
    obtain rfl : u = Value.ref a := ru
    rw [tellA, Bool.and_eq_true, Bool.and_eq_true] at h1
    rw [pdA] at h2 h3 finK
    rw [PyData.depth] at h2
    obtain ⟨o, es, ep, as, bs, ho, hc, hdt, sys, rk, rb, le⟩ := dk_reads J hK w g r l h1.2.2
    exact repr_toldDct dg ho hc hdt sys rk rb le h1.1 h1.2.1 gd (by omega) h3 fun h' t tk kp => finK h' t tk kp
  | @dt a ks ds xs g r l =>
    obtain rfl : u = Value.ref a := ru
    rw [tellA, Bool.and_eq_true, Bool.and_eq_true] at h1
    rw [pdA] at h2 h3 finK
    rw [PyData.depth] at h2
    obtain ⟨o, es, ep, as, bs, ho, hc, hdt, sys, rk, rb, le⟩ := dt_reads J hK w g r l h1.2.2
    exact repr_toldDct dg ho hc hdt sys rk rb le h1.1 h1.2.1 gd (by omega) h3 fun h' t tk kp => finK h' t tk kp
  | _ => exact absurd h1 (by simp [tellA])
theorem w_reprA (hD : PySem.W.nsIn X.K cStatics "sys.int_max_str_digits" = some none) (gd : X.A.guards = some []) (hu : X.A.units + 64 < cLine) (hK : X.K = c.K := by rfl) : CbW X c (.builtin "repr") cbReprA := ⟨fun xs H Q => ∃ W σ, ldC c W 0 cbReprA σ xs H Q, fun pins s σ H xs us Q J rv ⟨W, σ', h⟩ => call_reprA hD gd hu hK J rv h, fun W σ xs H Q h => ⟨W, σ, h⟩⟩
end
end DL

set_option Elab.async false
set_option linter.all false
set_option maxRecDepth 100000
set_option maxHeartbeats 4000000
/-! A94: errors made as values. -/
namespace DL
open PySem PySem.Spec PyProof.Rows L2
section
variable {X : Cx} {c : Ctx} {W : WX} {k ka : Nat} {n x f : Str} {p p2 pos : Pos}
/-- what makes an error gives it as a value, tracked from now on -/
theorem pe_of_mk {ex : Expr} {t : L2.St → Hp → XK → Prop} (hm : PMk X ex t) (hx : X.ex = [] := by rfl) : PE X ex (fun σ H Q => t σ H fun cls d H' => ∀ a, H' a = none → Q (.ref a) (upd H' a (ErO a cls d))) := by
  refine ⟨fun pins s σ H Q J h => wpAny_mono (hm pins s σ H _ J h) (fun u s2 hu => ?_) fun _ _ z => z⟩
  obtain ⟨a, oe, vs, sI, H', cls, d, rfl, J1, kp, new, ha, hz, hd, _, na, os, bare, _, q⟩ := hu
  have K := J1.kept (h' := s2.heap) (t' := s2.toks) kp
  have J2 : Inv X pins σ H' s2 := ⟨K.ok, os.trans J1.os, bare, K.base, K.loc, K.cell, K.free, K.freeC, K.pin, K.hok, K.len⟩
  have nl : a ≠ X.env.locals := fun z => by
    obtain ⟨m, ⟨o, es, ep, ho, _⟩, _⟩ := J1.loc
    rw [← z, new] at ho
    cases ho
  have new0 : X.s_0.heap.get? a = none := by
    cases e : X.s_0.heap.get? a with
    | none => rfl
    | some o =>
      obtain ⟨o', z⟩ := J1.base.there a o e (by rw [hx]; exact List.not_mem_nil)
      rw [new] at z
      cases z
  have np : ∀ q ∈ X.pn ++ pins, q.1 ≠ a := fun q hq z => by
    have z2 := (J1.pin q hq).1
    rw [z, new] at z2
    cases z2
  exact ⟨.ref a, _, inv_track J2 ha na nl hz hd new0 np, rfl, q a na⟩
/-- X('..') -/
def wMkE (n : Str) : WE := fun _ μ Q _ => Q (.err n [] []) μ
/-- X(v), which keeps v in its field f -/
def wMkEA (n f : Str) (a : WE) : WE := fun e μ Q X => a e μ (fun d μ1 => Q (.err n [f] [d]) μ1) X
theorem Jce (n : Str) (e : EnvD) (μ : Mu) (Q X : QD) : wMkE n e μ Q X = Q (.err n [] []) μ := propext Iff.rfl
theorem Jcf (n f : Str) (a : WE) (e : EnvD) (μ : Mu) (Q X : QD) : wMkEA n f a e μ Q X = a e μ (fun d μ1 => Q (.err n [f] [d]) μ1) X := propext Iff.rfl
theorem g_mkE {m : Str} {j : Nat} {bmB : List Value} {B newId initId : String} (G : ExcBaseFacts B newId initId bmB) (q : PySem.W.excIn X.K (c.cl n) bmB newId = true) (gC : X.mg x = some (.ref (c.cl n))) (kC : PySem.W.keepIn X.K (.ref (c.cl n)) = true)
    (r : Raises X (.ref (c.cl n))) (hg : Gl X x) (hn : n ∈ c.es := by decide) (hdb : (x == ("__debug__" : Str)) = false := by decide) (hx : X.ex = [] := by rfl) : GE X c W 0 (.Call (.Name x p) [.Constant (.str m) j p2] [] pos) (wMkE n) := L2.PE.imp (pe_of_mk (pmk_own G q gC kC r hg hdb) hx) fun σ H Q h => by
  obtain ⟨S, F, nn, I, μ, e, Qd, Xd, hl, he, hw, h, q, _⟩ := h
  intro a ha
  exact q _ μ (.ref a) _ _ h (same_new (hw.fresh ha).1) (hw.new ha (show notTb (.ext _) from trivial)) (.err upd_same ⟨rfl, .inl ⟨rfl, rfl⟩⟩ .nil hn)
/-- the error stands with its field -/
theorem made_err {S : Option SA} {F : Hp} {nn : Nat} {I1 I H1 : Hp} {μ1 : Mu} {dx : Addr} {d : D} {y : V} {Qd : QD} {Q : VK} {k : Nat} (q : QV c S F k I Qd Q) (s1 : Same I I1) (w1 : Wd c S F k I1 μ1 H1) (h1 : H1 dx = none) (r1 : Rep c S I1 d y) (hn : n ∈ c.es) (pa : Qd (.err n [f] [d]) μ1) :
    ∀ a, upd H1 dx (.xd [(f, y)]) a = none → Q (.ref a) (upd (upd H1 dx (.xd [(f, y)])) a (ErO a (.ref (c.cl n)) (some dx))) := fun a ha => by
  have sm : Same I1 (upd I1 dx (.xd [(f, y)])) := same_new (w1.fresh h1).1
  have w2 := w1.new (u := .xd [(f, y)]) h1 (show notTb (.xd _) from trivial)
  have sm2 : Same (upd I1 dx (.xd [(f, y)])) (upd (upd I1 dx (.xd [(f, y)])) a (ErO a (.ref (c.cl n)) (some dx))) := same_new (w2.fresh ha).1
  exact q _ μ1 (.ref a) _ _ pa ((s1.trans sm).trans sm2) (w2.new ha (show notTb (.ext _) from trivial)) (.err upd_same ⟨rfl, .inr ⟨dx, rfl, sm2 _ _ upd_same⟩⟩ (.cons ((r1.mono sm).mono sm2) .nil) hn)
theorem g_mkEA {a : Expr} {wa : WE} {fI : Addr} {fd : FuncData} {ps : List Str} (T : OexC X.K (c.cl n)) (iC : PySem.W.findIn X.K (.ref (c.cl n)) "__init__" = some (some (.ref fI))) (tI : PySem.W.typeIn X.K (.ref fI) = some (.type "function")) (hf : PySem.W.findIn X.K (.ref (c.cl n)) f = some none)
    (G : FnOk X.prog X.w X.K X.mg X.base C8.CX0 k fI fd ps (sp_ei X.K f)) (hr : Room (k + 1) X.A) (hb : Binds X.K fd ps []) (hg : Gl X x) (hm : X.mg x = some (.ref (c.cl n))) (ha : GE X c W ka a wa) (hn : n ∈ c.es := by decide) (hdb : (x == ("__debug__" : Str)) = false := by decide) (hst : starEach [a] X.env = [(false, eval a X.env)] := by rfl) (hx : X.ex = [] := by rfl) :
    GE X c W ka (.Call (.Name x p) [a] [] pos) (wMkEA n f wa) := L2.PE.imp (pe_of_mk (pmk_oex (ds := []) (dvs := []) T iC tI G hr hb .nil (fun _ _ _ _ _ _ _ z => False.elim z) hg hm (ga_cons ha ga_nil hst) hdb hst rfl) hx) fun σ H Q h => by
  obtain ⟨S, F, nn, I, μ, e, Qd, Xd, hl, he, hw, h, q, xv⟩ := h
  refine ⟨S, F, nn, I, μ, e, fun ds μ1 => one ds fun d => Qd (.err n [f] [d]) μ1, _, hl, he, hw, h, fun ds μ1 vs I1 H1 pa s1 w1 ra => ?_, xv⟩
  cases ra with
  | nil => exact pa.elim
  | cons r1 r2 =>
    cases r2 with
    | cons _ _ => exact pa.elim
    | nil =>
      rename_i d y
      refine ⟨by show 1 ≤ 1000; omega, fun b hb1 => ⟨b, _, y, rfl, T, hf, upd_same, fun dx h1 h2 => ⟨rfl, dx, [(f, y)], upd_same, ?_, ?_, ?_⟩⟩⟩
      · rw [upd_ne h2, upd_same]
      · rw [upd_ne h2] at h1
        exact h1
      · rw [upd_ne h2] at h1
        rw [exd_del hb1 h2]
        exact made_err (nn := 0) q s1 w1 h1 r1 hn pa
/-- isinstance(x, ValueError) of an error -/
def wIsV (a : WE) : WE := fun e μ Q X => a e μ (fun d μ1 => match d with
  | .err _ _ _ => Q (.bool true) μ1
  | _ => False) X
theorem Jc6 (a : WE) (e : EnvD) (μ : Mu) (Q X : QD) : wIsV a e μ Q X = a e μ (fun d μ1 => match d with
  | .err _ _ _ => Q (.bool true) μ1
  | _ => False) X := propext Iff.rfl
theorem g_isV {a : Expr} {wa : WE} {p3 : Pos} (T : CtxOk c) (hv : ∀ m ∈ c.es, PySem.W.kitOne c.K (.ref (c.cl m)) (.type "ValueError") = some true) (hg : Gl X "isinstance") (hm : X.mg "isinstance" = none) (hgv : Gl X "ValueError") (hmv : X.mg "ValueError" = none) (ha : GE X c W k a wa)
    (he : starEach [a, .Name "ValueError" p3] X.env = (false, eval a X.env) :: starEach [.Name "ValueError" p3] X.env := by rfl) (hpl : (backTo pos (starEach [.Name "ValueError" p3] X.env)).any (·.1) = false := by rfl) (hK : X.K = c.K := by rfl) :
    GE X c W k (.Call (.Name "isinstance" p) [a, .Name "ValueError" p3] [] pos) (wIsV wa) := by
  have cr : CallR X (.builtin "isinstance") (fun xs H Q => ∃ m a d fs ys, xs = [.ref a, .ty "ValueError"] ∧ m ∈ c.es ∧ H a = some (ErO a (.ref (c.cl m)) d) ∧ ErF H d fs ys ∧ Q (.bl true) H) := fun pins s σ H xs us Q J rv h => by
    obtain ⟨m, a, d, fs, ys, rfl, hme, h1, h2, q⟩ := h
    obtain ⟨u1, u2, rfl, r1, r2⟩ := vals2 rv
    obtain rfl : u1 = Value.ref a := r1
    obtain rfl : u2 = Value.type "ValueError" := r2
    obtain ⟨oe, od, ins, _⟩ := inst_err (C := c.cl m) (fs := fs) J h1 h2
    exact PySem.W.kia_one (kitx_err (by rw [hK]; exact T.exc m hme)) J.kIn ⟨oe, od, ins⟩ (by rw [hK]; exact hv m hme) (fun z => nomatch z) fun tk => ⟨.bl true, H, J.tok tk, rfl, q⟩
  refine L2.PE.imp (pe_callB cr hg hm (by decide +kernel) (pa_cons ha (pa_cons (pe_bltn (v := .ty "ValueError") hgv hmv (u := .type "ValueError") (by decide +kernel) rfl) pa_nil) (hs := he)) (by decide) (by decide) he hpl) fun σ H Q h => ?_
  obtain ⟨S, F, nn, I, μ, e, Qd, Xd, hl, he, hw, h, q, xv⟩ := h
  refine ⟨S, F, nn, I, μ, e, _, _, hl, he, hw, h, fun d μ1 v I1 H1 pa s1 w1 r => ?_, xv⟩
  dsimp only at pa
  split at pa
  · rename_i m fs ds
    cases r with
    | err g1 g2 g3 hn => exact ⟨m, _, _, fs, _, rfl, hn, w1.err g1, w1.erF g2, q _ μ1 _ I1 H1 pa s1 w1 .bool⟩
  · exact pa.elim
end
end DL

set_option Elab.async false
set_option linter.all false
set_option maxRecDepth 100000
set_option maxHeartbeats 4000000
/-! A95: errors made by name: X(f=v). -/
namespace PySem
namespace KwErr
open PySem.W PySem.Calls PyProof.Rows PySem.HandSPX
section
variable {M : Model} {prog : Program} {w : World} {A : Around} {E : Value → Shared → Prop} {R : Result → Shared → Prop} {h : Heap} {g : Array GenState} {d : Drawn} {t : Nat} {os : OsState}
variable {nm q : Str} {C N : Addr} {bs bm bmB : List Value} {hdct : Bool} {sn : List Str} {sub : List Value} {ab : Bool} {col : Option Bool} {dd : Option Addr} {k0 k1 k2 k3 k5 : Option Value} {B newId initId : String} {kws : List (Str × Value)}
theorem check_kw (F : ExcBaseFacts B newId initId bmB) (hT : ∀ Y : String, bm.contains (.type Y) = bmB.contains (.type Y)) {Q : Unit → Shared → Prop} (hC : h.get? C = some (excClassObj nm q C N bs bm hdct sn sub ab col dd k0 k1 k2 k3 k5 newId)) (hq : Q () ⟨h, g, d, t, os⟩) : wpAny M A (checkBuiltinCall newId ⟨[.ref C], kws⟩) Q E ⟨h, g, d, t, os⟩ := by
  have c1 : (Value.ref C :: bm).contains (.type B) = true := by rw [List.contains_cons, hT, F.hasB, Bool.or_true]
  have c2 := F.noStar
  simp only [F.newKind, F.newSplit, F.newRow, checkBuiltinCall]
  repeat (first | refine wpAny_loadPart_at hC ?_ | (refine wpAny_isSubtype_exc hC ?_; rw [c1]) | refine wpAny_staticBase_exc hC ?_ | refine wpAny_madeBy_exc hC ?_ | simp only [bne_self_eq_false, Bool.false_eq_true, if_false] | wp_step)
  exact hq
theorem new_kw (F : ExcBaseFacts B newId initId bmB) (hT : ∀ Y : String, bm.contains (.type Y) = bmB.contains (.type Y)) (hC : h.get? C = some (excClassObj nm q C N bs bm hdct sn sub ab col dd k0 k1 k2 k3 k5 newId))
    (hq : R (.ok (.ret (.ref (h.objs.size + 1)))) ⟨(h.push (kdv_tup [])).push (excO C h.objs.size), g, d, t, os⟩) : codeAny (model prog w) A (.builtin newId ⟨[.ref C], kws⟩) R ⟨h, g, d, t, os⟩ := by
  have c0 := F.ends
  have c1 : (Value.ref C :: bm).contains (.type B) = true := by rw [List.contains_cons, hT, F.hasB, Bool.or_true]
  have c2 : (Value.ref C :: bm).contains (.type "AttributeError") = false := by rw [List.contains_cons, hT, F.noAttr]; rfl
  have c3 : (Value.ref C :: bm).contains (.type "NameError") = false := by rw [List.contains_cons, hT, F.noName]; rfl
  have sz : ([] : List Value).length ≤ sizeLine := Nat.zero_le _
  refine codeAny_builtinAt F.entry (by
    unfold Builtin.«BaseException.__new__»
    refine wpAt_bind (show wpAt _ _ _ (stack >>= _) _ _ _ from wpAt_bind (wpAt_stack fun p below => wpAt_of_wpAny ?_))
    wp_walk
    refine wpAt_of_wpAny ?_
    rw [F.owner]
    repeat (first | with_reducible refine wpAny_madeHere_exc F.canon hC ?_ | with_reducible refine wpAny_loadPart_at hC ?_ | (with_reducible refine wpAny_isSubtype_exc hC ?_; first | rw [c1] | rw [c2] | rw [c3]) | wp_step)
    show R _ _
    rw [Heap.size_push]
    exact hq)
theorem tcall_kw (F : ExcBaseFacts B newId initId bmB) (hT : ∀ Y : String, bm.contains (.type Y) = bmB.contains (.type Y)) {fI : Addr} {Q : Fin → Shared → Prop} (hC : h.get? C = some (excClassObj nm q C N bs bm hdct sn sub ab col dd k0 k1 k2 k3 k5 newId))
    (hi : W.Looks (model prog w) h (typeLookup (.ref C) "__init__") (some (.ref fI))) (hb : ∀ self, W.Looks (model prog w) h (bindSpecial (.ref fI) self) (.ref fI, [self]))
    (hq : codeAny (model prog w) A (.call (.ref fI) ⟨[.ref (h.objs.size + 1)], kws⟩) (fun r s2 => match r with | .ok (.ret v) => v = .none ∧ Q (.done (.ret (.ref (h.objs.size + 1)))) s2 | .ok _ => False | .error e => E e s2) ⟨(h.push (kdv_tup [])).push (excO C h.objs.size), g, d, t, os⟩) :
    wpAny (model prog w) A (Builtin.«type.__call__» ⟨[.ref C], kws⟩) Q E ⟨h, g, d, t, os⟩ := by
  repeat (first | (with_reducible refine wpAny_loadPart_at hC ?_) | (with_reducible refine wpAny_madeBy_exc hC ?_) | wp_step)
  refine codeAny_call_builtin_code (Code.quiet_builtin _ F.quiet) (check_kw F hT hC (new_kw F hT hC ?_))
  have kp : ∀ b o, h.get? b = some o → ((h.push (kdv_tup [])).push (excO C h.objs.size)).get? b = some o := fun b o z => Heap.get?_push_of_some _ (Heap.get?_push_of_some _ z)
  have c4 := kp _ _ hC
  have c5 : ((h.push (kdv_tup [])).push (excO C h.objs.size)).get? (h.objs.size + 1) = some (excO C h.objs.size) := by heap_get
  have c6 : (Value.ref C :: bm).contains (.ref C) = true := by simp
  have c7 := hi.keeps kp
  have c8 := (hb (.ref (h.objs.size + 1))).keeps kp
  show wpAny _ _ _ _ _ _
  unfold isInstance
  repeat (first | (with_reducible refine wpAny_loadPart_at c5 ?_) | (with_reducible refine wpAny_isSubtype_exc c4 ?_; rw [c6]) | wp_step)
  refine (show wpAny _ _ (typeLookup (.ref C) _) _ _ _ from c7.at (wpAny_holding (wpAny_bind (c8.at (wpAny_bind (wpAny_call (codeAny_mono hq fun r s2 z => ?_)))))))
  rcases r with e | (v | _ | _ | _) <;> first | exact z | exact z.elim | skip
  obtain ⟨rfl, z⟩ := z
  first
    | exact wpAny_pure (wpAny_pure z)
    | (wp_walk; exact z)
theorem call_kw (F : ExcBaseFacts B newId initId bmB) (hT : ∀ Y : String, bm.contains (.type Y) = bmB.contains (.type Y)) {fI : Addr} (hC : h.get? C = some (excClassObj nm q C N bs bm hdct sn sub ab col dd k0 k1 k2 k3 k5 newId))
    (hi : W.Looks (model prog w) h (typeLookup (.ref C) "__init__") (some (.ref fI))) (hb : ∀ self, W.Looks (model prog w) h (bindSpecial (.ref fI) self) (.ref fI, [self]))
    (hq : codeAny (model prog w) (A.under (.builtin "type.__call__" ⟨[.ref C], kws⟩)) (.call (.ref fI) ⟨[.ref (h.objs.size + 1)], kws⟩) (InitBack (h.objs.size + 1) R) ⟨(h.push (kdv_tup [])).push (excO C h.objs.size), g, d, t, os⟩) :
    codeAny (model prog w) A (.call (.ref C) ⟨[], kws⟩) R ⟨h, g, d, t, os⟩ := by
  have t1 := tc_lookup
  have t2 := tc_bind (.ref C)
  have ty : (⟨h, g, d, t, os⟩ : Shared).TypeIs (.ref C) "type" := ⟨_, hC, rfl⟩
  refine codeAny_of_tree (show wpAny _ _ (callAny (.ref C) _) _ _ _ from ?_)
  repeat (any_goals (first | assumption | (with_reducible refine wpAny_loadPart_at hC ?_) | wp_step))
  refine ⟨rfl, codeAny_call_builtin_at (Code.quiet_builtin _ (by decide +kernel)) entry_typeCall (wpAny_check_type_call_sub hC (tcall_kw F hT hC hi hb ?_))⟩
  exact codeAny_mono hq fun r s2 z => by rcases r with e | (v | _ | _ | _) <;> exact z
end
end KwErr
end PySem
namespace DL
open PySem PySem.Spec PyProof.Rows L2
section
variable {X : Cx} {c : Ctx} {W : WX} {k ka : Nat} {n x f : Str} {p pos : Pos}
theorem pmk_kw {C fI : Addr} {fd : FuncData} {ps ks : List Str} {js : List Nat} {sp : Sp} {kws : List Keyword} {tk : TA} (T : OexC X.K C) (iC : PySem.W.findIn X.K (.ref C) "__init__" = some (some (.ref fI))) (tI : PySem.W.typeIn X.K (.ref fI) = some (.type "function"))
    (G : FnOk X.prog X.w X.K X.mg X.base C8.CX0 k fI fd ps sp) (hr : Room (k + 1) X.A) (hb : KB X.K fd ps 1 ks js) (hg : Gl X x) (hm : X.mg x = some (.ref C)) (hkw : PK X kws tk)
    (hall : (backToKw pos (keywordEach kws X.env)).all (·.1.isSome) = true) (hks : (backToKw pos (keywordEach kws X.env)).filterMap (·.1) = ks) (hdb : (x == ("__debug__" : Str)) = false) (hpl : ((backTo pos (starEach [] X.env)).any (·.1) || (backToKw pos (keywordEach kws X.env)).any (·.1.isNone)) = false) :
    PMk X (.Call (.Name x p) [] kws pos) (fun σ H Q => tk σ H fun zs H1 => zs.length = ks.length ∧ ∀ a, H1 a = none → sp (.ref a :: permD V.non js zs) (upd H1 a (exo a C none))
      (fun v H2 => v = .non ∧ ∃ (d : Addr) (fs : List (Str × V)), H2 a = some (exo a C (some d)) ∧ H2 d = some (exd d fs) ∧ H1 d = none ∧ Q (.ref C) (some d) (upd (L2.del H2 a) d (.xd fs))) (fun _ _ _ => False)) := by
  intro pins s σ H Q J h
  obtain ⟨nm, q, N, bs, bm, sn, sub, ab, col, dd, k0, k1, k2, k3, k5, hC, hbm⟩ := T.cls
  refine wpAny_Call_Name_kw (ld_glob J hg hm ?_ hdb)
  refine PySem.W.callWith_KW0 (h₀ := X.base) J.ok.mod.kin T.kC hall (thn (hkw.run pos pins s σ H _ J h) fun ws s1 ⟨zs, H1, J1, r1, hz, q1⟩ => ⟨J1.kIn, ?_⟩) hpl
  rw [hks]
  show wpAny _ _ (call (.ref C) [] (ks.zip ws)) _ _ _
  obtain ⟨hp, g, dr, tk', os⟩ := s1
  have sz : hp.objs.size ≤ hp.objs.size + 1 := Nat.le_succ _
  have hq := q1 (hp.objs.size + 1) (J1.hok.fresh sz)
  have kk : ∀ b o, hp.get? b = some o → ((hp.push (PySem.W.kdv_tup [])).push (PySem.HandSPX.excO C hp.objs.size)).get? b = some o := fun b o e => Heap.get?_push_of_some _ (Heap.get?_push_of_some _ e)
  have hget : ((hp.push (PySem.W.kdv_tup [])).push (PySem.HandSPX.excO C hp.objs.size)).get? (hp.objs.size + 1) = some (PySem.HandSPX.excO C hp.objs.size) := by heap_get
  have J2 : Inv X pins σ (upd H1 (hp.objs.size + 1) (exo (hp.objs.size + 1) C none)) ⟨(hp.push (PySem.W.kdv_tup [])).push (PySem.HandSPX.excO C hp.objs.size), g, dr, tk', os⟩ := J1.laid (t' := tk') (a := hp.objs.size + 1) (h' := (hp.push (PySem.W.kdv_tup [])).push (PySem.HandSPX.excO C hp.objs.size)) kk sz (exo_ok hget)
  have r2 := hb.rel (vs := [V.ref (hp.objs.size + 1)]) (us := [Value.ref (hp.objs.size + 1)]) (.cons rfl .nil) r1
  refine wpAny_call (PySem.KwErr.call_kw F.excBase_ValueError (fun Y => PySem.HandSPX.refsVE_contains Y bm hbm) (J1.kIn _ _ hC) (PySem.W.looks_findIn J1.kIn iC) (fun self => PySem.W.bind_fn J1.kIn self tI)
    (codeAny_mono (G.run _ X.stack _ _ ⟨[Value.ref (hp.objs.size + 1)], ks.zip ws⟩ _ _ _ (fun _ _ _ => False) (hr.make C [] (ks.zip ws)) (J2.env0.make C [] (ks.zip ws)) (hb.to _ [Value.ref (hp.objs.size + 1)] ws J2.kIn rfl (r1.length.symm.trans hz)) r2 hq) fun r s' hq' => ?_))
  match r, hq' with
  | .error e, hq' => exact (show False from hq').elim
  | .ok (.ret u), hq' =>
    obtain ⟨v, H2, os2, bare2, un2, hok2, rv, ev, d, fs, ea, ed, hd1, q2⟩ := hq'
    subst ev
    obtain ⟨h2, g2, d2, t2, os'⟩ := s'
    exact ⟨rv, mk_end (raises_own T.exC T.tyC) J1 sz kk un2 hok2 os2 bare2 ea ed hd1 q2⟩
  | .ok .next, hq' => exact False.elim hq'
  | .ok .brk, hq' => exact False.elim hq'
  | .ok .cont, hq' => exact False.elim hq'
/-- X(f=v), which keeps v in its field f -/
theorem g_mkEK {kws : List Keyword} {a : WE} {fI : Addr} {fd : FuncData} {ps : List Str} {g : Str} (T : OexC X.K (c.cl n)) (iC : PySem.W.findIn X.K (.ref (c.cl n)) "__init__" = some (some (.ref fI))) (tI : PySem.W.typeIn X.K (.ref fI) = some (.type "function")) (hf : PySem.W.findIn X.K (.ref (c.cl n)) f = some none)
    (G : FnOk X.prog X.w X.K X.mg X.base C8.CX0 k fI fd ps (sp_ei X.K f)) (hr : Room (k + 1) X.A) (hb : KB X.K fd ps 1 [g] [0]) (hg : Gl X x) (hm : X.mg x = some (.ref (c.cl n))) (hkw : GK X c W ka kws (waCons a waNil)) (hn : n ∈ c.es := by decide) (hdb : (x == ("__debug__" : Str)) = false := by decide)
    (hall : (backToKw pos (keywordEach kws X.env)).all (·.1.isSome) = true := by rfl) (hks : (backToKw pos (keywordEach kws X.env)).filterMap (·.1) = [g] := by rfl) (hpl : ((backTo pos (starEach [] X.env)).any (·.1) || (backToKw pos (keywordEach kws X.env)).any (·.1.isNone)) = false := by rfl) (hx : X.ex = [] := by rfl) :
    GE X c W ka (.Call (.Name x p) [] kws pos) (wMkEA n f a) := L2.PE.imp (pe_of_mk (pmk_kw T iC tI G hr hb hg hm hkw hall hks hdb hpl) hx) fun σ H Q h => by
  obtain ⟨S, F, nn, I, μ, e, Qd, Xd, hl, he, hw, h, q, xv⟩ := h
  refine ⟨S, F, nn, I, μ, e, fun ds μ1 => one ds fun d => Qd (.err n [f] [d]) μ1, _, hl, he, hw, h, fun ds μ1 vs I1 H1 pa s1 w1 ra => ?_, xv⟩
  cases ra with
  | nil => exact pa.elim
  | cons r1 r2 =>
    cases r2 with
    | cons _ _ => exact pa.elim
    | nil =>
      rename_i d y
      refine ⟨rfl, fun b hb1 => ⟨b, _, y, rfl, T, hf, upd_same, fun dx h1 h2 => ⟨rfl, dx, [(f, y)], upd_same, ?_, ?_, ?_⟩⟩⟩
      · rw [upd_ne h2, upd_same]
      · rw [upd_ne h2] at h1
        exact h1
      · rw [upd_ne h2] at h1
        rw [exd_del hb1 h2]
        exact made_err (nn := 0) q s1 w1 h1 r1 hn pa
end
end DL

set_option Elab.async false
set_option linter.all false
set_option maxRecDepth 100000
set_option maxHeartbeats 4000000
/-! K01: the law k01, plainly. -/
namespace DL
open PySem L2
def wp_law_marks : WP := (wDef 1 2 (wSeq (wAsg 1 (wLst false (waCons (wCb false cbIsi (waCons (wV 0) (waCons (wK (.cls "BadRule")) waNil))) (waCons (wCb false cbIsi (waCons (wV 0) (waCons (wK (.cls "BadProgram")) waNil))) (waCons (wCb false cbIsi (waCons (wV 0) (waCons (wK (.cls "TooMany")) waNil))) waNil)))))
    (wSeq (wAsg 1 (wOp false oAdd (wV 1) (wLst false (waCons (wCb false cbIsi (waCons (wV 0) (waCons (wK (.cls "BadDeed")) waNil))) (waCons (wCb false cbIsi (waCons (wV 0) (waCons (wK (.cls "BadJournal")) waNil))) (waCons (wCb false cbIsi (waCons (wV 0) (waCons (wK (.cls "BadText")) waNil))) waNil))))))
    (wSeq (wAsg 1 (wOp false oAdd (wV 1) (wLst false (waCons (wCb false cbIsi (waCons (wV 0) (waCons (wK (.cls "BadPower")) waNil))) (waCons (wCb false cbIsi (waCons (wV 0) (waCons (wK (.cls "BadFormula")) waNil))) (waCons (wCb false cbIsi (waCons (wV 0) (waCons (wK (.cls "BadPair")) waNil))) waNil))))))
    (wSeq (wAsg 1 (wOp false oAdd (wV 1) (wLst false (waCons (wCb false cbIsi (waCons (wV 0) (waCons (wK (.cls "BadPoint")) waNil))) (waCons (wCb false cbIsi (waCons (wV 0) (waCons (wK (.cls "BadCount")) waNil))) (waCons (wCb false cbIsi (waCons (wV 0) (waCons (wK (.cls "NoCore")) waNil))) waNil))))))
    (wRet (wOp false oAdd (wV 1) (wLst false (waCons (wCb false cbIsi (waCons (wV 0) (waCons (wK (.cls "NothingLeft")) waNil))) waNil)))))))))
def wp_law_each : WP := (wDef 1 2 (wSeq (wAsg 1 (wLst false (waCons (wMkEA "BadRule" "at" (wV 0)) (waCons (wMkEA "BadProgram" "at" (wV 0)) (waCons (wMkEA "TooMany" "most" (wV 0)) (waCons (wMkEA "BadDeed" "deed" (wV 0)) (waCons (wMkEA "BadJournal" "at" (wV 0)) (waCons (wMkEA "BadText" "line" (wV 0)) waNil))))))))
    (wSeq (wAsg 1 (wOp false oAdd (wV 1) (wLst false (waCons (wMkE "BadPower") (waCons (wMkE "BadFormula") (waCons (wMkE "BadPair") (waCons (wMkE "BadPoint") waNil)))))))
    (wRet (wOp false oAdd (wV 1) (wLst false (waCons (wMkE "BadCount") (waCons (wMkE "NoCore") (waCons (wMkE "NothingLeft") waNil)))))))))
def wp_law_named : WP := (wDef 1 2 (wSeq (wAsg 1 (wLst false (waCons (wMkEA "BadRule" "at" (wV 0)) (waCons (wMkEA "BadProgram" "at" (wV 0)) (waCons (wMkEA "TooMany" "most" (wV 0)) (waCons (wMkEA "BadDeed" "deed" (wV 0)) waNil))))))
    (wRet (wOp false oAdd (wV 1) (wLst false (waCons (wMkEA "BadJournal" "at" (wV 0)) (waCons (wMkEA "BadText" "line" (wV 0)) waNil)))))))
def wp_law_bare : WP := (wDef 1 1 (wRet (wIf (wTst (wCb false cbIsi (waCons (wV 0) (waCons (wK (.cls "Rule")) waNil)))) (wLst false (waCons (wK (.str "Rule")) (waCons (wProp "Rule" "coefficients" wp_Rule_coefficients (wV 0)) waNil))) (wV 0))))
def wp_law_kept : WP := (wDef 1 3 (wSeq (wAsg 1 (wLst false (waCons (wErrF "at" (wOp false oIx (wV 0) (wK (.int 0)))) (waCons (wErrF "at" (wOp false oIx (wV 0) (wK (.int 1)))) (waCons (wErrF "most" (wOp false oIx (wV 0) (wK (.int 2)))) (waCons (wErrF "deed" (wOp false oIx (wV 0) (wK (.int 3)))) (waCons (wErrF "at" (wOp false oIx (wV 0) (wK (.int 4)))) (waCons (wErrF "line" (wOp false oIx (wV 0) (wK (.int 5)))) waNil))))))))
    (wRet (wLc false (wiSeq (wV 1)) (wgN 2) wYes (wCall wp_law_bare [] (waCons (wV 2) waNil)) [2]))))
def ws_0_0 : WS := (wPar 3 4 (waCons (wCall wp_law_odd [] (waCons (wV 1) waNil)) (waCons (wCall wp_law_pick [] (waCons (wV 1) (waCons (wLst false (waCons (wCall wp_law_odd [] (waCons (wV 1) waNil)) (waCons (wCall wp_law_take [] (waCons (wV 1) (waCons (wOp false oPow (wK (.int 10)) (wK (.int 9))) waNil))) waNil))) waNil))) waNil)))
def ws_0_1 : WS := (wPar 5 6 (waCons (wCall wp_law_each [] (waCons (wV 3) waNil)) (waCons (wCall wp_law_each [] (waCons (wV 4) waNil)) waNil)))
def ws_0_2 : WS := (wFor (wiEnum (waCons (wV 5) waNil)) (wgTup 2 (wgCons (wgN 7) (wgCons (wgN 8) wgNil))) (wSeq (wIfS (wOrT (wNotT (wTst (wCb false cbIsi (waCons (wV 8) (waCons (wK (.cls "CrossError")) waNil))))) (wNotT (wTst (wIsV (wV 8))))) (wRet (wK (.bool false))) wNext)
    (wIfS (wTst (wOp false oNe (wCall wp_law_marks [] (waCons (wV 8) waNil)) (wLc false (wiRng1 (waCons (wK (.int 13)) waNil)) (wgN 10) wYes (wOp false oEq (wV 10) (wV 7)) [10]))) (wRet (wK (.bool false))) wNext)))
def ws_0_3 : WS := (wAsg 9 (wCb false cbReprA (waCons (wOp false oMul (wLst false (waCons (wCall wp_law_bare [] (waCons (wV 3) waNil)) waNil)) (wK (.int 6))) waNil)))
def ws_0_4 : WS := (wIfS (wOrT (wTst (wOp false oNe (wCb false cbReprA (waCons (wCall wp_law_kept [] (waCons (wCall wp_law_named [] (waCons (wV 3) waNil)) waNil)) waNil)) (wV 9))) (wTst (wOp false oNe (wCb false cbReprA (waCons (wCall wp_law_kept [] (waCons (wV 5) waNil)) waNil)) (wV 9)))) (wRet (wK (.bool false))) wNext)
def ws_0_5 : WS := (wIfS (wTst (wOp false oNe (wCb false cbReprA (waCons (wCall wp_law_kept [] (waCons (wV 6) waNil)) waNil)) (wCb false cbReprA (waCons (wOp false oMul (wLst false (waCons (wCall wp_law_bare [] (waCons (wV 4) waNil)) waNil)) (wK (.int 6))) waNil)))) (wRet (wK (.bool false))) wNext)
def wb_0 : WS := (wSeq ws_0_0 (wSeq ws_0_1 (wSeq ws_0_2 (wSeq ws_0_3 (wSeq ws_0_4 ws_0_5)))))
def ws_0 : WS := wFor (wiRng1 (waCons (wOp false oAdd (wK (.int 3)) (wCb false cbMin2 (waCons (wCb false cbLen (waCons (wV 0) waNil)) (waCons (wK (.int 10)) waNil)))) waNil)) (wgN 2) wb_0
def ws_1 : WS := (wRet (wAnd (wOp false (oIn true) (wK (.bool true)) (wCall wp_law_marks [] (waCons (wMkE "CrossError") waNil))) (wIsV (wMkE "CrossError"))))
def wr_law : WS := (wSeq ws_0 ws_1)
/-- the thirteen errors of a value -/
def errs01 (x : D) : List D := [.err "BadRule" ["at"] [x], .err "BadProgram" ["at"] [x], .err "TooMany" ["most"] [x], .err "BadDeed" ["deed"] [x], .err "BadJournal" ["at"] [x], .err "BadText" ["line"] [x], .err "BadPower" [] [], .err "BadFormula" [] [], .err "BadPair" [] [], .err "BadPoint" [] [], .err "BadCount" [] [], .err "NoCore" [] [], .err "NothingLeft" [] []]
def nam01 : List Str := ["BadRule", "BadProgram", "TooMany", "BadDeed", "BadJournal", "BadText", "BadPower", "BadFormula", "BadPair", "BadPoint", "BadCount", "NoCore", "NothingLeft"]
def bare01 : D → D
  | .obj _ _ ds => .list [.str "Rule", ds.headD .none]
  | d => d
def six01 (x : D) : List D := (errs01 x).take 6
/-- a value that an error keeps -/
inductive Ov : D → Prop where
  | odd {x : D} (h : x ∈ oddL) : Ov x
  | num (i : Int) (h0 : 0 ≤ i) (h1 : i < 1000000000) : Ov (.int i)
def row01 (x : D) : D := .list (List.replicate 6 (bare01 x))
theorem odd01 : ∀ x ∈ oddL, tellA (row01 x) = true ∧ (pdA (row01 x)).depth ≤ 60 ∧ (pdA (row01 x)).shown.length ≤ 100000 := by decide +kernel
theorem nine01 : (10 : Int) ^ (9 : Int).toNat = 1000000000 := by decide +kernel
theorem pow901 : CPowW 10 9 := ⟨by decide, by decide +kernel⟩
section
variable {μ : Mu} {Q X : QD} {QQ : QR} {E : WEnds} {sc : List Int} {a2 a3 a4 a5 a6 a7 a8 a9 a10 : Option D} {x y : D} {n : Str} {fs : List Str} {ds : List D}
theorem isE {m : Str} : cbIsi [.err n fs ds, .cls m] μ QQ X = QQ (.v (.bool (subCC n m))) μ := propext Iff.rfl
theorem ok_marks (k : Q (.list (nam01.map fun m => D.bool (subCC n m))) μ) : wp_law_marks [.err n fs ds] μ Q X := by
  unfold wp_law_marks
  simp only [Jbu, initE, Jct, Jcg, Jbk, Jbl, Jbz, Jco, Jcp, Jc5, Jcm, Jbm, Jcv, Jbn, Jbt, Jd7, Jd8, Jd6, Jd9, Jdd, Jdb, Jdc, Jda, Jc2, Jc8, Jd1, Jd0, Jc7, Jcj, Jcz, Jcy, Jcb, Jbr, Jcx, Jci, Jbj, Jcl, Jc4, Jbi, Jck, Jch, Jd3, Jd2, Jd5, Jbo, Jcd, Jcn, Jc1, Jcu, Jcc, Jbp, Jcq, Jcw, Jde, Jdf, Jc9, Jcr, Jcs, Jc3, Jbq, Jc0, Jbw, Jca, gt, st, Jbb, Jb9, Jba, Jb7, Jbh, Ja5, atI0, atI1, atI2, atI3, atI4, ixN20, ixN21, List.map_cons, List.map_nil, List.cons_append, List.nil_append, List.append_nil, List.length_cons, List.length_nil, List.replicate_succ, List.replicate_zero, Nat.add_one_sub_one, Jd4, Jbs, Jbx, Jby, Jbv, Jae, Jag, Jah, Jaf, Jb6, Jav, Jaw, Jak, Jau, Jb3, Jat, Jas, Jam, Jal, Jb1, Jai, Jaj, Jaz, Jb0, Jap, Jb2, Jaq, Jar, Jan, Jao, Jb5, Jb4, Ja7, Ja8, Jac, Jab, Ja0, Ja9, Jaa, Jbf, Jbg, Ja6, Jad, Jbc, Jbe, Jbd, Jb8, Ja2, Ja1, Ja4, Ja3, Jax, Jay, decide_true, decide_false, Bool.not_true, Bool.not_false, Bool.false_eq_true, if_true, if_false, true_and, isE, oAdd, seqL]
  refine ⟨by rw [sizeLine_eq]; decide, by rw [sizeLine_eq]; decide, by rw [sizeLine_eq]; decide, by rw [sizeLine_eq]; decide, by rw [sizeLine_eq]; decide, by rw [sizeLine_eq]; decide, by rw [sizeLine_eq]; decide, by rw [sizeLine_eq]; decide, by rw [sizeLine_eq]; decide, ?_⟩
  exact k
theorem ok_each (k : Q (.list (errs01 x)) μ) : wp_law_each [x] μ Q X := by
  unfold wp_law_each
  simp only [Jce, Jcf, Jbu, initE, Jct, Jcg, Jbk, Jbl, Jbz, Jco, Jcp, Jc5, Jcm, Jbm, Jcv, Jbn, Jbt, Jd7, Jd8, Jd6, Jd9, Jdd, Jdb, Jdc, Jda, Jc2, Jc8, Jd1, Jd0, Jc7, Jcj, Jcz, Jcy, Jcb, Jbr, Jcx, Jci, Jbj, Jcl, Jc4, Jbi, Jck, Jch, Jd3, Jd2, Jd5, Jbo, Jcd, Jcn, Jc1, Jcu, Jcc, Jbp, Jcq, Jcw, Jde, Jdf, Jc9, Jcr, Jcs, Jc3, Jbq, Jc0, Jbw, Jca, gt, st, Jbb, Jb9, Jba, Jb7, Jbh, Ja5, atI0, atI1, atI2, atI3, atI4, ixN20, ixN21, List.map_cons, List.map_nil, List.cons_append, List.nil_append, List.append_nil, List.length_cons, List.length_nil, List.replicate_succ, List.replicate_zero, Nat.add_one_sub_one, Jd4, Jbs, Jbx, Jby, Jbv, Jae, Jag, Jah, Jaf, Jb6, Jav, Jaw, Jak, Jau, Jb3, Jat, Jas, Jam, Jal, Jb1, Jai, Jaj, Jaz, Jb0, Jap, Jb2, Jaq, Jar, Jan, Jao, Jb5, Jb4, Ja7, Ja8, Jac, Jab, Ja0, Ja9, Jaa, Jbf, Jbg, Ja6, Jad, Jbc, Jbe, Jbd, Jb8, Ja2, Ja1, Ja4, Ja3, Jax, Jay, decide_true, decide_false, Bool.not_true, Bool.not_false, Bool.false_eq_true, if_true, if_false, true_and, oAdd, seqL]
  refine ⟨by rw [sizeLine_eq]; decide, by rw [sizeLine_eq]; decide, by rw [sizeLine_eq]; decide, by rw [sizeLine_eq]; decide, by rw [sizeLine_eq]; decide, ?_⟩
  exact k
theorem ok_named (k : Q (.list (six01 x)) μ) : wp_law_named [x] μ Q X := by
  unfold wp_law_named
  simp only [Jce, Jcf, Jbu, initE, Jct, Jcg, Jbk, Jbl, Jbz, Jco, Jcp, Jc5, Jcm, Jbm, Jcv, Jbn, Jbt, Jd7, Jd8, Jd6, Jd9, Jdd, Jdb, Jdc, Jda, Jc2, Jc8, Jd1, Jd0, Jc7, Jcj, Jcz, Jcy, Jcb, Jbr, Jcx, Jci, Jbj, Jcl, Jc4, Jbi, Jck, Jch, Jd3, Jd2, Jd5, Jbo, Jcd, Jcn, Jc1, Jcu, Jcc, Jbp, Jcq, Jcw, Jde, Jdf, Jc9, Jcr, Jcs, Jc3, Jbq, Jc0, Jbw, Jca, gt, st, Jbb, Jb9, Jba, Jb7, Jbh, Ja5, atI0, atI1, atI2, atI3, atI4, ixN20, ixN21, List.map_cons, List.map_nil, List.cons_append, List.nil_append, List.append_nil, List.length_cons, List.length_nil, List.replicate_succ, List.replicate_zero, Nat.add_one_sub_one, Jd4, Jbs, Jbx, Jby, Jbv, Jae, Jag, Jah, Jaf, Jb6, Jav, Jaw, Jak, Jau, Jb3, Jat, Jas, Jam, Jal, Jb1, Jai, Jaj, Jaz, Jb0, Jap, Jb2, Jaq, Jar, Jan, Jao, Jb5, Jb4, Ja7, Ja8, Jac, Jab, Ja0, Ja9, Jaa, Jbf, Jbg, Ja6, Jad, Jbc, Jbe, Jbd, Jb8, Ja2, Ja1, Ja4, Ja3, Jax, Jay, decide_true, decide_false, Bool.not_true, Bool.not_false, Bool.false_eq_true, if_true, if_false, true_and, oAdd, seqL]
  refine ⟨by rw [sizeLine_eq]; decide, by rw [sizeLine_eq]; decide, by rw [sizeLine_eq]; decide, ?_⟩
  exact k
theorem ok_bare (h : Ov x) (k : Q (bare01 x) μ) : wp_law_bare [x] μ Q X := by
  have go : ∀ {t : TyD}, tyF x = some t → isiD t (.cls "Rule") = some false → Q x μ → wp_law_bare [x] μ Q X := fun {t} ht hi k => by
    unfold wp_law_bare
    simp only [Jbu, initE, Jct, Jcg, Jbk, Jbl, Jbz, Jco, Jcp, Jc5, Jcm, Jbm, Jcv, Jbn, Jbt, Jd7, Jd8, Jd6, Jd9, Jdd, Jdb, Jdc, Jda, Jc2, Jc8, Jd1, Jd0, Jc7, Jcj, Jcz, Jcy, Jcb, Jbr, Jcx, Jci, Jbj, Jcl, Jc4, Jbi, Jck, Jch, Jd3, Jd2, Jd5, Jbo, Jcd, Jcn, Jc1, Jcu, Jcc, Jbp, Jcq, Jcw, Jde, Jdf, Jc9, Jcr, Jcs, Jc3, Jbq, Jc0, Jbw, Jca, gt, st, Jbb, Jb9, Jba, Jb7, Jbh, Ja5, atI0, atI1, atI2, atI3, atI4, ixN20, ixN21, List.map_cons, List.map_nil, List.cons_append, List.nil_append, List.append_nil, List.length_cons, List.length_nil, List.replicate_succ, List.replicate_zero, Nat.add_one_sub_one, Jd4, Jbs, Jbx, Jby, Jbv, Jae, Jag, Jah, Jaf, Jb6, Jav, Jaw, Jak, Jau, Jb3, Jat, Jas, Jam, Jal, Jb1, Jai, Jaj, Jaz, Jb0, Jap, Jb2, Jaq, Jar, Jan, Jao, Jb5, Jb4, Ja7, Ja8, Jac, Jab, Ja0, Ja9, Jaa, Jbf, Jbg, Ja6, Jad, Jbc, Jbe, Jbd, Jb8, Ja2, Ja1, Ja4, Ja3, Jax, Jay, decide_true, decide_false, Bool.not_true, Bool.not_false, Bool.false_eq_true, if_true, if_false, true_and, cbIsi, two, tyF_tyD ht μ, hi]
    exact k
  cases h with
  | num i h0 h1 => exact go (t := .b "int") rfl rfl k
  | odd h =>
    simp only [oddL, List.mem_cons, List.not_mem_nil, or_false] at h
    rcases h with rfl | rfl | rfl | rfl | rfl | rfl | rfl | rfl | rfl | rfl | rfl | rfl | rfl | rfl | rfl | rfl | rfl | rfl | rfl | rfl | rfl | rfl | rfl | rfl | rfl
    all_goals first
      | exact go rfl rfl k
      | skip
    unfold wp_law_bare
    have e : cbIsi [ruleD [1], .cls "Rule"] μ = fun QQ _ => QQ (.v (.bool true)) μ := by
      funext QQ X
      exact propext Iff.rfl
    simp only [Jbu, initE, Jct, Jcg, Jbk, Jbl, Jbz, Jco, Jcp, Jc5, Jcm, Jbm, Jcv, Jbn, Jbt, Jd7, Jd8, Jd6, Jd9, Jdd, Jdb, Jdc, Jda, Jc2, Jc8, Jd1, Jd0, Jc7, Jcj, Jcz, Jcy, Jcb, Jbr, Jcx, Jci, Jbj, Jcl, Jc4, Jbi, Jck, Jch, Jd3, Jd2, Jd5, Jbo, Jcd, Jcn, Jc1, Jcu, Jcc, Jbp, Jcq, Jcw, Jde, Jdf, Jc9, Jcr, Jcs, Jc3, Jbq, Jc0, Jbw, Jca, gt, st, Jbb, Jb9, Jba, Jb7, Jbh, Ja5, atI0, atI1, atI2, atI3, atI4, ixN20, ixN21, List.map_cons, List.map_nil, List.cons_append, List.nil_append, List.append_nil, List.length_cons, List.length_nil, List.replicate_succ, List.replicate_zero, Nat.add_one_sub_one, Jd4, Jbs, Jbx, Jby, Jbv, Jae, Jag, Jah, Jaf, Jb6, Jav, Jaw, Jak, Jau, Jb3, Jat, Jas, Jam, Jal, Jb1, Jai, Jaj, Jaz, Jb0, Jap, Jb2, Jaq, Jar, Jan, Jao, Jb5, Jb4, Ja7, Ja8, Jac, Jab, Ja0, Ja9, Jaa, Jbf, Jbg, Ja6, Jad, Jbc, Jbe, Jbd, Jb8, Ja2, Ja1, Ja4, Ja3, Jax, Jay, decide_true, decide_false, Bool.not_true, Bool.not_false, Bool.false_eq_true, if_true, if_false, true_and, e]
    refine ⟨rfl, by decide, ok_Rule_coefficients ?_⟩
    exact ⟨by rw [sizeLine_eq]; decide, k⟩
theorem rep01 (h : Ov x) (q : QQ (.v (.str (pdA (row01 x)).shown)) μ) : cbReprA [row01 x] μ QQ X := by
  cases h with
  | odd h =>
    obtain ⟨h1, h2, h3⟩ := odd01 x h
    exact ⟨h1, h2, Nat.le_trans h3 (by rw [sizeLine_eq]; decide), q⟩
  | num i h0 h1 =>
    have hb : i.natAbs < 10 ^ 500 := Nat.lt_of_lt_of_le (show i.natAbs < 10 ^ 9 by omega) (Nat.pow_le_pow_right (by decide) (by decide))
    have e : pdA (row01 (.int i)) = .list (pds (([i, i, i, i, i, i] : List Int).map D.int)) := rfl
    have sh := sh_list (m := 6) (sh_ints (L := 501) (k := 0) (ns := [i, i, i, i, i, i]) (fun n hn => by
      simp only [List.mem_cons, List.not_mem_nil, or_false] at hn
      rcases hn with rfl | rfl | rfl | rfl | rfl | rfl <;> exact hb) (Nat.le_refl _)) (Nat.le_refl 6)
    have hl : i.natAbs.log2 < 12900 := by
      by_cases z : i.natAbs = 0
      · rw [z]
        decide
      · exact (Nat.log2_lt z).mpr (Nat.lt_of_lt_of_le (show i.natAbs < 10 ^ 9 by omega) (by decide +kernel))
    refine ⟨?_, ?_, ?_, q⟩
    · show tellAs [.int i, .int i, .int i, .int i, .int i, .int i] = true
      simp [tellAs, tellA, hl]
    · rw [e]
      exact Nat.le_trans sh.dep (by decide)
    · rw [e]
      exact Nat.le_trans sh.len (by rw [sizeLine_eq]; decide)
theorem ok_kept_of (h : Ov x) (es : List D) (hes : es = errs01 x ∨ es = six01 x) (k : Q (row01 x) μ) : wp_law_kept [.list es] μ Q X := by
  unfold wp_law_kept
  have a0 : atI es 0 = some (.err "BadRule" ["at"] [x]) := by rcases hes with rfl | rfl <;> rfl
  have a1 : atI es 1 = some (.err "BadProgram" ["at"] [x]) := by rcases hes with rfl | rfl <;> rfl
  have a2 : atI es 2 = some (.err "TooMany" ["most"] [x]) := by rcases hes with rfl | rfl <;> rfl
  have a3 : atI es 3 = some (.err "BadDeed" ["deed"] [x]) := by rcases hes with rfl | rfl <;> rfl
  have a4 : atI es 4 = some (.err "BadJournal" ["at"] [x]) := by rcases hes with rfl | rfl <;> rfl
  have a5 : atI es 5 = some (.err "BadText" ["line"] [x]) := by rcases hes with rfl | rfl <;> rfl
  simp only [Jbu, initE, Jct, Jcg, Jbk, Jbl, Jbz, Jco, Jcp, Jc5, Jcm, Jbm, Jcv, Jbn, Jbt, Jd7, Jd8, Jd6, Jd9, Jdd, Jdb, Jdc, Jda, Jc2, Jc8, Jd1, Jd0, Jc7, Jcj, Jcz, Jcy, Jcb, Jbr, Jcx, Jci, Jbj, Jcl, Jc4, Jbi, Jck, Jch, Jd3, Jd2, Jd5, Jbo, Jcd, Jcn, Jc1, Jcu, Jcc, Jbp, Jcq, Jcw, Jde, Jdf, Jc9, Jcr, Jcs, Jc3, Jbq, Jc0, Jbw, Jca, gt, st, Jbb, Jb9, Jba, Jb7, Jbh, Ja5, atI0, atI1, atI2, atI3, atI4, ixN20, ixN21, List.map_cons, List.map_nil, List.cons_append, List.nil_append, List.append_nil, List.length_cons, List.length_nil, List.replicate_succ, List.replicate_zero, Nat.add_one_sub_one, Jd4, Jbs, Jbx, Jby, Jbv, Jae, Jag, Jah, Jaf, Jb6, Jav, Jaw, Jak, Jau, Jb3, Jat, Jas, Jam, Jal, Jb1, Jai, Jaj, Jaz, Jb0, Jap, Jb2, Jaq, Jar, Jan, Jao, Jb5, Jb4, Ja7, Ja8, Jac, Jab, Ja0, Ja9, Jaa, Jbf, Jbg, Ja6, Jad, Jbc, Jbe, Jbd, Jb8, Ja2, Ja1, Ja4, Ja3, Jax, Jay, decide_true, decide_false, Bool.not_true, Bool.not_false, Bool.false_eq_true, if_true, if_false, true_and, a0, a1, a2, a3, a4, a5, fldD]
  refine ⟨by rw [sizeLine_eq]; decide, by rw [sizeLine_eq]; decide, lc_inv (fun i acc μ' => μ' = μ ∧ acc = List.replicate i (bare01 x)) ⟨rfl, rfl⟩ ?_ ?_⟩
  · rintro i y acc μ' N hy ⟨rfl, rfl⟩ hN
    have e : y = x := by
      have := List.mem_of_getElem? hy
      simp only [List.mem_cons, List.not_mem_nil, or_false] at this
      rcases this with rfl | rfl | rfl | rfl | rfl | rfl <;> rfl
    subst e
    refine ⟨trivial, ?_⟩
    simp only [Jbu, initE, Jct, Jcg, Jbk, Jbl, Jbz, Jco, Jcp, Jc5, Jcm, Jbm, Jcv, Jbn, Jbt, Jd7, Jd8, Jd6, Jd9, Jdd, Jdb, Jdc, Jda, Jc2, Jc8, Jd1, Jd0, Jc7, Jcj, Jcz, Jcy, Jcb, Jbr, Jcx, Jci, Jbj, Jcl, Jc4, Jbi, Jck, Jch, Jd3, Jd2, Jd5, Jbo, Jcd, Jcn, Jc1, Jcu, Jcc, Jbp, Jcq, Jcw, Jde, Jdf, Jc9, Jcr, Jcs, Jc3, Jbq, Jc0, Jbw, Jca, gt, st, Jbb, Jb9, Jba, Jb7, Jbh, Ja5, atI0, atI1, atI2, atI3, atI4, ixN20, ixN21, List.map_cons, List.map_nil, List.cons_append, List.nil_append, List.append_nil, List.length_cons, List.length_nil, List.replicate_succ, List.replicate_zero, Nat.add_one_sub_one, Jd4, Jbs, Jbx, Jby, Jbv, Jae, Jag, Jah, Jaf, Jb6, Jav, Jaw, Jak, Jau, Jb3, Jat, Jas, Jam, Jal, Jb1, Jai, Jaj, Jaz, Jb0, Jap, Jb2, Jaq, Jar, Jan, Jao, Jb5, Jb4, Ja7, Ja8, Jac, Jab, Ja0, Ja9, Jaa, Jbf, Jbg, Ja6, Jad, Jbc, Jbe, Jbd, Jb8, Ja2, Ja1, Ja4, Ja3, Jax, Jay, decide_true, decide_false, Bool.not_true, Bool.not_false, Bool.false_eq_true, if_true, if_false, true_and, wipeE]
    exact ok_bare h (hN _ _ ⟨rfl, by rw [List.replicate_succ']⟩)
  · rintro acc μ' ⟨rfl, rfl⟩
    exact ⟨trivial, k⟩
theorem s0_ok (k : ∀ x y, Ov x → Ov y → E.nx [some (.script sc), some .state, a2, some x, some y, a5, a6, a7, a8, a9, a10] μ) : ws_0_0 [some (.script sc), some .state, a2, a3, a4, a5, a6, a7, a8, a9, a10] μ E := by
  unfold ws_0_0
  simp only [Jbu, initE, Jct, Jcg, Jbk, Jbl, Jbz, Jco, Jcp, Jc5, Jcm, Jbm, Jcv, Jbn, Jbt, Jd7, Jd8, Jd6, Jd9, Jdd, Jdb, Jdc, Jda, Jc2, Jc8, Jd1, Jd0, Jc7, Jcj, Jcz, Jcy, Jcb, Jbr, Jcx, Jci, Jbj, Jcl, Jc4, Jbi, Jck, Jch, Jd3, Jd2, Jd5, Jbo, Jcd, Jcn, Jc1, Jcu, Jcc, Jbp, Jcq, Jcw, Jde, Jdf, Jc9, Jcr, Jcs, Jc3, Jbq, Jc0, Jbw, Jca, gt, st, Jbb, Jb9, Jba, Jb7, Jbh, Ja5, atI0, atI1, atI2, atI3, atI4, ixN20, ixN21, List.map_cons, List.map_nil, List.cons_append, List.nil_append, List.append_nil, List.length_cons, List.length_nil, List.replicate_succ, List.replicate_zero, Nat.add_one_sub_one, Jd4, Jbs, Jbx, Jby, Jbv, Jae, Jag, Jah, Jaf, Jb6, Jav, Jaw, Jak, Jau, Jb3, Jat, Jas, Jam, Jal, Jb1, Jai, Jaj, Jaz, Jb0, Jap, Jb2, Jaq, Jar, Jan, Jao, Jb5, Jb4, Ja7, Ja8, Jac, Jab, Ja0, Ja9, Jaa, Jbf, Jbg, Ja6, Jad, Jbc, Jbe, Jbd, Jb8, Ja2, Ja1, Ja4, Ja3, Jax, Jay, decide_true, decide_false, Bool.not_true, Bool.not_false, Bool.false_eq_true, if_true, if_false, true_and, nine01]
  refine ok_law_odd fun x hx => ?_
  refine ok_law_odd fun y hy => ?_
  refine ⟨pow901, ok_take (by decide) (Nat.lt_of_lt_of_le (by decide : (1000000000 : Int).natAbs < 2 ^ 63) (Nat.pow_le_pow_right (by decide) (by decide))) fun i i0 i1 => ?_⟩
  refine ⟨by rw [sizeLine_eq]; decide, ok_pick rfl (fun z => by cases z) (by show 2 ≤ 2 ^ 60; decide) fun z hz => ?_⟩
  simp only [List.mem_cons, List.not_mem_nil, or_false] at hz
  rcases hz with rfl | rfl
  · exact k x _ (.odd hx) (.odd hy)
  · exact k x (.int i) (.odd hx) (.num i i0 i1)
theorem s1_ok (k : E.nx [some (.script sc), some .state, a2, some x, some y, some (.list (errs01 x)), some (.list (errs01 y)), a7, a8, a9, a10] μ) : ws_0_1 [some (.script sc), some .state, a2, some x, some y, a5, a6, a7, a8, a9, a10] μ E := by
  unfold ws_0_1
  simp only [Jbu, initE, Jct, Jcg, Jbk, Jbl, Jbz, Jco, Jcp, Jc5, Jcm, Jbm, Jcv, Jbn, Jbt, Jd7, Jd8, Jd6, Jd9, Jdd, Jdb, Jdc, Jda, Jc2, Jc8, Jd1, Jd0, Jc7, Jcj, Jcz, Jcy, Jcb, Jbr, Jcx, Jci, Jbj, Jcl, Jc4, Jbi, Jck, Jch, Jd3, Jd2, Jd5, Jbo, Jcd, Jcn, Jc1, Jcu, Jcc, Jbp, Jcq, Jcw, Jde, Jdf, Jc9, Jcr, Jcs, Jc3, Jbq, Jc0, Jbw, Jca, gt, st, Jbb, Jb9, Jba, Jb7, Jbh, Ja5, atI0, atI1, atI2, atI3, atI4, ixN20, ixN21, List.map_cons, List.map_nil, List.cons_append, List.nil_append, List.append_nil, List.length_cons, List.length_nil, List.replicate_succ, List.replicate_zero, Nat.add_one_sub_one, Jd4, Jbs, Jbx, Jby, Jbv, Jae, Jag, Jah, Jaf, Jb6, Jav, Jaw, Jak, Jau, Jb3, Jat, Jas, Jam, Jal, Jb1, Jai, Jaj, Jaz, Jb0, Jap, Jb2, Jaq, Jar, Jan, Jao, Jb5, Jb4, Ja7, Ja8, Jac, Jab, Ja0, Ja9, Jaa, Jbf, Jbg, Ja6, Jad, Jbc, Jbe, Jbd, Jb8, Ja2, Ja1, Ja4, Ja3, Jax, Jay, decide_true, decide_false, Bool.not_true, Bool.not_false, Bool.false_eq_true, if_true, if_false, true_and]
  refine ok_each ?_
  refine ok_each ?_
  exact k
theorem err_at {i : Nat} {d : D} (h : (errs01 x)[i]? = some d) : i < 13 ∧ ∃ fs ds, d = .err (nam01.getD i "") fs ds := by
  have hi : i < 13 := (List.getElem?_eq_some_iff.mp h).1
  refine ⟨hi, ?_⟩
  rcases i with _ | _ | _ | _ | _ | _ | _ | _ | _ | _ | _ | _ | _ | i
  all_goals first
    | exact ⟨_, _, (Option.some.inj h).symm⟩
    | omega
def due01 (i : Nat) : List D := (List.range 13).map fun (k : Nat) => D.bool (decide ((k : Int) = (i : Int)))
theorem due_eq : ∀ i, i < 13 → nam01.map (fun m => D.bool (subCC (nam01.getD i "") m)) = due01 i := by
  intro i hi
  rcases i with _ | _ | _ | _ | _ | _ | _ | _ | _ | _ | _ | _ | _ | i
  all_goals first
    | rfl
    | omega
theorem top_eq : ∀ i, i < 13 → subCC (nam01.getD i "") "CrossError" = true := by decide +kernel
theorem due_shape : ∀ i, i < 13 → SeqAt.shaped (pd (.list (due01 i))) = true := by decide +kernel
theorem ne_due {i : Nat} (hi : i < 13) (q : QQ (.v (.bool false)) μ) : oNe (.list (due01 i)) (.list (due01 i)) μ QQ X := by
  have sh := due_shape i hi
  show eqG (.list (due01 i)) (.list (due01 i)) fun b => QQ (.v (.bool (!b))) μ
  refine ⟨⟨?_, ?_, sh, sh⟩, ?_⟩
  · rcases i with _ | _ | _ | _ | _ | _ | _ | _ | _ | _ | _ | _ | _ | i
    all_goals first
      | rfl
      | omega
  · rcases i with _ | _ | _ | _ | _ | _ | _ | _ | _ | _ | _ | _ | _ | i
    all_goals first
      | rfl
      | omega
  show QQ (.v (.bool (!(PyData.eqv (pd (.list (due01 i))) (pd (.list (due01 i))))))) μ
  rw [PySem.SeqAt.eqv_refl _ (SeqAt.canLay_of_shaped sh)]
  exact q
theorem s2_ok (k : ∀ (x7 x8 x10 : Option D), E.nx [some (.script sc), some .state, a2, some x, some y, some (.list (errs01 x)), some (.list (errs01 y)), x7, x8, a9, x10] μ) : ws_0_2 [some (.script sc), some .state, a2, some x, some y, some (.list (errs01 x)), some (.list (errs01 y)), a7, a8, a9, a10] μ E := by
  unfold ws_0_2
  simp only [Jbu, initE, Jct, Jcg, Jbk, Jbl, Jbz, Jco, Jcp, Jc5, Jcm, Jbm, Jcv, Jbn, Jbt, Jd7, Jd8, Jd6, Jd9, Jdd, Jdb, Jdc, Jda, Jc2, Jc8, Jd1, Jd0, Jc7, Jcj, Jcz, Jcy, Jcb, Jbr, Jcx, Jci, Jbj, Jcl, Jc4, Jbi, Jck, Jch, Jd3, Jd2, Jd5, Jbo, Jcd, Jcn, Jc1, Jcu, Jcc, Jbp, Jcq, Jcw, Jde, Jdf, Jc9, Jcr, Jcs, Jc3, Jbq, Jc0, Jbw, Jca, gt, st, Jbb, Jb9, Jba, Jb7, Jbh, Ja5, atI0, atI1, atI2, atI3, atI4, ixN20, ixN21, List.map_cons, List.map_nil, List.cons_append, List.nil_append, List.append_nil, List.length_cons, List.length_nil, List.replicate_succ, List.replicate_zero, Nat.add_one_sub_one, Jd4, Jbs, Jbx, Jby, Jbv, Jae, Jag, Jah, Jaf, Jb6, Jav, Jaw, Jak, Jau, Jb3, Jat, Jas, Jam, Jal, Jb1, Jai, Jaj, Jaz, Jb0, Jap, Jb2, Jaq, Jar, Jan, Jao, Jb5, Jb4, Ja7, Ja8, Jac, Jab, Ja0, Ja9, Jaa, Jbf, Jbg, Ja6, Jad, Jbc, Jbe, Jbd, Jb8, Ja2, Ja1, Ja4, Ja3, Jax, Jay, decide_true, decide_false, Bool.not_true, Bool.not_false, Bool.false_eq_true, if_true, if_false, true_and]
  refine ⟨by rw [enumD_len]; show 13 ≤ 2 ^ 63; decide, for_inv (fun i e μ' => μ' = μ ∧ ∃ (x7 x8 x10 : Option D), e = [some (.script sc), some .state, a2, some x, some y, some (.list (errs01 x)), some (.list (errs01 y)), x7, x8, a9, x10]) ⟨rfl, _, _, _, rfl⟩ ?_ ?_⟩
  · rintro i z e μ' N hz ⟨rfl, x7, x8, x10, rfl⟩ hN
    obtain ⟨d, hd, rfl⟩ := enum_get hz
    obtain ⟨hi, fs, ds, rfl⟩ := err_at hd
    refine ⟨trivial, ?_⟩
    simp only [Jc6, Jbu, initE, Jct, Jcg, Jbk, Jbl, Jbz, Jco, Jcp, Jc5, Jcm, Jbm, Jcv, Jbn, Jbt, Jd7, Jd8, Jd6, Jd9, Jdd, Jdb, Jdc, Jda, Jc2, Jc8, Jd1, Jd0, Jc7, Jcj, Jcz, Jcy, Jcb, Jbr, Jcx, Jci, Jbj, Jcl, Jc4, Jbi, Jck, Jch, Jd3, Jd2, Jd5, Jbo, Jcd, Jcn, Jc1, Jcu, Jcc, Jbp, Jcq, Jcw, Jde, Jdf, Jc9, Jcr, Jcs, Jc3, Jbq, Jc0, Jbw, Jca, gt, st, Jbb, Jb9, Jba, Jb7, Jbh, Ja5, atI0, atI1, atI2, atI3, atI4, ixN20, ixN21, List.map_cons, List.map_nil, List.cons_append, List.nil_append, List.append_nil, List.length_cons, List.length_nil, List.replicate_succ, List.replicate_zero, Nat.add_one_sub_one, Jd4, Jbs, Jbx, Jby, Jbv, Jae, Jag, Jah, Jaf, Jb6, Jav, Jaw, Jak, Jau, Jb3, Jat, Jas, Jam, Jal, Jb1, Jai, Jaj, Jaz, Jb0, Jap, Jb2, Jaq, Jar, Jan, Jao, Jb5, Jb4, Ja7, Ja8, Jac, Jab, Ja0, Ja9, Jaa, Jbf, Jbg, Ja6, Jad, Jbc, Jbe, Jbd, Jb8, Ja2, Ja1, Ja4, Ja3, Jax, Jay, decide_true, decide_false, Bool.not_true, Bool.not_false, Bool.false_eq_true, if_true, if_false, true_and, isE, top_eq i hi, sqD]
    refine ok_marks ?_
    rw [due_eq i hi]
    refine ⟨⟨by decide, by decide⟩, by rw [rangeD_len, sizeLine_eq]; decide, lc_inv (fun j acc μ2 => μ2 = μ' ∧ acc = (List.range j).map fun (k : Nat) => D.bool (decide ((k : Int) = (i : Int)))) ⟨rfl, rfl⟩ ?_ ?_⟩
    · rintro j z acc μ2 M hz2 ⟨rfl, rfl⟩ hM
      have ez : z = .int (j : Int) := by
        have e : (rangeD 0 13)[j]? = some z := hz2
        have hj : j < 13 := by
          have := (List.getElem?_eq_some_iff.mp e).1
          rw [rangeD_len] at this
          exact this
        unfold rangeD at e
        rw [List.getElem?_map, List.getElem?_range hj] at e
        have e2 : D.int (0 + (j : Int)) = z := Option.some.inj e
        rw [← e2, Int.zero_add]
      subst ez
      refine ⟨trivial, ?_⟩
      simp only [Jbu, initE, Jct, Jcg, Jbk, Jbl, Jbz, Jco, Jcp, Jc5, Jcm, Jbm, Jcv, Jbn, Jbt, Jd7, Jd8, Jd6, Jd9, Jdd, Jdb, Jdc, Jda, Jc2, Jc8, Jd1, Jd0, Jc7, Jcj, Jcz, Jcy, Jcb, Jbr, Jcx, Jci, Jbj, Jcl, Jc4, Jbi, Jck, Jch, Jd3, Jd2, Jd5, Jbo, Jcd, Jcn, Jc1, Jcu, Jcc, Jbp, Jcq, Jcw, Jde, Jdf, Jc9, Jcr, Jcs, Jc3, Jbq, Jc0, Jbw, Jca, gt, st, Jbb, Jb9, Jba, Jb7, Jbh, Ja5, atI0, atI1, atI2, atI3, atI4, ixN20, ixN21, List.map_cons, List.map_nil, List.cons_append, List.nil_append, List.append_nil, List.length_cons, List.length_nil, List.replicate_succ, List.replicate_zero, Nat.add_one_sub_one, Jd4, Jbs, Jbx, Jby, Jbv, Jae, Jag, Jah, Jaf, Jb6, Jav, Jaw, Jak, Jau, Jb3, Jat, Jas, Jam, Jal, Jb1, Jai, Jaj, Jaz, Jb0, Jap, Jb2, Jaq, Jar, Jan, Jao, Jb5, Jb4, Ja7, Ja8, Jac, Jab, Ja0, Ja9, Jaa, Jbf, Jbg, Ja6, Jad, Jbc, Jbe, Jbd, Jb8, Ja2, Ja1, Ja4, Ja3, Jax, Jay, decide_true, decide_false, Bool.not_true, Bool.not_false, Bool.false_eq_true, if_true, if_false, true_and, wipeE]
      refine hM _ _ ⟨rfl, ?_⟩
      rw [List.range_succ, List.map_append]
      rfl
    · rintro acc μ2 ⟨rfl, rfl⟩
      refine ⟨trivial, ?_⟩
      have e : ((List.range (rangeD 0 (Int.toNat 13)).length).map fun (k : Nat) => D.bool (decide ((k : Int) = (i : Int)))) = due01 i := by
        rw [rangeD_len]
        rfl
      rw [e]
      refine ne_due hi ?_
      simp only [Jbu, initE, Jct, Jcg, Jbk, Jbl, Jbz, Jco, Jcp, Jc5, Jcm, Jbm, Jcv, Jbn, Jbt, Jd7, Jd8, Jd6, Jd9, Jdd, Jdb, Jdc, Jda, Jc2, Jc8, Jd1, Jd0, Jc7, Jcj, Jcz, Jcy, Jcb, Jbr, Jcx, Jci, Jbj, Jcl, Jc4, Jbi, Jck, Jch, Jd3, Jd2, Jd5, Jbo, Jcd, Jcn, Jc1, Jcu, Jcc, Jbp, Jcq, Jcw, Jde, Jdf, Jc9, Jcr, Jcs, Jc3, Jbq, Jc0, Jbw, Jca, gt, st, Jbb, Jb9, Jba, Jb7, Jbh, Ja5, atI0, atI1, atI2, atI3, atI4, ixN20, ixN21, List.map_cons, List.map_nil, List.cons_append, List.nil_append, List.append_nil, List.length_cons, List.length_nil, List.replicate_succ, List.replicate_zero, Nat.add_one_sub_one, Jd4, Jbs, Jbx, Jby, Jbv, Jae, Jag, Jah, Jaf, Jb6, Jav, Jaw, Jak, Jau, Jb3, Jat, Jas, Jam, Jal, Jb1, Jai, Jaj, Jaz, Jb0, Jap, Jb2, Jaq, Jar, Jan, Jao, Jb5, Jb4, Ja7, Ja8, Jac, Jab, Ja0, Ja9, Jaa, Jbf, Jbg, Ja6, Jad, Jbc, Jbe, Jbd, Jb8, Ja2, Ja1, Ja4, Ja3, Jax, Jay, decide_true, decide_false, Bool.not_true, Bool.not_false, Bool.false_eq_true, if_true, if_false, true_and]
      exact hN _ _ ⟨rfl, _, _, _, rfl⟩
  · rintro e μ' ⟨rfl, x7, x8, x10, rfl⟩
    exact ⟨trivial, k _ _ _⟩
abbrev tx01 (x : D) : Str := (pdA (row01 x)).shown
theorem s3_ok (h : Ov x) (k : E.nx [some (.script sc), some .state, a2, some x, some y, some (.list (errs01 x)), some (.list (errs01 y)), a7, a8, some (.str (tx01 x)), a10] μ) : ws_0_3 [some (.script sc), some .state, a2, some x, some y, some (.list (errs01 x)), some (.list (errs01 y)), a7, a8, a9, a10] μ E := by
  unfold ws_0_3
  simp only [Jbu, initE, Jct, Jcg, Jbk, Jbl, Jbz, Jco, Jcp, Jc5, Jcm, Jbm, Jcv, Jbn, Jbt, Jd7, Jd8, Jd6, Jd9, Jdd, Jdb, Jdc, Jda, Jc2, Jc8, Jd1, Jd0, Jc7, Jcj, Jcz, Jcy, Jcb, Jbr, Jcx, Jci, Jbj, Jcl, Jc4, Jbi, Jck, Jch, Jd3, Jd2, Jd5, Jbo, Jcd, Jcn, Jc1, Jcu, Jcc, Jbp, Jcq, Jcw, Jde, Jdf, Jc9, Jcr, Jcs, Jc3, Jbq, Jc0, Jbw, Jca, gt, st, Jbb, Jb9, Jba, Jb7, Jbh, Ja5, atI0, atI1, atI2, atI3, atI4, ixN20, ixN21, List.map_cons, List.map_nil, List.cons_append, List.nil_append, List.append_nil, List.length_cons, List.length_nil, List.replicate_succ, List.replicate_zero, Nat.add_one_sub_one, Jd4, Jbs, Jbx, Jby, Jbv, Jae, Jag, Jah, Jaf, Jb6, Jav, Jaw, Jak, Jau, Jb3, Jat, Jas, Jam, Jal, Jb1, Jai, Jaj, Jaz, Jb0, Jap, Jb2, Jaq, Jar, Jan, Jao, Jb5, Jb4, Ja7, Ja8, Jac, Jab, Ja0, Ja9, Jaa, Jbf, Jbg, Ja6, Jad, Jbc, Jbe, Jbd, Jb8, Ja2, Ja1, Ja4, Ja3, Jax, Jay, decide_true, decide_false, Bool.not_true, Bool.not_false, Bool.false_eq_true, if_true, if_false, true_and]
  refine ok_bare h ?_
  refine ⟨by rw [sizeLine_eq]; decide, by decide, by decide, by rw [sizeLine_eq]; show 1 * 6 ≤ _; decide, ?_⟩
  exact rep01 h k
theorem s4_ok (h : Ov x) (k : E.nx [some (.script sc), some .state, a2, some x, some y, some (.list (errs01 x)), some (.list (errs01 y)), a7, a8, some (.str (tx01 x)), a10] μ) : ws_0_4 [some (.script sc), some .state, a2, some x, some y, some (.list (errs01 x)), some (.list (errs01 y)), a7, a8, some (.str (tx01 x)), a10] μ E := by
  unfold ws_0_4
  simp only [Jbu, initE, Jct, Jcg, Jbk, Jbl, Jbz, Jco, Jcp, Jc5, Jcm, Jbm, Jcv, Jbn, Jbt, Jd7, Jd8, Jd6, Jd9, Jdd, Jdb, Jdc, Jda, Jc2, Jc8, Jd1, Jd0, Jc7, Jcj, Jcz, Jcy, Jcb, Jbr, Jcx, Jci, Jbj, Jcl, Jc4, Jbi, Jck, Jch, Jd3, Jd2, Jd5, Jbo, Jcd, Jcn, Jc1, Jcu, Jcc, Jbp, Jcq, Jcw, Jde, Jdf, Jc9, Jcr, Jcs, Jc3, Jbq, Jc0, Jbw, Jca, gt, st, Jbb, Jb9, Jba, Jb7, Jbh, Ja5, atI0, atI1, atI2, atI3, atI4, ixN20, ixN21, List.map_cons, List.map_nil, List.cons_append, List.nil_append, List.append_nil, List.length_cons, List.length_nil, List.replicate_succ, List.replicate_zero, Nat.add_one_sub_one, Jd4, Jbs, Jbx, Jby, Jbv, Jae, Jag, Jah, Jaf, Jb6, Jav, Jaw, Jak, Jau, Jb3, Jat, Jas, Jam, Jal, Jb1, Jai, Jaj, Jaz, Jb0, Jap, Jb2, Jaq, Jar, Jan, Jao, Jb5, Jb4, Ja7, Ja8, Jac, Jab, Ja0, Ja9, Jaa, Jbf, Jbg, Ja6, Jad, Jbc, Jbe, Jbd, Jb8, Ja2, Ja1, Ja4, Ja3, Jax, Jay, decide_true, decide_false, Bool.not_true, Bool.not_false, Bool.false_eq_true, if_true, if_false, true_and]
  refine ok_named ?_
  refine ok_kept_of h _ (.inr rfl) ?_
  refine rep01 h ?_
  simp only [Jbu, initE, Jct, Jcg, Jbk, Jbl, Jbz, Jco, Jcp, Jc5, Jcm, Jbm, Jcv, Jbn, Jbt, Jd7, Jd8, Jd6, Jd9, Jdd, Jdb, Jdc, Jda, Jc2, Jc8, Jd1, Jd0, Jc7, Jcj, Jcz, Jcy, Jcb, Jbr, Jcx, Jci, Jbj, Jcl, Jc4, Jbi, Jck, Jch, Jd3, Jd2, Jd5, Jbo, Jcd, Jcn, Jc1, Jcu, Jcc, Jbp, Jcq, Jcw, Jde, Jdf, Jc9, Jcr, Jcs, Jc3, Jbq, Jc0, Jbw, Jca, gt, st, Jbb, Jb9, Jba, Jb7, Jbh, Ja5, atI0, atI1, atI2, atI3, atI4, ixN20, ixN21, List.map_cons, List.map_nil, List.cons_append, List.nil_append, List.append_nil, List.length_cons, List.length_nil, List.replicate_succ, List.replicate_zero, Nat.add_one_sub_one, Jd4, Jbs, Jbx, Jby, Jbv, Jae, Jag, Jah, Jaf, Jb6, Jav, Jaw, Jak, Jau, Jb3, Jat, Jas, Jam, Jal, Jb1, Jai, Jaj, Jaz, Jb0, Jap, Jb2, Jaq, Jar, Jan, Jao, Jb5, Jb4, Ja7, Ja8, Jac, Jab, Ja0, Ja9, Jaa, Jbf, Jbg, Ja6, Jad, Jbc, Jbe, Jbd, Jb8, Ja2, Ja1, Ja4, Ja3, Jax, Jay, decide_true, decide_false, Bool.not_true, Bool.not_false, Bool.false_eq_true, if_true, if_false, true_and]
  refine ok_kept_of h _ (.inl rfl) ?_
  refine rep01 h ?_
  simp only [Jbu, initE, Jct, Jcg, Jbk, Jbl, Jbz, Jco, Jcp, Jc5, Jcm, Jbm, Jcv, Jbn, Jbt, Jd7, Jd8, Jd6, Jd9, Jdd, Jdb, Jdc, Jda, Jc2, Jc8, Jd1, Jd0, Jc7, Jcj, Jcz, Jcy, Jcb, Jbr, Jcx, Jci, Jbj, Jcl, Jc4, Jbi, Jck, Jch, Jd3, Jd2, Jd5, Jbo, Jcd, Jcn, Jc1, Jcu, Jcc, Jbp, Jcq, Jcw, Jde, Jdf, Jc9, Jcr, Jcs, Jc3, Jbq, Jc0, Jbw, Jca, gt, st, Jbb, Jb9, Jba, Jb7, Jbh, Ja5, atI0, atI1, atI2, atI3, atI4, ixN20, ixN21, List.map_cons, List.map_nil, List.cons_append, List.nil_append, List.append_nil, List.length_cons, List.length_nil, List.replicate_succ, List.replicate_zero, Nat.add_one_sub_one, Jd4, Jbs, Jbx, Jby, Jbv, Jae, Jag, Jah, Jaf, Jb6, Jav, Jaw, Jak, Jau, Jb3, Jat, Jas, Jam, Jal, Jb1, Jai, Jaj, Jaz, Jb0, Jap, Jb2, Jaq, Jar, Jan, Jao, Jb5, Jb4, Ja7, Ja8, Jac, Jab, Ja0, Ja9, Jaa, Jbf, Jbg, Ja6, Jad, Jbc, Jbe, Jbd, Jb8, Ja2, Ja1, Ja4, Ja3, Jax, Jay, decide_true, decide_false, Bool.not_true, Bool.not_false, Bool.false_eq_true, if_true, if_false, true_and]
  exact k
theorem s5_ok (h : Ov y) (k : E.nx [some (.script sc), some .state, a2, a3, some y, a5, some (.list (errs01 y)), a7, a8, a9, a10] μ) : ws_0_5 [some (.script sc), some .state, a2, a3, some y, a5, some (.list (errs01 y)), a7, a8, a9, a10] μ E := by
  unfold ws_0_5
  simp only [Jbu, initE, Jct, Jcg, Jbk, Jbl, Jbz, Jco, Jcp, Jc5, Jcm, Jbm, Jcv, Jbn, Jbt, Jd7, Jd8, Jd6, Jd9, Jdd, Jdb, Jdc, Jda, Jc2, Jc8, Jd1, Jd0, Jc7, Jcj, Jcz, Jcy, Jcb, Jbr, Jcx, Jci, Jbj, Jcl, Jc4, Jbi, Jck, Jch, Jd3, Jd2, Jd5, Jbo, Jcd, Jcn, Jc1, Jcu, Jcc, Jbp, Jcq, Jcw, Jde, Jdf, Jc9, Jcr, Jcs, Jc3, Jbq, Jc0, Jbw, Jca, gt, st, Jbb, Jb9, Jba, Jb7, Jbh, Ja5, atI0, atI1, atI2, atI3, atI4, ixN20, ixN21, List.map_cons, List.map_nil, List.cons_append, List.nil_append, List.append_nil, List.length_cons, List.length_nil, List.replicate_succ, List.replicate_zero, Nat.add_one_sub_one, Jd4, Jbs, Jbx, Jby, Jbv, Jae, Jag, Jah, Jaf, Jb6, Jav, Jaw, Jak, Jau, Jb3, Jat, Jas, Jam, Jal, Jb1, Jai, Jaj, Jaz, Jb0, Jap, Jb2, Jaq, Jar, Jan, Jao, Jb5, Jb4, Ja7, Ja8, Jac, Jab, Ja0, Ja9, Jaa, Jbf, Jbg, Ja6, Jad, Jbc, Jbe, Jbd, Jb8, Ja2, Ja1, Ja4, Ja3, Jax, Jay, decide_true, decide_false, Bool.not_true, Bool.not_false, Bool.false_eq_true, if_true, if_false, true_and]
  refine ok_kept_of h _ (.inl rfl) ?_
  refine rep01 h ?_
  refine ok_bare h ?_
  refine ⟨by rw [sizeLine_eq]; decide, by decide, by decide, by rw [sizeLine_eq]; show 1 * 6 ≤ _; decide, ?_⟩
  refine rep01 h ?_
  simp only [Jbu, initE, Jct, Jcg, Jbk, Jbl, Jbz, Jco, Jcp, Jc5, Jcm, Jbm, Jcv, Jbn, Jbt, Jd7, Jd8, Jd6, Jd9, Jdd, Jdb, Jdc, Jda, Jc2, Jc8, Jd1, Jd0, Jc7, Jcj, Jcz, Jcy, Jcb, Jbr, Jcx, Jci, Jbj, Jcl, Jc4, Jbi, Jck, Jch, Jd3, Jd2, Jd5, Jbo, Jcd, Jcn, Jc1, Jcu, Jcc, Jbp, Jcq, Jcw, Jde, Jdf, Jc9, Jcr, Jcs, Jc3, Jbq, Jc0, Jbw, Jca, gt, st, Jbb, Jb9, Jba, Jb7, Jbh, Ja5, atI0, atI1, atI2, atI3, atI4, ixN20, ixN21, List.map_cons, List.map_nil, List.cons_append, List.nil_append, List.append_nil, List.length_cons, List.length_nil, List.replicate_succ, List.replicate_zero, Nat.add_one_sub_one, Jd4, Jbs, Jbx, Jby, Jbv, Jae, Jag, Jah, Jaf, Jb6, Jav, Jaw, Jak, Jau, Jb3, Jat, Jas, Jam, Jal, Jb1, Jai, Jaj, Jaz, Jb0, Jap, Jb2, Jaq, Jar, Jan, Jao, Jb5, Jb4, Ja7, Ja8, Jac, Jab, Ja0, Ja9, Jaa, Jbf, Jbg, Ja6, Jad, Jbc, Jbe, Jbd, Jb8, Ja2, Ja1, Ja4, Ja3, Jax, Jay, decide_true, decide_false, Bool.not_true, Bool.not_false, Bool.false_eq_true, if_true, if_false, true_and]
  exact k
theorem turn_ok (k : ∀ (a2 a3 a4 a5 a6 a7 a8 a9 a10 : Option D), E.nx [some (.script sc), some .state, a2, a3, a4, a5, a6, a7, a8, a9, a10] μ) : wb_0 [some (.script sc), some .state, a2, a3, a4, a5, a6, a7, a8, a9, a10] μ E := by
  unfold wb_0
  simp only [Jct]
  refine s0_ok fun x y hx hy => ?_
  refine s1_ok ?_
  refine s2_ok fun x7 x8 x10 => ?_
  refine s3_ok hx ?_
  refine s4_ok hx ?_
  exact s5_ok hy (k _ _ _ _ _ _ _ _ _)
theorem last_ok (k : E.rt (.bool true) μ) : ws_1 [some (.script sc), some .state, a2, a3, a4, a5, a6, a7, a8, a9, a10] μ E := by
  unfold ws_1
  simp only [Jce, Jc6, Jbu, initE, Jct, Jcg, Jbk, Jbl, Jbz, Jco, Jcp, Jc5, Jcm, Jbm, Jcv, Jbn, Jbt, Jd7, Jd8, Jd6, Jd9, Jdd, Jdb, Jdc, Jda, Jc2, Jc8, Jd1, Jd0, Jc7, Jcj, Jcz, Jcy, Jcb, Jbr, Jcx, Jci, Jbj, Jcl, Jc4, Jbi, Jck, Jch, Jd3, Jd2, Jd5, Jbo, Jcd, Jcn, Jc1, Jcu, Jcc, Jbp, Jcq, Jcw, Jde, Jdf, Jc9, Jcr, Jcs, Jc3, Jbq, Jc0, Jbw, Jca, gt, st, Jbb, Jb9, Jba, Jb7, Jbh, Ja5, atI0, atI1, atI2, atI3, atI4, ixN20, ixN21, List.map_cons, List.map_nil, List.cons_append, List.nil_append, List.append_nil, List.length_cons, List.length_nil, List.replicate_succ, List.replicate_zero, Nat.add_one_sub_one, Jd4, Jbs, Jbx, Jby, Jbv, Jae, Jag, Jah, Jaf, Jb6, Jav, Jaw, Jak, Jau, Jb3, Jat, Jas, Jam, Jal, Jb1, Jai, Jaj, Jaz, Jb0, Jap, Jb2, Jaq, Jar, Jan, Jao, Jb5, Jb4, Ja7, Ja8, Jac, Jab, Ja0, Ja9, Jaa, Jbf, Jbg, Ja6, Jad, Jbc, Jbe, Jbd, Jb8, Ja2, Ja1, Ja4, Ja3, Jax, Jay, decide_true, decide_false, Bool.not_true, Bool.not_false, Bool.false_eq_true, if_true, if_false, true_and]
  refine ok_marks ?_
  have e : (nam01.map fun m => D.bool (subCC "CrossError" m)) = (List.replicate 13 (D.bool false)) := by rfl
  rw [e]
  refine ⟨rfl, rfl, ?_⟩
  exact k
end
theorem law_ok : ∀ ns : List Int, ns.length ≤ 63 → wr_law (some (.script ns) :: some .state :: List.replicate (11 - 2) Option.none) (fun _ => Option.none) lawEnds := by
  intro sc hl
  unfold wr_law ws_0
  have el : cbLen [.script sc] = fun μ Q _ => Q (.v (.int sc.length)) μ := by
    funext μ Q X
    simp [cbLen, one, sqD, iL_len]
  simp only [Jbu, initE, Jct, Jcg, Jbk, Jbl, Jbz, Jco, Jcp, Jc5, Jcm, Jbm, Jcv, Jbn, Jbt, Jd7, Jd8, Jd6, Jd9, Jdd, Jdb, Jdc, Jda, Jc2, Jc8, Jd1, Jd0, Jc7, Jcj, Jcz, Jcy, Jcb, Jbr, Jcx, Jci, Jbj, Jcl, Jc4, Jbi, Jck, Jch, Jd3, Jd2, Jd5, Jbo, Jcd, Jcn, Jc1, Jcu, Jcc, Jbp, Jcq, Jcw, Jde, Jdf, Jc9, Jcr, Jcs, Jc3, Jbq, Jc0, Jbw, Jca, gt, st, Jbb, Jb9, Jba, Jb7, Jbh, Ja5, atI0, atI1, atI2, atI3, atI4, ixN20, ixN21, List.map_cons, List.map_nil, List.cons_append, List.nil_append, List.append_nil, List.length_cons, List.length_nil, List.replicate_succ, List.replicate_zero, Nat.add_one_sub_one, Jd4, Jbs, Jbx, Jby, Jbv, Jae, Jag, Jah, Jaf, Jb6, Jav, Jaw, Jak, Jau, Jb3, Jat, Jas, Jam, Jal, Jb1, Jai, Jaj, Jaz, Jb0, Jap, Jb2, Jaq, Jar, Jan, Jao, Jb5, Jb4, Ja7, Ja8, Jac, Jab, Ja0, Ja9, Jaa, Jbf, Jbg, Ja6, Jad, Jbc, Jbe, Jbd, Jb8, Ja2, Ja1, Ja4, Ja3, el]
  refine ⟨⟨by split <;> omega, by split <;> omega⟩, by rw [rangeD_len]; split <;> omega, ?_⟩
  refine for_inv (fun i e μ' => ∃ (a2 a3 a4 a5 a6 a7 a8 a9 a10 : Option D), e = [some (.script sc), some .state, a2, a3, a4, a5, a6, a7, a8, a9, a10]) ⟨_, _, _, _, _, _, _, _, _, rfl⟩ ?_ ?_
  · rintro i x e μ' N hx ⟨a2, a3, a4, a5, a6, a7, a8, a9, a10, rfl⟩ hN
    refine ⟨trivial, ?_⟩
    simp only [Jd7]
    show wb_0 [some (.script sc), some .state, some x, a3, a4, a5, a6, a7, a8, a9, a10] μ' _
    exact turn_ok fun a2 a3 a4 a5 a6 a7 a8 a9 a10 => hN _ _ ⟨_, _, _, _, _, _, _, _, _, rfl⟩
  · rintro e μ' ⟨a2, a3, a4, a5, a6, a7, a8, a9, a10, rfl⟩
    refine ⟨trivial, ?_⟩
    exact last_ok rfl
end DL

set_option Elab.async false
set_option linter.all false
set_option maxRecDepth 100000
set_option maxHeartbeats 0
set_option exponentiation.threshold 100000
namespace KLaw
open PySem PySem.Spec PyProof.Rows L2 DL
theorem n_Rule : ("Rule" : Str) ∈ nsL := by decide
theorem e_CrossError : ("CrossError" : Str) ∈ esL := by decide
theorem e_BadRule : ("BadRule" : Str) ∈ esL := by decide
theorem e_BadPower : ("BadPower" : Str) ∈ esL := by decide
theorem e_BadFormula : ("BadFormula" : Str) ∈ esL := by decide
theorem e_BadPair : ("BadPair" : Str) ∈ esL := by decide
theorem e_BadProgram : ("BadProgram" : Str) ∈ esL := by decide
theorem e_BadPoint : ("BadPoint" : Str) ∈ esL := by decide
theorem e_BadCount : ("BadCount" : Str) ∈ esL := by decide
theorem e_TooMany : ("TooMany" : Str) ∈ esL := by decide
theorem e_NoCore : ("NoCore" : Str) ∈ esL := by decide
theorem e_BadDeed : ("BadDeed" : Str) ∈ esL := by decide
theorem e_NothingLeft : ("NothingLeft" : Str) ∈ esL := by decide
theorem e_BadJournal : ("BadJournal" : Str) ∈ esL := by decide
theorem e_BadText : ("BadText" : Str) ∈ esL := by decide
theorem i_Rule : ("Rule" : Str) ∈ nsL ++ esL := by decide
theorem i_CrossError : ("CrossError" : Str) ∈ nsL ++ esL := by decide
theorem i_BadRule : ("BadRule" : Str) ∈ nsL ++ esL := by decide
theorem i_BadPower : ("BadPower" : Str) ∈ nsL ++ esL := by decide
theorem i_BadFormula : ("BadFormula" : Str) ∈ nsL ++ esL := by decide
theorem i_BadPair : ("BadPair" : Str) ∈ nsL ++ esL := by decide
theorem i_BadProgram : ("BadProgram" : Str) ∈ nsL ++ esL := by decide
theorem i_BadPoint : ("BadPoint" : Str) ∈ nsL ++ esL := by decide
theorem i_BadCount : ("BadCount" : Str) ∈ nsL ++ esL := by decide
theorem i_TooMany : ("TooMany" : Str) ∈ nsL ++ esL := by decide
theorem i_NoCore : ("NoCore" : Str) ∈ nsL ++ esL := by decide
theorem i_BadDeed : ("BadDeed" : Str) ∈ nsL ++ esL := by decide
theorem i_NothingLeft : ("NothingLeft" : Str) ∈ nsL ++ esL := by decide
theorem i_BadJournal : ("BadJournal" : Str) ∈ nsL ++ esL := by decide
theorem i_BadText : ("BadText" : Str) ∈ nsL ++ esL := by decide
abbrev N_is_list : List Str := ["thing"]
theorem sc_is_list : FnScope N_is_list ["thing"] (defScope (topS 19)) := ⟨rfl, rfl, rfl, by decide +kernel, rfl, by decide +kernel, by decide +kernel⟩
abbrev N_is_number : List Str := ["thing"]
theorem sc_is_number : FnScope N_is_number ["thing"] (defScope (topS 17)) := ⟨rfl, rfl, rfl, by decide +kernel, rfl, by decide +kernel, by decide +kernel⟩
abbrev N_without_end : List Str := ["numbers", "many"]
theorem sc_without_end : FnScope N_without_end ["numbers"] (defScope (topS 20)) := ⟨rfl, rfl, rfl, by decide +kernel, rfl, by decide +kernel, by decide +kernel⟩
abbrev N_Rule___init__ : List Str := ["self", "coefficients", "at", "number"]
theorem sc_Rule___init__ : FnScope N_Rule___init__ ["self", "coefficients"] (defScope (inClass (topS 21) 0)) := ⟨rfl, rfl, rfl, by decide +kernel, rfl, by decide +kernel, by decide +kernel⟩
abbrev N_law_mixed : List Str := ["_law_state", "_law_turn", "_law_found", "_law_prime", "_law_blend", "_law_cell"]
theorem sc_law_mixed : FnScope N_law_mixed ["_law_state"] (defScope (topS 27)) := ⟨rfl, rfl, rfl, by decide +kernel, rfl, by decide +kernel, by decide +kernel⟩
abbrev N_law_take : List Str := ["_law_state", "_law_size", "_law_found"]
theorem sc_law_take : FnScope N_law_take ["_law_state", "_law_size"] (defScope (topS 28)) := ⟨rfl, rfl, rfl, by decide +kernel, rfl, by decide +kernel, by decide +kernel⟩
abbrev N_law_pick : List Str := ["_law_state", "_law_some"]
theorem sc_law_pick : FnScope N_law_pick ["_law_state", "_law_some"] (defScope (topS 29)) := ⟨rfl, rfl, rfl, by decide +kernel, rfl, by decide +kernel, by decide +kernel⟩
abbrev N_law_odd : List Str := ["_law_state", "_law_some"]
theorem sc_law_odd : FnScope N_law_odd ["_law_state"] (defScope (topS 30)) := ⟨rfl, rfl, rfl, by decide +kernel, rfl, by decide +kernel, by decide +kernel⟩
abbrev N_law_each : List Str := ["_law_matter", "_law_found"]
theorem sc_law_each : FnScope N_law_each ["_law_matter"] (defScope (topS 32)) := ⟨rfl, rfl, rfl, by decide +kernel, rfl, by decide +kernel, by decide +kernel⟩
abbrev N_law_marks : List Str := ["_law_error", "_law_found"]
theorem sc_law_marks : FnScope N_law_marks ["_law_error"] (defScope (topS 31)) := ⟨rfl, rfl, rfl, by decide +kernel, rfl, by decide +kernel, by decide +kernel⟩
abbrev N_Rule_coefficients : List Str := ["self"]
theorem sc_Rule_coefficients : FnScope N_Rule_coefficients ["self"] (defScope (inClass (topS 21) 1)) := ⟨rfl, rfl, rfl, by decide +kernel, rfl, by decide +kernel, by decide +kernel⟩
abbrev N_law_bare : List Str := ["_law_matter"]
theorem sc_law_bare : FnScope N_law_bare ["_law_matter"] (defScope (topS 34)) := ⟨rfl, rfl, rfl, by decide +kernel, rfl, by decide +kernel, by decide +kernel⟩
abbrev N_law_named : List Str := ["_law_matter", "_law_found"]
theorem sc_law_named : FnScope N_law_named ["_law_matter"] (defScope (topS 33)) := ⟨rfl, rfl, rfl, by decide +kernel, rfl, by decide +kernel, by decide +kernel⟩
abbrev N_law_kept : List Str := ["_law_some", "_law_found", "_law_matter"]
theorem sc_law_kept : FnScope N_law_kept ["_law_some"] (defScope (topS 35)) := ⟨rfl, rfl, rfl, by decide +kernel, rfl, by decide +kernel, by decide +kernel⟩
abbrev N_law_begun : List Str := ["_law_script", "_law_wide", "_law_cell"]
theorem sc_law_begun : FnScope N_law_begun ["_law_script"] (defScope (topS 26)) := ⟨rfl, rfl, rfl, by decide +kernel, rfl, by decide +kernel, by decide +kernel⟩
abbrev N_law : List Str := ["_law_script", "_law_state", "_law_turn", "_law_mine", "_law_its", "_law_some", "_law_others", "_law_spot", "_law_error", "_law_due", "_law_k"]
theorem sc_law : FnScope N_law ["_law_script"] (defScope (topS 36)) := ⟨rfl, rfl, rfl, by decide +kernel, rfl, by decide +kernel, by decide +kernel⟩
abbrev N_BadDeed___init__ : List Str := ["self", "deed"]
theorem sc_BadDeed___init__ : FnScope N_BadDeed___init__ ["self", "deed"] (defScope (inClass (topS 12) 0)) := ⟨rfl, rfl, rfl, by decide +kernel, rfl, by decide +kernel, by decide +kernel⟩
abbrev N_BadJournal___init__ : List Str := ["self", "at"]
theorem sc_BadJournal___init__ : FnScope N_BadJournal___init__ ["self", "at"] (defScope (inClass (topS 14) 0)) := ⟨rfl, rfl, rfl, by decide +kernel, rfl, by decide +kernel, by decide +kernel⟩
abbrev N_BadProgram___init__ : List Str := ["self", "at"]
theorem sc_BadProgram___init__ : FnScope N_BadProgram___init__ ["self", "at"] (defScope (inClass (topS 7) 0)) := ⟨rfl, rfl, rfl, by decide +kernel, rfl, by decide +kernel, by decide +kernel⟩
abbrev N_BadRule___init__ : List Str := ["self", "at"]
theorem sc_BadRule___init__ : FnScope N_BadRule___init__ ["self", "at"] (defScope (inClass (topS 3) 0)) := ⟨rfl, rfl, rfl, by decide +kernel, rfl, by decide +kernel, by decide +kernel⟩
abbrev N_BadText___init__ : List Str := ["self", "line"]
theorem sc_BadText___init__ : FnScope N_BadText___init__ ["self", "line"] (defScope (inClass (topS 15) 0)) := ⟨rfl, rfl, rfl, by decide +kernel, rfl, by decide +kernel, by decide +kernel⟩
abbrev N_TooMany___init__ : List Str := ["self", "most"]
theorem sc_TooMany___init__ : FnScope N_TooMany___init__ ["self", "most"] (defScope (inClass (topS 10) 0)) := ⟨rfl, rfl, rfl, by decide +kernel, rfl, by decide +kernel, by decide +kernel⟩
structure Tx (K : PySem.W.Frag) (mg : Str → Option Value) : Prop where
  g_BadCount : mg "BadCount" = some (.ref (He.ga K "BadCount"))
  g_BadDeed : mg "BadDeed" = some (.ref (He.ga K "BadDeed"))
  g_BadFormula : mg "BadFormula" = some (.ref (He.ga K "BadFormula"))
  g_BadJournal : mg "BadJournal" = some (.ref (He.ga K "BadJournal"))
  g_BadPair : mg "BadPair" = some (.ref (He.ga K "BadPair"))
  g_BadPoint : mg "BadPoint" = some (.ref (He.ga K "BadPoint"))
  g_BadPower : mg "BadPower" = some (.ref (He.ga K "BadPower"))
  g_BadProgram : mg "BadProgram" = some (.ref (He.ga K "BadProgram"))
  g_BadRule : mg "BadRule" = some (.ref (He.ga K "BadRule"))
  g_BadText : mg "BadText" = some (.ref (He.ga K "BadText"))
  g_CrossError : mg "CrossError" = some (.ref (He.ga K "CrossError"))
  g_NoCore : mg "NoCore" = some (.ref (He.ga K "NoCore"))
  g_NothingLeft : mg "NothingLeft" = some (.ref (He.ga K "NothingLeft"))
  g_Rule : mg "Rule" = some (.ref (He.ga K "Rule"))
  g_TooMany : mg "TooMany" = some (.ref (He.ga K "TooMany"))
  g__law_bare : mg "_law_bare" = some (.ref (He.ga K "_law_bare"))
  g__law_begun : mg "_law_begun" = some (.ref (He.ga K "_law_begun"))
  g__law_each : mg "_law_each" = some (.ref (He.ga K "_law_each"))
  g__law_kept : mg "_law_kept" = some (.ref (He.ga K "_law_kept"))
  g__law_marks : mg "_law_marks" = some (.ref (He.ga K "_law_marks"))
  g__law_mixed : mg "_law_mixed" = some (.ref (He.ga K "_law_mixed"))
  g__law_named : mg "_law_named" = some (.ref (He.ga K "_law_named"))
  g__law_odd : mg "_law_odd" = some (.ref (He.ga K "_law_odd"))
  g__law_pick : mg "_law_pick" = some (.ref (He.ga K "_law_pick"))
  g__law_take : mg "_law_take" = some (.ref (He.ga K "_law_take"))
  g_is_list : mg "is_list" = some (.ref (He.ga K "is_list"))
  g_is_number : mg "is_number" = some (.ref (He.ga K "is_number"))
  g_without_end : mg "without_end" = some (.ref (He.ga K "without_end"))
  g_law : mg "law" = some (.ref (He.ga K "law"))
  n_ValueError : mg "ValueError" = none
  n_abs : mg "abs" = none
  n_bool : mg "bool" = none
  n_enumerate : mg "enumerate" = none
  n_int : mg "int" = none
  n_isinstance : mg "isinstance" = none
  n_len : mg "len" = none
  n_list : mg "list" = none
  n_min : mg "min" = none
  n_range : mg "range" = none
  n_repr : mg "repr" = none
  n_tuple : mg "tuple" = none
  ctx : CtxOk (cx K)
  cl_Rule : Cls K (He.ga K "Rule")
  dg : PySem.W.nsIn K cStatics "sys.int_max_str_digits" = some none
  er_BadDeed : ErI K (He.ga K "BadDeed") (He.ma K (He.ga K "BadDeed") "__init__") "deed"
  er_BadJournal : ErI K (He.ga K "BadJournal") (He.ma K (He.ga K "BadJournal") "__init__") "at"
  er_BadProgram : ErI K (He.ga K "BadProgram") (He.ma K (He.ga K "BadProgram") "__init__") "at"
  er_BadRule : ErI K (He.ga K "BadRule") (He.ma K (He.ga K "BadRule") "__init__") "at"
  er_BadText : ErI K (He.ga K "BadText") (He.ma K (He.ga K "BadText") "__init__") "line"
  er_TooMany : ErI K (He.ga K "TooMany") (He.ma K (He.ga K "TooMany") "__init__") "most"
  er_BadCount : ErN K (He.ga K "BadCount")
  er_BadFormula : ErN K (He.ga K "BadFormula")
  er_BadPair : ErN K (He.ga K "BadPair")
  er_BadPoint : ErN K (He.ga K "BadPoint")
  er_BadPower : ErN K (He.ga K "BadPower")
  er_CrossError : ErN K (He.ga K "CrossError")
  er_NoCore : ErN K (He.ga K "NoCore")
  er_NothingLeft : ErN K (He.ga K "NothingLeft")
  ef_at : ∀ n ∈ esL, PySem.W.findIn K (.ref (He.ga K n)) "at" = some none
  ef_deed : ∀ n ∈ esL, PySem.W.findIn K (.ref (He.ga K n)) "deed" = some none
  ef_line : ∀ n ∈ esL, PySem.W.findIn K (.ref (He.ga K n)) "line" = some none
  ef_most : ∀ n ∈ esL, PySem.W.findIn K (.ref (He.ga K n)) "most" = some none
  isv : ∀ n ∈ esL, PySem.W.kitOne K (.ref (He.ga K n)) (.type "ValueError") = some true
  mk_Rule : Mk K (He.ga K "Rule") (He.ma K (He.ga K "Rule") "__init__")
  na_Rule_own_numbers : NoAttr K (He.ga K "Rule") "own_numbers"
  prop_Rule_coefficients : PropOf K (He.ga K "Rule") "coefficients" (He.ma K (He.ga K "Rule") "coefficients") (recAt K "property" (He.ma K (He.ga K "Rule") "coefficients"))
  cr_CE : ClX.CRead K (He.ga K "CrossError") (.type "type")
  vi_CE : PySem.W.findCls K (.ref (He.ga K "CrossError")) (.type "type") "__init__" = some (.val (.builtin "ValueError.__init__"))
  f_is_list : ∃ fd, FunD K "is_list" "is_list" (defArgs (topS 19)) (defBody (topS 19)) (defScope (topS 19)) (d_is_list.dvs K) [] (He.ga K "is_list") fd
  f_is_number : ∃ fd, FunD K "is_number" "is_number" (defArgs (topS 17)) (defBody (topS 17)) (defScope (topS 17)) (d_is_number.dvs K) [] (He.ga K "is_number") fd
  f_without_end : ∃ fd, FunD K "without_end" "without_end" (defArgs (topS 20)) (defBody (topS 20)) (defScope (topS 20)) (d_without_end.dvs K) [] (He.ga K "without_end") fd
  f_Rule___init__ : ∃ fd, FunD K "__init__" "Rule.__init__" (defArgs (inClass (topS 21) 0)) (defBody (inClass (topS 21) 0)) (defScope (inClass (topS 21) 0)) (d_Rule___init__.dvs K) [] (He.ma K (He.ga K "Rule") "__init__") fd
  f_law_mixed : ∃ fd, FunD K "_law_mixed" "_law_mixed" (defArgs (topS 27)) (defBody (topS 27)) (defScope (topS 27)) (d_law_mixed.dvs K) [] (He.ga K "_law_mixed") fd
  f_law_take : ∃ fd, FunD K "_law_take" "_law_take" (defArgs (topS 28)) (defBody (topS 28)) (defScope (topS 28)) (d_law_take.dvs K) [] (He.ga K "_law_take") fd
  f_law_pick : ∃ fd, FunD K "_law_pick" "_law_pick" (defArgs (topS 29)) (defBody (topS 29)) (defScope (topS 29)) (d_law_pick.dvs K) [] (He.ga K "_law_pick") fd
  f_law_odd : ∃ fd, FunD K "_law_odd" "_law_odd" (defArgs (topS 30)) (defBody (topS 30)) (defScope (topS 30)) (d_law_odd.dvs K) [] (He.ga K "_law_odd") fd
  f_law_each : ∃ fd, FunD K "_law_each" "_law_each" (defArgs (topS 32)) (defBody (topS 32)) (defScope (topS 32)) (d_law_each.dvs K) [] (He.ga K "_law_each") fd
  f_law_marks : ∃ fd, FunD K "_law_marks" "_law_marks" (defArgs (topS 31)) (defBody (topS 31)) (defScope (topS 31)) (d_law_marks.dvs K) [] (He.ga K "_law_marks") fd
  f_Rule_coefficients : ∃ fd, FunD K "coefficients" "Rule.coefficients" (defArgs (inClass (topS 21) 1)) (defBody (inClass (topS 21) 1)) (defScope (inClass (topS 21) 1)) (d_Rule_coefficients.dvs K) [] (recAt K "property" (He.ma K (He.ga K "Rule") "coefficients")) fd
  f_law_bare : ∃ fd, FunD K "_law_bare" "_law_bare" (defArgs (topS 34)) (defBody (topS 34)) (defScope (topS 34)) (d_law_bare.dvs K) [] (He.ga K "_law_bare") fd
  f_law_named : ∃ fd, FunD K "_law_named" "_law_named" (defArgs (topS 33)) (defBody (topS 33)) (defScope (topS 33)) (d_law_named.dvs K) [] (He.ga K "_law_named") fd
  f_law_kept : ∃ fd, FunD K "_law_kept" "_law_kept" (defArgs (topS 35)) (defBody (topS 35)) (defScope (topS 35)) (d_law_kept.dvs K) [] (He.ga K "_law_kept") fd
  f_law_begun : ∃ fd, FunD K "_law_begun" "_law_begun" (defArgs (topS 26)) (defBody (topS 26)) (defScope (topS 26)) (d_law_begun.dvs K) [] (He.ga K "_law_begun") fd
  f_law : ∃ fd, FunD K "law" "law" (defArgs (topS 36)) (defBody (topS 36)) (defScope (topS 36)) (d_law.dvs K) [] (He.ga K "law") fd
  f_BadDeed___init__ : ∃ fd, FunD K "__init__" "BadDeed.__init__" (defArgs (inClass (topS 12) 0)) (defBody (inClass (topS 12) 0)) (defScope (inClass (topS 12) 0)) (d_BadDeed___init__.dvs K) [] (He.ma K (He.ga K "BadDeed") "__init__") fd
  f_BadJournal___init__ : ∃ fd, FunD K "__init__" "BadJournal.__init__" (defArgs (inClass (topS 14) 0)) (defBody (inClass (topS 14) 0)) (defScope (inClass (topS 14) 0)) (d_BadJournal___init__.dvs K) [] (He.ma K (He.ga K "BadJournal") "__init__") fd
  f_BadProgram___init__ : ∃ fd, FunD K "__init__" "BadProgram.__init__" (defArgs (inClass (topS 7) 0)) (defBody (inClass (topS 7) 0)) (defScope (inClass (topS 7) 0)) (d_BadProgram___init__.dvs K) [] (He.ma K (He.ga K "BadProgram") "__init__") fd
  f_BadRule___init__ : ∃ fd, FunD K "__init__" "BadRule.__init__" (defArgs (inClass (topS 3) 0)) (defBody (inClass (topS 3) 0)) (defScope (inClass (topS 3) 0)) (d_BadRule___init__.dvs K) [] (He.ma K (He.ga K "BadRule") "__init__") fd
  f_BadText___init__ : ∃ fd, FunD K "__init__" "BadText.__init__" (defArgs (inClass (topS 15) 0)) (defBody (inClass (topS 15) 0)) (defScope (inClass (topS 15) 0)) (d_BadText___init__.dvs K) [] (He.ma K (He.ga K "BadText") "__init__") fd
  f_TooMany___init__ : ∃ fd, FunD K "__init__" "TooMany.__init__" (defArgs (inClass (topS 10) 0)) (defBody (inClass (topS 10) 0)) (defScope (inClass (topS 10) 0)) (d_TooMany___init__.dvs K) [] (He.ma K (He.ga K "TooMany") "__init__") fd
theorem tx {K : PySem.W.Frag} {h : Heap} {mg : Str → Option Value} (X : K.In h) (G : h.Ns mainGlobals mg) (c : SaysX bs fn K) : Tx K mg where
  g_BadCount := He.glo_ok X G (c.fact 0)
  g_BadDeed := He.glo_ok X G (c.fact 1)
  g_BadFormula := He.glo_ok X G (c.fact 2)
  g_BadJournal := He.glo_ok X G (c.fact 3)
  g_BadPair := He.glo_ok X G (c.fact 4)
  g_BadPoint := He.glo_ok X G (c.fact 5)
  g_BadPower := He.glo_ok X G (c.fact 6)
  g_BadProgram := He.glo_ok X G (c.fact 7)
  g_BadRule := He.glo_ok X G (c.fact 8)
  g_BadText := He.glo_ok X G (c.fact 9)
  g_CrossError := He.glo_ok X G (c.fact 10)
  g_NoCore := He.glo_ok X G (c.fact 11)
  g_NothingLeft := He.glo_ok X G (c.fact 12)
  g_Rule := He.glo_ok X G (c.fact 13)
  g_TooMany := He.glo_ok X G (c.fact 14)
  g__law_bare := He.glo_ok X G (c.fact 15)
  g__law_begun := He.glo_ok X G (c.fact 16)
  g__law_each := He.glo_ok X G (c.fact 17)
  g__law_kept := He.glo_ok X G (c.fact 18)
  g__law_marks := He.glo_ok X G (c.fact 19)
  g__law_mixed := He.glo_ok X G (c.fact 20)
  g__law_named := He.glo_ok X G (c.fact 21)
  g__law_odd := He.glo_ok X G (c.fact 22)
  g__law_pick := He.glo_ok X G (c.fact 23)
  g__law_take := He.glo_ok X G (c.fact 24)
  g_is_list := He.glo_ok X G (c.fact 25)
  g_is_number := He.glo_ok X G (c.fact 26)
  g_without_end := He.glo_ok X G (c.fact 27)
  g_law := He.glo_ok X G (c.fact 28)
  n_ValueError := He.free_ok X G (c.fact 29)
  n_abs := He.free_ok X G (c.fact 30)
  n_bool := He.free_ok X G (c.fact 31)
  n_enumerate := He.free_ok X G (c.fact 32)
  n_int := He.free_ok X G (c.fact 33)
  n_isinstance := He.free_ok X G (c.fact 34)
  n_len := He.free_ok X G (c.fact 35)
  n_list := He.free_ok X G (c.fact 36)
  n_min := He.free_ok X G (c.fact 37)
  n_range := He.free_ok X G (c.fact 38)
  n_repr := He.free_ok X G (c.fact 39)
  n_tuple := He.free_ok X G (c.fact 40)
  ctx := ctxB_ok (c.fact 41)
  cl_Rule := He.cls_ok (c.fact 42)
  dg := noneB_ok (c.fact 43)
  er_BadDeed := eriB_ok (c.fact 44)
  er_BadJournal := eriB_ok (c.fact 45)
  er_BadProgram := eriB_ok (c.fact 46)
  er_BadRule := eriB_ok (c.fact 47)
  er_BadText := eriB_ok (c.fact 48)
  er_TooMany := eriB_ok (c.fact 49)
  er_BadCount := erB_ok (c.fact 50)
  er_BadFormula := erB_ok (c.fact 51)
  er_BadPair := erB_ok (c.fact 52)
  er_BadPoint := erB_ok (c.fact 53)
  er_BadPower := erB_ok (c.fact 54)
  er_CrossError := erB_ok (c.fact 55)
  er_NoCore := erB_ok (c.fact 56)
  er_NothingLeft := erB_ok (c.fact 57)
  ef_at := all_ok (c.fact 58) fun _ h => noneB_ok h
  ef_deed := all_ok (c.fact 59) fun _ h => noneB_ok h
  ef_line := all_ok (c.fact 60) fun _ h => noneB_ok h
  ef_most := all_ok (c.fact 61) fun _ h => noneB_ok h
  isv := all_ok (c.fact 62) fun _ h => of_decide_eq_true h
  mk_Rule := He.mkr_ok (c.fact 63)
  na_Rule_own_numbers := He.noat_ok (c.fact 64)
  prop_Rule_coefficients := propB_ok (c.fact 65)
  cr_CE := creadB_ok (c.fact 66)
  vi_CE := vInit_ok (c.fact 67)
  f_is_list := c.def_ 0 (d := d_is_list)
  f_is_number := c.def_ 1 (d := d_is_number)
  f_without_end := c.def_ 2 (d := d_without_end)
  f_Rule___init__ := c.def_ 3 (d := d_Rule___init__)
  f_law_mixed := c.def_ 4 (d := d_law_mixed)
  f_law_take := c.def_ 5 (d := d_law_take)
  f_law_pick := c.def_ 6 (d := d_law_pick)
  f_law_odd := c.def_ 7 (d := d_law_odd)
  f_law_each := c.def_ 8 (d := d_law_each)
  f_law_marks := c.def_ 9 (d := d_law_marks)
  f_Rule_coefficients := c.def_ 10 (d := d_Rule_coefficients)
  f_law_bare := c.def_ 11 (d := d_law_bare)
  f_law_named := c.def_ 12 (d := d_law_named)
  f_law_kept := c.def_ 13 (d := d_law_kept)
  f_law_begun := c.def_ 14 (d := d_law_begun)
  f_law := c.def_ 15 (d := d_law)
  f_BadDeed___init__ := c.def_ 16 (d := d_BadDeed___init__)
  f_BadJournal___init__ := c.def_ 17 (d := d_BadJournal___init__)
  f_BadProgram___init__ := c.def_ 18 (d := d_BadProgram___init__)
  f_BadRule___init__ := c.def_ 19 (d := d_BadRule___init__)
  f_BadText___init__ := c.def_ 20 (d := d_BadText___init__)
  f_TooMany___init__ := c.def_ 21 (d := d_TooMany___init__)
abbrev TbB (K : PySem.W.Frag) (base : Heap) (mg : Str → Option Value) : Prop := ∀ f ∈ tf, LamX.TabB base mg (codeAt K (f K)) (tabAt K (f K))
section
variable {P : Program} {w : PySem.World} {K : PySem.W.Frag} {mg : Str → Option Value} {base : Heap}
theorem ok_BadDeed___init__ (T : Tx K mg) : ∃ fd, FnOk P w K mg base C8.CX0 1 (He.ma K (He.ga K "BadDeed") "__init__") fd ["self", "deed"] (sp_ei K "deed") ∧ Binds K fd ["self", "deed"] [] := by
  obtain ⟨fd, F⟩ := T.f_BadDeed___init__
  exact ⟨fd, einit_of F sc_BadDeed___init__ T.g_CrossError rfl rfl rfl T.cr_CE T.vi_CE, F.bindsN fun _ _ _ _ _ _ us hl => match us, hl with | [_, _], _ => rfl⟩
theorem okK_BadDeed___init__ (T : Tx K mg) : ∃ fd, FnOk P w K mg base C8.CX0 1 (He.ma K (He.ga K "BadDeed") "__init__") fd ["self", "deed"] (sp_ei K "deed") ∧ KB K fd ["self", "deed"] 1 ["deed"] [0] := by
  obtain ⟨fd, F⟩ := T.f_BadDeed___init__
  exact ⟨fd, einit_of F sc_BadDeed___init__ T.g_CrossError rfl rfl rfl T.cr_CE T.vi_CE, kbn0 F 1 ["deed"] [0] fun _ _ _ _ _ _ us ws hl hw => match us, ws, hl, hw with | [_], [_], _, _ => rfl⟩
theorem ok_BadJournal___init__ (T : Tx K mg) : ∃ fd, FnOk P w K mg base C8.CX0 1 (He.ma K (He.ga K "BadJournal") "__init__") fd ["self", "at"] (sp_ei K "at") ∧ Binds K fd ["self", "at"] [] := by
  obtain ⟨fd, F⟩ := T.f_BadJournal___init__
  exact ⟨fd, einit_of F sc_BadJournal___init__ T.g_CrossError rfl rfl rfl T.cr_CE T.vi_CE, F.bindsN fun _ _ _ _ _ _ us hl => match us, hl with | [_, _], _ => rfl⟩
theorem okK_BadJournal___init__ (T : Tx K mg) : ∃ fd, FnOk P w K mg base C8.CX0 1 (He.ma K (He.ga K "BadJournal") "__init__") fd ["self", "at"] (sp_ei K "at") ∧ KB K fd ["self", "at"] 1 ["at"] [0] := by
  obtain ⟨fd, F⟩ := T.f_BadJournal___init__
  exact ⟨fd, einit_of F sc_BadJournal___init__ T.g_CrossError rfl rfl rfl T.cr_CE T.vi_CE, kbn0 F 1 ["at"] [0] fun _ _ _ _ _ _ us ws hl hw => match us, ws, hl, hw with | [_], [_], _, _ => rfl⟩
theorem ok_BadProgram___init__ (T : Tx K mg) : ∃ fd, FnOk P w K mg base C8.CX0 1 (He.ma K (He.ga K "BadProgram") "__init__") fd ["self", "at"] (sp_ei K "at") ∧ Binds K fd ["self", "at"] [] := by
  obtain ⟨fd, F⟩ := T.f_BadProgram___init__
  exact ⟨fd, einit_of F sc_BadProgram___init__ T.g_CrossError rfl rfl rfl T.cr_CE T.vi_CE, F.bindsN fun _ _ _ _ _ _ us hl => match us, hl with | [_, _], _ => rfl⟩
theorem okK_BadProgram___init__ (T : Tx K mg) : ∃ fd, FnOk P w K mg base C8.CX0 1 (He.ma K (He.ga K "BadProgram") "__init__") fd ["self", "at"] (sp_ei K "at") ∧ KB K fd ["self", "at"] 1 ["at"] [0] := by
  obtain ⟨fd, F⟩ := T.f_BadProgram___init__
  exact ⟨fd, einit_of F sc_BadProgram___init__ T.g_CrossError rfl rfl rfl T.cr_CE T.vi_CE, kbn0 F 1 ["at"] [0] fun _ _ _ _ _ _ us ws hl hw => match us, ws, hl, hw with | [_], [_], _, _ => rfl⟩
theorem ok_BadRule___init__ (T : Tx K mg) : ∃ fd, FnOk P w K mg base C8.CX0 1 (He.ma K (He.ga K "BadRule") "__init__") fd ["self", "at"] (sp_ei K "at") ∧ Binds K fd ["self", "at"] [] := by
  obtain ⟨fd, F⟩ := T.f_BadRule___init__
  exact ⟨fd, einit_of F sc_BadRule___init__ T.g_CrossError rfl rfl rfl T.cr_CE T.vi_CE, F.bindsN fun _ _ _ _ _ _ us hl => match us, hl with | [_, _], _ => rfl⟩
theorem okK_BadRule___init__ (T : Tx K mg) : ∃ fd, FnOk P w K mg base C8.CX0 1 (He.ma K (He.ga K "BadRule") "__init__") fd ["self", "at"] (sp_ei K "at") ∧ KB K fd ["self", "at"] 1 ["at"] [0] := by
  obtain ⟨fd, F⟩ := T.f_BadRule___init__
  exact ⟨fd, einit_of F sc_BadRule___init__ T.g_CrossError rfl rfl rfl T.cr_CE T.vi_CE, kbn0 F 1 ["at"] [0] fun _ _ _ _ _ _ us ws hl hw => match us, ws, hl, hw with | [_], [_], _, _ => rfl⟩
theorem ok_BadText___init__ (T : Tx K mg) : ∃ fd, FnOk P w K mg base C8.CX0 1 (He.ma K (He.ga K "BadText") "__init__") fd ["self", "line"] (sp_ei K "line") ∧ Binds K fd ["self", "line"] [] := by
  obtain ⟨fd, F⟩ := T.f_BadText___init__
  exact ⟨fd, einit_of F sc_BadText___init__ T.g_CrossError rfl rfl rfl T.cr_CE T.vi_CE, F.bindsN fun _ _ _ _ _ _ us hl => match us, hl with | [_, _], _ => rfl⟩
theorem okK_BadText___init__ (T : Tx K mg) : ∃ fd, FnOk P w K mg base C8.CX0 1 (He.ma K (He.ga K "BadText") "__init__") fd ["self", "line"] (sp_ei K "line") ∧ KB K fd ["self", "line"] 1 ["line"] [0] := by
  obtain ⟨fd, F⟩ := T.f_BadText___init__
  exact ⟨fd, einit_of F sc_BadText___init__ T.g_CrossError rfl rfl rfl T.cr_CE T.vi_CE, kbn0 F 1 ["line"] [0] fun _ _ _ _ _ _ us ws hl hw => match us, ws, hl, hw with | [_], [_], _, _ => rfl⟩
theorem ok_TooMany___init__ (T : Tx K mg) : ∃ fd, FnOk P w K mg base C8.CX0 1 (He.ma K (He.ga K "TooMany") "__init__") fd ["self", "most"] (sp_ei K "most") ∧ Binds K fd ["self", "most"] [] := by
  obtain ⟨fd, F⟩ := T.f_TooMany___init__
  exact ⟨fd, einit_of F sc_TooMany___init__ T.g_CrossError rfl rfl rfl T.cr_CE T.vi_CE, F.bindsN fun _ _ _ _ _ _ us hl => match us, hl with | [_, _], _ => rfl⟩
theorem okK_TooMany___init__ (T : Tx K mg) : ∃ fd, FnOk P w K mg base C8.CX0 1 (He.ma K (He.ga K "TooMany") "__init__") fd ["self", "most"] (sp_ei K "most") ∧ KB K fd ["self", "most"] 1 ["most"] [0] := by
  obtain ⟨fd, F⟩ := T.f_TooMany___init__
  exact ⟨fd, einit_of F sc_TooMany___init__ T.g_CrossError rfl rfl rfl T.cr_CE T.vi_CE, kbn0 F 1 ["most"] [0] fun _ _ _ _ _ _ us ws hl hw => match us, ws, hl, hw with | [_], [_], _, _ => rfl⟩
theorem okF_is_list (T : Tx K mg) (TB : TbB K base mg) {fd : FuncData} (F : FunD K "is_list" "is_list" (defArgs (topS 19)) (defBody (topS 19)) (defScope (topS 19)) (d_is_list.dvs K) [] (He.ga K "is_list") fd) : FnW P w K mg base 1 (He.ga K "is_list") fd ["thing"] (SpW (cx K) wp_is_list (0)) := by
  have nd := sc_is_list.nd
  refine fnW_of F sc_is_list (fun vs H Q E h => SpW.len rfl h) (fun A outer s H vs Q E gd hr h => ?_)
  have tk : Takes (cxOf (L2.CX P w) P w K mg base N_is_list "is_list" (defScope (topS 19)) (He.ga K "is_list") (.ref (codeAt K (He.ga K "is_list"))) A outer s H E) (fun cls d _ H => E cls d H) := takes_of rfl rfl rfl rfl
  exact ⟨_, gs_le (c := cx K) (W := fun cls d _ H => E cls d H) (kb := 0) (gs_one (g_ret (g_cb (w_isi T.ctx) (by rfl) T.n_isinstance (by decide +kernel) (ga_cons (g_var (pv 0)) (ga_cons (g_tup (ga_cons (g_ty (pe_bltn (by rfl) T.n_list (by decide +kernel) rfl)) (ga_cons (g_ty (pe_bltn (by rfl) T.n_tuple (by decide +kernel) rfl)) ga_nil))) ga_nil))))) (by decide +kernel), run_wDef (N := N_is_list) h (Nat.le_refl _)⟩
theorem ok_is_list (T : Tx K mg) (TB : TbB K base mg) : OkW P w (cx K) mg base 1 (He.ga K "is_list") ["thing"] wp_is_list (0) (d_is_list.dvs K) := by
  obtain ⟨fd, F⟩ := T.f_is_list
  have hb : Binds K fd ["thing"] [] := F.bindsN fun _ _ _ _ _ _ us hl => match us, hl with | [_], _ => rfl
  exact ⟨fd, okF_is_list T TB F, hb, F.kp, ⟨[], .nil, hb⟩⟩
theorem okF_is_number (T : Tx K mg) (TB : TbB K base mg) {fd : FuncData} (F : FunD K "is_number" "is_number" (defArgs (topS 17)) (defBody (topS 17)) (defScope (topS 17)) (d_is_number.dvs K) [] (He.ga K "is_number") fd) : FnW P w K mg base 1 (He.ga K "is_number") fd ["thing"] (SpW (cx K) wp_is_number (0)) := by
  have nd := sc_is_number.nd
  refine fnW_of F sc_is_number (fun vs H Q E h => SpW.len rfl h) (fun A outer s H vs Q E gd hr h => ?_)
  have tk : Takes (cxOf (L2.CX P w) P w K mg base N_is_number "is_number" (defScope (topS 17)) (He.ga K "is_number") (.ref (codeAt K (He.ga K "is_number"))) A outer s H E) (fun cls d _ H => E cls d H) := takes_of rfl rfl rfl rfl
  exact ⟨_, gs_le (c := cx K) (W := fun cls d _ H => E cls d H) (kb := 0) (gs_one (g_ret (g_and (g_cb (w_isi T.ctx) (by rfl) T.n_isinstance (by decide +kernel) (ga_cons (g_var (pv 0)) (ga_cons (g_ty (pe_bltn (by rfl) T.n_int (by decide +kernel) rfl)) ga_nil))) (g_one (g_not (g_cb (w_isi T.ctx) (by rfl) T.n_isinstance (by decide +kernel) (ga_cons (g_var (pv 0)) (ga_cons (g_ty (pe_bltn (by rfl) T.n_bool (by decide +kernel) rfl)) ga_nil)))))))) (by decide +kernel), run_wDef (N := N_is_number) h (Nat.le_refl _)⟩
theorem ok_is_number (T : Tx K mg) (TB : TbB K base mg) : OkW P w (cx K) mg base 1 (He.ga K "is_number") ["thing"] wp_is_number (0) (d_is_number.dvs K) := by
  obtain ⟨fd, F⟩ := T.f_is_number
  have hb : Binds K fd ["thing"] [] := F.bindsN fun _ _ _ _ _ _ us hl => match us, hl with | [_], _ => rfl
  exact ⟨fd, okF_is_number T TB F, hb, F.kp, ⟨[], .nil, hb⟩⟩
theorem okF_without_end (T : Tx K mg) (TB : TbB K base mg) {fd : FuncData} (F : FunD K "without_end" "without_end" (defArgs (topS 20)) (defBody (topS 20)) (defScope (topS 20)) (d_without_end.dvs K) [] (He.ga K "without_end") fd) : FnW P w K mg base 1 (He.ga K "without_end") fd ["numbers"] (SpW (cx K) wp_without_end (0)) := by
  have nd := sc_without_end.nd
  refine fnW_of F sc_without_end (fun vs H Q E h => SpW.len rfl h) (fun A outer s H vs Q E gd hr h => ?_)
  have tk : Takes (cxOf (L2.CX P w) P w K mg base N_without_end "without_end" (defScope (topS 20)) (He.ga K "without_end") (.ref (codeAt K (He.ga K "without_end"))) A outer s H E) (fun cls d _ H => E cls d H) := takes_of rfl rfl rfl rfl
  exact ⟨_, gs_le (c := cx K) (W := fun cls d _ H => E cls d H) (kb := 0) (gs_cons (g_set (i := 1) nd rfl (Or.inl rfl) (g_cb w_len (by rfl) T.n_len PySem.boot_len (ga_cons (g_var (pv 0)) ga_nil)))
      (gs_cons (g_while (passes_of rfl) (g_pt (g_wand (g_tcmp w_gt (g_var (pv 1)) g_int (nomark _)) (g_wand1 (g_tcmp (w_eq hr.units) (g_ix (g_var (pv 0)) (g_op w_sub (g_var (pv 1)) g_int)) g_int (nomark _))))) (gs_one (g_aug (i := 1) nd rfl (Or.inl rfl) g_int ip_sub)))
      (gs_one (g_ret (g_cty w_tuple (by rfl) T.n_tuple (by decide +kernel) (ga_cons (g_sl w_sl (g_var (pv 0)) go_none (go_some (g_var (pv 1)))) ga_nil)))))) (by decide +kernel), run_wDef (N := N_without_end) h (Nat.le_refl _)⟩
theorem ok_without_end (T : Tx K mg) (TB : TbB K base mg) : OkW P w (cx K) mg base 1 (He.ga K "without_end") ["numbers"] wp_without_end (0) (d_without_end.dvs K) := by
  obtain ⟨fd, F⟩ := T.f_without_end
  have hb : Binds K fd ["numbers"] [] := F.bindsN fun _ _ _ _ _ _ us hl => match us, hl with | [_], _ => rfl
  exact ⟨fd, okF_without_end T TB F, hb, F.kp, ⟨[], .nil, hb⟩⟩
theorem okF_Rule___init__ (T : Tx K mg) (TB : TbB K base mg) {fd : FuncData} (F : FunD K "__init__" "Rule.__init__" (defArgs (inClass (topS 21) 0)) (defBody (inClass (topS 21) 0)) (defScope (inClass (topS 21) 0)) (d_Rule___init__.dvs K) [] (He.ma K (He.ga K "Rule") "__init__") fd) : FnW P w K mg base 3 (He.ma K (He.ga K "Rule") "__init__") fd ["self", "coefficients"] (SpW (cx K) wp_Rule___init__ (0)) := by
  obtain ⟨_, G_is_list, b_is_list, k_is_list, _, v_is_list, c_is_list⟩ := ok_is_list (P := P) (w := w) (base := base) T TB
  obtain ⟨_, G_is_number, b_is_number, k_is_number, _, v_is_number, c_is_number⟩ := ok_is_number (P := P) (w := w) (base := base) T TB
  obtain ⟨_, G_without_end, b_without_end, k_without_end, _, v_without_end, c_without_end⟩ := ok_without_end (P := P) (w := w) (base := base) T TB
  obtain ⟨_, GE_BadRule, bE_BadRule⟩ := ok_BadRule___init__ (P := P) (w := w) (base := base) T
  have nd := sc_Rule___init__.nd
  refine fnW_of F sc_Rule___init__ (fun vs H Q E h => SpW.len rfl h) (fun A outer s H vs Q E gd hr h => ?_)
  have tk : Takes (cxOf (L2.CX P w) P w K mg base N_Rule___init__ "Rule.__init__" (defScope (inClass (topS 21) 0)) (He.ma K (He.ga K "Rule") "__init__") (.ref (codeAt K (He.ma K (He.ga K "Rule") "__init__"))) A outer s H E) (fun cls d _ H => E cls d H) := takes_of rfl rfl rfl rfl
  exact ⟨_, gs_le (c := cx K) (W := fun cls d _ H => E cls d H) (kb := 0) (gs_cons (g_ifS (g_tnot (g_tval (g_call G_is_list gd (hr.mono (by decide)) rfl T.g_is_list k_is_list b_is_list .nil (fun _ _ => .nil) tk (ga_cons (g_var (pv 1)) ga_nil)))) (gs_one (g_rzA (n := "BadRule") rfl tk T.er_BadRule.t T.er_BadRule.ini T.er_BadRule.fn T.er_BadRule.nof GE_BadRule (hr.mono (by decide)) bE_BadRule rfl T.g_BadRule g_non e_BadRule)) gs_nil)
      (gs_cons (g_for (passes_of rfl) (gi_enum (by rfl) T.n_enumerate (ga_cons (g_var (pv 1)) ga_nil)) (gg_tup (ggs_cons (gg_name (i := 2) nd rfl (Or.inl rfl)) (ggs_cons (gg_name (i := 3) nd rfl (Or.inl rfl)) ggs_nil))) (gs_one (g_ifS (g_tnot (g_tval (g_call G_is_number gd (hr.mono (by decide)) rfl T.g_is_number k_is_number b_is_number .nil (fun _ _ => .nil) tk (ga_cons (g_var (pv 3)) ga_nil)))) (gs_one (g_rzA (n := "BadRule") rfl tk T.er_BadRule.t T.er_BadRule.ini T.er_BadRule.fn T.er_BadRule.nof GE_BadRule (hr.mono (by decide)) bE_BadRule rfl T.g_BadRule (g_var (pv 2)) e_BadRule)) gs_nil)))
      (gs_one (g_setF (n := "Rule") (g_var (pv 0)) (g_call G_without_end gd (hr.mono (by decide)) rfl T.g_without_end k_without_end b_without_end .nil (fun _ _ => .nil) tk (ga_cons (g_var (pv 1)) ga_nil)) T.cl_Rule T.na_Rule_own_numbers)))) (by decide +kernel), run_wDef (N := N_Rule___init__) h (Nat.le_refl _)⟩
theorem ok_Rule___init__ (T : Tx K mg) (TB : TbB K base mg) : OkW P w (cx K) mg base 3 (He.ma K (He.ga K "Rule") "__init__") ["self", "coefficients"] wp_Rule___init__ (0) (d_Rule___init__.dvs K) := by
  obtain ⟨fd, F⟩ := T.f_Rule___init__
  have hb : Binds K fd ["self", "coefficients"] [] := by
    obtain ⟨ds, r, b⟩ := FunD.binds1 (ps := ["self", "coefficients"]) F 2 1 (by intro z; cases z) rfl fun _ _ _ _ _ _ _ us its hl hi => match us, its, hl, hi with | [_, _], [_], _, _ => ⟨_, rfl, rfl⟩
    cases r
    exact b
  have hc : ∃ ds, Vals (d_Rule___init__.dvs K) ds ∧ Binds K fd ["self", "coefficients"] ds := by
    obtain ⟨ds, r, b⟩ := FunD.binds1 (ps := ["self", "coefficients"]) F 1 0 (by intro z; cases z) rfl fun _ _ _ _ _ _ _ us its hl hi => match us, its, hl, hi with | [_], [_], _, _ => ⟨_, rfl, rfl⟩
    exact ⟨ds, r, b⟩
  exact ⟨fd, okF_Rule___init__ T TB F, hb, F.kp, hc⟩
theorem ok_law_mixed (T : Tx K mg) (TB : TbB K base mg) : OkW P w (cx K) mg base 1 (He.ga K "_law_mixed") ["_law_state"] wp_law_mixed (1) (d_law_mixed.dvs K) := by
  obtain ⟨fd, F⟩ := T.f_law_mixed
  have nd := sc_law_mixed.nd
  have hb : Binds K fd ["_law_state"] [] := F.bindsN fun _ _ _ _ _ _ us hl => match us, hl with | [_], _ => rfl
  refine ⟨fd, fnW_of F sc_law_mixed (fun vs H Q E h => len_mixed h) (fun A outer s H vs Q E gd hr h => ⟨rd_law_mixed (cx K), PSs.nox ?_, run_mixed rfl h⟩), hb, F.kp, ⟨[], .nil, hb⟩⟩
  exact (pss_cons (ps_par (i := 1) (j := 2) (by rfl) nd rfl rfl (by decide) rfl rfl (pa_cons (pe_op op_add (pe_dget (hu_of hr) (pv 0) pe_str (fun _ _ => rfl)) pe_int) (pa_cons pe_int pa_nil)) (by rfl))
      (pss_cons (ps_dput (hu_of hr) (pv 0) pe_str (pv 1) rfl)
      (pss_cons (ps_for PassesOwn.never rfl (pi_list (pe_lst (pa_cons pe_int (pa_cons pe_int (pa_cons pe_int (pa_cons pe_int pa_nil)))))) (pg_name (i := 3) nd rfl (Or.inl rfl)) (pss_cons (ps_set (i := 4) nd rfl (Or.inl rfl) (pe_op op_add (pe_op op_mul pe_int (pv 1)) (pe_op op_fdiv (pv 3) pe_int)))
      (pss_cons (ps_for PassesOwn.never rfl (pi_list (pe_dget (hu_of hr) (pv 0) pe_str (fun _ _ => rfl))) (pg_name (i := 5) nd rfl (Or.inl rfl)) (pss_one (ps_set (i := 4) nd rfl (Or.inl rfl) (pe_op op_mod (pe_callTy call_intG (by rfl) T.n_int (by decide +kernel) (pa_cons (pe_op op_add (pe_op op_add (pe_op op_mul (pv 4) pe_int) (pv 5)) (pv 1)) pa_nil)) (pv 3)))))
      (pss_one (ps_set (i := 2) nd rfl (Or.inl rfl) (pe_op op_add (pe_op op_mul (pv 2) pe_int) (pe_op op_mod (pe_callTy call_intG (by rfl) T.n_int (by decide +kernel) (pa_cons (pe_op op_pow27 (pv 4) pe_int) pa_nil)) (pv 3))))))))
      (pss_one (ps_ret (pv 2))))))
theorem ok_law_take (T : Tx K mg) (TB : TbB K base mg) : OkW P w (cx K) mg base 2 (He.ga K "_law_take") ["_law_state", "_law_size"] wp_law_take (1) (d_law_take.dvs K) := by
  obtain ⟨fd, F⟩ := T.f_law_take
  obtain ⟨_, G_law_mixed, b_law_mixed, k_law_mixed, _, v_law_mixed, c_law_mixed⟩ := ok_law_mixed (P := P) (w := w) (base := base) T TB
  have nd := sc_law_take.nd
  have hb : Binds K fd ["_law_state", "_law_size"] [] := F.bindsN fun _ _ _ _ _ _ us hl => match us, hl with | [_, _], _ => rfl
  refine ⟨fd, fnW_of F sc_law_take (fun vs H Q E h => len_take h) (fun A outer s H vs Q E gd hr h => ⟨rd_law_take (cx K), PSs.nox ?_, run_take rfl h⟩), hb, F.kp, ⟨[], .nil, hb⟩⟩
  exact (pss_cons (ps_if (pt_cmpR op_eq (pe_dget (hu_of hr) (pv 0) pe_str (fun _ _ => rfl)) pe_int (nomark _)) (pss_one (ps_dput (hu_of hr) (pv 0) pe_str (pe_ifExp (pt_cmpR (op_neD hr.units) (pe_dget (hu_of hr) (pv 0) pe_str (fun _ _ => rfl)) (pe_lst pa_nil) (nomark _)) (pe_bm PySem.F.plainAttrs_list PySem.F.slot_list_pop PySem.F.type_list_pop mt_popAt (pe_dget (hu_of hr) (pv 0) pe_str (fun _ _ => rfl)) (pa_cons pe_int pa_nil)) (pe_callW0 G_law_mixed gd (hr.mono (by decide)) rfl T.g__law_mixed k_law_mixed b_law_mixed (pa_cons (pv 0) pa_nil))) rfl)) pss_nil)
      (pss_cons (ps_set (i := 2) nd rfl (Or.inl rfl) (pe_op op_mod (pe_callTy call_intG (by rfl) T.n_int (by decide +kernel) (pa_cons (pe_dget (hu_of hr) (pv 0) pe_str (fun _ _ => rfl)) pa_nil)) (pv 1)))
      (pss_cons (ps_dput (hu_of hr) (pv 0) pe_str (pe_op op_fdivW (pe_dget (hu_of hr) (pv 0) pe_str (fun _ _ => rfl)) (pv 1)) rfl)
      (pss_one (ps_ret (pv 2))))))
theorem okF_law_pick (T : Tx K mg) (TB : TbB K base mg) {fd : FuncData} (F : FunD K "_law_pick" "_law_pick" (defArgs (topS 29)) (defBody (topS 29)) (defScope (topS 29)) (d_law_pick.dvs K) [] (He.ga K "_law_pick") fd) : FnW P w K mg base 3 (He.ga K "_law_pick") fd ["_law_state", "_law_some"] (SpW (cx K) wp_law_pick (1)) := by
  obtain ⟨_, G_law_take, b_law_take, k_law_take, _, v_law_take, c_law_take⟩ := ok_law_take (P := P) (w := w) (base := base) T TB
  have nd := sc_law_pick.nd
  refine fnW_of F sc_law_pick (fun vs H Q E h => SpW.len rfl h) (fun A outer s H vs Q E gd hr h => ?_)
  have tk : Takes (cxOf (L2.CX P w) P w K mg base N_law_pick "_law_pick" (defScope (topS 29)) (He.ga K "_law_pick") (.ref (codeAt K (He.ga K "_law_pick"))) A outer s H E) (fun cls d _ H => E cls d H) := takes_of rfl rfl rfl rfl
  exact ⟨_, gs_le (c := cx K) (W := fun cls d _ H => E cls d H) (kb := 1) (gs_one (g_ret (g_ix (g_var (pv 1)) (g_call G_law_take gd (hr.mono (by decide)) rfl T.g__law_take k_law_take b_law_take .nil (fun _ _ => .nil) tk (ga_cons (g_var (pv 0)) (ga_cons (g_cb w_len (by rfl) T.n_len PySem.boot_len (ga_cons (g_var (pv 1)) ga_nil)) ga_nil)))))) (by decide +kernel), run_wDef (N := N_law_pick) h (Nat.le_refl _)⟩
theorem ok_law_pick (T : Tx K mg) (TB : TbB K base mg) : OkW P w (cx K) mg base 3 (He.ga K "_law_pick") ["_law_state", "_law_some"] wp_law_pick (1) (d_law_pick.dvs K) := by
  obtain ⟨fd, F⟩ := T.f_law_pick
  have hb : Binds K fd ["_law_state", "_law_some"] [] := F.bindsN fun _ _ _ _ _ _ us hl => match us, hl with | [_, _], _ => rfl
  exact ⟨fd, okF_law_pick T TB F, hb, F.kp, ⟨[], .nil, hb⟩⟩
theorem okF_law_odd (T : Tx K mg) (TB : TbB K base mg) {fd : FuncData} (F : FunD K "_law_odd" "_law_odd" (defArgs (topS 30)) (defBody (topS 30)) (defScope (topS 30)) (d_law_odd.dvs K) [] (He.ga K "_law_odd") fd) : FnW P w K mg base 5 (He.ga K "_law_odd") fd ["_law_state"] (SpW (cx K) wp_law_odd (1)) := by
  obtain ⟨_, G_Rule___init__, b_Rule___init__, k_Rule___init__, _, v_Rule___init__, c_Rule___init__⟩ := ok_Rule___init__ (P := P) (w := w) (base := base) T TB
  obtain ⟨_, G_law_pick, b_law_pick, k_law_pick, _, v_law_pick, c_law_pick⟩ := ok_law_pick (P := P) (w := w) (base := base) T TB
  have nd := sc_law_odd.nd
  refine fnW_of F sc_law_odd (fun vs H Q E h => SpW.len rfl h) (fun A outer s H vs Q E gd hr h => ?_)
  have tk : Takes (cxOf (L2.CX P w) P w K mg base N_law_odd "_law_odd" (defScope (topS 30)) (He.ga K "_law_odd") (.ref (codeAt K (He.ga K "_law_odd"))) A outer s H E) (fun cls d _ H => E cls d H) := takes_of rfl rfl rfl rfl
  exact ⟨_, gs_le (c := cx K) (W := fun cls d _ H => E cls d H) (kb := 1) (gs_cons (g_set (i := 1) nd rfl (Or.inl rfl) (g_lst (ga_cons g_non (ga_cons g_bl (ga_cons g_bl (ga_cons g_int (ga_cons g_int (ga_cons (g_un w_neg g_int) (ga_cons g_int (ga_cons (g_op w_pow g_int g_int) (ga_cons g_str (ga_cons g_str (ga_cons g_str (ga_cons (g_tup ga_nil) (ga_cons (g_lst ga_nil) (ga_cons g_dict0 (ga_cons (g_tup (ga_cons g_str ga_nil)) (ga_cons (g_tup (ga_cons g_str (ga_cons g_int ga_nil))) (ga_cons (g_tup (ga_cons g_str (ga_cons g_int ga_nil))) ga_nil)))))))))))))))))))
      (gs_cons (g_set (i := 1) nd rfl (Or.inl rfl) (g_op w_add (g_var (pv 1)) (g_lst (ga_cons (g_tup (ga_cons g_str (ga_cons g_int (ga_cons g_int (ga_cons g_int (ga_cons g_int ga_nil)))))) (ga_cons (g_tup (ga_cons g_str ga_nil)) (ga_cons (g_lst (ga_cons (g_tup (ga_cons g_str (ga_cons g_int ga_nil))) ga_nil)) (ga_cons (g_disp1 g_str g_int) (ga_cons (g_dispT (is_ := [0, 0]) hr.units0 (pe_tup (pa_cons pe_int (pa_cons pe_int pa_nil))) (by decide) g_int) (ga_cons (g_tup (ga_cons g_int (ga_cons g_int ga_nil))) (ga_cons (g_tup (ga_cons g_int (ga_cons g_bl ga_nil))) (ga_cons (g_make (n := "Rule") T.mk_Rule G_Rule___init__ gd (hr.mono (by decide)) rfl T.g_Rule b_Rule___init__ .nil (fun _ _ => .nil) tk (ga_cons (g_lst (ga_cons g_int ga_nil)) ga_nil) n_Rule) ga_nil)))))))))))
      (gs_one (g_ret (g_call G_law_pick gd (hr.mono (by decide)) rfl T.g__law_pick k_law_pick b_law_pick .nil (fun _ _ => .nil) tk (ga_cons (g_var (pv 0)) (ga_cons (g_var (pv 1)) ga_nil))))))) (by decide +kernel), run_wDef (N := N_law_odd) h (Nat.le_refl _)⟩
theorem ok_law_odd (T : Tx K mg) (TB : TbB K base mg) : OkW P w (cx K) mg base 5 (He.ga K "_law_odd") ["_law_state"] wp_law_odd (1) (d_law_odd.dvs K) := by
  obtain ⟨fd, F⟩ := T.f_law_odd
  have hb : Binds K fd ["_law_state"] [] := F.bindsN fun _ _ _ _ _ _ us hl => match us, hl with | [_], _ => rfl
  exact ⟨fd, okF_law_odd T TB F, hb, F.kp, ⟨[], .nil, hb⟩⟩
theorem okF_law_each (T : Tx K mg) (TB : TbB K base mg) {fd : FuncData} (F : FunD K "_law_each" "_law_each" (defArgs (topS 32)) (defBody (topS 32)) (defScope (topS 32)) (d_law_each.dvs K) [] (He.ga K "_law_each") fd) : FnW P w K mg base 3 (He.ga K "_law_each") fd ["_law_matter"] (SpW (cx K) wp_law_each (0)) := by
  obtain ⟨_, GE_BadDeed, bE_BadDeed⟩ := ok_BadDeed___init__ (P := P) (w := w) (base := base) T
  obtain ⟨_, GE_BadJournal, bE_BadJournal⟩ := ok_BadJournal___init__ (P := P) (w := w) (base := base) T
  obtain ⟨_, GE_BadProgram, bE_BadProgram⟩ := ok_BadProgram___init__ (P := P) (w := w) (base := base) T
  obtain ⟨_, GE_BadRule, bE_BadRule⟩ := ok_BadRule___init__ (P := P) (w := w) (base := base) T
  obtain ⟨_, GE_BadText, bE_BadText⟩ := ok_BadText___init__ (P := P) (w := w) (base := base) T
  obtain ⟨_, GE_TooMany, bE_TooMany⟩ := ok_TooMany___init__ (P := P) (w := w) (base := base) T
  have nd := sc_law_each.nd
  refine fnW_of F sc_law_each (fun vs H Q E h => SpW.len rfl h) (fun A outer s H vs Q E gd hr h => ?_)
  have tk : Takes (cxOf (L2.CX P w) P w K mg base N_law_each "_law_each" (defScope (topS 32)) (He.ga K "_law_each") (.ref (codeAt K (He.ga K "_law_each"))) A outer s H E) (fun cls d _ H => E cls d H) := takes_of rfl rfl rfl rfl
  exact ⟨_, gs_le (c := cx K) (W := fun cls d _ H => E cls d H) (kb := 0) (gs_cons (g_set (i := 1) nd rfl (Or.inl rfl) (g_lst (ga_cons (g_mkEA (n := "BadRule") (f := "at") T.er_BadRule.t T.er_BadRule.ini T.er_BadRule.fn T.er_BadRule.nof GE_BadRule (hr.mono (by decide)) bE_BadRule (by rfl) T.g_BadRule (g_var (pv 0)) e_BadRule) (ga_cons (g_mkEA (n := "BadProgram") (f := "at") T.er_BadProgram.t T.er_BadProgram.ini T.er_BadProgram.fn T.er_BadProgram.nof GE_BadProgram (hr.mono (by decide)) bE_BadProgram (by rfl) T.g_BadProgram (g_var (pv 0)) e_BadProgram) (ga_cons (g_mkEA (n := "TooMany") (f := "most") T.er_TooMany.t T.er_TooMany.ini T.er_TooMany.fn T.er_TooMany.nof GE_TooMany (hr.mono (by decide)) bE_TooMany (by rfl) T.g_TooMany (g_var (pv 0)) e_TooMany) (ga_cons (g_mkEA (n := "BadDeed") (f := "deed") T.er_BadDeed.t T.er_BadDeed.ini T.er_BadDeed.fn T.er_BadDeed.nof GE_BadDeed (hr.mono (by decide)) bE_BadDeed (by rfl) T.g_BadDeed (g_var (pv 0)) e_BadDeed) (ga_cons (g_mkEA (n := "BadJournal") (f := "at") T.er_BadJournal.t T.er_BadJournal.ini T.er_BadJournal.fn T.er_BadJournal.nof GE_BadJournal (hr.mono (by decide)) bE_BadJournal (by rfl) T.g_BadJournal (g_var (pv 0)) e_BadJournal) (ga_cons (g_mkEA (n := "BadText") (f := "line") T.er_BadText.t T.er_BadText.ini T.er_BadText.fn T.er_BadText.nof GE_BadText (hr.mono (by decide)) bE_BadText (by rfl) T.g_BadText (g_var (pv 0)) e_BadText) ga_nil))))))))
      (gs_cons (g_set (i := 1) nd rfl (Or.inl rfl) (g_op w_add (g_var (pv 1)) (g_lst (ga_cons (g_mkE (n := "BadPower") PySem.F.excBase_ValueError T.er_BadPower.q T.g_BadPower T.er_BadPower.kp (raises_own T.er_BadPower.be T.er_BadPower.ty) (by rfl) e_BadPower) (ga_cons (g_mkE (n := "BadFormula") PySem.F.excBase_ValueError T.er_BadFormula.q T.g_BadFormula T.er_BadFormula.kp (raises_own T.er_BadFormula.be T.er_BadFormula.ty) (by rfl) e_BadFormula) (ga_cons (g_mkE (n := "BadPair") PySem.F.excBase_ValueError T.er_BadPair.q T.g_BadPair T.er_BadPair.kp (raises_own T.er_BadPair.be T.er_BadPair.ty) (by rfl) e_BadPair) (ga_cons (g_mkE (n := "BadPoint") PySem.F.excBase_ValueError T.er_BadPoint.q T.g_BadPoint T.er_BadPoint.kp (raises_own T.er_BadPoint.be T.er_BadPoint.ty) (by rfl) e_BadPoint) ga_nil)))))))
      (gs_one (g_ret (g_op w_add (g_var (pv 1)) (g_lst (ga_cons (g_mkE (n := "BadCount") PySem.F.excBase_ValueError T.er_BadCount.q T.g_BadCount T.er_BadCount.kp (raises_own T.er_BadCount.be T.er_BadCount.ty) (by rfl) e_BadCount) (ga_cons (g_mkE (n := "NoCore") PySem.F.excBase_ValueError T.er_NoCore.q T.g_NoCore T.er_NoCore.kp (raises_own T.er_NoCore.be T.er_NoCore.ty) (by rfl) e_NoCore) (ga_cons (g_mkE (n := "NothingLeft") PySem.F.excBase_ValueError T.er_NothingLeft.q T.g_NothingLeft T.er_NothingLeft.kp (raises_own T.er_NothingLeft.be T.er_NothingLeft.ty) (by rfl) e_NothingLeft) ga_nil))))))))) (by decide +kernel), run_wDef (N := N_law_each) h (Nat.le_refl _)⟩
theorem ok_law_each (T : Tx K mg) (TB : TbB K base mg) : OkW P w (cx K) mg base 3 (He.ga K "_law_each") ["_law_matter"] wp_law_each (0) (d_law_each.dvs K) := by
  obtain ⟨fd, F⟩ := T.f_law_each
  have hb : Binds K fd ["_law_matter"] [] := F.bindsN fun _ _ _ _ _ _ us hl => match us, hl with | [_], _ => rfl
  exact ⟨fd, okF_law_each T TB F, hb, F.kp, ⟨[], .nil, hb⟩⟩
theorem okF_law_marks (T : Tx K mg) (TB : TbB K base mg) {fd : FuncData} (F : FunD K "_law_marks" "_law_marks" (defArgs (topS 31)) (defBody (topS 31)) (defScope (topS 31)) (d_law_marks.dvs K) [] (He.ga K "_law_marks") fd) : FnW P w K mg base 1 (He.ga K "_law_marks") fd ["_law_error"] (SpW (cx K) wp_law_marks (0)) := by
  have nd := sc_law_marks.nd
  refine fnW_of F sc_law_marks (fun vs H Q E h => SpW.len rfl h) (fun A outer s H vs Q E gd hr h => ?_)
  have tk : Takes (cxOf (L2.CX P w) P w K mg base N_law_marks "_law_marks" (defScope (topS 31)) (He.ga K "_law_marks") (.ref (codeAt K (He.ga K "_law_marks"))) A outer s H E) (fun cls d _ H => E cls d H) := takes_of rfl rfl rfl rfl
  exact ⟨_, gs_le (c := cx K) (W := fun cls d _ H => E cls d H) (kb := 0) (gs_cons (g_set (i := 1) nd rfl (Or.inl rfl) (g_lst (ga_cons (g_cb (w_isi T.ctx) (by rfl) T.n_isinstance (by decide +kernel) (ga_cons (g_var (pv 0)) (ga_cons (g_cls (pe_glob rfl T.g_BadRule rfl) i_BadRule) ga_nil))) (ga_cons (g_cb (w_isi T.ctx) (by rfl) T.n_isinstance (by decide +kernel) (ga_cons (g_var (pv 0)) (ga_cons (g_cls (pe_glob rfl T.g_BadProgram rfl) i_BadProgram) ga_nil))) (ga_cons (g_cb (w_isi T.ctx) (by rfl) T.n_isinstance (by decide +kernel) (ga_cons (g_var (pv 0)) (ga_cons (g_cls (pe_glob rfl T.g_TooMany rfl) i_TooMany) ga_nil))) ga_nil)))))
      (gs_cons (g_set (i := 1) nd rfl (Or.inl rfl) (g_op w_add (g_var (pv 1)) (g_lst (ga_cons (g_cb (w_isi T.ctx) (by rfl) T.n_isinstance (by decide +kernel) (ga_cons (g_var (pv 0)) (ga_cons (g_cls (pe_glob rfl T.g_BadDeed rfl) i_BadDeed) ga_nil))) (ga_cons (g_cb (w_isi T.ctx) (by rfl) T.n_isinstance (by decide +kernel) (ga_cons (g_var (pv 0)) (ga_cons (g_cls (pe_glob rfl T.g_BadJournal rfl) i_BadJournal) ga_nil))) (ga_cons (g_cb (w_isi T.ctx) (by rfl) T.n_isinstance (by decide +kernel) (ga_cons (g_var (pv 0)) (ga_cons (g_cls (pe_glob rfl T.g_BadText rfl) i_BadText) ga_nil))) ga_nil))))))
      (gs_cons (g_set (i := 1) nd rfl (Or.inl rfl) (g_op w_add (g_var (pv 1)) (g_lst (ga_cons (g_cb (w_isi T.ctx) (by rfl) T.n_isinstance (by decide +kernel) (ga_cons (g_var (pv 0)) (ga_cons (g_cls (pe_glob rfl T.g_BadPower rfl) i_BadPower) ga_nil))) (ga_cons (g_cb (w_isi T.ctx) (by rfl) T.n_isinstance (by decide +kernel) (ga_cons (g_var (pv 0)) (ga_cons (g_cls (pe_glob rfl T.g_BadFormula rfl) i_BadFormula) ga_nil))) (ga_cons (g_cb (w_isi T.ctx) (by rfl) T.n_isinstance (by decide +kernel) (ga_cons (g_var (pv 0)) (ga_cons (g_cls (pe_glob rfl T.g_BadPair rfl) i_BadPair) ga_nil))) ga_nil))))))
      (gs_cons (g_set (i := 1) nd rfl (Or.inl rfl) (g_op w_add (g_var (pv 1)) (g_lst (ga_cons (g_cb (w_isi T.ctx) (by rfl) T.n_isinstance (by decide +kernel) (ga_cons (g_var (pv 0)) (ga_cons (g_cls (pe_glob rfl T.g_BadPoint rfl) i_BadPoint) ga_nil))) (ga_cons (g_cb (w_isi T.ctx) (by rfl) T.n_isinstance (by decide +kernel) (ga_cons (g_var (pv 0)) (ga_cons (g_cls (pe_glob rfl T.g_BadCount rfl) i_BadCount) ga_nil))) (ga_cons (g_cb (w_isi T.ctx) (by rfl) T.n_isinstance (by decide +kernel) (ga_cons (g_var (pv 0)) (ga_cons (g_cls (pe_glob rfl T.g_NoCore rfl) i_NoCore) ga_nil))) ga_nil))))))
      (gs_one (g_ret (g_op w_add (g_var (pv 1)) (g_lst (ga_cons (g_cb (w_isi T.ctx) (by rfl) T.n_isinstance (by decide +kernel) (ga_cons (g_var (pv 0)) (ga_cons (g_cls (pe_glob rfl T.g_NothingLeft rfl) i_NothingLeft) ga_nil))) ga_nil))))))))) (by decide +kernel), run_wDef (N := N_law_marks) h (Nat.le_refl _)⟩
theorem ok_law_marks (T : Tx K mg) (TB : TbB K base mg) : OkW P w (cx K) mg base 1 (He.ga K "_law_marks") ["_law_error"] wp_law_marks (0) (d_law_marks.dvs K) := by
  obtain ⟨fd, F⟩ := T.f_law_marks
  have hb : Binds K fd ["_law_error"] [] := F.bindsN fun _ _ _ _ _ _ us hl => match us, hl with | [_], _ => rfl
  exact ⟨fd, okF_law_marks T TB F, hb, F.kp, ⟨[], .nil, hb⟩⟩
theorem okF_Rule_coefficients (T : Tx K mg) (TB : TbB K base mg) {fd : FuncData} (F : FunD K "coefficients" "Rule.coefficients" (defArgs (inClass (topS 21) 1)) (defBody (inClass (topS 21) 1)) (defScope (inClass (topS 21) 1)) (d_Rule_coefficients.dvs K) [] (recAt K "property" (He.ma K (He.ga K "Rule") "coefficients")) fd) : FnW P w K mg base 1 (recAt K "property" (He.ma K (He.ga K "Rule") "coefficients")) fd ["self"] (SpW (cx K) wp_Rule_coefficients (0)) := by
  have nd := sc_Rule_coefficients.nd
  refine fnW_of F sc_Rule_coefficients (fun vs H Q E h => SpW.len rfl h) (fun A outer s H vs Q E gd hr h => ?_)
  have tk : Takes (cxOf (L2.CX P w) P w K mg base N_Rule_coefficients "Rule.coefficients" (defScope (inClass (topS 21) 1)) (recAt K "property" (He.ma K (He.ga K "Rule") "coefficients")) (.ref (codeAt K (recAt K "property" (He.ma K (He.ga K "Rule") "coefficients")))) A outer s H E) (fun cls d _ H => E cls d H) := takes_of rfl rfl rfl rfl
  exact ⟨_, gs_le (c := cx K) (W := fun cls d _ H => E cls d H) (kb := 0) (gs_one (g_ret (g_fld (n := "Rule") (g_var (pv 0)) T.cl_Rule T.na_Rule_own_numbers))) (by decide +kernel), run_wDef (N := N_Rule_coefficients) h (Nat.le_refl _)⟩
theorem ok_Rule_coefficients (T : Tx K mg) (TB : TbB K base mg) : OkW P w (cx K) mg base 1 (recAt K "property" (He.ma K (He.ga K "Rule") "coefficients")) ["self"] wp_Rule_coefficients (0) (d_Rule_coefficients.dvs K) := by
  obtain ⟨fd, F⟩ := T.f_Rule_coefficients
  have hb : Binds K fd ["self"] [] := F.bindsN fun _ _ _ _ _ _ us hl => match us, hl with | [_], _ => rfl
  exact ⟨fd, okF_Rule_coefficients T TB F, hb, F.kp, ⟨[], .nil, hb⟩⟩
theorem okF_law_bare (T : Tx K mg) (TB : TbB K base mg) {fd : FuncData} (F : FunD K "_law_bare" "_law_bare" (defArgs (topS 34)) (defBody (topS 34)) (defScope (topS 34)) (d_law_bare.dvs K) [] (He.ga K "_law_bare") fd) : FnW P w K mg base 3 (He.ga K "_law_bare") fd ["_law_matter"] (SpW (cx K) wp_law_bare (0)) := by
  obtain ⟨_, G_Rule_coefficients, b_Rule_coefficients, k_Rule_coefficients, _, v_Rule_coefficients, c_Rule_coefficients⟩ := ok_Rule_coefficients (P := P) (w := w) (base := base) T TB
  have nd := sc_law_bare.nd
  refine fnW_of F sc_law_bare (fun vs H Q E h => SpW.len rfl h) (fun A outer s H vs Q E gd hr h => ?_)
  have tk : Takes (cxOf (L2.CX P w) P w K mg base N_law_bare "_law_bare" (defScope (topS 34)) (He.ga K "_law_bare") (.ref (codeAt K (He.ga K "_law_bare"))) A outer s H E) (fun cls d _ H => E cls d H) := takes_of rfl rfl rfl rfl
  exact ⟨_, gs_le (c := cx K) (W := fun cls d _ H => E cls d H) (kb := 0) (gs_one (g_ret (g_if (g_tval (g_cb (w_isi T.ctx) (by rfl) T.n_isinstance (by decide +kernel) (ga_cons (g_var (pv 0)) (ga_cons (g_cls (pe_glob rfl T.g_Rule rfl) i_Rule) ga_nil)))) (g_lst (ga_cons g_str (ga_cons (g_prop (n := "Rule") (g_var (pv 0)) T.cl_Rule T.prop_Rule_coefficients G_Rule_coefficients gd (hr.mono (by decide)) b_Rule_coefficients) ga_nil))) (g_var (pv 0))))) (by decide +kernel), run_wDef (N := N_law_bare) h (Nat.le_refl _)⟩
theorem ok_law_bare (T : Tx K mg) (TB : TbB K base mg) : OkW P w (cx K) mg base 3 (He.ga K "_law_bare") ["_law_matter"] wp_law_bare (0) (d_law_bare.dvs K) := by
  obtain ⟨fd, F⟩ := T.f_law_bare
  have hb : Binds K fd ["_law_matter"] [] := F.bindsN fun _ _ _ _ _ _ us hl => match us, hl with | [_], _ => rfl
  exact ⟨fd, okF_law_bare T TB F, hb, F.kp, ⟨[], .nil, hb⟩⟩
theorem okF_law_named (T : Tx K mg) (TB : TbB K base mg) {fd : FuncData} (F : FunD K "_law_named" "_law_named" (defArgs (topS 33)) (defBody (topS 33)) (defScope (topS 33)) (d_law_named.dvs K) [] (He.ga K "_law_named") fd) : FnW P w K mg base 3 (He.ga K "_law_named") fd ["_law_matter"] (SpW (cx K) wp_law_named (0)) := by
  obtain ⟨_, GE_BadDeed, bE_BadDeed⟩ := ok_BadDeed___init__ (P := P) (w := w) (base := base) T
  obtain ⟨_, GE_BadJournal, bE_BadJournal⟩ := ok_BadJournal___init__ (P := P) (w := w) (base := base) T
  obtain ⟨_, GE_BadProgram, bE_BadProgram⟩ := ok_BadProgram___init__ (P := P) (w := w) (base := base) T
  obtain ⟨_, GE_BadRule, bE_BadRule⟩ := ok_BadRule___init__ (P := P) (w := w) (base := base) T
  obtain ⟨_, GE_BadText, bE_BadText⟩ := ok_BadText___init__ (P := P) (w := w) (base := base) T
  obtain ⟨_, GE_TooMany, bE_TooMany⟩ := ok_TooMany___init__ (P := P) (w := w) (base := base) T
  obtain ⟨_, GKE_BadDeed, bKE_BadDeed⟩ := okK_BadDeed___init__ (P := P) (w := w) (base := base) T
  obtain ⟨_, GKE_BadJournal, bKE_BadJournal⟩ := okK_BadJournal___init__ (P := P) (w := w) (base := base) T
  obtain ⟨_, GKE_BadProgram, bKE_BadProgram⟩ := okK_BadProgram___init__ (P := P) (w := w) (base := base) T
  obtain ⟨_, GKE_BadRule, bKE_BadRule⟩ := okK_BadRule___init__ (P := P) (w := w) (base := base) T
  obtain ⟨_, GKE_BadText, bKE_BadText⟩ := okK_BadText___init__ (P := P) (w := w) (base := base) T
  obtain ⟨_, GKE_TooMany, bKE_TooMany⟩ := okK_TooMany___init__ (P := P) (w := w) (base := base) T
  have nd := sc_law_named.nd
  refine fnW_of F sc_law_named (fun vs H Q E h => SpW.len rfl h) (fun A outer s H vs Q E gd hr h => ?_)
  have tk : Takes (cxOf (L2.CX P w) P w K mg base N_law_named "_law_named" (defScope (topS 33)) (He.ga K "_law_named") (.ref (codeAt K (He.ga K "_law_named"))) A outer s H E) (fun cls d _ H => E cls d H) := takes_of rfl rfl rfl rfl
  exact ⟨_, gs_le (c := cx K) (W := fun cls d _ H => E cls d H) (kb := 0) (gs_cons (g_set (i := 1) nd rfl (Or.inl rfl) (g_lst (ga_cons (g_mkEK (n := "BadRule") (f := "at") T.er_BadRule.t T.er_BadRule.ini T.er_BadRule.fn T.er_BadRule.nof GKE_BadRule (hr.mono (by decide)) bKE_BadRule (by rfl) T.g_BadRule (gk_cons (g_var (pv 0)) gk_nil) e_BadRule) (ga_cons (g_mkEK (n := "BadProgram") (f := "at") T.er_BadProgram.t T.er_BadProgram.ini T.er_BadProgram.fn T.er_BadProgram.nof GKE_BadProgram (hr.mono (by decide)) bKE_BadProgram (by rfl) T.g_BadProgram (gk_cons (g_var (pv 0)) gk_nil) e_BadProgram) (ga_cons (g_mkEK (n := "TooMany") (f := "most") T.er_TooMany.t T.er_TooMany.ini T.er_TooMany.fn T.er_TooMany.nof GKE_TooMany (hr.mono (by decide)) bKE_TooMany (by rfl) T.g_TooMany (gk_cons (g_var (pv 0)) gk_nil) e_TooMany) (ga_cons (g_mkEK (n := "BadDeed") (f := "deed") T.er_BadDeed.t T.er_BadDeed.ini T.er_BadDeed.fn T.er_BadDeed.nof GKE_BadDeed (hr.mono (by decide)) bKE_BadDeed (by rfl) T.g_BadDeed (gk_cons (g_var (pv 0)) gk_nil) e_BadDeed) ga_nil))))))
      (gs_one (g_ret (g_op w_add (g_var (pv 1)) (g_lst (ga_cons (g_mkEK (n := "BadJournal") (f := "at") T.er_BadJournal.t T.er_BadJournal.ini T.er_BadJournal.fn T.er_BadJournal.nof GKE_BadJournal (hr.mono (by decide)) bKE_BadJournal (by rfl) T.g_BadJournal (gk_cons (g_var (pv 0)) gk_nil) e_BadJournal) (ga_cons (g_mkEK (n := "BadText") (f := "line") T.er_BadText.t T.er_BadText.ini T.er_BadText.fn T.er_BadText.nof GKE_BadText (hr.mono (by decide)) bKE_BadText (by rfl) T.g_BadText (gk_cons (g_var (pv 0)) gk_nil) e_BadText) ga_nil))))))) (by decide +kernel), run_wDef (N := N_law_named) h (Nat.le_refl _)⟩
theorem ok_law_named (T : Tx K mg) (TB : TbB K base mg) : OkW P w (cx K) mg base 3 (He.ga K "_law_named") ["_law_matter"] wp_law_named (0) (d_law_named.dvs K) := by
  obtain ⟨fd, F⟩ := T.f_law_named
  have hb : Binds K fd ["_law_matter"] [] := F.bindsN fun _ _ _ _ _ _ us hl => match us, hl with | [_], _ => rfl
  exact ⟨fd, okF_law_named T TB F, hb, F.kp, ⟨[], .nil, hb⟩⟩
theorem okF_law_kept (T : Tx K mg) (TB : TbB K base mg) {fd : FuncData} (F : FunD K "_law_kept" "_law_kept" (defArgs (topS 35)) (defBody (topS 35)) (defScope (topS 35)) (d_law_kept.dvs K) [] (He.ga K "_law_kept") fd) : FnW P w K mg base 4 (He.ga K "_law_kept") fd ["_law_some"] (SpW (cx K) wp_law_kept (0)) := by
  obtain ⟨_, G_law_bare, b_law_bare, k_law_bare, _, v_law_bare, c_law_bare⟩ := ok_law_bare (P := P) (w := w) (base := base) T TB
  have nd := sc_law_kept.nd
  refine fnW_of F sc_law_kept (fun vs H Q E h => SpW.len rfl h) (fun A outer s H vs Q E gd hr h => ?_)
  have tk : Takes (cxOf (L2.CX P w) P w K mg base N_law_kept "_law_kept" (defScope (topS 35)) (He.ga K "_law_kept") (.ref (codeAt K (He.ga K "_law_kept"))) A outer s H E) (fun cls d _ H => E cls d H) := takes_of rfl rfl rfl rfl
  exact ⟨_, gs_le (c := cx K) (W := fun cls d _ H => E cls d H) (kb := 0) (gs_cons (g_set (i := 1) nd rfl (Or.inl rfl) (g_lst (ga_cons (g_errF T.ctx T.ef_at (g_ix (g_var (pv 0)) g_int)) (ga_cons (g_errF T.ctx T.ef_at (g_ix (g_var (pv 0)) g_int)) (ga_cons (g_errF T.ctx T.ef_most (g_ix (g_var (pv 0)) g_int)) (ga_cons (g_errF T.ctx T.ef_deed (g_ix (g_var (pv 0)) g_int)) (ga_cons (g_errF T.ctx T.ef_at (g_ix (g_var (pv 0)) g_int)) (ga_cons (g_errF T.ctx T.ef_line (g_ix (g_var (pv 0)) g_int)) ga_nil))))))))
      (gs_one (g_ret (g_lc (own := [("_law_matter", 2)]) nd (gi_seq (g_var (pv 1))) (blkOk_by (own := [("_law_matter", 2)]) (N := N_law_kept) (sc := defScope (topS 35)) (by decide +kernel)) (fun _ _ _ _ _ => (gg_name (i := 2) nd rfl (Or.inl rfl))) (fun _ _ _ _ _ => gt_yes) (fun _ _ _ _ _ => (g_call G_law_bare gd (hr.mono (by decide)) rfl T.g__law_bare k_law_bare b_law_bare .nil (fun _ _ => .nil) LamX.takes0 (ga_cons (g_var (pv 2)) ga_nil))))))) (by decide +kernel), run_wDef (N := N_law_kept) h (Nat.le_refl _)⟩
theorem ok_law_kept (T : Tx K mg) (TB : TbB K base mg) : OkW P w (cx K) mg base 4 (He.ga K "_law_kept") ["_law_some"] wp_law_kept (0) (d_law_kept.dvs K) := by
  obtain ⟨fd, F⟩ := T.f_law_kept
  have hb : Binds K fd ["_law_some"] [] := F.bindsN fun _ _ _ _ _ _ us hl => match us, hl with | [_], _ => rfl
  exact ⟨fd, okF_law_kept T TB F, hb, F.kp, ⟨[], .nil, hb⟩⟩
theorem ok_law_begun (T : Tx K mg) (TB : TbB K base mg) : ∃ fd, FnW P w K mg base 1 (He.ga K "_law_begun") fd ["_law_script"] (sp_law_begun (cx K)) ∧ Binds K fd ["_law_script"] [] ∧ PySem.W.keepIn K (.ref (He.ga K "_law_begun")) = true := by
  obtain ⟨fd, F⟩ := T.f_law_begun
  have nd := sc_law_begun.nd
  have hb : Binds K fd ["_law_script"] [] := F.bindsN fun _ _ _ _ _ _ us hl => match us, hl with | [_], _ => rfl
  refine ⟨fd, fnW_of F sc_law_begun (fun vs H Q E h => by obtain ⟨a, ns, rfl, _⟩ := h; rfl) (fun A outer s H vs Q E gd hr h => ⟨rd_law_begun (cx K), PSs.nox ?_, run_begun rfl h⟩), hb, F.kp⟩
  exact (pss_cons (ps_setLc (i := 1) (own := [("_law_cell", 2)]) rfl nd rfl rfl (sw_true rfl rfl rfl (by decide +kernel)) (pi_list (pv 0)) (blkOk_by (own := [("_law_cell", 2)]) (N := N_law_begun) (sc := defScope (topS 26)) (by decide +kernel)) (fun _ _ _ _ _ => (pg_name (i := 2) nd rfl (Or.inl rfl))) (fun _ _ _ _ _ => (pts_one (pt_cmpR op_ge (pe_callB call_absG (by rfl) T.n_abs (by decide +kernel) (pa_cons (pv 2) pa_nil)) (pe_op op_pow27 pe_int pe_int) (nomark _)))) (fun _ _ _ _ _ => (pe_op op_sub (pe_callB call_absG (by rfl) T.n_abs (by decide +kernel) (pa_cons (pv 2) pa_nil)) (pe_op op_pow27 pe_int pe_int))))
      (pss_one (ps_ret (pe_disp (pps_cons pe_str (pv 1) (pps_cons pe_str (pe_lc (own := [("_law_cell", 2)]) rfl nd (pi_list (pv 0)) (blkOk_by (own := [("_law_cell", 2)]) (N := N_law_begun) (sc := defScope (topS 26)) (by decide +kernel)) (fun _ _ _ _ _ => (pg_name (i := 2) nd rfl (Or.inl rfl))) (fun _ _ _ _ _ => pts_nil) (fun _ _ _ _ _ => (pe_op op_mod (pe_callTy call_intG (by rfl) T.n_int (by decide +kernel) (pa_cons (pe_callB call_absG (by rfl) T.n_abs (by decide +kernel) (pa_cons (pv 2) pa_nil)) pa_nil)) pe_int))) (pps_cons pe_str pe_int (pps_cons pe_str pe_int pps_nil)))) (by rfl) (by rfl) (fun z => by cases z) (by decide)))))
theorem ok_law (T : Tx K mg) (TB : TbB K base mg) {fd : FuncData} (F : FunD K "law" "law" (defArgs (topS 36)) (defBody (topS 36)) (defScope (topS 36)) (d_law.dvs K) [] (He.ga K "law") fd) : FnW P w K mg base 6 (He.ga K "law") fd ["_law_script"] (spLaw (cx K)) := by
  obtain ⟨_, G_law_bare, b_law_bare, k_law_bare, _, v_law_bare, c_law_bare⟩ := ok_law_bare (P := P) (w := w) (base := base) T TB
  obtain ⟨_, G_law_begun, b_law_begun, k_law_begun⟩ := ok_law_begun (P := P) (w := w) (base := base) T TB
  obtain ⟨_, G_law_each, b_law_each, k_law_each, _, v_law_each, c_law_each⟩ := ok_law_each (P := P) (w := w) (base := base) T TB
  obtain ⟨_, G_law_kept, b_law_kept, k_law_kept, _, v_law_kept, c_law_kept⟩ := ok_law_kept (P := P) (w := w) (base := base) T TB
  obtain ⟨_, G_law_marks, b_law_marks, k_law_marks, _, v_law_marks, c_law_marks⟩ := ok_law_marks (P := P) (w := w) (base := base) T TB
  obtain ⟨_, G_law_named, b_law_named, k_law_named, _, v_law_named, c_law_named⟩ := ok_law_named (P := P) (w := w) (base := base) T TB
  obtain ⟨_, G_law_odd, b_law_odd, k_law_odd, _, v_law_odd, c_law_odd⟩ := ok_law_odd (P := P) (w := w) (base := base) T TB
  obtain ⟨_, G_law_pick, b_law_pick, k_law_pick, _, v_law_pick, c_law_pick⟩ := ok_law_pick (P := P) (w := w) (base := base) T TB
  obtain ⟨_, G_law_take, b_law_take, k_law_take, _, v_law_take, c_law_take⟩ := ok_law_take (P := P) (w := w) (base := base) T TB
  have nd := sc_law.nd
  refine fnW_of F sc_law (fun vs H Q E h => by obtain ⟨a, ns, rfl, _⟩ := h; rfl) (fun A outer s H vs Q E gd hr h => ?_)
  have tk : Takes (cxOf (L2.CX P w) P w K mg base N_law "law" (defScope (topS 36)) (He.ga K "law") (.ref (codeAt K (He.ga K "law"))) A outer s H E) (fun cls d _ H => E cls d H) := takes_of rfl rfl rfl rfl
  have first : PS (cxOf (L2.CX P w) P w K mg base N_law "law" (defScope (topS 36)) (He.ga K "law") (.ref (codeAt K (He.ga K "law"))) A outer s H E) (defBody (topS 36)).head! _ := ps_set (i := 1) nd rfl (Or.inl rfl) (pe_callW0 G_law_begun gd (hr.mono (by decide)) rfl T.g__law_begun k_law_begun b_law_begun (pa_cons (pv 0) pa_nil))
  have rest : GSs (cxOf (L2.CX P w) P w K mg base N_law "law" (defScope (topS 36)) (He.ga K "law") (.ref (codeAt K (He.ga K "law"))) A outer s H E) (cx K) (fun cls d _ H => E cls d H) (2 ^ 65) (defBody (topS 36)).tail wr_law := gs_le (gs_cons (g_for (passes_of rfl) (gi_rng1 (by rfl) T.n_range (ga_cons (g_op w_add g_int (g_cb w_min2 (by rfl) T.n_min (by decide +kernel) (ga_cons (g_cb w_len (by rfl) T.n_len PySem.boot_len (ga_cons (g_var (pv 0)) ga_nil)) (ga_cons g_int ga_nil)))) ga_nil)) (gg_name (i := 2) nd rfl (Or.inl rfl)) (gs_cons (g_parN (hp := ps_par (i := 3) (j := 4) rfl nd rfl rfl (by decide) rfl rfl (ga_cons (g_call G_law_odd gd (hr.mono (by decide)) rfl T.g__law_odd k_law_odd b_law_odd .nil (fun _ _ => .nil) tk (ga_cons (g_var (pv 1)) ga_nil)) (ga_cons (g_call G_law_pick gd (hr.mono (by decide)) rfl T.g__law_pick k_law_pick b_law_pick .nil (fun _ _ => .nil) tk (ga_cons (g_var (pv 1)) (ga_cons (g_lst (ga_cons (g_call G_law_odd gd (hr.mono (by decide)) rfl T.g__law_odd k_law_odd b_law_odd .nil (fun _ _ => .nil) tk (ga_cons (g_var (pv 1)) ga_nil)) (ga_cons (g_call G_law_take gd (hr.mono (by decide)) rfl T.g__law_take k_law_take b_law_take .nil (fun _ _ => .nil) tk (ga_cons (g_var (pv 1)) (ga_cons (g_op w_pow g_int g_int) ga_nil))) ga_nil))) ga_nil))) ga_nil)) rfl))
      (gs_cons (g_parN (hp := ps_par (i := 5) (j := 6) rfl nd rfl rfl (by decide) rfl rfl (ga_cons (g_call G_law_each gd (hr.mono (by decide)) rfl T.g__law_each k_law_each b_law_each .nil (fun _ _ => .nil) tk (ga_cons (g_var (pv 3)) ga_nil)) (ga_cons (g_call G_law_each gd (hr.mono (by decide)) rfl T.g__law_each k_law_each b_law_each .nil (fun _ _ => .nil) tk (ga_cons (g_var (pv 4)) ga_nil)) ga_nil)) rfl))
      (gs_cons (g_for (passes_of rfl) (gi_enum (by rfl) T.n_enumerate (ga_cons (g_var (pv 5)) ga_nil)) (gg_tup (ggs_cons (gg_name (i := 7) nd rfl (Or.inr rfl)) (ggs_cons (gg_name (i := 8) nd rfl (Or.inl rfl)) ggs_nil))) (gs_cons (g_ifS (g_pt (g_wor (g_tnot (g_tval (g_cb (w_isi T.ctx) (by rfl) T.n_isinstance (by decide +kernel) (ga_cons (g_var (pv 8)) (ga_cons (g_cls (pe_glob rfl T.g_CrossError rfl) i_CrossError) ga_nil))))) (g_wor1 (g_tnot (g_tval (g_isV T.ctx T.isv (by rfl) T.n_isinstance (by rfl) T.n_ValueError (g_var (pv 8)))))))) (gs_one (g_ret g_bl)) gs_nil)
      (gs_one (g_ifS (g_tcmp (w_ne hr.units) (g_call G_law_marks gd (hr.mono (by decide)) rfl T.g__law_marks k_law_marks b_law_marks .nil (fun _ _ => .nil) tk (ga_cons (g_var (pv 8)) ga_nil)) (g_lc (own := [("_law_k", 10)]) nd (gi_rng1 (by rfl) T.n_range (ga_cons g_int ga_nil)) (blkOk_by (own := [("_law_k", 10)]) (N := N_law) (sc := defScope (topS 36)) (by decide +kernel)) (fun _ _ _ _ _ => (gg_name (i := 10) nd rfl (Or.inl rfl))) (fun _ _ _ _ _ => gt_yes) (fun _ _ _ _ _ => (g_cmp (w_eq hr.units) (g_var (pv 10)) (g_var (pv 7)) (nomark _)))) (nomark _)) (gs_one (g_ret g_bl)) gs_nil))))
      (gs_cons (g_set (i := 9) nd rfl (Or.inl rfl) (g_cb (w_reprA T.dg gd hr.units) (by rfl) T.n_repr (by decide +kernel) (ga_cons (g_op w_mul (g_lst (ga_cons (g_call G_law_bare gd (hr.mono (by decide)) rfl T.g__law_bare k_law_bare b_law_bare .nil (fun _ _ => .nil) tk (ga_cons (g_var (pv 3)) ga_nil)) ga_nil)) g_int) ga_nil)))
      (gs_cons (g_ifS (g_pt (g_wor (g_tcmp (w_ne hr.units) (g_cb (w_reprA T.dg gd hr.units) (by rfl) T.n_repr (by decide +kernel) (ga_cons (g_call G_law_kept gd (hr.mono (by decide)) rfl T.g__law_kept k_law_kept b_law_kept .nil (fun _ _ => .nil) tk (ga_cons (g_call G_law_named gd (hr.mono (by decide)) rfl T.g__law_named k_law_named b_law_named .nil (fun _ _ => .nil) tk (ga_cons (g_var (pv 3)) ga_nil)) ga_nil)) ga_nil)) (g_var (pv 9)) (nomark _)) (g_wor1 (g_tcmp (w_ne hr.units) (g_cb (w_reprA T.dg gd hr.units) (by rfl) T.n_repr (by decide +kernel) (ga_cons (g_call G_law_kept gd (hr.mono (by decide)) rfl T.g__law_kept k_law_kept b_law_kept .nil (fun _ _ => .nil) tk (ga_cons (g_var (pv 5)) ga_nil)) ga_nil)) (g_var (pv 9)) (nomark _))))) (gs_one (g_ret g_bl)) gs_nil)
      (gs_one (g_ifS (g_tcmp (w_ne hr.units) (g_cb (w_reprA T.dg gd hr.units) (by rfl) T.n_repr (by decide +kernel) (ga_cons (g_call G_law_kept gd (hr.mono (by decide)) rfl T.g__law_kept k_law_kept b_law_kept .nil (fun _ _ => .nil) tk (ga_cons (g_var (pv 6)) ga_nil)) ga_nil)) (g_cb (w_reprA T.dg gd hr.units) (by rfl) T.n_repr (by decide +kernel) (ga_cons (g_op w_mul (g_lst (ga_cons (g_call G_law_bare gd (hr.mono (by decide)) rfl T.g__law_bare k_law_bare b_law_bare .nil (fun _ _ => .nil) tk (ga_cons (g_var (pv 4)) ga_nil)) ga_nil)) g_int) ga_nil)) (nomark _)) (gs_one (g_ret g_bl)) gs_nil))))))))
      (gs_one (g_ret (g_and (g_cmp w_notin g_bl (g_call G_law_marks gd (hr.mono (by decide)) rfl T.g__law_marks k_law_marks b_law_marks .nil (fun _ _ => .nil) tk (ga_cons (g_mkE (n := "CrossError") PySem.F.excBase_ValueError T.er_CrossError.q T.g_CrossError T.er_CrossError.kp (raises_own T.er_CrossError.be T.er_CrossError.ty) (by rfl) e_CrossError) ga_nil)) (by rfl)) (g_one (g_isV T.ctx T.isv (by rfl) T.n_isinstance (by rfl) T.n_ValueError (g_mkE (n := "CrossError") PySem.F.excBase_ValueError T.er_CrossError.q T.g_CrossError T.er_CrossError.kp (raises_own T.er_CrossError.be T.er_CrossError.ty) (by rfl) e_CrossError))))))) (by decide +kernel)
  exact ⟨_, pss_cons first rest, law_start (N := N_law) (k := 2 ^ 65) (W := fun cls d _ H => E cls d H) (by decide) (by decide +kernel) law_ok h⟩
end
end KLaw
open PySem PySem.W PySem.Calls PyProof.Rows
theorem PySem.Challenge.cw_crossadds_k01_errors_apart_holds : PySem.Challenge.rw_crossadds_k01_errors_apart.Holds := by
  w_on; o_law
  refine HandSHeadRun.head_any (r := OpenLaw.row PySem.Challenge.rw_crossadds_k01_errors_apart) (q := view (OpenLaw.row PySem.Challenge.rw_crossadds_k01_errors_apart).prog [36]) (H := KLaw.hk) (ob := KLaw.ob) (M := 16000) (loose := KLaw.loose) (d := HandSHeadRun.topDef (OpenLaw.row PySem.Challenge.rw_crossadds_k01_errors_apart).prog 36) (kwd := []) KLaw.ob_eq
    (by kernel_rfl) (fun s => by kernel_rfl) KLaw.run (by kernel_rfl) (by kernel_rfl) (by kernel_rfl) (by rfl) (by first | assumption | decide +kernel) (by decide +kernel) ⟨rfl, rfl, rfl, rfl, rfl, by decide +kernel⟩ ?hw ?hc
  case hw => w_witness2
  case hc =>
    refine DL.walk_of (l := PySem.Challenge.rw_crossadds_k01_errors_apart) (n := 63) (k := 6) (x := "_law_script") rfl (by decide) (by kernel_rfl) ⟨rfl, by decide, by decide⟩ ?F
    intro w mg fa h Y G hmg0
    obtain ⟨K, KX, c⟩ := Y
    have hmg : mg ("law" : PySem.Str) = some (.ref fa) := by
      have e : (HandSHeadRun.topDef (OpenLaw.row PySem.Challenge.rw_crossadds_k01_errors_apart).prog 36).name = ("law" : PySem.Str) := by kernel_rfl
      rw [← e]
      exact hmg0
    have T := KLaw.tx KX G c.t
    have e := hmg.symm.trans T.g_law
    cases e
    obtain ⟨fd, F⟩ := T.f_law
    refine ⟨KLaw.cx K, fd, DL.tabsOf K KLaw.tf, KX, DL.tabs_all (P := fun p => h.get? p.2 = some { cls := .none, data := .fields #[] }) c.empty, DL.tabs_all (P := fun p => K.lookup p.2 = none) c.out, DL.tabs_all (P := fun p => PySem.W.CodeHd h p.1 p.2) (fun f hf => PySem.W.codeHd_of_K KX (c.hd f hf)), ?tb, fun s v => (L2.FunD.bindsA (ps := ["_law_script"]) F fun _ _ _ _ _ _ us hl => match us, hl with | [_], _ => rfl) s [v] rfl, fun base _ _ TB => ?_⟩
    case tb =>
      intro p hp
      cases hp
    exact KLaw.ok_law (P := (PySem.Challenge.rw_crossadds_k01_errors_apart).prog) (w := w) (base := base) T (fun f hf => TB _ (DL.tabs_mem hf)) F
