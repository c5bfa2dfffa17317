import PyProof.Rows.All
import Wide.All
import OpenK.AllK
import Wide.FinOn
import HandS.ForMost
import HandS.Exc
import HandS.More
import KE.KDictKeyed
import HandS.DictTup
import HandS.Star
import HandS.Defaults
import HandS.HeadHook2
import HandS.Deep
import HandS.TupAny
import HandS.TupLe
import HandS.IsInst
import HandS.Style
import HandS.Small
import HandS.TupLen
import HandS.AnyAll
import HandS.Comp
import HandS.Zip
import HandS.Nested
import HandS.MethStar
import KE.KSuper
import HandS.MakeKw
import HandS.OwnEq
import KE.KTypeName
import OpenK.KOps
import PyProof.Rows.Range3
import HandS.TupMul
import HandS.DictComp
import KE.SortData
import KE.DataCmp
import PyProof.Transfer
import KE.KEqNest
import HandS.NoneIn
import HandS.Head0
import HandS.Head1
import HandS.Head2
import HandS.HeadEnd
import PySem.Challenge.RW_allhadit_k47_papers_of_any_values
set_option Elab.async false
set_option linter.all false
set_option maxRecDepth 100000
namespace Li
open PySem PySem.Spec PyProof.Rows L2

/-- lite values: trees; obj d n: the n-th object of the frame d (counted from the bottom) -/
inductive Val where
  | non | bl (b : Bool) | int (i : Int) | str (s : List Nat)
  | tup (xs : List Val) | lst (xs : List Val)
  | ins (c : Nat) (fs : List Val)
  /-- a dict, its keys and its values; t: the keys are tuples (else whole numbers and texts) -/
  | dct (t : Bool) (ks vs : List Val)
  | obj (d n : Nat) | cls (c : Nat) | ty (n : Nat) | fn (f : Nat)

/-- objects that change -/
inductive LObj where
  | lst (xs : List Val)
  | ins (c : Nat) (fs : List (Option Val))
  | dct (t : Bool) (ks vs : List Val)

/-- the built-in types, numbered -/
def tyN : Nat → String
  | 0 => "NoneType"
  | 1 => "bool"
  | 2 => "int"
  | 3 => "str"
  | 4 => "list"
  | 5 => "tuple"
  | 6 => "dict"
  | _ => "object"
def allB (f : Val → Bool) : List Val → Bool
  | [] => true
  | x :: xs => match f x with
    | true => allB f xs
    | false => false
theorem allB_cons {f : Val → Bool} {x : Val} {xs : List Val} : allB f (x :: xs) = true ↔ f x = true ∧ allB f xs = true := by
  show (match f x with | true => allB f xs | false => false) = true ↔ _
  cases f x <;> simp
theorem allB_iff {f : Val → Bool} : ∀ {xs : List Val}, allB f xs = true ↔ ∀ x ∈ xs, f x = true
  | [] => by simp [allB]
  | x :: xs => by rw [allB_cons, allB_iff (xs := xs)]; simp
def b2i (b : Bool) : Int := match b with
  | true => 1
  | false => 0
mutual
/-- a key, up to == -/
def nk : Val → NestedKey
  | .bl b => .num (b2i b)
  | .int i => .num i
  | .str s => .text ⟨s.toArray⟩
  | .tup xs => .tup (nks xs)
  | .non => .none
  | .lst _ => .none
  | .ins _ _ => .none
  | .dct _ _ _ => .none
  | .obj _ _ => .none
  | .cls _ => .none
  | .ty _ => .none
  | .fn _ => .none
def nks : List Val → List NestedKey
  | [] => []
  | x :: xs => nk x :: nks xs
end
/-- a key, at most so deep -/
def keyN : Nat → Val → Bool
  | n, .tup xs => match n with
    | 0 => false
    | n + 1 => allB (keyN n) xs
  | _, .non => true
  | _, .bl _ => true
  | _, .int _ => true
  | _, .str _ => true
  | _, _ => false
def tkey : Val → Bool
  | .tup xs => allB (keyN 7) xs
  | _ => false
/-- a dict, by its object -/
def dctO (p : Addr) (o : Obj) : HO := .ext fun h => h.get? p = some o

abbrev LHeap := List (List LObj)
abbrev Env := List (Option Val)

/-- the program: its world, the written part, classes' and defs' addresses, classes' fields -/
structure Pg where
  P : Program
  w : World
  K : PySem.W.Frag
  ca : Nat → Addr
  cf : Nat → List Str
  fa : Nat → Addr
  /-- the script -/
  ns : List Int := []

/-- the frozen heap, the frames' addresses -/
structure Wd where
  Z : Hp
  r : List (List Addr)
  /-- things that are being made, out of the lite code's sight -/
  x : List (Addr × HO)

/-- the object o of a dict at a: its keys are tuples -/
structure DK (g : Pg) (a : Addr) (ks : List Val) (ys us : List V) (o : Obj) : Prop where
  sys : (a == sysModules) = false
  ob : ∃ es ep, o.ExactDict ∧ o.data = .dict es ep ∧ es.size ≤ sizeLine ∧ Vals ys (es.toList.map (·.key)) ∧ Vals us (es.toList.map (·.val)) ∧ es.toList.map (·.hash) = ks.map fun k => (nk k).hash g.w
  ok : allB tkey ks = true
  nd : (ks.map nk).Nodup
/-- its keys are whole numbers and texts -/
structure DL (g : Pg) (a : Addr) (kvs : List (Key × V)) (o : Obj) : Prop where
  sys : (a == sysModules) = false
  len : kvs.length ≤ sizeLine
  ob : ∃ vs es ep, KV kvs vs ∧ o.ExactDict ∧ o.data = .dict es ep ∧ KeysOf (mixKind g.P g.w) es ∧ Pairs (mixKind g.P g.w) es.toList vs ∧ (vs.map (·.1)).Nodup

def look {α : Type} (r : List (List α)) (d n : Nat) : Option α := (r.reverse[d]?).bind (·[n]?)

mutual
inductive RV (g : Pg) (ω : Wd) : Val → V → Prop
  | non : RV g ω .non .non
  | bl (b : Bool) : RV g ω (.bl b) (.bl b)
  | int (i : Int) : RV g ω (.int i) (.int i)
  | str (x : Str) : PyData.strOk x = true → RV g ω (.str x.cps.toList) (.str x)
  | tup {xs : List Val} {a : Addr} {ys : List V} : SqT g.K ω.Z a ys → RVs g ω xs ys → RV g ω (.tup xs) (.ref a)
  | lst {xs : List Val} {a : Addr} {ys : List V} : ω.Z a = some (.lst ys) → RVs g ω xs ys → RV g ω (.lst xs) (.ref a)
  | ins {c : Nat} {fs : List Val} {a dx : Addr} {gs : List (Str × V)} : ω.Z a = some (.ins (g.ca c) dx gs) → RFs g ω (g.cf c) fs gs → (∀ p ∈ gs, p.1 ∈ g.cf c) → RV g ω (.ins c fs) (.ref a)
  | dk {ks vs : List Val} {a : Addr} {kvs : List (Key × V)} {o : Obj} : ω.Z a = some (dctO a o) → RVs g ω ks (kvs.map fun p => kV p.1) → RVs g ω vs (kvs.map (·.2)) → DL g a kvs o → RV g ω (.dct false ks vs) (.ref a)
  | dt {ks vs : List Val} {a : Addr} {ys us : List V} {o : Obj} : ω.Z a = some (dctO a o) → RVs g ω ks ys → RVs g ω vs us → DK g a ks ys us o → RV g ω (.dct true ks vs) (.ref a)
  | obj {d n : Nat} {a : Addr} : look ω.r d n = some a → RV g ω (.obj d n) (.ref a)
  | cls (c : Nat) : RV g ω (.cls c) (.ref (g.ca c))
  | ty (n : Nat) : Nat.blt n 900 = true → RV g ω (.ty n) (.ty (tyN n))
  | fn (f : Nat) : RV g ω (.fn f) (.ref (g.fa f))
  /-- the script, as it was given -/
  | scr {a : Addr} : SqL g.K ω.Z a (g.ns.map V.int) → RV g ω (.ty 999) (.ref a)
inductive RVs (g : Pg) (ω : Wd) : List Val → List V → Prop
  | nil : RVs g ω [] []
  | cons {x : Val} {y : V} {xs : List Val} {ys : List V} : RV g ω x y → RVs g ω xs ys → RVs g ω (x :: xs) (y :: ys)
/-- fields by names -/
inductive RFs (g : Pg) (ω : Wd) : List Str → List Val → List (Str × V) → Prop
  | nil {gs : List (Str × V)} : RFs g ω [] [] gs
  | cons {f : Str} {v : Val} {u : V} {ns : List Str} {vs : List Val} {gs : List (Str × V)} : gs.lookup f = some u → RV g ω v u → RFs g ω ns vs gs → RFs g ω (f :: ns) (v :: vs) gs
end

/-- a later world -/
structure WLe (ω ω' : Wd) : Prop where
  z : ∀ a o, ω.Z a = some o → ω'.Z a = some o
  len : ω'.r.length = ω.r.length
  look : ∀ d n a, Li.look ω.r d n = some a → Li.look ω'.r d n = some a
  gh : ω'.x = ω.x
theorem WLe.rfl' {ω : Wd} : WLe ω ω := ⟨fun _ _ h => h, rfl, fun _ _ _ h => h, rfl⟩
theorem WLe.trans {a b c : Wd} (x : WLe a b) (y : WLe b c) : WLe a c := ⟨fun p o h => y.z p o (x.z p o h), y.len.trans x.len, fun d n p h => y.look d n p (x.look d n p h), y.gh.trans x.gh⟩

/-- a later world, whatever is being made -/
structure WLz (ω ω' : Wd) : Prop where
  z : ∀ a o, ω.Z a = some o → ω'.Z a = some o
  len : ω'.r.length = ω.r.length
  look : ∀ d n a, Li.look ω.r d n = some a → Li.look ω'.r d n = some a
theorem WLe.lz {ω ω' : Wd} (x : WLe ω ω') : WLz ω ω' := ⟨x.z, x.len, x.look⟩
theorem WLz.trans {a b c : Wd} (x : WLz a b) (y : WLz b c) : WLz a c := ⟨fun p o h => y.z p o (x.z p o h), y.len.trans x.len, fun d n p h => y.look d n p (x.look d n p h)⟩
/-- what RV needs of a change of worlds -/
structure WIn (ω ω' : Wd) : Prop where
  z : ∀ a o, ω.Z a = some o → ω'.Z a = some o
  look : ∀ d n a, Li.look ω.r d n = some a → Li.look ω'.r d n = some a
theorem WLe.to {ω ω' : Wd} (x : WLe ω ω') : WIn ω ω' := ⟨x.z, x.look⟩
theorem WLz.to {ω ω' : Wd} (x : WLz ω ω') : WIn ω ω' := ⟨x.z, x.look⟩

theorem Rd.mono {Z Z' : Hp} (h : ∀ a o, Z a = some o → Z' a = some o) {a : Addr} {u : HO} (r : Rd Z a u) : Rd Z' a u := by
  rcases r with r | ⟨o, r⟩
  · exact .inl (h _ _ r)
  · exact .inr ⟨o, h _ _ r⟩
theorem SqT.mono {K : PySem.W.Frag} {Z Z' : Hp} (h : ∀ a o, Z a = some o → Z' a = some o) {a : Addr} {ys : List V} (r : SqT K Z a ys) : SqT K Z' a ys := by
  rcases r with r | r
  · exact .inl (Rd.mono h r)
  · exact .inr r
theorem SqL.mono {K : PySem.W.Frag} {Z Z' : Hp} (h : ∀ a o, Z a = some o → Z' a = some o) {a : Addr} {ys : List V} (r : SqL K Z a ys) : SqL K Z' a ys := by
  rcases r with r | r
  · exact .inl (Rd.mono h r)
  · exact .inr r

mutual
theorem RV.mono {g : Pg} {ω ω' : Wd} (h : WIn ω ω') : ∀ {v : Val} {u : V}, RV g ω v u → RV g ω' v u
  | _, _, .non => .non
  | _, _, .bl b => .bl b
  | _, _, .int i => .int i
  | _, _, .str x h => .str x h
  | _, _, .tup a b => .tup (SqT.mono h.z a) (RVs.mono h b)
  | _, _, .lst a b => .lst (h.z _ _ a) (RVs.mono h b)
  | _, _, .ins a b c => .ins (h.z _ _ a) (RFs.mono h b) c
  | _, _, .dk a b c d => .dk (h.z _ _ a) (RVs.mono h b) (RVs.mono h c) d
  | _, _, .dt a b c d => .dt (h.z _ _ a) (RVs.mono h b) (RVs.mono h c) d
  | _, _, .obj a => .obj (h.look _ _ _ a)
  | _, _, .cls c => .cls c
  | _, _, .ty n h => .ty n h
  | _, _, .fn f => .fn f
  | _, _, .scr a => .scr (SqL.mono h.z a)
theorem RVs.mono {g : Pg} {ω ω' : Wd} (h : WIn ω ω') : ∀ {v : List Val} {u : List V}, RVs g ω v u → RVs g ω' v u
  | _, _, .nil => .nil
  | _, _, .cons a b => .cons (RV.mono h a) (RVs.mono h b)
theorem RFs.mono {g : Pg} {ω ω' : Wd} (h : WIn ω ω') : ∀ {n : List Str} {v : List Val} {u : List (Str × V)}, RFs g ω n v u → RFs g ω' n v u
  | _, _, _, .nil => .nil
  | _, _, _, .cons a b c => .cons a (RV.mono h b) (RFs.mono h c)
end
theorem RVs.length {g : Pg} {ω : Wd} : ∀ {xs : List Val} {ys : List V}, RVs g ω xs ys → ys.length = xs.length
  | _, _, .nil => rfl
  | _, _, .cons _ t => by simp [RVs.length t]
theorem RVs.get {g : Pg} {ω : Wd} : ∀ {xs : List Val} {ys : List V} {i : Nat} {x : Val}, RVs g ω xs ys → xs[i]? = some x → ∃ y, ys[i]? = some y ∧ RV g ω x y
  | _, _, _, _, .nil, e => by simp at e
  | _, _, 0, _, .cons r _, e => by simp at e; subst e; exact ⟨_, rfl, r⟩
  | _, _, i + 1, x, .cons _ t, e => by
    obtain ⟨u, h1, h2⟩ := RVs.get (i := i) (x := x) t (by simpa using e)
    exact ⟨u, by simpa using h1, h2⟩
theorem RVs.append {g : Pg} {ω : Wd} : ∀ {xs zs : List Val} {ys us : List V}, RVs g ω xs ys → RVs g ω zs us → RVs g ω (xs ++ zs) (ys ++ us)
  | _, _, _, _, .nil, s => s
  | _, _, _, _, .cons r t, s => .cons r (RVs.append t s)
theorem RVs.set {g : Pg} {ω : Wd} {v : Val} {u : V} (r : RV g ω v u) : ∀ {xs : List Val} {ys : List V} (i : Nat), RVs g ω xs ys → RVs g ω (xs.set i v) (ys.set i u)
  | _, _, _, .nil => .nil
  | _, _, 0, .cons _ t => .cons r t
  | _, _, i + 1, .cons q t => .cons q (RVs.set r i t)
theorem RVs.take {g : Pg} {ω : Wd} : ∀ {xs : List Val} {ys : List V} (n : Nat), RVs g ω xs ys → RVs g ω (xs.take n) (ys.take n)
  | _, _, 0, _ => .nil
  | _, _, _ + 1, .nil => .nil
  | _, _, n + 1, .cons r t => .cons r (RVs.take n t)
theorem RVs.drop {g : Pg} {ω : Wd} : ∀ {xs : List Val} {ys : List V} (n : Nat), RVs g ω xs ys → RVs g ω (xs.drop n) (ys.drop n)
  | _, _, 0, r => r
  | _, _, _ + 1, .nil => .nil
  | _, _, n + 1, .cons _ t => RVs.drop n t
theorem RVs.reverse {g : Pg} {ω : Wd} : ∀ {xs : List Val} {ys : List V}, RVs g ω xs ys → RVs g ω xs.reverse ys.reverse
  | _, _, .nil => .nil
  | _, _, .cons r t => by
    rw [List.reverse_cons, List.reverse_cons]
    exact (RVs.reverse t).append (.cons r .nil)

/-- a field that is set -/
inductive RIs (g : Pg) (ω : Wd) : List Str → List (Option Val) → List (Str × V) → Prop
  | nil {gs : List (Str × V)} : RIs g ω [] [] gs
  | set {f : Str} {v : Val} {u : V} {ns : List Str} {vs : List (Option Val)} {gs : List (Str × V)} : gs.lookup f = some u → RV g ω v u → RIs g ω ns vs gs → RIs g ω (f :: ns) (some v :: vs) gs
  | no {f : Str} {ns : List Str} {vs : List (Option Val)} {gs : List (Str × V)} : RIs g ω ns vs gs → RIs g ω (f :: ns) (none :: vs) gs
inductive RO (g : Pg) (ω : Wd) : LObj → Addr → Option HO → Prop
  | lst {xs : List Val} {ys : List V} {a : Addr} : RVs g ω xs ys → RO g ω (.lst xs) a (some (.lst ys))
  | dk {ks vs : List Val} {a : Addr} {kvs : List (Key × V)} {o : Obj} : RVs g ω ks (kvs.map fun p => kV p.1) → RVs g ω vs (kvs.map (·.2)) → DL g a kvs o → RO g ω (.dct false ks vs) a (some (dctO a o))
  | dt {ks vs : List Val} {a : Addr} {ys us : List V} {o : Obj} : RVs g ω ks ys → RVs g ω vs us → DK g a ks ys us o → RO g ω (.dct true ks vs) a (some (dctO a o))
  | ins {c : Nat} {fs : List (Option Val)} {a dx : Addr} {gs : List (Str × V)} : RIs g ω (g.cf c) fs gs → (∀ p ∈ gs, p.1 ∈ g.cf c) → (gs.map (·.1)).Nodup → RO g ω (.ins c fs) a (some (.ins (g.ca c) dx gs))
theorem RIs.mono {g : Pg} {ω ω' : Wd} (h : WIn ω ω') : ∀ {n : List Str} {v : List (Option Val)} {u : List (Str × V)}, RIs g ω n v u → RIs g ω' n v u
  | _, _, _, .nil => .nil
  | _, _, _, .set a b c => .set a (b.mono h) (RIs.mono h c)
  | _, _, _, .no c => .no (RIs.mono h c)
theorem RO.mono {g : Pg} {ω ω' : Wd} (h : WIn ω ω') {o : LObj} {p : Addr} {u : Option HO} (r : RO g ω o p u) : RO g ω' o p u := by
  cases r with
  | lst a => exact .lst (a.mono h)
  | dk a b c => exact .dk (a.mono h) (b.mono h) c
  | dt a b c => exact .dt (a.mono h) (b.mono h) c
  | ins a b c => exact .ins (a.mono h) b c

theorem RO.gx {g : Pg} {Z : Hp} {r : List (List Addr)} {y z : List (Addr × HO)} {o : LObj} {p : Addr} {u : Option HO} (q : RO g ⟨Z, r, y⟩ o p u) : RO g ⟨Z, r, z⟩ o p u :=
  RO.mono (ω := ⟨Z, r, y⟩) (ω' := ⟨Z, r, z⟩) ⟨fun _ _ h => h, fun _ _ _ h => h⟩ q
theorem RO.lst' {g : Pg} {ω : Wd} {xs : List Val} {a : Addr} {u : Option HO} (r : RO g ω (.lst xs) a u) : ∃ ys, u = some (.lst ys) ∧ RVs g ω xs ys := by
  cases r with | lst x => exact ⟨_, rfl, x⟩
theorem RO.ins' {g : Pg} {ω : Wd} {c : Nat} {fs : List (Option Val)} {a : Addr} {u : Option HO} (r : RO g ω (.ins c fs) a u) : ∃ dx gs, u = some (.ins (g.ca c) dx gs) ∧ RIs g ω (g.cf c) fs gs ∧ (∀ p ∈ gs, p.1 ∈ g.cf c) ∧ (gs.map (·.1)).Nodup := by
  cases r with | ins x y z => exact ⟨_, _, rfl, x, y, z⟩
theorem RO.dk' {g : Pg} {ω : Wd} {ks vs : List Val} {a : Addr} {u : Option HO} (r : RO g ω (.dct false ks vs) a u) : ∃ kvs o, u = some (dctO a o) ∧ RVs g ω ks (kvs.map fun p => kV p.1) ∧ RVs g ω vs (kvs.map (·.2)) ∧ DL g a kvs o := by
  cases r with | dk x y z => exact ⟨_, _, rfl, x, y, z⟩
theorem RO.dt' {g : Pg} {ω : Wd} {ks vs : List Val} {a : Addr} {u : Option HO} (r : RO g ω (.dct true ks vs) a u) : ∃ ys us o, u = some (dctO a o) ∧ RVs g ω ks ys ∧ RVs g ω vs us ∧ DK g a ks ys us o := by
  cases r with | dt x y z => exact ⟨_, _, _, rfl, x, y, z⟩

/-- a frame's objects, under the frames up to it -/
def FR (g : Pg) (ω : Wd) (H : Hp) (os : List LObj) (as : List Addr) : Prop := Paired (fun o a => RO g ω o a (H a)) os as
inductive HR (g : Pg) (Z H : Hp) : LHeap → List (List Addr) → Prop
  | nil : HR g Z H [] []
  | cons {os : List LObj} {as : List Addr} {h : LHeap} {r : List (List Addr)} : FR g ⟨Z, as :: r, []⟩ H os as → HR g Z H h r → HR g Z H (os :: h) (as :: r)
structure HRel (g : Pg) (ω : Wd) (h : LHeap) (H : Hp) : Prop where
  z : ∀ a o, ω.Z a = some o → H a = some o
  nd : ω.r.flatten.Nodup
  fr : ∀ a ∈ ω.r.flatten, ω.Z a = none ∧ ∃ o, H a = some o
  hr : HR g ω.Z H h ω.r
  gh : ∀ p ∈ ω.x, H p.1 = some p.2 ∧ ω.Z p.1 = none ∧ p.1 ∉ ω.r.flatten
  gn : (ω.x.map (·.1)).Nodup
end Li

namespace Li
open PySem PySem.Spec PyProof.Rows L2

theorem look_cons {α : Type} (x : List α) (r : List (List α)) (d n : Nat) : look (x :: r) d n = if d = r.length then x[n]? else look r d n := by
  unfold look
  rw [List.reverse_cons]
  by_cases h : d = r.length
  · subst h
    rw [if_pos rfl, List.getElem?_append_right (by simp)]
    simp
  · rw [if_neg h]
    by_cases h2 : d < r.length
    · rw [List.getElem?_append_left (by simpa using h2)]
    · rw [List.getElem?_eq_none (by simp; omega), List.getElem?_eq_none (by simp; omega)]
theorem look_lt {α : Type} {r : List (List α)} {d n : Nat} {a : α} (h : look r d n = some a) : d < r.length := by
  unfold look at h
  cases e : r.reverse[d]? with
  | none => rw [e] at h; cases h
  | some x =>
    have := (List.getElem?_eq_some_iff.mp e).1
    simpa using this
theorem look_mem {α : Type} {r : List (List α)} {d n : Nat} {a : α} (h : look r d n = some a) : a ∈ r.flatten := by
  unfold look at h
  cases e : r.reverse[d]? with
  | none => rw [e] at h; cases h
  | some x =>
    rw [e] at h
    have h1 : x ∈ r := List.mem_reverse.mp (List.mem_of_getElem? e)
    exact List.mem_flatten.mpr ⟨x, h1, List.mem_of_getElem? h⟩
theorem look_push {α : Type} {r : List (List α)} {d n : Nat} {a : α} (h : look r d n = some a) (x : List α) : look (x :: r) d n = some a := by
  rw [look_cons, if_neg (Nat.ne_of_lt (look_lt h))]; exact h

mutual
def below (D : Nat) : Val → Bool
  | .tup xs => belows D xs
  | .lst xs => belows D xs
  | .ins _ fs => belows D fs
  | .dct _ ks vs => match belows D ks with
    | true => belows D vs
    | false => false
  | .obj d _ => Nat.blt d D
  | .non => true
  | .bl _ => true
  | .int _ => true
  | .str _ => true
  | .cls _ => true
  | .ty _ => true
  | .fn _ => true
def belows (D : Nat) : List Val → Bool
  | [] => true
  | x :: xs => match below D x with
    | true => belows D xs
    | false => false
end
theorem belows_cons {D : Nat} {x : Val} {xs : List Val} : belows D (x :: xs) = true ↔ below D x = true ∧ belows D xs = true := by
  show (match below D x with | true => belows D xs | false => false) = true ↔ _
  cases below D x <;> simp
theorem below_dct {D : Nat} {t : Bool} {ks vs : List Val} : below D (.dct t ks vs) = true ↔ belows D ks = true ∧ belows D vs = true := by
  show (match belows D ks with | true => belows D vs | false => false) = true ↔ _
  cases belows D ks <;> simp
mutual
theorem RV.restrict {g : Pg} {ω ω' : Wd} {D : Nat} (hz : ∀ a o, ω.Z a = some o → ω'.Z a = some o) (hl : ∀ d n a, d < D → look ω.r d n = some a → look ω'.r d n = some a) :
    ∀ {v : Val} {u : V}, RV g ω v u → below D v = true → RV g ω' v u
  | _, _, .non, _ => .non
  | _, _, .bl b, _ => .bl b
  | _, _, .int i, _ => .int i
  | _, _, .str x h, _ => .str x h
  | _, _, .tup a b, h => .tup (SqT.mono hz a) (RVs.restrict hz hl b h)
  | _, _, .lst a b, h => .lst (hz _ _ a) (RVs.restrict hz hl b h)
  | _, _, .ins a b c, h => .ins (hz _ _ a) (RFs.restrict hz hl b h) c
  | _, _, .dk a b c d, h => .dk (hz _ _ a) (RVs.restrict hz hl b (below_dct.mp h).1) (RVs.restrict hz hl c (below_dct.mp h).2) d
  | _, _, .dt a b c d, h => .dt (hz _ _ a) (RVs.restrict hz hl b (below_dct.mp h).1) (RVs.restrict hz hl c (below_dct.mp h).2) d
  | _, _, .obj (d := d) a, h => .obj (hl _ _ _ (Nat.le_of_ble_eq_true (show Nat.ble (d+1) D = true from h)) a)
  | _, _, .cls c, _ => .cls c
  | _, _, .ty n h, _ => .ty n h
  | _, _, .fn f, _ => .fn f
  | _, _, .scr a, _ => .scr (SqL.mono hz a)
theorem RVs.restrict {g : Pg} {ω ω' : Wd} {D : Nat} (hz : ∀ a o, ω.Z a = some o → ω'.Z a = some o) (hl : ∀ d n a, d < D → look ω.r d n = some a → look ω'.r d n = some a) :
    ∀ {v : List Val} {u : List V}, RVs g ω v u → belows D v = true → RVs g ω' v u
  | _, _, .nil, _ => .nil
  | _, _, .cons a b, h => .cons (RV.restrict hz hl a (belows_cons.mp h).1) (RVs.restrict hz hl b (belows_cons.mp h).2)
theorem RFs.restrict {g : Pg} {ω ω' : Wd} {D : Nat} (hz : ∀ a o, ω.Z a = some o → ω'.Z a = some o) (hl : ∀ d n a, d < D → look ω.r d n = some a → look ω'.r d n = some a) :
    ∀ {n : List Str} {v : List Val} {u : List (Str × V)}, RFs g ω n v u → belows D v = true → RFs g ω' n v u
  | _, _, _, .nil, _ => .nil
  | _, _, _, .cons a b c, h => .cons a (RV.restrict hz hl b (belows_cons.mp h).1) (RFs.restrict hz hl c (belows_cons.mp h).2)
end

theorem HR.len {g : Pg} {Z H : Hp} : ∀ {h : LHeap} {r : List (List Addr)}, HR g Z H h r → h.length = r.length
  | _, _, .nil => rfl
  | _, _, .cons _ t => by simp [HR.len t]
theorem Paired.get {α β : Type} {F : α → β → Prop} : ∀ {l : List α} {m : List β} {i : Nat} {a : α}, Paired F l m → l[i]? = some a → ∃ b, m[i]? = some b ∧ F a b
  | _, _, _, _, .nil, e => by simp at e
  | _, _, 0, _, .cons r _, e => by simp at e; subst e; exact ⟨_, rfl, r⟩
  | _, _, i + 1, x, .cons _ t, e => by
    obtain ⟨u, h1, h2⟩ := Paired.get (i := i) (a := x) t (by simpa using e)
    exact ⟨u, by simpa using h1, h2⟩
theorem Paired.imp {α β : Type} {F G : α → β → Prop} : ∀ {l : List α} {m : List β}, Paired F l m → (∀ a b, b ∈ m → F a b → G a b) → Paired G l m
  | _, _, .nil, _ => .nil
  | _, _, .cons r t, h => .cons (h _ _ List.mem_cons_self r) (Paired.imp t fun a b hb => h a b (List.mem_cons_of_mem _ hb))
theorem Paired.len' {α β : Type} {F : α → β → Prop} : ∀ {l : List α} {m : List β}, Paired F l m → l.length = m.length
  | _, _, .nil => rfl
  | _, _, .cons _ t => by simp [Paired.len' t]
theorem pushIn {Z : Hp} {r : List (List Addr)} {y z : List (Addr × HO)} (x : List Addr) : WIn ⟨Z, r, y⟩ ⟨Z, x :: r, z⟩ := ⟨fun _ _ h => h, fun _ _ _ h => look_push h x⟩
theorem HR.look {g : Pg} {Z H : Hp} {d n : Nat} {o : LObj} : ∀ {h : LHeap} {r : List (List Addr)}, HR g Z H h r → Li.look h d n = some o → ∃ a, Li.look r d n = some a ∧ RO g ⟨Z, r, []⟩ o a (H a)
  | _, _, .nil, e => by simp [Li.look] at e
  | _, _, .cons (os := os) (as := as) (h := h) (r := r) f t, e => by
    rw [look_cons] at e
    have hl := HR.len t
    by_cases hd : d = h.length
    · rw [if_pos hd] at e
      obtain ⟨a, h1, h2⟩ := Paired.get f e
      refine ⟨a, ?_, h2⟩
      rw [look_cons, if_pos (hd.trans hl)]
      exact h1
    · rw [if_neg hd] at e
      obtain ⟨a, h1, h2⟩ := HR.look t e
      exact ⟨a, look_push h1 as, h2.mono (pushIn as)⟩
/-- the heap changes nowhere where a frame's object stands -/
theorem HR.keep {g : Pg} {Z Z' H H' : Hp} (hz : ∀ a o, Z a = some o → Z' a = some o) : ∀ {h : LHeap} {r : List (List Addr)}, HR g Z H h r → (∀ a ∈ r.flatten, H' a = H a) → HR g Z' H' h r
  | _, _, .nil, _ => .nil
  | _, _, .cons (as := as) (r := r) f t, k => .cons (Paired.imp f fun o a ha x => by
      rw [k a (List.mem_flatten.mpr ⟨as, List.mem_cons_self, ha⟩)]
      exact x.mono ⟨hz, fun _ _ _ (h : Li.look (as :: r) _ _ = _) => h⟩) (HR.keep hz t fun a ha => k a (by rw [List.flatten_cons]; exact List.mem_append_right _ ha))

section
variable {g : Pg} {Z H : Hp} {r : List (List Addr)} {h : LHeap} {as : List Addr} {os : List LObj} {y : List (Addr × HO)}
theorem HRel.len {ω : Wd} (x : HRel g ω h H) : h.length = ω.r.length := HR.len x.hr
theorem HRel.look {ω : Wd} (x : HRel g ω h H) {d n : Nat} {o : LObj} (e : Li.look h d n = some o) : ∃ a, Li.look ω.r d n = some a ∧ RO g ω o a (H a) := by
  obtain ⟨a, h1, h2⟩ := HR.look x.hr e
  exact ⟨a, h1, h2.gx⟩
/-- a frozen object is laid -/
theorem HRel.frozen {p : Addr} {u : HO} (x : HRel g ⟨Z, r, y⟩ h H) (hp : H p = none) : HRel g ⟨upd Z p u, r, y⟩ h (upd H p u) ∧ WLe ⟨Z, r, y⟩ ⟨upd Z p u, r, y⟩ := by
  have hn : ∀ a ∈ r.flatten, a ≠ p := fun a ha e => by
    obtain ⟨_, o, ho⟩ := x.fr a ha
    rw [e, hp] at ho; cases ho
  have hz : Z p = none := by
    cases e : Z p with
    | none => rfl
    | some o => have := x.z p o e; rw [hp] at this; cases this
  have hzz : ∀ a o, Z a = some o → upd Z p u a = some o := fun a o e => by rw [upd_ne (ne_of_none e hz)]; exact e
  refine ⟨⟨fun a o e => ?_, x.nd, fun a ha => ?_, HR.keep hzz x.hr fun a ha => upd_ne (hn a ha), fun q hq => ?_, x.gn⟩, ⟨hzz, rfl, fun _ _ _ h => h, rfl⟩⟩
  · by_cases ha : a = p
    · subst ha
      have e' : upd Z a u a = some o := e
      rw [upd_same] at e'; rw [upd_same]; exact e'
    · have e' : upd Z p u a = some o := e
      rw [upd_ne ha] at e'; rw [upd_ne ha]; exact x.z a o e'
  · obtain ⟨h1, o, h2⟩ := x.fr a ha
    refine ⟨?_, o, ?_⟩
    · show upd Z p u a = none
      rw [upd_ne (hn a ha)]; exact h1
    · rw [upd_ne (hn a ha)]; exact h2
  · obtain ⟨g1, g2, g3⟩ := x.gh q hq
    have hqp : q.1 ≠ p := fun e => by rw [e, hp] at g1; cases g1
    refine ⟨by rw [upd_ne hqp]; exact g1, ?_, g3⟩
    show upd Z p u q.1 = none
    rw [upd_ne hqp]; exact g2
/-- an untracked or foreign object appears: nothing changes -/
theorem HRel.keep {H' : Hp} {ω : Wd} (x : HRel g ω h H) (k : ∀ a o, H a = some o → H' a = some o) : HRel g ω h H' :=
  ⟨fun a o e => k a o (x.z a o e), x.nd, fun a ha => by
    obtain ⟨h1, o, h2⟩ := x.fr a ha
    exact ⟨h1, o, k a o h2⟩, HR.keep (fun _ _ h => h) x.hr fun a ha => by
    obtain ⟨_, o, h2⟩ := x.fr a ha
    rw [h2]; exact k a o h2, fun q hq => let ⟨g1, g2, g3⟩ := x.gh q hq; ⟨k _ _ g1, g2, g3⟩, x.gn⟩
theorem growLe {p : Addr} : WLe ⟨Z, as :: r, y⟩ ⟨Z, (as ++ [p]) :: r, y⟩ := ⟨fun _ _ h => h, rfl, fun d n a e => by
  show Li.look ((as ++ [p]) :: r) d n = some a
  have e' : Li.look (as :: r) d n = some a := e
  rw [look_cons] at e' ⊢
  split
  · rename_i hd
    rw [if_pos hd] at e'
    rw [List.getElem?_append_left (List.getElem?_eq_some_iff.mp e').1]
    exact e'
  · rename_i hd
    rw [if_neg hd] at e'
    exact e', rfl⟩
/-- an object is laid in the top frame -/
theorem HRel.alloc {p : Addr} {u : HO} {o : LObj} (x : HRel g ⟨Z, as :: r, y⟩ (os :: h) H) (hp : H p = none) (ho : RO g ⟨Z, as :: r, y⟩ o p (some u)) :
    HRel g ⟨Z, (as ++ [p]) :: r, y⟩ ((os ++ [o]) :: h) (upd H p u) ∧ WLe ⟨Z, as :: r, y⟩ ⟨Z, (as ++ [p]) :: r, y⟩ ∧ RV g ⟨Z, (as ++ [p]) :: r, y⟩ (.obj h.length os.length) (.ref p) := by
  have hn : ∀ a ∈ (as :: r).flatten, a ≠ p := fun a ha e => by
    obtain ⟨_, o, ho⟩ := x.fr a ha
    rw [e, hp] at ho; cases ho
  have hzp : Z p = none := by
    cases e : Z p with
    | none => rfl
    | some o => have := x.z p o e; rw [hp] at this; cases this
  have hf : ((as ++ [p]) :: r).flatten = as ++ ([p] ++ r.flatten) := by simp
  have hmem : ∀ a, a ∈ ((as ++ [p]) :: r).flatten ↔ a ∈ (as :: r).flatten ∨ a = p := fun a => by
    rw [hf, List.flatten_cons]; simp only [List.mem_append, List.mem_singleton]
    exact ⟨fun h => h.elim (fun h => .inl (.inl h)) fun h => h.elim .inr fun h => .inl (.inr h), fun h => h.elim (fun h => h.elim .inl fun h => .inr (.inr h)) fun h => .inr (.inl h)⟩
  obtain ⟨fr, t⟩ : FR g ⟨Z, as :: r, []⟩ H os as ∧ HR g Z H h r := by
    have := x.hr
    cases this with | cons a b => exact ⟨a, b⟩
  have le := growLe (Z := Z) (as := as) (r := r) (p := p) (y := y)
  have le0 := growLe (Z := Z) (as := as) (r := r) (p := p) (y := [])
  have hlen : os.length = as.length := by
    exact Paired.len' fr
  refine ⟨⟨fun a o e => ?_, ?_, fun a ha => ?_, ?_, fun q hq => ?_, x.gn⟩, le, ?_⟩
  · have e' : Z a = some o := e
    rw [upd_ne (ne_of_none e' hzp)]; exact x.z a o e'
  · show (((as ++ [p]) :: r).flatten).Nodup
    rw [hf]
    have nd : (as ++ r.flatten).Nodup := by have := x.nd; simpa using this
    have hpn : p ∉ as ++ r.flatten := fun hm => hn p (by simpa using hm) rfl
    rw [List.nodup_append] at nd ⊢
    obtain ⟨n1, n2, n3⟩ := nd
    refine ⟨n1, ?_, fun a ha b hb => ?_⟩
    · show (p :: r.flatten).Nodup
      exact List.nodup_cons.mpr ⟨fun hm => hpn (List.mem_append_right _ hm), n2⟩
    · rcases List.mem_cons.mp hb with e | hb
      · rintro rfl; exact hpn (by rw [e] at ha; exact List.mem_append_left _ ha)
      · exact n3 a ha b hb
  · rcases (hmem a).mp ha with q | rfl
    · obtain ⟨h1, o, h2⟩ := x.fr a q
      exact ⟨h1, o, by rw [upd_ne (hn a q)]; exact h2⟩
    · exact ⟨hzp, u, upd_same⟩
  · refine .cons ?_ (HR.keep (fun _ _ h => h) t fun a ha => upd_ne (hn a (by rw [List.flatten_cons]; exact List.mem_append_right _ ha)))
    refine PySem.Paired.snoc (Paired.imp fr fun o a ha q => ?_) ?_
    · rw [upd_ne (hn a (by rw [List.flatten_cons]; exact List.mem_append_left _ ha))]
      exact q.mono le0.to
    · rw [upd_same]; exact (ho.mono le.to).gx
  · obtain ⟨g1, g2, g3⟩ := x.gh q hq
    have hqp : q.1 ≠ p := fun e => by rw [e, hp] at g1; cases g1
    refine ⟨by rw [upd_ne hqp]; exact g1, g2, fun hm => ?_⟩
    rcases (hmem q.1).mp hm with q' | q'
    · exact g3 q'
    · exact hqp q'
  · refine .obj ?_
    show Li.look ((as ++ [p]) :: r) h.length os.length = some p
    rw [look_cons, if_pos (HR.len t), hlen]
    simp
theorem HRel.ghost {ω : Wd} {D : Addr} {u : HO} (x : HRel g ω h H) (hD : H D = none) : HRel g ⟨ω.Z, ω.r, (D, u) :: ω.x⟩ h (upd H D u) := by
  have k : ∀ a o, H a = some o → upd H D u a = some o := fun a o e => by rw [upd_ne (ne_of_none e hD)]; exact e
  have x' := x.keep k
  have hZ : ω.Z D = none := by
    cases e : ω.Z D with
    | none => rfl
    | some o => have := x.z D o e; rw [hD] at this; cases this
  refine ⟨x'.z, x'.nd, x'.fr, x'.hr, fun q hq => ?_, ?_⟩
  · rcases List.mem_cons.mp hq with rfl | hq
    · refine ⟨upd_same, hZ, fun hm => ?_⟩
      obtain ⟨_, o, e⟩ := x.fr _ hm
      rw [hD] at e; cases e
    · exact x'.gh q hq
  · refine List.nodup_cons.mpr ⟨fun hm => ?_, x.gn⟩
    obtain ⟨q, hq, e⟩ := List.mem_map.mp hm
    have := (x.gh q hq).1
    rw [e, hD] at this; cases this
theorem HRel.reghost {D : Addr} {u u' : HO} (x : HRel g ⟨Z, r, (D, u) :: y⟩ h H) : HRel g ⟨Z, r, (D, u') :: y⟩ h (upd H D u') := by
  obtain ⟨g1, g2, g3⟩ := x.gh (D, u) List.mem_cons_self
  have gn := List.nodup_cons.mp x.gn
  refine ⟨fun a o e => ?_, x.nd, fun a ha => ?_, HR.keep (fun _ _ h => h) x.hr fun a ha => upd_ne fun e => g3 (by rw [← e]; exact ha), fun q hq => ?_, x.gn⟩
  · rw [upd_ne fun e' => by subst e'; exact absurd (e.symm.trans g2) (fun z => by cases z)]
    exact x.z a o e
  · obtain ⟨h1, o, h2⟩ := x.fr a ha
    exact ⟨h1, o, by rw [upd_ne fun e => g3 (by rw [← e]; exact ha)]; exact h2⟩
  · rcases List.mem_cons.mp hq with rfl | hq
    · exact ⟨upd_same, g2, g3⟩
    · obtain ⟨q1, q2, q3⟩ := x.gh q (List.mem_cons_of_mem _ hq)
      refine ⟨?_, q2, q3⟩
      rw [upd_ne fun e => gn.1 (List.mem_map.mpr ⟨q, hq, e⟩)]
      exact q1
/-- it is made: frozen -/
theorem HRel.made {D : Addr} {u : HO} (x : HRel g ⟨Z, r, (D, u) :: y⟩ h H) : HRel g ⟨upd Z D u, r, y⟩ h H ∧ WIn ⟨Z, r, (D, u) :: y⟩ ⟨upd Z D u, r, y⟩ := by
  obtain ⟨g1, g2, g3⟩ := x.gh (D, u) List.mem_cons_self
  have gn := List.nodup_cons.mp x.gn
  have hzz : ∀ a o, Z a = some o → upd Z D u a = some o := fun a o e => by rw [upd_ne (ne_of_none e g2)]; exact e
  refine ⟨⟨fun a o e => ?_, x.nd, fun a ha => ?_, HR.keep hzz x.hr fun _ _ => rfl, fun q hq => ?_, gn.2⟩, ⟨hzz, fun _ _ _ h => h⟩⟩
  · have e' : upd Z D u a = some o := e
    by_cases ha : a = D
    · subst ha
      rw [upd_same] at e'; cases e'
      exact g1
    · rw [upd_ne ha] at e'; exact x.z a o e'
  · obtain ⟨h1, o, h2⟩ := x.fr a ha
    refine ⟨?_, o, h2⟩
    show upd Z D u a = none
    rw [upd_ne fun e => g3 (by rw [← e]; exact ha)]; exact h1
  · obtain ⟨q1, q2, q3⟩ := x.gh q (List.mem_cons_of_mem _ hq)
    refine ⟨q1, ?_, q3⟩
    show upd Z D u q.1 = none
    rw [upd_ne fun e => gn.1 (List.mem_map.mpr ⟨q, hq, e⟩)]
    exact q2
/-- it is made: laid in the top frame -/
theorem HRel.madeH {D : Addr} {u : HO} {o : LObj} (x : HRel g ⟨Z, as :: r, (D, u) :: y⟩ (os :: h) H) (ho : RO g ⟨Z, as :: r, y⟩ o D (some u)) :
    HRel g ⟨Z, (as ++ [D]) :: r, y⟩ ((os ++ [o]) :: h) H ∧ WIn ⟨Z, as :: r, (D, u) :: y⟩ ⟨Z, (as ++ [D]) :: r, y⟩ ∧ RV g ⟨Z, (as ++ [D]) :: r, y⟩ (.obj h.length os.length) (.ref D) := by
  -- without the thing, it is a new object
  obtain ⟨g1, g2, g3⟩ := x.gh (D, u) List.mem_cons_self
  have gn := List.nodup_cons.mp x.gn
  let H0 : Hp := fun a => if a = D then none else H a
  have hne : ∀ a, a ≠ D → H0 a = H a := fun a e => if_neg e
  have x0 : HRel g ⟨Z, as :: r, y⟩ (os :: h) H0 := by
    refine ⟨fun a o e => ?_, x.nd, fun a ha => ?_, HR.keep (fun _ _ h => h) x.hr fun a ha => hne a fun e => g3 (by rw [← e]; exact ha), fun q hq => ?_, gn.2⟩
    · rw [hne a (ne_of_none e g2)]; exact x.z a o e
    · obtain ⟨h1, o, h2⟩ := x.fr a ha
      exact ⟨h1, o, by rw [hne a fun e => g3 (by rw [← e]; exact ha)]; exact h2⟩
    · obtain ⟨q1, q2, q3⟩ := x.gh q (List.mem_cons_of_mem _ hq)
      exact ⟨by rw [hne q.1 fun e => gn.1 (List.mem_map.mpr ⟨q, hq, e⟩)]; exact q1, q2, q3⟩
  obtain ⟨h1, h2, h3⟩ := x0.alloc (p := D) (u := u) (if_pos rfl) ho
  have e : upd H0 D u = H := by
    funext a
    unfold upd
    by_cases ha : a = D
    · subst ha; rw [if_pos rfl]; exact g1.symm
    · rw [if_neg ha]; exact hne a ha
  rw [e] at h1
  exact ⟨h1, ⟨h2.z, h2.look⟩, h3⟩
end
end Li

namespace Li
open PySem PySem.Spec PyProof.Rows L2

def setAt : LHeap → Nat → Nat → LObj → LHeap
  | [], _, _, _ => []
  | os :: h, d, n, o => if d = h.length then os.set n o :: h else os :: setAt h d n o
/-- the frames up to d -/
def low (d : Nat) (r : List (List Addr)) : List (List Addr) := r.drop (r.length - 1 - d)
theorem low_top {as : List Addr} {r : List (List Addr)} : low r.length (as :: r) = as :: r := by
  unfold low
  rw [List.length_cons, show r.length + 1 - 1 - r.length = 0 by omega]; rfl
theorem low_lt {d : Nat} {as : List Addr} {r : List (List Addr)} (h : d < r.length) : low d (as :: r) = low d r := by
  unfold low
  rw [List.length_cons, show r.length + 1 - 1 - d = (r.length - 1 - d) + 1 by omega]; rfl
theorem look_low {d e n : Nat} {a : Addr} (hd : e ≤ d) : ∀ {r : List (List Addr)}, d < r.length → Li.look r e n = some a → Li.look (low d r) e n = some a
  | [], h, _ => absurd h (Nat.not_lt_zero _)
  | as :: r, h, q => by
    by_cases hd2 : d = r.length
    · subst hd2; rw [low_top]; exact q
    · have h3 : d < r.length := by simp at h; omega
      rw [low_lt h3]
      rw [look_cons, if_neg (by omega)] at q
      exact look_low hd h3 q
theorem Paired.setP {α β : Type} {F G : α → β → Prop} {o : α} {b : β} : ∀ {l : List α} {m : List β} {n : Nat}, Paired F l m → m.Nodup → m[n]? = some b → (∀ x c, c ∈ m → c ≠ b → F x c → G x c) → G o b → Paired G (l.set n o) m
  | _, _, _, .nil, _, e, _, _ => by simp at e
  | _, _, 0, .cons (b := c) r t, nd, e, k, h => by
    simp at e; subst e
    refine .cons h (Paired.imp t fun x d hd q => k x d (List.mem_cons_of_mem _ hd) (fun z => ?_) q)
    subst z
    exact (List.nodup_cons.mp nd).1 hd
  | _, _, n + 1, .cons (b := c) (l₂ := m) r t, nd, e, k, h => by
    have e' : m[n]? = some b := by simpa using e
    refine .cons (k _ _ List.mem_cons_self (fun z => ?_) r) (Paired.setP t (List.nodup_cons.mp nd).2 e' (fun x d hd => k x d (List.mem_cons_of_mem _ hd)) h)
    subst z
    exact (List.nodup_cons.mp nd).1 (List.mem_of_getElem? e')
theorem HR.write {g : Pg} {Z H : Hp} {d n : Nat} {o : LObj} {a : Addr} {u : HO} : ∀ {h : LHeap} {r : List (List Addr)}, HR g Z H h r → r.flatten.Nodup → Li.look r d n = some a → RO g ⟨Z, low d r, []⟩ o a (some u) →
    HR g Z (upd H a u) (setAt h d n o) r
  | _, _, .nil, _, e, _ => by simp [Li.look] at e
  | _, _, .cons (os := os) (as := as) (h := h) (r := r) f t, nd, e, ho => by
    rw [List.flatten_cons, List.nodup_append] at nd
    obtain ⟨n1, n2, n3⟩ := nd
    have hl := HR.len t
    unfold setAt
    rw [look_cons] at e
    by_cases hd : d = r.length
    · rw [if_pos (hd.trans hl.symm)]
      rw [if_pos hd] at e
      subst hd
      rw [low_top] at ho
      have ha : a ∈ as := List.mem_of_getElem? e
      refine .cons (Paired.setP f n1 e (fun x c _ hc q => ?_) ?_) (HR.keep (fun _ _ h => h) t fun b hb => upd_ne fun z => n3 a ha b hb z.symm)
      · show RO g _ x c (upd H a u c)
        rw [upd_ne hc]; exact q
      · show RO g _ o a (upd H a u a)
        rw [upd_same]; exact ho
    · rw [if_neg fun z => hd (z.trans hl)]
      rw [if_neg hd] at e
      have hdl := look_lt e
      rw [low_lt hdl] at ho
      have ha := look_mem e
      refine .cons (Paired.imp f fun x c hc q => ?_) (HR.write t n2 e ho)
      show RO g _ x c (upd H a u c)
      rw [upd_ne (n3 c hc a ha)]; exact q
theorem HRel.write {g : Pg} {ω : Wd} {h : LHeap} {H : Hp} {d n : Nat} {o : LObj} {a : Addr} {u : HO} (x : HRel g ω h H) (e : Li.look ω.r d n = some a) (ho : RO g ⟨ω.Z, low d ω.r, []⟩ o a (some u)) : HRel g ω (setAt h d n o) (upd H a u) := by
  obtain ⟨hz, ho'⟩ := x.fr a (look_mem e)
  refine ⟨fun b q c => ?_, x.nd, fun b hb => ?_, HR.write x.hr x.nd e ho, fun q hq => ?_, x.gn⟩
  · rw [upd_ne (ne_of_none c hz)]; exact x.z b q c
  · obtain ⟨h1, q, h2⟩ := x.fr b hb
    refine ⟨h1, ?_⟩
    by_cases hba : b = a
    · subst hba; exact ⟨u, upd_same⟩
    · exact ⟨q, by rw [upd_ne hba]; exact h2⟩
  · obtain ⟨g1, g2, g3⟩ := x.gh q hq
    exact ⟨by rw [upd_ne fun z => g3 (by rw [z]; exact look_mem e)]; exact g1, g2, g3⟩

/-- what stands at an object's place, under the frames up to its own -/
theorem HR.lookLow {g : Pg} {Z H : Hp} {d n : Nat} {o : LObj} {a : Addr} : ∀ {h : LHeap} {r : List (List Addr)}, HR g Z H h r → Li.look h d n = some o → Li.look r d n = some a → RO g ⟨Z, low d r, []⟩ o a (H a)
  | _, _, .nil, e, _ => by simp [Li.look] at e
  | _, _, .cons (os := os) (as := as) (h := h) (r := r) f t, e, e' => by
    rw [look_cons] at e e'
    have hl := HR.len t
    by_cases hd : d = r.length
    · rw [if_pos (hd.trans hl.symm)] at e
      rw [if_pos hd] at e'
      obtain ⟨b, h1, h2⟩ := Paired.get f e
      rw [e'] at h1; cases h1
      subst hd
      rw [low_top]; exact h2
    · rw [if_neg fun z => hd (z.trans hl)] at e
      rw [if_neg hd] at e'
      rw [low_lt (look_lt e')]
      exact HR.lookLow t e e'

theorem HRel.push {g : Pg} {Z H : Hp} {r : List (List Addr)} {h : LHeap} {y : List (Addr × HO)} (x : HRel g ⟨Z, r, y⟩ h H) : HRel g ⟨Z, [] :: r, y⟩ ([] :: h) H :=
  ⟨x.z, by have := x.nd; simpa using this, fun a ha => x.fr a (by simpa using ha), .cons .nil x.hr, fun q hq => let ⟨g1, g2, g3⟩ := x.gh q hq; ⟨g1, g2, by simpa using g3⟩, x.gn⟩

def mapO (f : Val → Option Val) : List Val → Option (List Val)
  | [] => some []
  | x :: xs => match f x with
    | none => none
    | some y => match mapO f xs with
      | none => none
      | some ys => some (y :: ys)
def allS : List (Option Val) → Option (List Val)
  | [] => some []
  | none :: _ => none
  | some x :: xs => match allS xs with
    | none => none
    | some ys => some (x :: ys)
/-- a value without the objects of the frame D: they are frozen -/
def frz : Nat → List LObj → Nat → Val → Option Val
  | 0, _, _, _ => none
  | f + 1, os, D, v => match v with
    | .tup xs => (mapO (frz f os D) xs).map .tup
    | .lst xs => (mapO (frz f os D) xs).map .lst
    | .ins c fs => (mapO (frz f os D) fs).map (.ins c)
    | .dct t ks vs => (mapO (frz f os D) vs).map (.dct t ks)
    | .obj d n => if d = D then (match os[n]? with
        | some (.lst xs) => (mapO (frz f os D) xs).map .lst
        | some (.ins c fs) => (match allS fs with
          | some xs => (mapO (frz f os D) xs).map (.ins c)
          | none => none)
        | some (.dct t ks vs) => (mapO (frz f os D) vs).map (.dct t ks)
        | none => none) else some (.obj d n)
    | v => some v
def frzZ (as : List Addr) (H Z : Hp) : Hp := fun a => if a ∈ as then H a else Z a

section
variable {g : Pg} {Z H : Hp} {r : List (List Addr)} {h : LHeap} {as : List Addr} {os : List LObj} {y : List (Addr × HO)}
theorem frz_z (x : HRel g ⟨Z, as :: r, y⟩ (os :: h) H) : ∀ a o, Z a = some o → frzZ as H Z a = some o := fun a o e => by
  unfold frzZ
  by_cases ha : a ∈ as
  · rw [if_pos ha]; exact x.z a o e
  · rw [if_neg ha]; exact e
theorem HRel.pop (x : HRel g ⟨Z, as :: r, y⟩ (os :: h) H) : HRel g ⟨frzZ as H Z, r, y⟩ h H := by
  have nd := x.nd
  rw [show (⟨Z, as :: r, y⟩ : Wd).r.flatten = as ++ r.flatten from rfl, List.nodup_append] at nd
  obtain ⟨_, n2, n3⟩ := nd
  refine ⟨fun a o e => ?_, n2, fun a ha => ?_, ?_, fun q hq => ?_, x.gn⟩
  · have e' : (if a ∈ as then H a else Z a) = some o := e
    split at e'
    · exact e'
    · exact x.z a o e'
  · obtain ⟨h1, o, h2⟩ := x.fr a (by show a ∈ as ++ r.flatten; exact List.mem_append_right _ ha)
    refine ⟨?_, o, h2⟩
    show (if a ∈ as then H a else Z a) = none
    rw [if_neg fun z => n3 a z a ha rfl]
    exact h1
  · cases x.hr with
    | cons f t => exact HR.keep (frz_z x) t fun _ _ => rfl
  · obtain ⟨g1, g2, g3⟩ := x.gh q hq
    have g3' : q.1 ∉ as ++ r.flatten := g3
    refine ⟨g1, ?_, fun hm => g3' (List.mem_append_right _ hm)⟩
    show (if q.1 ∈ as then H q.1 else Z q.1) = none
    rw [if_neg fun hm => g3' (List.mem_append_left _ hm)]
    exact g2
/-- a value without the frame's objects, behind it -/
theorem RV.popped (x : HRel g ⟨Z, as :: r, y⟩ (os :: h) H) {v : Val} {u : V} (e : RV g ⟨Z, as :: r, y⟩ v u) (b : Li.below r.length v = true) : RV g ⟨frzZ as H Z, r, y⟩ v u :=
  RV.restrict (ω' := ⟨frzZ as H Z, r, y⟩) (frz_z x) (fun d n a hd q => by
    have q' : Li.look (as :: r) d n = some a := q
    rw [look_cons, if_neg (Nat.ne_of_lt hd)] at q'
    exact q') e b
theorem mapO_RVs {ω ω' : Wd} {f : Val → Option Val} (hf : ∀ v v' u, f v = some v' → RV g ω v u → RV g ω' v' u) : ∀ {xs xs' : List Val} {us : List V}, mapO f xs = some xs' → RVs g ω xs us → RVs g ω' xs' us
  | [], _, [], e, .nil => by
    cases e; exact .nil
  | x :: xs, _, _ :: _, e, .cons a b => by
    unfold mapO at e
    cases e1 : f x with
    | none => rw [e1] at e; cases e
    | some y =>
      rw [e1] at e
      cases e2 : mapO f xs with
      | none => rw [e2] at e; cases e
      | some ys =>
        rw [e2] at e
        cases e
        exact .cons (hf _ _ _ e1 a) (mapO_RVs hf e2 b)
theorem mapO_RFs {ω ω' : Wd} {f : Val → Option Val} (hf : ∀ v v' u, f v = some v' → RV g ω v u → RV g ω' v' u) : ∀ {ns : List Str} {xs xs' : List Val} {us : List (Str × V)}, mapO f xs = some xs' → RFs g ω ns xs us → RFs g ω' ns xs' us
  | [], [], _, _, e, .nil => by
    cases e; exact .nil
  | _ :: _, x :: xs, _, _, e, .cons l a b => by
    unfold mapO at e
    cases e1 : f x with
    | none => rw [e1] at e; cases e
    | some y =>
      rw [e1] at e
      cases e2 : mapO f xs with
      | none => rw [e2] at e; cases e
      | some ys =>
        rw [e2] at e
        cases e
        exact .cons l (hf _ _ _ e1 a) (mapO_RFs hf e2 b)
theorem allS_RFs {ω : Wd} : ∀ {ns : List Str} {fs : List (Option Val)} {xs : List Val} {gs : List (Str × V)}, allS fs = some xs → RIs g ω ns fs gs → RFs g ω ns xs gs
  | [], [], _, _, e, .nil => by cases e; exact .nil
  | _ :: _, some _ :: vs, _, _, e, .set l a b => by
    unfold allS at e
    cases e2 : allS vs with
    | none => rw [e2] at e; cases e
    | some ys =>
      rw [e2] at e
      cases e
      exact .cons l a (allS_RFs e2 b)
  | _ :: _, none :: _, _, _, e, .no _ => by cases e
theorem keys_below {ω : Wd} {D : Nat} : ∀ {ks : List Val} {kvs : List (Key × V)}, RVs g ω ks (kvs.map fun p => kV p.1) → belows D ks = true
  | _, [], .nil => rfl
  | _, (.inl i, _) :: t, .cons (.int _) b => belows_cons.mpr ⟨rfl, keys_below b⟩
  | _, (.inr s, _) :: t, .cons (.str _ _) b => belows_cons.mpr ⟨rfl, keys_below b⟩
theorem keyN_below {D : Nat} : ∀ (n : Nat) {k : Val}, keyN n k = true → below D k = true
  | 0, k, h => by
    cases k <;> first | rfl | exact absurd h Bool.false_ne_true
  | n + 1, k, h => by
    cases k with
    | tup xs =>
      show belows D xs = true
      have h' : allB (keyN n) xs = true := h
      clear h
      induction xs with
      | nil => rfl
      | cons x xs ih => exact belows_cons.mpr ⟨keyN_below n (allB_cons.mp h').1, ih (allB_cons.mp h').2⟩
    | _ => first | rfl | exact absurd h Bool.false_ne_true
theorem tkey_below {D : Nat} : ∀ {ks : List Val}, allB tkey ks = true → belows D ks = true
  | [], _ => rfl
  | k :: ks, h => by
    refine belows_cons.mpr ⟨?_, tkey_below (allB_cons.mp h).2⟩
    have h1 := (allB_cons.mp h).1
    cases k with
    | tup xs => exact keyN_below 8 (k := .tup xs) h1
    | _ => exact absurd h1 Bool.false_ne_true
theorem RV.frozen (x : HRel g ⟨Z, as :: r, y⟩ (os :: h) H) : ∀ (n : Nat) {v v' : Val} {u : V}, frz n os r.length v = some v' → RV g ⟨Z, as :: r, y⟩ v u → RV g ⟨frzZ as H Z, r, y⟩ v' u := by
  intro n
  have zz := frz_z x
  have key : ∀ {ks : List Val} {ys : List V}, RVs g ⟨Z, as :: r, y⟩ ks ys → belows r.length ks = true → RVs g ⟨frzZ as H Z, r, y⟩ ks ys := fun rv b => RVs.restrict (ω' := ⟨frzZ as H Z, r, y⟩) zz (fun d n a hd q => by
    have q' : Li.look (as :: r) d n = some a := q
    rw [look_cons, if_neg (Nat.ne_of_lt hd)] at q'
    exact q') rv b
  induction n with
  | zero => intro v v' u e; cases e
  | succ n ih =>
    intro v v' u e rv
    cases rv with
    | tup a b =>
      obtain ⟨xs', e1, rfl⟩ := Option.map_eq_some_iff.mp (show (mapO (frz n os r.length) _).map Val.tup = some v' from e)
      exact .tup (SqT.mono zz a) (mapO_RVs (fun _ _ _ => ih) e1 b)
    | lst a b =>
      obtain ⟨xs', e1, rfl⟩ := Option.map_eq_some_iff.mp (show (mapO (frz n os r.length) _).map Val.lst = some v' from e)
      exact .lst (zz _ _ a) (mapO_RVs (fun _ _ _ => ih) e1 b)
    | ins a b c =>
      obtain ⟨xs', e1, rfl⟩ := Option.map_eq_some_iff.mp (show (mapO (frz n os r.length) _).map (Val.ins _) = some v' from e)
      exact .ins (zz _ _ a) (mapO_RFs (fun _ _ _ => ih) e1 b) c
    | dk a b c d =>
      obtain ⟨xs', e1, rfl⟩ := Option.map_eq_some_iff.mp (show (mapO (frz n os r.length) _).map (Val.dct false _) = some v' from e)
      exact .dk (zz _ _ a) (key b (keys_below b)) (mapO_RVs (fun _ _ _ => ih) e1 c) d
    | dt a b c d =>
      obtain ⟨xs', e1, rfl⟩ := Option.map_eq_some_iff.mp (show (mapO (frz n os r.length) _).map (Val.dct true _) = some v' from e)
      exact .dt (zz _ _ a) (key b (tkey_below d.ok)) (mapO_RVs (fun _ _ _ => ih) e1 c) d
    | obj a =>
      rename_i d m p
      have a' : Li.look (as :: r) d m = some p := a
      unfold frz at e
      rw [look_cons] at a'
      by_cases hd : d = r.length
      · rw [if_pos hd] at a'
        simp only [if_pos hd] at e
        have hp : p ∈ as := List.mem_of_getElem? a'
        have hz : frzZ as H Z p = H p := if_pos hp
        cases eo : os[m]? with
        | none => rw [eo] at e; cases e
        | some o =>
          rw [eo] at e
          obtain ⟨f, t⟩ : FR g ⟨Z, as :: r, []⟩ H os as ∧ HR g Z H h r := by
            have := x.hr
            cases this with | cons a b => exact ⟨a, b⟩
          obtain ⟨p', e1, ro0⟩ := Paired.get f eo
          have ro : RO g ⟨Z, as :: r, y⟩ o p' (H p') := ro0.gx
          rw [a'] at e1; cases e1
          cases o with
          | lst xs =>
            obtain ⟨xs', e2, rfl⟩ := Option.map_eq_some_iff.mp (show (mapO (frz n os r.length) _).map Val.lst = some v' from e)
            generalize hH : H p = hp' at ro
            cases ro with
            | lst rvs => exact .lst (hz.trans hH) (mapO_RVs (fun _ _ _ => ih) e2 rvs)
          | dct t ks vs =>
            obtain ⟨xs', e2, rfl⟩ := Option.map_eq_some_iff.mp (show (mapO (frz n os r.length) _).map (Val.dct t ks) = some v' from e)
            generalize hH : H p = hp' at ro
            cases ro with
            | dk b c d => exact .dk (hz.trans hH) (key b (keys_below b)) (mapO_RVs (fun _ _ _ => ih) e2 c) d
            | dt b c d => exact .dt (hz.trans hH) (key b (tkey_below d.ok)) (mapO_RVs (fun _ _ _ => ih) e2 c) d
          | ins c fs =>
            cases e3 : allS fs with
            | none => simp only [e3] at e; cases e
            | some xs =>
              simp only [e3] at e
              obtain ⟨xs', e2, rfl⟩ := Option.map_eq_some_iff.mp (show (mapO (frz n os r.length) _).map (Val.ins c) = some v' from e)
              generalize hH : H p = hp' at ro
              cases ro with
              | ins rvs nm _ => exact .ins (hz.trans hH) (mapO_RFs (fun _ _ _ => ih) e2 (allS_RFs e3 rvs)) nm
      · rw [if_neg hd] at a'
        simp only [if_neg hd] at e
        cases e
        exact .obj a'
    | non => cases e; exact .non
    | bl b => cases e; exact .bl b
    | int i => cases e; exact .int i
    | str s h => cases e; exact .str s h
    | cls c => cases e; exact .cls c
    | ty n h => cases e; exact .ty n h
    | fn f => cases e; exact .fn f
    | scr a => cases e; exact .scr (SqL.mono zz a)
theorem WLe.pop {Z' : Hp} {as : List Addr} {ω : Wd} (l : WLe ⟨ω.Z, [] :: ω.r, ω.x⟩ ⟨Z', as :: r, y⟩) (x : HRel g ⟨Z', as :: r, y⟩ (os :: h) H) : WLe ω ⟨frzZ as H Z', r, y⟩ := by
  have hlen : r.length = ω.r.length := by
    have := l.len
    simpa using this
  refine ⟨fun a o e => frz_z x a o (l.z a o e), hlen, fun d n a e => ?_, l.gh⟩
  have q : Li.look (as :: r) d n = some a := l.look d n a (look_push e [])
  rw [look_cons, if_neg (by have := look_lt e; omega)] at q
  exact q
end
end Li

namespace Li
open PySem PySem.Spec PyProof.Rows L2

structure Exc where
  c : Nat
  fs : List Val
inductive Res (α : Type) where
  | ok (a : α) (h : LHeap)
  | exc (x : Exc) (h : LHeap)
  | err
def Res.bind {α β : Type} (r : Res α) (f : α → LHeap → Res β) : Res β := match r with
  | .ok a h => f a h
  | .exc x h => .exc x h
  | .err => .err
inductive SRes where
  | nx (e : Env) (h : LHeap)
  | rt (v : Val) (h : LHeap)
  | bk (e : Env) (h : LHeap)
  | ct (e : Env) (h : LHeap)
  | exc (x : Exc) (e : Env) (h : LHeap)
  | err
abbrev LE := Env → LHeap → Res Val
abbrev LT := Env → LHeap → Res Bool
abbrev LA := Env → LHeap → Res (List Val)
abbrev LS := Env → LHeap → SRes
/-- what is wanted of an exception -/
abbrev EX := Exc → Wd → LHeap → L2.St → Hp → Prop

structure SRel (g : Pg) (ω : Wd) (e : Env) (σ : L2.St) : Prop where
  len : e.length = σ.length
  get : ∀ (i : Nat) (v : Val), e[i]? = some (some v) → ∃ u, σ[i]? = some (some u) ∧ RV g ω v u
theorem SRel.mono {g : Pg} {ω ω' : Wd} {e : Env} {σ : L2.St} (x : SRel g ω e σ) (l : WLe ω ω') : SRel g ω' e σ := ⟨x.len, fun i v h => let ⟨u, a, b⟩ := x.get i v h; ⟨u, a, b.mono l.to⟩⟩

def okR {α β : Type} (g : Pg) (R : Wd → α → β → Prop) (ω : Wd) (σ : L2.St) (E : EX) (r : Res α) (Q : β → Hp → Prop) : Prop := match r with
  | .ok a h => ∀ ω' b H', WLe ω ω' → HRel g ω' h H' → R ω' a b → Q b H'
  | .exc x h => ∀ ω' H', WLe ω ω' → HRel g ω' h H' → E x ω' h σ H'
  | .err => False
abbrev REq {α : Type} : Wd → α → α → Prop := fun _ a b => a = b
/-- a reading by a lite expression, test, list -/
def tL {α β : Type} (g : Pg) (R : Wd → α → β → Prop) (E : EX) (e : Env → LHeap → Res α) : L2.St → Hp → (β → Hp → Prop) → Prop := fun σ H Q => ∃ ω env h, SRel g ω env σ ∧ HRel g ω h H ∧ okR g R ω σ E (e env h) Q
abbrev tE (g : Pg) (E : EX) (e : LE) : TE := tL g (RV g) E e
abbrev tT (g : Pg) (E : EX) (e : LT) : TT := tL g REq E e
abbrev tA (g : Pg) (E : EX) (e : LA) : TA := tL g (RVs g) E e

theorem okR.mono {α β : Type} {g : Pg} {R : Wd → α → β → Prop} {ω ω' : Wd} {σ : L2.St} {E : EX} {r : Res α} {Q : β → Hp → Prop} (h : okR g R ω σ E r Q) (l : WLe ω ω') : okR g R ω' σ E r Q := by
  cases r with
  | ok a h' => exact fun w b H' l' hr r => h w b H' (l.trans l') hr r
  | exc x h' => exact fun w H' l' hr => h w H' (l.trans l') hr
  | err => exact h
theorem okR.imp {α β : Type} {g : Pg} {R : Wd → α → β → Prop} {ω : Wd} {σ : L2.St} {E : EX} {r : Res α} {Q Q' : β → Hp → Prop} (h : okR g R ω σ E r Q) (q : ∀ b H', Q b H' → Q' b H') : okR g R ω σ E r Q' := by
  cases r with
  | ok a h' => exact fun w b H' l' hr r => q _ _ (h w b H' l' hr r)
  | exc x h' => exact h
  | err => exact h
theorem okR.bind {α β γ δ : Type} {g : Pg} {R : Wd → α → β → Prop} {R' : Wd → γ → δ → Prop} {ω : Wd} {σ : L2.St} {E : EX} {r : Res α} {f : α → LHeap → Res γ} {Q : δ → Hp → Prop} (h : okR g R' ω σ E (r.bind f) Q) :
    okR g R ω σ E r fun b H' => ∃ ω' a h', WLe ω ω' ∧ HRel g ω' h' H' ∧ R ω' a b ∧ okR g R' ω' σ E (f a h') Q := by
  cases r with
  | ok a h' => exact fun w b H' l hr r => ⟨w, a, h', l, hr, r, okR.mono (show okR g R' ω σ E (f a h') Q from h) l⟩
  | exc x h' => exact h
  | err => exact h
theorem tL.imp {α β : Type} {g : Pg} {R : Wd → α → β → Prop} {E : EX} {e : Env → LHeap → Res α} {σ : L2.St} {H : Hp} {Q Q' : β → Hp → Prop} (h : tL g R E e σ H Q) (q : ∀ b H', Q b H' → Q' b H') : tL g R E e σ H Q' :=
  let ⟨ω, env, h', a, b, c⟩ := h; ⟨ω, env, h', a, b, c.imp q⟩
theorem tL.mk {α β : Type} {g : Pg} {R : Wd → α → β → Prop} {E : EX} {e : Env → LHeap → Res α} {σ : L2.St} {H : Hp} {Q : β → Hp → Prop} {ω : Wd} {env : Env} {h : LHeap} (s : SRel g ω env σ) (r : HRel g ω h H) (o : okR g R ω σ E (e env h) Q) : tL g R E e σ H Q := ⟨ω, env, h, s, r, o⟩
/-- the step of a rule: read e first, then go on at its value -/
theorem tL.step {α β γ δ : Type} {g : Pg} {R : Wd → α → β → Prop} {R' : Wd → γ → δ → Prop} {E : EX} {e : Env → LHeap → Res α} {f : Env → α → LHeap → Res γ} {σ : L2.St} {H : Hp} {Q : δ → Hp → Prop} {Q' : β → Hp → Prop} {ω : Wd} {env : Env} {h : LHeap}
    (s : SRel g ω env σ) (r : HRel g ω h H) (o : okR g R' ω σ E ((e env h).bind (f env)) Q)
    (k : ∀ ω' a b h' H', SRel g ω' env σ → HRel g ω' h' H' → R ω' a b → WLe ω ω' → okR g R' ω' σ E (f env a h') Q → Q' b H') : tL g R E e σ H Q' :=
  .mk s r ((okR.bind (R := R) o).imp fun b H' ⟨ω', a, h', l, hr, rr, q⟩ => k ω' a b h' H' (s.mono l) hr rr l q)

theorem _root_.L2.PE.weak {X : Cx} {e : Expr} {t t' : TE} (h : PE X e t) (w : ∀ σ H Q, t' σ H Q → t σ H Q) : PE X e t' := ⟨fun pins s σ H Q I q => h.run pins s σ H Q I (w σ H Q q)⟩
theorem _root_.L2.PT.weak {X : Cx} {e : Expr} {t t' : TT} (h : PT X e t) (w : ∀ σ H Q, t' σ H Q → t σ H Q) : PT X e t' := ⟨fun pins s σ H Q I q => h.run pins s σ H Q I (w σ H Q q)⟩
theorem _root_.L2.PW.weak {X : Cx} {e : Expr} {t t' : TT} (h : PW X e t) (w : ∀ σ H Q, t' σ H Q → t σ H Q) : PW X e t' := ⟨fun wh pins s σ H Q I q => h.run wh pins s σ H Q I (w σ H Q q)⟩
theorem _root_.L2.PA.weak {X : Cx} {e : List Expr} {t t' : TA} (h : PA X e t) (w : ∀ σ H Q, t' σ H Q → t σ H Q) : PA X e t' := ⟨fun pos pins s σ H Q I q => h.run pos pins s σ H Q I (w σ H Q q)⟩
theorem _root_.L2.PS.weak {X : Cx} {e : Stmt} {t t' : TS} (h : PS X e t) (w : ∀ D σ H, t' D σ H → t D σ H) : PS X e t' := ⟨fun pins s σ H D I q => h.run pins s σ H D I (w D σ H q)⟩
theorem _root_.L2.PSs.weak {X : Cx} {e : List Stmt} {t t' : TS} (h : PSs X e t) (w : ∀ D σ H, t' D σ H → t D σ H) : PSs X e t' := ⟨fun pins s σ H D I q => h.run pins s σ H D I (w D σ H q)⟩

def lvar (i : Nat) : LE := fun env h => match env[i]? with
  | some (some v) => .ok v h
  | _ => .err
def lc (v : Val) : LE := fun _ h => .ok v h
section
variable {X : Cx} {g : Pg} {E : EX}
theorem e_var {i : Nat} {x : Str} {pos : Pos} (hN : X.N[i]? = some x) (hv : Vis X.env.scope x) (hd : (x == ("__debug__" : Str)) = false := by decide) (hcd : (x == ("__classdict__" : Str)) = false := by decide) : PE X (.Name x pos) (tE g E (lvar i)) :=
  (pe_var hN hv hd hcd).weak fun σ H Q ⟨ω, env, h, s, r, o⟩ => by
    unfold lvar at o
    cases e : env[i]? with
    | none => rw [e] at o; exact o.elim
    | some v =>
      rw [e] at o
      cases v with
      | none => exact o.elim
      | some v =>
        obtain ⟨u, h1, h2⟩ := s.get i v e
        exact ⟨u, h1, o ω u H .rfl' r h2⟩
theorem e_c {v : Val} {u : V} {e : Expr} (hu : PE X e (tC u)) (r : ∀ ω, RV g ω v u) : PE X e (tE g E (lc v)) := hu.weak fun σ H Q ⟨ω, env, h, _, hr, o⟩ => o ω u H .rfl' hr (r ω)
theorem e_int {i j pos} : PE X (.Constant (.int i) j pos) (tE g E (lc (.int i))) := e_c pe_int fun _ => .int i
theorem e_bl {b j pos} : PE X (.Constant (.bool b) j pos) (tE g E (lc (.bl b))) := e_c pe_bl fun _ => .bl b
theorem e_non {j pos} : PE X (.Constant .none j pos) (tE g E (lc .non)) := e_c pe_non fun _ => .non
theorem e_str {x : Str} {s : List Nat} {j pos} (h : x.cps.toList = s := by rfl) (hk : PyData.strOk x = true := by rfl) : PE X (.Constant (.str x) j pos) (tE g E (lc (.str s))) := e_c pe_str fun _ => h ▸ .str x hk
theorem e_ty {x : Str} {T : Nat} {pos} (hT : Nat.blt T 900 = true) (hg : Gl X x) (hm : X.mg x = none) (hv : bootBuiltins x = some (.type (tyN T))) (hn : x ≠ "__name__" := by decide) (hd : (x == ("__debug__" : Str)) = false := by decide) : PE X (.Name x pos) (tE g E (lc (.ty T))) :=
  e_c (pe_bltn (v := .ty (tyN T)) hg hm hv rfl hn hd) fun _ => .ty T hT
/-- a module's name -/
theorem e_glob {x : Str} {v : Val} {u : V} {uv : Value} {pos : Pos} (hg : Gl X x) (hm : X.mg x = some uv) (r : RelV u uv) (rv : ∀ ω, RV g ω v u) (hd : (x == ("__debug__" : Str)) = false := by decide) : PE X (.Name x pos) (tE g E (lc v)) := e_c (pe_glob hg hm r hd) rv

abbrev P2 := LHeap → Val → Val → Option (Val × LHeap)
def okO (g : Pg) (ω : Wd) (o : Option (Val × LHeap)) (Q : VK) : Prop := match o with
  | some (v, h) => ∀ ω' b H', WLe ω ω' → HRel g ω' h H' → RV g ω' v b → Q b H'
  | none => False
def ofO (o : Option (Val × LHeap)) : Res Val := match o with
  | some (v, h) => .ok v h
  | none => .err
theorem okO.of {ω : Wd} {σ : L2.St} {o : Option (Val × LHeap)} {Q : VK} (h : okR g (RV g) ω σ E (ofO o) Q) : okO g ω o Q := by
  cases o with
  | none => exact h
  | some p => exact h
def rL (g : Pg) (f : P2) : R2 := fun x y H Q => ∃ ω h a b, HRel g ω h H ∧ RV g ω a x ∧ RV g ω b y ∧ okO g ω (f h a b) Q
def lop (f : P2) (a b : LE) : LE := fun env h => (a env h).bind fun x h1 => (b env h1).bind fun y h2 => ofO (f h2 x y)
theorem tOp_of {f : P2} {la lb : LE} {σ : L2.St} {H : Hp} {Q : VK} (t : tE g E (lop f la lb) σ H Q) : tOp (rL g f) (tE g E la) (tE g E lb) σ H Q := by
  obtain ⟨ω, env, h, s, r, o⟩ := t
  refine tL.step (f := fun env x h1 => (lb env h1).bind fun y h2 => ofO (f h2 x y)) s r o fun ω1 a x h1 H1 s1 r1 ra l1 o1 => ?_
  refine tL.step (f := fun _ y h2 => ofO (f h2 a y)) s1 r1 o1 fun ω2 b y h2 H2 s2 r2 rb l2 o2 => ?_
  exact ⟨ω2, h2, a, b, r2, ra.mono l2.to, rb, .of o2⟩
theorem e_op {op : Operator} {f : P2} {a b : Expr} {la lb : LE} {pos : Pos} (ho : OpR X (binaryOp op) (rL g f)) (ha : PE X a (tE g E la)) (hb : PE X b (tE g E lb)) : PE X (.BinOp a op b pos) (tE g E (lop f la lb)) :=
  (pe_op ho ha hb).weak fun _ _ _ t => tOp_of t
theorem e_cmp {op : CmpOp} {f : P2} {a b : Expr} {la lb : LE} {pos : Pos} (ho : OpR X (compareOp op) (rL g f)) (ha : PE X a (tE g E la)) (hb : PE X b (tE g E lb)) (hm : behindInMarks op b = false := by rfl) : PE X (.Compare a [op] [b] pos) (tE g E (lop f la lb)) :=
  (pe_cmpR ho ha hb hm).weak fun _ _ _ t => tOp_of t
/-- a < b < c -/
def lchain (f f' : P2) (a b c : LE) : LE := fun env h => (a env h).bind fun x h1 => (b env h1).bind fun y h2 => (ofO (f h2 x y)).bind fun z h3 => match z with
  | .bl true => (c env h3).bind fun u h4 => ofO (f' h4 y u)
  | .bl false => .ok (.bl false) h3
  | _ => .err
theorem tChain_of {f f' : P2} {la lb lc' : LE} {σ : L2.St} {H : Hp} {Q : VK} (t : tE g E (lchain f f' la lb lc') σ H Q) : tChain (rL g f) (rL g f') (tE g E la) (tE g E lb) (tE g E lc') σ H Q := by
  obtain ⟨ω, env, h, s, r, o⟩ := t
  refine tL.step (f := fun env x h1 => (lb env h1).bind fun y h2 => (ofO (f h2 x y)).bind fun z h3 => match z with
    | .bl true => (lc' env h3).bind fun u h4 => ofO (f' h4 y u)
    | .bl false => .ok (.bl false) h3
    | _ => .err) s r o fun ω1 a x h1 H1 s1 r1 ra l1 o1 => ?_
  refine tL.step (f := fun _ y h2 => (ofO (f h2 a y)).bind fun z h3 => match z with
    | .bl true => (lc' env h3).bind fun u h4 => ofO (f' h4 y u)
    | .bl false => .ok (.bl false) h3
    | _ => .err) s1 r1 o1 fun ω2 b y h2 H2 s2 r2 rb l2 o2 => ?_
  refine ⟨ω2, h2, a, b, r2, ra.mono l2.to, rb, ?_⟩
  refine (okO.of (E := E) (σ := σ) (okR.bind (R := RV g) o2)) |> fun q => ?_
  cases e : f h2 a b with
  | none => rw [e] at q; exact q
  | some p =>
    obtain ⟨z, h3⟩ := p
    rw [e] at q
    intro ω3 zz H3 l3 r3 rz
    obtain ⟨ω', z', h', l', r', rz', o3⟩ := q ω3 zz H3 l3 r3 rz
    cases z' with
    | bl k =>
      cases rz'
      refine ⟨k, rfl, ?_⟩
      cases k with
      | true =>
        rw [if_pos rfl]
        refine tL.step (f := fun _ u h4 => ofO (f' h4 b u)) (s2.mono l') r' o3 fun ω4 c' w' h4 H4 s4 r4 rc l4 o4 => ?_
        exact ⟨ω4, h4, b, c', r4, (rb.mono l'.to).mono l4.to, rc, .of o4⟩
      | false =>
        rw [if_neg Bool.false_ne_true]
        exact o3 ω' _ _ .rfl' r' (.bl false)
    | _ => exact o3.elim
theorem e_chain {op op' : CmpOp} {f f' : P2} {a b c : Expr} {la lb lc' : LE} {pos : Pos} (ho : OpR X (compareOp op) (rL g f)) (ho' : OpR X (compareOp op') (rL g f')) (ha : PE X a (tE g E la)) (hb : PE X b (tE g E lb)) (hc : PE X c (tE g E lc'))
    (hm : lastMarks [op, op'] [b, c] = false := by with_unfolding_all rfl) : PE X (.Compare a [op, op'] [b, c] pos) (tE g E (lchain f f' la lb lc')) :=
  (pe_chain ho ho' ha hb hc hm).weak fun _ _ _ t => tChain_of t

/-- a test by a value that is a bool -/
def lb2t (e : LE) : LT := fun env h => (e env h).bind fun v h1 => match v with
  | .bl b => .ok b h1
  | _ => .err
theorem t_val {e : Expr} {le : LE} (h : PE X e (tE g E le)) (he : ∀ whole, isTrue e X.env whole = (do let v ← whole; standAt e.pos; holding [v] (truthy v)) := by intro _; rfl) : PT X e (tT g E (lb2t le)) :=
  (pt_val h he).weak fun σ H Q ⟨ω, env, hh, s, r, o⟩ => tL.step (f := fun _ v h1 => match v with
    | .bl b => .ok b h1
    | _ => .err) s r o fun ω1 a x h1 H1 s1 r1 ra l1 o1 => by
    cases a with
    | bl b => cases ra; exact ⟨b, rfl, o1 ω1 b H1 .rfl' r1 rfl⟩
    | _ => exact o1.elim
theorem t_cmp {op : CmpOp} {f : P2} {a b : Expr} {la lb : LE} {pos : Pos} (ho : OpR X (compareOp op) (rL g f)) (ha : PE X a (tE g E la)) (hb : PE X b (tE g E lb)) (hm : behindInMarks op b = false := by rfl) : PT X (.Compare a [op] [b] pos) (tT g E (lb2t (lop f la lb))) := by
  refine (pt_cmpR ho ha hb hm).weak fun σ H Q ⟨ω, env, hh, s, r, o⟩ => ?_
  have t : tE g E (lop f la lb) σ H (fun x H' => ∃ k, x = .bl k ∧ Q k H') := tL.step (f := fun _ v h1 => match v with
    | .bl b => .ok b h1
    | _ => .err) s r o fun ω1 a x h1 H1 s1 r1 ra l1 o1 => by
    cases a with
    | bl b => cases ra; exact ⟨b, rfl, o1 ω1 b H1 .rfl' r1 rfl⟩
    | _ => exact o1.elim
  exact tOp_of t
theorem t_chain {op op' : CmpOp} {f f' : P2} {a b c : Expr} {la lb lc' : LE} {pos : Pos} (ho : OpR X (compareOp op) (rL g f)) (ho' : OpR X (compareOp op') (rL g f')) (ha : PE X a (tE g E la)) (hb : PE X b (tE g E lb)) (hc : PE X c (tE g E lc'))
    (hm : lastMarks [op, op'] [b, c] = false := by with_unfolding_all rfl) : PT X (.Compare a [op, op'] [b, c] pos) (tT g E (lb2t (lchain f f' la lb lc'))) :=
  (pt_chain ho ho' ha hb hc hm).weak fun σ H Q ⟨ω, env, hh, s, r, o⟩ => tChain_of (tL.step (f := fun _ v h1 => match v with
    | .bl b => .ok b h1
    | _ => .err) s r o fun ω1 a x h1 H1 s1 r1 ra l1 o1 => by
    cases a with
    | bl b => cases ra; exact ⟨b, rfl, o1 ω1 b H1 .rfl' r1 rfl⟩
    | _ => exact o1.elim)
def tand (a b : LT) : LT := fun env h => (a env h).bind fun x h1 => match x with
  | true => b env h1
  | false => .ok false h1
def tor (a b : LT) : LT := fun env h => (a env h).bind fun x h1 => match x with
  | true => .ok true h1
  | false => b env h1
def tnot (a : LT) : LT := fun env h => (a env h).bind fun x h1 => .ok (!x) h1
section
variable {a b : Expr} {rest : List Expr} {ta tb : LT} {pos : Pos}
theorem w_and1 (ha : PT X a (tT g E ta)) : PW X (.BoolOp .And [a] pos) (tT g E ta) := pw_and1 ha
theorem w_or1 (ha : PT X a (tT g E ta)) : PW X (.BoolOp .Or [a] pos) (tT g E ta) := pw_or1 ha
theorem w_and (ha : PT X a (tT g E ta)) (hb : PW X (.BoolOp .And (b :: rest) pos) (tT g E tb)) : PW X (.BoolOp .And (a :: b :: rest) pos) (tT g E (tand ta tb)) :=
  (pw_and ha hb).weak fun σ H Q ⟨ω, env, hh, s, r, o⟩ => tL.step (f := fun env x h1 => match x with
    | true => tb env h1
    | false => .ok false h1) s r o fun ω1 c x h1 H1 s1 r1 ra l1 o1 => by
    cases ra
    cases c with
    | true => rw [if_pos rfl]; exact .mk s1 r1 o1
    | false => rw [if_neg Bool.false_ne_true]; exact o1 ω1 _ H1 .rfl' r1 rfl
theorem w_or (ha : PT X a (tT g E ta)) (hb : PW X (.BoolOp .Or (b :: rest) pos) (tT g E tb)) : PW X (.BoolOp .Or (a :: b :: rest) pos) (tT g E (tor ta tb)) :=
  (pw_or ha hb).weak fun σ H Q ⟨ω, env, hh, s, r, o⟩ => tL.step (f := fun env x h1 => match x with
    | true => .ok true h1
    | false => tb env h1) s r o fun ω1 c x h1 H1 s1 r1 ra l1 o1 => by
    cases ra
    cases c with
    | true => rw [if_pos rfl]; exact o1 ω1 _ H1 .rfl' r1 rfl
    | false => rw [if_neg Bool.false_ne_true]; exact .mk s1 r1 o1
theorem t_not (ha : PT X a (tT g E ta)) : PT X (.UnaryOp .Not a pos) (tT g E (tnot ta)) :=
  (pt_not ha).weak fun σ H Q ⟨ω, env, hh, s, r, o⟩ => tL.step (f := fun _ x h1 => .ok (!x) h1) s r o fun ω1 c x h1 H1 s1 r1 ra l1 o1 => by
    cases ra; exact o1 ω1 _ H1 .rfl' r1 rfl
end
def lif (t : LT) (a b : LE) : LE := fun env h => (t env h).bind fun x h1 => match x with
  | true => a env h1
  | false => b env h1
theorem e_if {c a b : Expr} {lt : LT} {la lb : LE} {pos : Pos} (hc : PT X c (tT g E lt)) (ha : PE X a (tE g E la)) (hb : PE X b (tE g E lb)) : PE X (.IfExp c a b pos) (tE g E (lif lt la lb)) :=
  (pe_ifExp hc ha hb).weak fun σ H Q ⟨ω, env, hh, s, r, o⟩ => tL.step (f := fun env x h1 => match x with
    | true => la env h1
    | false => lb env h1) s r o fun ω1 c x h1 H1 s1 r1 ra l1 o1 => by
    cases ra
    cases c with
    | true => rw [if_pos rfl]; exact .mk s1 r1 o1
    | false => rw [if_neg Bool.false_ne_true]; exact .mk s1 r1 o1

def anil : LA := fun _ h => .ok [] h
def acons (a : LE) (r : LA) : LA := fun env h => (a env h).bind fun x h1 => (r env h1).bind fun xs h2 => .ok (x :: xs) h2
def astar (a : LE) (r : LA) : LA := fun env h => (a env h).bind fun x h1 => match x with
  | .tup xs => (r env h1).bind fun ys h2 => .ok (xs ++ ys) h2
  | .lst xs => (r env h1).bind fun ys h2 => .ok (xs ++ ys) h2
  | .obj d n => (match look h1 d n with
    | some (.lst xs) => (r env h1).bind fun ys h2 => .ok (xs ++ ys) h2
    | _ => .err)
  | _ => .err
section
variable {e : Expr} {es : List Expr} {le : LE} {la : LA} {pos p : Pos}
theorem a_nil : PA X [] (tA g E anil) := pa_nil.weak fun σ H Q ⟨ω, env, hh, s, r, o⟩ => o ω [] H .rfl' r .nil
theorem a_cons (ha : PE X e (tE g E le)) (hr : PA X es (tA g E la)) (hs : starEach (e :: es) X.env = (false, eval e X.env) :: starEach es X.env := by rfl) : PA X (e :: es) (tA g E (acons le la)) :=
  (pa_cons ha hr hs).weak fun σ H Q ⟨ω, env, hh, s, r, o⟩ => tL.step (f := fun env x h1 => (la env h1).bind fun xs h2 => .ok (x :: xs) h2) s r o fun ω1 a x h1 H1 s1 r1 ra l1 o1 =>
    tL.step (f := fun _ xs h2 => .ok (a :: xs) h2) s1 r1 o1 fun ω2 b y h2 H2 s2 r2 rb l2 o2 => o2 ω2 _ H2 .rfl' r2 (.cons (ra.mono l2.to) rb)
end
end
end Li

namespace Li
open PySem PySem.Spec PyProof.Rows L2

def okS (g : Pg) (ω : Wd) (E : EX) (D : Ends) (r : SRes) : Prop := match r with
  | .nx e h => ∀ ω' σ' H', WLe ω ω' → HRel g ω' h H' → SRel g ω' e σ' → D.nx σ' H'
  | .rt v h => ∀ ω' u H', WLe ω ω' → HRel g ω' h H' → RV g ω' v u → D.rt u H'
  | .bk e h => ∀ ω' σ' H', WLe ω ω' → HRel g ω' h H' → SRel g ω' e σ' → D.bk σ' H'
  | .ct e h => ∀ ω' σ' H', WLe ω ω' → HRel g ω' h H' → SRel g ω' e σ' → D.ct σ' H'
  | .exc x e h => ∀ ω' σ' H', WLe ω ω' → HRel g ω' h H' → SRel g ω' e σ' → E x ω' h σ' H'
  | .err => False
def tS (g : Pg) (E : EX) (s : LS) : TS := fun D σ H => ∃ ω env h, SRel g ω env σ ∧ HRel g ω h H ∧ okS g ω E D (s env h)
theorem okS.mono {g : Pg} {ω ω' : Wd} {E : EX} {D : Ends} {r : SRes} (h : okS g ω E D r) (l : WLe ω ω') : okS g ω' E D r := by
  cases r with
  | nx e k => exact fun w s H l' a b => h w s H (l.trans l') a b
  | rt e k => exact fun w s H l' a b => h w s H (l.trans l') a b
  | bk e k => exact fun w s H l' a b => h w s H (l.trans l') a b
  | ct e k => exact fun w s H l' a b => h w s H (l.trans l') a b
  | exc x e k => exact fun w s H l' a b => h w s H (l.trans l') a b
  | err => exact h
/-- an expression within a statement -/
def Res.s {α : Type} (r : Res α) (env : Env) (k : α → LHeap → SRes) : SRes := match r with
  | .ok a h => k a h
  | .exc x h => .exc x env h
  | .err => .err
theorem tL.stepS {α β : Type} {g : Pg} {R : Wd → α → β → Prop} {E : EX} {e : Env → LHeap → Res α} {f : Env → α → LHeap → SRes} {σ : L2.St} {H : Hp} {D : Ends} {Q' : β → Hp → Prop} {ω : Wd} {env : Env} {h : LHeap}
    (s : SRel g ω env σ) (r : HRel g ω h H) (o : okS g ω E D ((e env h).s env (f env)))
    (k : ∀ ω' a b h' H', SRel g ω' env σ → HRel g ω' h' H' → R ω' a b → WLe ω ω' → okS g ω' E D (f env a h') → Q' b H') : tL g R E e σ H Q' := by
  refine .mk s r ?_
  cases q : e env h with
  | ok a h' =>
    rw [q] at o
    exact fun w b H' l hr rr => k w a b h' H' (s.mono l) hr rr l (okS.mono (show okS g ω E D (f env a h') from o) l)
  | exc x h' =>
    rw [q] at o
    exact fun w H' l hr => o w σ H' l hr (s.mono l)
  | err =>
    rw [q] at o
    exact o
/-- at the end of a statement -/
def SRes.then (r : SRes) (k : Env → LHeap → SRes) : SRes := match r with
  | .nx e h => k e h
  | r => r
def lnil : LS := fun env h => .nx env h
def lseq (a b : LS) : LS := fun env h => (a env h).then b
theorem okS.seq {g : Pg} {ω : Wd} {E : EX} {D : Ends} {r : SRes} {k : LS} (o : okS g ω E D (r.then k)) : okS g ω E { D with nx := tS g E k D } r := by
  cases r with
  | nx e h => exact fun w s H l a b => ⟨w, e, h, b, a, okS.mono (show okS g ω E D (k e h) from o) l⟩
  | _ => exact o
section
variable {X : Cx} {g : Pg} {E : EX}
theorem ss_nil : PSs X [] (tS g E lnil) := pss_nil.weak fun D σ H ⟨ω, env, h, s, r, o⟩ => o ω σ H .rfl' r s
theorem ss_cons {st : Stmt} {rest : List Stmt} {a b : LS} (h1 : PS X st (tS g E a)) (h2 : PSs X rest (tS g E b)) : PSs X (st :: rest) (tS g E (lseq a b)) :=
  (pss_cons h1 h2).weak fun D σ H ⟨ω, env, h, s, r, o⟩ => ⟨ω, env, h, s, r, okS.seq o⟩
theorem ss_one {st : Stmt} {a : LS} (h1 : PS X st (tS g E a)) : PSs X [st] (tS g E a) := pss_one h1
theorem s_pass {pos} : PS X (.Pass pos) (tS g E lnil) := ps_pass.weak fun D σ H ⟨ω, env, h, s, r, o⟩ => o ω σ H .rfl' r s
theorem s_break {pos} : PS X (.Break pos) (tS g E fun env h => .bk env h) := ps_break.weak fun D σ H ⟨ω, env, h, s, r, o⟩ => o ω σ H .rfl' r s
theorem s_continue {pos} : PS X (.Continue pos) (tS g E fun env h => .ct env h) := ps_continue.weak fun D σ H ⟨ω, env, h, s, r, o⟩ => o ω σ H .rfl' r s
theorem s_doc {x j pos pos'} : PS X (.Expr (.Constant (.str x) j pos) pos') (tS g E lnil) := ps_doc.weak fun D σ H ⟨ω, env, h, s, r, o⟩ => o ω σ H .rfl' r s
/-- a statement that this proof never comes to -/
theorem s_never {st : Stmt} : PS X st (tS g E fun _ _ => .err) := ⟨fun _ _ _ _ _ _ ⟨_, _, _, _, _, o⟩ => o.elim⟩
def lexpr (e : LE) : LS := fun env h => (e env h).s env fun _ h1 => .nx env h1
theorem s_expr {e : Expr} {le : LE} {pos : Pos} (he : PE X e (tE g E le)) (hs : swapsWith e none pos.line X.env = pure false := by rfl) : PS X (.Expr e pos) (tS g E (lexpr le)) :=
  (ps_expr he hs).weak fun D σ H ⟨ω, env, h, s, r, o⟩ => tL.stepS (f := fun env _ h1 => .nx env h1) s r o fun ω1 a b h1 H1 s1 r1 ra l o1 => o1 ω1 σ H1 .rfl' r1 s1
def lret (e : LE) : LS := fun env h => (e env h).s env fun v h1 => .rt v h1
theorem s_ret {e : Expr} {le : LE} {pos : Pos} (he : PE X e (tE g E le)) : PS X (.Return (some e) pos) (tS g E (lret le)) :=
  (ps_ret he).weak fun D σ H ⟨ω, env, h, s, r, o⟩ => tL.stepS (f := fun _ v h1 => .rt v h1) s r o fun ω1 a b h1 H1 s1 r1 ra l o1 => o1 ω1 b H1 .rfl' r1 ra
def lretN : LS := fun _ h => .rt .non h
theorem s_retN {pos : Pos} : PS X (.Return none pos) (tS g E lretN) := ps_retN.weak fun D σ H ⟨ω, env, h, s, r, o⟩ => o ω .non H .rfl' r .non
def lifS (c : LT) (a b : LS) : LS := fun env h => (c env h).s env fun k h1 => match k with
  | true => a env h1
  | false => b env h1
theorem s_if {c : Expr} {a b : List Stmt} {lc' : LT} {la lb : LS} {pos : Pos} (hc : PT X c (tT g E lc')) (ha : PSs X a (tS g E la)) (hb : PSs X b (tS g E lb)) : PS X (.If c a b pos) (tS g E (lifS lc' la lb)) :=
  (ps_if hc ha hb).weak fun D σ H ⟨ω, env, h, s, r, o⟩ => tL.stepS (f := fun env k h1 => match k with
    | true => la env h1
    | false => lb env h1) s r o fun ω1 a b h1 H1 s1 r1 ra l o1 => by
    cases ra
    cases a with
    | true => rw [if_pos rfl]; exact ⟨ω1, env, h1, s1, r1, o1⟩
    | false => rw [if_neg Bool.false_ne_true]; exact ⟨ω1, env, h1, s1, r1, o1⟩

abbrev LG := Val → Env → LHeap → Res Env
def okG (g : Pg) (ω : Wd) (r : Res Env) (Q : L2.St → Hp → Prop) : Prop := match r with
  | .ok e h => ∀ ω' σ' H', WLe ω ω' → HRel g ω' h H' → SRel g ω' e σ' → Q σ' H'
  | _ => False
def tG (g : Pg) (t : LG) : TG := fun u σ H Q => ∃ ω env h v, SRel g ω env σ ∧ HRel g ω h H ∧ RV g ω v u ∧ okG g ω (t v env h) Q
abbrev LGs := List Val → Env → LHeap → Res Env
def tGs (g : Pg) (t : LGs) : TGs := fun us σ H Q => ∃ ω env h vs, SRel g ω env σ ∧ HRel g ω h H ∧ RVs g ω vs us ∧ okG g ω (t vs env h) Q
theorem _root_.L2.PG.weak {X : Cx} {e : Expr} {t t' : TG} (h : PG X e t) (w : ∀ u σ H Q, t' u σ H Q → t u σ H Q) : PG X e t' := ⟨fun pins s σ H v u Q I r q => h.run pins s σ H v u Q I r (w v σ H Q q)⟩
theorem _root_.L2.PGs.weak {X : Cx} {e : List Expr} {t t' : TGs} (h : PGs X e t) (w : ∀ u σ H Q, t' u σ H Q → t u σ H Q) : PGs X e t' := ⟨fun pins s σ H v u Q I r q => h.run pins s σ H v u Q I r (w v σ H Q q)⟩
theorem okG.mono {ω ω' : Wd} {r : Res Env} {Q : L2.St → Hp → Prop} (h : okG g ω r Q) (l : WLe ω ω') : okG g ω' r Q := by
  cases r with
  | ok e k => exact fun w s H l' a b => h w s H (l.trans l') a b
  | exc x k => exact h
  | err => exact h
theorem okG.imp {ω : Wd} {r : Res Env} {Q Q' : L2.St → Hp → Prop} (h : okG g ω r Q) (q : ∀ σ H, Q σ H → Q' σ H) : okG g ω r Q' := by
  cases r with
  | ok e k => exact fun w s H l' a b => q _ _ (h w s H l' a b)
  | exc x k => exact h
  | err => exact h
theorem SRel.set {ω : Wd} {e : Env} {σ : L2.St} (s : SRel g ω e σ) {v : Val} {u : V} (r : RV g ω v u) (i : Nat) : SRel g ω (e.set i (some v)) (σ.set i (some u)) := by
  refine ⟨by simpa using s.len, fun j w h => ?_⟩
  by_cases hj : i = j
  · subst hj
    by_cases hi : i < e.length
    · rw [List.getElem?_set_self hi] at h
      cases h
      exact ⟨u, List.getElem?_set_self (s.len ▸ hi), r⟩
    · rw [List.getElem?_eq_none (by simpa using Nat.le_of_not_lt hi)] at h; cases h
  · rw [List.getElem?_set_ne hj] at h ⊢
    exact s.get j w h
def gname (i : Nat) : LG := fun v env h => .ok (env.set i (some v)) h
theorem g_name {i : Nat} {x : Str} {pos : Pos} (hN : X.N.Nodup) (hi : X.N[i]? = some x) (hx : Loc X.env.scope x) (hf : X.fn x = true ∨ X.env.scope.names.lookup x = some .local := by first | exact .inl rfl | exact .inr rfl | assumption) : PG X (.Name x pos) (tG g (gname i)) :=
  (pg_name hN hi hx hf).weak fun u σ H Q ⟨ω, env, h, v, s, r, rv, o⟩ => o ω _ H .rfl' r (s.set rv i)
def gnil : LGs := fun vs env h => match vs with
  | [] => .ok env h
  | _ => .err
def gcons (t : LG) (r : LGs) : LGs := fun vs env h => match vs with
  | v :: vs => (t v env h).bind fun env1 h1 => r vs env1 h1
  | [] => .err
theorem gs_nil : PGs X [] (tGs g gnil) := pgs_nil.weak fun us σ H Q ⟨ω, env, h, vs, s, r, rv, o⟩ => by
  cases rv with
  | nil => exact ⟨rfl, o ω σ H .rfl' r s⟩
  | cons _ _ => exact o.elim
theorem gs_cons {e : Expr} {es : List Expr} {t : LG} {u : LGs} (h1 : PG X e (tG g t)) (h2 : PGs X es (tGs g u)) (hs : (assignEach (e :: es) X.env).map (·.2) = assign e X.env :: (assignEach es X.env).map (·.2) := by rfl) : PGs X (e :: es) (tGs g (gcons t u)) :=
  (pgs_cons h1 h2 hs).weak fun us σ H Q ⟨ω, env, h, vs, s, r, rv, o⟩ => by
    cases rv with
    | nil => exact o.elim
    | @cons v y vs ys ra rr =>
      refine ⟨y, ys, rfl, ω, env, h, v, s, r, ra, ?_⟩
      have o' : okG g ω ((t v env h).bind fun env1 h1 => u vs env1 h1) Q := o
      cases q : t v env h with
      | ok e1 h1 =>
        rw [q] at o'
        exact fun w s' H' l a b => ⟨w, e1, h1, vs, b, a, rr.mono l.to, okG.mono (show okG g ω (u vs e1 h1) Q from o') l⟩
      | exc x h1 => rw [q] at o'; exact o'.elim
      | err => rw [q] at o'; exact o'.elim
def gtup (t : LGs) : LG := fun v env h => match v with
  | .tup xs => t xs env h
  | _ => .err
/-- a, b = v: the pattern has n names -/
theorem gs_len {n : Nat} {us : List V} {vs : List Val} {ω : Wd} (r : RVs g ω vs us) (h : vs.length = n) : us.length = n := r.length.trans h
def gtupN (n : Nat) (t : LGs) : LG := fun v env h => match v with
  | .tup xs => if xs.length = n then t xs env h else .err
  | _ => .err
theorem g_tup {es : List Expr} {k n : Nat} {t : LGs} {pos : Pos} (hK : X.K = g.K) (hc : X.calm = true) (h : PGs X es (tGs g t)) (hn : (assignEach es X.env).length = n := by rfl) (hst : (assignEach es X.env).findIdx? (·.1) = none := by rfl) :
    PG X (.Tuple es k pos) (tG g (gtupN n t)) :=
  (pg_tup hc h hn hst).weak fun u σ H Q ⟨ω, env, h, v, s, r, rv, o⟩ => by
    cases rv with
    | @tup xs p ys a b =>
      have o' : okG g ω (if xs.length = n then t xs env h else .err) Q := o
      by_cases hl : xs.length = n
      · rw [if_pos hl] at o'
        exact ⟨p, ys, rfl, hK ▸ SqT.mono r.z a, b.length.trans hl, ω, env, h, xs, s, r, b, o'⟩
      · rw [if_neg hl] at o'
        exact o'.elim
    | _ => exact o.elim
def lasg (e : LE) (t : LG) : LS := fun env h => (e env h).s env fun v h1 => match t v env h1 with
  | .ok env1 h2 => .nx env1 h2
  | _ => .err
theorem s_asg {tg e : Expr} {le : LE} {t : LG} {pos : Pos} (he : PE X e (tE g E le)) (hg : PG X tg (tG g t)) (hs : swapsWithSole [tg] e pos.line X.env = pure false := by rfl) (hw : swappedStores [tg] e X.env = pure none := by rfl)
    (h1 : (assignEach [tg] X.env).map (·.2) = [assign tg X.env] := by rfl) : PS X (.Assign [tg] e pos) (tS g E (lasg le t)) :=
  (ps_asg he hg hs hw h1).weak fun D σ H ⟨ω, env, h, s, r, o⟩ => tL.stepS (f := fun env v h1 => match t v env h1 with
    | .ok env1 h2 => .nx env1 h2
    | _ => .err) s r o fun ω1 a b h1 H1 s1 r1 ra l o1 => by
    refine ⟨ω1, env, h1, a, s1, r1, ra, ?_⟩
    have o2 : okS g ω1 E D (match t a env h1 with
      | .ok env1 h2 => .nx env1 h2
      | _ => .err) := o1
    cases q : t a env h1 with
    | ok e1 h2 => rw [q] at o2; exact o2
    | exc x h2 => rw [q] at o2; exact o2.elim
    | err => rw [q] at o2; exact o2.elim
def lset (i : Nat) (e : LE) : LS := fun env h => (e env h).s env fun v h1 => .nx (env.set i (some v)) h1
theorem s_set {i : Nat} {x : Str} {e : Expr} {le : LE} {pos pos' : Pos} (hN : X.N.Nodup) (hi : X.N[i]? = some x) (hx : Loc X.env.scope x) (he : PE X e (tE g E le)) (hs : swapsWith e (some (.Name x pos')) pos.line X.env = pure false := by rfl)
    (hf : X.fn x = true ∨ X.env.scope.names.lookup x = some .local := by first | exact .inl rfl | exact .inr rfl | assumption) : PS X (.Assign [.Name x pos'] e pos) (tS g E (lset i le)) :=
  (ps_set hN hi hx he hs hf).weak fun D σ H ⟨ω, env, h, s, r, o⟩ => tL.stepS (f := fun env v h1 => .nx (env.set i (some v)) h1) s r o fun ω1 a b h1 H1 s1 r1 ra l o1 => o1 ω1 _ H1 .rfl' r1 (s1.set ra i)

def lwhile (c : LT) (b : LS) : Nat → LS
  | 0 => fun _ _ => .err
  | n + 1 => fun env h => (c env h).s env fun k h1 => match k with
    | false => .nx env h1
    | true => match b env h1 with
      | .nx e2 h2 => lwhile c b n e2 h2
      | .ct e2 h2 => lwhile c b n e2 h2
      | .bk e2 h2 => .nx e2 h2
      | r => r
theorem s_while {c : Expr} {body : List Stmt} {lc' : LT} {lb : LS} {pos : Pos} (n : Nat) (hp : PassesOwn (model X.prog X.w) X.A X.env X.xe) (hc : PT X c (tT g E lc')) (hb : PSs X body (tS g E lb)) : PS X (.While c body [] pos) (tS g E (lwhile lc' lb n)) :=
  (ps_while hp hc hb).weak fun D σ H ⟨ω, env, h, s, r, o⟩ => by
    refine ⟨fun m σ H => ∃ ω env h, SRel g ω env σ ∧ HRel g ω h H ∧ okS g ω E D (lwhile lc' lb m env h), ⟨n, ω, env, h, s, r, o⟩, fun m σ H ⟨ω, env, h, s, r, o⟩ => ?_⟩
    cases m with
    | zero => exact o.elim
    | succ m =>
      refine tL.stepS (f := fun env k h1 => match k with
        | false => .nx env h1
        | true => match lb env h1 with
          | .nx e2 h2 => lwhile lc' lb m e2 h2
          | .ct e2 h2 => lwhile lc' lb m e2 h2
          | .bk e2 h2 => .nx e2 h2
          | r => r) s r o fun ω1 a b h1 H1 s1 r1 ra l o1 => ?_
      cases ra
      cases a with
      | false => rw [if_neg Bool.false_ne_true]; exact o1 ω1 σ H1 .rfl' r1 s1
      | true =>
        rw [if_pos rfl]
        refine ⟨fun σ' H' => ∃ ω env h, SRel g ω env σ' ∧ HRel g ω h H' ∧ okS g ω E D (lwhile lc' lb m env h), fun σ' H' q => ⟨m, Nat.lt_succ_self m, q⟩, ω1, env, h1, s1, r1, ?_⟩
        have o2 : okS g ω1 E D (match lb env h1 with
          | .nx e2 h2 => lwhile lc' lb m e2 h2
          | .ct e2 h2 => lwhile lc' lb m e2 h2
          | .bk e2 h2 => .nx e2 h2
          | r => r) := o1
        cases q : lb env h1 with
        | nx e2 h2 => rw [q] at o2; exact fun w s' H' l a b => ⟨w, e2, h2, b, a, okS.mono (show okS g ω1 E D (lwhile lc' lb m e2 h2) from o2) l⟩
        | ct e2 h2 => rw [q] at o2; exact fun w s' H' l a b => ⟨w, e2, h2, b, a, okS.mono (show okS g ω1 E D (lwhile lc' lb m e2 h2) from o2) l⟩
        | bk e2 h2 => rw [q] at o2; exact o2
        | rt v h2 => rw [q] at o2; exact o2
        | exc x e2 h2 => rw [q] at o2; exact o2
        | err => rw [q] at o2; exact o2.elim

inductive Src where
  | vals (xs : List Val)
  | live (d n : Nat)
def Src.at (s : Src) (h : LHeap) : Option (List Val) := match s with
  | .vals xs => some xs
  | .live d n => match look h d n with
    | some (.lst xs) => some xs
    | _ => none
/-- what walks: its items are those of the source -/
def IsIt (g : Pg) (ω : Wd) (s : Src) (J : It) : Prop := ∀ i ω' H h xs, WLz ω ω' → HRel g ω' h H → s.at h = some xs →
  (∀ v, xs[i]? = some v → J.go i H ∧ ∀ x H', J.yld i H x H' → ∃ ω2, WLe ω' ω2 ∧ HRel g ω2 h H' ∧ RV g ω2 v x) ∧ (xs[i]? = none → J.stop i H)
abbrev LI := Env → LHeap → Res Src
def RIt (g : Pg) : Wd → Src → It → Prop := fun ω s J => IsIt g ω s J
abbrev tI (g : Pg) (E : EX) (e : LI) : TI := tL g (RIt g) E e
theorem _root_.L2.PI.weak {X : Cx} {tg iter : Expr} {t t' : TI} (h : PI X tg iter t) (w : ∀ σ H Q, t' σ H Q → t σ H Q) : PI X tg iter t' := ⟨fun pins s σ H R I q => h.run pins s σ H R I (w σ H R q)⟩
def forV (t : LG) (b : LS) : List Val → LS
  | [] => fun env h => .nx env h
  | v :: vs => fun env h => match t v env h with
    | .ok e1 h1 => (match b e1 h1 with
      | .nx e2 h2 => forV t b vs e2 h2
      | .ct e2 h2 => forV t b vs e2 h2
      | .bk e2 h2 => .nx e2 h2
      | r => r)
    | _ => .err
def forN (t : LG) (b : LS) (s : Src) : Nat → Nat → LS
  | 0, _ => fun _ _ => .err
  | f + 1, i => fun env h => match s.at h with
    | none => .err
    | some xs => match xs[i]? with
      | none => .nx env h
      | some v => match t v env h with
        | .ok e1 h1 => (match b e1 h1 with
          | .nx e2 h2 => forN t b s f (i + 1) e2 h2
          | .ct e2 h2 => forN t b s f (i + 1) e2 h2
          | .bk e2 h2 => .nx e2 h2
          | r => r)
        | _ => .err
def forS (t : LG) (b : LS) (s : Src) : LS := match s with
  | .vals xs => forV t b xs
  | .live d n => forN t b (.live d n) 1000000 0
/-- a loop over a source told by places is one over its values -/
theorem forN_vals {t : LG} {b : LS} {xs : List Val} : ∀ (m i : Nat) (env : Env) (h : LHeap), xs.length + 1 ≤ i + m → i ≤ xs.length → forN t b (.vals xs) m i env h = forV t b (xs.drop i) env h := by
  intro m
  induction m with
  | zero => intro i env h h1 h2; omega
  | succ m ih =>
    intro i env h h1 h2
    unfold forN
    show (match xs[i]? with
      | none => _
      | some v => _) = _
    by_cases hi : i < xs.length
    · rw [List.getElem?_eq_getElem hi, List.drop_eq_getElem_cons hi]
      show (match t xs[i] env h with
        | .ok e1 h1 => _
        | _ => _) = _
      unfold forV
      cases t xs[i] env h with
      | ok e1 h1' =>
        show (match b e1 h1' with
          | .nx e2 h2 => forN t b (.vals xs) m (i + 1) e2 h2
          | .ct e2 h2 => forN t b (.vals xs) m (i + 1) e2 h2
          | .bk e2 h2 => .nx e2 h2
          | r => r) = (match b e1 h1' with
          | .nx e2 h2 => forV t b (xs.drop (i + 1)) e2 h2
          | .ct e2 h2 => forV t b (xs.drop (i + 1)) e2 h2
          | .bk e2 h2 => .nx e2 h2
          | r => r)
        cases b e1 h1' <;> first | rfl | exact ih _ _ _ (by omega) (by omega)
      | _ => rfl
    · rw [List.getElem?_eq_none (by omega), List.drop_eq_nil_of_le (by omega)]
      rfl
def lfor (it : LI) (t : LG) (b : LS) : LS := fun env h => (it env h).s env fun s h1 => forS t b s env h1
theorem s_for {tg iter : Expr} {body : List Stmt} {li : LI} {t : LG} {lb : LS} {pos : Pos} (hp : PassesOwn (model X.prog X.w) X.A X.env X.xe) (hc : X.calm = true) (hi : PI X tg iter (tI g E li)) (hg : PG X tg (tG g t)) (hb : PSs X body (tS g E lb))
    (hs : ∀ x, foldedSetIterable iter X.env x = pure x := by intro _; rfl) : PS X (.For tg iter body [] pos) (tS g E (lfor li t lb)) :=
  (ps_for hp hc hi hg hb hs).weak fun D σ H ⟨ω, env, h, s, r, o⟩ => by
    refine tL.stepS (R := RIt g) (f := fun env s h1 => forS t lb s env h1) s r o fun ω1 a J h1 H1 s1 r1 ra l o1 => ?_
    obtain ⟨m0, o2⟩ : ∃ m, okS g ω1 E D (forN t lb a m 0 env h1) := by
      cases a with
      | vals xs =>
        refine ⟨xs.length + 1, ?_⟩
        rw [forN_vals _ _ _ _ (by omega) (by omega)]
        exact o1
      | live d n => exact ⟨1000000, o1⟩
    refine ⟨fun i m σ H => ∃ ω env h, WLe ω1 ω ∧ SRel g ω env σ ∧ HRel g ω h H ∧ okS g ω E D (forN t lb a m i env h), ⟨m0, ω1, env, h1, .rfl', s1, r1, o2⟩, fun i m σ H ⟨ω, env, h, l, s, r, o⟩ => ?_⟩
    cases m with
    | zero => exact o.elim
    | succ m =>
      unfold forN at o
      cases e1 : a.at h with
      | none => rw [e1] at o; exact o.elim
      | some xs =>
        rw [e1] at o
        obtain ⟨it1, it2⟩ := ra i ω H h xs l.lz r e1
        cases e2 : xs[i]? with
        | none =>
          simp only [e2] at o
          exact .inl ⟨it2 e2, o ω σ H .rfl' r s⟩
        | some v =>
          simp only [e2] at o
          obtain ⟨go, yl⟩ := it1 v e2
          refine .inr ⟨go, fun σ' H' => ∃ ω env h, WLe ω1 ω ∧ SRel g ω env σ' ∧ HRel g ω h H' ∧ okS g ω E D (forN t lb a m (i + 1) env h), fun σ' H' q => ⟨m, Nat.lt_succ_self m, q⟩, fun x H' y => ?_⟩
          obtain ⟨ω2, l2, r2, rv⟩ := yl x H' y
          refine ⟨ω2, env, h, v, s.mono l2, r2, rv, ?_⟩
          cases e3 : t v env h with
          | ok e1' h1' =>
            simp only [e3] at o
            intro ω3 σ3 H3 l3 r3 s3
            refine ⟨ω3, e1', h1', s3, r3, ?_⟩
            have ll := (l.trans l2).trans l3
            have o' := okS.mono o (l2.trans l3)
            cases q : lb e1' h1' with
            | nx e2 h2 => simp only [q] at o'; exact fun w s' H' l' a b => ⟨w, e2, h2, ll.trans l', b, a, okS.mono o' l'⟩
            | ct e2 h2 => simp only [q] at o'; exact fun w s' H' l' a b => ⟨w, e2, h2, ll.trans l', b, a, okS.mono o' l'⟩
            | bk e2 h2 => simp only [q] at o'; exact o'
            | rt v h2 => simp only [q] at o'; exact o'
            | exc x e2 h2 => simp only [q] at o'; exact o'
            | err => simp only [q] at o'; exact o'.elim
          | exc x h1' => simp only [e3] at o; exact o.elim
          | err => simp only [e3] at o; exact o.elim
end
end Li

namespace Li
open PySem PySem.Spec PyProof.Rows L2

abbrev LF := List Val → LHeap → Option (Val × LHeap)
/-- a def's end: the value leaves the frame os, over h -/
def retV (os : List LObj) (h : LHeap) (v : Val) : Option (Val × LHeap) := match below h.length v with
  | true => some (v, h)
  | false => match frz 64 os h.length v with
    | some v' => some (v', h)
    | none => none
def fin (r : SRes) : Option (Val × LHeap) := match r with
  | .rt v (os :: h) => retV os h v
  | .nx _ (os :: h) => retV os h .non
  | _ => none
def env0 (N n : Nat) (as : List Val) : Env := as.map some ++ List.replicate (N - n) none
/-- a def of n parameters, N names, with its body -/
def lfn (n N : Nat) (b : LS) : LF := fun as h => match as.length == n with
  | true => fin (b (env0 N n as) ([] :: h))
  | false => none
/-- a def's promise: what the lite def computes -/
def spL (g : Pg) (n : Nat) (f : LF) : Sp := fun vs H Q _ => vs.length = n ∧ ∃ ω h as, RVs g ω as vs ∧ HRel g ω h H ∧ okO g ω (f as h) Q
abbrev E0x : EX := fun _ _ _ _ _ => False
theorem start_rel {g : Pg} {ω : Wd} {as : List Val} {vs : List V} (r : RVs g ω as vs) (N : List Str) : SRel g ω (env0 N.length as.length as) (L2.start N vs) := by
  have hl := r.length
  refine ⟨?_, fun i v e => ?_⟩
  · unfold env0 L2.start
    simp [hl]
  · unfold env0 at e
    by_cases hi : i < as.length
    · rw [List.getElem?_append_left (by simpa using hi), List.getElem?_map] at e
      cases q : as[i]? with
      | none => rw [q] at e; cases e
      | some x =>
        rw [q] at e
        cases e
        obtain ⟨u, h1, h2⟩ := r.get q
        refine ⟨u, ?_, h2⟩
        unfold L2.start
        rw [List.getElem?_append_left (by simp; omega), List.getElem?_map, h1]
        rfl
    · rw [List.getElem?_append_right (by simpa using hi), List.getElem?_replicate] at e
      split at e <;> cases e
theorem WIn.trans {a b c : Wd} (x : WIn a b) (y : WIn b c) : WIn a c := ⟨fun p o h => y.z p o (x.z p o h), fun d n p h => y.look d n p (x.look d n p h)⟩
theorem retV_ok {g : Pg} {ω : Wd} {Z' : Hp} {as : List Addr} {r : List (List Addr)} {os : List LObj} {h : LHeap} {H' : Hp} {v : Val} {u : V} {Q : VK} {y : List (Addr × HO)} (l : WLe ⟨ω.Z, [] :: ω.r, ω.x⟩ ⟨Z', as :: r, y⟩) (x : HRel g ⟨Z', as :: r, y⟩ (os :: h) H')
    (rv : RV g ⟨Z', as :: r, y⟩ v u) (o : okO g ω (retV os h v) Q) : Q u H' := by
  have hl : h.length = r.length := by have := x.len; simpa using this
  have x' := x.pop
  have l' := WLe.pop l x
  unfold retV at o
  cases e : below h.length v with
  | true =>
    rw [e] at o
    exact o _ u H' l' x' (RV.popped x rv (hl ▸ e))
  | false =>
    rw [e] at o
    cases e2 : frz 64 os h.length v with
    | none => simp only [e2] at o; exact o.elim
    | some v' =>
      simp only [e2] at o
      exact o _ u H' l' x' (RV.frozen x 64 (hl ▸ e2) rv)
theorem fin_ok {g : Pg} {ω : Wd} {r : SRes} {Q : VK} (o : okO g ω (fin r) Q) : okS g ⟨ω.Z, [] :: ω.r, ω.x⟩ E0x { nx := fun _ H' => Q .non H', rt := Q } r := by
  have split : ∀ {os : List LObj} {h : LHeap} {ω' : Wd} {H' : Hp}, HRel g ω' (os :: h) H' → ∃ Z' as r y, ω' = ⟨Z', as :: r, y⟩ := fun {os h ω' H'} x => by
    obtain ⟨Z', rr, y⟩ := ω'
    have := x.hr
    cases rr with
    | nil => have := HR.len this; simp at this
    | cons as r => exact ⟨Z', as, r, y, rfl⟩
  cases r with
  | rt v h =>
    cases h with
    | nil => exact o.elim
    | cons os h =>
      intro ω' u H' l x rv
      obtain ⟨Z', as, r, y, rfl⟩ := split x
      exact retV_ok l x rv o
  | nx e h =>
    cases h with
    | nil => exact o.elim
    | cons os h =>
      intro ω' σ' H' l x _
      obtain ⟨Z', as, r, y, rfl⟩ := split x
      exact retV_ok l x .non o
  | bk e h => exact o.elim
  | ct e h => exact o.elim
  | exc x e h => exact o.elim
  | err => exact o.elim
section
variable {P : Program} {w : World} {K : PySem.W.Frag} {mg : Str → Option Value} {base : Heap}
/-- THE RULE for a def: its body's lite form -/
theorem fn_lite {g : Pg} {x qual : Str} {params : Arguments} {body : List Stmt} {scope : Scope} {dvs : List V} {kws : List (Str × V)} {f : Addr} {fd : FuncData} {N ps : List Str} {k : Nat} {b : LS} (F : FunD K x qual params body scope dvs kws f fd) (S : FnScope N ps scope)
    (hbody : ∀ (cdv : Value) (A : Around) (outer : List PySem.Env) (s : Shared) (H : Hp) (E : XK), Room k (A.deeper (envOfC qual scope s.heap.objs.size f cdv)) → PSs (cxOf CX0 P w K mg base N qual scope f cdv A outer s H E).nox body (tS g E0x b)) :
    FnOk P w K mg base CX0 (k + 1) f fd ps (spL g ps.length (lfn ps.length N.length b)) := by
  refine F.ok S (fun vs H Q E h => h.1) fun cdv A outer s H vs Q E hr h => ⟨tS g E0x b, (hbody cdv A outer s H E hr).nox, ?_⟩
  obtain ⟨hl, ω, h, as, rv, hr', o⟩ := h
  have hla : as.length = ps.length := rv.length.symm.trans hl
  unfold lfn at o
  rw [show (as.length == ps.length) = true from beq_iff_eq.mpr hla] at o
  refine ⟨⟨ω.Z, [] :: ω.r, ω.x⟩, env0 N.length ps.length as, [] :: h, ?_, hr'.push, fin_ok o⟩
  have := start_rel (rv.mono (pushIn (Z := ω.Z) (r := ω.r) (y := ω.x) (z := ω.x) [])) N
  rw [hla] at this
  exact this
end

def lcall (f : LF) (a : LA) : LE := fun env h => (a env h).bind fun vs h1 => ofO (f vs h1)
/-- with defaults behind -/
def lcallD (f : LF) (ds : List Val) (a : LA) : LE := fun env h => (a env h).bind fun vs h1 => ofO (f (vs ++ ds) h1)
section
variable {X : Cx} {g : Pg} {E : EX} {k : Nat} {f : Addr} {fd : FuncData} {ps : List Str} {lf : LF} {x : Str} {p pos apos : Pos} {e o : Expr} {es : List Expr} {la : LA} {lo : LE}
theorem RVs_len {ω : Wd} {as : List Val} {vs : List V} (r : RVs g ω as vs) : vs.length = as.length := r.length
/-- what a call's reading asks, of the arguments' values -/
theorem sp_of {σ : L2.St} {ω : Wd} {h : LHeap} {as : List Val} {vs : List V} {H : Hp} {Q : VK} {XE : XK} {n : Nat} (hn : as.length = n) (r : RVs g ω as vs) (x : HRel g ω h H) (o : okR g (RV g) ω σ E (ofO (lf as h)) Q) : spL g n lf vs H Q XE :=
  ⟨r.length.trans hn, ω, h, as, r, x, .of o⟩
/-- a def that takes n arguments -/
def Takes (n : Nat) (f : LF) : Prop := ∀ as h, as.length ≠ n → f as h = none
theorem lfn_takes {n N : Nat} {b : LS} : Takes n (lfn n N b) := fun as h ne => by
  unfold lfn
  rw [show (as.length == n) = false from beq_eq_false_iff_ne.mpr ne]
theorem sp_of' {σ : L2.St} {ω : Wd} {h : LHeap} {as : List Val} {vs : List V} {H : Hp} {Q : VK} {XE : XK} {n : Nat} (hn : Takes n lf) (r : RVs g ω as vs) (x : HRel g ω h H) (o : okR g (RV g) ω σ E (ofO (lf as h)) Q) : spL g n lf vs H Q XE := by
  refine sp_of ?_ r x o
  by_cases q : as.length = n
  · exact q
  · rw [hn as h q] at o; exact o.elim
theorem e_call {n : Nat} (F : FnOk X.prog X.w X.K X.mg X.base CX0 k f fd ps (spL g n lf)) (hn : Takes n lf) (hr : Room k X.A) (hg : Gl X x) (hm : X.mg x = some (.ref f)) (hk : PySem.W.keepIn X.K (.ref f) = true) (hb : Binds X.K fd ps [])
    (ha : PA X (e :: es) (tA g E la)) (hdb : (x == ("__debug__" : Str)) = false := by decide) (he : starEach (e :: es) X.env = (false, eval e X.env) :: starEach es X.env := by rfl) (hpl : (backTo pos (starEach es X.env)).any (·.1) = false := by rfl) :
    PE X (.Call (.Name x p) (e :: es) [] pos) (tE g E (lcall lf la)) :=
  (pe_call F hr hg hm hk hb .nil pass0 ha hdb he hpl).weak fun σ H Q ⟨ω, env, h, s, r, o⟩ => tL.step (f := fun _ vs h1 => ofO (lf vs h1)) s r o fun ω1 a vs h1 H1 s1 r1 ra l1 o1 => by
    rw [List.append_nil]
    exact sp_of' hn ra r1 o1
theorem e_call0 {n : Nat} (F : FnOk X.prog X.w X.K X.mg X.base CX0 k f fd ps (spL g n lf)) (hn : Takes n lf) (hr : Room k X.A) (hg : Gl X x) (hm : X.mg x = some (.ref f)) (hk : PySem.W.keepIn X.K (.ref f) = true) (hb : Binds X.K fd ps [])
    (hdb : (x == ("__debug__" : Str)) = false := by decide) : PE X (.Call (.Name x p) [] [] pos) (tE g E (lcall lf anil)) :=
  (pe_call0 F hr hg hm hk hb .nil pass0 hdb).weak fun σ H Q ⟨ω, env, h, s, r, o⟩ => sp_of' (XE := E0) (as := []) hn .nil r o
theorem e_callD {n : Nat} {dvs : List V} {ds : List Value} {dl : List Val} (F : FnOk X.prog X.w X.K X.mg X.base CX0 k f fd ps (spL g n lf)) (hn : Takes n lf) (hr : Room k X.A) (hg : Gl X x) (hm : X.mg x = some (.ref f)) (hk : PySem.W.keepIn X.K (.ref f) = true) (hb : Binds X.K fd ps ds) (hd : Vals dvs ds)
    (hdl : ∀ ω, RVs g ω dl dvs) (ha : PA X (e :: es) (tA g E la)) (hdb : (x == ("__debug__" : Str)) = false := by decide) (he : starEach (e :: es) X.env = (false, eval e X.env) :: starEach es X.env := by rfl) (hpl : (backTo pos (starEach es X.env)).any (·.1) = false := by rfl) :
    PE X (.Call (.Name x p) (e :: es) [] pos) (tE g E (lcallD lf dl la)) :=
  (pe_call F hr hg hm hk hb hd pass0 ha hdb he hpl).weak fun σ H Q ⟨ω, env, h, s, r, o⟩ => tL.step (f := fun _ vs h1 => ofO (lf (vs ++ dl) h1)) s r o fun ω1 a vs h1 H1 s1 r1 ra l1 o1 =>
    sp_of' hn (ra.append (hdl ω1)) r1 o1

/-- what stands at an instance's value -/
theorem ins_at {ω : Wd} {h : LHeap} {H : Hp} {c : Nat} {fs : List Val} {u : V} (r : HRel g ω h H) (rv : RV g ω (.ins c fs) u) : ∃ a dx gs, u = .ref a ∧ H a = some (.ins (g.ca c) dx gs) ∧ RFs g ω (g.cf c) fs gs ∧ ∀ p ∈ gs, p.1 ∈ g.cf c := by
  cases rv with
  | ins a b c => exact ⟨_, _, _, rfl, r.z _ _ a, b, c⟩
theorem obj_at {ω : Wd} {h : LHeap} {H : Hp} {d n : Nat} {o : LObj} {u : V} (r : HRel g ω h H) (rv : RV g ω (.obj d n) u) (e : look h d n = some o) : ∃ a, u = .ref a ∧ look ω.r d n = some a ∧ RO g ω o a (H a) := by
  cases rv with
  | obj q =>
    obtain ⟨a, h1, h2⟩ := r.look e
    rw [q] at h1; cases h1
    exact ⟨_, rfl, q, h2⟩
theorem lookup_none {n : Str} {ns : List Str} : ∀ {gs : List (Str × V)}, (∀ p ∈ gs, p.1 ∈ ns) → n ∉ ns → gs.lookup n = none
  | [], _, _ => rfl
  | (m, v) :: r, h, hn => by
    rw [List.lookup_cons]
    have : (n == m) = false := beq_eq_false_iff_ne.mpr fun e => hn (e ▸ h (m, v) List.mem_cons_self)
    rw [this]
    exact lookup_none (fun p hp => h p (List.mem_cons_of_mem _ hp)) hn
theorem RFs.get {ω : Wd} : ∀ {ns : List Str} {vs : List Val} {gs : List (Str × V)} {i : Nat} {f : Str} {v : Val}, RFs g ω ns vs gs → ns[i]? = some f → vs[i]? = some v → ∃ u, gs.lookup f = some u ∧ RV g ω v u
  | [], [], _, _, _, _, .nil, e, _ => by simp at e
  | _ :: _, _ :: _, _, 0, _, _, .cons a b _, e1, e2 => by simp at e1 e2; subst e1; subst e2; exact ⟨_, a, b⟩
  | _ :: _, _ :: _, _, i + 1, _, _, .cons _ _ t, e1, e2 => RFs.get (i := i) t (by simpa using e1) (by simpa using e2)
theorem RIs.get {ω : Wd} : ∀ {ns : List Str} {vs : List (Option Val)} {gs : List (Str × V)} {i : Nat} {f : Str} {v : Val}, RIs g ω ns vs gs → ns[i]? = some f → vs[i]? = some (some v) → ∃ u, gs.lookup f = some u ∧ RV g ω v u
  | [], [], _, _, _, _, .nil, e, _ => by simp at e
  | _ :: _, some _ :: _, _, 0, _, _, .set a b _, e1, e2 => by simp at e1 e2; subst e1; subst e2; exact ⟨_, a, b⟩
  | _ :: _, some _ :: _, _, i + 1, _, _, .set _ _ t, e1, e2 => RIs.get (i := i) t (by simpa using e1) (by simpa using e2)
  | _ :: _, none :: _, _, 0, _, _, .no _, e1, e2 => by simp at e2
  | _ :: _, none :: _, _, i + 1, _, _, .no t, e1, e2 => RIs.get (i := i) t (by simpa using e1) (by simpa using e2)
/-- the classes that have the attribute f, each with its place -/
def FOk (g : Pg) (f : Str) (fx : List (Nat × Nat)) : Prop := ∀ c i, fx.lookup c = some i → Cls g.K (g.ca c) ∧ NoAttr g.K (g.ca c) f ∧ (g.cf c)[i]? = some f
def getF (fx : List (Nat × Nat)) (v : Val) (h : LHeap) : Res Val := match v with
  | .ins c fs => (match fx.lookup c with
    | some i => (match fs[i]? with
      | some v => .ok v h
      | none => .err)
    | none => .err)
  | .obj d n => (match look h d n with
    | some (.ins c fs) => (match fx.lookup c with
      | some i => (match fs[i]? with
        | some (some v) => .ok v h
        | _ => .err)
      | none => .err)
    | _ => .err)
  | _ => .err
def lfld (fx : List (Nat × Nat)) (e : LE) : LE := fun env h => (e env h).bind fun v h1 => getF fx v h1
theorem e_fld {fx : List (Nat × Nat)} {m : Str} {le : LE} (hK : X.K = g.K) (F : FOk g m fx) (he : PE X e (tE g E le)) (hb : attributeBase e m X.env (eval e X.env) = eval e X.env := by rfl) : PE X (.Attribute e m pos) (tE g E (lfld fx le)) :=
  (pe_fld he hb).weak fun σ H Q ⟨ω, env, h, s, r, o⟩ => tL.step (f := fun _ v h1 => getF fx v h1) s r o fun ω1 v u h1 H1 s1 r1 ra l1 o1 => by
    unfold getF at o1
    cases v with
    | ins c fs =>
      obtain ⟨a, dx, gs, rfl, ha, hf, _⟩ := ins_at r1 ra
      cases e1 : fx.lookup c with
      | none => simp only [e1] at o1; exact o1.elim
      | some i =>
        simp only [e1] at o1
        cases e2 : fs[i]? with
        | none => simp only [e2] at o1; exact o1.elim
        | some v =>
          simp only [e2] at o1
          obtain ⟨c1, c2, c3⟩ := F c i e1
          obtain ⟨u, hu, rv⟩ := hf.get c3 e2
          exact ⟨a, _, dx, gs, u, rfl, ha, hK ▸ c1, hK ▸ c2, hu, o1 ω1 u H1 .rfl' r1 rv⟩
    | obj d n =>
      cases e0 : look h1 d n with
      | none => simp only [e0] at o1; exact o1.elim
      | some ob =>
        obtain ⟨a, rfl, _, ro⟩ := obj_at r1 ra e0
        cases ob with
        | lst xs => simp only [e0] at o1; exact o1.elim
        | dct t ks vs => simp only [e0] at o1; exact o1.elim
        | ins c fs =>
          simp only [e0] at o1
          cases e1 : fx.lookup c with
          | none => simp only [e1] at o1; exact o1.elim
          | some i =>
            simp only [e1] at o1
            cases e2 : fs[i]? with
            | none => simp only [e2] at o1; exact o1.elim
            | some v =>
              simp only [e2] at o1
              cases v with
              | none => exact o1.elim
              | some v =>
                obtain ⟨c1, c2, c3⟩ := F c i e1
                obtain ⟨dx, gs, hH, rf, _, _⟩ := ro.ins'
                obtain ⟨u, hu, rv⟩ := rf.get c3 e2
                exact ⟨a, _, _, _, u, rfl, hH, hK ▸ c1, hK ▸ c2, hu, o1 ω1 u H1 .rfl' r1 rv⟩
    | _ => exact o1.elim
end
end Li

namespace Li
open PySem PySem.Spec PyProof.Rows L2
section
variable {X : Cx} {g : Pg} {E : EX} {k : Nat} {f : Addr} {fd : FuncData} {ps : List Str} {lf : LF} {x : Str} {p pos apos : Pos} {e o : Expr} {es : List Expr} {la : LA} {lo : LE}
/-- v is an instance of the class c: where it stands -/
def isC (c : Nat) (v : Val) (h : LHeap) : Bool := match v with
  | .ins d _ => d == c
  | .obj d n => (match look h d n with
    | some (.ins b _) => b == c
    | _ => false)
  | _ => false
theorem isC_at {ω : Wd} {h : LHeap} {H : Hp} {c : Nat} {v : Val} {u : V} (r : HRel g ω h H) (rv : RV g ω v u) (e : isC c v h = true) : ∃ a dx gs, u = .ref a ∧ H a = some (.ins (g.ca c) dx gs) ∧ ∀ p ∈ gs, p.1 ∈ g.cf c := by
  unfold isC at e
  cases v with
  | ins d fs =>
    have : d = c := beq_iff_eq.mp e
    subst this
    obtain ⟨a, dx, gs, h1, h2, h3, h4⟩ := ins_at r rv
    exact ⟨a, dx, gs, h1, h2, h4⟩
  | obj d n =>
    cases e0 : look h d n with
    | none => simp only [e0] at e; cases e
    | some ob =>
      obtain ⟨a, rfl, _, ro⟩ := obj_at r rv e0
      cases ob with
      | lst xs => simp only [e0] at e; cases e
      | dct t ks vs => simp only [e0] at e; cases e
      | ins b fs =>
        simp only [e0] at e
        have : b = c := beq_iff_eq.mp e
        subst this
        obtain ⟨dx, gs, hH, _, nm, _⟩ := ro.ins'
        exact ⟨a, _, _, rfl, hH, nm⟩
  | _ => cases e
/-- o.m(..): o of the class c -/
def lmeth (c : Nat) (f : LF) (o : LE) (a : LA) : LE := fun env h => (o env h).bind fun v h1 => match isC c v h1 with
  | true => (a env h1).bind fun vs h2 => ofO (f (v :: vs) h2)
  | false => .err
theorem e_meth {c n : Nat} {m : Str} {pl : Sem Bool} (hK : X.K = g.K) (he : PE X o (tE g E lo)) (hc : Cls X.K (g.ca c)) (hm : Meth X.K (g.ca c) m f) (hna : m ∉ g.cf c) (F : FnOk X.prog X.w X.K X.mg X.base CX0 k f fd ps (spL g n lf)) (hn : Takes n lf) (hr : Room k X.A) (hb : Binds X.K fd ps [])
    (ha : PA X (e :: es) (tA g E la)) (hst : starEach (e :: es) X.env = (false, eval e X.env) :: starEach es X.env := by rfl) (hpl : (backTo pos (starEach es X.env)).any (·.1) = false := by rfl)
    (ht : eval (.Call (.Attribute o m apos) (e :: es) [] pos) X.env = (do
      let ov ← eval o X.env
      standAt apos.atName
      let (f, first) ← holding [ov] (getMethod ov m pl)
      callWith pos f first (backTo pos (starEach (e :: es) X.env)) (backToKw pos (keywordEach [] X.env))) := by rfl) :
    PE X (.Call (.Attribute o m apos) (e :: es) [] pos) (tE g E (lmeth c lf lo la)) :=
  (pe_meth he hc hm F hr hb .nil pass0 ha hst hpl ht).weak fun σ H Q ⟨ω, env, h, s, r, o'⟩ => by
    refine tL.step (f := fun env v h1 => match isC c v h1 with
      | true => (la env h1).bind fun vs h2 => ofO (lf (v :: vs) h2)
      | false => .err) s r o' fun ω1 v u h1 H1 s1 r1 ra l1 o1 => ?_
    cases q : isC c v h1 with
    | false => simp only [q] at o1; exact o1.elim
    | true =>
      simp only [q] at o1
      obtain ⟨a, dx, gs, rfl, ha', nm⟩ := isC_at r1 ra q
      refine ⟨a, dx, gs, rfl, ha', lookup_none nm hna, ?_⟩
      refine tL.step (f := fun _ vs h2 => ofO (lf (v :: vs) h2)) s1 r1 o1 fun ω2 vs us h2 H2 s2 r2 rb l2 o2 => ?_
      rw [List.append_nil]
      exact sp_of' hn (.cons (ra.mono l2.to) rb) r2 o2
theorem e_meth0 {c n : Nat} {m : Str} {pl : Sem Bool} (hK : X.K = g.K) (he : PE X o (tE g E lo)) (hc : Cls X.K (g.ca c)) (hm : Meth X.K (g.ca c) m f) (hna : m ∉ g.cf c) (F : FnOk X.prog X.w X.K X.mg X.base CX0 k f fd ps (spL g n lf)) (hn : Takes n lf) (hr : Room k X.A) (hb : Binds X.K fd ps [])
    (ht : eval (.Call (.Attribute o m apos) [] [] pos) X.env = (do
      let ov ← eval o X.env
      standAt apos.atName
      let (f, first) ← holding [ov] (getMethod ov m pl)
      callWith pos f first (backTo pos (starEach [] X.env)) (backToKw pos (keywordEach [] X.env))) := by rfl) :
    PE X (.Call (.Attribute o m apos) [] [] pos) (tE g E (lmeth c lf lo anil)) :=
  (pe_meth0 he hc hm F hr hb .nil pass0 ht).weak fun σ H Q ⟨ω, env, h, s, r, o'⟩ => by
    refine tL.step (f := fun env v h1 => match isC c v h1 with
      | true => (anil env h1).bind fun vs h2 => ofO (lf (v :: vs) h2)
      | false => .err) s r o' fun ω1 v u h1 H1 s1 r1 ra l1 o1 => ?_
    cases q : isC c v h1 with
    | false => simp only [q] at o1; exact o1.elim
    | true =>
      simp only [q] at o1
      obtain ⟨a, dx, gs, rfl, ha', nm⟩ := isC_at r1 ra q
      refine ⟨a, dx, gs, rfl, ha', lookup_none nm hna, ?_⟩
      exact sp_of' (XE := E0) (as := [v]) hn (.cons ra .nil) r1 o1

theorem RIs.put {ω : Wd} {f : Str} {v : Val} {u : V} (rv : RV g ω v u) : ∀ {ns : List Str} {vs : List (Option Val)} {gs : List (Str × V)} {i : Nat}, RIs g ω ns vs gs → ns.Nodup → ns[i]? = some f → RIs g ω ns (vs.set i (some v)) (putF f u gs) := by
  have keep : ∀ {ns : List Str} {vs : List (Option Val)} {gs : List (Str × V)}, RIs g ω ns vs gs → f ∉ ns → RIs g ω ns vs (putF f u gs) := by
    intro ns vs gs r
    induction r with
    | nil => intro _; exact .nil
    | set a b _ ih =>
      intro hn
      refine .set ?_ b (ih fun z => hn (List.mem_cons_of_mem _ z))
      rw [lookup_putF, if_neg fun z => hn (by rw [← z]; exact List.mem_cons_self)]
      exact a
    | no _ ih => intro hn; exact .no (ih fun z => hn (List.mem_cons_of_mem _ z))
  intro ns vs gs i r
  induction r generalizing i with
  | nil => intro _ e; simp at e
  | set a b t ih =>
    intro nd e
    obtain ⟨n1, n2⟩ := List.nodup_cons.mp nd
    cases i with
    | zero =>
      simp at e; subst e
      exact .set (by rw [lookup_putF, if_pos rfl]) rv (keep t n1)
    | succ i =>
      have e' := by simpa using e
      refine .set ?_ b (ih n2 e')
      rw [lookup_putF, if_neg]
      · exact a
      · rintro rfl; exact n1 (List.mem_of_getElem? e')
  | no t ih =>
    intro nd e
    obtain ⟨n1, n2⟩ := List.nodup_cons.mp nd
    cases i with
    | zero =>
      simp at e; subst e
      exact .set (by rw [lookup_putF, if_pos rfl]) rv (keep t n1)
    | succ i => exact .no (ih n2 (by simpa using e))
theorem putF_names {f : Str} {u : V} {ns : List Str} (hf : f ∈ ns) : ∀ {gs : List (Str × V)}, (∀ p ∈ gs, p.1 ∈ ns) → ∀ p ∈ putF f u gs, p.1 ∈ ns
  | [], _, p, hp => by
    have : p = (f, u) := by simpa [putF] using hp
    rw [this]; exact hf
  | (m, v) :: r, h, p, hp => by
    unfold putF at hp
    split at hp
    · rcases List.mem_cons.mp hp with e | hp
      · rw [e]; exact h (m, v) List.mem_cons_self
      · exact h p (List.mem_cons_of_mem _ hp)
    · rcases List.mem_cons.mp hp with e | hp
      · rw [e]; exact h _ List.mem_cons_self
      · exact putF_names hf (fun q hq => h q (List.mem_cons_of_mem _ hq)) p hp
theorem putF_nodup {f : Str} {u : V} : ∀ {gs : List (Str × V)}, (gs.map (·.1)).Nodup → ((putF f u gs).map (·.1)).Nodup
  | [], _ => by simp [putF]
  | (m, v) :: r, h => by
    rw [List.map_cons] at h
    obtain ⟨h1, h2⟩ := List.nodup_cons.mp h
    unfold putF
    split
    · rw [List.map_cons]; exact List.nodup_cons.mpr ⟨h1, h2⟩
    · rename_i hne
      rw [List.map_cons]
      refine List.nodup_cons.mpr ⟨fun hm => ?_, putF_nodup h2⟩
      obtain ⟨q, hq, e⟩ := List.mem_map.mp hm
      have : ∀ {l : List (Str × V)}, q ∈ putF f u l → q.1 = f ∨ q ∈ l := by
        intro l
        induction l with
        | nil => intro hq; left; have : q = (f, u) := by simpa [putF] using hq
                 rw [this]
        | cons b l ih =>
          obtain ⟨b1, b2⟩ := b
          intro hq
          unfold putF at hq
          split at hq
          · rename_i hb
            rcases List.mem_cons.mp hq with z | z
            · left; rw [z]; exact hb
            · right; exact List.mem_cons_of_mem _ z
          · rcases List.mem_cons.mp hq with z | z
            · right; rw [z]; exact List.mem_cons_self
            · rcases ih z with y | y
              · exact .inl y
              · exact .inr (List.mem_cons_of_mem _ y)
      rcases this hq with z | z
      · exact hne (e.symm.trans z)
      · exact h1 (e ▸ List.mem_map_of_mem z)
theorem nodup_sub {α : Type} [DecidableEq α] : ∀ {l m : List α}, l.Nodup → (∀ x ∈ l, x ∈ m) → l.length ≤ m.length
  | [], _, _, _ => Nat.zero_le _
  | a :: l, m, nd, h => by
    obtain ⟨n1, n2⟩ := List.nodup_cons.mp nd
    have ha : a ∈ m := h a List.mem_cons_self
    have := nodup_sub (m := m.erase a) n2 fun x hx => (List.mem_erase_of_ne fun z => n1 (by rw [← z]; exact hx)).mpr (h x (List.mem_cons_of_mem _ hx))
    rw [List.length_erase_of_mem ha] at this
    have := List.length_pos_of_mem ha
    simp; omega
/-- what is stored where: o.f = v, o an object -/
def setF (fx : List (Nat × Nat)) (o v : Val) (h : LHeap) : Option LHeap := match o with
  | .obj d n => (match look h d n with
    | some (.ins c fs) => (match fx.lookup c with
      | some i => (match below (d + 1) v with
        | true => some (setAt h d n (.ins c (fs.set i (some v))))
        | false => none)
      | none => none)
    | _ => none)
  | _ => none
def FOkS (g : Pg) (f : Str) (fx : List (Nat × Nat)) : Prop := FOk g f fx ∧ ∀ c i, fx.lookup c = some i → (g.cf c).Nodup ∧ (g.cf c).length < 1000
theorem RV.lowered {ω : Wd} {v : Val} {u : V} {d : Nat} (hd : d < ω.r.length) (r : RV g ω v u) (b : Li.below (d + 1) v = true) : RV g ⟨ω.Z, low d ω.r, []⟩ v u :=
  RV.restrict (ω := ω) (ω' := ⟨ω.Z, low d ω.r, []⟩) (D := d + 1) (fun _ _ h => h) (fun e n a he q => look_low (by omega) hd q) r b
theorem setF_ok {fx : List (Nat × Nat)} {m : Str} {ω : Wd} {h h' : LHeap} {H : Hp} {v w : Val} {u y : V} (F : FOkS g m fx) (r : HRel g ω h H) (rv : RV g ω v u) (rw' : RV g ω w y) (e : setF fx v w h = some h') :
    ∃ a c dx gs, u = .ref a ∧ H a = some (.ins (g.ca c) dx gs) ∧ Cls g.K (g.ca c) ∧ NoAttr g.K (g.ca c) m ∧ gs.length < 1000 ∧ HRel g ω h' (upd H a (.ins (g.ca c) dx (putF m y gs))) := by
  unfold setF at e
  cases v with
  | obj d n =>
    cases e0 : look h d n with
    | none => simp only [e0] at e; cases e
    | some ob =>
      obtain ⟨a, rfl, hl, ro⟩ := obj_at r rv e0
      cases ob with
      | lst xs => simp only [e0] at e; cases e
      | dct t ks vs => simp only [e0] at e; cases e
      | ins c fs =>
        simp only [e0] at e
        cases e1 : fx.lookup c with
        | none => simp only [e1] at e; cases e
        | some i =>
          simp only [e1] at e
          cases e2 : below (d + 1) w with
          | false => simp only [e2] at e; cases e
          | true =>
            simp only [e2] at e
            cases e
            obtain ⟨c1, c2, c3⟩ := F.1 c i e1
            obtain ⟨nd, hz⟩ := F.2 c i e1
            have hd := look_lt hl
            -- what stands there, under the frames up to d
            have low' : ∃ dx gs, H a = some (.ins (g.ca c) dx gs) ∧ RIs g ⟨ω.Z, low d ω.r, []⟩ (g.cf c) fs gs ∧ (∀ p ∈ gs, p.1 ∈ g.cf c) ∧ (gs.map (·.1)).Nodup := by
              exact (HR.lookLow r.hr e0 hl).ins'
            obtain ⟨dx, gs, hH, ri, nm, ng⟩ := low'
            refine ⟨a, c, dx, gs, rfl, hH, c1, c2, ?_, ?_⟩
            · have := nodup_sub ng (m := g.cf c) fun x hx => by
                obtain ⟨p, hp, rfl⟩ := List.mem_map.mp hx
                exact nm p hp
              rw [List.length_map] at this; omega
            · refine r.write hl (.ins (ri.put (RV.lowered hd rw' e2) nd c3) (putF_names (List.mem_of_getElem? c3) nm) (putF_nodup ng))
  | _ => cases e
/-- o.f = e -/
def lsetF (fx : List (Nat × Nat)) (o e : LE) : LS := fun env h => (e env h).s env fun v h1 => (o env h1).s env fun u h2 => match setF fx u v h2 with
  | some h3 => .nx env h3
  | none => .err
theorem s_fld {fx : List (Nat × Nat)} {m : Str} {value : Expr} {lv : LE} {pos' : Pos} (hK : X.K = g.K) (F : FOkS g m fx) (ho : PE X o (tE g E lo)) (hv : PE X value (tE g E lv)) (hs : swapsWith value (some (.Attribute o m pos')) pos.line X.env = pure false := by rfl) :
    PS X (.Assign [.Attribute o m pos'] value pos) (tS g E (lsetF fx lo lv)) :=
  (ps_fld ho hv hs).weak fun D σ H ⟨ω, env, h, s, r, o'⟩ => by
    refine tL.stepS (f := fun env v h1 => (lo env h1).s env fun u h2 => match setF fx u v h2 with
      | some h3 => .nx env h3
      | none => .err) s r o' fun ω1 v y h1 H1 s1 r1 ra l1 o1 => ?_
    refine tL.stepS (f := fun env u h2 => match setF fx u v h2 with
      | some h3 => .nx env h3
      | none => .err) s1 r1 o1 fun ω2 u x h2 H2 s2 r2 rb l2 o2 => ?_
    cases q : setF fx u v h2 with
    | none => simp only [q] at o2; exact o2.elim
    | some h3 =>
      simp only [q] at o2
      obtain ⟨a, c, dx, gs, rfl, hH, c1, c2, hz, r3⟩ := setF_ok F r2 rb (ra.mono l2.to) q
      exact ⟨a, _, dx, gs, rfl, hH, hK ▸ c1, hK ▸ c2, hz, o2 ω2 σ _ .rfl' r3 s2⟩
def gfld (fx : List (Nat × Nat)) (o : LE) : LG := fun v env h => (o env h).bind fun u h1 => match setF fx u v h1 with
  | some h2 => .ok env h2
  | none => .err
theorem g_fld {fx : List (Nat × Nat)} {m : Str} (hK : X.K = g.K) (F : FOkS g m fx) (ho : PE X o (tE g E0x lo)) : PG X (.Attribute o m pos) (tG g (gfld fx lo)) := by
  refine ⟨fun pins s σ H y yv Q I ry ⟨ω, env, h, v, sr, hr, rv, o'⟩ => ?_⟩
  rw [arm_assign_Attribute]
  have o2 : okG g ω ((lo env h).bind fun u h1 => match setF fx u v h1 with
      | some h2 => .ok env h2
      | none => .err) Q := o'
  refine wpAny_bind (wpAny_holding (thn (ho.run pins s σ H (fun x H1 => ∃ a C dx gs, x = .ref a ∧ H1 a = some (.ins C dx gs) ∧ Cls X.K C ∧ NoAttr X.K C m ∧ gs.length < 1000 ∧ Q σ (upd H1 a (.ins C dx (putF m y gs)))) I ⟨ω, env, h, sr, hr, ?_⟩) fun ov s1 ⟨x, H1, I1, r1, a, C, dx, gs, ex, hH, c1, c2, hz, q⟩ => ?_))
  · cases e1 : lo env h with
    | ok u h1 =>
      rw [e1] at o2
      have o3 : okG g ω (match setF fx u v h1 with
        | some h2 => .ok env h2
        | none => .err) Q := o2
      intro ω1 x H1 l1 r1 ru
      cases q : setF fx u v h1 with
      | none => simp only [q] at o3; exact o3.elim
      | some h2 =>
        simp only [q] at o3
        obtain ⟨a, c, dx, gs, rfl, hH, c1, c2, hz, r3⟩ := setF_ok F r1 ru (rv.mono l1.to) q
        exact ⟨a, _, dx, gs, rfl, hH, hK ▸ c1, hK ▸ c2, hz, o3 ω1 σ _ l1 r3 (sr.mono l1)⟩
    | exc x h1 => rw [e1] at o2; exact o2.elim
    | err => rw [e1] at o2; exact o2.elim
  · subst ex
    obtain rfl : ov = Value.ref a := r1
    refine wpAny_bind (wpAny_standAt (wpAny_bind (wpAny_holding (setattr_ok I1 hH c1 c2 hz ry fun s2 I2 => ?_))))
    exact wpAny_release ⟨σ, _, I2, q⟩
end
end Li

namespace Li
open PySem PySem.Spec PyProof.Rows L2

/-- a frozen one -/
def mkF (c nf : Nat) (lf : LF) (vs : List Val) (h : LHeap) : Option (Val × LHeap) := match lf (.obj h.length 0 :: vs) ([.ins c (List.replicate nf none)] :: h) with
  | some (.non, os :: h2) => retV os h2 (.obj h.length 0)
  | _ => none
/-- one that stays in the frame at hand -/
def mkM (c nf : Nat) (lf : LF) (vs : List Val) (h : LHeap) : Option (Val × LHeap) := match h with
  | os :: hh => (match lf (.obj hh.length os.length :: vs) ((os ++ [.ins c (List.replicate nf none)]) :: hh) with
    | some (.non, h2) => some (.obj hh.length os.length, h2)
    | _ => none)
  | [] => none
theorem RIs.empty {g : Pg} {ω : Wd} : ∀ {ns : List Str} {n : Nat}, ns.length = n → RIs g ω ns (List.replicate n none) []
  | [], _, e => by subst e; exact .nil
  | f :: ns, _, e => by
    subst e
    exact .no (RIs.empty rfl)
theorem low_cons_len {as : List Addr} {r : List (List Addr)} : (as :: r).length = r.length + 1 := rfl
section
variable {X : Cx} {g : Pg} {E : EX} {k : Nat} {f : Addr} {fd : FuncData} {ps : List Str} {lf : LF} {x : Str} {p pos apos : Pos} {e o : Expr} {es : List Expr} {la : LA} {lo : LE} {c nf : Nat}
/-- the promise of an __init__ at a new frozen instance -/
theorem mkF_ok {σ : L2.St} {ω : Wd} {h : LHeap} {as : List Val} {vs : List V} {H : Hp} {Q : VK} {n : Nat} (hn : Takes n lf) (hnf : (g.cf c).length = nf) (r : RVs g ω as vs) (hr : HRel g ω h H) (o : okO g ω (mkF c nf lf as h) Q) {q dx : Addr} (hq : H q = none) (hd : H dx = none) (ne : dx ≠ q) :
    spL g n lf (.ref q :: vs) (upd (upd H dx (.own q)) q (.ins (g.ca c) dx [])) (fun v H2 => v = .non ∧ Q (.ref q) H2) E0 := by
  obtain ⟨Z, rr, gx⟩ := ω
  have h1 : HRel g ⟨Z, [] :: rr, gx⟩ ([] :: h) (upd H dx (.own q)) := hr.push.keep fun a o e => by rw [upd_ne (ne_of_none e hd)]; exact e
  have hq' : upd H dx (.own q) q = none := by rw [upd_ne (Ne.symm ne)]; exact hq
  obtain ⟨h2, l2, rv2⟩ := h1.alloc hq' (o := .ins c (List.replicate nf none)) (u := .ins (g.ca c) dx []) (.ins (RIs.empty hnf) (fun p hp => by cases hp) List.nodup_nil)
  have rvs : RVs g ⟨Z, [q] :: rr, gx⟩ (.obj h.length 0 :: as) (.ref q :: vs) := .cons rv2 ((r.mono (pushIn [])).mono l2.to)
  have o1 : okO g ⟨Z, [q] :: rr, gx⟩ (lf (.obj h.length 0 :: as) ([.ins c (List.replicate nf none)] :: h)) (fun v H2 => v = .non ∧ Q (.ref q) H2) := by
    unfold mkF at o
    cases e : lf (.obj h.length 0 :: as) ([.ins c (List.replicate nf none)] :: h) with
    | none => rw [e] at o; exact o.elim
    | some p =>
      obtain ⟨v, hh⟩ := p
      rw [e] at o
      cases v with
      | non =>
        cases hh with
        | nil => exact o.elim
        | cons os hh =>
          intro ω' b H' l' x' rb
          cases rb
          refine ⟨rfl, ?_⟩
          obtain ⟨Z', r', gy⟩ := ω'
          cases r' with
          | nil => have := l'.len; simp at this
          | cons as' r' => exact retV_ok (ω := ⟨Z, rr, gx⟩) (l2.trans l') x' (rv2.mono l'.to) o
      | _ => cases hh <;> exact o.elim
  refine ⟨?_, _, _, _, rvs, h2, o1⟩
  refine rvs.length.trans ?_
  by_cases hl : (Val.obj h.length 0 :: as).length = n
  · exact hl
  · unfold mkF at o
    rw [hn _ _ hl] at o
    exact o.elim
theorem mkM_ok {σ : L2.St} {ω : Wd} {h : LHeap} {as : List Val} {vs : List V} {H : Hp} {Q : VK} {n : Nat} (hn : Takes n lf) (hnf : (g.cf c).length = nf) (r : RVs g ω as vs) (hr : HRel g ω h H) (o : okO g ω (mkM c nf lf as h) Q) {q dx : Addr} (hq : H q = none) (hd : H dx = none) (ne : dx ≠ q) :
    spL g n lf (.ref q :: vs) (upd (upd H dx (.own q)) q (.ins (g.ca c) dx [])) (fun v H2 => v = .non ∧ Q (.ref q) H2) E0 := by
  obtain ⟨Z, rr, gx⟩ := ω
  cases h with
  | nil => exact o.elim
  | cons os hh =>
    cases rr with
    | nil => have := hr.len; simp at this
    | cons as0 rr =>
      have h1 : HRel g ⟨Z, as0 :: rr, gx⟩ (os :: hh) (upd H dx (.own q)) := hr.keep fun a o e => by rw [upd_ne (ne_of_none e hd)]; exact e
      have hq' : upd H dx (.own q) q = none := by rw [upd_ne (Ne.symm ne)]; exact hq
      obtain ⟨h2, l2, rv2⟩ := h1.alloc hq' (o := .ins c (List.replicate nf none)) (u := .ins (g.ca c) dx []) (.ins (RIs.empty hnf) (fun p hp => by cases hp) List.nodup_nil)
      have rvs : RVs g ⟨Z, (as0 ++ [q]) :: rr, gx⟩ (.obj hh.length os.length :: as) (.ref q :: vs) := .cons rv2 (r.mono l2.to)
      have o1 : okO g ⟨Z, (as0 ++ [q]) :: rr, gx⟩ (lf (.obj hh.length os.length :: as) ((os ++ [.ins c (List.replicate nf none)]) :: hh)) (fun v H2 => v = .non ∧ Q (.ref q) H2) := by
        unfold mkM at o
        simp only at o
        cases e : lf (.obj hh.length os.length :: as) ((os ++ [.ins c (List.replicate nf none)]) :: hh) with
        | none => rw [e] at o; exact o.elim
        | some p =>
          obtain ⟨v, h3⟩ := p
          rw [e] at o
          cases v with
          | non =>
            intro ω' b H' l' x' rb
            cases rb
            exact ⟨rfl, o ω' (.ref q) H' (l2.trans l') x' (rv2.mono l'.to)⟩
          | _ => exact o.elim
      refine ⟨?_, _, _, _, rvs, h2, o1⟩
      refine rvs.length.trans ?_
      by_cases hl : (Val.obj hh.length os.length :: as).length = n
      · exact hl
      · unfold mkM at o
        simp only at o
        rw [hn _ _ hl] at o
        exact o.elim
def lmkF (c nf : Nat) (lf : LF) (a : LA) : LE := fun env h => (a env h).bind fun vs h1 => ofO (mkF c nf lf vs h1)
def lmkM (c nf : Nat) (lf : LF) (a : LA) : LE := fun env h => (a env h).bind fun vs h1 => ofO (mkM c nf lf vs h1)
theorem e_mkF {n : Nat} (hnf : (g.cf c).length = nf) (M : Mk X.K (g.ca c) f) (F : FnOk X.prog X.w X.K X.mg X.base CX0 k f fd ps (spL g n lf)) (hn : Takes n lf) (hr : Room (k + 1) X.A) (hg : Gl X x) (hm : X.mg x = some (.ref (g.ca c))) (hb : Binds X.K fd ps [])
    (ha : PA X (e :: es) (tA g E la)) (hdb : (x == ("__debug__" : Str)) = false := by decide) (he : starEach (e :: es) X.env = (false, eval e X.env) :: starEach es X.env := by rfl) (hpl : (backTo pos (starEach es X.env)).any (·.1) = false := by rfl) :
    PE X (.Call (.Name x p) (e :: es) [] pos) (tE g E (lmkF c nf lf la)) :=
  (pe_make M F hr hg hm hb .nil pass0 ha hdb he hpl).weak fun σ H Q ⟨ω, env, h, s, r, o⟩ => tL.step (f := fun _ vs h1 => ofO (mkF c nf lf vs h1)) s r o fun ω1 a vs h1 H1 s1 r1 ra l1 o1 => fun q dx hq hd ne => by
    rw [List.append_nil]
    exact mkF_ok (σ := σ) hn hnf ra r1 (.of o1) hq hd ne
theorem e_mkM {n : Nat} (hnf : (g.cf c).length = nf) (M : Mk X.K (g.ca c) f) (F : FnOk X.prog X.w X.K X.mg X.base CX0 k f fd ps (spL g n lf)) (hn : Takes n lf) (hr : Room (k + 1) X.A) (hg : Gl X x) (hm : X.mg x = some (.ref (g.ca c))) (hb : Binds X.K fd ps [])
    (ha : PA X (e :: es) (tA g E la)) (hdb : (x == ("__debug__" : Str)) = false := by decide) (he : starEach (e :: es) X.env = (false, eval e X.env) :: starEach es X.env := by rfl) (hpl : (backTo pos (starEach es X.env)).any (·.1) = false := by rfl) :
    PE X (.Call (.Name x p) (e :: es) [] pos) (tE g E (lmkM c nf lf la)) :=
  (pe_make M F hr hg hm hb .nil pass0 ha hdb he hpl).weak fun σ H Q ⟨ω, env, h, s, r, o⟩ => tL.step (f := fun _ vs h1 => ofO (mkM c nf lf vs h1)) s r o fun ω1 a vs h1 H1 s1 r1 ra l1 o1 => fun q dx hq hd ne => by
    rw [List.append_nil]
    exact mkM_ok (σ := σ) hn hnf ra r1 (.of o1) hq hd ne
end

section
variable {X : Cx} {g : Pg} {E : EX} {e : Expr} {es : List Expr} {la : LA} {le : LE} {pos : Pos}
def lim (n : Nat) : Bool := Nat.ble n 16777216
theorem lim_le {n : Nat} (h : lim n = true) : n ≤ sizeLine := by
  rw [sizeLine_eq]
  exact Nat.le_of_ble_eq_true h
/-- a new frozen tuple, list at p -/
theorem new_tup {ω : Wd} {h : LHeap} {H : Hp} {xs : List Val} {vs : List V} {p : Addr} (r : HRel g ω h H) (rv : RVs g ω xs vs) (hp : H p = none) : HRel g ⟨upd ω.Z p (.tup vs), ω.r, ω.x⟩ h (upd H p (.tup vs)) ∧ WLe ω ⟨upd ω.Z p (.tup vs), ω.r, ω.x⟩ ∧ RV g ⟨upd ω.Z p (.tup vs), ω.r, ω.x⟩ (.tup xs) (.ref p) := by
  obtain ⟨h1, l⟩ := HRel.frozen (u := .tup vs) (Z := ω.Z) (r := ω.r) r hp
  exact ⟨h1, l, .tup (SqT.of upd_same) (rv.mono l.to)⟩
theorem new_lst {ω : Wd} {h : LHeap} {H : Hp} {xs : List Val} {vs : List V} {p : Addr} (r : HRel g ω h H) (rv : RVs g ω xs vs) (hp : H p = none) : HRel g ⟨upd ω.Z p (.lst vs), ω.r, ω.x⟩ h (upd H p (.lst vs)) ∧ WLe ω ⟨upd ω.Z p (.lst vs), ω.r, ω.x⟩ ∧ RV g ⟨upd ω.Z p (.lst vs), ω.r, ω.x⟩ (.lst xs) (.ref p) := by
  obtain ⟨h1, l⟩ := HRel.frozen (u := .lst vs) (Z := ω.Z) (r := ω.r) r hp
  exact ⟨h1, l, .lst upd_same (rv.mono l.to)⟩
/-- a new list of the frame at hand -/
def pushL (xs : List Val) (h : LHeap) : Option (Val × LHeap) := match h with
  | os :: hh => some (.obj hh.length os.length, (os ++ [.lst xs]) :: hh)
  | [] => none
theorem pushL_ok {ω : Wd} {h : LHeap} {H : Hp} {xs : List Val} {vs : List V} {p : Addr} {Q : VK} (r : HRel g ω h H) (rv : RVs g ω xs vs) (hp : H p = none) (o : okO g ω (pushL xs h) Q) : Q (.ref p) (upd H p (.lst vs)) := by
  obtain ⟨Z, rr, gx⟩ := ω
  cases h with
  | nil => exact o.elim
  | cons os hh =>
    cases rr with
    | nil => have := r.len; simp at this
    | cons as rr =>
      obtain ⟨h1, l, rv1⟩ := r.alloc hp (o := .lst xs) (u := .lst vs) (.lst rv)
      exact o _ _ _ l h1 rv1
def ltup (a : LA) : LE := fun env h => (a env h).bind fun xs h1 => match lim xs.length with
  | true => .ok (.tup xs) h1
  | false => .err
def llst (a : LA) : LE := fun env h => (a env h).bind fun xs h1 => match lim xs.length with
  | true => .ok (.lst xs) h1
  | false => .err
def llstH (a : LA) : LE := fun env h => (a env h).bind fun xs h1 => match lim xs.length with
  | true => ofO (pushL xs h1)
  | false => .err
theorem e_tup {x1} (ha : PA X es (tA g E la)) : PE X (.Tuple es x1 pos) (tE g E (ltup la)) :=
  (pe_tup ha).weak fun σ H Q ⟨ω, env, h, s, r, o⟩ => tL.step (f := fun _ xs h1 => match lim xs.length with
    | true => .ok (Val.tup xs) h1
    | false => .err) s r o fun ω1 xs vs h1 H1 s1 r1 ra l1 o1 => by
    cases q : lim xs.length with
    | false => simp only [q] at o1; exact o1.elim
    | true =>
      simp only [q] at o1
      refine ⟨by rw [ra.length]; exact lim_le q, fun p hp => ?_⟩
      obtain ⟨h2, l2, rv⟩ := new_tup r1 ra hp
      exact o1 _ _ _ l2 h2 rv
theorem e_lst (ha : PA X es (tA g E la)) : PE X (.List es pos) (tE g E (llst la)) :=
  (pe_lst ha).weak fun σ H Q ⟨ω, env, h, s, r, o⟩ => tL.step (f := fun _ xs h1 => match lim xs.length with
    | true => .ok (Val.lst xs) h1
    | false => .err) s r o fun ω1 xs vs h1 H1 s1 r1 ra l1 o1 => by
    cases q : lim xs.length with
    | false => simp only [q] at o1; exact o1.elim
    | true =>
      simp only [q] at o1
      refine ⟨by rw [ra.length]; exact lim_le q, fun p hp => ?_⟩
      obtain ⟨h2, l2, rv⟩ := new_lst r1 ra hp
      exact o1 _ _ _ l2 h2 rv
theorem e_lstH (ha : PA X es (tA g E la)) : PE X (.List es pos) (tE g E (llstH la)) :=
  (pe_lst ha).weak fun σ H Q ⟨ω, env, h, s, r, o⟩ => tL.step (f := fun _ xs h1 => match lim xs.length with
    | true => ofO (pushL xs h1)
    | false => .err) s r o fun ω1 xs vs h1 H1 s1 r1 ra l1 o1 => by
    cases q : lim xs.length with
    | false => simp only [q] at o1; exact o1.elim
    | true =>
      simp only [q] at o1
      refine ⟨by rw [ra.length]; exact lim_le q, fun p hp => pushL_ok r1 ra hp (.of o1)⟩
/-- *e in a display -/
theorem a_star {p : Pos} (hK : X.K = g.K) (ha : PE X e (tE g E le)) (hr : PA X es (tA g E la)) (hs : starEach (.Starred e p :: es) X.env = (true, eval e X.env) :: starEach es X.env := by rfl) : PA X (.Starred e p :: es) (tA g E (astar le la)) :=
  (StX.pa_star ha hr hs).weak fun σ H Q ⟨ω, env, h, s, r, o⟩ => by
    refine tL.step (f := fun env x h1 => match x with
      | .tup xs => (la env h1).bind fun ys h2 => .ok (xs ++ ys) h2
      | .lst xs => (la env h1).bind fun ys h2 => .ok (xs ++ ys) h2
      | .obj d n => (match look h1 d n with
        | some (.lst xs) => (la env h1).bind fun ys h2 => .ok (xs ++ ys) h2
        | _ => .err)
      | _ => .err) s r o fun ω1 v u h1 H1 s1 r1 ra l1 o1 => ?_
    have go : ∀ {xs : List Val} {us : List V}, RVs g ω1 xs us → okR g (RVs g) ω1 σ E ((la env h1).bind fun ys h2 => .ok (xs ++ ys) h2) Q → tA g E la σ H1 fun ys H2 => Q (us ++ ys) H2 := fun {xs us} rx o2 =>
      tL.step (f := fun _ ys h2 => .ok (xs ++ ys) h2) s1 r1 o2 fun ω2 ys vs h2 H2 s2 r2 rb l2 o3 => o3 ω2 _ H2 .rfl' r2 ((rx.mono l2.to).append rb)
    cases v with
    | tup xs =>
      cases ra with
      | tup a b => exact ⟨_, _, rfl, .inl (hK ▸ SqT.mono r1.z a), go b o1⟩
    | lst xs =>
      cases ra with
      | lst a b => exact ⟨_, _, rfl, .inr (SqL.of (r1.z _ _ a)), go b o1⟩
    | obj d n =>
      cases e0 : look h1 d n with
      | none => simp only [e0] at o1; exact o1.elim
      | some ob =>
        obtain ⟨a, rfl, _, ro⟩ := obj_at r1 ra e0
        cases ob with
        | ins c fs => simp only [e0] at o1; exact o1.elim
        | dct t ks vs => simp only [e0] at o1; exact o1.elim
        | lst xs =>
          simp only [e0] at o1
          obtain ⟨ys, hH, rv⟩ := ro.lst'
          exact ⟨a, _, rfl, .inr (SqL.of hH), go rv o1⟩
    | _ => exact o1.elim
end
end Li

namespace Li
open PySem PySem.Spec PyProof.Rows L2

mutual
def dat : Val → PyData
  | .non => .none
  | .bl b => .bool b
  | .int i => .int i
  | .str s => .str ⟨s.toArray⟩
  | .tup xs => .tuple (dats xs)
  | .lst xs => .list (dats xs)
  | .ins _ _ => .none
  | .dct _ _ _ => .none
  | .obj _ _ => .none
  | .cls _ => .none
  | .ty _ => .none
  | .fn _ => .none
def dats : List Val → List PyData
  | [] => []
  | x :: xs => dat x :: dats xs
end
/-- data, at most so deep -/
def pureB : Nat → Val → Bool
  | n, .tup xs => match n with
    | 0 => false
    | n + 1 => allB (pureB n) xs
  | n, .lst xs => match n with
    | 0 => false
    | n + 1 => allB (pureB n) xs
  | _, .non => true
  | _, .bl _ => true
  | _, .int _ => true
  | _, .str _ => true
  | _, _ => false
def natsEq : List Nat → List Nat → Bool
  | [], [] => true
  | a :: as, b :: bs => match Nat.beq a b with
    | true => natsEq as bs
    | false => false
  | _, _ => false
theorem natsEq_eq : ∀ {a b : List Nat}, natsEq a b = decide (a = b)
  | [], [] => by simp [natsEq]
  | [], _ :: _ => by simp [natsEq]
  | _ :: _, [] => by simp [natsEq]
  | a :: as, b :: bs => by
    unfold natsEq
    have ih := natsEq_eq (a := as) (b := bs)
    cases h : Nat.beq a b with
    | true =>
      have e := Nat.eq_of_beq_eq_true h
      subst e
      simp [ih]
    | false =>
      have e : a ≠ b := fun z => by subst z; rw [Nat.beq_refl] at h; cases h
      simp [e]
mutual
def veq : Val → Val → Bool
  | .non, .non => true
  | .bl a, .bl b => a == b
  | .bl a, .int j => decide (b2i a = j)
  | .int i, .bl b => decide (i = b2i b)
  | .int i, .int j => decide (i = j)
  | .str a, .str b => natsEq a b
  | .tup xs, .tup ys => veqs xs ys
  | .lst xs, .lst ys => veqs xs ys
  | _, _ => false
def veqs : List Val → List Val → Bool
  | [], [] => true
  | x :: xs, y :: ys => match veq x y with
    | true => veqs xs ys
    | false => false
  | _, _ => false
end
theorem veqs_cons (x y : Val) (xs ys : List Val) : veqs (x :: xs) (y :: ys) = (veq x y && veqs xs ys) := by
  show (match veq x y with | true => veqs xs ys | false => false) = _
  cases veq x y <;> rfl
mutual
theorem veq_dat : ∀ (n m : Nat) (a b : Val), pureB n a = true → pureB m b = true → veq a b = PyData.eqv (dat a) (dat b)
  | n, m, .non, b, ha, hb => by cases b <;> first | rfl | (exact absurd hb (by cases m <;> exact Bool.false_ne_true))
  | n, m, .bl a, b, ha, hb => by
    cases b with
    | int j => show decide (b2i a = j) = ((if a = true then (1 : Int) else 0) == j)
               cases a <;> simp [b2i] <;> rfl
    | _ => first | rfl | (exact absurd hb (by cases m <;> exact Bool.false_ne_true))
  | n, m, .int i, b, ha, hb => by
    cases b with
    | bl b => show decide (i = b2i b) = (i == (if b = true then (1 : Int) else 0))
              cases b <;> simp [b2i] <;> rfl
    | int j => rfl
    | _ => first | rfl | (exact absurd hb (by cases m <;> exact Bool.false_ne_true))
  | n, m, .str a, b, ha, hb => by
    cases b with
    | str b =>
      show natsEq a b = ((⟨a.toArray⟩ : Str) == ⟨b.toArray⟩)
      rw [natsEq_eq, ← SeqAt.str_beq]
      by_cases h : a = b <;> simp [h]
    | _ => first | rfl | (exact absurd hb (by cases m <;> exact Bool.false_ne_true))
  | n, m, .tup xs, b, ha, hb => by
    cases b with
    | tup ys =>
      cases n with
      | zero => exact absurd ha Bool.false_ne_true
      | succ n =>
        cases m with
        | zero => exact absurd hb Bool.false_ne_true
        | succ m => exact veqs_dat n m xs ys ha hb
    | _ => first | rfl | (exact absurd hb (by cases m <;> exact Bool.false_ne_true))
  | n, m, .lst xs, b, ha, hb => by
    cases b with
    | lst ys =>
      cases n with
      | zero => exact absurd ha Bool.false_ne_true
      | succ n =>
        cases m with
        | zero => exact absurd hb Bool.false_ne_true
        | succ m => exact veqs_dat n m xs ys ha hb
    | _ => first | rfl | (exact absurd hb (by cases m <;> exact Bool.false_ne_true))
  | n, m, .ins _ _, b, ha, hb => absurd ha (by cases n <;> exact Bool.false_ne_true)
  | n, m, .obj _ _, b, ha, hb => absurd ha (by cases n <;> exact Bool.false_ne_true)
  | n, m, .dct _ _ _, b, ha, hb => absurd ha (by cases n <;> exact Bool.false_ne_true)
  | n, m, .cls _, b, ha, hb => absurd ha (by cases n <;> exact Bool.false_ne_true)
  | n, m, .ty _, b, ha, hb => absurd ha (by cases n <;> exact Bool.false_ne_true)
  | n, m, .fn _, b, ha, hb => absurd ha (by cases n <;> exact Bool.false_ne_true)
theorem veqs_dat : ∀ (n m : Nat) (a b : List Val), allB (pureB n) a = true → allB (pureB m) b = true → veqs a b = PyData.eqvAll (dats a) (dats b)
  | n, m, [], [], _, _ => rfl
  | n, m, [], _ :: _, _, _ => rfl
  | n, m, _ :: _, [], _, _ => rfl
  | n, m, x :: xs, y :: ys, ha, hb => by
    have h1 : pureB n x = true ∧ allB (pureB n) xs = true := by
      unfold allB at ha
      cases q : pureB n x with
      | true => rw [q] at ha; exact ⟨rfl, ha⟩
      | false => rw [q] at ha; cases ha
    have h2 : pureB m y = true ∧ allB (pureB m) ys = true := by
      unfold allB at hb
      cases q : pureB m y with
      | true => rw [q] at hb; exact ⟨rfl, hb⟩
      | false => rw [q] at hb; cases hb
    rw [veqs_cons, veq_dat n m x y h1.1 h2.1, veqs_dat n m xs ys h1.2 h2.2]
    rfl
end
mutual
theorem pure_depth : ∀ (n : Nat) (v : Val), pureB n v = true → (dat v).depth ≤ n
  | n, .non, _ => Nat.zero_le _
  | n, .bl _, _ => Nat.zero_le _
  | n, .int _, _ => Nat.zero_le _
  | n, .str _, _ => Nat.zero_le _
  | n, .tup xs, h => by
    cases n with
    | zero => exact absurd h Bool.false_ne_true
    | succ n => exact Nat.succ_le_succ (pures_depth n xs h)
  | n, .lst xs, h => by
    cases n with
    | zero => exact absurd h Bool.false_ne_true
    | succ n => exact Nat.succ_le_succ (pures_depth n xs h)
  | n, .ins _ _, h => absurd h (by cases n <;> exact Bool.false_ne_true)
  | n, .dct _ _ _, h => absurd h (by cases n <;> exact Bool.false_ne_true)
  | n, .obj _ _, h => absurd h (by cases n <;> exact Bool.false_ne_true)
  | n, .cls _, h => absurd h (by cases n <;> exact Bool.false_ne_true)
  | n, .ty _, h => absurd h (by cases n <;> exact Bool.false_ne_true)
  | n, .fn _, h => absurd h (by cases n <;> exact Bool.false_ne_true)
theorem pures_depth : ∀ (n : Nat) (v : List Val), allB (pureB n) v = true → PyData.depthAll (dats v) ≤ n
  | n, [], _ => Nat.zero_le _
  | n, x :: xs, h => by
    obtain ⟨h1, h2⟩ := allB_cons.mp h
    exact Nat.max_le.mpr ⟨pure_depth n x h1, pures_depth n xs h2⟩
end
section
variable {g : Pg} {ω : Wd} {H : Hp}
mutual
theorem RV.dp (hz : ∀ a o, ω.Z a = some o → H a = some o) : ∀ {n : Nat} {v : Val} {u : V}, RV g ω v u → pureB n v = true → Dp g.K H u (dat v) ∧ (dat v).canLay0 = true
  | _, _, _, .non, _ => ⟨.non, rfl⟩
  | _, _, _, .bl b, _ => ⟨.bl b, rfl⟩
  | _, _, _, .int i, _ => ⟨.int i, rfl⟩
  | _, _, _, .str x h, _ => ⟨.str x, h⟩
  | 0, _, _, .tup a b, h => absurd h Bool.false_ne_true
  | n + 1, _, _, .tup a b, h => ⟨.tup (SqT.mono hz a) (RVs.dp hz (n := n) b h).1, (RVs.dp hz (n := n) b h).2⟩
  | 0, _, _, .lst a b, h => absurd h Bool.false_ne_true
  | n + 1, _, _, .lst a b, h => ⟨.lst (SqL.of (hz _ _ a)) (RVs.dp hz (n := n) b h).1, (RVs.dp hz (n := n) b h).2⟩
  | n, _, _, .ins a b c, h => absurd h (by cases n <;> exact Bool.false_ne_true)
  | n, _, _, .dk a b c d, h => absurd h (by cases n <;> exact Bool.false_ne_true)
  | n, _, _, .dt a b c d, h => absurd h (by cases n <;> exact Bool.false_ne_true)
  | n, _, _, .obj a, h => absurd h (by cases n <;> exact Bool.false_ne_true)
  | n, _, _, .cls c, h => absurd h (by cases n <;> exact Bool.false_ne_true)
  | n, _, _, .ty c _, h => absurd h (by cases n <;> exact Bool.false_ne_true)
  | n, _, _, .fn f, h => absurd h (by cases n <;> exact Bool.false_ne_true)
  | n, _, _, .scr a, h => absurd h (by cases n <;> exact Bool.false_ne_true)
theorem RVs.dp (hz : ∀ a o, ω.Z a = some o → H a = some o) : ∀ {n : Nat} {v : List Val} {u : List V}, RVs g ω v u → allB (pureB n) v = true → DpAll g.K H u (dats v) ∧ PyData.canLayAll0 (dats v) = true
  | _, _, _, .nil, _ => ⟨.nil, rfl⟩
  | n, _, _, .cons a b, h => by
    obtain ⟨h1, h2⟩ := allB_cons.mp h
    obtain ⟨p1, p2⟩ := RV.dp hz a h1
    obtain ⟨q1, q2⟩ := RVs.dp hz b h2
    exact ⟨.cons p1 q1, Bool.and_eq_true_iff.mpr ⟨p2, q2⟩⟩
end
theorem shaped_of {n : Nat} {v : Val} (h : pureB n v = true) (c : (dat v).canLay0 = true) (hn : n ≤ 64) : SeqAt.shaped (dat v) = true := Bool.and_eq_true_iff.mpr ⟨c, decide_eq_true (Nat.le_trans (pure_depth n v h) hn)⟩

/-- the items of a list, a tuple -/
def seqOf (h : LHeap) (v : Val) : Option (List Val) := match v with
  | .tup xs => some xs
  | .lst xs => some xs
  | .obj d n => (match look h d n with
    | some (.lst xs) => some xs
    | _ => none)
  | _ => none
def lstOf (h : LHeap) (v : Val) : Option (List Val) := match v with
  | .lst xs => some xs
  | .obj d n => (match look h d n with
    | some (.lst xs) => some xs
    | _ => none)
  | _ => none
theorem lst_at {h : LHeap} {v : Val} {u : V} {xs : List Val} (r : HRel g ω h H) (rv : RV g ω v u) (e : lstOf h v = some xs) : ∃ a us, u = .ref a ∧ H a = some (.lst us) ∧ RVs g ω xs us := by
  unfold lstOf at e
  cases v with
  | lst ys =>
    cases e
    cases rv with
    | lst a b => exact ⟨_, _, rfl, r.z _ _ a, b⟩
  | obj d n =>
    cases e0 : look h d n with
    | none => simp only [e0] at e; cases e
    | some ob =>
      obtain ⟨a, rfl, _, ro⟩ := obj_at r rv e0
      cases ob with
      | ins c fs => simp only [e0] at e; cases e
      | dct t ks vs => simp only [e0] at e; cases e
      | lst ys =>
        simp only [e0] at e
        cases e
        obtain ⟨us, hH, rv⟩ := ro.lst'
        exact ⟨a, us, rfl, hH, rv⟩
  | _ => cases e
theorem tup_at {h : LHeap} {u : V} {xs : List Val} (r : HRel g ω h H) (rv : RV g ω (.tup xs) u) : ∃ a us, u = .ref a ∧ SqT g.K H a us ∧ RVs g ω xs us := by
  cases rv with
  | tup a b => exact ⟨_, _, rfl, SqT.mono r.z a, b⟩
theorem seq_at {h : LHeap} {v : Val} {u : V} {xs : List Val} (r : HRel g ω h H) (rv : RV g ω v u) (e : seqOf h v = some xs) : ∃ a us, u = .ref a ∧ (SqL g.K H a us ∨ SqT g.K H a us) ∧ RVs g ω xs us := by
  cases v with
  | tup ys =>
    cases e
    obtain ⟨a, us, h1, h2, h3⟩ := tup_at r rv
    exact ⟨a, us, h1, .inr h2, h3⟩
  | lst ys =>
    obtain ⟨a, us, h1, h2, h3⟩ := lst_at r rv (show lstOf h (.lst ys) = some xs from e)
    exact ⟨a, us, h1, .inl (SqL.of h2), h3⟩
  | obj d n =>
    obtain ⟨a, us, h1, h2, h3⟩ := lst_at r rv (show lstOf h (.obj d n) = some xs from e)
    exact ⟨a, us, h1, .inl (SqL.of h2), h3⟩
  | _ => cases e
end

section
variable {X : Cx} {g : Pg} {E : EX}
/-- a rule by values -/
theorem OpR.to {f : Value → Value → Sem Value} {r : R2} {F : P2} (h : OpR X f r) (w : ∀ (ω : Wd) (hh : LHeap) (H : Hp) (a b : Val) (x y : V) (Q : VK), HRel g ω hh H → RV g ω a x → RV g ω b y → okO g ω (F hh a b) Q → r x y H Q) : OpR X f (rL g F) :=
  fun pins s σ H x y v u Q I rx ry ⟨ω, hh, a, b, hr, ra, rb, o⟩ => h pins s σ H x y v u Q I rx ry (w ω hh H a b x y Q hr ra rb o)
def opEq (neg : Bool) : P2 := fun h a b => match pureB 60 a, pureB 60 b with
  | true, true => some (.bl (xor neg (veq a b)), h)
  | _, _ => none
theorem op_eqL {k : Nat} (hK : X.K = g.K) (hr : Room k X.A) : OpR X (compareOp .Eq) (rL g (opEq false)) :=
  OpR.to (op_eqD hr.units) fun ω hh H a b x y Q r ra rb o => by
    unfold opEq at o
    cases h1 : pureB 60 a with
    | false => simp only [h1] at o; exact o.elim
    | true =>
      cases h2 : pureB 60 b with
      | false => simp only [h1, h2] at o; exact o.elim
      | true =>
        simp only [h1, h2] at o
        obtain ⟨p1, p2⟩ := RV.dp r.z ra h1
        obtain ⟨q1, q2⟩ := RV.dp r.z rb h2
        refine ⟨dat a, dat b, hK ▸ p1, hK ▸ q1, shaped_of h1 p2 (by decide), shaped_of h2 q2 (by decide), ?_⟩
        rw [← veq_dat 60 60 a b h1 h2]
        have := o ω _ H .rfl' r (.bl _)
        simpa using this
theorem op_neL {k : Nat} (hK : X.K = g.K) (hr : Room k X.A) : OpR X (compareOp .NotEq) (rL g (opEq true)) :=
  OpR.to (op_neD hr.units) fun ω hh H a b x y Q r ra rb o => by
    unfold opEq at o
    cases h1 : pureB 60 a with
    | false => simp only [h1] at o; exact o.elim
    | true =>
      cases h2 : pureB 60 b with
      | false => simp only [h1, h2] at o; exact o.elim
      | true =>
        simp only [h1, h2] at o
        obtain ⟨p1, p2⟩ := RV.dp r.z ra h1
        obtain ⟨q1, q2⟩ := RV.dp r.z rb h2
        refine ⟨dat a, dat b, hK ▸ p1, hK ▸ q1, shaped_of h1 p2 (by decide), shaped_of h2 q2 (by decide), ?_⟩
        rw [← veq_dat 60 60 a b h1 h2]
        have := o ω _ H .rfl' r (.bl _)
        simpa using this
end
end Li

namespace Li
open PySem PySem.Spec PyProof.Rows L2
section
variable {X : Cx} {g : Pg} {E : EX} {k : Nat}

def opAdd : P2 := fun h a b => match a, b with
  | .int i, .int j => some (.int (i + j), h)
  | .tup xs, .tup ys => (match lim (xs.length + ys.length) with
    | true => some (.tup (xs ++ ys), h)
    | false => none)
  | .str s, .str t => (match lim (s.length + t.length) with
    | true => some (.str (s ++ t), h)
    | false => none)
  | a, b => (match lstOf h a, lstOf h b with
    | some xs, some ys => (match lim (xs.length + ys.length) with
      | true => some (.lst (xs ++ ys), h)
      | false => none)
    | _, _ => none)
theorem RVs.nil_iff {ω : Wd} {xs : List Val} {us : List V} (r : RVs g ω xs us) : us = [] ↔ xs = [] := by
  cases r <;> simp
theorem strOk_app {a b : Str} (h1 : PyData.strOk a = true) (h2 : PyData.strOk b = true) : PyData.strOk (a ++ b) = true := by
  have e : (a ++ b).cps = a.cps ++ b.cps := rfl
  unfold PyData.strOk at *
  rw [e, Array.all_append, h1, h2]; rfl
theorem str_app (a b : Str) : (a ++ b).cps.toList = a.cps.toList ++ b.cps.toList := by
  have e : (a ++ b).cps = a.cps ++ b.cps := rfl
  rw [e]; simp
theorem str_len (a : Str) : a.length = a.cps.toList.length := by
  show a.cps.size = _
  simp
theorem op_addL (hK : X.K = g.K) : OpR X (binaryOp .Add) (rL g opAdd) :=
  OpR.to (OpR.or op_add (OpR.or (op_catA (X := X)) (OpR.or op_add_str op_cat))) fun ω hh H a b x y Q r ra rb o => by
    unfold opAdd at o
    split at o
    · cases ra; cases rb
      exact .inl ⟨_, _, rfl, rfl, o ω _ H .rfl' r (.int _)⟩
    · rename_i xs ys
      cases q : lim (xs.length + ys.length) with
      | false => simp only [q] at o; exact o.elim
      | true =>
        simp only [q] at o
        obtain ⟨p, us, rfl, hp, rx⟩ := tup_at r ra
        obtain ⟨p', us', rfl, hp', ry⟩ := tup_at r rb
        refine .inr (.inl ⟨p, p', us, us', rfl, rfl, hK ▸ hp, hK ▸ hp', by rw [rx.length, ry.length]; exact lim_le q, fun e => ?_, fun _ e => ?_, fun _ _ t ht => ?_⟩)
        · have : xs = [] := rx.nil_iff.mp e
          subst this
          exact o ω _ H .rfl' r rb
        · have : ys = [] := ry.nil_iff.mp e
          subst this
          rw [List.append_nil] at o
          exact o ω _ H .rfl' r ra
        · obtain ⟨h2, l2, rv⟩ := new_tup r (rx.append ry) ht
          exact o _ _ _ l2 h2 rv
    · rename_i s t
      cases q : lim (s.length + t.length) with
      | false => simp only [q] at o; exact o.elim
      | true =>
        simp only [q] at o
        cases ra with
        | str i hi =>
          cases rb with
          | str j hj =>
            refine .inr (.inr (.inl ⟨i, j, rfl, rfl, ?_, ?_⟩))
            · rw [str_len, str_len]; exact lim_le q
            · refine o ω _ H .rfl' r ?_
              rw [← str_app]
              exact .str _ (strOk_app hi hj)
    · cases q1 : lstOf hh a with
      | none => simp only [q1] at o; exact o.elim
      | some xs =>
        cases q2 : lstOf hh b with
        | none => simp only [q1, q2] at o; exact o.elim
        | some ys =>
          simp only [q1, q2] at o
          cases q : lim (xs.length + ys.length) with
          | false => simp only [q] at o; exact o.elim
          | true =>
            simp only [q] at o
            obtain ⟨p, us, rfl, hp, rx⟩ := lst_at r ra q1
            obtain ⟨p', us', rfl, hp', ry⟩ := lst_at r rb q2
            refine .inr (.inr (.inr ⟨p, p', us, us', rfl, rfl, hp, hp', by rw [rx.length, ry.length]; exact lim_le q, fun t ht => ?_⟩))
            obtain ⟨h2, l2, rv⟩ := new_lst r (rx.append ry) ht
            exact o _ _ _ l2 h2 rv
def opI (f : Int → Int → Option Int) : P2 := fun h a b => match a, b with
  | .int i, .int j => (match f i j with
    | some n => some (.int n, h)
    | none => none)
  | _, _ => none
theorem op_int {f : Int → Int → Option Int} {p : Value → Value → Sem Value} {C : Int → Int → Prop} {q : Int → Int → Int} (h : OpR X p (rI C fun i j => .int (q i j))) (hf : ∀ i j n, f i j = some n → C i j ∧ n = q i j) : OpR X p (rL g (opI f)) :=
  OpR.to h fun ω hh H a b x y Q r ra rb o => by
    unfold opI at o
    split at o
    · rename_i i j
      cases e : f i j with
      | none => simp only [e] at o; exact o.elim
      | some n =>
        simp only [e] at o
        obtain ⟨hc, rfl⟩ := hf i j n e
        cases ra; cases rb
        exact ⟨i, j, rfl, rfl, hc, o ω _ H .rfl' r (.int _)⟩
    · exact o.elim
def opSub : P2 := fun h a b => match a, b with
  | .int i, .int j => some (.int (i - j), h)
  | _, _ => none
theorem op_subL : OpR X (binaryOp .Sub) (rL g opSub) :=
  OpR.to op_sub fun ω hh H a b x y Q r ra rb o => by
    unfold opSub at o
    split at o
    · cases ra; cases rb
      exact ⟨_, _, rfl, rfl, o ω _ H .rfl' r (.int _)⟩
    · exact o.elim
def fMul (i j : Int) : Option Int := if (-(2 ^ 64) < i ∧ i < 2 ^ 64) ∨ (-(2 ^ 64) < j ∧ j < 2 ^ 64) then some (i * j) else none
theorem op_mulL : OpR X (binaryOp .Mult) (rL g (opI fMul)) := op_int op_mul fun i j n e => by
  unfold fMul at e
  split at e
  · rename_i h; cases e; exact ⟨h, rfl⟩
  · cases e
def fMod (i j : Int) : Option Int := if 0 < j then some (i % j) else none
theorem op_modL : OpR X (binaryOp .Mod) (rL g (opI fMod)) := op_int op_mod fun i j n e => by
  unfold fMod at e
  split at e
  · rename_i h; cases e; exact ⟨h, rfl⟩
  · cases e
def fDiv (i j : Int) : Option Int := if 0 < j ∧ j < 1073741824 then some (i / j) else none
theorem op_divL : OpR X (binaryOp .FloorDiv) (rL g (opI fDiv)) := op_int op_fdiv fun i j n e => by
  unfold fDiv at e
  split at e
  · rename_i h; cases e; exact ⟨h, rfl⟩
  · cases e
def fPow (i j : Int) : Option Int := if 0 ≤ j ∧ j ≤ 1000000 ∧ i.natAbs < 2 ^ 64 then some (i ^ j.toNat) else none
theorem op_powL : OpR X (binaryOp .Pow) (rL g (opI fPow)) := op_int op_pow fun i j n e => by
  unfold fPow at e
  split at e
  · rename_i h; cases e; exact ⟨h, rfl⟩
  · cases e
def lneg (a : LE) : LE := fun env h => (a env h).bind fun v h1 => match v with
  | .int i => .ok (.int (-i)) h1
  | _ => .err
theorem e_neg {a : Expr} {la : LE} {pos : Pos} (ha : PE X a (tE g E la)) : PE X (.UnaryOp .USub a pos) (tE g E (lneg la)) :=
  (pe_un un_neg ha).weak fun σ H Q ⟨ω, env, hh, s, r, o⟩ => tL.step (f := fun _ v h1 => match v with
    | .int i => .ok (Val.int (-i)) h1
    | _ => .err) s r o fun ω1 a x h1 H1 s1 r1 ra l1 o1 => by
    cases a with
    | int i => cases ra; exact ⟨i, rfl, o1 ω1 _ H1 .rfl' r1 (.int _)⟩
    | _ => exact o1.elim

def natsLt : List Nat → List Nat → Bool
  | [], [] => false
  | [], _ :: _ => true
  | _ :: _, [] => false
  | a :: as, b :: bs => match Nat.blt a b with
    | true => true
    | false => match Nat.beq a b with
      | true => natsLt as bs
      | false => false
theorem natsLt_eq : ∀ {a b : List Nat}, natsLt a b = decide (a < b)
  | [], [] => by simp [natsLt]
  | [], _ :: _ => by simp [natsLt]
  | _ :: _, [] => by simp [natsLt]
  | a :: as, b :: bs => by
    unfold natsLt
    have ih := natsLt_eq (a := as) (b := bs)
    cases h : Nat.blt a b with
    | true =>
      have : a < b := Nat.le_of_ble_eq_true h
      simp [List.cons_lt_cons_iff, this]
    | false =>
      have h1 : ¬ a < b := fun z => by
        have : Nat.blt a b = true := Nat.ble_eq_true_of_le z
        rw [this] at h; cases h
      cases h2 : Nat.beq a b with
      | true =>
        have e := Nat.eq_of_beq_eq_true h2
        subst e
        simp [List.cons_lt_cons_iff, ih]
      | false =>
        have e : a ≠ b := fun z => by subst z; rw [Nat.beq_refl] at h2; cases h2
        simp [List.cons_lt_cons_iff, h1, e]
def opLt : P2 := fun h a b => match a, b with
  | .int i, .int j => some (.bl (decide (i < j)), h)
  | .str s, .str t => some (.bl (natsLt s t), h)
  | _, _ => none
theorem op_ltL : OpR X (compareOp .Lt) (rL g opLt) :=
  OpR.to (OpR.or op_lt op_lt_str) fun ω hh H a b x y Q r ra rb o => by
    unfold opLt at o
    split at o
    · cases ra; cases rb
      exact .inl ⟨_, _, rfl, rfl, o ω _ H .rfl' r (.bl _)⟩
    · cases ra with
      | str i hi =>
        cases rb with
        | str j hj =>
          refine .inr ⟨i, j, rfl, rfl, ?_⟩
          rw [← natsLt_eq]
          exact o ω _ H .rfl' r (.bl _)
    · exact o.elim
def opCmp (f : Int → Int → Bool) : P2 := fun h a b => match a, b with
  | .int i, .int j => some (.bl (f i j), h)
  | _, _ => none
theorem op_cmpL {f : Int → Int → Bool} {p : Value → Value → Sem Value} (h : OpR X p (rI0 fun i j => .bl (f i j))) : OpR X p (rL g (opCmp f)) :=
  OpR.to h fun ω hh H a b x y Q r ra rb o => by
    unfold opCmp at o
    split at o
    · cases ra; cases rb
      exact ⟨_, _, rfl, rfl, o ω _ H .rfl' r (.bl _)⟩
    · exact o.elim
abbrev opLe : P2 := opCmp fun i j => decide (i ≤ j)
abbrev opGt : P2 := opCmp fun i j => decide (j < i)
abbrev opGe : P2 := opCmp fun i j => decide (j ≤ i)
theorem op_leL : OpR X (compareOp .LtE) (rL g opLe) := op_cmpL op_le
theorem op_gtL : OpR X (compareOp .Gt) (rL g opGt) := op_cmpL op_gt
theorem op_geL : OpR X (compareOp .GtE) (rL g opGe) := op_cmpL op_ge

def isNon : Val → Bool
  | .non => true
  | _ => false
def opIs (neg : Bool) : P2 := fun h a b => match b with
  | .non => some (.bl (xor neg (isNon a)), h)
  | .bl y => (match a with
    | .bl x => some (.bl (xor neg (decide (x = y))), h)
    | _ => none)
  | _ => none
theorem RV.non_iff {ω : Wd} {v : Val} {u : V} (r : RV g ω v u) : decide (u = .non) = isNon v := by
  cases r <;> simp [isNon]
theorem op_isL : OpR X (compareOp .Is) (rL g (opIs false)) :=
  OpR.to (OpR.or op_isN op_is_bl) fun ω hh H a b x y Q r ra rb o => by
    unfold opIs at o
    split at o
    · cases rb
      refine .inl ⟨rfl, ?_⟩
      rw [RV.non_iff ra]
      have := o ω _ H .rfl' r (.bl _)
      simpa using this
    · split at o
      · cases ra; cases rb
        refine .inr ⟨_, _, rfl, rfl, ?_⟩
        have := o ω _ H .rfl' r (.bl _)
        simpa using this
      · exact o.elim
    · exact o.elim
theorem op_isnotL : OpR X (compareOp .IsNot) (rL g (opIs true)) :=
  OpR.to (OpR.or op_notN op_isnot_bl) fun ω hh H a b x y Q r ra rb o => by
    unfold opIs at o
    split at o
    · cases rb
      refine .inl ⟨rfl, ?_⟩
      rw [RV.non_iff ra]
      have := o ω _ H .rfl' r (.bl _)
      simpa using this
    · split at o
      · cases ra; cases rb
        refine .inr ⟨_, _, rfl, rfl, ?_⟩
        have := o ω _ H .rfl' r (.bl _)
        simpa using this
      · exact o.elim
    · exact o.elim

def vany (x : Val) : List Val → Bool
  | [] => false
  | y :: ys => match veq y x with
    | true => true
    | false => vany x ys
theorem vany_dat {n m : Nat} {x : Val} (hx : pureB n x = true) : ∀ {ys : List Val}, allB (pureB m) ys = true → vany x ys = (dats ys).any fun z => PyData.eqv z (dat x)
  | [], _ => rfl
  | y :: ys, h => by
    obtain ⟨h1, h2⟩ := allB_cons.mp h
    show (match veq y x with | true => true | false => vany x ys) = (PyData.eqv (dat y) (dat x) || (dats ys).any fun z => PyData.eqv z (dat x))
    rw [← veq_dat m n y x h1 hx, ← vany_dat hx h2]
    cases veq y x <;> rfl
def memN (c : Nat) : List Nat → Bool
  | [] => false
  | a :: as => match Nat.beq a c with
    | true => true
    | false => memN c as
theorem memN_eq {c : Nat} : ∀ {l : List Nat}, memN c l = decide (c ∈ l)
  | [] => by simp [memN]
  | a :: as => by
    unfold memN
    cases h : Nat.beq a c with
    | true => have e := Nat.eq_of_beq_eq_true h
              simp [e]
    | false =>
      have e : a ≠ c := fun z => by subst z; rw [Nat.beq_refl] at h; cases h
      rw [memN_eq (l := as)]
      simp [Ne.symm e]
/-- the answer of x in y -/
def inB (h : LHeap) (a b : Val) : Option Bool := match b with
  | .str z => (match a with
    | .str [c] => some (memN c z)
    | _ => none)
  | b => (match seqOf h b with
    | some ys => (match pureB 60 a, allB (pureB 59) ys with
      | true, true => some (vany a ys)
      | _, _ => none)
    | none => none)
def opIn (neg : Bool) : P2 := fun h a b => match inB h a b with
  | some k => some (.bl (xor neg k), h)
  | none => none
/-- the reading of in over a list or a tuple of data -/
def rInA (K : PySem.W.Frag) (neg : Bool) : R2 := fun x y H Q => ∃ d ds a us, Dp K H x d ∧ y = .ref a ∧ (SqL K H a us ∨ SqT K H a us) ∧ DpAll K H us ds ∧ SeqAt.shaped d = true ∧ SeqAt.shaped (.list ds) = true ∧ Q (.bl (xor neg (ds.any fun z => PyData.eqv z d))) H
theorem op_inA (hu : X.A.units + 65 < cLine) : OpR X (compareOp .In) (rInA X.K false) := by
  intro pins s σ H x y v u Q I rx ry h
  obtain ⟨d, ds, a, us, hd, rfl, hs, ha, sd, se, q⟩ := h
  obtain ⟨as, r1⟩ := Dp.reads I d x v hd rx
  have hroom : X.A.units + 1 + min (PyData.depthAll ds) d.depth < cLine := room_in_shaped sd hu
  rw [show (xor false (ds.any fun z => PyData.eqv z d)) = (ds.any fun z => PyData.eqv z d) by simp] at q
  rcases hs with hs | hs
  · obtain ⟨bs, r2⟩ := Dp.reads I (.list ds) (.ref a) u (.lst hs ha) ry
    exact SeqAt.in_list_reads r2 r1 (SeqAt.canLay_of_shaped se) (SeqAt.canLay_of_shaped sd) hroom ⟨.bl _, H, I, rfl, q⟩
  · obtain ⟨bs, r2⟩ := Dp.reads I (.tuple ds) (.ref a) u (.tup hs ha) ry
    exact SeqAt.in_tuple_reads r2 r1 (SeqAt.canLay_of_shaped se) (SeqAt.canLay_of_shaped sd) hroom ⟨.bl _, H, I, rfl, q⟩
theorem op_notInA (hu : X.A.units + 65 < cLine) : OpR X (compareOp .NotIn) (rInA X.K true) := by
  intro pins s σ H x y v u Q I rx ry h
  obtain ⟨d, ds, a, us, hd, rfl, hs, ha, sd, se, q⟩ := h
  obtain ⟨as, r1⟩ := Dp.reads I d x v hd rx
  have hroom : X.A.units + 1 + min (PyData.depthAll ds) d.depth < cLine := room_in_shaped sd hu
  rw [show (xor true (ds.any fun z => PyData.eqv z d)) = !(ds.any fun z => PyData.eqv z d) by simp] at q
  rcases hs with hs | hs
  · obtain ⟨bs, r2⟩ := Dp.reads I (.list ds) (.ref a) u (.lst hs ha) ry
    exact SeqAt.notIn_list_reads r2 r1 (SeqAt.canLay_of_shaped se) (SeqAt.canLay_of_shaped sd) hroom ⟨.bl _, H, I, rfl, q⟩
  · obtain ⟨bs, r2⟩ := Dp.reads I (.tuple ds) (.ref a) u (.tup hs ha) ry
    exact SeqAt.notIn_tuple_reads r2 r1 (SeqAt.canLay_of_shaped se) (SeqAt.canLay_of_shaped sd) hroom ⟨.bl _, H, I, rfl, q⟩
theorem units65 (hr : Room k X.A) : X.A.units + 65 < cLine := by have := hr.un; omega
theorem str_one {x : Str} {c : Nat} (h : x.cps.toList = [c]) : x = ⟨#[c]⟩ := by
  obtain ⟨a⟩ := x
  congr
  exact Array.ext' (by simpa using h)
theorem inB_read {neg : Bool} {ω : Wd} {hh : LHeap} {H : Hp} {a b : Val} {x y : V} {Q : VK} {kb : Bool} (hK : X.K = g.K) (r : HRel g ω hh H) (ra : RV g ω a x) (rb : RV g ω b y) (e : inB hh a b = some kb) (q : Q (.bl (xor neg kb)) H) :
    (∃ (c : Nat) (z : Str), x = .str ⟨#[c]⟩ ∧ y = .str z ∧ Q (.bl (xor neg (decide (c ∈ z.cps.toList)))) H) ∨ rInA X.K neg x y H Q := by
  have go : ∀ ys, seqOf hh b = some ys → (match pureB 60 a, allB (pureB 59) ys with
      | true, true => some (vany a ys)
      | _, _ => none) = some kb → rInA X.K neg x y H Q := fun ys e1 e2 => by
    cases h1 : pureB 60 a with
    | false => simp only [h1] at e2; cases e2
    | true =>
      cases h2 : allB (pureB 59) ys with
      | false => simp only [h1, h2] at e2; cases e2
      | true =>
        simp only [h1, h2] at e2
        cases e2
        obtain ⟨p, us, rfl, hs, rs⟩ := seq_at r rb e1
        obtain ⟨p1, p2⟩ := RV.dp r.z ra h1
        obtain ⟨q1, q2⟩ := RVs.dp r.z rs h2
        refine ⟨dat a, dats ys, p, us, hK ▸ p1, rfl, hK ▸ hs, hK ▸ q1, shaped_of h1 p2 (by decide), shaped_of (n := 60) (v := .lst ys) h2 q2 (by decide), ?_⟩
        rw [← vany_dat h1 h2]
        exact q
  cases b with
  | str z =>
    cases a with
    | str s =>
      cases s with
      | nil => cases e
      | cons c t =>
        cases t with
        | cons _ _ => cases e
        | nil =>
          cases e
          left
          generalize hs : [c] = sl at ra
          cases ra with
          | str x0 hx0 =>
            cases rb with
            | str z0 hz0 =>
              refine ⟨c, z0, ?_, rfl, ?_⟩
              · rw [str_one hs.symm]
              · rw [← memN_eq]; exact q
    | _ => cases e
  | tup ys => exact .inr (go ys rfl e)
  | lst ys => exact .inr (go ys rfl e)
  | obj d n =>
    have e' : (match seqOf hh (.obj d n) with
      | some ys => (match pureB 60 a, allB (pureB 59) ys with
        | true, true => some (vany a ys)
        | _, _ => none)
      | none => none) = some kb := e
    cases h0 : seqOf hh (.obj d n) with
    | none => rw [h0] at e'; cases e'
    | some ys => rw [h0] at e'; exact .inr (go ys h0 e')
  | _ => cases e
theorem op_inL (hK : X.K = g.K) (hr : Room k X.A) : OpR X (compareOp .In) (rL g (opIn false)) :=
  OpR.to (OpR.or op_in_sign (op_inA (units65 hr))) fun ω hh H a b x y Q r ra rb o => by
    unfold opIn at o
    cases e : inB hh a b with
    | none => simp only [e] at o; exact o.elim
    | some kb =>
      simp only [e] at o
      rcases inB_read (neg := false) (Q := Q) hK r ra rb e (o ω _ H .rfl' r (.bl _)) with ⟨c, z, h1, h2, h3⟩ | h
      · exact .inl ⟨c, z, h1, h2, by simpa using h3⟩
      · exact .inr h
theorem op_notInL (hK : X.K = g.K) (hr : Room k X.A) : OpR X (compareOp .NotIn) (rL g (opIn true)) :=
  OpR.to (OpR.or op_notIn_sign (op_notInA (units65 hr))) fun ω hh H a b x y Q r ra rb o => by
    unfold opIn at o
    cases e : inB hh a b with
    | none => simp only [e] at o; exact o.elim
    | some kb =>
      simp only [e] at o
      rcases inB_read (neg := true) (Q := Q) hK r ra rb e (o ω _ H .rfl' r (.bl _)) with ⟨c, z, h1, h2, h3⟩ | h
      · exact .inl ⟨c, z, h1, h2, by simpa using h3⟩
      · exact .inr h
end
end Li

namespace Li
open PySem PySem.Spec PyProof.Rows L2

theorem keyN_depth : ∀ (n : Nat) (v : Val), keyN n v = true → (nk v).depth ≤ n
  | n, .non, _ => Nat.zero_le _
  | n, .bl _, _ => Nat.zero_le _
  | n, .int _, _ => Nat.zero_le _
  | n, .str _, _ => Nat.zero_le _
  | 0, .tup xs, h => absurd h Bool.false_ne_true
  | n + 1, .tup xs, h => by
    have h' : allB (keyN n) xs = true := h
    show NestedKey.depthAll (nks xs) + 1 ≤ n + 1
    refine Nat.succ_le_succ ?_
    clear h
    induction xs with
    | nil => exact Nat.zero_le _
    | cons x xs ih => exact Nat.max_le.mpr ⟨keyN_depth n x (allB_cons.mp h').1, ih (allB_cons.mp h').2⟩
  | n, .lst _, h => absurd h (by cases n <;> exact Bool.false_ne_true)
  | n, .ins _ _, h => absurd h (by cases n <;> exact Bool.false_ne_true)
  | n, .dct _ _ _, h => absurd h (by cases n <;> exact Bool.false_ne_true)
  | n, .obj _ _, h => absurd h (by cases n <;> exact Bool.false_ne_true)
  | n, .cls _, h => absurd h (by cases n <;> exact Bool.false_ne_true)
  | n, .ty _, h => absurd h (by cases n <;> exact Bool.false_ne_true)
  | n, .fn _, h => absurd h (by cases n <;> exact Bool.false_ne_true)
theorem tkey_keyN {k : Val} (h : tkey k = true) : keyN 8 k = true := by
  cases k with
  | tup xs => exact h
  | _ => exact absurd h Bool.false_ne_true
mutual
theorem veq_nk : ∀ (n m : Nat) (a b : Val), keyN n a = true → keyN m b = true → veq a b = NestedKey.beq (nk a) (nk b)
  | n, m, .non, b, ha, hb => by cases b <;> first | rfl | (exact absurd hb (by cases m <;> exact Bool.false_ne_true))
  | n, m, .bl a, b, ha, hb => by
    cases b with
    | bl c => cases a <;> cases c <;> rfl
    | _ => first | rfl | (exact absurd hb (by cases m <;> exact Bool.false_ne_true))
  | n, m, .int i, b, ha, hb => by cases b <;> first | rfl | (exact absurd hb (by cases m <;> exact Bool.false_ne_true))
  | n, m, .str a, b, ha, hb => by
    cases b with
    | str b =>
      show natsEq a b = decide ((⟨a.toArray⟩ : Str) = ⟨b.toArray⟩)
      rw [natsEq_eq]
      by_cases h : a = b <;> simp [h]
    | _ => first | rfl | (exact absurd hb (by cases m <;> exact Bool.false_ne_true))
  | 0, m, .tup xs, b, ha, hb => absurd ha Bool.false_ne_true
  | n + 1, m, .tup xs, b, ha, hb => by
    cases b with
    | tup ys =>
      cases m with
      | zero => exact absurd hb Bool.false_ne_true
      | succ m => exact veqs_nk n m xs ys ha hb
    | _ => first | rfl | (exact absurd hb (by cases m <;> exact Bool.false_ne_true))
  | n, m, .lst _, b, ha, hb => absurd ha (by cases n <;> exact Bool.false_ne_true)
  | n, m, .ins _ _, b, ha, hb => absurd ha (by cases n <;> exact Bool.false_ne_true)
  | n, m, .dct _ _ _, b, ha, hb => absurd ha (by cases n <;> exact Bool.false_ne_true)
  | n, m, .obj _ _, b, ha, hb => absurd ha (by cases n <;> exact Bool.false_ne_true)
  | n, m, .cls _, b, ha, hb => absurd ha (by cases n <;> exact Bool.false_ne_true)
  | n, m, .ty _, b, ha, hb => absurd ha (by cases n <;> exact Bool.false_ne_true)
  | n, m, .fn _, b, ha, hb => absurd ha (by cases n <;> exact Bool.false_ne_true)
theorem veqs_nk : ∀ (n m : Nat) (a b : List Val), allB (keyN n) a = true → allB (keyN m) b = true → veqs a b = NestedKey.beqAll (nks a) (nks b)
  | n, m, [], [], _, _ => rfl
  | n, m, [], _ :: _, _, _ => rfl
  | n, m, _ :: _, [], _, _ => rfl
  | n, m, x :: xs, y :: ys, ha, hb => by
    obtain ⟨h1, h2⟩ := allB_cons.mp ha
    obtain ⟨h3, h4⟩ := allB_cons.mp hb
    rw [veqs_cons, veq_nk n m x y h1 h3, veqs_nk n m xs ys h2 h4]
    rfl
end
theorem veq_key {n m : Nat} {a b : Val} (ha : keyN n a = true) (hb : keyN m b = true) : veq a b = decide (nk a = nk b) := by
  rw [veq_nk n m a b ha hb, NestedKey.decide_eq]

/-- d[x] -/
def dget : List Val → List Val → Val → Option Val
  | k :: ks, v :: vs, x => match veq k x with
    | true => some v
    | false => dget ks vs x
  | _, _, _ => none
/-- the values after d[x] = w, where the key stands -/
def dput : List Val → List Val → Val → Val → Option (List Val)
  | k :: ks, v :: vs, x, w => match veq k x with
    | true => some (w :: vs)
    | false => match dput ks vs x w with
      | some r => some (v :: r)
      | none => none
  | _, _, _, _ => none

section
variable {X : Cx} {pins : List (Addr × Obj)} {σ : L2.St} {H : Hp} {s : Shared} {g : Pg} {ω : Wd} {hh : LHeap}
mutual
theorem RV.nested (I : Inv X pins σ H s) (hz : ∀ a o, ω.Z a = some o → H a = some o) (hK : X.K = g.K) : ∀ (n : Nat) {k : Val} {y : V} {v : Value}, RV g ω k y → keyN n k = true → RelV y v → NestedIs s.heap (nk k) v
  | _, _, _, _, .non, _, r => by cases r; exact .none
  | _, _, _, _, .bl b, _, r => by cases r; exact .bool (by cases b <;> rfl)
  | _, _, _, _, .int i, _, r => by obtain ⟨t, rfl⟩ := r; exact .int i t
  | _, _, _, _, .str x h, _, r => by obtain ⟨t, rfl⟩ := r; exact .text x t
  | 0, _, _, _, .tup a b, h, r => absurd h Bool.false_ne_true
  | n + 1, _, _, _, .tup (a := p) (ys := ys) a b, h, r => by
    cases r
    obtain ⟨its, rv, ⟨o, ho, hc, m, hd⟩, _⟩ := I.tuple (hK ▸ SqT.mono hz a : SqT X.K H p ys)
    exact .tup ho hc hd (RVs.nested I hz hK n b h (by simpa using rv))
  | n, _, _, _, .lst a b, h, _ => absurd h (by cases n <;> exact Bool.false_ne_true)
  | n, _, _, _, .ins a b c, h, _ => absurd h (by cases n <;> exact Bool.false_ne_true)
  | n, _, _, _, .dk a b c d, h, _ => absurd h (by cases n <;> exact Bool.false_ne_true)
  | n, _, _, _, .dt a b c d, h, _ => absurd h (by cases n <;> exact Bool.false_ne_true)
  | n, _, _, _, .obj a, h, _ => absurd h (by cases n <;> exact Bool.false_ne_true)
  | n, _, _, _, .cls c, h, _ => absurd h (by cases n <;> exact Bool.false_ne_true)
  | n, _, _, _, .ty c _, h, _ => absurd h (by cases n <;> exact Bool.false_ne_true)
  | n, _, _, _, .fn c, h, _ => absurd h (by cases n <;> exact Bool.false_ne_true)
  | n, _, _, _, .scr a, h, _ => absurd h (by cases n <;> exact Bool.false_ne_true)
theorem RVs.nested (I : Inv X pins σ H s) (hz : ∀ a o, ω.Z a = some o → H a = some o) (hK : X.K = g.K) : ∀ (n : Nat) {k : List Val} {y : List V} {v : List Value}, RVs g ω k y → allB (keyN n) k = true → Vals y v → NestedAll s.heap (nks k) v
  | _, _, _, _, .nil, _, .nil => .nil
  | n, _, _, _, .cons a b, h, .cons r t => .cons (RV.nested I hz hK n a (allB_cons.mp h).1 r) (RVs.nested I hz hK n b (allB_cons.mp h).2 t)
end
/-- a tuple as a key -/
theorem RV.tkey (I : Inv X pins σ H s) (hz : ∀ a o, ω.Z a = some o → H a = some o) (hK : X.K = g.K) {k : Val} {y : V} {v : Value} (r : RV g ω k y) (h : Li.tkey k = true) (rv : RelV y v) :
    ∃ a, y = .ref a ∧ v = .ref a ∧ (nestedKind X.prog X.w).is s.heap (nk k) a := by
  have h8 := tkey_keyN h
  have ne := RV.nested I hz hK 8 r h8 rv
  cases r with
  | tup a b =>
    cases rv
    exact ⟨_, rfl, rfl, ne, keyN_depth 8 _ h8⟩
  | _ => exact absurd h Bool.false_ne_true

abbrev NX := NestedKey × Addr × Value
/-- the entries, as the library tells them -/
inductive DE (g : Pg) (ω : Wd) : List Val → List Val → List NX → Prop
  | nil : DE g ω [] [] []
  | cons {k v : Val} {a : Addr} {u : V} {r : Value} {ks vs : List Val} {xs : List NX} : RV g ω k (.ref a) → Li.tkey k = true → RV g ω v u → RelV u r → DE g ω ks vs xs → DE g ω (k :: ks) (v :: vs) ((nk k, a, r) :: xs)
theorem tref {k : Val} {y : V} {v : Value} (r : RV g ω k y) (h : Li.tkey k = true) (rv : RelV y v) : ∃ a, y = .ref a ∧ v = .ref a := by
  cases r with
  | tup a b => cases rv; exact ⟨_, rfl, rfl⟩
  | _ => exact absurd h Bool.false_ne_true
theorem DE.of {P : Program} : ∀ {ks vs : List Val} {ys us : List V} {ws : List DictEntry}, RVs g ω ks ys → RVs g ω vs us → Vals ys (ws.map (·.key)) → Vals us (ws.map (·.val)) → ws.map (·.hash) = ks.map (fun k => (nk k).hash g.w) → allB Li.tkey ks = true →
    ∃ xs, DE g ω ks vs xs ∧ ws = xs.map (entryOfKey (nestedKind P g.w))
  | [], vs, _, us, [], .nil, r, .nil, q, _, _ => by
    cases q
    cases r
    exact ⟨[], .nil, rfl⟩
  | [], vs, _, us, _ :: _, .nil, r, q, _, _, _ => nomatch q
  | _ :: _, _, _, _, [], .cons _ _, _, q, _, _, _ => nomatch q
  | k :: ks, _, y :: ys, us, ⟨h, kk, vv⟩ :: ws, .cons r1 t1, r2, .cons q1 q2, q, e, a => by
    cases q with
    | cons q3 q4 =>
      cases r2 with
      | cons r3 t3 =>
        simp only [List.map_cons, List.cons.injEq] at e
        obtain ⟨a1, a2⟩ := allB_cons.mp a
        obtain ⟨p, rfl, ek⟩ := tref r1 a1 q1
        obtain ⟨xs, d, ew⟩ := DE.of (P := P) t1 t3 q2 q4 e.2 a2
        refine ⟨_, .cons r1 a1 r3 q3 d, ?_⟩
        rw [List.map_cons, ew]
        congr 1
        have e1 := e.1
        dsimp only at e1 ek
        subst e1 ek
        rfl
theorem DE.keys {ks vs : List Val} {xs : List NX} (d : DE g ω ks vs xs) : xs.map (·.1) = ks.map nk := by
  induction d with
  | nil => rfl
  | cons _ _ _ _ _ ih => simp [ih]
theorem DE.len {ks vs : List Val} {xs : List NX} (d : DE g ω ks vs xs) : xs.length = ks.length := by
  induction d with
  | nil => rfl
  | cons _ _ _ _ _ ih => simp [ih]
theorem DE.is {ks vs : List Val} {xs : List NX} (I : Inv X pins σ H s) (hz : ∀ a o, ω.Z a = some o → H a = some o) (hK : X.K = g.K) (d : DE g ω ks vs xs) : ∀ x ∈ xs, (nestedKind X.prog X.w).is s.heap x.1 x.2.1 := by
  induction d with
  | nil => exact fun x h => by cases h
  | cons r1 a1 r3 q3 _ ih =>
    intro x hx
    rcases List.mem_cons.mp hx with rfl | hx
    · obtain ⟨a, e1, e2, h⟩ := RV.tkey I hz hK r1 a1 (v := .ref _) rfl
      cases e1
      exact h
    · exact ih x hx
theorem DE.mono {ω' : Wd} (h : WIn ω ω') {ks vs : List Val} {xs : List NX} (d : DE g ω ks vs xs) : DE g ω' ks vs xs := by
  induction d with
  | nil => exact .nil
  | cons a b c e _ ih => exact .cons (a.mono h) b (c.mono h) e ih
/-- back -/
theorem DE.back {P : Program} {ks vs : List Val} {xs : List NX} (d : DE g ω ks vs xs) : ∃ ys us, RVs g ω ks ys ∧ RVs g ω vs us ∧ Vals ys ((xs.map (entryOfKey (nestedKind P g.w))).map (·.key)) ∧ Vals us ((xs.map (entryOfKey (nestedKind P g.w))).map (·.val)) ∧
    (xs.map (entryOfKey (nestedKind P g.w))).map (·.hash) = ks.map (fun k => (nk k).hash g.w) ∧ allB Li.tkey ks = true := by
  induction d with
  | nil => exact ⟨[], [], .nil, .nil, .nil, .nil, rfl, rfl⟩
  | cons a b c e _ ih =>
    obtain ⟨ys, us, h1, h2, h3, h4, h5, h6⟩ := ih
    exact ⟨_ :: ys, _ :: us, .cons a h1, .cons c h2, .cons rfl h3, .cons e h4, by
      simp only [List.map_cons] at h5 ⊢
      rw [h5]; rfl, allB_cons.mpr ⟨b, h6⟩⟩
theorem DE.get {n : Nat} {x v : Val} (hx : keyN n x = true) {ks vs : List Val} {xs : List NX} (d : DE g ω ks vs xs) (e : dget ks vs x = some v) : ∃ p u, atKey xs (nk x) = some p ∧ RV g ω v u ∧ RelV u p.2 := by
  induction d with
  | nil => cases e
  | @cons k w a u r ks vs xs r1 a1 r3 q3 _ ih =>
    unfold dget at e
    have h := veq_key (tkey_keyN a1) hx
    cases q : veq k x with
    | true =>
      rw [q] at e h
      cases e
      have h' : nk k = nk x := of_decide_eq_true h.symm
      exact ⟨(a, r), u, by simp [atKey, h'], r3, q3⟩
    | false =>
      rw [q] at e h
      have h' : ¬ nk k = nk x := of_decide_eq_false h.symm
      obtain ⟨p, u', h1, h2, h3⟩ := ih e
      exact ⟨p, u', by simpa [atKey, List.find?_cons, h'] using h1, h2, h3⟩
theorem DE.getN {n : Nat} {x : Val} (hx : keyN n x = true) {ks vs : List Val} {xs : List NX} (d : DE g ω ks vs xs) (e : dget ks vs x = none) : atKey xs (nk x) = none := by
  induction d with
  | nil => rfl
  | @cons k w a u r ks vs xs r1 a1 r3 q3 _ ih =>
    unfold dget at e
    have h := veq_key (tkey_keyN a1) hx
    cases q : veq k x with
    | true => rw [q] at e; cases e
    | false =>
      rw [q] at e h
      have h' : ¬ nk k = nk x := of_decide_eq_false h.symm
      simpa [atKey, List.find?_cons, h'] using ih e
theorem dput_get {x w : Val} : ∀ {ks vs : List Val}, (dput ks vs x w).isSome = (dget ks vs x).isSome
  | [], vs => by cases vs <;> rfl
  | _ :: _, [] => rfl
  | k :: ks, v :: vs => by
    unfold dput dget
    cases veq k x with
    | true => rfl
    | false =>
      have := dput_get (x := x) (w := w) (ks := ks) (vs := vs)
      dsimp only
      rw [← this]
      cases dput ks vs x w <;> rfl
theorem DE.put {n : Nat} {x w : Val} {y : V} {r : Value} (hx : keyN n x = true) (rw' : RV g ω w y) (rr : RelV y r) {ks vs vs' : List Val} {xs : List NX} (d : DE g ω ks vs xs) (nd : (xs.map (·.1)).Nodup) (e : dput ks vs x w = some vs') : DE g ω ks vs' (xs.map (putAt (nk x) r)) := by
  induction d generalizing vs' with
  | nil => cases e
  | @cons k v a u r0 ks vs xs r1 a1 r3 q3 d ih =>
    unfold dput at e
    rw [List.map_cons, List.nodup_cons] at nd
    have h := veq_key (tkey_keyN a1) hx
    cases q : veq k x with
    | true =>
      rw [q] at e h
      cases e
      have h' : nk k = nk x := of_decide_eq_true h.symm
      rw [List.map_cons, map_putAt_of_not_mem xs (nk x) r (fun hm => nd.1 (by rw [h']; exact hm))]
      rw [show putAt (nk x) r (nk k, a, r0) = (nk k, a, r) by simp [putAt, h']]
      exact .cons r1 a1 rw' rr d
    | false =>
      rw [q] at e h
      have h' : ¬ nk k = nk x := of_decide_eq_false h.symm
      cases e2 : dput ks vs x w with
      | none => simp only [e2] at e; cases e
      | some t =>
        simp only [e2] at e
        cases e
        rw [List.map_cons, show putAt (nk x) r (nk k, a, r0) = (nk k, a, r0) by simp [putAt, h']]
        exact .cons r1 a1 r3 q3 (ih nd.2 e2)
theorem DE.snoc {x w : Val} {a : Addr} {y : V} {r : Value} (hx : Li.tkey x = true) (rx : RV g ω x (.ref a)) (rw' : RV g ω w y) (rr : RelV y r) {ks vs : List Val} {xs : List NX} (d : DE g ω ks vs xs) : DE g ω (ks ++ [x]) (vs ++ [w]) (xs ++ [(nk x, a, r)]) := by
  induction d with
  | nil => exact .cons rx hx rw' rr .nil
  | cons r1 a1 r3 q3 _ ih => exact .cons r1 a1 r3 q3 ih
end
end Li

namespace Li
open PySem PySem.Spec PyProof.Rows L2

def dctOf (h : LHeap) (v : Val) : Option (Bool × List Val × List Val) := match v with
  | .dct t ks vs => some (t, ks, vs)
  | .obj d n => (match look h d n with
    | some (.dct t ks vs) => some (t, ks, vs)
    | _ => none)
  | _ => none
section
variable {X : Cx} {pins : List (Addr × Obj)} {σ : L2.St} {H : Hp} {s : Shared} {g : Pg} {ω : Wd} {hh : LHeap} {k : Nat}
theorem dt_at {v : Val} {u : V} {ks vs : List Val} (r : HRel g ω hh H) (rv : RV g ω v u) (e : dctOf hh v = some (true, ks, vs)) : ∃ a ys us o, u = .ref a ∧ H a = some (dctO a o) ∧ RVs g ω ks ys ∧ RVs g ω vs us ∧ DK g a ks ys us o := by
  unfold dctOf at e
  cases v with
  | dct t ks' vs' =>
    cases e
    cases rv with
    | dt a b c d => exact ⟨_, _, _, _, rfl, r.z _ _ a, b, c, d⟩
  | obj d n =>
    cases e0 : look hh d n with
    | none => simp only [e0] at e; cases e
    | some ob =>
      obtain ⟨a, rfl, _, ro⟩ := obj_at r rv e0
      cases ob with
      | ins c fs => simp only [e0] at e; cases e
      | lst c => simp only [e0] at e; cases e
      | dct t ks' vs' =>
        simp only [e0] at e
        cases e
        obtain ⟨ys, us, ws, h1, h2, h3, h4⟩ := ro.dt'
        exact ⟨a, ys, us, ws, rfl, h1, h2, h3, h4⟩
  | _ => cases e
theorem dk_at {v : Val} {u : V} {ks vs : List Val} (r : HRel g ω hh H) (rv : RV g ω v u) (e : dctOf hh v = some (false, ks, vs)) : ∃ a kvs o, u = .ref a ∧ H a = some (dctO a o) ∧ RVs g ω ks (kvs.map fun p => kV p.1) ∧ RVs g ω vs (kvs.map (·.2)) ∧ DL g a kvs o := by
  unfold dctOf at e
  cases v with
  | dct t ks' vs' =>
    cases e
    cases rv with
    | dk a b c d => exact ⟨_, _, _, rfl, r.z _ _ a, b, c, d⟩
  | obj d n =>
    cases e0 : look hh d n with
    | none => simp only [e0] at e; cases e
    | some ob =>
      obtain ⟨a, rfl, _, ro⟩ := obj_at r rv e0
      cases ob with
      | ins c fs => simp only [e0] at e; cases e
      | lst c => simp only [e0] at e; cases e
      | dct t ks' vs' =>
        simp only [e0] at e
        cases e
        obtain ⟨kvs, o, h1, h2, h3, h4⟩ := ro.dk'
        exact ⟨a, kvs, o, rfl, h1, h2, h3, h4⟩
  | _ => cases e
theorem dct_get {a : Addr} {o : Obj} (I : Inv X pins σ H s) (hH : H a = some (dctO a o)) : s.heap.get? a = some o := (I.hok a _ hH).1
theorem dt_heap {a : Addr} {ks vs : List Val} {ys us : List V} {o : Obj} (I : Inv X pins σ H s) (hz : ∀ a o, ω.Z a = some o → H a = some o) (hK : X.K = g.K) (hw : X.w = g.w) (hH : H a = some (dctO a o)) (r1 : RVs g ω ks ys) (r2 : RVs g ω vs us) (d : DK g a ks ys us o) :
    ∃ xs, DE g ω ks vs xs ∧ s.heap.DictOfH (nestedKind X.prog X.w) a xs ∧ (xs.map (·.1)).Nodup ∧ xs.length ≤ sizeLine := by
  obtain ⟨es, ep, h2, h3, hz', hk, hv, hh⟩ := d.ob
  obtain ⟨xs, de, ew⟩ := DE.of (P := X.prog) r1 r2 hk hv hh d.ok
  have nd : (xs.map (·.1)).Nodup := by rw [de.keys]; exact d.nd
  refine ⟨xs, de, ⟨o, es, ep, dct_get I hH, h2, h3, ?_, de.is I hz hK, nd⟩, nd, ?_⟩
  · rw [ew, hw]
  · have : es.toList.length = xs.length := by rw [ew, List.length_map]
    rw [Array.length_toList] at this
    omega
theorem dk_heap {a : Addr} {kvs : List (Key × V)} {o : Obj} (I : Inv X pins σ H s) (hP : X.prog = g.P) (hw : X.w = g.w) (hH : H a = some (dctO a o)) (d : DL g a kvs o) : ∃ vs, KV kvs vs ∧ s.heap.DictOf (mixKind X.prog X.w) a vs := by
  obtain ⟨vs, es, ep, h1, h2, h3, h4, h5, h6⟩ := d.ob
  refine ⟨vs, h1, o, es, ep, dct_get I hH, h2, h3, ?_, ?_, h6⟩
  · rw [hP, hw]; exact h4
  · rw [hP, hw]; exact h5
theorem room8 (hr : Room k X.A) : (nestedKind X.prog X.w).room X.A.in1 := by
  show X.A.in1.units + 8 < cLine
  have := hr.un
  rw [Around.in1_units]; omega
theorem dctO_ok {P : Program} {w : World} {H : Hp} {h : Heap} {a : Addr} {o : Obj} (hd : h.get? a = some o) : ObjOk P w H h a (dctO a o) := ⟨hd, ⟨o, hd⟩, fun _ _ h1 kp => kp o h1⟩

def isKey : Val → Bool
  | .int _ => true
  | .str _ => true
  | _ => false
theorem isKey_at {v : Val} {u : V} (h : isKey v = true) (r : RV g ω v u) : ∃ k : Key, u = kV k := by
  cases r with
  | int i => exact ⟨.inl i, rfl⟩
  | str x _ => exact ⟨.inr x, rfl⟩
  | _ => exact absurd h Bool.false_ne_true
theorem veq_kV {a b : Val} {k k' : Key} (ra : RV g ω a (kV k)) (rb : RV g ω b (kV k')) : veq a b = decide (k = k') := by
  cases k with
  | inl i =>
    generalize hx : kV (Sum.inl i) = x at ra
    cases ra with
    | int j =>
      cases hx
      cases k' with
      | inl i' =>
        generalize hy : kV (Sum.inl i') = y at rb
        cases rb with
        | int j' => cases hy; show decide (i = i') = decide (Sum.inl i = Sum.inl i'); by_cases h : i = i' <;> simp [h]
        | _ => cases hy
      | inr z' =>
        generalize hy : kV (Sum.inr z') = y at rb
        cases rb with
        | str z _ => cases hy; simp [veq]
        | _ => cases hy
    | _ => cases hx
  | inr z =>
    generalize hx : kV (Sum.inr z) = x at ra
    cases ra with
    | str z0 _ =>
      cases hx
      cases k' with
      | inl i' =>
        generalize hy : kV (Sum.inl i') = y at rb
        cases rb with
        | int j' => cases hy; simp [veq]
        | _ => cases hy
      | inr z' =>
        generalize hy : kV (Sum.inr z') = y at rb
        cases rb with
        | str z1 _ =>
          cases hy
          show natsEq z.cps.toList z'.cps.toList = _
          rw [natsEq_eq]
          by_cases h : z = z'
          · subst h; simp
          · have h2 : ¬ z.cps.toList = z'.cps.toList := fun q => h (by
              obtain ⟨a⟩ := z
              obtain ⟨b⟩ := z'
              congr
              exact Array.ext' q)
            simp [h, h2]
        | _ => cases hy
    | _ => cases hx
theorem dget_dk {x : Val} {k : Key} (rx : RV g ω x (kV k)) : ∀ {kvs : List (Key × V)} {ks vs : List Val}, RVs g ω ks (kvs.map fun p => kV p.1) → RVs g ω vs (kvs.map (·.2)) →
    match dget ks vs x with
    | some v => ∃ u, valV kvs k = some u ∧ RV g ω v u
    | none => valV kvs k = none
  | [], _, _, .nil, .nil => rfl
  | p :: kvs, _, _, .cons (x := k1) (xs := ks) r1 t1, .cons (x := v1) (xs := vs) r2 t2 => by
    unfold dget
    have h := veq_kV r1 rx
    cases q : veq k1 x with
    | true =>
      rw [q] at h
      have h' : p.1 = k := of_decide_eq_true h.symm
      exact ⟨p.2, valV_pos h', r2⟩
    | false =>
      rw [q] at h
      have h' : ¬ p.1 = k := of_decide_eq_false h.symm
      have ih := dget_dk rx t1 t2
      dsimp only
      cases e : dget ks vs x with
      | some v =>
        rw [e] at ih
        obtain ⟨u, h1, h2⟩ := ih
        exact ⟨u, by rw [valV_neg h']; exact h1, h2⟩
      | none =>
        rw [e] at ih
        show valV (p :: kvs) k = none
        rw [valV_neg h']; exact ih

/-- xs[i] -/
def lix {α : Type} (xs : List α) (i : Int) : Option α := match i with
  | .ofNat n => xs[n]?
  | .negSucc n => (match Nat.ble (n + 1) xs.length with
    | true => xs[xs.length - (n + 1)]?
    | false => none)
theorem lix_atI {α : Type} {xs : List α} {i : Int} {v : α} (h : lix xs i = some v) : ∃ j, ixN xs.length i = some j ∧ xs[j]? = some v := by
  unfold lix at h
  cases i with
  | ofNat n =>
    have hn := (List.getElem?_eq_some_iff.mp h).1
    refine ⟨n, ?_, h⟩
    unfold ixN
    rw [if_pos (by simp), if_pos (by simp; omega)]
    simp
  | negSucc n =>
    cases q : Nat.ble (n + 1) xs.length with
    | false => simp only [q] at h; cases h
    | true =>
      simp only [q] at h
      have hq := Nat.le_of_ble_eq_true q
      refine ⟨xs.length - (n + 1), ?_, h⟩
      unfold ixN
      rw [if_neg (by omega), if_pos (by omega)]
      congr 1
      omega
theorem RVs.atI {xs : List Val} {us : List V} {i : Int} {v : Val} (r : RVs g ω xs us) (h : lix xs i = some v) : ∃ u, L2.atI us i = some u ∧ RV g ω v u := by
  obtain ⟨j, h1, h2⟩ := lix_atI h
  obtain ⟨u, h3, h4⟩ := r.get h2
  refine ⟨u, ?_, h4⟩
  unfold L2.atI
  rw [r.length, h1]
  exact h3
def opIx : P2 := fun h a b => match dctOf h a with
  | some (true, ks, vs) => (match tkey b with
    | true => (match dget ks vs b with
      | some v => some (v, h)
      | none => none)
    | false => none)
  | some (false, ks, vs) => (match isKey b with
    | true => (match dget ks vs b with
      | some v => some (v, h)
      | none => none)
    | false => none)
  | none => (match b with
    | .int i => (match a with
      | .str z => (match lix z i, lim z.length with
        | some c, true => some (.str [c], h)
        | _, _ => none)
      | a => (match seqOf h a with
        | some xs => (match lix xs i with
          | some v => some (v, h)
          | none => none)
        | none => none))
    | _ => none)
/-- d[y], a dict of tuples -/
def rDt (g : Pg) : R2 := fun x y H Q => ∃ ω hh a b ks vs v, HRel g ω hh H ∧ RV g ω a x ∧ RV g ω b y ∧ dctOf hh a = some (true, ks, vs) ∧ tkey b = true ∧ dget ks vs b = some v ∧ ∀ u, RV g ω v u → Q u H
theorem ix_dt (hK : X.K = g.K) (hw : X.w = g.w) (hr : Room k X.A) : IxR X (rDt g) := by
  intro value slice pins s σ H x y v u Q I rx ry ⟨ω, hh, a, b, ks, vs, w, r, ra, rb, ed, tb, eg, q⟩ hs
  obtain ⟨p, ys, us, ws, rfl, hH, r1, r2, dk⟩ := dt_at r ra ed
  cases rx
  obtain ⟨xs, de, hD, nd, hz⟩ := dt_heap I r.z hK hw hH r1 r2 dk
  obtain ⟨c, rfl, rfl, hk⟩ := RV.tkey I r.z hK rb tb ry
  obtain ⟨⟨c', w'⟩, u', h1, h2, h3⟩ := de.get (tkey_keyN tb) eg
  exact tail_any hD.typeIs PySem.F.slot_dict_getitem.lookup (wpAny_getItem_heap (room8 hr) hk hD h1 ⟨u', H, I.tok _, h3, q u' h2⟩) hs
def rDk (g : Pg) : R2 := fun x y H Q => ∃ a kvs o k v, x = .ref a ∧ H a = some (dctO a o) ∧ DL g a kvs o ∧ y = kV k ∧ valV kvs k = some v ∧ Q v H
theorem ix_dk (hP : X.prog = g.P) (hw : X.w = g.w) : IxR X (rDk g) := by
  intro value slice pins s σ H x y v u Q I rx ry ⟨a, kvs, o, kk, w, ex, hH, d, ey, hv, q⟩ hs
  subst ex ey
  cases rx
  obtain ⟨vs, rel, dd⟩ := dk_heap I hP hw hH d
  obtain ⟨w', hw', rw'⟩ := RelO.some_of (v := w) (o := valueAt vs kk) (by rw [← hv]; exact rel.val kk)
  exact tail_any dd.typeIs PySem.F.slot_dict_getitem.lookup (wpAny_getItem_of (kV_is ry) dd.mapOf hw' ⟨w, H, I.tok _, rw', q⟩) hs
theorem IxR.to {r : R2} {F : P2} (h : IxR X r) (w : ∀ (ω : Wd) (hh : LHeap) (H : Hp) (a b : Val) (x y : V) (Q : VK), HRel g ω hh H → RV g ω a x → RV g ω b y → okO g ω (F hh a b) Q → r x y H Q) : IxR X (rL g F) :=
  fun value slice pins s σ H x y v u Q I rx ry ⟨ω, hh, a, b, hr, ra, rb, o⟩ hs => h value slice pins s σ H x y v u Q I rx ry (w ω hh H a b x y Q hr ra rb o) hs
theorem opIx_seq {h : LHeap} {a : Val} {b : Val} {v : Val × LHeap} (e : opIx h a b = some v) (hd : dctOf h a = none) : ∃ i, b = .int i ∧ ((∃ z c, a = .str z ∧ lix z i = some c ∧ lim z.length = true ∧ v = (.str [c], h)) ∨ ∃ xs w, seqOf h a = some xs ∧ lix xs i = some w ∧ v = (w, h)) := by
  unfold opIx at e
  rw [hd] at e
  cases b with
  | int i =>
    refine ⟨i, rfl, ?_⟩
    have go : (match seqOf h a with
        | some xs => (match lix xs i with
          | some v => some (v, h)
          | none => none)
        | none => none) = some v → ∃ xs w, seqOf h a = some xs ∧ lix xs i = some w ∧ v = (w, h) := fun e => by
      cases e1 : seqOf h a with
      | none => simp only [e1] at e; cases e
      | some xs =>
        simp only [e1] at e
        cases e2 : lix xs i with
        | none => simp only [e2] at e; cases e
        | some w => simp only [e2] at e; cases e; exact ⟨xs, w, rfl, e2, rfl⟩
    cases a with
    | str z =>
      left
      cases e1 : lix z i with
      | none => simp only [e1] at e; cases e
      | some c =>
        cases e2 : lim z.length with
        | false => simp only [e1, e2] at e; cases e
        | true => simp only [e1, e2] at e; cases e; exact ⟨z, c, rfl, e1, e2, rfl⟩
    | _ => exact .inr (go e)
  | _ => cases e
theorem ix_L (hP : X.prog = g.P) (hK : X.K = g.K) (hw : X.w = g.w) (hr : Room k X.A) : IxR X (rL g opIx) :=
  IxR.to ((ix_dt hK hw hr).or ((ix_dk hP hw).or ix_seq)) fun ω hh H a b x y Q r ra rb o => by
    cases e : opIx hh a b with
    | none => rw [e] at o; exact o.elim
    | some vh =>
      rw [e] at o
      cases hd : dctOf hh a with
      | some td =>
        obtain ⟨t, ks, vs⟩ := td
        unfold opIx at e
        rw [hd] at e
        cases t with
        | true =>
          left
          cases h1 : tkey b with
          | false => simp only [h1] at e; cases e
          | true =>
            cases h2 : dget ks vs b with
            | none => simp only [h1, h2] at e; cases e
            | some v =>
              simp only [h1, h2] at e
              cases e
              exact ⟨ω, hh, a, b, ks, vs, v, r, ra, rb, hd, h1, h2, fun u ru => o ω u H .rfl' r ru⟩
        | false =>
          right; left
          cases h1 : isKey b with
          | false => simp only [h1] at e; cases e
          | true =>
            cases h2 : dget ks vs b with
            | none => simp only [h1, h2] at e; cases e
            | some v =>
              simp only [h1, h2] at e
              cases e
              obtain ⟨p, kvs, ob, rfl, hH, r1, r2, dl⟩ := dk_at r ra hd
              obtain ⟨kk, rfl⟩ := isKey_at h1 rb
              have := dget_dk rb r1 r2
              rw [h2] at this
              obtain ⟨u, h3, h4⟩ := this
              exact ⟨p, kvs, ob, kk, u, rfl, hH, dl, rfl, h3, o ω u H .rfl' r h4⟩
      | none =>
        right; right
        obtain ⟨i, rfl, q⟩ := opIx_seq e hd
        cases rb
        rcases q with ⟨z, c, rfl, h1, h2, rfl⟩ | ⟨xs, w, h1, h2, rfl⟩
        · right; right
          cases ra with
          | str x hx =>
            obtain ⟨j, h3, h4⟩ := lix_atI h1
            refine ⟨x, i, c, rfl, rfl, ?_, ?_, ?_⟩
            · rw [str_len]; exact lim_le h2
            · unfold L2.atI; rw [h3]; exact h4
            · have hc : PyData.strOk ⟨#[c]⟩ = true := by
                have hm : c ∈ x.cps.toList := List.mem_of_getElem? h4
                unfold PyData.strOk at hx ⊢
                rw [Array.all_eq_true'] at hx ⊢
                intro a ha
                have : a = c := by simpa using ha
                subst this
                exact hx _ (by simpa using hm)
              exact o ω _ H .rfl' r (.str _ hc)
        · obtain ⟨p, us, rfl, hs, rs⟩ := seq_at r ra h1
          obtain ⟨u, h3, h4⟩ := rs.atI h2
          rcases hs with hs | hs
          · exact .inl ⟨p, us, i, u, rfl, rfl, hK ▸ hs, h3, o ω u H .rfl' r h4⟩
          · exact .inr (.inl ⟨p, us, i, u, rfl, rfl, hK ▸ hs, h3, o ω u H .rfl' r h4⟩)
end
section
variable {X : Cx} {g : Pg} {E : EX} {k : Nat}
theorem e_ix {a b : Expr} {la lb : LE} {pos : Pos} (hP : X.prog = g.P) (hK : X.K = g.K) (hw : X.w = g.w) (hr : Room k X.A) (ha : PE X a (tE g E la)) (hb : PE X b (tE g E lb)) (hs : PlainIx b := by exact fun _ _ => rfl) : PE X (.Subscript a b pos) (tE g E (lop opIx la lb)) :=
  (pe_ix (ix_L hP hK hw hr) ha hb hs).weak fun _ _ _ t => tOp_of t
end
end Li

namespace Li
open PySem PySem.Spec PyProof.Rows L2
section
variable {X : Cx} {g : Pg} {E : EX} {k : Nat}
def rInDt (g : Pg) (neg : Bool) : R2 := fun x y H Q => ∃ ω hh a b ks vs, HRel g ω hh H ∧ RV g ω a x ∧ RV g ω b y ∧ dctOf hh b = some (true, ks, vs) ∧ tkey a = true ∧ Q (.bl (xor neg (dget ks vs a).isSome)) H
def rInDk (g : Pg) (neg : Bool) : R2 := fun x y H Q => ∃ p kvs o k, y = .ref p ∧ H p = some (dctO p o) ∧ DL g p kvs o ∧ x = kV k ∧ Q (.bl (xor neg (valV kvs k).isSome)) H
theorem atKey_some {g : Pg} {ω : Wd} {a : Val} {ks vs : List Val} {xs : List NX} (de : DE g ω ks vs xs) (tb : tkey a = true) : (atKey xs (nk a)).isSome = (dget ks vs a).isSome := by
  cases e : dget ks vs a with
  | none => rw [de.getN (tkey_keyN tb) e]; rfl
  | some v =>
    obtain ⟨p, u, h1, _, _⟩ := de.get (tkey_keyN tb) e
    rw [h1]; rfl
theorem in_dt (hK : X.K = g.K) (hw : X.w = g.w) (hr : Room k X.A) : OpR X (compareOp .In) (rInDt g false) := by
  intro pins s σ H x y v u Q I rx ry ⟨ω, hh, a, b, ks, vs, r, ra, rb, ed, tb, q⟩
  obtain ⟨p, ys, us, ob, rfl, hH, r1, r2, dk⟩ := dt_at r rb ed
  cases ry
  obtain ⟨xs, de, hD, nd, hz⟩ := dt_heap I r.z hK hw hH r1 r2 dk
  obtain ⟨c, rfl, rfl, hk⟩ := RV.tkey I r.z hK ra tb rx
  refine wpAny_in_heap (room8 hr) hk dk.sys hD ⟨.bl _, H, I.tok _, rfl, ?_⟩
  rw [atKey_some de tb]
  simpa using q
theorem notIn_dt (hK : X.K = g.K) (hw : X.w = g.w) (hr : Room k X.A) : OpR X (compareOp .NotIn) (rInDt g true) := by
  intro pins s σ H x y v u Q I rx ry ⟨ω, hh, a, b, ks, vs, r, ra, rb, ed, tb, q⟩
  obtain ⟨p, ys, us, ob, rfl, hH, r1, r2, dk⟩ := dt_at r rb ed
  cases ry
  obtain ⟨xs, de, hD, nd, hz⟩ := dt_heap I r.z hK hw hH r1 r2 dk
  obtain ⟨c, rfl, rfl, hk⟩ := RV.tkey I r.z hK ra tb rx
  refine wpAny_notIn_heap (room8 hr) hk dk.sys hD ⟨.bl _, H, I.tok _, rfl, ?_⟩
  rw [atKey_some de tb]
  simpa using q
theorem in_dk (hP : X.prog = g.P) (hw : X.w = g.w) : OpR X (compareOp .In) (rInDk g false) := by
  intro pins s σ H x y v u Q I rx ry ⟨p, kvs, o, kk, ey, hH, d, ex, q⟩
  subst ey ex
  cases ry
  obtain ⟨vs, rel, dd⟩ := dk_heap I hP hw hH d
  refine wpAny_in_of (kV_is rx) d.sys dd.mapOf ⟨.bl (valV kvs kk).isSome, H, I.tok _, ?_, by simpa using q⟩
  show Value.bool _ = Value.bool _
  rw [(rel.val kk).isSome_eq]
theorem notIn_dk (hP : X.prog = g.P) (hw : X.w = g.w) : OpR X (compareOp .NotIn) (rInDk g true) := by
  intro pins s σ H x y v u Q I rx ry ⟨p, kvs, o, kk, ey, hH, d, ex, q⟩
  subst ey ex
  cases ry
  obtain ⟨vs, rel, dd⟩ := dk_heap I hP hw hH d
  refine wpAny_notIn_of (kV_is rx) d.sys dd.mapOf ⟨.bl (!(valV kvs kk).isSome), H, I.tok _, ?_, by simpa using q⟩
  show Value.bool _ = Value.bool _
  rw [(rel.val kk).isSome_eq]
/-- x in y of anything -/
def opInD (neg : Bool) : P2 := fun h a b => match dctOf h b with
  | some (true, ks, vs) => (match tkey a with
    | true => some (.bl (xor neg (dget ks vs a).isSome), h)
    | false => none)
  | some (false, ks, vs) => (match isKey a with
    | true => some (.bl (xor neg (dget ks vs a).isSome), h)
    | false => none)
  | none => opIn neg h a b
theorem opInD_or {neg : Bool} {op : CmpOp} (hK : X.K = g.K) (h1 : OpR X (compareOp op) (rInDt g neg)) (h2 : OpR X (compareOp op) (rInDk g neg)) (h3 : OpR X (compareOp op) (rL g (opIn neg))) : OpR X (compareOp op) (rL g (opInD neg)) :=
  OpR.to (OpR.or h1 (OpR.or h2 h3)) fun ω hh H a b x y Q r ra rb o => by
    unfold opInD at o
    cases e : dctOf hh b with
    | none => simp only [e] at o; exact .inr (.inr ⟨ω, hh, a, b, r, ra, rb, o⟩)
    | some td =>
      obtain ⟨t, ks, vs⟩ := td
      simp only [e] at o
      cases t with
      | true =>
        cases h1 : tkey a with
        | false => simp only [h1] at o; exact o.elim
        | true =>
          simp only [h1] at o
          exact .inl ⟨ω, hh, a, b, ks, vs, r, ra, rb, e, h1, o ω _ H .rfl' r (.bl _)⟩
      | false =>
        cases h1 : isKey a with
        | false => simp only [h1] at o; exact o.elim
        | true =>
          simp only [h1] at o
          obtain ⟨p, kvs, ob, rfl, hH, r1, r2, dl⟩ := dk_at r rb e
          obtain ⟨kk, rfl⟩ := isKey_at h1 ra
          have q := dget_dk ra r1 r2
          refine .inr (.inl ⟨p, kvs, ob, kk, rfl, hH, dl, rfl, ?_⟩)
          have e2 : (valV kvs kk).isSome = (dget ks vs a).isSome := by
            cases e3 : dget ks vs a with
            | none => rw [e3] at q; rw [q]; rfl
            | some v => rw [e3] at q; obtain ⟨u, q, _⟩ := q; rw [q]; rfl
          rw [e2]
          exact o ω _ H .rfl' r (.bl _)
theorem op_inD (hP : X.prog = g.P) (hK : X.K = g.K) (hw : X.w = g.w) (hr : Room k X.A) : OpR X (compareOp .In) (rL g (opInD false)) := opInD_or hK (in_dt hK hw hr) (in_dk hP hw) (op_inL hK hr)
theorem op_notInD (hP : X.prog = g.P) (hK : X.K = g.K) (hw : X.w = g.w) (hr : Room k X.A) : OpR X (compareOp .NotIn) (rL g (opInD true)) := opInD_or hK (notIn_dt hK hw hr) (notIn_dk hP hw) (op_notInL hK hr)

def setIx : LHeap → Val → Val → Val → Option LHeap := fun h a b v => match a with
  | .obj d n => (match below (d + 1) v with
    | true => (match look h d n with
      | some (.lst xs) => (match b with
        | .int i => (match ixN xs.length i with
          | some j => some (setAt h d n (.lst (xs.set j v)))
          | none => none)
        | _ => none)
      | some (.dct true ks vs) => (match tkey b with
        | true => (match dput ks vs b v with
          | some vs' => some (setAt h d n (.dct true ks vs'))
          | none => (match lim (ks.length + 1) with
            | true => some (setAt h d n (.dct true (ks ++ [b]) (vs ++ [v])))
            | false => none))
        | false => none)
      | some (.dct false ks vs) => (match isKey b with
        | true => (match dput ks vs b v with
          | some vs' => some (setAt h d n (.dct false ks vs'))
          | none => (match lim (ks.length + 1) with
            | true => some (setAt h d n (.dct false (ks ++ [b]) (vs ++ [v])))
            | false => none))
        | false => none)
      | _ => none)
    | false => none)
  | _ => none
abbrev P3 := LHeap → Val → Val → Val → Option LHeap
def rS (g : Pg) (F : P3) : TSet := fun o i v H Q => ∃ ω hh a b c, HRel g ω hh H ∧ RV g ω a o ∧ RV g ω b i ∧ RV g ω c v ∧ match F hh a b c with
  | some h' => ∀ ω' H', WLe ω ω' → HRel g ω' h' H' → Q H'
  | none => False
theorem PSet.or {t t' : TSet} (h : PSet X t) (h' : PSet X t') : PSet X (fun o i v H Q => t o i v H Q ∨ t' o i v H Q) := by
  intro pins s σ H o i v ov iv u Q I ro ri rv q
  rcases q with q | q
  · exact h pins s σ H o i v ov iv u Q I ro ri rv q
  · exact h' pins s σ H o i v ov iv u Q I ro ri rv q
theorem RVs.lowered {ω : Wd} {d : Nat} : ∀ {xs : List Val} {us : List V}, RVs g ω xs us → d < ω.r.length → belows (d + 1) xs = true → RVs g ⟨ω.Z, low d ω.r, []⟩ xs us
  | _, _, .nil, _, _ => .nil
  | _, _, .cons a b, hd, h => .cons (RV.lowered hd a (belows_cons.mp h).1) (RVs.lowered b hd (belows_cons.mp h).2)
/-- the entries after a store, in a dict of whole numbers and texts -/
theorem dput_dk {ω : Wd} {x w : Val} {k : Key} {y : V} (rx : RV g ω x (kV k)) (rw' : RV g ω w y) : ∀ {kvs : List (Key × V)} {ks vs : List Val}, RVs g ω ks (kvs.map fun p => kV p.1) → RVs g ω vs (kvs.map (·.2)) → (kvs.map (·.1)).Nodup →
    match dput ks vs x w with
    | some vs' => (kvs.any fun kv => decide (kv.1 = k)) = true ∧ RVs g ω vs' ((kvs.map fun kv => if kv.1 = k then (kv.1, y) else kv).map (·.2))
    | none => (kvs.any fun kv => decide (kv.1 = k)) = false
  | [], _, _, .nil, .nil, _ => rfl
  | p :: kvs, _, _, .cons (x := k1) (xs := ks) r1 t1, .cons (x := v1) (xs := vs) r2 t2, nd => by
    rw [List.map_cons, List.nodup_cons] at nd
    unfold dput
    have h := veq_kV r1 rx
    cases q : veq k1 x with
    | true =>
      rw [q] at h
      have h' : p.1 = k := of_decide_eq_true h.symm
      refine ⟨by simp [h'], ?_⟩
      have hn : ∀ kv ∈ kvs, ¬ kv.1 = k := fun kv hkv e => nd.1 (by rw [h', ← e]; exact List.mem_map.mpr ⟨kv, hkv, rfl⟩)
      have hm : (kvs.map fun kv => if kv.1 = k then (kv.1, y) else kv) = kvs := by
        conv => rhs; rw [← List.map_id kvs]
        exact List.map_congr_left fun kv hkv => by rw [if_neg (hn kv hkv)]; rfl
      rw [List.map_cons, if_pos h', hm]
      exact .cons rw' t2
    | false =>
      rw [q] at h
      have h' : ¬ p.1 = k := of_decide_eq_false h.symm
      have ih := dput_dk rx rw' t1 t2 nd.2
      dsimp only
      cases e : dput ks vs x w with
      | some vs' =>
        rw [e] at ih
        obtain ⟨i1, i2⟩ := ih
        refine ⟨by rw [List.any_cons, i1, Bool.or_true], ?_⟩
        rw [List.map_cons, if_neg h']
        exact .cons r2 i2
      | none =>
        rw [e] at ih
        show ((p :: kvs).any fun kv => decide (kv.1 = k)) = false
        rw [List.any_cons, ih, Bool.or_false]
        exact decide_eq_false h'
theorem KV_keys {kvs : List (Key × V)} {vs : List (Key × Value)} (r : Paired (fun p q => p.1 = q.1 ∧ L2.RelV p.2 q.2) kvs vs) : kvs.map (·.1) = vs.map (·.1) := by
  induction r with
  | nil => rfl
  | cons r _ ih => rw [List.map_cons, List.map_cons, ih, r.1]
theorem dl_nodup {a : Addr} {kvs : List (Key × V)} {o : Obj} (d : DL g a kvs o) : (kvs.map (·.1)).Nodup := by
  obtain ⟨vs, es, ep, h1, _, _, _, _, h6⟩ := d.ob
  rw [KV_keys h1]; exact h6
theorem keys_belowV {ω : Wd} {D : Nat} {ks : List Val} {kvs : List (Key × V)} (r : RVs g ω ks (kvs.map fun p => kV p.1)) : belows D ks = true := keys_below r
theorem putK_eq (kvs : List (Key × V)) (k : Key) (v : V) : putK kvs k v = if kvs.any (fun kv => decide (kv.1 = k)) then kvs.map (fun kv => if kv.1 = k then (kv.1, v) else kv) else kvs ++ [(k, v)] := rfl
theorem set_dkL (hP : X.prog = g.P) (hw : X.w = g.w) {pins : List (Addr × Obj)} {s : Shared} {σ : L2.St} {H : Hp} {ω : Wd} {hh : LHeap} {d n : Nat} {a : Addr} {b c : Val} {i v : V} {iv u : Value} {ks vs : List Val} {Q : Hp → Prop} (I : Inv X pins σ H s) (r : HRel g ω hh H) (e : look hh d n = some (.dct false ks vs)) (hl : look ω.r d n = some a)
    (ri : RelV i iv) (rv : RelV v u) (rb : RV g ω b i) (rc : RV g ω c v) (kb : isKey b = true) (hb : below (d + 1) c = true)
    (q : match (match dput ks vs b c with
          | some vs' => some (setAt hh d n (.dct false ks vs'))
          | none => (match lim (ks.length + 1) with
            | true => some (setAt hh d n (.dct false (ks ++ [b]) (vs ++ [c])))
            | false => none)) with
      | some h' => ∀ ω' H', WLe ω ω' → HRel g ω' h' H' → Q H'
      | none => False) :
    wpAny (model X.prog X.w) X.A (setItem (.ref a) iv u) (fun _ s' => ∃ H', Inv X pins σ H' s' ∧ Q H') X.xe s := by
  obtain ⟨kvs, ob, hH, r1, r2, dl⟩ := (HR.lookLow r.hr e hl).dk'
  have nd := dl_nodup dl
  obtain ⟨kk, rfl⟩ := isKey_at kb rb
  have hd := look_lt hl
  have rb' : RV g ⟨ω.Z, low d ω.r, []⟩ b (kV kk) := RV.lowered hd rb (by cases b <;> first | rfl | exact absurd kb Bool.false_ne_true)
  have rc' := RV.lowered hd rc hb
  have dp := dput_dk rb' rc' r1 r2 nd
  have hlen : kvs.length = ks.length := by have := r1.length; simpa using this
  obtain ⟨vs0, rel, dd⟩ := dk_heap I hP hw hH dl
  have hz0 : vs0.length ≤ sizeLine := by rw [← rel.length]; exact dl.len
  have fin : ∀ (ks' vs' : List Val) (h' : Heap) (tk : Nat), (putK kvs kk v).length ≤ sizeLine → RVs g ⟨ω.Z, low d ω.r, []⟩ ks' ((putK kvs kk v).map fun p => kV p.1) → RVs g ⟨ω.Z, low d ω.r, []⟩ vs' ((putK kvs kk v).map (·.2)) → h'.DictOf (mixKind X.prog X.w) a (stored vs0 kk u) → Heap.SameBut a s.heap h' →
      (∀ ω' H', WLe ω ω' → HRel g ω' (setAt hh d n (.dct false ks' vs')) H' → Q H') → ∃ H', Inv X pins σ H' { s with heap := h', toks := tk } ∧ Q H' := fun ks' vs' h' tk hz k1 k2 dd' hs qq => by
    obtain ⟨o', es, ep, g1, g2, g3, g4, g5, g6⟩ := dd'
    refine ⟨_, d_write (ob := dctO a o') I (by rw [hH]; exact True.intro) hs ⟨o', g1⟩ (dctO_ok g1), qq ω _ .rfl' (r.write hl (.dk k1 k2 ⟨dl.sys, hz, stored vs0 kk u, es, ep, rel.put kk rv, g2, g3, ?_, ?_, g6⟩))⟩
    · rw [← hP, ← hw]; exact g4
    · rw [← hP, ← hw]; exact g5
  refine wpAny_setItem_pairs (hsz := hz0) (kV_is ri) dd fun h' dd' hs => ?_
  cases ed : dput ks vs b c with
  | some vs' =>
    rw [ed] at dp q
    obtain ⟨i1, i2⟩ := dp
    have hput : putK kvs kk v = kvs.map (fun kv => if kv.1 = kk then (kv.1, v) else kv) := by rw [putK_eq, i1]; rfl
    refine fin ks vs' h' _ (by rw [hput, List.length_map]; exact dl.len) ?_ (by rw [hput]; exact i2) dd' hs q
    have hkeys : (putK kvs kk v).map (fun p => kV p.1) = kvs.map fun p => kV p.1 := by
      rw [hput, List.map_map]
      exact List.map_congr_left fun p _ => by
        show kV (if p.1 = kk then (p.1, v) else p).1 = _
        split <;> rfl
    rw [hkeys]; exact r1
  | none =>
    rw [ed] at dp q
    cases ek : lim (ks.length + 1) with
    | false => simp only [ek] at q
    | true =>
      simp only [ek] at q
      have hput : putK kvs kk v = kvs ++ [(kk, v)] := by rw [putK_eq, dp]; rfl
      refine fin _ _ h' _ (by rw [hput]; have := lim_le ek; simp; omega) ?_ ?_ dd' hs q
      · rw [hput, List.map_append]; exact r1.append (.cons rb' .nil)
      · rw [hput, List.map_append]; exact r2.append (.cons rc' .nil)
theorem set_dtL (hK : X.K = g.K) (hw : X.w = g.w) (hr : Room k X.A) {pins : List (Addr × Obj)} {s : Shared} {σ : L2.St} {H : Hp} {ω : Wd} {hh : LHeap} {d n : Nat} {a : Addr} {b c : Val} {i v : V} {iv u : Value} {ks vs : List Val} {Q : Hp → Prop} (I : Inv X pins σ H s) (r : HRel g ω hh H) (e : look hh d n = some (.dct true ks vs)) (hl : look ω.r d n = some a)
    (ri : RelV i iv) (rv : RelV v u) (rb : RV g ω b i) (rc : RV g ω c v) (kb : tkey b = true) (hb : below (d + 1) c = true)
    (q : match (match dput ks vs b c with
          | some vs' => some (setAt hh d n (.dct true ks vs'))
          | none => (match lim (ks.length + 1) with
            | true => some (setAt hh d n (.dct true (ks ++ [b]) (vs ++ [c])))
            | false => none)) with
      | some h' => ∀ ω' H', WLe ω ω' → HRel g ω' h' H' → Q H'
      | none => False) :
    wpAny (model X.prog X.w) X.A (setItem (.ref a) iv u) (fun _ s' => ∃ H', Inv X pins σ H' s' ∧ Q H') X.xe s := by
  have hd := look_lt hl
  obtain ⟨ys, us, ob, hH, r1, r2, dk⟩ := (HR.lookLow r.hr e hl).dt'
  have hz' : ∀ a o, (⟨ω.Z, low d ω.r, []⟩ : Wd).Z a = some o → H a = some o := r.z
  obtain ⟨xs, de, hD, nd, hz⟩ := dt_heap I hz' hK hw hH r1 r2 dk
  have rb' : RV g ⟨ω.Z, low d ω.r, []⟩ b i := RV.lowered hd rb (keyN_below 8 (tkey_keyN kb))
  have rc' := RV.lowered hd rc hb
  obtain ⟨p, rfl, rfl, hk⟩ := RV.tkey I hz' hK rb' kb ri
  have fin : ∀ (ks' vs' : List Val) (xs' : List NX) (h' : Heap) (tk : Nat), DE g ⟨ω.Z, low d ω.r, []⟩ ks' vs' xs' → xs'.length ≤ sizeLine → h'.DictOfH (nestedKind X.prog X.w) a xs' → Heap.SameBut a s.heap h' → (∀ ω' H', WLe ω ω' → HRel g ω' (setAt hh d n (.dct true ks' vs')) H' → Q H') →
      ∃ H', Inv X pins σ H' { s with heap := h', toks := tk } ∧ Q H' := fun ks' vs' xs' h' tk de' hz2 hD' hs qq => by
    have hnd : (xs'.map (·.1)).Nodup := by obtain ⟨_, _, _, _, _, _, _, _, nd⟩ := hD'; exact nd
    obtain ⟨o', es, ep, g1, g2, g3, g4, _, _⟩ := hD'
    obtain ⟨ys', us', b1, b2, b3, b4, b5, b6⟩ := de'.back (P := X.prog)
    have e4 : es.toList = xs'.map (entryOfKey (nestedKind X.prog g.w)) := by rw [g4, hw]
    have hsz : es.size ≤ sizeLine := by
      have : es.toList.length = xs'.length := by rw [e4, List.length_map]
      rw [Array.length_toList] at this
      omega
    exact ⟨_, d_write (ob := dctO a o') I (by rw [hH]; exact True.intro) hs ⟨o', g1⟩ (dctO_ok g1), qq ω _ .rfl' (r.write hl (.dt b1 b2 ⟨dk.sys, ⟨es, ep, g2, g3, hsz, by rw [e4]; exact b3, by rw [e4]; exact b4, by rw [e4]; exact b5⟩, b6, by rw [← de'.keys]; exact hnd⟩))⟩
  refine wpAny_setItem_heap (hsz := hz) (room8 hr) hk hD fun h' hD' hs => ?_
  cases ed : dput ks vs b c with
  | some vs' =>
    rw [ed] at q
    have hg : (dget ks vs b).isSome = true := by rw [← dput_get (w := c), ed]; rfl
    obtain ⟨v0, hv0⟩ := Option.isSome_iff_exists.mp hg
    obtain ⟨p0, u0, a1, _, _⟩ := de.get (tkey_keyN kb) hv0
    rw [storedH_old a1] at hD'
    exact fin ks vs' _ h' _ (de.put (tkey_keyN kb) rc' rv nd ed) (by rw [List.length_map]; exact hz) hD' hs q
  | none =>
    rw [ed] at q
    have hg : dget ks vs b = none := by
      cases e0 : dget ks vs b with
      | none => rfl
      | some _ => have := dput_get (x := b) (w := c) (ks := ks) (vs := vs); rw [ed, e0] at this; cases this
    rw [storedH_new (de.getN (tkey_keyN kb) hg)] at hD'
    cases ek : lim (ks.length + 1) with
    | false => simp only [ek] at q
    | true =>
      simp only [ek] at q
      exact fin _ _ _ h' _ (de.snoc kb rb' rc' rv) (by rw [List.length_append, de.len]; exact lim_le ek) hD' hs q
theorem set_L (hP : X.prog = g.P) (hK : X.K = g.K) (hw : X.w = g.w) (hr : Room k X.A) : PSet X (rS g setIx) := by
  intro pins s σ H o i v ov iv u Q I ro ri rv ⟨ω, hh, a, b, c, r, ra, rb, rc, q⟩
  unfold setIx at q
  cases a with
  | obj d n =>
    cases hb : below (d + 1) c with
    | false => simp only [hb] at q
    | true =>
      cases e : look hh d n with
      | none => simp only [hb, e] at q
      | some ob =>
        obtain ⟨p, rfl, hl, _⟩ := obj_at r ra e
        cases ro
        cases ob with
        | ins c fs => simp only [hb, e] at q
        | dct t ks vs =>
          cases t with
          | true =>
            cases kb : tkey b with
            | false => simp only [hb, e, kb] at q
            | true =>
              simp only [hb, e, kb] at q
              exact set_dtL hK hw hr I r e hl ri rv rb rc kb hb q
          | false =>
            cases kb : isKey b with
            | false => simp only [hb, e, kb] at q
            | true =>
              simp only [hb, e, kb] at q
              exact set_dkL hP hw I r e hl ri rv rb rc kb hb q
        | lst xs =>
          cases b with
          | int j =>
            cases ej : ixN xs.length j with
            | none => simp only [hb, e, ej] at q
            | some m =>
              simp only [hb, e, ej] at q
              cases rb
              obtain ⟨us, hH, rs⟩ := (HR.lookLow r.hr e hl).lst'
              have hd := look_lt hl
              refine set_list pins s σ H (.ref p) (.int j) v (.ref p) iv u Q I (show RelV (.ref p) (.ref p) from rfl) ri rv ⟨p, us, j, m, rfl, rfl, hH, by rw [rs.length]; exact ej, q ω _ .rfl' (r.write hl (.lst (rs.set (RV.lowered hd rc hb) m)))⟩
          | _ => simp only [hb, e] at q
  | _ => exact q.elim
/-- o[i] = .. -/
def gsub (o i : LE) : LG := fun v env h => (o env h).bind fun a h1 => (i env h1).bind fun b h2 => match setIx h2 a b v with
  | some h3 => .ok env h3
  | none => .err
theorem tL.stepG {le : LE} {f : Val → LHeap → Res Env} {σ : L2.St} {H : Hp} {Q : L2.St → Hp → Prop} {Q' : V → Hp → Prop} {ω : Wd} {env : Env} {h : LHeap} (s : SRel g ω env σ) (r : HRel g ω h H) (o : okG g ω ((le env h).bind f) Q)
    (k : ∀ ω' a b h' H', SRel g ω' env σ → HRel g ω' h' H' → RV g ω' a b → WLe ω ω' → okG g ω' (f a h') Q → Q' b H') : tE g E le σ H Q' := by
  refine ⟨ω, env, h, s, r, ?_⟩
  cases q : le env h with
  | ok a h' =>
    rw [q] at o
    exact fun w b H' l hr rr => k w a b h' H' (s.mono l) hr rr l (okG.mono (show okG g ω (f a h') Q from o) l)
  | exc x h' => rw [q] at o; exact o.elim
  | err => rw [q] at o; exact o.elim
theorem g_sub {o i : Expr} {lo li : LE} {pos : Pos} (hP : X.prog = g.P) (hK : X.K = g.K) (hw : X.w = g.w) (hr : Room k X.A) (ho : PE X o (tE g E lo)) (hi : PE X i (tE g E li))
    (ha : ∀ v, assign (.Subscript o i pos) X.env v = (do
      let ov ← holding [v] (eval o X.env)
      let iv ← holding [v, ov] (eval i X.env)
      standAt pos
      holding [v, ov, iv] (setItem ov iv v)
      release [v, ov, iv] []) := by intro _; rfl) : PG X (.Subscript o i pos) (tG g (gsub lo li)) :=
  (pg_sub ho hi (set_L hP hK hw hr) ha).weak fun u σ H Q ⟨ω, env, h, v, s, r, rv, o⟩ => by
    refine tL.stepG (f := fun a h1 => (li env h1).bind fun b h2 => match setIx h2 a b v with
      | some h3 => .ok env h3
      | none => .err) s r o fun ω1 a x h1 H1 s1 r1 ra l1 o1 => ?_
    refine tL.stepG (f := fun b h2 => match setIx h2 a b v with
      | some h3 => .ok env h3
      | none => .err) s1 r1 o1 fun ω2 b y h2 H2 s2 r2 rb l2 o2 => ?_
    refine ⟨ω2, h2, a, b, v, r2, ra.mono l2.to, rb, rv.mono (l1.trans l2).to, ?_⟩
    cases e : setIx h2 a b v with
    | none => rw [e] at o2; exact o2.elim
    | some h3 =>
      rw [e] at o2
      exact fun ω' H' l hr => o2 ω' σ H' l hr (s2.mono l)

def cL (g : Pg) (F : LF) : List V → Hp → VK → Prop := fun us H Q => ∃ ω hh vs, HRel g ω hh H ∧ RVs g ω vs us ∧ okO g ω (F vs hh) Q
theorem CallR.to {f : Value} {r : List V → Hp → VK → Prop} {F : LF} (h : CallR X f r) (w : ∀ (ω : Wd) (hh : LHeap) (H : Hp) (vs : List Val) (us : List V) (Q : VK), HRel g ω hh H → RVs g ω vs us → okO g ω (F vs hh) Q → r us H Q) : CallR X f (cL g F) :=
  fun pins s σ H xs us Q I rs ⟨ω, hh, vs, hr, rv, o⟩ => h pins s σ H xs us Q I rs (w ω hh H vs xs Q hr rv o)
variable {x : Str} {p pos : Pos} {e : Expr} {es : List Expr} {la : LA} {F : LF} {id T : String}
theorem tCL_of {σ : L2.St} {H : Hp} {Q : VK} (t : tE g E (lcall F la) σ H Q) : tA g E la σ H fun us H1 => cL g F us H1 Q := by
  obtain ⟨ω, env, h, s, r, o⟩ := t
  exact tL.step (f := fun _ vs h1 => ofO (F vs h1)) s r o fun ω1 a vs h1 H1 s1 r1 ra l1 o1 => ⟨ω1, h1, a, r1, ra, .of o1⟩
theorem e_callB (hc : CallR X (.builtin id) (cL g F)) (hg : Gl X x) (hm : X.mg x = none) (hv : bootBuiltins x = some (.builtin id)) (ha : PA X (e :: es) (tA g E la)) (hn : x ≠ "__name__" := by decide) (hdb : (x == ("__debug__" : Str)) = false := by decide)
    (he : starEach (e :: es) X.env = (false, eval e X.env) :: starEach es X.env := by rfl) (hpl : (backTo pos (starEach es X.env)).any (·.1) = false := by rfl) : PE X (.Call (.Name x p) (e :: es) [] pos) (tE g E (lcall F la)) :=
  (pe_callB hc hg hm hv ha hn hdb he hpl).weak fun _ _ _ t => tCL_of t
theorem e_callTy (hc : CallR X (.type T) (cL g F)) (hg : Gl X x) (hm : X.mg x = none) (hv : bootBuiltins x = some (.type T)) (ha : PA X (e :: es) (tA g E la)) (hn : x ≠ "__name__" := by decide) (hdb : (x == ("__debug__" : Str)) = false := by decide)
    (he : starEach (e :: es) X.env = (false, eval e X.env) :: starEach es X.env := by rfl) (hpl : (backTo pos (starEach es X.env)).any (·.1) = false := by rfl) : PE X (.Call (.Name x p) (e :: es) [] pos) (tE g E (lcall F la)) :=
  (pe_callTy hc hg hm hv ha hn hdb he hpl).weak fun _ _ _ t => tCL_of t
end
end Li

namespace Li
open PySem PySem.Spec PyProof.Rows L2
section
variable {X : Cx} {g : Pg} {E : EX} {k : Nat}
theorem RVs.one {ω : Wd} {v : Val} {us : List V} (r : RVs g ω [v] us) : ∃ u, us = [u] ∧ RV g ω v u := by
  cases r with | cons a b => cases b; exact ⟨_, rfl, a⟩
theorem RVs.two {ω : Wd} {v w : Val} {us : List V} (r : RVs g ω [v, w] us) : ∃ u y, us = [u, y] ∧ RV g ω v u ∧ RV g ω w y := by
  cases r with | cons a b => obtain ⟨y, rfl, rb⟩ := RVs.one b; exact ⟨_, y, rfl, a, rb⟩

def fLen : LF := fun vs h => match vs with
  | [.str s] => (match lim s.length with
    | true => some (.int (.ofNat s.length), h)
    | false => none)
  | [v] => (match seqOf h v with
    | some xs => some (.int (.ofNat xs.length), h)
    | none => (match dctOf h v with
      | some (_, ks, _) => some (.int (.ofNat ks.length), h)
      | none => none))
  | _ => none
def rLenDt (g : Pg) : List V → Hp → VK → Prop := fun us H Q => ∃ ω hh v u ks vs, us = [u] ∧ HRel g ω hh H ∧ RV g ω v u ∧ dctOf hh v = some (true, ks, vs) ∧ Q (.int (ks.length : Nat)) H
theorem len_dt (hK : X.K = g.K) (hw : X.w = g.w) : CallR X (.builtin "len") (rLenDt g) := by
  intro pins s σ H xs us Q I r ⟨ω, hh, v, u, ks, vs, e, hr, rv, ed, q⟩
  subst e
  obtain ⟨a, ys, us', ws, rfl, hH, r1, r2, dk⟩ := dt_at hr rv ed
  obtain ⟨w, rfl, rx⟩ := vals1 r
  cases rx
  obtain ⟨nx, de, hD, nd, hz⟩ := dt_heap I hr.z hK hw hH r1 r2 dk
  have hs := sizeLine_eq
  refine call_len_dictH dk.sys hD (by omega) ?_
  rw [de.len]
  exact ⟨.int ((ks.length : Nat) : Int), H, I.tok _, ⟨_, rfl⟩, q⟩
def rLenDk (g : Pg) : List V → Hp → VK → Prop := fun us H Q => ∃ a kvs o, us = [V.ref a] ∧ H a = some (dctO a o) ∧ DL g a kvs o ∧ Q (.int ((kvs.length : Nat) : Int)) H
theorem len_dk (hP : X.prog = g.P) (hw : X.w = g.w) : CallR X (.builtin "len") (rLenDk g) := by
  intro pins s σ H xs us Q I r ⟨a, kvs, o, e, hH, d, q⟩
  subst e
  obtain ⟨w, rfl, rx⟩ := vals1 r
  cases rx
  obtain ⟨vs, rel, dd⟩ := dk_heap I hP hw hH d
  have z := d.len
  refine call_len_dict d.sys dd (by rw [← rel.length]; rw [sizeLine_eq] at z; omega) ?_
  rw [← rel.length]
  exact ⟨.int ((kvs.length : Nat) : Int), H, I.tok _, ⟨_, rfl⟩, q⟩
theorem len_L (hP : X.prog = g.P) (hK : X.K = g.K) (hw : X.w = g.w) : CallR X (.builtin "len") (cL g fLen) :=
  CallR.to ((len_dt hK hw).or ((len_dk hP hw).or (call_len_seq.or call_len_str))) fun ω hh H vs us Q r rv o => by
    have go : ∀ v u, us = [u] → RV g ω v u → okO g ω (match seqOf hh v with
        | some xs => some (.int (.ofNat xs.length), hh)
        | none => (match dctOf hh v with
          | some (_, ks, _) => some (.int (.ofNat ks.length), hh)
          | none => none)) Q → rLenDt g us H Q ∨ rLenDk g us H Q ∨ (∃ p ys, us = [.ref p] ∧ (SqL X.K H p ys ∨ SqT X.K H p ys) ∧ Q (.int ys.length) H) := fun v u eu ru o => by
      subst eu
      cases e : seqOf hh v with
      | some xs =>
        simp only [e] at o
        obtain ⟨p, ys, rfl, hs, rs⟩ := seq_at r ru e
        refine .inr (.inr ⟨p, ys, rfl, hK ▸ hs, ?_⟩)
        rw [rs.length]
        exact o ω _ H .rfl' r (.int _)
      | none =>
        simp only [e] at o
        cases ed : dctOf hh v with
        | none => simp only [ed] at o; exact o.elim
        | some td =>
          obtain ⟨t, ks, ws⟩ := td
          simp only [ed] at o
          cases t with
          | true => exact .inl ⟨ω, hh, v, u, ks, ws, rfl, r, ru, ed, o ω _ H .rfl' r (.int _)⟩
          | false =>
            obtain ⟨p, kvs, ob, rfl, hH, r1, r2, dl⟩ := dk_at r ru ed
            refine .inr (.inl ⟨p, kvs, ob, rfl, hH, dl, ?_⟩)
            have hl := r1.length
            rw [List.length_map] at hl
            rw [hl]
            exact o ω _ H .rfl' r (.int _)
    cases vs with
    | nil => exact o.elim
    | cons v vs =>
      cases vs with
      | cons _ _ => cases v <;> exact o.elim
      | nil =>
        obtain ⟨u, rfl, ru⟩ := rv.one
        cases v with
        | str z =>
          refine .inr (.inr (.inr ?_))
          unfold fLen at o
          cases q : lim z.length with
          | false => simp only [q] at o; exact o.elim
          | true =>
            simp only [q] at o
            cases ru with
            | str x hx =>
              refine ⟨x, rfl, by rw [str_len]; exact lim_le q, ?_⟩
              rw [str_len]
              exact o ω _ H .rfl' r (.int _)
        | _ => exact (go _ u rfl ru o).imp id fun h => h.imp id .inl

/-- a value's type, a class: by number -/
def tagOf (h : LHeap) (v : Val) : Option Nat := match v with
  | .non => some 0
  | .bl _ => some 1
  | .int _ => some 2
  | .str _ => some 3
  | .lst _ => some 4
  | .tup _ => some 5
  | .dct _ _ _ => some 6
  | .ins c _ => some (c + 16)
  | .obj d n => (match look h d n with
    | some (.lst _) => some 4
    | some (.dct _ _ _) => some 6
    | some (.ins c _) => some (c + 16)
    | _ => none)
  | _ => none
def tagV (g : Pg) (t : Nat) : Value := match t with
  | 0 => .type "NoneType"
  | 1 => .type "bool"
  | 2 => .type "int"
  | 3 => .type "str"
  | 4 => .type "list"
  | 5 => .type "tuple"
  | 6 => .type "dict"
  | t => .ref (g.ca (t - 16))
def clsN : Val → Option Nat
  | .ty n => (match Nat.blt n 7 with
    | true => some n
    | false => none)
  | .cls c => some (c + 16)
  | _ => none
/-- what isinstance asks of a class -/
structure IsiC (K : PySem.W.Frag) (C : Addr) : Prop where
  cl : Cls K C
  ha : PySem.W.findIn K (.ref C) "__class__" = some (some (.builtin "object.__class__"))
  hn : PySem.W.specialIn K (.builtin "object.__class__") "__get__" = some (some (.builtin "getset_descriptor.__get__"))
  htk : PySem.W.takesIn K (.builtin "object.__class__") = some true
  hm : PySem.W.mroIn K C (.type "object") = some true
/-- a table: for a class, which types are below it -/
abbrev IsiT := List (Nat × List Nat)
def isiLook : IsiT → Nat → Option (List Nat)
  | [], _ => none
  | (c, ts) :: r, n => match Nat.beq c n with
    | true => some ts
    | false => isiLook r n
/-- it is right: for the types in `all` -/
structure IsiOk (g : Pg) (all : List Nat) (it : IsiT) : Prop where
  one : ∀ c ts t, isiLook it c = some ts → memN t all = true → PySem.W.kitOne g.K (tagV g t) (tagV g c) = some (memN t ts)
  cls : ∀ t, memN (t + 16) all = true → IsiC g.K (g.ca t)
def isi1 (all : List Nat) (it : IsiT) (h : LHeap) (v c : Val) : Option Bool := match tagOf h v with
  | some t => (match memN t all with
    | true => (match clsN c with
      | some n => (match isiLook it n with
        | some ts => some (memN t ts)
        | none => none)
      | none => none)
    | false => none)
  | none => none
def isiAny (all : List Nat) (it : IsiT) (h : LHeap) (v : Val) : List Val → Option Bool
  | [] => some false
  | c :: cs => match isi1 all it h v c, isiAny all it h v cs with
    | some true, some _ => some true
    | some false, some b => some b
    | _, _ => none
def fIsi (all : List Nat) (it : IsiT) : LF := fun vs h => match vs with
  | [v, .tup cs] => (match isiAny all it h v cs, tagOf h v with
    | some b, some t => (match memN t all with
      | true => some (.bl b, h)
      | false => none)
    | _, _ => none)
  | [v, c] => (match isi1 all it h v c with
    | some b => some (.bl b, h)
    | none => none)
  | _ => none
/-- a value's type, our dicts among them -/
def TyY (K : PySem.W.Frag) (H : Hp) (x : V) (t : Value) : Prop := TyX K H x t ∨ ∃ a o, x = .ref a ∧ H a = some (dctO a o) ∧ o.cls = .type "dict" ∧ t = .type "dict"
theorem kit_ofY {pins : List (Addr × Obj)} {σ : L2.St} {H : Hp} {s : Shared} {x : V} {u t : Value} (I : Inv X pins σ H s) (rx : RelV x u) (ty : TyY X.K H x t) : ∃ P : Heap → Prop, PySem.W.KitX X.K u t P ∧ P s.heap ∧ u ≠ .builtin "__main__.__loader__#opaque" := by
  rcases ty with ty | ⟨a, o, rfl, hH, hc, rfl⟩
  · exact kit_of I rx ty
  · cases rx
    exact ⟨_, PySem.W.kitx_dict, ⟨o, dct_get I hH, hc⟩, fun z => nomatch z⟩
theorem dct_cls {a : Addr} {ks : List Val} {ys us : List V} {o : Obj} (d : DK g a ks ys us o) : o.cls = .type "dict" := by
  obtain ⟨es, ep, h, _⟩ := d.ob
  exact h.1
theorem dctL_cls {a : Addr} {kvs : List (Key × V)} {o : Obj} (d : DL g a kvs o) : o.cls = .type "dict" := by
  obtain ⟨vs, es, ep, _, h, _⟩ := d.ob
  exact h.1
theorem tag_at {all : List Nat} {it : IsiT} (T : IsiOk g all it) {ω : Wd} {hh : LHeap} {H : Hp} {v : Val} {u : V} {t : Nat} (r : HRel g ω hh H) (rv : RV g ω v u) (e : tagOf hh v = some t) (ha : memN t all = true) : TyY g.K H u (tagV g t) := by
  unfold tagOf at e
  have ins : ∀ c a dx gs, t = c + 16 → H a = some (.ins (g.ca c) dx gs) → TyY g.K H (.ref a) (tagV g t) := fun c a dx gs et hH => by
    subst et
    obtain ⟨c1, c2, c3, c4, c5⟩ := T.cls c ha
    exact .inl (.base (.ins hH c1 c2 c3 c4 c5))
  cases rv with
  | non => cases e; exact .inl (.base .non)
  | bl b => cases e; exact .inl (.base (.bl b))
  | int i => cases e; exact .inl (.base (.int i))
  | str x hx => cases e; exact .inl (.base (.str x))
  | lst a b => cases e; exact .inl (.base (.lst (r.z _ _ a)))
  | tup a b =>
    cases e
    rcases SqT.mono r.z a with q | ⟨o, its, n, hk, hc, _⟩
    · rcases q with q | ⟨o, q⟩
      · exact .inl (.base (.tup q))
      · exact .inl (.fTuple q)
    · exact .inl (.kTuple hk hc)
  | dk a b c d => cases e; exact .inr ⟨_, _, rfl, r.z _ _ a, dctL_cls d, rfl⟩
  | dt a b c d => cases e; exact .inr ⟨_, _, rfl, r.z _ _ a, dct_cls d, rfl⟩
  | ins a b c => exact ins _ _ _ _ (Option.some.inj e).symm (r.z _ _ a)
  | @obj d n a hl =>
    cases e0 : look hh d n with
    | none => simp only [e0] at e; cases e
    | some ob =>
      obtain ⟨a', h1, h2, ro⟩ := obj_at r (.obj hl) e0
      cases h1
      cases ob with
      | lst xs =>
        simp only [e0] at e; cases e
        obtain ⟨ys, hH, _⟩ := ro.lst'
        exact .inl (.base (.lst hH))
      | ins c fs =>
        simp only [e0] at e
        obtain ⟨dx, gs, hH, _⟩ := ro.ins'
        exact ins c a dx gs (Option.some.inj e).symm hH
      | dct t ks vs =>
        simp only [e0] at e; cases e
        cases t with
        | true =>
          obtain ⟨ys, us, o, hH, _, _, d⟩ := ro.dt'
          exact .inr ⟨_, _, rfl, hH, dct_cls d, rfl⟩
        | false =>
          obtain ⟨kvs, o, hH, _, _, d⟩ := ro.dk'
          exact .inr ⟨_, _, rfl, hH, dctL_cls d, rfl⟩
  | cls c => cases e
  | ty n _ => cases e
  | fn f => cases e
  | scr a => cases e
theorem tagV_ty {n : Nat} (h : n < 7) : tagV g n = .type (tyN n) := by
  match n, h with
  | 0, _ => rfl
  | 1, _ => rfl
  | 2, _ => rfl
  | 3, _ => rfl
  | 4, _ => rfl
  | 5, _ => rfl
  | 6, _ => rfl
/-- isinstance(x, (c1, ..)), any tuple -/
def rIsiQ (K : PySem.W.Frag) : List V → Hp → VK → Prop := fun xs H Q => ∃ (x : V) (tp : Addr) (cs : List V) (t : Value) (us : List Value) (b : Bool), xs = [x, .ref tp] ∧ SqT K H tp cs ∧ Paired ClsV cs us ∧ TyY K H x t ∧ PySem.W.kitAny K t us = some b ∧ Q (.bl b) H
def rIsi1 (K : PySem.W.Frag) : List V → Hp → VK → Prop := fun xs H Q => ∃ (x c : V) (t u : Value) (b : Bool), xs = [x, c] ∧ ClsV c u ∧ TyY K H x t ∧ PySem.W.kitOne K t u = some b ∧ Q (.bl b) H
theorem call_isi1 : CallR X (.builtin "isinstance") (rIsi1 X.K) := by
  intro pins s σ H xs us Q I r ⟨x, c, t, u, b, e, k, ty, e', q⟩
  subst e
  obtain ⟨u1, u2, rfl, r1, r2⟩ := vals2 r
  have e2 := k.eq r2
  subst e2
  obtain ⟨P, Z, p, hx⟩ := kit_ofY I r1 ty
  exact PySem.W.kia_one Z I.kIn p e' hx fun tk => ⟨.bl b, H, I.tok tk, rfl, q⟩
theorem call_isiQ : CallR X (.builtin "isinstance") (rIsiQ X.K) := by
  intro pins s σ H xs us Q I r ⟨x, tp, cs, t, ws, b, e, hT, k, ty, e', q⟩
  subst e
  obtain ⟨u1, u2, rfl, r1, r2⟩ := vals2 r
  cases (show u2 = Value.ref tp from r2)
  obtain ⟨P, Z, p, hx⟩ := kit_ofY I r1 ty
  obtain ⟨its, rv, ⟨o, h1, h2, n, h3⟩, _⟩ := I.tuple hT
  have e3 := ClsV.all k rv
  subst e3
  obtain ⟨oc, od, dt, sl⟩ := o
  simp only at h2 h3
  subst h2 h3
  exact PySem.W.kia_tup Z I.kIn p h1 e' hx fun tk => ⟨.bl b, H, I.tok tk, rfl, q⟩
end
section
variable {X : Cx} {g : Pg} {E : EX} {k : Nat}
/-- the class's number is a built-in's, or an own one's -/
theorem isi1_at {all : List Nat} {it : IsiT} (T : IsiOk g all it) {ω : Wd} {hh : LHeap} {H : Hp} {v c : Val} {u y : V} {b : Bool} (r : HRel g ω hh H) (rv : RV g ω v u) (rc : RV g ω c y) (e : isi1 all it hh v c = some b) :
    ∃ t w, tagOf hh v = some t ∧ memN t all = true ∧ ClsV y w ∧ PySem.W.kitOne g.K (tagV g t) w = some b := by
  unfold isi1 at e
  cases e1 : tagOf hh v with
  | none => simp only [e1] at e; cases e
  | some t =>
    cases e2 : memN t all with
    | false => simp only [e1, e2] at e; cases e
    | true =>
      cases e3 : clsN c with
      | none => simp only [e1, e2, e3] at e; cases e
      | some n =>
        cases e4 : isiLook it n with
        | none => simp only [e1, e2, e3, e4] at e; cases e
        | some ts =>
          simp only [e1, e2, e3, e4] at e
          cases e
          have h1 := T.one n ts t e4 e2
          refine ⟨t, tagV g n, rfl, e2, ?_, h1⟩
          cases rc with
          | ty m _ =>
            have e3' : (match Nat.blt m 7 with | true => some m | false => none) = some n := e3
            cases q : Nat.blt m 7 with
            | false => rw [q] at e3'; cases e3'
            | true =>
              rw [q] at e3'
              cases e3'
              rw [tagV_ty (Nat.le_of_ble_eq_true q)]; exact .ty _
          | cls m =>
            cases e3
            show ClsV (.ref (g.ca m)) (tagV g (m + 16))
            exact .own _
          | _ => cases e3
theorem isiAny_at {all : List Nat} {it : IsiT} (T : IsiOk g all it) {ω : Wd} {hh : LHeap} {H : Hp} {v : Val} {u : V} {t : Nat} (r : HRel g ω hh H) (rv : RV g ω v u) (et : tagOf hh v = some t) : ∀ {cs : List Val} {ys : List V} {b : Bool}, RVs g ω cs ys → isiAny all it hh v cs = some b →
    (cs = [] ∨ memN t all = true) ∧ ∃ ws, Paired ClsV ys ws ∧ PySem.W.kitAny g.K (tagV g t) ws = some b
  | [], _, _, .nil, e => by
    cases e
    exact ⟨.inl rfl, [], .nil, rfl⟩
  | c :: cs, _, _, .cons (y := y) rc rs, e => by
    have e' : (match isi1 all it hh v c, isiAny all it hh v cs with
      | some true, some _ => some true
      | some false, some b => some b
      | _, _ => none) = some _ := e
    cases e1 : isi1 all it hh v c with
    | none => rw [e1] at e'; cases e'
    | some b1 =>
      cases e2 : isiAny all it hh v cs with
      | none => rw [e1, e2] at e'; cases b1 <;> cases e'
      | some b2 =>
        rw [e1, e2] at e'
        obtain ⟨t', w, ht, hm, hc, hk⟩ := isi1_at T r rv rc e1
        rw [et] at ht; cases ht
        obtain ⟨_, ws, h1, h2⟩ := isiAny_at T r rv et rs e2
        refine ⟨.inr hm, w :: ws, .cons hc h1, ?_⟩
        unfold PySem.W.kitAny
        rw [hk]
        cases b1 with
        | true => cases e'; rfl
        | false => cases e'; exact h2
theorem isi_L {all : List Nat} {it : IsiT} (hK : X.K = g.K) (T : IsiOk g all it) : CallR X (.builtin "isinstance") (cL g (fIsi all it)) :=
  CallR.to (call_isi1.or call_isiQ) fun ω hh H vs us Q r rv o => by
    rw [hK]
    have one : ∀ v c u y, us = [u, y] → RV g ω v u → RV g ω c y → okO g ω (match isi1 all it hh v c with
        | some b => some (.bl b, hh)
        | none => none) Q → rIsi1 g.K us H Q := fun v c u y e ru ry o => by
      cases e1 : isi1 all it hh v c with
      | none => simp only [e1] at o; exact o.elim
      | some b =>
        simp only [e1] at o
        obtain ⟨t, w, ht, hm, hc, hk⟩ := isi1_at T r ru ry e1
        exact ⟨u, y, _, w, b, e, hc, tag_at T r ru ht hm, hk, o ω _ H .rfl' r (.bl b)⟩
    cases vs with
    | nil => exact o.elim
    | cons v vs =>
      cases vs with
      | nil => exact o.elim
      | cons c vs =>
        cases vs with
        | cons _ _ => cases c <;> exact o.elim
        | nil =>
          obtain ⟨u, y, rfl, ru, ry⟩ := rv.two
          cases c with
          | tup cs =>
            right
            have o' : okO g ω (match isiAny all it hh v cs, tagOf hh v with
              | some b, some t => (match memN t all with
                | true => some (.bl b, hh)
                | false => none)
              | _, _ => none) Q := o
            cases e1 : isiAny all it hh v cs with
            | none => simp only [e1] at o'; exact o'.elim
            | some b =>
              cases e2 : tagOf hh v with
              | none => simp only [e1, e2] at o'; exact o'.elim
              | some t =>
                cases hm : memN t all with
                | false => simp only [e1, e2, hm] at o'; exact o'.elim
                | true =>
                  simp only [e1, e2, hm] at o'
                  cases ry with
                  | tup a rs =>
                    obtain ⟨_, ws, h1, h2⟩ := isiAny_at T r ru e2 rs e1
                    exact ⟨u, _, _, _, ws, b, rfl, SqT.mono r.z a, h1, tag_at T r ru e2 hm, h2, o' ω _ H .rfl' r (.bl b)⟩
          | _ => exact .inl (one v _ u y rfl ru ry o)

def blsOf : List Val → Option (List Bool)
  | [] => some []
  | .bl b :: xs => (match blsOf xs with
    | some bs => some (b :: bs)
    | none => none)
  | _ => none
def allOf : List Bool → Bool
  | [] => true
  | true :: bs => allOf bs
  | false :: _ => false
def anyOf : List Bool → Bool
  | [] => false
  | true :: _ => true
  | false :: bs => anyOf bs
theorem allOf_eq : ∀ {bs : List Bool}, bs.all id = allOf bs
  | [] => rfl
  | true :: bs => by rw [List.all_cons, allOf_eq]; rfl
  | false :: bs => by rw [List.all_cons]; rfl
theorem anyOf_eq : ∀ {bs : List Bool}, bs.any id = anyOf bs
  | [] => rfl
  | true :: bs => by rw [List.any_cons]; rfl
  | false :: bs => by rw [List.any_cons, anyOf_eq]; rfl
theorem bls_at {ω : Wd} : ∀ {xs : List Val} {us : List V} {bs : List Bool}, RVs g ω xs us → blsOf xs = some bs → us = bs.map V.bl
  | [], _, _, .nil, e => by cases e; rfl
  | x :: xs, _, _, .cons a b, e => by
    cases a with
    | bl k =>
      unfold blsOf at e
      cases e1 : blsOf xs with
      | none => simp only [e1] at e; cases e
      | some bs =>
        simp only [e1] at e; cases e
        rw [List.map_cons, ← bls_at b e1]
    | _ => cases e
def fBls (f : List Bool → Bool) : LF := fun vs h => match vs with
  | [v] => (match lstOf h v with
    | some xs => (match blsOf xs with
      | some bs => some (.bl (f bs), h)
      | none => none)
    | none => none)
  | _ => none
theorem fBls_at {f : List Bool → Bool} {ω : Wd} {hh : LHeap} {H : Hp} {vs : List Val} {us : List V} {Q : VK} (r : HRel g ω hh H) (rv : RVs g ω vs us) (o : okO g ω (fBls f vs hh) Q) : ∃ (a : Addr) (bs : List Bool), us = [V.ref a] ∧ SqL g.K H a (bs.map V.bl) ∧ Q (.bl (f bs)) H := by
  unfold fBls at o
  cases vs with
  | nil => exact o.elim
  | cons v vs =>
    cases vs with
    | cons _ _ => exact o.elim
    | nil =>
      obtain ⟨u, rfl, ru⟩ := rv.one
      cases e1 : lstOf hh v with
      | none => simp only [e1] at o; exact o.elim
      | some xs =>
        cases e2 : blsOf xs with
        | none => simp only [e1, e2] at o; exact o.elim
        | some bs =>
          simp only [e1, e2] at o
          obtain ⟨a, us, rfl, hH, rs⟩ := lst_at r ru e1
          have := bls_at rs e2
          subst this
          exact ⟨a, bs, rfl, SqL.of hH, o ω _ H .rfl' r (.bl _)⟩
theorem all_L (hK : X.K = g.K) (hc : X.calm = true) : CallR X (.builtin "all") (cL g (fBls allOf)) :=
  CallR.to (cr_all hc) fun ω hh H vs us Q r rv o => by
    obtain ⟨a, bs, h1, h2, h3⟩ := fBls_at r rv o
    exact ⟨a, bs, h1, hK ▸ h2, by rw [allOf_eq]; exact h3⟩
theorem any_L (hK : X.K = g.K) (hc : X.calm = true) : CallR X (.builtin "any") (cL g (fBls anyOf)) :=
  CallR.to (cr_any hc) fun ω hh H vs us Q r rv o => by
    obtain ⟨a, bs, h1, h2, h3⟩ := fBls_at r rv o
    exact ⟨a, bs, h1, hK ▸ h2, by rw [anyOf_eq]; exact h3⟩
def fInt : LF := fun vs h => match vs with
  | [.int i] => some (.int i, h)
  | [.bl b] => some (.int (b2i b), h)
  | _ => none
theorem int_L : CallR X (.type "int") (cL g fInt) :=
  CallR.to call_int1 fun ω hh H vs us Q r rv o => by
    cases vs with
    | nil => exact o.elim
    | cons v vs =>
      cases vs with
      | cons _ _ => cases v <;> exact o.elim
      | nil =>
        obtain ⟨u, rfl, ru⟩ := rv.one
        cases v with
        | int i => cases ru; exact .inl ⟨i, rfl, o ω _ H .rfl' r (.int _)⟩
        | bl b => cases ru; exact .inr ⟨b, rfl, by
            have := o ω _ H .rfl' r (.int _)
            cases b <;> exact this⟩
        | _ => exact o.elim
def fBool : LF := fun vs h => match vs with
  | [.int i] => some (.bl (i != 0), h)
  | [.bl b] => some (.bl b, h)
  | _ => none
theorem bool_L : CallR X (.type "bool") (cL g fBool) :=
  CallR.to call_bool1 fun ω hh H vs us Q r rv o => by
    cases vs with
    | nil => exact o.elim
    | cons v vs =>
      cases vs with
      | cons _ _ => cases v <;> exact o.elim
      | nil =>
        obtain ⟨u, rfl, ru⟩ := rv.one
        cases v with
        | int i => cases ru; exact .inl ⟨i, rfl, o ω _ H .rfl' r (.bl _)⟩
        | bl b => cases ru; exact .inr ⟨b, rfl, o ω _ H .rfl' r (.bl _)⟩
        | _ => exact o.elim
def fTup : LF := fun vs h => match vs with
  | [v] => (match seqOf h v with
    | some xs => some (.tup xs, h)
    | none => none)
  | _ => none
theorem tup_L (hK : X.K = g.K) : CallR X (.type "tuple") (cL g fTup) :=
  CallR.to call_tuple_of fun ω hh H vs us Q r rv o => by
    cases vs with
    | nil => exact o.elim
    | cons v vs =>
      cases vs with
      | cons _ _ => exact o.elim
      | nil =>
        obtain ⟨u, rfl, ru⟩ := rv.one
        have o' : okO g ω (match seqOf hh v with
          | some xs => some (.tup xs, hh)
          | none => none) Q := o
        cases e : seqOf hh v with
        | none => rw [e] at o'; exact o'.elim
        | some xs =>
          rw [e] at o'
          cases v with
          | tup ys =>
            cases e
            obtain ⟨a, us, rfl, h1, h2⟩ := tup_at r ru
            exact ⟨a, us, rfl, .inr ⟨hK ▸ h1, o' ω _ H .rfl' r ru⟩⟩
          | lst ys =>
            obtain ⟨a, us, rfl, h1, h2⟩ := lst_at r ru (show lstOf hh (.lst ys) = some xs from e)
            refine ⟨a, us, rfl, .inl ⟨SqL.of h1, fun l hl => ?_⟩⟩
            obtain ⟨h3, l3, rv3⟩ := new_tup r h2 hl
            exact o' _ _ _ l3 h3 rv3
          | obj d n =>
            obtain ⟨a, us, rfl, h1, h2⟩ := lst_at r ru (show lstOf hh (.obj d n) = some xs from e)
            refine ⟨a, us, rfl, .inl ⟨SqL.of h1, fun l hl => ?_⟩⟩
            obtain ⟨h3, l3, rv3⟩ := new_tup r h2 hl
            exact o' _ _ _ l3 h3 rv3
          | _ => cases e
/-- list(x): frozen; laid in the frame -/
def fLst : LF := fun vs h => match vs with
  | [v] => (match seqOf h v with
    | some xs => some (.lst xs, h)
    | none => none)
  | _ => none
def fLstH : LF := fun vs h => match vs with
  | [v] => (match seqOf h v with
    | some xs => pushL xs h
    | none => none)
  | _ => none
theorem lst_L (hK : X.K = g.K) : CallR X (.type "list") (cL g fLst) :=
  CallR.to call_list_of fun ω hh H vs us Q r rv o => by
    cases vs with
    | nil => exact o.elim
    | cons v vs =>
      cases vs with
      | cons _ _ => exact o.elim
      | nil =>
        obtain ⟨u, rfl, ru⟩ := rv.one
        have o' : okO g ω (match seqOf hh v with
          | some xs => some (.lst xs, hh)
          | none => none) Q := o
        cases e : seqOf hh v with
        | none => rw [e] at o'; exact o'.elim
        | some xs =>
          rw [e] at o'
          obtain ⟨a, us, rfl, h1, h2⟩ := seq_at r ru e
          refine ⟨a, us, rfl, hK ▸ h1, fun l hl => ?_⟩
          obtain ⟨h3, l3, rv3⟩ := new_lst r h2 hl
          exact o' _ _ _ l3 h3 rv3
theorem lst_LH (hK : X.K = g.K) : CallR X (.type "list") (cL g fLstH) :=
  CallR.to call_list_of fun ω hh H vs us Q r rv o => by
    cases vs with
    | nil => exact o.elim
    | cons v vs =>
      cases vs with
      | cons _ _ => exact o.elim
      | nil =>
        obtain ⟨u, rfl, ru⟩ := rv.one
        have o' : okO g ω (match seqOf hh v with
          | some xs => pushL xs hh
          | none => none) Q := o
        cases e : seqOf hh v with
        | none => rw [e] at o'; exact o'.elim
        | some xs =>
          rw [e] at o'
          obtain ⟨a, us, rfl, h1, h2⟩ := seq_at r ru e
          exact ⟨a, us, rfl, hK ▸ h1, fun l hl => pushL_ok r h2 hl o'⟩
end
end Li

namespace Li
open PySem PySem.Spec PyProof.Rows L2

def wipeE (env : Env) : List Nat → Env
  | [] => env
  | v :: vs => (wipeE env vs).set v none
theorem SRel.unset {g : Pg} {ω : Wd} {e : Env} {σ : L2.St} (s : SRel g ω e σ) (i : Nat) : SRel g ω (e.set i none) (σ.set i none) := by
  refine ⟨by simpa using s.len, fun j w h => ?_⟩
  by_cases hj : i = j
  · subst hj
    by_cases hi : i < e.length
    · rw [List.getElem?_set_self hi] at h; cases h
    · rw [List.getElem?_eq_none (by simpa using Nat.le_of_not_lt hi)] at h; cases h
  · rw [List.getElem?_set_ne hj] at h ⊢
    exact s.get j w h
theorem SRel.wipe {g : Pg} {ω : Wd} {e : Env} {σ : L2.St} (s : SRel g ω e σ) : ∀ vs : List Nat, SRel g ω (wipeE e vs) (L2.wipe σ vs)
  | [] => s
  | v :: vs => (SRel.wipe s vs).unset v
theorem set_comm (σ : L2.St) (i j : Nat) : (σ.set i (none : Option V)).set j none = (σ.set j none).set i none := by
  by_cases h : i = j
  · subst h; rfl
  · exact List.set_comm _ _ h
theorem wipe_set (σ : L2.St) (i : Nat) : ∀ vs : List Nat, L2.wipe (σ.set i none) vs = (L2.wipe σ vs).set i none
  | [] => rfl
  | v :: vs => by unfold L2.wipe; rw [wipe_set σ i vs, set_comm]
theorem wipe_wipe (σ : L2.St) : ∀ vs : List Nat, L2.wipe (L2.wipe σ vs) vs = L2.wipe σ vs
  | [] => rfl
  | v :: vs => by
    show (L2.wipe ((L2.wipe σ vs).set v none) vs).set v none = (L2.wipe σ vs).set v none
    rw [wipe_set, wipe_wipe σ vs, List.set_set]
theorem wipe_put (σ : L2.St) (i : Nat) (x : Option V) : ∀ vs : List Nat, i ∈ vs → L2.wipe (σ.set i x) vs = L2.wipe σ vs
  | [], h => by cases h
  | v :: vs, h => by
    show (L2.wipe (σ.set i x) vs).set v none = (L2.wipe σ vs).set v none
    by_cases hv : i ∈ vs
    · rw [wipe_put σ i x vs hv]
    · have e : v = i := by
        rcases List.mem_cons.mp h with h | h
        · exact h.symm
        · exact absurd h hv
      subst e
      have : ∀ (vs : List Nat), v ∉ vs → L2.wipe (σ.set v x) vs = (L2.wipe σ vs).set v x := fun vs => by
        induction vs with
        | nil => exact fun _ => rfl
        | cons w ws ih =>
          intro hn
          simp only [List.mem_cons, not_or] at hn
          show (L2.wipe (σ.set v x) ws).set w none = ((L2.wipe σ ws).set w none).set v x
          rw [ih hn.2, List.set_comm _ _ hn.1]
      rw [this vs hv, List.set_set]

/-- a block's target: it changes the block's own names only -/
def Gv (g : Pg) (vs : List Nat) (tg : TG) (t : LG) : Prop := ∀ (ω : Wd) (env : Env) (h : LHeap) (v : Val) (u : V) (σ : L2.St) (H : Hp) (Q : L2.St → Hp → Prop), SRel g ω env σ → HRel g ω h H → RV g ω v u →
  (match t v env h with
    | .ok e1 h1 => ∀ ω' σ2 H2, WLe ω ω' → HRel g ω' h1 H2 → SRel g ω' e1 σ2 → L2.wipe σ2 vs = L2.wipe σ vs → Q σ2 H2
    | _ => False) → tg u σ H Q
def Gvs (g : Pg) (vs : List Nat) (tg : TGs) (t : LGs) : Prop := ∀ (ω : Wd) (env : Env) (h : LHeap) (v : List Val) (u : List V) (σ : L2.St) (H : Hp) (Q : L2.St → Hp → Prop), SRel g ω env σ → HRel g ω h H → RVs g ω v u →
  (match t v env h with
    | .ok e1 h1 => ∀ ω' σ2 H2, WLe ω ω' → HRel g ω' h1 H2 → SRel g ω' e1 σ2 → L2.wipe σ2 vs = L2.wipe σ vs → Q σ2 H2
    | _ => False) → tg u σ H Q
section
variable {g : Pg} {vs : List Nat}
theorem gv_name {i : Nat} (hi : i ∈ vs) : Gv g vs (gName i) (gname i) := fun ω env h v u σ H Q s r rv o =>
  o ω _ H .rfl' r (s.set rv i) (wipe_put σ i _ vs hi)
theorem gvs_nil : Gvs g vs gNil gnil := fun ω env h v u σ H Q s r rv o => by
  cases rv with
  | nil => exact ⟨rfl, o ω _ H .rfl' r s rfl⟩
  | cons _ _ => exact o.elim
theorem gvs_cons {tg : TG} {tgs : TGs} {t : LG} {ts : LGs} (h1 : Gv g vs tg t) (h2 : Gvs g vs tgs ts) : Gvs g vs (gCons tg tgs) (gcons t ts) := fun ω env h v u σ H Q s r rv o => by
  cases rv with
  | nil => exact o.elim
  | @cons x y xs ys ra rr =>
    refine ⟨y, ys, rfl, h1 ω env h x y σ H _ s r ra ?_⟩
    have o' : (match (t x env h).bind fun env1 h1 => ts xs env1 h1 with
      | .ok e1 h1 => ∀ ω' σ2 H2, WLe ω ω' → HRel g ω' h1 H2 → SRel g ω' e1 σ2 → L2.wipe σ2 vs = L2.wipe σ vs → Q σ2 H2
      | _ => False) := o
    cases q : t x env h with
    | exc _ _ => rw [q] at o'; exact o'.elim
    | err => rw [q] at o'; exact o'.elim
    | ok e1 h1' =>
      rw [q] at o'
      intro ω' σ2 H2 l r2 s2 w2
      refine h2 ω' e1 h1' xs ys σ2 H2 Q s2 r2 (rr.mono l.to) ?_
      have o2 : (match ts xs e1 h1' with
        | .ok e1 h1 => ∀ ω' σ2 H2, WLe ω ω' → HRel g ω' h1 H2 → SRel g ω' e1 σ2 → L2.wipe σ2 vs = L2.wipe σ vs → Q σ2 H2
        | _ => False) := o'
      cases q2 : ts xs e1 h1' with
      | exc _ _ => rw [q2] at o2; exact o2.elim
      | err => rw [q2] at o2; exact o2.elim
      | ok e2 h2' =>
        rw [q2] at o2
        exact fun w s' H' l' a b c => o2 w s' H' (l.trans l') a b (c.trans w2)
theorem gv_tup {K : PySem.W.Frag} {n : Nat} {tgs : TGs} {ts : LGs} (hK : K = g.K) (h : Gvs g vs tgs ts) : Gv g vs (gTup K n tgs) (gtupN n ts) := fun ω env hh v u σ H Q s r rv o => by
  cases rv with
  | @tup xs p ys a b =>
    have o' : (match (if xs.length = n then ts xs env hh else .err) with
      | .ok e1 h1 => ∀ ω' σ2 H2, WLe ω ω' → HRel g ω' h1 H2 → SRel g ω' e1 σ2 → L2.wipe σ2 vs = L2.wipe σ vs → Q σ2 H2
      | _ => False) := o
    by_cases hl : xs.length = n
    · rw [if_pos hl] at o'
      exact ⟨p, ys, rfl, hK ▸ SqT.mono r.z a, b.length.trans hl, h ω env hh xs ys σ H Q s r b o'⟩
    · rw [if_neg hl] at o'; exact o'.elim
  | _ => exact o.elim
end

def lyes : LT := fun _ h => .ok true h
theorem _root_.L2.PTs.weak {X : Cx} {e : List Expr} {t t' : TT} (h : PTs X e t) (w : ∀ σ H Q, t' σ H Q → t σ H Q) : PTs X e t' := ⟨fun pins s σ H Q I q => h.run pins s σ H Q I (w σ H Q q)⟩
theorem ts_nil {X : Cx} {g : Pg} {E : EX} : PTs X [] (tT g E lyes) := pts_nil.weak fun σ H Q ⟨ω, env, h, s, r, o⟩ => o ω true H .rfl' r rfl
theorem ts_one {X : Cx} {g : Pg} {E : EX} {c : Expr} {t : LT} (h : PT X c (tT g E t)) : PTs X [c] (tT g E t) := pts_one h

def compV (t : LG) (c : LT) (e : LE) (env : Env) : List Val → LHeap → Res (List Val)
  | [], h => .ok [] h
  | v :: xs, h => match t v env h with
    | .ok e1 h1 => (match c e1 h1 with
      | .ok true h2 => (match e e1 h2 with
        | .ok y h3 => (match compV t c e env xs h3 with
          | .ok ys h4 => .ok (y :: ys) h4
          | _ => .err)
        | _ => .err)
      | .ok false h2 => compV t c e env xs h2
      | _ => .err)
    | _ => .err
def compN (t : LG) (c : LT) (e : LE) (env : Env) (s : Src) : Nat → Nat → LHeap → Res (List Val)
  | 0, _ => fun _ => .err
  | f + 1, i => fun h => match s.at h with
    | none => .err
    | some xs => match xs[i]? with
      | none => .ok [] h
      | some v => match lim (i + 1) with
        | false => .err
        | true => match t v env h with
          | .ok e1 h1 => (match c e1 h1 with
            | .ok true h2 => (match e e1 h2 with
              | .ok y h3 => (match compN t c e env s f (i + 1) h3 with
                | .ok ys h4 => .ok (y :: ys) h4
                | _ => .err)
              | _ => .err)
            | .ok false h2 => compN t c e env s f (i + 1) h2
            | _ => .err)
          | _ => .err
def compS (t : LG) (c : LT) (e : LE) (env : Env) (s : Src) (h : LHeap) : Res (List Val) := match s with
  | .vals xs => (match lim xs.length with
    | true => compV t c e env xs h
    | false => .err)
  | .live d n => compN t c e env (.live d n) 1000000 0 h
theorem lim_of {n m : Nat} (h : lim m = true) (l : n ≤ m) : lim n = true := by
  unfold lim at *
  exact Nat.ble_eq_true_of_le (Nat.le_trans l (Nat.le_of_ble_eq_true h))
theorem compN_vals {t : LG} {c : LT} {e : LE} {env : Env} {xs : List Val} (hl : lim xs.length = true) : ∀ (m i : Nat) (h : LHeap), xs.length + 1 ≤ i + m → i ≤ xs.length → compN t c e env (.vals xs) m i h = compV t c e env (xs.drop i) h := by
  intro m
  induction m with
  | zero => intro i h h1 h2; omega
  | succ m ih =>
    intro i h h1 h2
    unfold compN
    show (match xs[i]? with
      | none => _
      | some v => _) = _
    by_cases hi : i < xs.length
    · rw [List.getElem?_eq_getElem hi, List.drop_eq_getElem_cons hi, lim_of hl (show i + 1 ≤ xs.length from hi)]
      unfold compV
      dsimp only
      cases t xs[i] env h with
      | ok e1 h1' =>
        dsimp only
        cases c e1 h1' with
        | ok b h2' =>
          cases b with
          | true =>
            dsimp only
            cases e e1 h2' with
            | ok y h3' => dsimp only; rw [ih _ _ (by omega) (by omega)]
            | _ => rfl
          | false => exact ih _ _ (by omega) (by omega)
        | _ => rfl
      | _ => rfl
    · rw [List.getElem?_eq_none (by omega), List.drop_eq_nil_of_le (by omega)]
      rfl
def lcomp (it : LI) (vs : List Nat) (t : LG) (c : LT) (e : LE) : LA := fun env h => (it env h).bind fun s h1 => compS t c e (wipeE env vs) s h1
/-- the new list: frozen; laid in the frame -/
def lcF (it : LI) (vs : List Nat) (t : LG) (c : LT) (e : LE) : LE := fun env h => (it env h).bind fun s h1 => match compS t c e (wipeE env vs) s h1 with
  | .ok ys h2 => .ok (.lst ys) h2
  | _ => .err
def lcH (it : LI) (vs : List Nat) (t : LG) (c : LT) (e : LE) : LE := fun env h => (it env h).bind fun s h1 => match compS t c e (wipeE env vs) s h1 with
  | .ok ys h2 => ofO (pushL ys h2)
  | _ => .err
/-- worlds in which the list at D is being made -/
abbrev mkW (ω : Wd) (D : Addr) (us : List V) : Wd := ⟨ω.Z, ω.r, (D, .lst us) :: ω.x⟩
def okC (g : Pg) (ω : Wd) (D : Addr) (acc : List Val) (r : Res (List Val)) (Q : VK) : Prop := match r with
  | .ok ys h => ∀ ω' H' us, WLe (mkW ω D us) ω' → HRel g ω' h H' → RVs g ω' (acc ++ ys) us → Q (.ref D) H'
  | _ => False
section
variable {X : Cx} {g : Pg} {E : EX} {vs : List Nat} {li : LI} {tg : TG} {t : LG} {lc' : LT} {le : LE}
theorem remake {ω ω' : Wd} {D : Addr} {us us' : List V} (l : WLe (mkW ω D us) ω') : WLe (mkW ω D us') ⟨ω'.Z, ω'.r, (D, .lst us') :: ω.x⟩ := ⟨l.z, l.len, l.look, rfl⟩
theorem ghost_at {ω ω' : Wd} {D : Addr} {us : List V} {h : LHeap} {H : Hp} (l : WLe (mkW ω D us) ω') (r : HRel g ω' h H) : H D = some (.lst us) := by
  have e := l.gh
  exact (r.gh (D, .lst us) (by rw [e]; exact List.mem_cons_self)).1
theorem reghostL {ω ω' : Wd} {D : Addr} {us us' : List V} {h : LHeap} {H : Hp} (l : WLe (mkW ω D us) ω') (r : HRel g ω' h H) : HRel g ⟨ω'.Z, ω'.r, (D, .lst us') :: ω.x⟩ h (upd H D (.lst us')) := by
  obtain ⟨Z, rr, gx⟩ := ω'
  have e : gx = (D, .lst us) :: ω.x := l.gh
  subst e
  exact r.reghost
/-- THE CORE: what the lite comprehension asks is what the block asks -/
theorem lc_tree (hgv : Gv g vs tg t) {σ : L2.St} {H1 : Hp} {Q : VK} {ω1 : Wd} {env : Env} {h1 : LHeap} {a : Src} {J : It} (s1 : SRel g ω1 env σ) (r1 : HRel g ω1 h1 H1) (ra : IsIt g ω1 a J) {D : Addr} (hD : H1 D = none)
    (o : okC g ω1 D [] (compS t lc' le (wipeE env vs) a h1) Q) :
    ∃ W : Nat → Nat → Hp → Prop, (∃ m, W 0 m (upd H1 D (.lst []))) ∧ ∀ i m H, W i m H →
      (J.stop i H ∧ Q (.ref D) H) ∨ (J.go i H ∧ ∃ Nx : Hp → Prop, (∀ H', Nx H' → ∃ m', m' < m ∧ W (i + 1) m' H') ∧ ∀ x H', J.yld i H x H' → tg x (L2.wipe σ vs) H' fun σ2 H2 => L2.wipe σ2 vs = L2.wipe σ vs ∧ tT g E0x lc' σ2 H2 fun b H3 =>
        if b = true then tE g E0x le σ2 H3 fun y H4 => ∃ acc, H4 D = some (.lst acc) ∧ acc.length < sizeLine ∧ Nx (upd H4 D (.lst (acc ++ [y]))) else Nx H3) := by
  obtain ⟨m0, o2⟩ : ∃ m, okC g ω1 D [] (compN t lc' le (wipeE env vs) a m 0 h1) Q := by
    cases a with
    | vals xs =>
      refine ⟨xs.length + 1, ?_⟩
      have o' : okC g ω1 D [] (match lim xs.length with
        | true => compV t lc' le (wipeE env vs) xs h1
        | false => .err) Q := o
      cases hl : lim xs.length with
      | false => rw [hl] at o'; exact o'.elim
      | true =>
        rw [hl] at o'
        rw [compN_vals hl _ _ _ (by omega) (by omega)]
        exact o'
    | live d n => exact ⟨1000000, o⟩
  refine ⟨fun i m H => ∃ ω h acc us, WLe (mkW ω1 D us) ω ∧ HRel g ω h H ∧ RVs g ω acc us ∧ acc.length ≤ i ∧ okC g ω1 D acc (compN t lc' le (wipeE env vs) a m i h) Q,
    ⟨m0, mkW ω1 D [], h1, [], [], .rfl', r1.ghost hD, .nil, Nat.le_refl _, o2⟩, fun i m H ⟨ω, h, acc, us, l, r, rs, hi, o⟩ => ?_⟩
  cases m with
  | zero => exact o.elim
  | succ m =>
    unfold compN at o
    cases e1 : a.at h with
    | none => simp only [e1] at o; exact o.elim
    | some xs =>
      simp only [e1] at o
      have lz : WLz ω1 ω := ⟨l.z, l.len, l.look⟩
      obtain ⟨it1, it2⟩ := ra i ω H h xs lz r e1
      cases e2 : xs[i]? with
      | none =>
        simp only [e2] at o
        refine .inl ⟨it2 e2, o ω H us l r (by rw [List.append_nil]; exact rs)⟩
      | some v =>
        simp only [e2] at o
        cases e3 : lim (i + 1) with
        | false => simp only [e3] at o; exact o.elim
        | true =>
          simp only [e3] at o
          obtain ⟨go, yl⟩ := it1 v e2
          refine .inr ⟨go, fun H' => ∃ ω h acc us, WLe (mkW ω1 D us) ω ∧ HRel g ω h H' ∧ RVs g ω acc us ∧ acc.length ≤ i + 1 ∧ okC g ω1 D acc (compN t lc' le (wipeE env vs) a m (i + 1) h) Q, fun H' q => ⟨m, Nat.lt_succ_self m, q⟩, fun x H' y => ?_⟩
          obtain ⟨ω2, l2, r2, rv⟩ := yl x H' y
          have s2 : SRel g ω2 (wipeE env vs) (L2.wipe σ vs) := by
            have := s1.wipe vs
            exact ⟨this.len, fun j w e => let ⟨u, a, b⟩ := this.get j w e; ⟨u, a, b.mono (lz.trans l2.lz).to⟩⟩
          refine hgv ω2 (wipeE env vs) h v x _ H' _ s2 r2 rv ?_
          cases e4 : t v (wipeE env vs) h with
          | exc _ _ => simp only [e4] at o; exact o.elim
          | err => simp only [e4] at o; exact o.elim
          | ok e1' h1' =>
            simp only [e4] at o
            intro ω3 σ2 H2 l3 r3 s3 w3
            refine ⟨w3.trans (wipe_wipe σ vs), ω3, e1', h1', s3, r3, ?_⟩
            cases e5 : lc' e1' h1' with
            | exc _ _ => simp only [e5] at o; exact o.elim
            | err => simp only [e5] at o; exact o.elim
            | ok b h2 =>
              intro ω4 b' H3 l4 r4 eb
              have eb' : b = b' := eb
              subst eb'
              have lg4 : WLe (mkW ω1 D us) ω4 := ((l.trans l2).trans l3).trans l4
              cases b with
              | false =>
                simp only [e5] at o
                rw [if_neg Bool.false_ne_true]
                exact ⟨ω4, h2, acc, us, lg4, r4, rs.mono ((l2.trans l3).trans l4).to, Nat.le_succ_of_le hi, o⟩
              | true =>
                simp only [e5] at o
                rw [if_pos rfl]
                refine ⟨ω4, e1', h2, s3.mono l4, r4, ?_⟩
                cases e6 : le e1' h2 with
                | exc _ _ => simp only [e6] at o; exact o.elim
                | err => simp only [e6] at o; exact o.elim
                | ok y h3 =>
                  simp only [e6] at o
                  intro ω5 u H4 l5 r5 ry
                  have lg5 := lg4.trans l5
                  have hl := rs.length
                  refine ⟨us, ghost_at lg5 r5, by have := lim_le e3; omega, ⟨ω5.Z, ω5.r, (D, .lst (us ++ [u])) :: ω1.x⟩, h3, acc ++ [y], us ++ [u], remake lg5, reghostL lg5 r5, ?_, by simp; omega, ?_⟩
                  · exact RVs.mono (ω := ω5) (ω' := ⟨ω5.Z, ω5.r, (D, .lst (us ++ [u])) :: ω1.x⟩) ⟨fun _ _ h => h, fun _ _ _ h => h⟩ ((rs.mono (((l2.trans l3).trans l4).trans l5).to).append (.cons ry .nil))
                  · cases e7 : compN t lc' le (wipeE env vs) a m (i + 1) h3 with
                    | exc _ _ => simp only [e7] at o; exact o.elim
                    | err => simp only [e7] at o; exact o.elim
                    | ok ys h4 =>
                      simp only [e7] at o
                      intro ω6 H6 us6 l6 r6 rs6
                      exact o ω6 H6 us6 l6 r6 (by rw [List.append_assoc] at rs6; exact rs6)
/-- made: frozen -/
theorem okC_F {σ : L2.St} {ω1 : Wd} {D : Addr} {r : Res (List Val)} {Q : VK} (o : okR g (RV g) ω1 σ E (match r with
    | .ok ys h2 => .ok (.lst ys) h2
    | _ => .err) Q) : okC g ω1 D [] r Q := by
  cases r with
  | exc _ _ => exact o.elim
  | err => exact o.elim
  | ok ys h =>
    intro ω' H' us l r rs
    obtain ⟨Z, rr, gx⟩ := ω'
    have e : gx = (D, .lst us) :: ω1.x := l.gh
    subst e
    obtain ⟨m1, m2⟩ := r.made
    refine o ⟨upd Z D (.lst us), rr, ω1.x⟩ _ H' ⟨fun a o e => m2.z a o (l.z a o e), l.len, fun d n a e => m2.look d n a (l.look d n a e), rfl⟩ m1 (.lst upd_same (rs.mono m2))
theorem okC_H {σ : L2.St} {ω1 : Wd} {D : Addr} {r : Res (List Val)} {Q : VK} (o : okR g (RV g) ω1 σ E (match r with
    | .ok ys h2 => ofO (pushL ys h2)
    | _ => .err) Q) : okC g ω1 D [] r Q := by
  cases r with
  | exc _ _ => exact o.elim
  | err => exact o.elim
  | ok ys h =>
    intro ω' H' us l r rs
    obtain ⟨Z, rr, gx⟩ := ω'
    have e : gx = (D, .lst us) :: ω1.x := l.gh
    subst e
    cases h with
    | nil => exact o.elim
    | cons os h =>
      cases rr with
      | nil => have := r.len; simp at this
      | cons as rr =>
        obtain ⟨m1, m2, m3⟩ := r.madeH (o := .lst ys) (.lst (RVs.mono (ω := ⟨Z, as :: rr, (D, .lst us) :: ω1.x⟩) (ω' := ⟨Z, as :: rr, ω1.x⟩) ⟨fun _ _ h => h, fun _ _ _ h => h⟩ rs))
        refine o _ _ H' ⟨fun a o e => m2.z a o (l.z a o e), ?_, fun d n a e => m2.look d n a (l.look d n a e), rfl⟩ m1 m3
        have := l.len
        simpa using this
end
section
variable {X : Cx} {g : Pg} {E : EX} {elt tg iter : Expr} {ifs : List Expr} {scope : Scope} {own : List (Str × Nat)} {pos : Pos} {li : LI} {gt : TG} {t : LG} {lc' : LT} {le : LE}
theorem e_lcF (hc : X.calm = true) (hN : X.N.Nodup) (hi : PI X tg iter (tI g E li)) (ok : BlkOk X.N X.env.scope scope own)
    (hg : ∀ (s : Shared) (H : Hp) (C : Addr) (cl : List (Str × Addr)) (fp : List Addr), PG (X.blk s H scope (compEnvC scope cl C X.env) fp) tg gt) (hv : Gv g (own.map (·.2)) gt t)
    (ht : ∀ (s : Shared) (H : Hp) (C : Addr) (cl : List (Str × Addr)) (fp : List Addr), PTs (X.blk s H scope (compEnvC scope cl C X.env) fp) ifs (tT g E0x lc'))
    (he : ∀ (s : Shared) (H : Hp) (C : Addr) (cl : List (Str × Addr)) (fp : List Addr), PE (X.blk s H scope (compEnvC scope cl C X.env) fp) elt (tE g E0x le)) (hs : ∀ x, foldedSetIterable iter X.env x = pure x := by intro _; rfl) :
    PE X (.ListComp elt [⟨tg, iter, ifs, 0⟩] scope pos) (tE g E (lcF li (own.map (·.2)) t lc' le)) :=
  (pe_lc hc hN hi ok hg ht he hs).weak fun σ H Q ⟨ω, env, h, s, r, o⟩ => tL.step (R := RIt g) (R' := RV g) (f := fun env s h1 => match compS t lc' le (wipeE env (own.map (·.2))) s h1 with
    | .ok ys h2 => .ok (Val.lst ys) h2
    | _ => .err) s r o fun ω1 a J h1 H1 s1 r1 ra l1 o1 D hD => lc_tree hv s1 r1 ra hD (okC_F o1)
theorem e_lcH (hc : X.calm = true) (hN : X.N.Nodup) (hi : PI X tg iter (tI g E li)) (ok : BlkOk X.N X.env.scope scope own)
    (hg : ∀ (s : Shared) (H : Hp) (C : Addr) (cl : List (Str × Addr)) (fp : List Addr), PG (X.blk s H scope (compEnvC scope cl C X.env) fp) tg gt) (hv : Gv g (own.map (·.2)) gt t)
    (ht : ∀ (s : Shared) (H : Hp) (C : Addr) (cl : List (Str × Addr)) (fp : List Addr), PTs (X.blk s H scope (compEnvC scope cl C X.env) fp) ifs (tT g E0x lc'))
    (he : ∀ (s : Shared) (H : Hp) (C : Addr) (cl : List (Str × Addr)) (fp : List Addr), PE (X.blk s H scope (compEnvC scope cl C X.env) fp) elt (tE g E0x le)) (hs : ∀ x, foldedSetIterable iter X.env x = pure x := by intro _; rfl) :
    PE X (.ListComp elt [⟨tg, iter, ifs, 0⟩] scope pos) (tE g E (lcH li (own.map (·.2)) t lc' le)) :=
  (pe_lc hc hN hi ok hg ht he hs).weak fun σ H Q ⟨ω, env, h, s, r, o⟩ => tL.step (R := RIt g) (R' := RV g) (f := fun env s h1 => match compS t lc' le (wipeE env (own.map (·.2))) s h1 with
    | .ok ys h2 => ofO (pushL ys h2)
    | _ => .err) s r o fun ω1 a J h1 H1 s1 r1 ra l1 o1 D hD => lc_tree hv s1 r1 ra hD (okC_H o1)
end
end Li

namespace Li
open PySem PySem.Spec PyProof.Rows L2

/-- iter(v), by values -/
def IterR (X : Cx) (tg : Expr) (r : V → Hp → (It → Hp → Prop) → Prop) : Prop :=
  ∀ (pins : List (Addr × Obj)) (s : Shared) (σ : L2.St) (H : Hp) (x : V) (v : Value) (R : It → Hp → Prop), Inv X pins σ H s → RelV x v → r x H R → wpAny (model X.prog X.w) X.A (pyIter v) (PIE X pins σ tg R) X.xe s
section
variable {X : Cx} {tg : Expr}
theorem IterR.or {r r' : V → Hp → (It → Hp → Prop) → Prop} (h : IterR X tg r) (h' : IterR X tg r') : IterR X tg (fun x H R => r x H R ∨ r' x H R) := by
  intro pins s σ H x v R I rx q
  rcases q with q | q
  · exact h pins s σ H x v R I rx q
  · exact h' pins s σ H x v R I rx q
theorem pi_of {r : V → Hp → (It → Hp → Prop) → Prop} (h : IterR X tg r) {e : Expr} {te : TE} (he : PE X e te) : PI X tg e (fun σ H R => te σ H fun x H1 => r x H1 R) := by
  refine ⟨fun pins s σ H R I q => ?_⟩
  exact thn (he.run pins s σ H _ I q) fun v s1 ⟨x, H1, I1, r1, q1⟩ => h pins s1 σ H1 x v R I1 r1 q1
theorem it_lst : IterR X tg (fun x H R => ∃ a, x = .ref a ∧ (∃ xs, SqL X.K H a xs) ∧ R (Itl X.K a) H) := by
  intro pins s σ H x v R I rx ⟨a, e, ⟨xs, hq⟩, q⟩
  subst e
  cases rx
  obtain ⟨its, rv, p, hz⟩ := I.list hq
  exact wpAny_pyIter_list p.isList (pi_one (tk := s.toks) I _ (turn_list a _) ⟨_, Heap.get?_push_size _ rfl, rfl, rfl⟩ q)
theorem it_tup : IterR X tg (fun x H R => ∃ a, x = .ref a ∧ (∃ xs, SqT X.K H a xs) ∧ R (Itt X.K a) H) := by
  intro pins s σ H x v R I rx ⟨a, e, ⟨xs, hq⟩, q⟩
  subst e
  cases rx
  obtain ⟨its, rv, p, hz⟩ := I.tuple hq
  exact wpAny_pyIter_tuple (show s.heap.IsTuple a its.toArray from p) (pi_one (tk := s.toks) I _ (turn_tuple a _) ⟨_, Heap.get?_push_size _ rfl, rfl, rfl⟩ q)
theorem it_str : IterR X tg (fun x H R => ∃ z, x = .str z ∧ R (Its z) H) := by
  intro pins s σ H x v R I rx ⟨z, e, q⟩
  subst e
  obtain ⟨t, rfl⟩ := rx
  cases ha : z.cps.all (· < 128)
  · exact wpAny_pyIter_wide ha (pi_one (tk := s.toks) I _ (turn_str _ z t "str_iterator" (.inr rfl)) ⟨_, Heap.get?_push_size _ rfl, rfl, rfl⟩ q)
  · exact wpAny_pyIter_ascii ha (pi_one (tk := s.toks) I _ (turn_str _ z t "str_ascii_iterator" (.inl rfl)) ⟨_, Heap.get?_push_size _ rfl, rfl, rfl⟩ q)

/-- the dict's object o at d: the keys are ys -/
def ItK (d : Addr) (o : Obj) (ys : List V) : It := ⟨fun i H => H d = some (dctO d o) ∧ i < ys.length, fun i H x H' => H' = H ∧ ys[i]? = some x, fun i H => H d = some (dctO d o) ∧ ys.length ≤ i⟩
theorem turn_K {P : Program} {w : World} {K : PySem.W.Frag} {d : Addr} {o : Obj} {es : Array DictEntry} {ep : Nat} {ys : List V} (it : Addr) (hod : o.data = .dict es ep) (hk : Vals ys (es.toList.map (·.key))) : Turn P w K tg (ItK d o ys) [it] it (fun i h => h.IsKeyIter it d i es.size ep) where
  mem := by simp
  obj := fun i h st b hb => by
    have e : b = it := by simpa using hb
    subst e
    obtain ⟨oi, e, c, dd⟩ := st
    exact ⟨oi, e, fun v z => by rw [dd] at z; cases z⟩
  keep := fun i h h' st k => st.at fun oi e => k it (by simp) oi e
  item := by
    intro X hP hw hK hc i pins s σ H E I hf st hg
    subst hP hw hK
    obtain ⟨hd, hi⟩ := hg
    obtain ⟨f0, f1, f2, f3, f4, f5⟩ := hf it (by simp)
    have hgd := dct_get I hd
    have hlen : ys.length = es.size := by have := hk.length; simpa using this
    have hi' : i < es.size := by omega
    obtain ⟨u, hu, ru⟩ := hk.get (List.getElem?_eq_getElem hi)
    have hu' : u = es[i].key := by
      rw [List.getElem?_map, Array.getElem?_toList, Array.getElem?_eq_getElem hi'] at hu
      exact (Option.some.inj hu).symm
    refine next_key_item st hgd hod rfl (Array.getElem?_eq_getElem hi') fun h' st' sb => ?_
    have I1 : Inv X pins σ H { s with heap := h' } := I.turned (t' := s.toks) (fun b ob hb e => (sb.2 b hb).trans e) f0 f1 f3 f4 f5
    obtain ⟨oi, e, c, dd⟩ := id st'
    exact ⟨_, rfl, go_of (s := { s with heap := h' }) e c dd (by decide) ⟨ys[i], H, I1, hu' ▸ ru, ⟨rfl, List.getElem?_eq_getElem hi⟩, st', fun b hb => (hf b hb).1⟩⟩
  done := by
    intro X hP hw hK hc i pins s σ H E I hf st hg
    subst hP hw hK
    obtain ⟨hd, hi⟩ := hg
    obtain ⟨f0, f1, f2, f3, f4, f5⟩ := hf it (by simp)
    have hlen : ys.length = es.size := by have := hk.length; simpa using this
    exact next_key_end (I.ok.hd hc) st (dct_get I hd) hod rfl (by omega) fun h' eb => ⟨rfl, I.turned (t' := s.toks) (fun b ob hb e => eb b ob hb e) f0 f1 f3 f4 f5⟩
  self := fun A i s Q E st h => wpAny_pyIter_keyiter st h
theorem it_keys : IterR X tg (fun x H R => ∃ a o es ep ys, x = .ref a ∧ H a = some (dctO a o) ∧ (a == sysModules) = false ∧ o.ExactDict ∧ o.data = .dict es ep ∧ Vals ys (es.toList.map (·.key)) ∧ R (ItK a o ys) H) := by
  intro pins s σ H x v R I rx ⟨a, o, es, ep, ys, e, hH, hs, hx, hd, hk, q⟩
  subst e
  cases rx
  exact iter_keys hs (dct_get I hH) hx hd (pi_one (tk := s.toks) I _ (turn_K _ hd hk) ⟨_, Heap.get?_push_size _ rfl, rfl, rfl⟩ q)
/-- for k, v in d.items() -/
def ItI (d : Addr) (o : Obj) (ys us : List V) : It := ⟨fun i H => H d = some (dctO d o) ∧ i < ys.length, fun i H x H' => ∃ T y u, x = .ref T ∧ H T = none ∧ H' = upd H T (.tup [y, u]) ∧ ys[i]? = some y ∧ us[i]? = some u, fun i H => H d = some (dctO d o) ∧ ys.length ≤ i⟩
theorem turn_I {P : Program} {w : World} {K : PySem.W.Frag} {elts : List Expr} {kk : Nat} {tpos : Pos} {d : Addr} {o : Obj} {es : Array DictEntry} {ep : Nat} {ys us : List V} (it : Addr) (hx : o.ExactDict) (hod : o.data = .dict es ep) (hk : Vals ys (es.toList.map (·.key))) (hv : Vals us (es.toList.map (·.val))) :
    Turn P w K (.Tuple elts kk tpos) (ItI d o ys us) [it] it (fun i h => ∃ ok ov, IsItemIter h it d i es.size ep ok ov) where
  mem := by simp
  obj := fun i h st b hb => by
    have e : b = it := by simpa using hb
    subst e
    obtain ⟨ok, ov, e⟩ := st
    exact ⟨_, e, fun v z => nomatch z⟩
  keep := fun i h h' st k => let ⟨ok, ov, e⟩ := st; ⟨ok, ov, k it (by simp) _ e⟩
  item := by
    intro X hP hw hK hc i pins s σ H E I hf st hg
    subst hP hw hK
    obtain ⟨hd, hi⟩ := hg
    have hgd := dct_get I hd
    have hlen : ys.length = es.size := by have := hk.length; simpa using this
    have hlen2 : us.length = es.size := by have := hv.length; simpa using this
    have hi' : i < es.size := by omega
    obtain ⟨u, hu, ru⟩ := hk.get (List.getElem?_eq_getElem hi)
    have hi2 : i < us.length := by omega
    obtain ⟨u2, hu2, ru2⟩ := hv.get (List.getElem?_eq_getElem hi2)
    have eu : u = es[i].key := by
      rw [List.getElem?_map, Array.getElem?_toList, Array.getElem?_eq_getElem hi'] at hu
      exact (Option.some.inj hu).symm
    have eu2 : u2 = es[i].val := by
      rw [List.getElem?_map, Array.getElem?_toList, Array.getElem?_eq_getElem hi'] at hu2
      exact (Option.some.inj hu2).symm
    subst eu eu2
    obtain ⟨ok, ov, he⟩ := st
    have hlt : it < s.heap.objs.size := Heap.lt_size he
    refine DT.nextI he ⟨o, hgd, hx, hod⟩ hi' fun h' ho hT hz hk' => ?_
    refine ⟨_, rfl, wpAny_letOwnedTupleGo_items (s := { s with heap := h' }) ho fun h'' he' sb => ?_⟩
    have hT2 : h''.get? s.heap.objs.size = some { cls := .type "tuple", data := .seq #[es[i].key, es[i].val] } := (sb.2 _ (Nat.ne_of_gt hlt)).trans hT
    have new : ObjOk X.prog X.w (upd H s.heap.objs.size (.tup [ys[i], us[i]])) h'' s.heap.objs.size (.tup [ys[i], us[i]]) :=
      ⟨by show 2 ≤ sizeLine; decide, [es[i].key, es[i].val], .cons ru (.cons ru2 .nil), ⟨_, hT2, rfl, _, rfl⟩⟩
    have I1 : Inv X pins σ (upd H s.heap.objs.size (.tup [ys[i], us[i]])) { s with heap := h'' } :=
      I.turnedNew (t' := s.toks) (ch := [it]) (fun b ob hb e => (sb.2 b (by simpa using hb)).trans (hk' b ob (by simpa using hb) e)) hf (Nat.le_refl _) new
    refine ⟨.ref s.heap.objs.size, _, I1, rfl, ⟨_, ys[i], us[i], rfl, I.hok.fresh (Nat.le_refl _), rfl, List.getElem?_eq_getElem hi, List.getElem?_eq_getElem hi2⟩, ⟨_, _, he'⟩, fun b hb => ?_⟩
    have e : b = it := by simpa using hb
    rw [e, upd_ne (Nat.ne_of_lt hlt)]
    exact (hf it (by simp)).1
  done := by
    intro X hP hw hK hc i pins s σ H E I hf st hg
    subst hP hw hK
    obtain ⟨hd, hi⟩ := hg
    obtain ⟨f0, f1, f2, f3, f4, f5⟩ := hf it (by simp)
    have hlen : ys.length = es.size := by have := hk.length; simpa using this
    obtain ⟨ok, ov, he⟩ := st
    exact DT.endI (I.ok.hd hc) he ⟨o, dct_get I hd, hx, hod⟩ (by omega) fun h' eb => ⟨rfl, I.turned (t' := s.toks) (fun b ob hb e => eb b ob hb e) f0 f1 f3 f4 f5⟩
  self := fun A i s Q E st h => let ⟨_, _, e⟩ := st; PySem.W.kcp_self e h
/-- how a dict stands for a walk -/
def DctAt (H : Hp) (a : Addr) (o : Obj) (es : Array DictEntry) (ep : Nat) (ys us : List V) : Prop := H a = some (dctO a o) ∧ (a == sysModules) = false ∧ o.ExactDict ∧ o.data = .dict es ep ∧ Vals ys (es.toList.map (·.key)) ∧ Vals us (es.toList.map (·.val))
theorem pi_itemsL {e : Expr} {te : TE} {elts : List Expr} {kk : Nat} {tpos apos cpos : Pos} (he : PE X e te) (hbase : attributeBase e "items" X.env (eval e X.env) = eval e X.env := by rfl) (hline : (apos.endLine == cpos.line) = true := by rfl) :
    PI X (.Tuple elts kk tpos) (.Call (.Attribute e "items" apos) [] [] cpos) (fun σ H R => te σ H fun x H1 => ∃ a o es ep ys us, x = .ref a ∧ DctAt H1 a o es ep ys us ∧ R (ItI a o ys us) H1) := by
  refine ⟨fun pins s σ H R I h => ?_⟩
  refine wpAny_Call_method (T := "dict") (id := "dict.items") hbase rfl hline F.plainAttrs_dict F.slot_dict_items F.type_dict_items (thn (he.run pins s σ H _ I h) fun u s1 ⟨x, H1, I1, rx, a, o, es, ep, ys, us, ex, ⟨hH, hs, hx, hd, hk, hv⟩, q⟩ => ?_)
  subst ex
  obtain rfl : u = Value.ref a := rx
  have hgd := dct_get I1 hH
  refine ⟨⟨o, hgd, hx.1⟩, fun b eb => by cases eb; exact ⟨o, hgd, hx.2.1⟩, ?_⟩
  have I2 : Inv X pins σ H1 { s1 with heap := s1.heap.push { cls := .type "dict_items", data := .fields #[.ref a] } } := I1.kept (t' := s1.toks) fun b ob q => Heap.get?_push_of_some _ q
  have fin : wpAny (model X.prog X.w) X.A (pyIter (.ref s1.heap.objs.size)) (PIE X pins σ (.Tuple elts kk tpos) R) X.xe { s1 with heap := s1.heap.push { cls := .type "dict_items", data := .fields #[.ref a] } } := by
    refine DT.iterI (d := a) (es := es) (ep := ep) ⟨_, Heap.get?_push_size _ rfl, rfl, rfl⟩ ⟨o, Heap.get?_push_of_some _ hgd, hx, hd⟩ (pi_one (tk := s1.toks) I2 _ (turn_I _ hx hd hk hv) ⟨.none, .none, ?_⟩ q)
    exact Heap.get?_push_size _ rfl
  exact Calls.callWith_builtin rfl (PySem.evalArgs_none (DT.callItems hs ⟨o, hgd, hx, hd⟩ fin))
end

def srcOf (h : LHeap) (v : Val) : Option Src := match v with
  | .tup xs => some (.vals xs)
  | .lst xs => some (.vals xs)
  | .str s => some (.vals (s.map fun c => .str [c]))
  | .dct _ ks _ => some (.vals ks)
  | .obj d n => (match look h d n with
    | some (.lst _) => some (.live d n)
    | _ => none)
  | _ => none
section
variable {X : Cx} {g : Pg} {E : EX} {tg : Expr} {k : Nat}
theorem is_tup {ω : Wd} {a : Addr} {ys : List V} {xs : List Val} (hz : SqT g.K ω.Z a ys) (rs : RVs g ω xs ys) : IsIt g ω (.vals xs) (Itt g.K a) := by
  intro i ω' H h xs' l r e
  cases e
  have hq : SqT g.K H a ys := SqT.mono (fun b o e => r.z b o (l.z b o e)) hz
  refine ⟨fun v ev => ?_, fun ev => ⟨ys, hq, ?_⟩⟩
  · obtain ⟨u, hu, ru⟩ := rs.get ev
    refine ⟨⟨ys, u, hq, hu⟩, fun x H' ⟨eH, hx⟩ => ?_⟩
    subst eH
    have := hx ys hq
    rw [hu] at this; cases this
    exact ⟨ω', .rfl', r, ru.mono l.to⟩
  · rw [rs.length]
    exact List.getElem?_eq_none_iff.mp ev
theorem is_lst {ω : Wd} {a : Addr} {ys : List V} {xs : List Val} (hz : ω.Z a = some (.lst ys)) (rs : RVs g ω xs ys) : IsIt g ω (.vals xs) (Itl g.K a) := by
  intro i ω' H h xs' l r e
  cases e
  have hq : SqL g.K H a ys := SqL.of (r.z _ _ (l.z _ _ hz))
  refine ⟨fun v ev => ?_, fun ev => ⟨ys, hq, ?_⟩⟩
  · obtain ⟨u, hu, ru⟩ := rs.get ev
    refine ⟨⟨ys, u, hq, hu⟩, fun x H' ⟨eH, hx⟩ => ?_⟩
    subst eH
    have := hx ys hq
    rw [hu] at this; cases this
    exact ⟨ω', .rfl', r, ru.mono l.to⟩
  · rw [rs.length]
    exact List.getElem?_eq_none_iff.mp ev
theorem is_live {ω : Wd} {d n : Nat} {a : Addr} (hl : look ω.r d n = some a) : IsIt g ω (.live d n) (Itl g.K a) := by
  intro i ω' H h xs' l r e
  have e' : (match look h d n with
    | some (.lst xs) => some xs
    | _ => none) = some xs' := e
  cases e0 : look h d n with
  | none => rw [e0] at e'; cases e'
  | some ob =>
    cases ob with
    | lst xs =>
      rw [e0] at e'
      cases e'
      obtain ⟨a', h1, ro⟩ := r.look e0
      rw [l.look _ _ _ hl] at h1; cases h1
      obtain ⟨ys, hH, rs⟩ := ro.lst'
      have hq : SqL g.K H a ys := SqL.of hH
      refine ⟨fun v ev => ?_, fun ev => ⟨ys, hq, ?_⟩⟩
      · obtain ⟨u, hu, ru⟩ := rs.get ev
        refine ⟨⟨ys, u, hq, hu⟩, fun x H' ⟨eH, hx⟩ => ?_⟩
        subst eH
        have := hx ys hq
        rw [hu] at this; cases this
        exact ⟨ω', .rfl', r, ru⟩
      · rw [rs.length]
        exact List.getElem?_eq_none_iff.mp ev
    | _ => rw [e0] at e'; cases e'
theorem is_str {ω : Wd} {z : Str} (hz : PyData.strOk z = true) : IsIt g ω (.vals (z.cps.toList.map fun c => .str [c])) (Its z) := by
  intro i ω' H h xs' l r e
  cases e
  refine ⟨fun v ev => ?_, fun ev => ?_⟩
  · rw [List.getElem?_map] at ev
    obtain ⟨c, hc, rfl⟩ := Option.map_eq_some_iff.mp ev
    have hi : i < z.cps.size := by
      have := (List.getElem?_eq_some_iff.mp hc).1
      simpa using this
    refine ⟨hi, fun x H' hy => ?_⟩
    obtain ⟨eH, c', hc', ex⟩ := hy
    subst eH ex
    have e1 : z.cps[i]? = some c := by rw [← Array.getElem?_toList]; exact hc
    rw [e1] at hc'; cases hc'
    refine ⟨ω', .rfl', r, .str ⟨#[c]⟩ ?_⟩
    unfold PyData.strOk at hz ⊢
    rw [Array.all_eq_true'] at hz ⊢
    intro b hb
    have : b = c := by simpa using hb
    subst this
    exact hz _ (Array.mem_of_getElem? e1)
  · show z.cps.size ≤ i
    have := List.getElem?_eq_none_iff.mp ev
    simpa using this
theorem is_keys {ω : Wd} {a : Addr} {o : Obj} {ys : List V} {ks : List Val} (hz : ω.Z a = some (dctO a o)) (rs : RVs g ω ks ys) : IsIt g ω (.vals ks) (ItK a o ys) := by
  intro i ω' H h xs' l r e
  cases e
  have hq := r.z _ _ (l.z _ _ hz)
  refine ⟨fun v ev => ?_, fun ev => ⟨hq, ?_⟩⟩
  · obtain ⟨u, hu, ru⟩ := rs.get ev
    refine ⟨⟨hq, (List.getElem?_eq_some_iff.mp hu).1⟩, fun x H' ⟨eH, hx⟩ => ?_⟩
    subst eH
    rw [hu] at hx; cases hx
    exact ⟨ω', .rfl', r, ru.mono l.to⟩
  · rw [rs.length]
    exact List.getElem?_eq_none_iff.mp ev
/-- the entries behind a dict's values -/
theorem dl_vals {ω : Wd} {a : Addr} {kvs : List (Key × V)} {o : Obj} (d : DL g a kvs o) : ∃ es ep, o.ExactDict ∧ o.data = .dict es ep ∧ Vals (kvs.map fun p => kV p.1) (es.toList.map (·.key)) ∧ Vals (kvs.map (·.2)) (es.toList.map (·.val)) := by
  obtain ⟨vs, es, ep, h1, h2, h3, h4, h5, h6⟩ := d.ob
  refine ⟨es, ep, h2, h3, ?_⟩
  clear h4 h6 h3 h2 d
  have h1' : Paired (fun p q => p.1 = q.1 ∧ RelV p.2 q.2) kvs vs := h1
  clear h1
  generalize es.toList = l at h5 ⊢
  induction h5 generalizing kvs with
  | nil => cases h1'; exact ⟨.nil, .nil⟩
  | @cons e kv es vs k1 k2 _ ih =>
    cases h1' with
    | @cons p q _ _ r t =>
      obtain ⟨i1, i2⟩ := ih t
      obtain ⟨r1, r2⟩ := r
      refine ⟨.cons ?_ i1, .cons ?_ i2⟩
      · show RelV (kV p.1) e.key
        rw [r1]
        exact relV_key (show keyIs kv.1 e.key = true from k1)
      · show RelV p.2 e.val
        rw [k2]; exact r2
def lseq' (e : LE) : LI := fun env h => (e env h).bind fun v h1 => match srcOf h1 v with
  | some s => .ok s h1
  | none => .err
/-- anything that is walked as it stands -/
theorem i_seq {e : Expr} {le : LE} (hK : X.K = g.K) (he : PE X e (tE g E le)) : PI X tg e (tI g E (lseq' le)) :=
  (pi_of (it_lst.or (it_tup.or (it_str.or it_keys))) he).weak fun σ H R ⟨ω, env, h, s, r, o⟩ =>
    tL.step (R' := RIt g) (f := fun _ v h1 => match srcOf h1 v with
      | some s => .ok s h1
      | none => .err) s r o fun ω1 v u h1 H1 s1 r1 rv l1 o1 => by
    have fin : ∀ s J, srcOf h1 v = some s → IsIt g ω1 s J → R J H1 := fun s J es hs => by
      rw [es] at o1
      exact o1 ω1 J H1 .rfl' r1 hs
    cases rv with
    | tup a b => exact .inr (.inl ⟨_, rfl, ⟨_, hK ▸ SqT.mono r1.z a⟩, hK ▸ fin _ _ rfl (is_tup a b)⟩)
    | lst a b => exact .inl ⟨_, rfl, ⟨_, SqL.of (r1.z _ _ a)⟩, hK ▸ fin _ _ rfl (is_lst a b)⟩
    | str z hz => exact .inr (.inr (.inl ⟨z, rfl, fin _ _ rfl (is_str hz)⟩))
    | dk a b c d =>
      obtain ⟨es, ep, h2, h3, h4, h5⟩ := dl_vals (ω := ω1) d
      exact .inr (.inr (.inr ⟨_, _, es, ep, _, rfl, r1.z _ _ a, d.sys, h2, h3, h4, fin _ _ rfl (is_keys a b)⟩))
    | dt a b c d =>
      obtain ⟨es, ep, h2, h3, _, h4, _, _⟩ := d.ob
      exact .inr (.inr (.inr ⟨_, _, es, ep, _, rfl, r1.z _ _ a, d.sys, h2, h3, h4, fin _ _ rfl (is_keys a b)⟩))
    | @obj d n a hl =>
      cases e0 : look h1 d n with
      | none => simp only [srcOf, e0] at o1; exact o1.elim
      | some ob =>
        obtain ⟨a', h1', _, ro⟩ := obj_at r1 (.obj hl) e0
        cases h1'
        cases ob with
        | lst xs =>
          obtain ⟨ys, hH, _⟩ := ro.lst'
          exact .inl ⟨_, rfl, ⟨ys, SqL.of hH⟩, hK ▸ fin _ _ (by simp only [srcOf, e0]) (is_live hl)⟩
        | _ => simp only [srcOf, e0] at o1; exact o1.elim
    | _ => exact o1.elim

def rngV (lo : Int) : Nat → List Val
  | 0 => []
  | n + 1 => .int lo :: rngV (lo + 1) n
theorem rngV_get : ∀ (n : Nat) (lo : Int) (i : Nat), (rngV lo n)[i]? = if i < n then some (.int (lo + (i : Nat))) else none
  | 0, lo, i => by simp [rngV]
  | n + 1, lo, 0 => by simp [rngV]
  | n + 1, lo, i + 1 => by
    show (rngV (lo + 1) n)[i]? = _
    rw [rngV_get n (lo + 1) i]
    by_cases h : i < n
    · rw [if_pos h, if_pos (by omega)]
      congr 2
      omega
    · rw [if_neg h, if_neg (by omega)]
theorem is_range {ω : Wd} {lo : Int} {n : Nat} : IsIt g ω (.vals (rngV lo n)) (Itr lo n) := by
  intro i ω' H h xs' l r e
  cases e
  rw [rngV_get]
  refine ⟨fun v ev => ?_, fun ev => ?_⟩
  · by_cases hi : i < n
    · rw [if_pos hi] at ev
      cases ev
      refine ⟨hi, fun x H' ⟨eH, hx⟩ => ?_⟩
      subst eH hx
      exact ⟨ω', .rfl', r, .int _⟩
    · rw [if_neg hi] at ev; cases ev
  · by_cases hi : i < n
    · rw [if_pos hi] at ev; cases ev
    · exact Nat.le_of_not_lt hi
/-- i is a small number -/
def smallI (i : Int) : Bool := match i with
  | .ofNat n => Nat.blt n 4611686018427387904
  | .negSucc n => Nat.blt n 4611686018427387903
theorem smallI_le {i : Int} (h : smallI i = true) : -(2 ^ 62) ≤ i ∧ i < 2 ^ 62 := by
  unfold smallI at h
  cases i with
  | ofNat n =>
    have := Nat.le_of_ble_eq_true h
    have e : Int.ofNat n = (n : Int) := rfl
    rw [e]
    exact ⟨by omega, by omega⟩
  | negSucc n => have := Nat.le_of_ble_eq_true h; exact ⟨by omega, by omega⟩
def lrng1 (a : LA) : LI := fun env h => (a env h).bind fun vs h1 => match vs with
  | [.int j] => (match smallI j with
    | true => .ok (.vals (rngV 0 j.toNat)) h1
    | false => .err)
  | _ => .err
def lrng2 (a : LA) : LI := fun env h => (a env h).bind fun vs h1 => match vs with
  | [.int i, .int j] => (match smallI i, smallI j with
    | true, true => .ok (.vals (rngV i (j - i).toNat)) h1
    | _, _ => .err)
  | _ => .err
theorem i_range1 {a : Expr} {la : LA} {p pos : Pos} (hg : Gl X "range") (hm : X.mg "range" = none) (ha : PA X [a] (tA g E la)) (hs : starEach [a] X.env = [(false, eval a X.env)] := by rfl) : PI X tg (.Call (.Name "range" p) [a] [] pos) (tI g E (lrng1 la)) :=
  (pi_range1 hg hm ha hs).weak fun σ H R ⟨ω, env, h, s, r, o⟩ => tL.step (R := RVs g) (R' := RIt g) (f := fun _ vs h1 => match vs with
    | [.int j] => (match smallI j with
      | true => .ok (Src.vals (rngV 0 j.toNat)) h1
      | false => .err)
    | _ => .err) s r o fun ω1 vs us h1 H1 s1 r1 rv l1 o1 => by
    cases rv with
    | nil => exact o1.elim
    | cons ra rr =>
      cases rr with
      | cons _ _ => cases ra <;> exact o1.elim
      | nil =>
        cases ra with
        | int j =>
          have o2 : okR g (RIt g) ω1 σ E (match smallI j with
            | true => .ok (Src.vals (rngV 0 j.toNat)) h1
            | false => .err) R := o1
          cases q : smallI j with
          | false => rw [q] at o2; exact o2.elim
          | true =>
            rw [q] at o2
            obtain ⟨b1, b2⟩ := smallI_le q
            exact ⟨j, rfl, b1, b2, o2 ω1 _ H1 .rfl' r1 is_range⟩
        | _ => exact o1.elim
theorem i_range2 {a b : Expr} {la : LA} {p pos : Pos} (hg : Gl X "range") (hm : X.mg "range" = none) (ha : PA X [a, b] (tA g E la)) (hs : starEach [a, b] X.env = [(false, eval a X.env), (false, eval b X.env)] := by rfl) (hs2 : starEach [b] X.env = [(false, eval b X.env)] := by rfl) :
    PI X tg (.Call (.Name "range" p) [a, b] [] pos) (tI g E (lrng2 la)) :=
  (pi_range2 hg hm ha hs hs2).weak fun σ H R ⟨ω, env, h, s, r, o⟩ => tL.step (R := RVs g) (R' := RIt g) (f := fun _ vs h1 => match vs with
    | [.int i, .int j] => (match smallI i, smallI j with
      | true, true => .ok (Src.vals (rngV i (j - i).toNat)) h1
      | _, _ => .err)
    | _ => .err) s r o fun ω1 vs us h1 H1 s1 r1 rv l1 o1 => by
    cases rv with
    | nil => exact o1.elim
    | cons ra rr =>
      cases rr with
      | nil => cases ra <;> exact o1.elim
      | cons rb rr =>
        cases rr with
        | cons _ _ => cases ra <;> first | exact o1.elim | (cases rb <;> exact o1.elim)
        | nil =>
          cases ra with
          | int i =>
            cases rb with
            | int j =>
              have o2 : okR g (RIt g) ω1 σ E (match smallI i, smallI j with
                | true, true => .ok (Src.vals (rngV i (j - i).toNat)) h1
                | _, _ => .err) R := o1
              cases q : smallI i with
              | false => rw [q] at o2; exact o2.elim
              | true =>
                cases q2 : smallI j with
                | false => rw [q, q2] at o2; exact o2.elim
                | true =>
                  rw [q, q2] at o2
                  obtain ⟨b1, b2⟩ := smallI_le q
                  obtain ⟨b3, b4⟩ := smallI_le q2
                  exact ⟨i, j, rfl, ⟨b1, b2, b3, b4⟩, o2 ω1 _ H1 .rfl' r1 is_range⟩
            | _ => exact o1.elim
          | _ => exact o1.elim

def zipV : List Val → List Val → List Val
  | x :: xs, y :: ys => .tup [x, y] :: zipV xs ys
  | _, _ => []
theorem zipV_get : ∀ (xs ys : List Val) (i : Nat), (zipV xs ys)[i]? = (match xs[i]?, ys[i]? with
    | some x, some y => some (.tup [x, y])
    | _, _ => none)
  | [], ys, i => by simp [zipV]
  | x :: xs, [], i => by
    simp only [zipV, List.getElem?_nil]
    cases (x :: xs)[i]? <;> rfl
  | x :: xs, y :: ys, 0 => by simp [zipV]
  | x :: xs, y :: ys, i + 1 => by simpa [zipV] using zipV_get xs ys i
theorem zip_pair {ω ω' : Wd} {H : Hp} {h : LHeap} {T : Addr} {v w : Val} {x y : V} (l : WLz ω ω') (r : HRel g ω' h H) (hT : H T = none) (rv : RV g ω v x) (rw' : RV g ω w y) : ∃ ω2, WLe ω' ω2 ∧ HRel g ω2 h (upd H T (.tup [x, y])) ∧ RV g ω2 (.tup [v, w]) (.ref T) := by
  obtain ⟨h1, l1, rt⟩ := new_tup r (.cons (rv.mono l.to) (.cons (rw'.mono l.to) .nil)) hT
  exact ⟨_, l1, h1, rt⟩
theorem is_zipT {ω : Wd} {a b : Addr} {xs ys : List Val} {us ws : List V} (ha : SqT g.K ω.Z a us) (hb : SqT g.K ω.Z b ws) (ra : RVs g ω xs us) (rb : RVs g ω ys ws) : IsIt g ω (.vals (zipV xs ys)) (RZ.ItzT g.K a b) := by
  intro i ω' H h xs' l r e
  cases e
  have qa : SqT g.K H a us := SqT.mono (fun c o e => r.z c o (l.z c o e)) ha
  have qb : SqT g.K H b ws := SqT.mono (fun c o e => r.z c o (l.z c o e)) hb
  rw [zipV_get]
  refine ⟨fun v ev => ?_, fun ev => ⟨us, ws, qa, qb, ?_⟩⟩
  · cases e1 : xs[i]? with
    | none => rw [e1] at ev; cases ev
    | some x =>
      cases e2 : ys[i]? with
      | none => rw [e1, e2] at ev; cases ev
      | some y =>
        rw [e1, e2] at ev
        cases ev
        obtain ⟨u, hu, ru⟩ := ra.get e1
        obtain ⟨w, hw, rw'⟩ := rb.get e2
        refine ⟨⟨us, ws, u, w, qa, qb, hu, hw⟩, fun z H' ⟨T, x', y', ez, hT, eH, f1, f2⟩ => ?_⟩
        subst ez eH
        have g1 := f1 us qa
        have g2 := f2 ws qb
        rw [hu] at g1; cases g1
        rw [hw] at g2; cases g2
        exact zip_pair l r hT ru rw'
  · rw [ra.length, rb.length]
    cases e1 : xs[i]? with
    | none => exact .inl (List.getElem?_eq_none_iff.mp e1)
    | some x =>
      cases e2 : ys[i]? with
      | none => exact .inr (List.getElem?_eq_none_iff.mp e2)
      | some y => rw [e1, e2] at ev; cases ev
theorem is_zipL {ω : Wd} {a b : Addr} {xs ys : List Val} {us ws : List V} (ha : ω.Z a = some (.lst us)) (hb : ω.Z b = some (.lst ws)) (ra : RVs g ω xs us) (rb : RVs g ω ys ws) : IsIt g ω (.vals (zipV xs ys)) (Itz g.K a b) := by
  intro i ω' H h xs' l r e
  cases e
  have qa : SqL g.K H a us := SqL.of (r.z _ _ (l.z _ _ ha))
  have qb : SqL g.K H b ws := SqL.of (r.z _ _ (l.z _ _ hb))
  rw [zipV_get]
  refine ⟨fun v ev => ?_, fun ev => ⟨us, ws, qa, qb, ?_⟩⟩
  · cases e1 : xs[i]? with
    | none => rw [e1] at ev; cases ev
    | some x =>
      cases e2 : ys[i]? with
      | none => rw [e1, e2] at ev; cases ev
      | some y =>
        rw [e1, e2] at ev
        cases ev
        obtain ⟨u, hu, ru⟩ := ra.get e1
        obtain ⟨w, hw, rw'⟩ := rb.get e2
        refine ⟨⟨us, ws, u, w, qa, qb, hu, hw⟩, fun z H' ⟨T, x', y', ez, hT, eH, f1, f2⟩ => ?_⟩
        subst ez eH
        have g1 := f1 us qa
        have g2 := f2 ws qb
        rw [hu] at g1; cases g1
        rw [hw] at g2; cases g2
        exact zip_pair l r hT ru rw'
  · rw [ra.length, rb.length]
    cases e1 : xs[i]? with
    | none => exact .inl (List.getElem?_eq_none_iff.mp e1)
    | some x =>
      cases e2 : ys[i]? with
      | none => exact .inr (List.getElem?_eq_none_iff.mp e2)
      | some y => rw [e1, e2] at ev; cases ev
/-- zip of two tuples, of two frozen lists -/
def lzip (a : LA) : LI := fun env h => (a env h).bind fun vs h1 => match vs with
  | [.tup xs, .tup ys] => .ok (.vals (zipV xs ys)) h1
  | [.lst xs, .lst ys] => .ok (.vals (zipV xs ys)) h1
  | _ => .err
theorem i_zip {e e2 : Expr} {la : LA} {p pos tpos : Pos} {elts : List Expr} {kk : Nat} (hK : X.K = g.K) (hg : Gl X "zip") (hm : X.mg "zip" = none) (ha : PA X [e, e2] (tA g E la))
    (hs : starEach [e, e2] X.env = (false, eval e X.env) :: starEach [e2] X.env := by rfl) (hpl : (backTo pos (starEach [e2] X.env)).any (·.1) = false := by rfl) :
    PI X (.Tuple elts kk tpos) (.Call (.Name "zip" p) [e, e2] [] pos) (tI g E (lzip la)) :=
  (RZ.pi_zipA hg hm ha hs hpl).weak fun σ H R ⟨ω, env, h, s, r, o⟩ => tL.step (R := RVs g) (R' := RIt g) (f := fun _ vs h1 => match vs with
    | [.tup xs, .tup ys] => .ok (Src.vals (zipV xs ys)) h1
    | [.lst xs, .lst ys] => .ok (Src.vals (zipV xs ys)) h1
    | _ => .err) s r o fun ω1 vs us h1 H1 s1 r1 rv l1 o1 => by
    cases rv with
    | nil => exact o1.elim
    | cons ra rr =>
      cases rr with
      | nil => cases ra <;> exact o1.elim
      | cons rb rr =>
        cases rr with
        | cons _ _ => cases ra <;> first | exact o1.elim | (cases rb <;> exact o1.elim)
        | nil =>
          cases ra with
          | tup a1 a2 =>
            cases rb with
            | tup b1 b2 =>
              exact ⟨_, _, _, _, rfl, .inr ⟨hK ▸ SqT.mono r1.z a1, hK ▸ SqT.mono r1.z b1, hK ▸ o1 ω1 _ H1 .rfl' r1 (is_zipT a1 b1 a2 b2)⟩⟩
            | _ => exact o1.elim
          | lst a1 a2 =>
            cases rb with
            | lst b1 b2 =>
              exact ⟨_, _, _, _, rfl, .inl ⟨SqL.of (r1.z _ _ a1), SqL.of (r1.z _ _ b1), hK ▸ o1 ω1 _ H1 .rfl' r1 (is_zipL a1 b1 a2 b2)⟩⟩
            | _ => exact o1.elim
          | _ => exact o1.elim
def enumV (i : Nat) : List Val → List Val
  | [] => []
  | x :: xs => .tup [.int (.ofNat i), x] :: enumV (i + 1) xs
theorem enumV_get : ∀ (xs : List Val) (k i : Nat), (enumV k xs)[i]? = (xs[i]?).map fun x => .tup [.int (.ofNat (k + i)), x]
  | [], k, i => by simp [enumV]
  | x :: xs, k, 0 => by simp [enumV]
  | x :: xs, k, i + 1 => by
    have := enumV_get xs (k + 1) i
    simp only [enumV, List.getElem?_cons_succ, this]
    congr 1
    funext x
    congr 4
    omega
theorem is_enum {ω : Wd} {a : Addr} {xs : List Val} {us : List V} (ha : ω.Z a = some (.lst us)) (ra : RVs g ω xs us) : IsIt g ω (.vals (enumV 0 xs)) (Ite g.K a) := by
  intro i ω' H h xs' l r e
  cases e
  have qa : SqL g.K H a us := SqL.of (r.z _ _ (l.z _ _ ha))
  rw [enumV_get]
  refine ⟨fun v ev => ?_, fun ev => ⟨us, qa, ?_⟩⟩
  · obtain ⟨x, e1, rfl⟩ := Option.map_eq_some_iff.mp ev
    obtain ⟨u, hu, ru⟩ := ra.get e1
    refine ⟨⟨us, u, qa, hu⟩, fun z H' ⟨T, x', ez, hT, eH, f1⟩ => ?_⟩
    subst ez eH
    have g1 := f1 us qa
    rw [hu] at g1; cases g1
    have := zip_pair (v := .int (.ofNat (0 + i))) (x := .int (i : Nat)) l r hT (by rw [Nat.zero_add]; exact .int _) ru
    exact this
  · rw [ra.length]
    cases e1 : xs[i]? with
    | none => exact List.getElem?_eq_none_iff.mp e1
    | some x => rw [e1] at ev; cases ev
end
end Li

namespace Li
open PySem PySem.Spec PyProof.Rows L2

/-- an __init__ that captures __class__: D its class, cc the cell, cda its code -/
structure SupD (P : Program) (K : PySem.W.Frag) (x qual : Str) (params : Arguments) (body : List Stmt) (scope : Scope) (f D cc cda : Addr) (fd : FuncData) : Prop where
  ex : ∃ (oc : Value) (od : Option Addr) (dV kV doc pm : Value) (an : Option Addr) (ct : Value) (osl : Array (Option Value)), fd = PySem.W.fnX x qual params body scope [("__class__", cc)] dV kV doc pm an (.ref cda) ct ∧ K.lookup f = some ⟨oc, od, .func fd, osl⟩
  hcd : PySem.W.codeIn K (.ref cda) qual = true
  code : ∃ (ccl : Value) (cdd : Option Addr) (vs : Array Value) (ccs : Array (Option Value)) (tf : Tok) (file : Str), K.lookup cda = some ⟨ccl, cdd, .fields vs, ccs⟩ ∧ vs[2]? = some (.str file tf) ∧ ((P.main.file : Str) == file) = true
  cell : ∃ (cl : Value) (cld : Option Addr) (csl : Array (Option Value)), K.lookup cc = some ⟨cl, cld, .cell (some (.ref D)), csl⟩
  cls : ∃ cd, PySem.W.clsIn K D = some cd
/-- the class C of the instance, below D: super() finds f2 -/
structure SupC (K : PySem.W.Frag) (C D f2 : Addr) : Prop where
  sub : PySem.W.mroIn K C (.ref D) = some true
  at_ : PySem.W.ks_superIn K C D "__init__" = some (some (.ref f2))
  ty : PySem.W.typeIn K (.ref f2) = some (.type "function")
  fi : PySem.W.fnIn K f2 = true
  tp : PySem.W.nsIn K cStatics "thirdparty.any" = some none
/-- a positional promise -/
def spR (g : Pg) (f : LF) : Sp := fun vs H Q _ => ∃ ω h as, RVs g ω as vs ∧ HRel g ω h H ∧ okO g ω (f as h) Q
/-- super().__init__(..) -/
def lsuper (c : Nat) (f2 : LF) (a : LA) : LS := fun env h => match env[0]? with
  | some (some self) => (match isC c self h with
    | true => (a env h).s env fun vs h1 => match f2 (self :: vs) h1 with
      | some (_, h2) => .nx env h2
      | none => .err
    | false => .err)
  | _ => .err
section
variable {X : Cx} {g : Pg} {E : EX} {k c : Nat} {f D cc cda f2 : Addr} {fd : FuncData} {x qual : Str} {params : Arguments} {body bd : List Stmt} {scope : Scope} {lf2 : LF} {la : LA} {ar : Arg} {e : Expr} {es : List Expr} {p0 p1 ap cp ep : Pos}
theorem inst_ne {pins : List (Addr × Obj)} {σ : L2.St} {H : Hp} {s : Shared} {a C dx : Addr} {gs : List (Str × V)} (I : Inv X pins σ H s) (hH : H a = some (.ins C dx gs)) : ∃ od, PySem.W.InstAt s.heap a (PySem.W.instObj C dx) C od := by
  obtain ⟨mA, O, _⟩ := ins_get I.hok hH
  obtain ⟨od, J, _⟩ := O.look
  exact ⟨od, J⟩
theorem HRel.tmp {ω : Wd} {h : LHeap} {H : Hp} {q : Addr} {o : HO} (r : HRel g ω h H) (hq : H q = none) : HRel g ⟨ω.Z, ω.r, (q, o) :: ω.x⟩ h (upd H q o) := r.ghost hq
theorem HRel.ungh {ω ω2 : Wd} {p : Addr × HO} {h : LHeap} {H : Hp} (l : WLe ⟨ω.Z, ω.r, p :: ω.x⟩ ω2) (r : HRel g ω2 h H) : WLe ω ⟨ω2.Z, ω2.r, ω.x⟩ ∧ HRel g ⟨ω2.Z, ω2.r, ω.x⟩ h H := by
  obtain ⟨Z2, rr2, gx2⟩ := ω2
  have eg : gx2 = p :: ω.x := l.gh
  subst eg
  exact ⟨⟨l.z, l.len, l.look, rfl⟩, r.z, r.nd, r.fr, r.hr, fun p hp => r.gh p (List.mem_cons_of_mem _ hp), (List.nodup_cons.mp r.gn).2⟩
/-- the statement -/
theorem super_stmt {pl : Sem Bool} (hK : X.K = g.K) (SD : SupD X.prog X.K x qual params bd scope f D cc cda fd) (SC : SupC X.K (g.ca c) D f2) (F2 : FnR X.prog X.w X.K X.mg X.base CX0 k f2 (spR g lf2)) (hr : Room k X.A)
    (hfu : X.env.func = some f) (hco : X.env.code = .ref cda) (hcc : X.env.cells.lookup ("__class__" : Str) = some cc) (hks : Gl X "super") (hkc : X.env.kindOf "__class__" = some .free) (hka : X.env.kindOf ar.arg = some .local) (hN0 : X.N[0]? = some ar.arg)
    (hsup : X.mg "super" = none) (hp : (fd.params.posonlyargs ++ fd.params.args).head? = some ar) (htop : (X.prog.main.scope.names.lookup ("super" : Str)).isSome = false)
    (ha : PA X (e :: es) (tA g E0x la)) (hi : interactive X.env = false := by rfl) (hsw : swapsWith (.Call (.Attribute (.Call (.Name "super" p0) [] [] p1) "__init__" ap) (e :: es) [] cp) none ep.line X.env = pure false := by rfl)
    (hst : starEach (e :: es) X.env = (false, eval e X.env) :: starEach es X.env := by rfl) (hpl : (backTo cp (starEach es X.env)).any (·.1) = false := by rfl)
    (ht : eval (.Call (.Attribute (.Call (.Name "super" p0) [] [] p1) "__init__" ap) (e :: es) [] cp) X.env = (do
      let ov ← attributeBase (.Call (.Name "super" p0) [] [] p1) "__init__" X.env (eval (.Call (.Name "super" p0) [] [] p1) X.env)
      standAt ap.atName
      let (f, first) ← holding [ov] (getMethod ov "__init__" pl)
      callWith cp f first (backTo cp (starEach (e :: es) X.env)) []) := by rfl)
    {pins : List (Addr × Obj)} {s : Shared} {σ : L2.St} {H : Hp} {Dn : Ends} (I : Inv X pins σ H s) (q : tS g E0x (lsuper c lf2 la) Dn σ H) :
    _root_.PySem.wpAt (model X.prog X.w) X.A (.func body X.env) (exec (.Expr (.Call (.Attribute (.Call (.Name "super" p0) [] [] p1) "__init__" ap) (e :: es) [] cp) ep) X.env) (SP X pins Dn) X.xe s := by
  obtain ⟨oc, od, dV, kV, doc, pm, an, ct, osl, efd, lk⟩ := SD.ex
  obtain ⟨ccl, cdd, vs, ccs, tf, file, lkc, hvs, hfile⟩ := SD.code
  obtain ⟨cl, cld, csl, lcell⟩ := SD.cell
  obtain ⟨cdD, hD⟩ := SD.cls
  obtain ⟨ω, env, h, sr, r, o⟩ := q
  have o' : okS g ω E0x Dn (match env[0]? with
    | some (some self) => (match isC c self h with
      | true => (la env h).s env fun vs h1 => match lf2 (self :: vs) h1 with
        | some (_, h2) => .nx env h2
        | none => .err
      | false => .err)
    | _ => .err) := o
  cases e0 : env[0]? with
  | none => rw [e0] at o'; exact o'.elim
  | some w0 =>
    rw [e0] at o'
    cases w0 with
    | none => exact o'.elim
    | some self =>
      cases ec : isC c self h with
      | false => simp only [ec] at o'; exact o'.elim
      | true =>
        simp only [ec] at o'
        obtain ⟨u, hu, ru⟩ := sr.get 0 self e0
        obtain ⟨a, dx, gs, rfl, hH, nm⟩ := isC_at r ru ec
        obtain ⟨m, hn, hl⟩ := I.loc
        obtain ⟨uv, ruv, look⟩ := hl 0 ar.arg (.ref a) hN0 hu (.inl hka)
        cases ruv
        have hm : m ar.arg = some (.ref a) := by
          rcases look with ⟨_, hm⟩ | ⟨hk, _⟩
          · exact hm
          · rw [hka] at hk
            rcases hk with hk | hk <;> cases hk
        obtain ⟨od2, J⟩ := inst_ne I hH
        have XK : X.K.In s.heap := I.kIn
        obtain ⟨oD, hD1, hD2⟩ : ∃ oD, s.heap.get? D = some oD ∧ oD.data = .cls cdD := by
          unfold PySem.W.clsIn at hD
          split at hD
          · rename_i c d cd' sl ho
            cases hD
            exact ⟨_, XK _ _ ho, rfl⟩
          · cases hD
        refine ks_wpAt_Expr_any (Q := SP X pins Dn) ?_ hi hsw
        refine ks_wpAt_MethodCall ?_ ht
        refine ks_wpAt_super_base (env := X.env) hks hkc rfl hfu (XK _ _ lk) rfl (by rw [efd] at hp ⊢; exact hp) hco (XK _ _ lkc) rfl hvs hfile htop ?_
        obtain ⟨mb, b1, b2⟩ := I.mod.blt
        refine PySem.W.ks_loadName_global I.ok.kind hks (Calls.loadGlobal_builtin (by rw [I.ok.glob]; exact I.mod.glob.keeps I.bk) hsup (by rw [I.ok.blt]; exact b1.keeps I.bk) ((b2 _ (by decide +kernel)).trans (by first | rfl | decide +kernel)) ⟨rfl, ?_⟩)
        refine wpAny_loadName_free I.ok.kind hkc hcc ⟨_, XK _ _ lcell, rfl⟩ ?_
        refine wpAny_loadName_local I.ok.kind hka hn hm ?_
        obtain ⟨hh, gg, dd, tt, os⟩ := s
        refine ks_wpAny_isType_cls hD1 hD2 ⟨rfl, ?_⟩
        refine ks_wpAny_call_super hD1 hD2 J.at_ J.cls (fun c e => ?_) (PySem.W.looks_mroIn XK SC.sub) (fun h' eso kp => ?_)
        · have := J.no
          unfold PySem.W.notCls at this
          rw [e] at this
          exact Bool.noConfusion this
        -- super's object is there
        have I1 : Inv X pins σ H ⟨h', gg, dd, tt, os⟩ := I.kept (t' := tt) kp
        have XK1 : X.K.In h' := I1.kIn
        obtain ⟨od3, J1⟩ := inst_ne I1 hH
        have hsi := SC.at_
        unfold PySem.W.ks_superIn at hsi
        obtain ⟨cd, hc, hal⟩ := Option.bind_eq_some_iff.mp hsi
        obtain ⟨of, hof, hofc⟩ : ∃ of, h'.get? f2 = some of ∧ of.cls = .type "function" := by
          have ht' : (X.K.lookup f2).map (·.cls) = some (.type "function") := SC.ty
          cases z : X.K.lookup f2 with
          | none => rw [z] at ht'; cases ht'
          | some of => rw [z] at ht'; exact ⟨of, XK1 _ _ z, Option.some.inj ht'⟩
        refine ks_wpAny_getMethod_super eso (PySem.W.looks_opaque XK1 SC.tp) (l₀ := cd.mro) (fun A Q E s k q => wpAny_bind ((PySem.W.looks_clsIn XK1 hc) A _ E s k (wpAny_pure q))) rfl XK1 hal hof hofc (PySem.W.ks_ne XK1 J1 hc) rfl ?_
        -- the bound method is laid
        have hq : H h'.objs.size = none := I1.hok.fresh (Nat.le_refl _)
        have I2 : Inv X pins σ (upd H h'.objs.size (.met f2 a)) ⟨h'.push { cls := .type "method", data := .fields #[.ref f2, .ref a] }, gg, dd, tt + 1, os⟩ :=
          I1.laid (t' := tt + 1) (a := h'.objs.size) (o := .met f2 a) (fun b u z => Heap.get?_push_of_some _ z) (Nat.le_refl _)
            (show (h'.push (PySem.W.methodObj (.ref f2) (.ref a))).get? h'.objs.size = some (PySem.W.methodObj (.ref f2) (.ref a)) from Heap.get?_push_size h' rfl)
        have r2 := r.ghost (u := .met f2 a) hq
        have sr2 : SRel g ⟨ω.Z, ω.r, (h'.objs.size, .met f2 a) :: ω.x⟩ env σ := ⟨sr.len, fun i v e => let ⟨u, a', b⟩ := sr.get i v e; ⟨u, a', RV.mono (ω := ω) (ω' := ⟨ω.Z, ω.r, (h'.objs.size, .met f2 a) :: ω.x⟩) ⟨fun _ _ h => h, fun _ _ _ h => h⟩ b⟩⟩
        have ru2 : RV g ⟨ω.Z, ω.r, (h'.objs.size, .met f2 a) :: ω.x⟩ self (.ref a) := RV.mono (ω := ω) (ω' := ⟨ω.Z, ω.r, (h'.objs.size, .met f2 a) :: ω.x⟩) ⟨fun _ _ h => h, fun _ _ _ h => h⟩ ru
        have tArgs : tA g E0x la σ (upd H h'.objs.size (.met f2 a)) fun us H1 => H1 h'.objs.size = some (.met f2 a) ∧ spR g lf2 (.ref a :: us) H1 (fun _ H2 => Dn.nx σ H2) E0 := by
          refine ⟨_, env, h, sr2, r2, ?_⟩
          cases el : la env h with
          | exc _ _ => rw [el] at o'; exact fun w H' l3 r3 => let ⟨l4, r4⟩ := HRel.ungh l3 r3; False.elim (o' ⟨w.Z, w.r, ω.x⟩ σ H' l4 r4 (sr.mono l4))
          | err => rw [el] at o'; exact o'.elim
          | ok vs h1 =>
            rw [el] at o'
            intro ω1 us H1 l1 r1 rvs
            have hm1 : H1 h'.objs.size = some (.met f2 a) := by
              have e := l1.gh
              exact (r1.gh (h'.objs.size, .met f2 a) (by rw [e]; exact List.mem_cons_self)).1
            refine ⟨hm1, ω1, h1, self :: vs, .cons (ru2.mono l1.to) rvs, r1, ?_⟩
            have o2 : okS g ω E0x Dn (match lf2 (self :: vs) h1 with
              | some (_, h2) => .nx env h2
              | none => .err) := o'
            cases e2 : lf2 (self :: vs) h1 with
            | none => rw [e2] at o2; exact o2.elim
            | some vh =>
              obtain ⟨v2, h2⟩ := vh
              rw [e2] at o2
              intro ω2 b H2 l2 r3 _
              obtain ⟨l4, r4⟩ := HRel.ungh (l1.trans l2) r3
              exact o2 _ σ H2 l4 r4 (sr.mono l4)
        have hA := ha.run cp pins _ σ _ _ I2 tArgs
        rw [hst] at hA ⊢
        refine callwith_met (a := a) (by show ((false || (backTo cp (starEach es X.env)).any (·.1)) || false) = false; rw [hpl]; rfl) SC.fi (Calls.evalArgs_plain ?_)
        exact thn hA fun us s2 ⟨vs, H2, I3, rvs, hm2, sp⟩ => ⟨met_P I3 hm2, wpAny_call (call_met I3 hm2 (codeAny_mono (run_fnR F2 hr pass0 I3 (.cons (show RelV (.ref a) (.ref a) from rfl) rvs) sp) fun r' s' hq' => by
          cases r' with
          | error e => exact hq'
          | ok fl =>
            cases fl with
            | ret v => obtain ⟨y, H', I4, _, nx⟩ := hq'; exact ⟨σ, H', I4, nx⟩
            | _ => exact hq'.elim))⟩
end

/-- its names: the parameters, __class__, the locals -/
def env0S (N n D : Nat) (as : List Val) : Env := as.map some ++ (some (.cls D) :: List.replicate (N - n - 1) none)
def lfnS (n N D : Nat) (b : LS) : LF := fun as h => match as.length == n with
  | true => fin (b (env0S N n D as) ([] :: h))
  | false => none
theorem startF_rel {g : Pg} {ω : Wd} {as : List Val} {vs : List V} (r : RVs g ω as vs) (N : List Str) (D : Nat) : SRel g ω (env0S N.length as.length D as) (NdefX.startF N vs [some (.ref (g.ca D))]) := by
  have hl := r.length
  refine ⟨?_, fun i v e => ?_⟩
  · unfold env0S NdefX.startF
    simp [hl]
  · unfold env0S at e
    unfold NdefX.startF
    by_cases hi : i < as.length
    · rw [List.getElem?_append_left (by simpa using hi), List.getElem?_map] at e
      cases q : as[i]? with
      | none => rw [q] at e; cases e
      | some x =>
        rw [q] at e
        cases e
        obtain ⟨u, h1, h2⟩ := r.get q
        refine ⟨u, ?_, h2⟩
        rw [List.getElem?_append_left (by simp; omega), List.getElem?_map, h1]
        rfl
    · rw [List.getElem?_append_right (by simpa using hi), List.length_map] at e
      rw [List.getElem?_append_right (by simp; omega), List.length_map, hl]
      cases hj : i - as.length with
      | zero =>
        rw [hj] at e
        cases e
        exact ⟨.ref (g.ca D), rfl, .cls D⟩
      | succ j =>
        rw [hj, List.getElem?_cons_succ, List.getElem?_replicate] at e
        split at e <;> cases e
section
variable {P : Program} {w : World} {K : PySem.W.Frag} {mg : Str → Option Value} {base : Heap}
abbrev nfOf (x qual : Str) (params : Arguments) (body : List Stmt) (scope : Scope) (cc cda : Addr) : NdefX.NF := ⟨x, qual, params, body, scope, [("__class__", cc)], cda⟩
/-- the context of its body -/
abbrev supCx (P : Program) (w : World) (K : PySem.W.Frag) (mg : Str → Option Value) (base : Heap) (N : List Str) (x qual : Str) (params : Arguments) (body : List Stmt) (scope : Scope) (cc cda f : Addr) (A : Around) (outer : List PySem.Env) (s : Shared) (H : Hp) (E : XK) : Cx :=
  (NdefX.ncx CX0 P w K mg base N (nfOf x qual params body scope cc cda) f A outer s H E).nox
theorem fn_super {g : Pg} {x qual : Str} {params : Arguments} {st : Stmt} {rest : List Stmt} {scope : Scope} {f cc cda : Addr} {fd : FuncData} {N ps : List Str} {k D : Nat} {la : LS} {lb : LS} (S : NdefX.NScope N ps ["__class__"] scope) (SD : SupD P K x qual params (st :: rest) scope f (g.ca D) cc cda fd)
    (hst : ∀ (A : Around) (outer : List PySem.Env) (s : Shared) (H : Hp) (E : XK) (pins : List (Addr × Obj)) (s1 : Shared) (σ : L2.St) (H1 : Hp) (Dn : Ends), Room k (supCx P w K mg base N x qual params (st :: rest) scope cc cda f A outer s H E).A → Inv (supCx P w K mg base N x qual params (st :: rest) scope cc cda f A outer s H E) pins σ H1 s1 → tS g E0x la Dn σ H1 →
      _root_.PySem.wpAt (model P w) (supCx P w K mg base N x qual params (st :: rest) scope cc cda f A outer s H E).A (.func (st :: rest) (supCx P w K mg base N x qual params (st :: rest) scope cc cda f A outer s H E).env) (exec st (supCx P w K mg base N x qual params (st :: rest) scope cc cda f A outer s H E).env)
        (SP (supCx P w K mg base N x qual params (st :: rest) scope cc cda f A outer s H E) pins Dn) (supCx P w K mg base N x qual params (st :: rest) scope cc cda f A outer s H E).xe s1)
    (hrest : ∀ (A : Around) (outer : List PySem.Env) (s : Shared) (H : Hp) (E : XK), Room k (supCx P w K mg base N x qual params (st :: rest) scope cc cda f A outer s H E).A → PSs (supCx P w K mg base N x qual params (st :: rest) scope cc cda f A outer s H E) rest (tS g E0x lb)) :
    FnOk P w K mg base CX0 (k + 1) f fd ps (spL g ps.length (lfnS ps.length N.length D (lseq la lb))) := by
  obtain ⟨oc, od, dV, kV, doc, pm, an, ct, osl, efd, lk⟩ := SD.ex
  obtain ⟨cl, cld, csl, lcell⟩ := SD.cell
  refine ⟨fun vs H Q E h => h.1, fun A outer s H args us vs Q E hr e0 hb r hsp => ?_⟩
  obtain ⟨hl, ω, h, as, rv, hr', o⟩ := hsp
  have hla : as.length = ps.length := rv.length.symm.trans hl
  unfold lfnS at o
  rw [show (as.length == ps.length) = true from beq_iff_eq.mpr hla] at o
  have KX : K.In s.heap := e0.mod.kin.keeps fun b o e => (e0.bs b o e).1
  have lim : s.heap.NoLimit := e0.mod.nolimit.keeps fun b o e => (e0.bs b o e).1
  have hHcc : H cc = none := by
    have hb0 : base.get? cc = some _ := e0.mod.kin _ _ lcell
    exact (e0.bs cc _ hb0).2
  have C : NdefX.CellsAt [("__class__", cc)] ["__class__"] [some (.ref (g.ca D))] s.heap H := by
    refine ⟨rfl, fun y c hy => ?_, fun y z c h1 h2 => ?_, fun i y hi => ?_⟩
    · have : c = cc := by
        by_cases e : y = ("__class__" : Str)
        · subst e; simp [List.lookup] at hy; exact hy.symm
        · simp [List.lookup, beq_eq_false_iff_ne.mpr e] at hy
      subst this
      exact ⟨hHcc, some (.ref (g.ca D)), _, KX _ _ lcell, rfl⟩
    · have one : ∀ y, ([(("__class__" : Str), cc)] : List (Str × Addr)).lookup y = some c → y = ("__class__" : Str) := fun y hy => by
        by_cases e : y = ("__class__" : Str)
        · exact e
        · simp [List.lookup, beq_eq_false_iff_ne.mpr e] at hy
      rw [one y h1, one z h2]
    · cases i with
      | zero =>
        simp at hi
        subst hi
        refine ⟨cc, by simp [List.lookup], fun v hv => ?_⟩
        simp at hv
        subst hv
        exact ⟨.ref (g.ca D), rfl, _, KX _ _ lcell, rfl⟩
      | succ i => simp at hi
  subst efd
  refine codeAny_call_function hr.depth (KX _ _ lk) rfl S.co S.gen rfl (PySem.W.codeRec_of KX SD.hcd) (hb _ _ _ _ ?_)
  refine wpAny_newFunctionEnv S.nocell (fun ⟨n, _⟩ hy => S.par n (List.of_mem_zip hy).1) (fun h₁ hns hsb => ⟨lim.fresh _ hsb, ?_⟩) S.kind
  have kp : ∀ b o, s.heap.get? b = some o → h₁.get? b = some o := fun b o e => hsb.extBut b o (Nat.ne_of_lt (Heap.lt_size e)) (Heap.get?_push_of_some _ e)
  have I0 := NdefX.inv_startN (CX := CX0) (F := nfOf x qual params (st :: rest) scope cc cda) (f := f) (E := E) (tk := s.toks + (ps.zip us).length) S hr.hd e0 hl r C hns kp
  have I1 := I0.wish fun _ _ => False
  have hr2 : Room k (A.deeper (NdefX.envF (nfOf x qual params (st :: rest) scope cc cda) f s.heap.objs.size)) := hr.deeper _
  -- the lite run
  have body : tS g E0x (lseq la lb) { nx := fun _ H' => Q .non H', rt := Q } (NdefX.startF N vs [some (.ref (g.ca D))]) H := by
    refine ⟨⟨ω.Z, [] :: ω.r, ω.x⟩, env0S N.length ps.length D as, [] :: h, ?_, hr'.push, fin_ok o⟩
    have := startF_rel (rv.mono (pushIn (Z := ω.Z) (r := ω.r) (y := ω.x) (z := ω.x) [])) N D
    rw [hla] at this
    exact this
  obtain ⟨ω1, env1, h1, sr1, r1, o1⟩ := body
  have fin : ∀ {σ' : L2.St} {H' : Hp} {v : V} {u : Value} {s' : Shared}, Inv (supCx P w K mg base N x qual params (st :: rest) scope cc cda f A outer s H E) [] σ' H' s' → L2.RelV v u → Q v H' → CE outer P w H s Q u s' :=
    fun {σ' H' v u s'} J rv q => ⟨v, H', J.os, J.bare, J.base, J.hok, rv, q⟩
  have done : ∀ (fl : Flow) (s' : Shared), SP (supCx P w K mg base N x qual params (st :: rest) scope cc cda f A outer s H E) [] { nx := fun _ H' => Q .non H', rt := Q } fl s' → CR CX0 outer P w H s Q E (.ok (.ret (match fl with | .ret v => v | _ => .none))) s' := fun fl s' hs => by
    cases fl with
    | ret u => obtain ⟨v, σ', H', J, rv, q⟩ := hs; exact fin J rv q
    | next => obtain ⟨σ', H', J, q⟩ := hs; exact fin (v := V.non) (u := Value.none) J rfl q
    | brk => obtain ⟨_, _, _, q⟩ := hs; exact False.elim q
    | cont => obtain ⟨_, _, _, q⟩ := hs; exact False.elim q
  refine ks_codeAny_funcAt (ks_wpAt_execs_cons ?_)
  have stm := hst A outer s H E [] _ _ _ { nx := tS g E0x lb { nx := fun _ H' => Q .non H', rt := Q }, rt := Q } hr2 I1 ⟨ω1, env1, h1, sr1, r1, okS.seq o1⟩
  refine ks_wpAt_mono stm (fun fl s' hs => ?_) fun _ _ z => False.elim z
  cases fl with
  | next =>
    obtain ⟨σ', H', J, q⟩ := hs
    refine wpAt_of_wpAny (wpAny_mono ((hrest A outer s H E hr2).run [] s' σ' H' _ J q) (fun fl s2 hs2 => done fl s2 hs2) fun _ _ z => False.elim z)
  | ret u => obtain ⟨v, σ', H', J, rv, q⟩ := hs; exact fin J rv q
  | brk => obtain ⟨_, _, _, q⟩ := hs; exact False.elim q
  | cont => obtain ⟨_, _, _, q⟩ := hs; exact False.elim q
end
end Li

namespace Li
open PySem PySem.Spec PyProof.Rows L2

theorem okO.mono {g : Pg} {ω ω' : Wd} {o : Option (Val × LHeap)} {Q : VK} (h : okO g ω o Q) (l : WLe ω ω') : okO g ω' o Q := by
  cases o with
  | none => exact h
  | some p => exact fun w b H l' hr r => h w b H (l.trans l') hr r
/-- def f(a, .., *v) of n plain parameters -/
def lfnStar (n N : Nat) (b : LS) : LF := fun as h => match Nat.ble n as.length with
  | true => (match lim as.length with
    | true => lfn (n + 1) N b (as.take n ++ [.tup (as.drop n)]) h
    | false => none)
  | false => none
section
variable {P : Program} {w : World} {K : PySem.W.Frag} {mg : Str → Option Value} {base : Heap}
theorem fn_starL {g : Pg} {x qual : Str} {params : Arguments} {body : List Stmt} {scope : Scope} {dvs : List V} {kws : List (Str × V)} {f : Addr} {fd : FuncData} {N ps : List Str} {pv : Str} {k : Nat} {b : LS} (F : FunD K x qual params body scope dvs kws f fd) (S : FnScope N (ps ++ [pv]) scope)
    (hb : ∀ (dV kV doc pm : Value) (an : Option Addr) (cdv ct : Value) (us rest : List Value), us.length = ps.length → bindArgs (PySem.W.fnOf x qual params body scope dV kV doc pm an cdv ct) ⟨us ++ rest, []⟩ = (newTuple rest >>= fun t => pure (ps.zip us ++ [(pv, t)])))
    (hbody : ∀ (cdv : Value) (A : Around) (outer : List PySem.Env) (s : Shared) (H : Hp) (E : XK), Room k (A.deeper (envOfC qual scope s.heap.objs.size f cdv)) → PSs (cxOf CX0 P w K mg base N qual scope f cdv A outer s H E).nox body (tS g E0x b)) :
    FnR P w K mg base CX0 (k + 1) f (spR g (lfnStar ps.length N.length b)) := by
  obtain ⟨oc, od, dV, kV, doc, pm, an, cdv, ct, osl, rfl, lk, hcd, _, _⟩ := F.ex
  refine FnR.imp (StX.fn_star (sp := spL g (ps.length + 1) (lfn (ps.length + 1) N.length b)) lk hcd S StX.cxUp_none (fun us rest hl => hb dV kV doc pm an cdv ct us rest hl) fun A outer s H vs Q E hr h => ⟨tS g E0x b, (hbody cdv A outer s H E hr).nox, ?_⟩) fun vs H Q E h => ?_
  · obtain ⟨hl, ω, h, as, rv, hr', o⟩ := h
    have hla : as.length = ps.length + 1 := rv.length.symm.trans hl
    unfold lfn at o
    rw [show (as.length == ps.length + 1) = true from beq_iff_eq.mpr hla] at o
    refine ⟨⟨ω.Z, [] :: ω.r, ω.x⟩, env0 N.length (ps.length + 1) as, [] :: h, ?_, hr'.push, fin_ok o⟩
    have := start_rel (rv.mono (pushIn (Z := ω.Z) (r := ω.r) (y := ω.x) (z := ω.x) [])) N
    rw [hla] at this
    exact this
  · obtain ⟨ω, hh, as, rv, hr', o⟩ := h
    unfold lfnStar at o
    cases q1 : Nat.ble ps.length as.length with
    | false => simp only [q1] at o; exact o.elim
    | true =>
      cases q2 : lim as.length with
      | false => simp only [q1, q2] at o; exact o.elim
      | true =>
        simp only [q1, q2] at o
        have hn := Nat.le_of_ble_eq_true q1
        have hl := rv.length
        have hz := lim_le q2
        refine ⟨vs.take ps.length, vs.drop ps.length, (List.take_append_drop _ _).symm, by rw [List.length_take]; omega, by rw [List.length_drop]; omega, fun p hp => ?_⟩
        obtain ⟨h1, l1, rt⟩ := new_tup hr' (rv.drop ps.length) hp
        refine ⟨by simp; omega, _, hh, _, ((rv.take ps.length).mono l1.to).append (.cons rt .nil), h1, ?_⟩
        exact okO.mono o l1
end

section
variable {X : Cx} {g : Pg} {E : EX} {k : Nat} {f : Addr} {fd : FuncData} {ps : List Str} {lf : LF} {x : Str} {p pos apos : Pos} {e o : Expr} {es : List Expr} {la : LA} {lo : LE} {c nf : Nat}
theorem mkF_okR {ω : Wd} {h : LHeap} {as : List Val} {vs : List V} {H : Hp} {Q : VK} (hnf : (g.cf c).length = nf) (r : RVs g ω as vs) (hr : HRel g ω h H) (o : okO g ω (mkF c nf lf as h) Q) {q dx : Addr} (hq : H q = none) (hd : H dx = none) (ne : dx ≠ q) :
    spR g lf (.ref q :: vs) (upd (upd H dx (.own q)) q (.ins (g.ca c) dx [])) (fun v H2 => v = .non ∧ Q (.ref q) H2) E0 := by
  obtain ⟨Z, rr, gx⟩ := ω
  have h1 : HRel g ⟨Z, [] :: rr, gx⟩ ([] :: h) (upd H dx (.own q)) := hr.push.keep fun a o e => by rw [upd_ne (ne_of_none e hd)]; exact e
  have hq' : upd H dx (.own q) q = none := by rw [upd_ne (Ne.symm ne)]; exact hq
  obtain ⟨h2, l2, rv2⟩ := h1.alloc hq' (o := .ins c (List.replicate nf none)) (u := .ins (g.ca c) dx []) (.ins (RIs.empty hnf) (fun p hp => by cases hp) List.nodup_nil)
  have rvs : RVs g ⟨Z, [q] :: rr, gx⟩ (.obj h.length 0 :: as) (.ref q :: vs) := .cons rv2 ((r.mono (pushIn [])).mono l2.to)
  have o1 : okO g ⟨Z, [q] :: rr, gx⟩ (lf (.obj h.length 0 :: as) ([.ins c (List.replicate nf none)] :: h)) (fun v H2 => v = .non ∧ Q (.ref q) H2) := by
    unfold mkF at o
    cases e : lf (.obj h.length 0 :: as) ([.ins c (List.replicate nf none)] :: h) with
    | none => rw [e] at o; exact o.elim
    | some p =>
      obtain ⟨v, hh⟩ := p
      rw [e] at o
      cases v with
      | non =>
        cases hh with
        | nil => exact o.elim
        | cons os hh =>
          intro ω' b H' l' x' rb
          cases rb
          refine ⟨rfl, ?_⟩
          obtain ⟨Z', r', gy⟩ := ω'
          cases r' with
          | nil => have := l'.len; simp at this
          | cons as' r' => exact retV_ok (ω := ⟨Z, rr, gx⟩) (l2.trans l') x' (rv2.mono l'.to) o
      | _ => cases hh <;> exact o.elim
  exact ⟨_, _, _, rvs, h2, o1⟩
theorem e_mkFR (hnf : (g.cf c).length = nf) (M : Mk X.K (g.ca c) f) (F : FnR X.prog X.w X.K X.mg X.base CX0 k f (spR g lf)) (hr : Room (k + 1) X.A) (hg : Gl X x) (hm : X.mg x = some (.ref (g.ca c)))
    (ha : PA X (e :: es) (tA g E la)) (hdb : (x == ("__debug__" : Str)) = false := by decide) (he : starEach (e :: es) X.env = (false, eval e X.env) :: starEach es X.env := by rfl) (hpl : (backTo pos (starEach es X.env)).any (·.1) = false := by rfl) :
    PE X (.Call (.Name x p) (e :: es) [] pos) (tE g E (lmkF c nf lf la)) :=
  (StX.pe_makeR M F hr hg hm pass0 ha hdb he hpl).weak fun σ H Q ⟨ω, env, h, s, r, o⟩ => tL.step (f := fun _ vs h1 => ofO (mkF c nf lf vs h1)) s r o fun ω1 a vs h1 H1 s1 r1 ra l1 o1 => fun q dx hq hd ne =>
    mkF_okR hnf ra r1 (.of o1) hq hd ne
end

/-- zs as the parameters stand: pm j is the place, among the keywords, of the j-th parameter -/
def permL {α : Type} (pm : List Nat) (zs : List α) : List α := pm.filterMap (zs[·]?)
theorem permL_vals {zs : List V} {ws : List Value} (r : Vals zs ws) : ∀ pm : List Nat, Vals (permL pm zs) (permL pm ws)
  | [] => .nil
  | j :: pm => by
    unfold permL
    rw [List.filterMap_cons, List.filterMap_cons]
    cases e : zs[j]? with
    | none =>
      have : ws[j]? = none := r.none_of e
      rw [this]
      exact permL_vals r pm
    | some z =>
      obtain ⟨w, e2, rz⟩ := r.get e
      rw [e2]
      exact .cons rz (permL_vals r pm)
theorem permL_RVs {g : Pg} {ω : Wd} {zs : List Val} {us : List V} (r : RVs g ω zs us) : ∀ pm : List Nat, RVs g ω (permL pm zs) (permL pm us)
  | [] => .nil
  | j :: pm => by
    unfold permL
    rw [List.filterMap_cons, List.filterMap_cons]
    cases e : zs[j]? with
    | none =>
      have : us[j]? = none := by
        rw [List.getElem?_eq_none_iff] at e ⊢
        rw [r.length]; exact e
      rw [this]
      exact permL_RVs r pm
    | some z =>
      obtain ⟨w, e2, rz⟩ := r.get e
      rw [e2]
      exact .cons rz (permL_RVs r pm)
/-- what such a call binds -/
abbrev KBp (K : PySem.W.Frag) (fd : FuncData) (ps : List Str) (n : Nat) (ks : List Str) (pm : List Nat) : Prop := KBn K fd ps n ks (fun us ws => us ++ permL pm ws) (fun vs zs => vs ++ permL pm zs)
theorem KBp.of {K : PySem.W.Frag} {fd : FuncData} {ps : List Str} {n : Nat} {ks : List Str} {pm : List Nat} (h : ∀ us ws : List Value, us.length = n → ws.length = ks.length → bindArgs fd ⟨us, ks.zip ws⟩ = pure (ps.zip (us ++ permL pm ws))) : KBp K fd ps n ks pm :=
  ⟨fun s us ws _ l1 l2 => .of_eq (h us ws l1 l2), fun r1 r2 => r1.append (permL_vals r2 pm)⟩
def tMake0 (C : Addr) (m : Nat) (sp : Sp) (gV : List V → List V → List V) (E : XK) (tk : TA) : TE := fun σ H Q => tk σ H fun zs H2 => zs.length = m ∧
  ∀ x dx, H2 x = none → H2 dx = none → dx ≠ x → sp (gV [.ref x] zs) (upd (upd H2 dx (.own x)) x (.ins C dx [])) (fun v H3 => v = .non ∧ Q (.ref x) H3) E
theorem pe_make0K {X : Cx} {CX : CXT} {k : Nat} {f C : Addr} {fd : FuncData} {ps ks : List Str} {sp : Sp} {E : XK} {x : Str} {p pos : Pos} {kws : List Keyword} {tk : TA} {g : List Value → List Value → List Value} {gV : List V → List V → List V}
    (M : Mk X.K C f) (F : FnOk X.prog X.w X.K X.mg X.base CX k f fd ps sp) (hr : Room (k + 1) X.A) (hg : Gl X x) (hm : X.mg x = some (.ref C)) (hb : KBn X.K fd ps 1 ks g gV) (hx : Passes CX X E)
    (hkw : PK X kws tk) (hall : (backToKw pos (keywordEach kws X.env)).all (·.1.isSome) = true := by rfl) (hks : (backToKw pos (keywordEach kws X.env)).filterMap (·.1) = ks := by rfl)
    (hdb : (x == ("__debug__" : Str)) = false := by decide) (hpl : ((backTo pos (starEach [] X.env)).any (·.1) || (backToKw pos (keywordEach kws X.env)).any (·.1.isNone)) = false := by rfl) :
    PE X (.Call (.Name x p) [] kws pos) (tMake0 C ks.length sp gV E tk) := by
  refine ⟨fun pins s σ H Q I h => ?_⟩
  refine wpAny_Call_Name_kw (ld_glob I hg hm ?_ hdb)
  refine PySem.W.callWith_KW0 (h₀ := X.base) I.ok.mod.kin M.kp hall (thn (hkw.run pos pins s σ H _ I h) fun ws s2 ⟨zs, H2, I2, rz, l2, q2⟩ => ⟨I2.kIn, ?_⟩) hpl
  rw [hks]
  exact run_makeN (n := 0) M F hr hb hx I2 .nil rz rfl l2 q2
/-- C(k = v, ..) -/
def lmkK (c nf m : Nat) (pm : List Nat) (lf : LF) (a : LA) : LE := fun env h => (a env h).bind fun vs h1 => match vs.length == m with
  | true => ofO (mkF c nf lf (permL pm vs) h1)
  | false => .err
section
variable {X : Cx} {g : Pg} {E : EX} {k : Nat} {f : Addr} {fd : FuncData} {ps ks : List Str} {lf : LF} {x : Str} {p pos : Pos} {kws : List Keyword} {la : LA} {c nf m : Nat} {pm : List Nat}
theorem e_mkK {n : Nat} (hnf : (g.cf c).length = nf) (M : Mk X.K (g.ca c) f) (F : FnOk X.prog X.w X.K X.mg X.base CX0 k f fd ps (spL g n lf)) (hn : Takes n lf) (hr : Room (k + 1) X.A) (hg : Gl X x) (hm : X.mg x = some (.ref (g.ca c))) (hb : KBp X.K fd ps 1 ks pm) (hkm : ks.length = m)
    (hkw : PK X kws (tA g E la)) (hall : (backToKw pos (keywordEach kws X.env)).all (·.1.isSome) = true := by rfl) (hks : (backToKw pos (keywordEach kws X.env)).filterMap (·.1) = ks := by rfl)
    (hdb : (x == ("__debug__" : Str)) = false := by decide) (hpl : ((backTo pos (starEach [] X.env)).any (·.1) || (backToKw pos (keywordEach kws X.env)).any (·.1.isNone)) = false := by rfl) :
    PE X (.Call (.Name x p) [] kws pos) (tE g E (lmkK c nf m pm lf la)) :=
  (pe_make0K M F hr hg hm hb pass0 hkw hall hks hdb hpl).weak fun σ H Q ⟨ω, env, h, s, r, o⟩ => tL.step (f := fun _ vs h1 => match vs.length == m with
    | true => ofO (mkF c nf lf (permL pm vs) h1)
    | false => .err) s r o fun ω1 a vs h1 H1 s1 r1 ra l1 o1 => by
    cases q : (a.length == m) with
    | false => simp only [q] at o1; exact o1.elim
    | true =>
      simp only [q] at o1
      refine ⟨by rw [ra.length, hkm]; exact beq_iff_eq.mp q, fun z dx hz hd ne => ?_⟩
      exact mkF_ok (σ := σ) hn hnf (permL_RVs ra pm) r1 (.of o1) hz hd ne
theorem _root_.L2.PK.weak {X : Cx} {e : List Keyword} {t t' : TA} (h : PK X e t) (w : ∀ σ H Q, t' σ H Q → t σ H Q) : PK X e t' := ⟨fun pos pins s σ H Q I q => h.run pos pins s σ H Q I (w σ H Q q)⟩
theorem k_nil : PK X [] (tA g E anil) := pk_nil.weak fun σ H Q ⟨ω, env, h, s, r, o⟩ => o ω [] H .rfl' r .nil
theorem k_cons {e : Expr} {le : LE} {nm : Option Str} {kpos : Pos} (ha : PE X e (tE g E le)) (hr : PK X kws (tA g E la)) : PK X (⟨nm, e, kpos⟩ :: kws) (tA g E (acons le la)) :=
  (pk_cons ha hr).weak fun σ H Q ⟨ω, env, hh, s, r, o⟩ => tL.step (f := fun env x h1 => (la env h1).bind fun xs h2 => .ok (x :: xs) h2) s r o fun ω1 a x h1 H1 s1 r1 ra l1 o1 =>
    tL.step (f := fun _ xs h2 => .ok (a :: xs) h2) s1 r1 o1 fun ω2 b y h2 H2 s2 r2 rb l2 o2 => o2 ω2 _ H2 .rfl' r2 (.cons (ra.mono l2.to) rb)
end
end Li

namespace Li
open PySem PySem.Spec PyProof.Rows L2

section
variable {M : Model} {prog : Program} {w : World} {A : Around} {E : Value → Shared → Prop} {s : Shared} {K : PySem.W.Frag} {x C f : Addr} {ox : Obj} {od : Option Obj} {a b : Value}
theorem ifBound_objNe {args : List Value} {Q : Option Value → Shared → Prop} (X : K.In s.heap) (I : PySem.W.InstAt s.heap x ox C od) (hs : PySem.W.findIn K (.ref C) "__ne__" = some (some (.builtin "object.__ne__")))
    (h : wpAny M A (call (.builtin "object.__ne__") (.ref x :: args)) (fun v => Q (some v)) E s) : wpAny M A (callSpecialIfBound? (.ref x) "__ne__" args) Q E s := by
  simp only [callSpecialIfBound?, bindSpecialIfBound?]
  refine wpAny_holding (wpAny_bind (wpAny_bind (wpAny_bind (I.type.here ((PySem.W.looks_findIn X hs).here ?_)))))
  refine wpAny_bind (wpAny_askSetting (wpAny_ite ?_))
  have fin : wpAny M A (call (.builtin "object.__ne__") ([.ref x] ++ args) >>= fun v => pure (some v)) Q E s := wpAny_bind (wpAny_mono h (fun v s' h' => wpAny_pure h') fun _ _ h' => h')
  split
  · exact wpAny_bind (wpAny_of_eq (F.cmp_object.ne.bind _) (wpAny_pure (by exact fin)))
  · exact wpAny_tryCatch (wpAny_bind (wpAny_of_eq (F.cmp_object.ne.bind _) (wpAny_pure (by exact fin))))
/-- object.__ne__ by an own __eq__ that answers a bool -/
theorem call_objNe {Q : Value → Shared → Prop} (X : K.In s.heap) (I : PySem.W.InstAt s.heap x ox C od) (hm : PySem.W.mroIn K C (.type "object") = some true) (hs : PySem.W.findIn K (.ref C) "__eq__" = some (some (.ref f))) (hf : PySem.W.isFn K (.ref f) = true) (hu : A.in1.units < cLine)
    (h : wpAny (model prog w) A.in1 (call (.ref f) [.ref x, b]) (fun v s' => ∃ k, v = .bool k ∧ Q (.bool (!k)) s') E s) : wpAny (model prog w) A (call (.builtin "object.__ne__") [.ref x, b]) Q E s := by
  refine wpAny_call (codeAny_call_builtin F.cmp_object.ne.plain F.cmpEntry_ne (PySem.W.check_slot F.cmpKind_ne F.cmpSplit_ne (I.type.andThen (PySem.W.looks_mroIn X hm)) (F.cmpArgs_ne _ _) ?_))
  unfold Builtin.«object.__ne__»
  refine wpAny_bind (wpAny_of_eq (a := (.ref x, [b])) (by rfl) ?_)
  show wpAny _ _ (cRoomFor "comparison" [.ref x, b] >>= _) _ _ _
  refine wpAny_bind (wpAny_cRoomFor hu ?_)
  refine wpAny_bind (PySem.W.ifBound_K X I hs hf (wpAny_mono h (fun v s' hv => ?_) fun _ _ e => e))
  obtain ⟨k, rfl, q⟩ := hv
  refine wpAny_bind (wpAny_truthy_bool ?_)
  exact wpAny_pure q
/-- the left one answers -/
theorem cmp_one {op : CmpOp} {tb : Value} {Q : Value → Shared → Prop} (hu : A.units < cLine) (ha : PySem.W.Looks (model prog w) s.heap (typeOf (.ref x)) (.ref C)) (hb : PySem.W.Looks (model prog w) s.heap (typeOf b) tb) (X : K.In s.heap) (hn : PySem.W.notFirst K C tb = true)
    (one : wpAny (model prog w) A (tryCompare (.ref x) (cmpInfo op).2.1 b) (fun r s' => ∃ v, r = some v ∧ Q v s') E s) : wpAny (model prog w) A (richCompare op (.ref x) b) Q E s := by
  unfold richCompare
  simp only [oneThing_ref]
  refine wpAny_holding (wpAny_bind (wpAny_cRoomFor hu ?_))
  refine wpAny_bind (ha.here (wpAny_bind (hb.here ?_)))
  split
  · rename_i q
    have e : PySem.W.subIn K tb (.ref C) = some false := by
      rcases Bool.or_eq_true_iff.mp hn with e | e
      · rw [beq_iff_eq.mp e] at q; simp at q
      · exact beq_iff_eq.mp e
    refine wpAny_bind ((PySem.W.looks_subIn X e).here ?_)
    simp only [Bool.false_eq_true, if_false]
    refine wpAny_bind (wpAny_mono one (fun r s' z => ?_) fun _ _ e => e)
    obtain ⟨v, rfl, hq⟩ := z
    exact wpAny_pure hq
  · refine wpAny_bind (wpAny_pure ?_)
    simp only [Bool.false_eq_true, if_false]
    refine wpAny_bind (wpAny_mono one (fun r s' z => ?_) fun _ _ e => e)
    obtain ⟨v, rfl, hq⟩ := z
    exact wpAny_pure hq
/-- the right one answers first: its class is below the left one's -/
theorem cmp_two {op : CmpOp} {C' y : Addr} {Q : Value → Shared → Prop} (hu : A.units < cLine) (ha : PySem.W.Looks (model prog w) s.heap (typeOf (.ref x)) (.ref C)) (hb : PySem.W.Looks (model prog w) s.heap (typeOf (.ref y)) (.ref C')) (X : K.In s.heap) (hn : PySem.W.subIn K (.ref C') (.ref C) = some true) (ne : C' ≠ C)
    (one : wpAny (model prog w) A (tryCompare (.ref y) (cmpInfo op).2.2 (.ref x)) (fun r s' => ∃ v, r = some v ∧ Q v s') E s) : wpAny (model prog w) A (richCompare op (.ref x) (.ref y)) Q E s := by
  unfold richCompare
  simp only [oneThing_ref]
  refine wpAny_holding (wpAny_bind (wpAny_cRoomFor hu ?_))
  refine wpAny_bind (ha.here (wpAny_bind (hb.here ?_)))
  rw [if_pos (show (Value.ref C != Value.ref C') = true by simp [Ne.symm ne])]
  refine wpAny_bind ((PySem.W.looks_subIn X hn).here ?_)
  simp only [if_true]
  refine wpAny_bind (wpAny_mono one (fun r s' z => ?_) fun _ _ e => e)
  obtain ⟨v, rfl, hq⟩ := z
  exact wpAny_bind (wpAny_rule (wpAny_pure hq))
end

section
variable {X : Cx} {g : Pg} {n : Nat} {f : Addr} {fd : FuncData} {ps : List Str} {lf : LF}
/-- an own def called from within, at the same frames -/
theorem call_at {A : Around} {pins : List (Addr × Obj)} {s : Shared} {σ : L2.St} {H : Hp} {us : List Value} {vs : List V} {ω : Wd} {hh : LHeap} {as : List Val} {Q : VK} (hr : Room n A) (hfr : A.frames = some X.stack) (F : FnOk X.prog X.w X.K X.mg X.base CX0 n f fd ps (spL g ps.length lf)) (hn : Takes ps.length lf) (hb : Binds X.K fd ps []) (I : Inv X pins σ H s) (r : Vals vs us)
    (rv : RVs g ω as vs) (hr' : HRel g ω hh H) (o : okO g ω (lf as hh) Q) : wpAny (model X.prog X.w) A (call (.ref f) us) (EP X pins σ Q) X.xe s := by
  have hl : as.length = ps.length := by
    by_cases q : as.length = ps.length
    · exact q
    · rw [hn as hh q] at o; exact o.elim
  have hsp : spL g ps.length lf vs H Q E0 := ⟨rv.length.trans hl, ω, hh, as, rv, hr', o⟩
  have e0 : Env0 X.prog X.w X.K X.mg X.base A X.stack s H := by
    have e := I.env0
    exact ⟨hfr, e.mod, e.bs, e.bsz, e.funs, e.frf, e.hok, e.bare⟩
  have hul : us.length = ps.length := r.length.symm.trans (rv.length.trans hl)
  refine wpAny_call (codeAny_mono (F.run A X.stack s H ⟨us, []⟩ us vs _ E0 hr e0 (by
    have := hb s us I.kIn (by simpa using hul)
    simpa using this) r hsp) fun r s' hq => ?_)
  cases r with
  | error e => exact L2.pass0 (X := X) pins σ H s e s' I hq
  | ok fl =>
    cases fl with
    | ret w => exact I.after hq
    | next => exact False.elim hq
    | brk => exact False.elim hq
    | cont => exact False.elim hq
end

/-- a class c whose own == is f; subs: the types strictly below it -/
structure EqT (g : Pg) (all : List Nat) (c : Nat) (subs : List Nat) (f : Addr) : Prop where
  eq : PySem.W.findIn g.K (.ref (g.ca c)) "__eq__" = some (some (.ref f))
  fn : PySem.W.isFn g.K (.ref f) = true
  ne : PySem.W.findIn g.K (.ref (g.ca c)) "__ne__" = some (some (.builtin "object.__ne__"))
  mo : PySem.W.mroIn g.K (g.ca c) (.type "object") = some true
  nf : ∀ t, memN t all = true → memN t subs = false → PySem.W.notFirst g.K (g.ca c) (tagV g t) = true
  fs : ∀ t, memN t subs = true → ∃ c', t = c' + 16 ∧ PySem.W.subIn g.K (.ref (g.ca c')) (.ref (g.ca c)) = some true ∧ g.ca c' ≠ g.ca c
/-- an instance's class -/
def insOf (h : LHeap) (v : Val) : Option Nat := match v with
  | .ins c _ => some c
  | .obj d n => (match look h d n with
    | some (.ins c _) => some c
    | _ => none)
  | _ => none
theorem insOf_at {g : Pg} {ω : Wd} {h : LHeap} {H : Hp} {c : Nat} {v : Val} {u : V} (r : HRel g ω h H) (rv : RV g ω v u) (e : insOf h v = some c) : ∃ a dx gs, u = .ref a ∧ H a = some (.ins (g.ca c) dx gs) := by
  have : isC c v h = true := by
    unfold insOf at e
    unfold isC
    cases v with
    | ins d fs => cases e; exact beq_self_eq_true _
    | obj d n =>
      cases e0 : look h d n with
      | none => simp only [e0] at e; cases e
      | some ob =>
        cases ob with
        | ins d fs => simp only [e0] at e ⊢; cases e; exact beq_self_eq_true _
        | _ => simp only [e0] at e; cases e
    | _ => cases e
  obtain ⟨a, dx, gs, h1, h2, _⟩ := isC_at r rv this
  exact ⟨a, dx, gs, h1, h2⟩
def negB (neg : Bool) (o : Option (Val × LHeap)) : Option (Val × LHeap) := match o with
  | some (.bl k, h) => some (.bl (xor neg k), h)
  | _ => none
/-- a == b, a != b: own classes by fs, else data -/
def opOwn (all : List Nat) (fs : Nat → Option (List Nat × LF)) (neg : Bool) : P2 := fun h a b => match insOf h a with
  | some c => (match fs c with
    | some (subs, f) => (match tagOf h b with
      | some t => (match memN t all with
        | true => (match memN t subs with
          | false => negB neg (f [a, b] h)
          | true => (match insOf h b with
            | some c' => (match Nat.beq t (c' + 16) with
              | true => (match fs c' with
                | some (_, f') => negB neg (f' [b, a] h)
                | none => none)
              | false => none)
            | none => none))
        | false => none)
      | none => none)
    | none => none)
  | none => (match insOf h b with
    | some _ => none
    | none => opEq neg h a b)
theorem negB_of {g : Pg} {ω : Wd} {neg : Bool} {o : Option (Val × LHeap)} {Q : VK} (h : okO g ω (negB neg o) Q) : okO g ω o (fun v H => ∃ k, v = .bl k ∧ Q (.bl (xor neg k)) H) := by
  cases o with
  | none => exact h
  | some p =>
    obtain ⟨v, hh⟩ := p
    cases v with
    | bl k => exact fun w b H l hr rb => by cases rb; exact ⟨k, rfl, h w _ H l hr (.bl _)⟩
    | _ => exact h.elim
section
variable {X : Cx} {g : Pg} {n : Nat}
/-- what the functions of the table promise -/
def EqFs (X : Cx) (g : Pg) (n : Nat) (all : List Nat) (fs : Nat → Option (List Nat × LF)) : Prop := ∀ c subs lf, fs c = some (subs, lf) → ∃ f fd ps, EqT g all c subs f ∧ FnOk X.prog X.w X.K X.mg X.base CX0 n f fd ps (spL g ps.length lf) ∧ Takes ps.length lf ∧ Binds X.K fd ps []
theorem try_own {A : Around} {all : List Nat} {c : Nat} {subs : List Nat} {f : Addr} {fd : FuncData} {ps : List Str} {lf : LF} {op : CmpOp} {neg : Bool} (hop : (cmpInfo op).2.1 = (if neg then "__ne__" else "__eq__") ∧ (cmpInfo op).2.2 = (if neg then "__ne__" else "__eq__")) (hK : X.K = g.K) (T : EqT g all c subs f) (F : FnOk X.prog X.w X.K X.mg X.base CX0 n f fd ps (spL g ps.length lf)) (hn : Takes ps.length lf) (hb : Binds X.K fd ps []) (hr : Room (n + 1) A) (hfr : A.frames = some X.stack)
    {pins : List (Addr × Obj)} {s : Shared} {σ : L2.St} {H : Hp} {ω : Wd} {hh : LHeap} {a b : Val} {x : Addr} {dx : Addr} {gs : List (Str × V)} {y : V} {v : Value} {Q : VK} (I : Inv X pins σ H s) (r : HRel g ω hh H) (ra : RV g ω a (.ref x)) (rb : RV g ω b y) (ry : RelV y v) (hH : H x = some (.ins (g.ca c) dx gs)) (o : okO g ω (negB neg (lf [a, b] hh)) Q) :
    wpAny (model X.prog X.w) A (tryCompare (.ref x) (if neg then "__ne__" else "__eq__" : String) v) (fun r s' => ∃ w, r = some w ∧ EP X pins σ Q w s') X.xe s := by
  obtain ⟨od, J⟩ := inst_ne I hH
  have o' := negB_of o
  have hT := hK ▸ T.eq
  unfold tryCompare
  cases neg with
  | false =>
    refine wpAny_bind (PySem.W.ifBound_K (hK ▸ I.kIn) J T.eq T.fn (wpAny_mono (call_at (hr.mono (Nat.le_succ n)) hfr F hn hb I (.cons (show RelV (.ref x) (.ref x) from rfl) (.cons ry .nil)) (.cons ra (.cons rb .nil)) r o') (fun u s' hu => ?_) fun _ _ e => e))
    obtain ⟨w, H', I', rw', k, ew, q⟩ := hu
    subst ew
    cases rw'
    exact wpAny_pure ⟨_, rfl, .bl k, H', I', rfl, by simpa using q⟩
  | true =>
    refine wpAny_bind (ifBound_objNe (hK ▸ I.kIn) J T.ne (wpAny_mono (call_objNe (Q := fun v s' => (∃ k, v = .bool k) ∧ EP X pins σ Q v s') (hK ▸ I.kIn) J T.mo T.eq T.fn (by have := hr.un; rw [Around.in1_units]; omega) (wpAny_mono (call_at hr.in1 hfr F hn hb I (.cons (show RelV (.ref x) (.ref x) from rfl) (.cons ry .nil)) (.cons ra (.cons rb .nil)) r o') (fun u s' hu => ?_) fun _ _ e => e)) (fun u s' hu => ?_) fun _ _ e => e))
    · obtain ⟨w, H', I', rw', k, ew, q⟩ := hu
      subst ew
      cases rw'
      exact ⟨k, rfl, ⟨_, rfl⟩, .bl (!k), H', I', rfl, by simpa using q⟩
    · obtain ⟨⟨k, rfl⟩, q⟩ := hu
      exact wpAny_pure ⟨_, rfl, q⟩
theorem op_own {all : List Nat} {it : IsiT} {fs : Nat → Option (List Nat × LF)} {op : CmpOp} {neg : Bool} (hop : (cmpInfo op).2.1 = (if neg then "__ne__" else "__eq__" : String) ∧ (cmpInfo op).2.2 = (if neg then "__ne__" else "__eq__" : String)) (hcmp : ∀ a b, compareOp op a b = richCompare op a b) (hd : OpR X (compareOp op) (rL g (opEq neg)))
    (hK : X.K = g.K) (T : IsiOk g all it) (Fs : EqFs X g n all fs) (hr : Room (n + 1) X.A) : OpR X (compareOp op) (rL g (opOwn all fs neg)) := by
  intro pins s σ H x y v u Q I rx ry ⟨ω, hh, a, b, r, ra, rb, o⟩
  unfold opOwn at o
  cases e1 : insOf hh a with
  | none =>
    simp only [e1] at o
    cases e2 : insOf hh b with
    | some c => simp only [e2] at o; exact o.elim
    | none => simp only [e2] at o; exact hd pins s σ H x y v u Q I rx ry ⟨ω, hh, a, b, r, ra, rb, o⟩
  | some c =>
    simp only [e1] at o
    cases e2 : fs c with
    | none => simp only [e2] at o; exact o.elim
    | some sf =>
      obtain ⟨subs, lf⟩ := sf
      simp only [e2] at o
      cases e3 : tagOf hh b with
      | none => simp only [e3] at o; exact o.elim
      | some t =>
        simp only [e3] at o
        cases e4 : memN t all with
        | false => simp only [e4] at o; exact o.elim
        | true =>
          simp only [e4] at o
          obtain ⟨f, fd, ps, E1, F1, hn1, hb1⟩ := Fs c subs lf e2
          obtain ⟨p, dx, gs, rfl, hH⟩ := insOf_at r ra e1
          cases rx
          obtain ⟨od, J⟩ := inst_ne I hH
          obtain ⟨PH, Z, ph, _⟩ := kit_ofY I ry (hK ▸ tag_at T r rb e3 e4)
          have hb : PySem.W.Looks (model X.prog X.w) s.heap (typeOf u) (tagV g t) := Z.ty _ _ I.kIn ph
          rw [hcmp]
          cases e5 : memN t subs with
          | false =>
            simp only [e5] at o
            exact cmp_one (K := g.K) hr.units0 J.type hb (hK ▸ I.kIn) (E1.nf t e4 e5) (by rw [hop.1]; exact try_own (op := op) hop hK E1 F1 hn1 hb1 hr I.ok.frames I r ra rb ry hH o)
          | true =>
            simp only [e5] at o
            obtain ⟨c', et, es, ene⟩ := E1.fs t e5
            cases e6 : insOf hh b with
            | none => simp only [e6] at o; exact o.elim
            | some c'' =>
              simp only [e6] at o
              cases e7 : Nat.beq t (c'' + 16) with
              | false => simp only [e7] at o; exact o.elim
              | true =>
                simp only [e7] at o
                have e8 := Nat.eq_of_beq_eq_true e7
                have e9 : c' = c'' := by omega
                subst e9
                cases e10 : fs c' with
                | none => simp only [e10] at o; exact o.elim
                | some sf' =>
                  obtain ⟨subs', lf'⟩ := sf'
                  simp only [e10] at o
                  obtain ⟨f', fd', ps', E2, F2, hn2, hb2⟩ := Fs c' subs' lf' e10
                  obtain ⟨p', dx', gs', rfl, hH'⟩ := insOf_at r rb e6
                  cases ry
                  obtain ⟨od', J'⟩ := inst_ne I hH'
                  exact cmp_two (K := g.K) hr.units0 J.type J'.type (hK ▸ I.kIn) es ene (by rw [hop.2]; exact try_own (op := op) hop hK E2 F2 hn2 hb2 hr I.ok.frames I r rb ra (show RelV (.ref p) (.ref p) from rfl) hH' o)
theorem op_eqO {all : List Nat} {it : IsiT} {fs : Nat → Option (List Nat × LF)} (hK : X.K = g.K) (T : IsiOk g all it) (Fs : EqFs X g n all fs) (hr : Room (n + 1) X.A) : OpR X (compareOp .Eq) (rL g (opOwn all fs false)) :=
  op_own ⟨rfl, rfl⟩ (fun _ _ => rfl) (op_eqL hK hr) hK T Fs hr
theorem op_neO {all : List Nat} {it : IsiT} {fs : Nat → Option (List Nat × LF)} (hK : X.K = g.K) (T : IsiOk g all it) (Fs : EqFs X g n all fs) (hr : Room (n + 1) X.A) : OpR X (compareOp .NotEq) (rL g (opOwn all fs true)) :=
  op_own ⟨rfl, rfl⟩ (fun _ _ => rfl) (op_neL hK hr) hK T Fs hr
end
end Li

namespace Li
open PySem PySem.Spec PyProof.Rows L2

section
variable {prog : Program} {w : World} {A : Around} {E : Value → Shared → Prop} {s : Shared} {K : PySem.W.Frag} {R : Result → Shared → Prop} {C : Addr}
open Builtin Builtin.ObjectAttr Builtin.Getset_descriptor in
theorem cn_dga (d tp : Value) (C : Addr) : descrGetArgs ⟨[d, .ref C, tp], []⟩ = pure (d, some (.ref C), if tp == .none then none else some tp) := by kernel_rfl
open Builtin Builtin.ObjectAttr Builtin.Getset_descriptor in
theorem cn_get {tp v : Value} {oC : Obj} (X : K.In s.heap) (ht : PySem.W.typeIn K (.ref C) = some (.type "type")) (hC : s.heap.get? C = some oC) (h2 : oC.slots[2]? = some (some v)) (h : R (.ok (.ret v)) s) :
    codeAny (model prog w) A (.call (.builtin "getset_descriptor.__get__") ⟨[.builtin "type.__name__", .ref C, tp], []⟩) R s := by
  obtain ⟨hh, g, dr, t, os⟩ := s
  have L0 : PySem.W.Looks (model prog w) hh (typeOf (.ref C)) (.type "type") := PySem.W.looks_typeIn X ht
  have L1 : PySem.W.Looks (model prog w) hh (isSubtype (.type "type") (.type "type")) true := PySem.W.Looks.of_pure (by rw [isSubtype_type]; kernel_rfl)
  refine codeAny_call_builtin PySem.W.KF.slot_gs.plain PySem.W.KF.entry_gs (PySem.W.KF.slot_gs.check _ _ _ _ _ _ _ _ PySem.W.ktyn_type (PySem.W.KF.args_gs _ _ _) ?_)
  unfold Builtin.«getset_descriptor.__get__» descrGet
  rw [cn_dga]
  refine wpAny_bind (wpAny_pure ?_)
  unfold descrGetter descrCheckInstance descrNameAndClass isInstance
  simp only [PySem.W.ktyn_owner]
  repeat (first | (with_reducible refine PySem.W.Looks.at (by assumption) ?_) | lk)
  refine ⟨Code.quiet_builtin _ (by decide +kernel), codeAny_builtin PySem.W.ktyn_entry ?_⟩
  unfold Builtin.«type.__name__»
  dsimp only
  unfold keptObject slotAt
  dsimp only
  refine wpAny_bind (wpAny_bind (wpAny_loadPart_at hC ?_))
  refine wpAny_pure ?_
  rw [h2]
  show wpAny _ _ (ret v >>= pure) _ _ _
  exact wpAny_bind (wpAny_pure (wpAny_pure h))
/-- the class's name, as the class holds it -/
structure CNm (K : PySem.W.Frag) (C : Addr) (z : Str) : Prop where
  ty : PySem.W.typeIn K (.ref C) = some (.type "type")
  nm : ∃ o t, K.lookup C = some o ∧ o.slots[2]? = some (some (.str z t))
  fc : PySem.W.findCls K (.ref C) (.type "type") "__name__" = some (.get (.builtin "getset_descriptor.__get__") (.builtin "type.__name__") (.ref C) (.type "type"))
  tp : PySem.W.nsIn K cStatics "thirdparty.any" = some none
theorem cn_attr {expr : Bool} {z : Str} {Q : Value → Shared → Prop} (X : K.In s.heap) (N : CNm K C z) (h : ∀ tk u, Q (.str z tk) { s with toks := u }) : wpAny (model prog w) A (getAttr (.ref C) "__name__" expr) Q E s := by
  obtain ⟨o, t, ho, h2⟩ := N.nm
  have L0 : PySem.W.Looks (model prog w) s.heap (typeOf (.ref C)) (.type "type") := PySem.W.looks_typeIn X N.ty
  refine PySem.W.cls_open X (PySem.W.looks_opaque X N.tp) L0 PySem.W.type_tga (PySem.W.looks_hook X (r := none) (by rfl)) (by show PySem.W.subIn K _ _ = _; rfl) N.fc ?_
  show wpAny _ _ (do ret (← holding [Value.builtin "type.__name__"] (call (.builtin "getset_descriptor.__get__") [.builtin "type.__name__", .ref C, .type "type"]))) _ _ _
  refine wpAny_bind (wpAny_holding (wpAny_call (cn_get (s := { s with toks := s.toks + 1 }) X N.ty (X _ _ ho) h2 ?_)))
  exact wpAny_pure (PySem.W.handed_on rfl (h _ _))
end
def lcls (all : List Nat) (e : LE) : LE := fun env h => (e env h).bind fun v h1 => match insOf h1 v with
  | some c => (match memN (c + 16) all with
    | true => .ok (.cls c) h1
    | false => .err)
  | none => .err
/-- names: classes' names by number -/
def nmLook : List (Nat × List Nat) → Nat → Option (List Nat)
  | [], _ => none
  | (c, z) :: r, n => match Nat.beq c n with
    | true => some z
    | false => nmLook r n
def lcname (names : List (Nat × List Nat)) (e : LE) : LE := fun env h => (e env h).bind fun v h1 => match v with
  | .cls c => (match nmLook names c with
    | some z => .ok (.str z) h1
    | none => .err)
  | _ => .err
section
variable {X : Cx} {g : Pg} {E : EX} {e : Expr} {le : LE} {pos : Pos}
theorem e_cls {all : List Nat} (hK : X.K = g.K) (T : ∀ c, memN (c + 16) all = true → IsiC g.K (g.ca c) ∧ PySem.W.plainGet g.K (g.ca c) "__class__" = true) (he : PE X e (tE g E le))
    (hb : attributeBase e "__class__" X.env (eval e X.env) = eval e X.env := by rfl) : PE X (.Attribute e "__class__" pos) (tE g E (lcls all le)) := by
  refine ⟨fun pins s σ H Q I ⟨ω, env, h, sr, r, o⟩ => ?_⟩
  have tt := tL.step (R := RV g) (R' := RV g) (Q' := fun u H1 => ∃ a dx gs c, u = .ref a ∧ H1 a = some (.ins (g.ca c) dx gs) ∧ memN (c + 16) all = true ∧ Q (.ref (g.ca c)) H1) (f := fun _ v h1 => match insOf h1 v with
      | some c => (match memN (c + 16) all with
        | true => .ok (Val.cls c) h1
        | false => .err)
      | none => .err) sr r o fun ω1 v u h1 H1 s1 r1 ra l1 o1 => by
    cases e1 : insOf h1 v with
    | none => simp only [e1] at o1; exact o1.elim
    | some c =>
      cases e2 : memN (c + 16) all with
      | false => simp only [e1, e2] at o1; exact o1.elim
      | true =>
        simp only [e1, e2] at o1
        obtain ⟨a, dx, gs, h2, h3⟩ := insOf_at r1 ra e1
        exact ⟨a, dx, gs, c, h2, h3, e2, o1 ω1 _ H1 .rfl' r1 (.cls c)⟩
  refine attr_of hb (thn (he.run pins s σ H _ I tt) fun u s1 ⟨x, H1, I1, rx, a, dx, gs, c, ex, hH, hm, q⟩ => ?_)
  subst ex
  obtain rfl : u = Value.ref a := rx
  obtain ⟨od, J⟩ := inst_ne I1 hH
  obtain ⟨⟨c1, c2, c3, c4, c5⟩, pg⟩ := T c hm
  obtain ⟨m, hF⟩ := I1.fr
  obtain ⟨mA, O, _⟩ := ins_get I1.hok hH
  obtain ⟨od', J', _⟩ := O.look
  exact PySem.W.get_class (K := g.K) hF (hK ▸ I1.ok.mod.kin) J' pg c1.hd c2 c3 c4 c5 ⟨.ref (g.ca c), H1, I1.tok _, rfl, q⟩
theorem e_cname {names : List (Nat × List Nat)} (hK : X.K = g.K) (T : ∀ c z, nmLook names c = some z → ∃ y : Str, y.cps.toList = z ∧ PyData.strOk y = true ∧ CNm g.K (g.ca c) y) (he : PE X e (tE g E le))
    (hb : attributeBase e "__name__" X.env (eval e X.env) = eval e X.env := by rfl) : PE X (.Attribute e "__name__" pos) (tE g E (lcname names le)) := by
  refine ⟨fun pins s σ H Q I ⟨ω, env, h, sr, r, o⟩ => ?_⟩
  have tt := tL.step (R := RV g) (R' := RV g) (Q' := fun u H1 => ∃ c y, u = .ref (g.ca c) ∧ CNm g.K (g.ca c) y ∧ Q (.str y) H1) (f := fun _ v h1 => match v with
      | .cls c => (match nmLook names c with
        | some z => .ok (Val.str z) h1
        | none => .err)
      | _ => .err) sr r o fun ω1 v u h1 H1 s1 r1 ra l1 o1 => by
    cases ra with
    | cls c =>
      cases e1 : nmLook names c with
      | none => simp only [e1] at o1; exact o1.elim
      | some z =>
        simp only [e1] at o1
        obtain ⟨y, rfl, hy, N⟩ := T c z e1
        exact ⟨c, y, rfl, N, o1 ω1 _ H1 .rfl' r1 (.str y hy)⟩
    | _ => exact o1.elim
  refine attr_of hb (thn (he.run pins s σ H _ I tt) fun u s1 ⟨x, H1, I1, rx, c, y, ex, N, q⟩ => ?_)
  subst ex
  obtain rfl : u = Value.ref (g.ca c) := rx
  exact cn_attr (K := g.K) (hK ▸ I1.kIn) N fun tk u => ⟨.str y, H1, I1.tok _, ⟨tk, rfl⟩, q⟩

/-- classes with an own __bool__ f -/
structure BoT (g : Pg) (c : Nat) (f : Addr) : Prop where
  at_ : PySem.W.findIn g.K (.ref (g.ca c)) "__bool__" = some (some (.ref f))
  fn : PySem.W.isFn g.K (.ref f) = true
def BoFs (X : Cx) (g : Pg) (n : Nat) (fs : Nat → Option LF) : Prop := ∀ c lf, fs c = some lf → ∃ f fd ps, BoT g c f ∧ FnOk X.prog X.w X.K X.mg X.base CX0 n f fd ps (spL g ps.length lf) ∧ Takes ps.length lf ∧ Binds X.K fd ps []
def truO (fs : Nat → Option LF) (h : LHeap) (v : Val) : Option (Bool × LHeap) := match insOf h v with
  | some c => (match fs c with
    | some f => (match f [v] h with
      | some (.bl k, h2) => some (k, h2)
      | _ => none)
    | none => none)
  | none => (match v with
    | .bl k => some (k, h)
    | _ => none)
def ltru (fs : Nat → Option LF) (e : LE) : LT := fun env h => (e env h).bind fun v h1 => match truO fs h1 v with
  | some (k, h2) => .ok k h2
  | none => .err
theorem tru_own {fs : Nat → Option LF} {n : Nat} {A : Around} (hfr : A.frames = some X.stack) (hK : X.K = g.K) (Fs : BoFs X g n fs) (hr : Room n A) {pins : List (Addr × Obj)} {s : Shared} {σ : L2.St} {H : Hp} {ω : Wd} {hh : LHeap} {a : Val} {x : V} {u : Value} {Q : Bool → Hp → Prop} (I : Inv X pins σ H s) (r : HRel g ω hh H) (ra : RV g ω a x) (rx : RelV x u)
    (o : match truO fs hh a with
      | some (k, h2) => ∀ ω' H', WLe ω ω' → HRel g ω' h2 H' → Q k H'
      | none => False) : wpAny (model X.prog X.w) A (truthy u) (TP X pins σ Q) X.xe s := by
  unfold truO at o
  cases e1 : insOf hh a with
  | some c =>
    simp only [e1] at o
    cases e2 : fs c with
    | none => simp only [e2] at o
    | some lf =>
      simp only [e2] at o
      obtain ⟨f, fd, ps, B, F1, hn1, hb1⟩ := Fs c lf e2
      obtain ⟨p, dx, gs, rfl, hH⟩ := insOf_at r ra e1
      cases rx
      obtain ⟨od, J⟩ := inst_ne I hH
      obtain ⟨m, hF⟩ := I.fr
      have o' : okO g ω (lf [a] hh) (fun v H' => ∃ k, v = .bl k ∧ Q k H') := by
        cases e3 : lf [a] hh with
        | none => rw [e3] at o; exact o.elim
        | some vh =>
          obtain ⟨v, h2⟩ := vh
          rw [e3] at o
          cases v with
          | bl k => exact fun w b H' l hr rb => by cases rb; exact ⟨k, rfl, o w H' l hr⟩
          | _ => exact o.elim
      refine PySem.W.truthy_K (K := g.K) hF (hK ▸ I.ok.mod.kin) J B.at_ B.fn (wpAny_mono (call_at hr hfr F1 hn1 hb1 I (.cons (show RelV (.ref p) (.ref p) from rfl) .nil) (.cons ra .nil) r o') (fun w s' hw => ?_) fun _ _ e => e)
      obtain ⟨v, H', I', rv, k, ev, q⟩ := hw
      subst ev
      cases rv
      exact ⟨H', I', q⟩
  | none =>
    simp only [e1] at o
    cases a with
    | bl k =>
      cases ra
      cases rx
      exact wpAny_truthy_bool ⟨H, I, o ω H .rfl' r⟩
    | _ => exact o.elim
theorem t_tru {fs : Nat → Option LF} {n : Nat} (hK : X.K = g.K) (Fs : BoFs X g n fs) (hr : Room n X.A) (he : PE X e (tE g E le)) (hb : ∀ whole, isTrue e X.env whole = (do let v ← whole; standAt e.pos; holding [v] (truthy v)) := by intro _; rfl) : PT X e (tT g E (ltru fs le)) := by
  refine ⟨fun pins s σ H Q I ⟨ω, env, h, sr, r, o⟩ => ?_⟩
  have tt := tL.step (R := RV g) (R' := REq) (Q' := fun u H1 => ∃ ω hh a, HRel g ω hh H1 ∧ RV g ω a u ∧ match truO fs hh a with
      | some (k, h2) => ∀ ω' H', WLe ω ω' → HRel g ω' h2 H' → Q k H'
      | none => False) (f := fun _ v h1 => match truO fs h1 v with
      | some (k, h2) => .ok k h2
      | none => .err) sr r o fun ω1 v u h1 H1 s1 r1 ra l1 o1 => by
    refine ⟨ω1, h1, v, r1, ra, ?_⟩
    cases e1 : truO fs h1 v with
    | none => simp only [e1] at o1; exact o1.elim
    | some kh =>
      obtain ⟨k, h2⟩ := kh
      simp only [e1] at o1
      exact fun ω' H' l hr => o1 ω' k H' l hr rfl
  exact isTrue_plain (thn (he.run pins s σ H _ I tt) fun v s1 ⟨x, H1, I1, r1, ω1, hh, a, hr1, ra, q⟩ => tru_own I1.ok.frames hK Fs hr I1 hr1 ra r1 q) (hb _)
end
end Li

namespace Li
open PySem PySem.Spec PyProof.Rows L2

theorem bool_in {prog : Program} {w : World} (x : Value) : MeetsIn prog w (Builtin.«bool.__new__» ⟨[.type "bool", x], []⟩) (fun A R s => wpAny (model prog w) A.in1 (truthy x) (fun k s' => R (.ok (.ret (.bool k))) s') (fun e s' => R (.error e) s') s) := by
  intro A R s h
  have f1 := F.conv_sub_bool
  unfold Builtin.«bool.__new__»
  refine wpAny_bind (m := isType (.type "bool")) (wpAny_of_eq (a := true) rfl ?_)
  refine wpAny_bind (m := isSubtype (.type "bool") (.type "bool")) (wpAny_of_eq f1 ?_)
  refine wpAny_bind (m := someArgs "bool" 0 1 { pos := [x] }) (wpAny_of_eq (a := [x]) rfl ?_)
  refine wpAny_bind (m := truthy x) (wpAny_mono h (fun k s' q => ?_) fun _ _ e => e)
  exact wpAny_pure q
section
variable {X : Cx} {g : Pg} {E : EX}
/-- bool(x) -/
def fBoolO (fs : Nat → Option LF) : LF := fun vs h => match vs with
  | [.int i] => some (.bl (i != 0), h)
  | [v] => (match truO fs h v with
    | some (k, h2) => some (.bl k, h2)
    | none => none)
  | _ => none
theorem bool_LO {fs : Nat → Option LF} {n : Nat} (hK : X.K = g.K) (Fs : BoFs X g n fs) (hr : Room (n + 2) X.A) : CallR X (.type "bool") (cL g (fBoolO fs)) := by
  intro pins s σ H xs us Q I rs ⟨ω, hh, vs, r, rv, o⟩
  cases vs with
  | nil => exact o.elim
  | cons v vs =>
    cases vs with
    | cons _ _ => cases v <;> exact o.elim
    | nil =>
      obtain ⟨u, rfl, ru⟩ := rv.one
      obtain ⟨w, rfl, rw'⟩ := vals1 rs
      have own : okO g ω (match truO fs hh v with
          | some (k, h2) => some (.bl k, h2)
          | none => none) Q → wpAny (model X.prog X.w) X.A (call (.type "bool") [w]) (EP X pins σ Q) X.xe s := fun o => by
        refine callType_newIn F.called_bool F.newNe_bool (F.typeCall_bool_1 _) (F.newCall_bool_1 _) (fun obj => F.args_object_init_2 obj _) F.entry_bool_new (bool_in w) ?_
        have : wpAny (model X.prog X.w) X.A.in1.in1 (truthy w) (TP X pins σ fun k H' => Q (.bl k) H') X.xe s := by
          refine tru_own (A := X.A.in1.in1) (Q := fun k H' => Q (.bl k) H') I.ok.frames hK Fs hr.in1.in1 I r ru rw' ?_
          cases e : truO fs hh v with
          | none => rw [e] at o; exact o.elim
          | some kh =>
            obtain ⟨k, h2⟩ := kh
            rw [e] at o
            exact fun ω' H' l hr => o ω' _ H' l hr (.bl k)
        refine wpAny_mono this (fun k s' ⟨H', I', q⟩ => ⟨rfl, .bl k, H', I', rfl, q⟩) fun _ _ e => e
      cases v with
      | int i =>
        cases ru
        obtain ⟨t, rfl⟩ := rw'
        exact call_bool_int ⟨.bl (i != 0), H, I, rfl, o ω _ H .rfl' r (.bl _)⟩
      | _ => exact own o
end
end Li

namespace Li
open PySem PySem.Spec PyProof.Rows L2
def cutL {α : Type} (xs : List α) (lo hi : Option Int) : List α := (xs.drop (HT.sIx xs.length 0 lo)).take (HT.sIx xs.length xs.length hi - HT.sIx xs.length 0 lo)
section
variable {X : Cx} {g : Pg} {E : EX}
abbrev LO := Env → LHeap → Res (Option Int)
abbrev tO (g : Pg) (E : EX) (e : LO) : TO := tL g REq E e
theorem _root_.L2.PO.weak {X : Cx} {e : Option Expr} {t t' : TO} (h : PO X e t) (w : ∀ σ H Q, t' σ H Q → t σ H Q) : PO X e t' := ⟨fun pins s σ H Q I q => h.run pins s σ H Q I (w σ H Q q)⟩
def lno : LO := fun _ h => .ok none h
def partI (v : Val) (h : LHeap) : Res (Option Int) := match v with
  | .int i => .ok (some i) h
  | _ => .err
def lpart (e : LE) : LO := fun env h => (e env h).bind partI
theorem o_none : PO X none (tO g E lno) := po_none.weak fun σ H Q ⟨ω, env, h, s, r, o⟩ => o ω none H .rfl' r rfl
theorem o_some {e : Expr} {le : LE} (h : PE X e (tE g E le)) : PO X (some e) (tO g E (lpart le)) :=
  (po_some h).weak fun σ H Q ⟨ω, env, hh, s, r, o⟩ => by
    refine tL.step (f := fun _ => partI) s r o fun ω1 v u h1 H1 s1 r1 rv l o1 => ?_
    cases v with
    | int i =>
      cases rv
      exact ⟨i, rfl, o1 ω1 (some i) H1 .rfl' r1 rfl⟩
    | _ => exact o1.elim
/-- a new list: an object of the frame, or frozen -/
def lstM (m : Bool) (xs : List Val) (h : LHeap) : Option (Val × LHeap) := match m with
  | true => pushL xs h
  | false => some (.lst xs, h)
theorem lstM_ok {m : Bool} {ω : Wd} {h : LHeap} {H : Hp} {xs : List Val} {vs : List V} {p : Addr} {Q : VK} (r : HRel g ω h H) (rv : RVs g ω xs vs) (hp : H p = none) (o : okO g ω (lstM m xs h) Q) : Q (.ref p) (upd H p (.lst vs)) := by
  cases m with
  | true => exact pushL_ok r rv hp o
  | false =>
    obtain ⟨n1, n2, n3⟩ := new_lst r rv hp
    exact o _ _ _ n2 n1 n3
/-- v[lo:hi]; m: a list's is an object of the frame -/
def fSl (m : Bool) (h : LHeap) (v : Val) (lo hi : Option Int) : Option (Val × LHeap) := match v with
  | .tup xs => some (.tup (cutL xs lo hi), h)
  | .str s => (match lim s.length with
    | true => some (.str (cutL s lo hi), h)
    | false => none)
  | v => (match lstOf h v with
    | some xs => lstM m (cutL xs lo hi) h
    | none => none)
def rSl (g : Pg) (m : Bool) : V → Option Int → Option Int → Hp → VK → Prop := fun x lo hi H Q => ∃ ω hh a, HRel g ω hh H ∧ RV g ω a x ∧ okO g ω (fSl m hh a lo hi) Q
theorem RVs.cut {ω : Wd} {xs : List Val} {us : List V} (r : RVs g ω xs us) (lo hi : Option Int) : RVs g ω (cutL xs lo hi) (cutV us lo hi) := by
  unfold cutL cutV
  rw [r.length]
  exact (r.drop _).take _
theorem cutL_whole {xs : List Val} {lo hi : Option Int} (h : HT.sIx xs.length 0 lo = 0 ∧ HT.sIx xs.length xs.length hi = xs.length) : cutL xs lo hi = xs := by
  unfold cutL
  rw [h.1, h.2, List.drop_zero, Nat.sub_zero, List.take_length]
theorem strOk_sub {a b : Str} (h : PyData.strOk a = true) (s : ∀ c ∈ b.cps.toList, c ∈ a.cps.toList) : PyData.strOk b = true := by
  unfold PyData.strOk at h ⊢
  first
    | exact List.all_eq_true.mpr fun c hc => List.all_eq_true.mp h c (s c hc)
    | (rw [Array.all_eq_true'] at h ⊢; exact fun c hc => h c (Array.mem_def.mpr (s c (Array.mem_def.mp hc))))
theorem sl_L (hK : X.K = g.K) (m : Bool) : SlR X (rSl g m) := by
  intro pins s σ H x v vl vu lo hi sl Q I rx hs pl pu ⟨ω, hh, a, r, ra, o⟩
  have lst : ∀ v', lstOf hh a = some v' → okO g ω (lstM m (cutL v' lo hi) hh) Q → ∃ T id, typeLookup (.type T) "__getitem__" = pure (some (.builtin id)) ∧ s.TypeIs v T ∧ wpAny (model X.prog X.w) X.A (getItem v (.ref sl)) (EP X pins σ Q) X.xe s := fun v' e o => by
    obtain ⟨p, us, rfl, hH, rs⟩ := lst_at r ra e
    refine sl_list pins s σ H (.ref p) v vl vu lo hi sl Q I rx hs pl pu ⟨p, us, rfl, SqL.of hH, fun q hq => lstM_ok r (rs.cut lo hi) hq o⟩
  cases a with
  | tup xs =>
    replace o : okO g ω (some (.tup (cutL xs lo hi), hh)) Q := o
    obtain ⟨p, us, rfl, hT, rs⟩ := tup_at r ra
    refine sl_tupA pins s σ H (.ref p) v vl vu lo hi sl Q I rx hs pl pu ⟨p, us, rfl, hK ▸ hT, fun hw => ?_, fun _ q hq => ?_⟩
    · rw [rs.length] at hw
      rw [cutL_whole hw] at o
      exact o ω _ H .rfl' r ra
    · obtain ⟨n1, n2, n3⟩ := new_tup r (rs.cut lo hi) hq
      exact o _ _ _ n2 n1 n3
  | str z =>
    unfold fSl at o
    cases hl : lim z.length with
    | false => simp only [hl] at o; exact o.elim
    | true =>
      simp only [hl] at o
      cases ra with
      | str y hy =>
        refine sl_str pins s σ H (.str y) v vl vu lo hi sl Q I rx hs pl pu ⟨y, rfl, by rw [str_len]; exact lim_le hl, ?_⟩
        refine o ω _ H .rfl' r ?_
        have e : (cutS y lo hi).cps.toList = cutL y.cps.toList lo hi := by
          unfold cutS cutL
          rw [str_len]
        rw [← e]
        refine .str _ (strOk_sub hy fun c hc => ?_)
        rw [e] at hc
        exact List.mem_of_mem_drop (List.mem_of_mem_take hc)
  | lst xs => exact lst xs rfl o
  | obj d n =>
    unfold fSl at o
    cases e : lstOf hh (.obj d n) with
    | none => simp only [e] at o; exact o.elim
    | some xs => simp only [e] at o; exact lst xs e o
  | _ => exact o.elim
def lsl (m : Bool) (e : LE) (lo hi : LO) : LE := fun env h => (e env h).bind fun v h1 => (lo env h1).bind fun l h2 => (hi env h2).bind fun u h3 => ofO (fSl m h3 v l u)
theorem e_sl {e : Expr} {lo hi : Option Expr} {le : LE} {llo lhi : LO} {p2 pos : Pos} (m : Bool) (hK : X.K = g.K) (he : PE X e (tE g E le)) (hl : PO X lo (tO g E llo)) (hu : PO X hi (tO g E lhi)) : PE X (.Subscript e (.Slice lo hi none p2) pos) (tE g E (lsl m le llo lhi)) :=
  (pe_slice (sl_L hK m) he hl hu).weak fun σ H Q ⟨ω, env, h, s, r, o⟩ => by
    refine tL.step (f := fun env v h1 => (llo env h1).bind fun l h2 => (lhi env h2).bind fun u h3 => ofO (fSl m h3 v l u)) s r o fun ω1 v x h1 H1 s1 r1 rv l1 o1 => ?_
    refine tL.step (f := fun env l h2 => (lhi env h2).bind fun u h3 => ofO (fSl m h3 v l u)) s1 r1 o1 fun ω2 a b h2 H2 s2 r2 ra l2 o2 => ?_
    refine tL.step (f := fun env u h3 => ofO (fSl m h3 v a u)) s2 r2 o2 fun ω3 c d h3 H3 s3 r3 rc l3 o3 => ?_
    cases ra
    cases rc
    exact ⟨ω3, h3, v, r3, rv.mono (l2.trans l3).to, okO.of o3⟩

end
end Li

namespace Li
open PySem PySem.Spec PyProof.Rows L2
section
variable {X : Cx} {g : Pg} {E : EX}

def repI (k : Int) : Option Nat := if 2 ≤ k ∧ k ≤ 1000 then some k.toNat else none
def opMul (m : Bool) : P2 := fun h a b => match b with
  | .int k => (match a with
    | .int i => opI fMul h (.int i) (.int k)
    | .tup (x :: xs) => (match repI k with
      | some n => (match Nat.ble (xs.length + 1) 1000 with
        | true => some (.tup (List.replicate n (x :: xs)).flatten, h)
        | false => none)
      | none => none)
    | v => (match lstOf h v with
      | some xs => (match repI k with
        | some n => (match lim (xs.length * n) with
          | true => lstM m (List.replicate n xs).flatten h
          | false => none)
        | none => none)
      | none => none))
  | _ => none
theorem repI_at {k : Int} {n : Nat} (h : repI k = some n) : 2 ≤ k ∧ k ≤ 1000 ∧ n = k.toNat := by
  unfold repI at h
  split at h
  · next c => cases h; exact ⟨c.1, c.2, rfl⟩
  · cases h
theorem RVs.rep {ω : Wd} {xs : List Val} {us : List V} (r : RVs g ω xs us) : ∀ n : Nat, RVs g ω (List.replicate n xs).flatten (List.replicate n us).flatten
  | 0 => .nil
  | n + 1 => by
    rw [List.replicate_succ, List.replicate_succ, List.flatten_cons, List.flatten_cons]
    exact r.append (RVs.rep r n)
theorem op_mulA (hK : X.K = g.K) (m : Bool) : OpR X (binaryOp .Mult) (rL g (opMul m)) := by
  intro pins s σ H x y v u Q I rx ry ⟨ω, hh, a, b, r, ra, rb, o⟩
  unfold opMul at o
  cases b with
  | int k =>
    have lst : ∀ xs, lstOf hh a = some xs → okO g ω (match repI k with
        | some n => (match lim (xs.length * n) with
          | true => lstM m (List.replicate n xs).flatten hh
          | false => none)
        | none => none) Q → wpAny (model X.prog X.w) X.A (binaryOp .Mult v u) (EP X pins σ Q) X.xe s := fun xs e o => by
      obtain ⟨p, us, rfl, hH, rs⟩ := lst_at r ra e
      cases e1 : repI k with
      | none => rw [e1] at o; exact o.elim
      | some n =>
        obtain ⟨k1, k2, rfl⟩ := repI_at e1
        cases e2 : lim (xs.length * k.toNat) with
        | false => simp only [e1, e2] at o; exact o.elim
        | true =>
          simp only [e1, e2] at o
          cases rb
          refine op_rep pins s σ H (.ref p) (.int k) v u Q I rx ry ⟨p, k, us, rfl, rfl, hH, by omega, by omega, by rw [rs.length]; exact lim_le e2, fun q hq => lstM_ok r (rs.rep _) hq o⟩
    cases a with
    | int i =>
      exact op_mulL pins s σ H x y v u Q I rx ry ⟨ω, hh, .int i, .int k, r, ra, rb, o⟩
    | tup xs =>
      cases xs with
      | nil => exact o.elim
      | cons z zs =>
        cases e1 : repI k with
        | none => simp only [e1] at o; exact o.elim
        | some n =>
          obtain ⟨k1, k2, rfl⟩ := repI_at e1
          cases e2 : Nat.ble (zs.length + 1) 1000 with
          | false => simp only [e1, e2] at o; exact o.elim
          | true =>
            simp only [e1, e2] at o
            obtain ⟨p, us, rfl, hT, rs⟩ := tup_at r ra
            cases rb
            have hle := Nat.le_of_ble_eq_true e2
            refine op_repT pins s σ H (.ref p) (.int k) v u Q I rx ry ⟨p, k, us, rfl, rfl, hK ▸ hT, (fun e => by rw [e] at rs; cases rs), k1, k2, by rw [rs.length]; exact hle, fun q hq => ?_⟩
            obtain ⟨n1, n2, n3⟩ := new_tup r (rs.rep k.toNat) hq
            exact o _ _ _ n2 n1 n3
    | lst xs => exact lst xs rfl o
    | obj d n =>
      cases e : lstOf hh (.obj d n) with
      | none => simp only [e] at o; exact o.elim
      | some xs => simp only [e] at o; exact lst xs e o
    | _ => exact o.elim
  | _ => exact o.elim

def enumS (vs : List Val) (h : LHeap) : Res Src := match vs with
  | [.lst xs] => .ok (.vals (enumV 0 xs)) h
  | _ => .err
def lenum (a : LA) : LI := fun env h => (a env h).bind enumS
theorem i_enum {e : Expr} {la : LA} {p pos tpos : Pos} {elts : List Expr} {kk : Nat} (hK : X.K = g.K) (hg : Gl X "enumerate") (hm : X.mg "enumerate" = none) (ha : PA X [e] (tA g E la)) (hs : starEach [e] X.env = [(false, eval e X.env)] := by rfl) :
    PI X (.Tuple elts kk tpos) (.Call (.Name "enumerate" p) [e] [] pos) (tI g E (lenum la)) :=
  (pi_enum hg hm ha hs).weak fun σ H R ⟨ω, env, h, s, r, o⟩ => by
    refine tL.step (f := fun _ => enumS) s r o fun ω1 vs us h1 H1 s1 r1 rv l o1 => ?_
    match vs, rv, o1 with
    | [.lst xs], .cons (.lst a1 a2) .nil, o1 => 
      rw [hK]
      exact ⟨_, _, rfl, SqL.of (r1.z _ _ a1), o1 ω1 _ H1 .rfl' r1 (is_enum a1 a2)⟩
end
end Li

namespace Li
open PySem PySem.Spec PyProof.Rows L2
/-- the value is of that type; dicts by their objects, too -/
def tyM (K : PySem.W.Frag) (T : String) (x : V) (H : Hp) : Prop := tyV K T x H ∨ (T = "dict" ∧ ∃ a o, x = .ref a ∧ H a = some (dctO a o) ∧ o.ExactDict)
section
variable {X : Cx} {g : Pg} {E : EX}
theorem tyM_is {pins : List (Addr × Obj)} {σ : L2.St} {H : Hp} {s : Shared} {T : String} {x : V} {v : Value} (I : Inv X pins σ H s) (r : RelV x v) (ty : tyM X.K T x H) :
    s.TypeIs v T ∧ ∀ a, v = .ref a → ∃ ob, s.heap.get? a = some ob ∧ ob.dict = none := by
  rcases ty with ty | ⟨rfl, a, o, rfl, hH, ex⟩
  · exact tyV_is I r ty
  · cases r
    have e := dct_get I hH
    refine ⟨⟨o, e, ex.1⟩, fun a' e2 => ?_⟩
    cases e2
    exact ⟨o, e, ex.2.1⟩
def tM0 (K : PySem.W.Frag) (T : String) (r : V → List V → Hp → VK → Prop) (to : TE) : TE := fun σ H Q => to σ H fun x H1 => tyM K T x H1 ∧ r x [] H1 Q
def tM (K : PySem.W.Frag) (T : String) (r : V → List V → Hp → VK → Prop) (to : TE) (t : TA) : TE := fun σ H Q => to σ H fun x H1 => tyM K T x H1 ∧ t σ H1 fun xs H2 => r x xs H2 Q
variable {o e : Expr} {es : List Expr} {to : TE} {t : TA} {name : Str} {apos cpos : Pos} {T id : String} {r : V → List V → Hp → VK → Prop}
theorem pe_m0 (pa : PlainAttrs T) (slot : Slot T name id) (hty : typeOf (.builtin id) = pure (.type "method_descriptor")) (hm : MtR X id r) (ho : PE X o to)
    (hbase : attributeBase o name X.env (eval o X.env) = eval o X.env := by rfl) (hline : (apos.endLine == cpos.line) = true := by rfl) : PE X (.Call (.Attribute o name apos) [] [] cpos) (tM0 X.K T r to) := by
  refine ⟨fun pins s σ H Q I h => ?_⟩
  refine wpAny_Call_method0_late hbase hline (thn (ho.run pins s σ H _ I h) fun v s1 ⟨x, H1, I1, r1, ty, q1⟩ => ?_)
  obtain ⟨h1, h2⟩ := tyM_is I1 r1 ty
  exact ⟨T, id, pa, slot, hty, h1, h2, Calls.callWith_builtin rfl (PySem.evalArgs_none (hm pins s1 σ H1 x [] v [] Q I1 r1 .nil q1))⟩
theorem pe_m (pa : PlainAttrs T) (slot : Slot T name id) (hty : typeOf (.builtin id) = pure (.type "method_descriptor")) (hm : MtR X id r) (ho : PE X o to) (ha : PA X (e :: es) t)
    (hbase : attributeBase o name X.env (eval o X.env) = eval o X.env := by rfl)
    (hfew : ((backTo cpos (starEach (e :: es) X.env)).all (fun x => !x.1) && (backToKw cpos (keywordEach [] X.env)).all (fun x => x.1.isSome)
      && decide ((e :: es).length + ([] : List Keyword).length + (if ([] : List Keyword).isEmpty then 0 else 1) < 30)) = true := by rfl)
    (hline : (apos.endLine == cpos.line) = true := by rfl) (hs : starEach (e :: es) X.env = (false, eval e X.env) :: starEach es X.env := by rfl) (hplain : (backTo cpos (starEach es X.env)).any (·.1) = false := by rfl) :
    PE X (.Call (.Attribute o name apos) (e :: es) [] cpos) (tM X.K T r to t) := by
  refine ⟨fun pins s σ H Q I h => ?_⟩
  refine wpAny_Call_method_late hbase hfew hline rfl (thn (ho.run pins s σ H _ I h) fun v s1 ⟨x, H1, I1, r1, ty, q1⟩ => ?_)
  obtain ⟨h1, h2⟩ := tyM_is I1 r1 ty
  refine ⟨T, id, pa, slot, hty, h1, h2, ?_⟩
  have hA := ha.run cpos pins s1 σ H1 _ I1 q1
  rw [hs] at hA ⊢
  refine Calls.callWith_builtin (by show (false || (backTo cpos (starEach es X.env)).any (·.1)) = false; rw [hplain] <;> rfl) (Calls.evalArgs_plain ?_)
  exact thn hA fun us s2 ⟨vs, H2, I2, r2, q2⟩ => hm pins s2 σ H2 x vs v us Q I2 r1 r2 q2
abbrev LM := LHeap → Val → List Val → Option (Val × LHeap)
def rM (g : Pg) (F : LM) : V → List V → Hp → VK → Prop := fun x xs H Q => ∃ ω hh a as, HRel g ω hh H ∧ RV g ω a x ∧ RVs g ω as xs ∧ okO g ω (F hh a as) Q
/-- v is of the type T, in lite -/
def TyOk (X : Cx) (g : Pg) (T : String) (ok : LHeap → Val → Bool) : Prop := ∀ ω hh H v u, HRel g ω hh H → RV g ω v u → ok hh v = true → tyM X.K T u H
def lmb (ok : LHeap → Val → Bool) (F : LM) (o : LE) (a : LA) : LE := fun env h => (o env h).bind fun v h1 => match ok h1 v with
  | true => (a env h1).bind fun vs h2 => ofO (F h2 v vs)
  | false => .err
theorem e_m0 {ok : LHeap → Val → Bool} {F : LM} {lo : LE} (tk : TyOk X g T ok) (pa : PlainAttrs T) (slot : Slot T name id) (hty : typeOf (.builtin id) = pure (.type "method_descriptor")) (hm : MtR X id (rM g F)) (ho : PE X o (tE g E lo))
    (hbase : attributeBase o name X.env (eval o X.env) = eval o X.env := by rfl) (hline : (apos.endLine == cpos.line) = true := by rfl) : PE X (.Call (.Attribute o name apos) [] [] cpos) (tE g E (lmb ok F lo anil)) :=
  (pe_m0 pa slot hty hm ho hbase hline).weak fun σ H Q ⟨ω, env, h, s, r, o⟩ => by
    refine tL.step (f := fun env v h1 => match ok h1 v with
      | true => (anil env h1).bind fun vs h2 => ofO (F h2 v vs)
      | false => .err) s r o fun ω1 v x h1 H1 s1 r1 rv l1 o1 => ?_
    cases q : ok h1 v with
    | false => simp only [q] at o1; exact o1.elim
    | true =>
      simp only [q] at o1
      exact ⟨tk _ _ _ _ _ r1 rv q, ω1, h1, v, [], r1, rv, .nil, okO.of o1⟩
theorem e_m {ok : LHeap → Val → Bool} {F : LM} {lo : LE} {la : LA} (tk : TyOk X g T ok) (pa : PlainAttrs T) (slot : Slot T name id) (hty : typeOf (.builtin id) = pure (.type "method_descriptor")) (hm : MtR X id (rM g F)) (ho : PE X o (tE g E lo)) (ha : PA X (e :: es) (tA g E la))
    (hbase : attributeBase o name X.env (eval o X.env) = eval o X.env := by rfl)
    (hfew : ((backTo cpos (starEach (e :: es) X.env)).all (fun x => !x.1) && (backToKw cpos (keywordEach [] X.env)).all (fun x => x.1.isSome)
      && decide ((e :: es).length + ([] : List Keyword).length + (if ([] : List Keyword).isEmpty then 0 else 1) < 30)) = true := by rfl)
    (hline : (apos.endLine == cpos.line) = true := by rfl) (hs : starEach (e :: es) X.env = (false, eval e X.env) :: starEach es X.env := by rfl) (hplain : (backTo cpos (starEach es X.env)).any (·.1) = false := by rfl) :
    PE X (.Call (.Attribute o name apos) (e :: es) [] cpos) (tE g E (lmb ok F lo la)) :=
  (pe_m pa slot hty hm ho ha hbase hfew hline hs hplain).weak fun σ H Q ⟨ω, env, h, s, r, o⟩ => by
    refine tL.step (f := fun env v h1 => match ok h1 v with
      | true => (la env h1).bind fun vs h2 => ofO (F h2 v vs)
      | false => .err) s r o fun ω1 v x h1 H1 s1 r1 rv l1 o1 => ?_
    cases q : ok h1 v with
    | false => simp only [q] at o1; exact o1.elim
    | true =>
      simp only [q] at o1
      refine ⟨tk _ _ _ _ _ r1 rv q, ?_⟩
      refine tL.step (f := fun _ vs h2 => ofO (F h2 v vs)) s1 r1 o1 fun ω2 vs us h2 H2 s2 r2 rvs l2 o2 => ?_
      exact ⟨ω2, h2, v, vs, r2, rv.mono l2.to, rvs, okO.of o2⟩
theorem mtTo {r : V → List V → Hp → VK → Prop} {F : LM} (h : MtR X id r) (w : ∀ (ω : Wd) (hh : LHeap) (H : Hp) (a : Val) (as : List Val) (x : V) (xs : List V) (Q : VK), HRel g ω hh H → RV g ω a x → RVs g ω as xs → okO g ω (F hh a as) Q → r x xs H Q) : MtR X id (rM g F) :=
  fun pins s σ H x xs v us Q I rx rs ⟨ω, hh, a, as, hr, ra, ras, o⟩ => h pins s σ H x xs v us Q I rx rs (w ω hh H a as x xs Q hr ra ras o)
def isL (h : LHeap) (v : Val) : Bool := (lstOf h v).isSome
theorem tyL : TyOk X g "list" isL := fun ω hh H v u r rv e => by
  obtain ⟨xs, e'⟩ := Option.isSome_iff_exists.mp e
  obtain ⟨a, us, rfl, hH, _⟩ := lst_at r rv e'
  exact .inl (.inl ⟨rfl, us, SqL.of hH⟩)
/-- a list of the frames is changed -/
def chg (h : LHeap) (v : Val) (f : List Val → Option (List Val × Val)) : Option (Val × LHeap) := match v with
  | .obj d n => (match look h d n with
    | some (.lst xs) => (match f xs with
      | some (ys, w) => (match belows (d + 1) ys with
        | true => some (w, setAt h d n (.lst ys))
        | false => none)
      | none => none)
    | _ => none)
  | _ => none
theorem belows_iff {D : Nat} : ∀ {xs : List Val}, belows D xs = true ↔ ∀ x ∈ xs, below D x = true
  | [] => by simp [belows]
  | x :: xs => by rw [belows_cons, belows_iff (xs := xs)]; simp
theorem chg_at {ω : Wd} {hh : LHeap} {H : Hp} {v : Val} {u : V} {f : List Val → Option (List Val × Val)} {Q : VK} (r : HRel g ω hh H) (rv : RV g ω v u) (o : okO g ω (chg hh v f) Q) :
    ∃ a xs us ys w, u = .ref a ∧ H a = some (.lst us) ∧ RVs g ω xs us ∧ f xs = some (ys, w) ∧ ∀ us' y, RVs g ω ys us' → RV g ω w y → Q y (upd H a (.lst us')) := by
  unfold chg at o
  cases v with
  | obj d n =>
    cases e : look hh d n with
    | none => simp only [e] at o; exact o.elim
    | some ob =>
      cases ob with
      | lst xs =>
        cases e1 : f xs with
        | none => simp only [e, e1] at o; exact o.elim
        | some yw =>
          obtain ⟨ys, w⟩ := yw
          cases e2 : belows (d + 1) ys with
          | false => simp only [e, e1, e2] at o; exact o.elim
          | true =>
            simp only [e, e1, e2] at o
            obtain ⟨a, rfl, hl, ro⟩ := obj_at r rv e
            obtain ⟨us, hH, rs⟩ := ro.lst'
            have hd := look_lt hl
            refine ⟨a, xs, us, ys, w, rfl, hH, rs, e1, fun us' y r1 r2 => ?_⟩
            exact o ω y _ .rfl' (r.write hl (.lst (r1.lowered hd e2))) r2
      | _ => simp only [e] at o; exact o.elim
  | _ => exact o.elim
/-- xs.append(y) -/
def fApp : LM := fun h v as => match as with
  | [y] => chg h v fun xs => match lim (xs.length + 1) with
    | true => some (xs ++ [y], .non)
    | false => none
  | _ => none
theorem m_app : MtR X "list.append" (rM g fApp) := mtTo mt_append fun ω hh H a as x xs Q r ra ras o => by
  match as, ras, o with
  | [y], .cons ry .nil, o =>
    obtain ⟨p, zs, us, ys, w, rfl, hH, rs, e, q⟩ := chg_at r ra o
    cases hl : lim (zs.length + 1) with
    | false => simp only [hl] at e; cases e
    | true =>
      simp only [hl] at e
      cases e
      refine ⟨p, us, _, rfl, rfl, hH, ?_, q _ _ (rs.append (.cons ry .nil)) .non⟩
      have := lim_le hl
      rw [rs.length]
      omega
/-- xs.extend(ys), a list -/
def fExt : LM := fun h v as => match as with
  | [b] => (match lstOf h b with
    | some zs => chg h v fun xs => match lim (xs.length + zs.length) with
      | true => some (xs ++ zs, .non)
      | false => none
    | none => none)
  | _ => none
theorem m_ext : MtR X "list.extend" (rM g fExt) := mtTo mt_extend fun ω hh H a as x xs Q r ra ras o => by
  match as, ras, o with
  | [b], .cons rb .nil, o =>
    unfold fExt at o
    cases eb : lstOf hh b with
    | none => simp only [eb] at o; exact o.elim
    | some bs =>
      simp only [eb] at o
      obtain ⟨pb, ub, rfl, hB, rbs⟩ := lst_at r rb eb
      obtain ⟨p, zs, us, ys, w, rfl, hH, rs, e, q⟩ := chg_at r ra o
      cases hl : lim (zs.length + bs.length) with
      | false => simp only [hl] at e; cases e
      | true =>
        simp only [hl] at e
        cases e
        refine ⟨p, pb, us, ub, rfl, rfl, hH, hB, ?_, q _ _ (rs.append rbs) .non⟩
        rw [rs.length, rbs.length]
        exact lim_le hl
theorem RVs.dropLast {ω : Wd} : ∀ {xs : List Val} {us : List V}, RVs g ω xs us → RVs g ω xs.dropLast us.dropLast
  | _, _, .nil => .nil
  | _, _, .cons _ .nil => .nil
  | _, _, .cons a (.cons b t) => .cons a (RVs.dropLast (.cons b t))
theorem RVs.eraseIdx {ω : Wd} : ∀ {xs : List Val} {us : List V} (i : Nat), RVs g ω xs us → RVs g ω (xs.eraseIdx i) (us.eraseIdx i)
  | _, _, _, .nil => .nil
  | _, _, 0, .cons _ t => t
  | _, _, i + 1, .cons a t => .cons a (RVs.eraseIdx i t)
/-- xs.pop(), xs.pop(i) -/
def fPop : LM := fun h v as => match as with
  | [] => chg h v fun xs => match xs[xs.length - 1]? with
    | some y => some (xs.dropLast, y)
    | none => none
  | _ => none
theorem m_pop : MtR X "list.pop" (rM g fPop) := mtTo mt_pop fun ω hh H a as x xs Q r ra ras o => by
  match as, ras, o with
  | [], .nil, o =>
    obtain ⟨p, zs, us, ys, w, rfl, hH, rs, e, q⟩ := chg_at r ra o
    cases hl : zs[zs.length - 1]? with
    | none => simp only [hl] at e; cases e
    | some y =>
      simp only [hl] at e
      cases e
      obtain ⟨u, hu, ru⟩ := rs.get hl
      exact ⟨p, us, u, rfl, rfl, hH, by rw [rs.length]; exact hu, q _ _ rs.dropLast ru⟩
  | _ :: _, _, o => exact o.elim
def fPopAt : LM := fun h v as => match as with
  | [.int i] => (match smallI i with
    | true => chg h v fun xs => match ixN xs.length i with
      | some k => (match xs[k]? with
        | some y => some (xs.eraseIdx k, y)
        | none => none)
      | none => none
    | false => none)
  | _ => none
theorem m_popAt : MtR X "list.pop" (rM g fPopAt) := mtTo mt_popAt fun ω hh H a as x xs Q r ra ras o => by
  match as, ras, o with
  | [.int i], .cons (.int _) .nil, o =>
    unfold fPopAt at o
    cases es : smallI i with
    | false => simp only [es] at o; exact o.elim
    | true =>
      simp only [es] at o
      obtain ⟨p, zs, us, ys, w, rfl, hH, rs, e, q⟩ := chg_at r ra o
      cases hk : ixN zs.length i with
      | none => simp only [hk] at e; cases e
      | some k =>
        cases hl : zs[k]? with
        | none => simp only [hk, hl] at e; cases e
        | some y =>
          simp only [hk, hl] at e
          cases e
          obtain ⟨u, hu, ru⟩ := rs.get hl
          obtain ⟨b1, b2⟩ := smallI_le es
          have := (ixN_seq hk).1
          exact ⟨p, us, i, k, u, rfl, rfl, hH, by omega, by omega, by rw [rs.length]; exact this, hu, q _ _ (rs.eraseIdx k) ru⟩
/-- xs.insert(i, y), i not below 0 -/
def fIns : LM := fun h v as => match as with
  | [.int i, y] => (match smallI i with
    | true => (match decide (0 ≤ i) with
      | true => chg h v fun xs => match lim (xs.length + 1) with
        | true => some (xs.take i.toNat ++ [y] ++ xs.drop i.toNat, .non)
        | false => none
      | false => none)
    | false => none)
  | _ => none
theorem m_ins : MtR X "list.insert" (rM g fIns) := mtTo mt_insert fun ω hh H a as x xs Q r ra ras o => by
  match as, ras, o with
  | [.int i, y], .cons (.int _) (.cons ry .nil), o =>
    unfold fIns at o
    cases es : smallI i with
    | false => simp only [es] at o; exact o.elim
    | true =>
      cases ep : decide (0 ≤ i) with
      | false => simp only [es, ep] at o; exact o.elim
      | true =>
        simp only [es, ep] at o
        obtain ⟨p, zs, us, ys, w, rfl, hH, rs, e, q⟩ := chg_at r ra o
        cases hl : lim (zs.length + 1) with
        | false => simp only [hl] at e; cases e
        | true =>
          simp only [hl] at e
          cases e
          obtain ⟨b1, b2⟩ := smallI_le es
          have := lim_le hl
          exact ⟨p, us, i, _, rfl, rfl, hH, by rw [rs.length]; omega, of_decide_eq_true ep, by omega, q _ _ (((rs.take _).append (.cons ry .nil)).append (rs.drop _)) .non⟩
end
end Li

namespace Li
open PySem PySem.Spec PyProof.Rows L2
/-- a new dict: an object of the frame, or frozen -/
def dctM (m t : Bool) (ks vs : List Val) (h : LHeap) : Option (Val × LHeap) := match m with
  | true => (match h with
    | os :: h' => some (.obj h'.length os.length, (os ++ [.dct t ks vs]) :: h')
    | [] => none)
  | false => some (.dct t ks vs, h)
/-- one more entry -/
def dins (ks vs : List Val) (x y : Val) : List Val × List Val := match dput ks vs x y with
  | some vs' => (ks, vs')
  | none => (ks ++ [x], vs ++ [y])
section
variable {X : Cx} {g : Pg} {E : EX}
theorem putK_nodup {kvs : List (Key × V)} {k : Key} {v : V} (h : (kvs.map (·.1)).Nodup) : ((putK kvs k v).map (·.1)).Nodup := by
  rw [putK_eq]
  cases q : kvs.any (fun kv => decide (kv.1 = k)) with
  | true =>
    rw [if_pos rfl, List.map_map]
    have : (kvs.map ((fun x => x.1) ∘ fun kv => if kv.1 = k then (kv.1, v) else kv)) = kvs.map (·.1) := List.map_congr_left fun p _ => by
      show (if p.1 = k then (p.1, v) else p).1 = p.1
      split <;> rfl
    rw [this]; exact h
  | false =>
    rw [if_neg Bool.false_ne_true, List.map_append, List.nodup_append]
    refine ⟨h, by simp, fun a ha b hb e => ?_⟩
    simp at hb
    subst hb
    obtain ⟨p, hp, e2⟩ := List.mem_map.mp ha
    have := List.any_eq_false.mp q p hp
    exact this (decide_eq_true (e2.trans e))
theorem dins_dk {ω : Wd} {ks vs : List Val} {kvs : List (Key × V)} {x y : Val} {k : Key} {v : V} (r1 : RVs g ω ks (kvs.map fun p => kV p.1)) (r2 : RVs g ω vs (kvs.map (·.2))) (nd : (kvs.map (·.1)).Nodup) (rx : RV g ω x (kV k)) (ry : RV g ω y v) :
    RVs g ω (dins ks vs x y).1 ((putK kvs k v).map fun p => kV p.1) ∧ RVs g ω (dins ks vs x y).2 ((putK kvs k v).map (·.2)) := by
  have dp := dput_dk rx ry r1 r2 nd
  unfold dins
  cases ed : dput ks vs x y with
  | some vs' =>
    rw [ed] at dp
    obtain ⟨i1, i2⟩ := dp
    have hput : putK kvs k v = kvs.map (fun kv => if kv.1 = k then (kv.1, v) else kv) := by rw [putK_eq, i1]; rfl
    have hkeys : (putK kvs k v).map (fun p => kV p.1) = kvs.map fun p => kV p.1 := by
      rw [hput, List.map_map]
      exact List.map_congr_left fun p _ => by
        show kV (if p.1 = k then (p.1, v) else p).1 = _
        split <;> rfl
    exact ⟨by rw [hkeys]; exact r1, by rw [hput]; exact i2⟩
  | none =>
    rw [ed] at dp
    have hput : putK kvs k v = kvs ++ [(k, v)] := by rw [putK_eq, dp]; rfl
    rw [hput, List.map_append, List.map_append]
    exact ⟨r1.append (.cons rx .nil), r2.append (.cons ry .nil)⟩
/-- the dict as its object -/
theorem pe_recast {e : Expr} {te : TE} (hP : X.prog = g.P) (hw : X.w = g.w) (h : PE X e te) : PE X e (fun σ H Q => te σ H fun x H1 => ∃ D kvs, x = .ref D ∧ H1 D = some (.dK kvs) ∧ ∀ o, DL g D kvs o → Q x (upd H1 D (dctO D o))) := by
  refine ⟨fun pins s σ H Q I q => wpAny_mono (h.run pins s σ H _ I q) (fun u s' ⟨x, H', I', rx, D, kvs, ex, hD, k⟩ => ?_) fun _ _ e => e⟩
  obtain ⟨z, hd, vs, rel, o, es, ep, g1, g2, g3, g4, g5, g6⟩ := dk_of I'.hok hD
  refine ⟨x, _, d_write (ob := dctO D o) (t' := s'.toks) I' (by rw [hD]; exact True.intro) (Heap.SameBut.refl D s'.heap) ⟨o, g1⟩ (dctO_ok g1), rx, k o ⟨hd, z, vs, es, ep, rel, g2, g3, ?_, ?_, g6⟩⟩
  · rw [← hP, ← hw]; exact g4
  · rw [← hP, ← hw]; exact g5
/-- a thing of the dict's making -/
abbrev mkD (ω : Wd) (D : Addr) (kvs : List (Key × V)) : Wd := ⟨ω.Z, ω.r, (D, .dK kvs) :: ω.x⟩
theorem remakeD {ω ω' : Wd} {D : Addr} {us us' : List (Key × V)} (l : WLe (mkD ω D us) ω') : WLe (mkD ω D us') ⟨ω'.Z, ω'.r, (D, .dK us') :: ω.x⟩ := ⟨l.z, l.len, l.look, rfl⟩
theorem ghostD_at {ω ω' : Wd} {D : Addr} {us : List (Key × V)} {h : LHeap} {H : Hp} (l : WLe (mkD ω D us) ω') (r : HRel g ω' h H) : H D = some (.dK us) := by
  have e := l.gh
  exact (r.gh (D, .dK us) (by rw [e]; exact List.mem_cons_self)).1
theorem reghostD {ω ω' : Wd} {D : Addr} {us : List (Key × V)} {u : HO} {h : LHeap} {H : Hp} (l : WLe (mkD ω D us) ω') (r : HRel g ω' h H) : HRel g ⟨ω'.Z, ω'.r, (D, u) :: ω.x⟩ h (upd H D u) := by
  obtain ⟨Z, rr, gx⟩ := ω'
  have e : gx = (D, .dK us) :: ω.x := l.gh
  subst e
  exact r.reghost
/-- the dict is made -/
theorem madeD {m : Bool} {ω ω' : Wd} {D : Addr} {kvs0 kvs : List (Key × V)} {h : LHeap} {H : Hp} {ks vs : List Val} {o : Obj} {Q : VK} (l : WLe (mkD ω D kvs0) ω') (r : HRel g ω' h H) (r1 : RVs g ω' ks (kvs.map fun p => kV p.1)) (r2 : RVs g ω' vs (kvs.map (·.2))) (d : DL g D kvs o)
    (q : okO g ω (dctM m false ks vs h) Q) : Q (.ref D) (upd H D (dctO D o)) := by
  have x := reghostD (u := dctO D o) l r
  have mono : WIn ω' ⟨ω'.Z, ω'.r, ω.x⟩ := ⟨fun _ _ h => h, fun _ _ _ h => h⟩
  cases m with
  | false =>
    obtain ⟨m1, m2⟩ := x.made
    have m3 : WIn ω' ⟨upd ω'.Z D (dctO D o), ω'.r, ω.x⟩ := ⟨fun a b e => m2.z a b e, fun d n a e => m2.look d n a e⟩
    refine q ⟨upd ω'.Z D (dctO D o), ω'.r, ω.x⟩ _ _ ⟨fun a b e => m2.z a b (l.z a b e), l.len, fun d n a e => m2.look d n a (l.look d n a e), rfl⟩ m1 (.dk upd_same (r1.mono m3) (r2.mono m3) d)
  | true =>
    obtain ⟨Z, rr, gx⟩ := ω'
    cases h with
    | nil => exact q.elim
    | cons os h =>
      cases rr with
      | nil => have := r.len; simp at this
      | cons as rr =>
        obtain ⟨m1, m2, m3⟩ := x.madeH (o := .dct false ks vs) (.dk (r1.mono mono) (r2.mono mono) d)
        refine q _ _ _ ⟨fun a o e => m2.z a o (l.z a o e), ?_, fun d n a e => m2.look d n a (l.look d n a e), rfl⟩ m1 m3
        have := l.len
        simpa using this
def ldnew (m t : Bool) : LE := fun _ h => ofO (dctM m t [] [] h)
theorem e_dnewK {pos : Pos} (m : Bool) (hP : X.prog = g.P) (hw : X.w = g.w) : PE X (.Dict [] [] pos) (tE g E (ldnew m false)) :=
  (pe_recast (g := g) hP hw pe_dnewK).weak fun σ H Q ⟨ω, env, h, s, r, o⟩ p hp =>
    ⟨p, [], rfl, upd_same, fun ob d => madeD (ω := ω) (ω' := mkD ω p []) .rfl' (r.ghost hp) .nil .nil d (okO.of o)⟩
/-- an empty dict, to have tuples for keys -/
theorem dk_of_dl {D : Addr} {o : Obj} (d : DL g D [] o) : DK g D [] [] [] o := by
  obtain ⟨vs, es, ep, h1, h2, h3, h4, h5, h6⟩ := d.ob
  cases h1
  have he : es.toList = [] := by
    have := h5.length
    simpa using this
  refine ⟨d.sys, ⟨es, ep, h2, h3, by rw [← Array.length_toList, he]; exact Nat.zero_le _, by rw [he]; exact .nil, by rw [he]; exact .nil, by rw [he]; rfl⟩, rfl, List.nodup_nil⟩
theorem e_dnewT {pos : Pos} (hP : X.prog = g.P) (hw : X.w = g.w) : PE X (.Dict [] [] pos) (tE g E (ldnew true true)) :=
  (pe_recast (g := g) hP hw pe_dnewK).weak fun σ H Q ⟨ω, env, h, s, r, o⟩ p hp =>
    ⟨p, [], rfl, upd_same, fun ob d => by
      replace o := okO.of o
      have x := reghostD (u := dctO p ob) (ω := ω) (ω' := mkD ω p []) .rfl' (r.ghost hp)
      obtain ⟨Z, rr, gx⟩ := ω
      cases h with
      | nil => exact o.elim
      | cons os h =>
        cases rr with
        | nil => have := r.len; simp at this
        | cons as rr =>
          obtain ⟨m1, m2, m3⟩ := x.madeH (o := .dct true [] []) (.dt .nil .nil (dk_of_dl d))
          refine o _ _ _ ⟨m2.z, ?_, m2.look, rfl⟩ m1 m3
          simp⟩
def lpairs : List (LE × LE) → Env → LHeap → Res (List (Val × Val))
  | [], _, h => .ok [] h
  | (k, v) :: r, env, h => (k env h).bind fun x h1 => (v env h1).bind fun y h2 => (lpairs r env h2).bind fun p h3 => .ok ((x, y) :: p) h3
def RPs (g : Pg) (ω : Wd) (a : List (Val × Val)) (b : List (V × V)) : Prop := Paired (fun p q => RV g ω p.1 q.1 ∧ RV g ω p.2 q.2) a b
def dmerge : List Val → List Val → List (Val × Val) → Option (List Val × List Val)
  | ks, vs, [] => some (ks, vs)
  | ks, vs, (x, y) :: r => match isKey x with
    | true => dmerge (dins ks vs x y).1 (dins ks vs x y).2 r
    | false => none
inductive PLs (X : Cx) (g : Pg) (E : EX) (pos : Pos) : List (Option Expr) → List Expr → List (LE × LE) → Prop
  | nil : PLs X g E pos [] [] []
  | cons {k v : Expr} {ks : List (Option Expr)} {vs : List Expr} {lk lv : LE} {r : List (LE × LE)} : PE X k (tE g E lk) → PE X v (tE g E lv) → PLs X g E pos ks vs r → PLs X g E pos (some k :: ks) (v :: vs) ((lk, lv) :: r)
theorem PLs.pps {pos : Pos} : ∀ {ks : List (Option Expr)} {vs : List Expr} {r : List (LE × LE)}, PLs X g E pos ks vs r → PPs X pos ks vs (r.map fun p => (tE g E p.1, tE g E p.2))
  | _, _, _, .nil => pps_nil
  | _, _, _, .cons a b c => pps_cons a b c.pps
theorem tPairs_of : ∀ (r : List (LE × LE)) {σ : L2.St} {ω : Wd} {env : Env} {h : LHeap} {H : Hp} {Q : List (V × V) → Hp → Prop}, SRel g ω env σ → HRel g ω h H → okR g (RPs g) ω σ E (lpairs r env h) Q → tPairs (r.map fun p => (tE g E p.1, tE g E p.2)) σ H Q
  | [], σ, ω, env, h, H, Q, s, hr, o => o ω [] H .rfl' hr .nil
  | (k, v) :: r, σ, ω, env, h, H, Q, s, hr, o => by
    refine tL.step (R' := RPs g) (f := fun env x h1 => (v env h1).bind fun y h2 => (lpairs r env h2).bind fun p h3 => .ok ((x, y) :: p) h3) s hr o fun ω1 x u h1 H1 s1 r1 rx l1 o1 => ?_
    refine tL.step (R' := RPs g) (f := fun env y h2 => (lpairs r env h2).bind fun p h3 => .ok ((x, y) :: p) h3) s1 r1 o1 fun ω2 y w h2 H2 s2 r2 ry l2 o2 => ?_
    refine tPairs_of r s2 r2 ((okR.bind (R := RPs g) o2).imp fun ps H' ⟨ω3, p, h3, l3, r3, rp, q3⟩ => ?_)
    exact q3 ω3 _ H' .rfl' r3 (.cons ⟨rx.mono (l2.trans l3).to, ry.mono l3.to⟩ rp)
def ldisp (m : Bool) (r : List (LE × LE)) : LE := fun env h => match lpairs r env h with
  | .ok ps h1 => (match dmerge [] [] ps with
    | some (ks, vs) => ofO (dctM m false ks vs h1)
    | none => .err)
  | _ => .err
theorem RPs.keys {ω : Wd} : ∀ {ps : List (Val × Val)} {qs : List (V × V)} {ks vs : List Val} {kvs : List (Key × V)} {ks' vs' : List Val}, RPs g ω ps qs → RVs g ω ks (kvs.map fun p => kV p.1) → RVs g ω vs (kvs.map (·.2)) → (kvs.map (·.1)).Nodup → dmerge ks vs ps = some (ks', vs') →
    ∃ more : List (Key × V), qs = more.map (fun kv => (kV kv.1, kv.2)) ∧ RVs g ω ks' ((mergeK kvs more).map fun p => kV p.1) ∧ RVs g ω vs' ((mergeK kvs more).map (·.2))
  | [], _, _, _, _, _, _, .nil, r1, r2, nd, e => by cases e; exact ⟨[], rfl, r1, r2⟩
  | (x, y) :: ps, (a, b) :: qs, ks, vs, kvs, ks', vs', .cons ⟨rx, ry⟩ rp, r1, r2, nd, e => by
    unfold dmerge at e
    cases hk : isKey x with
    | false => simp only [hk] at e; cases e
    | true =>
      simp only [hk] at e
      obtain ⟨k, rfl⟩ := isKey_at hk rx
      obtain ⟨d1, d2⟩ := dins_dk r1 r2 nd rx ry
      obtain ⟨more, rfl, m1, m2⟩ := RPs.keys rp d1 d2 (putK_nodup nd) e
      exact ⟨(k, b) :: more, rfl, m1, m2⟩
theorem RPs.len {ω : Wd} {ps : List (Val × Val)} {qs : List (V × V)} (r : RPs g ω ps qs) : qs.length = ps.length := (Li.Paired.len' r).symm
theorem lpairs_len : ∀ (r : List (LE × LE)) {env : Env} {h h' : LHeap} {ps : List (Val × Val)}, lpairs r env h = .ok ps h' → ps.length = r.length
  | [], _, _, _, _, e => by cases e; rfl
  | (k, v) :: r, env, h, h', ps, e => by
    unfold lpairs at e
    cases e1 : k env h with
    | exc _ _ => rw [e1] at e; cases e
    | err => rw [e1] at e; cases e
    | ok x h1 =>
      rw [e1] at e
      cases e2 : v env h1 with
      | exc _ _ => simp only [Res.bind, e2] at e; cases e
      | err => simp only [Res.bind, e2] at e; cases e
      | ok y h2 =>
        cases e3 : lpairs r env h2 with
        | exc _ _ => simp only [Res.bind, e2, e3] at e; cases e
        | err => simp only [Res.bind, e2, e3] at e; cases e
        | ok p h3 =>
          simp only [Res.bind, e2, e3] at e
          cases e
          rw [List.length_cons, lpairs_len r e3, List.length_cons]
theorem PLs.len {pos : Pos} : ∀ {ks : List (Option Expr)} {vs : List Expr} {r : List (LE × LE)}, PLs X g E pos ks vs r → ks.length = r.length ∧ vs.length = r.length ∧ ks.all (·.isSome) = true
  | _, _, _, .nil => ⟨rfl, rfl, rfl⟩
  | _, _, _, .cons a b c => by
    obtain ⟨h1, h2, h3⟩ := c.len
    exact ⟨by simp [h1], by simp [h2], by simp at h3 ⊢; exact h3⟩
theorem e_disp {pos : Pos} {keys : List (Option Expr)} {values : List Expr} {r : List (LE × LE)} (m : Bool) (hP : X.prog = g.P) (hw : X.w = g.w) (h : PLs X g E pos keys values r) (h0 : keys ≠ []) (h15 : Nat.ble r.length 15 = true := by rfl) : PE X (.Dict keys values pos) (tE g E (ldisp m r)) := by
  obtain ⟨l1, l2, l3⟩ := h.len
  have h15' : r.length ≤ 15 := Nat.le_of_ble_eq_true h15
  refine (pe_recast (g := g) hP hw (pe_disp h.pps l3 (by rw [l1, l2]) h0 (by rw [l1]; exact h15'))).weak fun σ H Q ⟨ω, env, hh, s, hr, o⟩ p hp => ?_
  have s' : SRel g (mkD ω p []) env σ := ⟨s.len, fun i v e => let ⟨u, a, b⟩ := s.get i v e; ⟨u, a, b.mono (ω := ω) (ω' := mkD ω p []) ⟨fun _ _ h => h, fun _ _ _ h => h⟩⟩⟩
  refine tPairs_of r s' (hr.ghost hp) ?_
  unfold ldisp at o
  cases e : lpairs r env hh with
  | exc _ _ => rw [e] at o; exact o.elim
  | err => rw [e] at o; exact o.elim
  | ok ps h1 =>
    rw [e] at o
    have hl := lpairs_len r e
    intro ω' qs H' l hr' rp
    cases em : dmerge [] [] ps with
    | none => simp only [em] at o; exact o.elim
    | some kv =>
      obtain ⟨ks, vs⟩ := kv
      simp only [em] at o
      obtain ⟨more, rfl, m1, m2⟩ := RPs.keys (kvs := []) rp .nil .nil List.nodup_nil em
      have hlen := rp.len
      rw [List.length_map] at hlen
      refine ⟨ghostD_at l hr', more, rfl, by omega, p, _, rfl, upd_same, fun ob d => ?_⟩
      rw [show upd (upd H' p (.dK (mergeK [] more))) p (dctO p ob) = upd H' p (dctO p ob) from by funext a; unfold upd; split <;> rfl]
      exact madeD l hr' m1 m2 d (okO.of o)
end
end Li

namespace Li
open PySem PySem.Spec PyProof.Rows L2
/-- the two parts of an entry -/
def lpr (k v : LE) : LE := fun env h => (k env h).bind fun x h1 => (v env h1).bind fun y h2 => .ok (.tup [x, y]) h2
def dmergeP : List Val → List Val → List Val → Option (List Val × List Val)
  | ks, vs, [] => some (ks, vs)
  | ks, vs, .tup [x, y] :: r => (match isKey x with
    | true => dmergeP (dins ks vs x y).1 (dins ks vs x y).2 r
    | false => none)
  | _, _, _ => none
def ldc (m : Bool) (it : LI) (vs : List Nat) (t : LG) (c : LT) (k v : LE) : LE := fun env h => (it env h).bind fun s h1 => match compS t c (lpr k v) (wipeE env vs) s h1 with
  | .ok ys h2 => (match dmergeP [] [] ys with
    | some (ks, us) => ofO (dctM m false ks us h2)
    | none => .err)
  | _ => .err
def okD (g : Pg) (ω : Wd) (D : Addr) (ks vs : List Val) (r : Res (List Val)) (Q : VK) : Prop := match r with
  | .ok ys h => (match dmergeP ks vs ys with
    | some (ks', vs') => ∀ ω' H' kvs, WLe (mkD ω D kvs) ω' → HRel g ω' h H' → RVs g ω' ks' (kvs.map fun p => kV p.1) → RVs g ω' vs' (kvs.map (·.2)) → Q (.ref D) H'
    | none => False)
  | _ => False
section
variable {X : Cx} {g : Pg} {E : EX} {vs : List Nat} {li : LI} {tg : TG} {t : LG} {lc' : LT} {lk lv : LE}
theorem dc_tree (hgv : Gv g vs tg t) {σ : L2.St} {H1 : Hp} {Q : VK} {ω1 : Wd} {env : Env} {h1 : LHeap} {a : Src} {J : It} (s1 : SRel g ω1 env σ) (r1 : HRel g ω1 h1 H1) (ra : IsIt g ω1 a J) {D : Addr} (hD : H1 D = none)
    (o : okD g ω1 D [] [] (compS t lc' (lpr lk lv) (wipeE env vs) a h1) Q) :
    ∃ W : Nat → Nat → Hp → Prop, (∃ m, W 0 m (upd H1 D (.dK []))) ∧ ∀ i m H, W i m H →
      (J.stop i H ∧ Q (.ref D) H) ∨ (J.go i H ∧ ∃ Nx : Hp → Prop, (∀ H', Nx H' → ∃ m', m' < m ∧ W (i + 1) m' H') ∧ ∀ x H', J.yld i H x H' → tg x (L2.wipe σ vs) H' fun σ2 H2 => L2.wipe σ2 vs = L2.wipe σ vs ∧ tT g E0x lc' σ2 H2 fun b H3 =>
        if b = true then tE g E0x lk σ2 H3 fun y H4 => tE g E0x lv σ2 H4 fun z H5 => ∃ kvs k, y = kV k ∧ H5 D = some (.dK kvs) ∧ kvs.length < sizeLine ∧ Nx (upd H5 D (.dK (putK kvs k z))) else Nx H3) := by
  obtain ⟨m0, o2⟩ : ∃ m, okD g ω1 D [] [] (compN t lc' (lpr lk lv) (wipeE env vs) a m 0 h1) Q := by
    cases a with
    | vals xs =>
      refine ⟨xs.length + 1, ?_⟩
      have o' : okD g ω1 D [] [] (match lim xs.length with
        | true => compV t lc' (lpr lk lv) (wipeE env vs) xs h1
        | false => .err) Q := o
      cases hl : lim xs.length with
      | false => rw [hl] at o'; exact o'.elim
      | true =>
        rw [hl] at o'
        rw [compN_vals hl _ _ _ (by omega) (by omega)]
        exact o'
    | live d n => exact ⟨1000000, o⟩
  refine ⟨fun i m H => ∃ ω h ks us kvs, WLe (mkD ω1 D kvs) ω ∧ HRel g ω h H ∧ RVs g ω ks (kvs.map fun p => kV p.1) ∧ RVs g ω us (kvs.map (·.2)) ∧ (kvs.map (·.1)).Nodup ∧ kvs.length ≤ i ∧ okD g ω1 D ks us (compN t lc' (lpr lk lv) (wipeE env vs) a m i h) Q,
    ⟨m0, mkD ω1 D [], h1, [], [], [], .rfl', r1.ghost hD, .nil, .nil, List.nodup_nil, Nat.le_refl _, o2⟩, fun i m H ⟨ω, h, ks, us, kvs, l, r, k1, k2, nd, hi, o⟩ => ?_⟩
  cases m with
  | zero => exact o.elim
  | succ m =>
    unfold compN at o
    cases e1 : a.at h with
    | none => simp only [e1] at o; exact o.elim
    | some xs =>
      simp only [e1] at o
      have lz : WLz ω1 ω := ⟨l.z, l.len, l.look⟩
      obtain ⟨it1, it2⟩ := ra i ω H h xs lz r e1
      cases e2 : xs[i]? with
      | none =>
        simp only [e2] at o
        exact .inl ⟨it2 e2, o ω H kvs l r k1 k2⟩
      | some v =>
        simp only [e2] at o
        cases e3 : lim (i + 1) with
        | false => simp only [e3] at o; exact o.elim
        | true =>
          simp only [e3] at o
          obtain ⟨go, yl⟩ := it1 v e2
          refine .inr ⟨go, fun H' => ∃ ω h ks us kvs, WLe (mkD ω1 D kvs) ω ∧ HRel g ω h H' ∧ RVs g ω ks (kvs.map fun p => kV p.1) ∧ RVs g ω us (kvs.map (·.2)) ∧ (kvs.map (·.1)).Nodup ∧ kvs.length ≤ i + 1 ∧ okD g ω1 D ks us (compN t lc' (lpr lk lv) (wipeE env vs) a m (i + 1) h) Q, fun H' q => ⟨m, Nat.lt_succ_self m, q⟩, fun x H' y => ?_⟩
          obtain ⟨ω2, l2, r2, rv⟩ := yl x H' y
          have s2 : SRel g ω2 (wipeE env vs) (L2.wipe σ vs) := by
            have := s1.wipe vs
            exact ⟨this.len, fun j w e => let ⟨u, a, b⟩ := this.get j w e; ⟨u, a, b.mono (lz.trans l2.lz).to⟩⟩
          refine hgv ω2 (wipeE env vs) h v x _ H' _ s2 r2 rv ?_
          cases e4 : t v (wipeE env vs) h with
          | exc _ _ => simp only [e4] at o; exact o.elim
          | err => simp only [e4] at o; exact o.elim
          | ok e1' h1' =>
            simp only [e4] at o
            intro ω3 σ2 H2 l3 r3 s3 w3
            refine ⟨w3.trans (wipe_wipe σ vs), ω3, e1', h1', s3, r3, ?_⟩
            cases e5 : lc' e1' h1' with
            | exc _ _ => simp only [e5] at o; exact o.elim
            | err => simp only [e5] at o; exact o.elim
            | ok b h2 =>
              intro ω4 b' H3 l4 r4 eb
              have eb' : b = b' := eb
              subst eb'
              have lg4 : WLe (mkD ω1 D kvs) ω4 := ((l.trans l2).trans l3).trans l4
              have m4 := ((l2.trans l3).trans l4).to
              cases b with
              | false =>
                simp only [e5] at o
                rw [if_neg Bool.false_ne_true]
                exact ⟨ω4, h2, ks, us, kvs, lg4, r4, k1.mono m4, k2.mono m4, nd, Nat.le_succ_of_le hi, o⟩
              | true =>
                simp only [e5] at o
                rw [if_pos rfl]
                refine ⟨ω4, e1', h2, s3.mono l4, r4, ?_⟩
                have e6 : lpr lk lv e1' h2 = (lk e1' h2).bind fun x h1 => (lv e1' h1).bind fun y h2 => .ok (.tup [x, y]) h2 := rfl
                rw [e6] at o
                cases e7 : lk e1' h2 with
                | exc _ _ => simp only [e7, Res.bind] at o; exact o.elim
                | err => simp only [e7, Res.bind] at o; exact o.elim
                | ok kx h3 =>
                  intro ω5 u H4 l5 r5 rk
                  refine ⟨ω5, e1', h3, (s3.mono l4).mono l5, r5, ?_⟩
                  cases e8 : lv e1' h3 with
                  | exc _ _ => simp only [e7, e8, Res.bind] at o; exact o.elim
                  | err => simp only [e7, e8, Res.bind] at o; exact o.elim
                  | ok vx h4 =>
                    simp only [e7, e8, Res.bind] at o
                    intro ω6 z H5 l6 r6 rz
                    have lg6 := (lg4.trans l5).trans l6
                    have m6 := ((((l2.trans l3).trans l4).trans l5).trans l6).to
                    cases e9 : compN t lc' (lpr lk lv) (wipeE env vs) a m (i + 1) h4 with
                    | exc _ _ => simp only [e9] at o; exact o.elim
                    | err => simp only [e9] at o; exact o.elim
                    | ok ys h5 =>
                      simp only [e9] at o
                      cases hk : isKey kx with
                      | false =>
                        have o' : (match dmergeP ks us (.tup [kx, vx] :: ys) with
                          | some (ks', vs') => ∀ ω' H' kvs, WLe (mkD ω1 D kvs) ω' → HRel g ω' h5 H' → RVs g ω' ks' (kvs.map fun p => kV p.1) → RVs g ω' vs' (kvs.map (·.2)) → Q (.ref D) H'
                          | none => False) := o
                        unfold dmergeP at o'
                        simp only [hk] at o'
                      | true =>
                        have o' : (match dmergeP ks us (.tup [kx, vx] :: ys) with
                          | some (ks', vs') => ∀ ω' H' kvs, WLe (mkD ω1 D kvs) ω' → HRel g ω' h5 H' → RVs g ω' ks' (kvs.map fun p => kV p.1) → RVs g ω' vs' (kvs.map (·.2)) → Q (.ref D) H'
                          | none => False) := o
                        unfold dmergeP at o'
                        simp only [hk] at o'
                        obtain ⟨kk, rfl⟩ := isKey_at hk rk
                        obtain ⟨d1, d2⟩ := dins_dk (k1.mono m6) (k2.mono m6) nd (rk.mono l6.to) rz
                        have hlen := length_putK kvs kk z
                        have mg : WIn ω6 ⟨ω6.Z, ω6.r, (D, .dK (putK kvs kk z)) :: ω1.x⟩ := ⟨fun _ _ h => h, fun _ _ _ h => h⟩
                        refine ⟨kvs, kk, rfl, ghostD_at lg6 r6, by have := lim_le e3; omega, ⟨ω6.Z, ω6.r, (D, .dK (putK kvs kk z)) :: ω1.x⟩, h4, _, _, putK kvs kk z, remakeD lg6, reghostD lg6 r6, d1.mono mg, d2.mono mg, putK_nodup nd, by omega, ?_⟩
                        rw [e9]
                        exact o'
theorem e_dc {kx vx tgx iter : Expr} {ifs : List Expr} {scope : Scope} {own : List (Str × Nat)} {pos : Pos} {gt : TG} (m : Bool) (hP : X.prog = g.P) (hw : X.w = g.w) (hc : X.calm = true) (hN : X.N.Nodup) (hi : PI X tgx iter (tI g E li)) (ok : BlkOk X.N X.env.scope scope own)
    (hg : ∀ (s : Shared) (H : Hp) (C : Addr) (cl : List (Str × Addr)) (fp : List Addr), PG (X.blk s H scope (compEnvC scope cl C X.env) fp) tgx gt) (hv : Gv g (own.map (·.2)) gt t)
    (ht : ∀ (s : Shared) (H : Hp) (C : Addr) (cl : List (Str × Addr)) (fp : List Addr), PTs (X.blk s H scope (compEnvC scope cl C X.env) fp) ifs (tT g E0x lc'))
    (hk : ∀ (s : Shared) (H : Hp) (C : Addr) (cl : List (Str × Addr)) (fp : List Addr), PE (X.blk s H scope (compEnvC scope cl C X.env) fp) kx (tE g E0x lk))
    (he : ∀ (s : Shared) (H : Hp) (C : Addr) (cl : List (Str × Addr)) (fp : List Addr), PE (X.blk s H scope (compEnvC scope cl C X.env) fp) vx (tE g E0x lv)) (hs : ∀ x, foldedSetIterable iter X.env x = pure x := by intro _; rfl) :
    PE X (.DictComp kx vx [⟨tgx, iter, ifs, 0⟩] scope pos) (tE g E (ldc m li (own.map (·.2)) t lc' lk lv)) :=
  (pe_recast (g := g) hP hw (pe_dc hc hN hi ok hg ht hk he hs)).weak fun σ H Q ⟨ω, env, h, s, r, o⟩ => by
    refine tL.step (R := RIt g) (R' := RV g) (f := fun env s h1 => match compS t lc' (lpr lk lv) (wipeE env (own.map (·.2))) s h1 with
      | .ok ys h2 => (match dmergeP [] [] ys with
        | some (ks, us) => ofO (dctM m false ks us h2)
        | none => .err)
      | _ => .err) s r o fun ω1 a J h1 H1 s1 r1 ra l1 o1 D hD => dc_tree (Q := fun x H1 => ∃ D kvs, x = .ref D ∧ H1 D = some (.dK kvs) ∧ ∀ o, DL g D kvs o → Q x (upd H1 D (dctO D o))) hv s1 r1 ra hD ?_
    cases e : compS t lc' (lpr lk lv) (wipeE env (own.map (·.2))) a h1 with
    | exc _ _ => simp only [e] at o1; exact o1.elim
    | err => simp only [e] at o1; exact o1.elim
    | ok ys h2 =>
      simp only [e] at o1
      cases em : dmergeP [] [] ys with
      | none => simp only [em] at o1; exact o1.elim
      | some kv =>
        obtain ⟨ks, us⟩ := kv
        simp only [em] at o1
        show (match dmergeP [] [] ys with
          | some (ks', vs') => ∀ ω' H' kvs, WLe (mkD ω1 D kvs) ω' → HRel g ω' h2 H' → RVs g ω' ks' (kvs.map fun p => kV p.1) → RVs g ω' vs' (kvs.map (·.2)) → ∃ D' kvs, V.ref D = .ref D' ∧ H' D' = some (.dK kvs) ∧ ∀ o, DL g D' kvs o → Q (.ref D) (upd H' D' (dctO D' o))
          | none => False)
        rw [em]
        intro ω' H' kvs l r' k1 k2
        refine ⟨D, kvs, rfl, ghostD_at l r', fun ob d => ?_⟩
        exact madeD l r' k1 k2 d (okO.of o1)
end
end Li

namespace Li
open PySem PySem.Spec PyProof.Rows L2
section
variable {X : Cx} {g : Pg} {E : EX}
theorem is_items {ω : Wd} {a : Addr} {o : Obj} {ys us : List V} {ks vs : List Val} (hz : ω.Z a = some (dctO a o)) (rk : RVs g ω ks ys) (rv : RVs g ω vs us) (hl : ks.length = vs.length) : IsIt g ω (.vals (zipV ks vs)) (ItI a o ys us) := by
  intro i ω' H h xs' l r e
  cases e
  have hq := r.z _ _ (l.z _ _ hz)
  rw [zipV_get]
  refine ⟨fun v ev => ?_, fun ev => ⟨hq, ?_⟩⟩
  · cases e1 : ks[i]? with
    | none => simp only [e1] at ev; cases ev
    | some x =>
      cases e2 : vs[i]? with
      | none => simp only [e1, e2] at ev; cases ev
      | some y =>
        simp only [e1, e2] at ev
        cases ev
        obtain ⟨p, hp, rp⟩ := rk.get e1
        obtain ⟨q, hq', rq⟩ := rv.get e2
        refine ⟨⟨hq, (List.getElem?_eq_some_iff.mp hp).1⟩, fun z H' ⟨T, y', u', ez, hT, eH, f1, f2⟩ => ?_⟩
        subst ez eH
        rw [hp] at f1; cases f1
        rw [hq'] at f2; cases f2
        exact zip_pair l r hT rp rq
  · rw [rk.length]
    cases e1 : ks[i]? with
    | none => exact List.getElem?_eq_none_iff.mp e1
    | some x =>
      have h1 := (List.getElem?_eq_some_iff.mp e1).1
      have h2 : i < vs.length := by omega
      simp only [e1, List.getElem?_eq_getElem h2] at ev
      cases ev
def itemsOf (h : LHeap) (v : Val) : Res Src := match v with
  | .dct _ ks vs => (match Nat.beq ks.length vs.length with
    | true => .ok (.vals (zipV ks vs)) h
    | false => .err)
  | _ => .err
def litems (e : LE) : LI := fun env h => (e env h).bind fun v h1 => itemsOf h1 v
theorem i_items {e : Expr} {le : LE} {elts : List Expr} {kk : Nat} {tpos apos cpos : Pos} (he : PE X e (tE g E le)) (hbase : attributeBase e "items" X.env (eval e X.env) = eval e X.env := by rfl) (hline : (apos.endLine == cpos.line) = true := by rfl) :
    PI X (.Tuple elts kk tpos) (.Call (.Attribute e "items" apos) [] [] cpos) (tI g E (litems le)) :=
  (pi_itemsL he hbase hline).weak fun σ H R ⟨ω, env, h, s, r, o⟩ => by
    refine tL.step (R' := RIt g) (f := fun _ v h1 => itemsOf h1 v) s r o fun ω1 v u h1 H1 s1 r1 rv l1 o1 => ?_
    cases rv with
    | dk a b c d =>
      rename_i ks vs _ _ _
      obtain ⟨es, ep, h2, h3, h4, h5⟩ := dl_vals (ω := ω1) d
      unfold itemsOf at o1
      cases hl : Nat.beq ks.length vs.length with
      | false => simp only [hl] at o1; exact o1.elim
      | true =>
        simp only [hl] at o1
        exact ⟨_, _, es, ep, _, _, rfl, ⟨r1.z _ _ a, d.sys, h2, h3, h4, h5⟩, o1 ω1 _ H1 .rfl' r1 (is_items a b c (Nat.eq_of_beq_eq_true hl))⟩
    | dt a b c d =>
      rename_i ks vs _ _ _ _
      obtain ⟨es, ep, h2, h3, _, h4, h5, _⟩ := d.ob
      unfold itemsOf at o1
      cases hl : Nat.beq ks.length vs.length with
      | false => simp only [hl] at o1; exact o1.elim
      | true =>
        simp only [hl] at o1
        exact ⟨_, _, es, ep, _, _, rfl, ⟨r1.z _ _ a, d.sys, h2, h3, h4, h5⟩, o1 ω1 _ H1 .rfl' r1 (is_items a b c (Nat.eq_of_beq_eq_true hl))⟩
    | _ => exact o1.elim
end
end Li

namespace Li
open PySem PySem.Spec PyProof.Rows L2
mutual
def valike : Val → Val → Bool
  | .non, .non => true
  | .bl _, .bl _ => true
  | .int _, .int _ => true
  | .str _, .str _ => true
  | .lst xs, .lst ys => valikes xs ys
  | .tup xs, .tup ys => valikes xs ys
  | _, _ => false
def valikes : List Val → List Val → Bool
  | x :: xs, y :: ys => match valike x y with
    | true => valikes xs ys
    | false => false
  | [], _ => true
  | _ :: _, [] => true
end
mutual
def vlt : Val → Val → Bool
  | .bl a, .bl b => match a with
    | true => false
    | false => b
  | .int i, .int j => decide (i < j)
  | .str a, .str b => natsLt a b
  | .lst xs, .lst ys => vlts xs ys
  | .tup xs, .tup ys => vlts xs ys
  | _, _ => false
def vlts : List Val → List Val → Bool
  | x :: xs, y :: ys => match veq x y with
    | true => vlts xs ys
    | false => vlt x y
  | [], _ :: _ => true
  | _, [] => false
end
mutual
theorem valike_dat : ∀ (a b : Val), valike a b = true → PySem.W.alike (dat a) (dat b) = true
  | .non, b, h => by cases b <;> first | rfl | cases h
  | .bl _, b, h => by cases b <;> first | rfl | cases h
  | .int _, b, h => by cases b <;> first | rfl | cases h
  | .str _, b, h => by cases b <;> first | rfl | cases h
  | .lst xs, b, h => by
    cases b with
    | lst ys => exact (by rw [show dat (.lst xs) = .list (dats xs) from rfl, show dat (.lst ys) = .list (dats ys) from rfl]; simpa [PySem.W.alike] using valikes_dat xs ys h)
    | _ => cases h
  | .tup xs, b, h => by
    cases b with
    | tup ys => exact (by rw [show dat (.tup xs) = .tuple (dats xs) from rfl, show dat (.tup ys) = .tuple (dats ys) from rfl]; simpa [PySem.W.alike] using valikes_dat xs ys h)
    | _ => cases h
  | .ins _ _, b, h => by cases b <;> cases h
  | .dct _ _ _, b, h => by cases b <;> cases h
  | .obj _ _, b, h => by cases b <;> cases h
  | .cls _, b, h => by cases b <;> cases h
  | .ty _, b, h => by cases b <;> cases h
  | .fn _, b, h => by cases b <;> cases h
theorem valikes_dat : ∀ (a b : List Val), valikes a b = true → PySem.W.alikeAll (dats a) (dats b) = true
  | [], b, _ => by simp [dats, PySem.W.alikeAll]
  | x :: xs, [], _ => by simp [dats, PySem.W.alikeAll]
  | x :: xs, y :: ys, h => by
    unfold valikes at h
    cases q : valike x y with
    | false => rw [q] at h; cases h
    | true =>
      rw [q] at h
      show PySem.W.alikeAll (dat x :: dats xs) (dat y :: dats ys) = true
      rw [PySem.W.alikeAll, valike_dat x y q, valikes_dat xs ys h]
      rfl
end
theorem vlts_cons (x y : Val) (xs ys : List Val) : vlts (x :: xs) (y :: ys) = if veq x y = true then vlts xs ys else vlt x y := by
  show (match veq x y with | true => vlts xs ys | false => vlt x y) = _
  cases veq x y <;> rfl
mutual
theorem vlt_dat : ∀ (n m : Nat) (a b : Val), pureB n a = true → pureB m b = true → valike a b = true → vlt a b = PySem.W.dataLt (dat a) (dat b)
  | n, m, .non, b, _, _, h => by cases b <;> first | (show false = PySem.W.dataLt .none .none; unfold PySem.W.dataLt; rw [PyProof.Rows.lex_irrefl]) | cases h
  | n, m, .bl a, b, _, _, h => by
    cases b with
    | bl b => rw [show dat (.bl a) = .bool a from rfl, show dat (.bl b) = .bool b from rfl, PySem.W.dataLt_bool]; cases a <;> cases b <;> rfl
    | _ => cases h
  | n, m, .int i, b, _, _, h => by
    cases b with
    | int j => exact (PySem.W.dataLt_int i j).symm
    | _ => cases h
  | n, m, .str s, b, _, _, h => by
    cases b with
    | str t => rw [show dat (.str s) = .str ⟨s.toArray⟩ from rfl, show dat (.str t) = .str ⟨t.toArray⟩ from rfl, PySem.W.dataLt_str]; exact natsLt_eq
    | _ => cases h
  | n, m, .lst xs, b, h1, h2, h => by
    cases b with
    | lst ys =>
      cases n with
      | zero => cases h1
      | succ n =>
        cases m with
        | zero => cases h2
        | succ m =>
          rw [show dat (.lst xs) = .list (dats xs) from rfl, show dat (.lst ys) = .list (dats ys) from rfl, PySem.W.dataLt_list]
          exact vlts_dat n m xs ys h1 h2 h
    | _ => cases h
  | n, m, .tup xs, b, h1, h2, h => by
    cases b with
    | tup ys =>
      cases n with
      | zero => cases h1
      | succ n =>
        cases m with
        | zero => cases h2
        | succ m =>
          rw [show dat (.tup xs) = .tuple (dats xs) from rfl, show dat (.tup ys) = .tuple (dats ys) from rfl, PySem.W.dataLt_tuple]
          exact vlts_dat n m xs ys h1 h2 h
    | _ => cases h
  | n, m, .ins _ _, b, _, _, h => by cases b <;> cases h
  | n, m, .dct _ _ _, b, _, _, h => by cases b <;> cases h
  | n, m, .obj _ _, b, _, _, h => by cases b <;> cases h
  | n, m, .cls _, b, _, _, h => by cases b <;> cases h
  | n, m, .ty _, b, _, _, h => by cases b <;> cases h
  | n, m, .fn _, b, _, _, h => by cases b <;> cases h
theorem vlts_dat : ∀ (n m : Nat) (a b : List Val), allB (pureB n) a = true → allB (pureB m) b = true → valikes a b = true → vlts a b = PySem.W.rowLt (dats a) (dats b)
  | n, m, [], [], _, _, _ => by
    have e : PySem.W.rowLt [] [] = false := PyProof.Rows.lex_irrefl _
    exact e.symm
  | n, m, [], y :: ys, _, _, _ => by
    have e : PySem.W.rowLt [] (dat y :: dats ys) = true := by
      unfold PySem.W.rowLt
      rw [PySem.W.toks_all_cons]
      simp only [PySem.W.keyToksAll]
      rw [PyProof.Rows.lex_diff (O := PyProof.Rows.itemOrd) (by simp)]
      rfl
    exact e.symm
  | n, m, x :: xs, [], _, _, _ => by
    have e : PySem.W.rowLt (dat x :: dats xs) [] = false := by
      unfold PySem.W.rowLt
      rw [PySem.W.toks_all_cons]
      simp only [PySem.W.keyToksAll]
      rw [PyProof.Rows.lex_diff (O := PyProof.Rows.itemOrd) (by simp)]
      rfl
    exact e.symm
  | n, m, x :: xs, y :: ys, h1, h2, h => by
    obtain ⟨p1, p2⟩ := allB_cons.mp h1
    obtain ⟨q1, q2⟩ := allB_cons.mp h2
    unfold valikes at h
    cases q : valike x y with
    | false => rw [q] at h; cases h
    | true =>
      rw [q] at h
      rw [vlts_cons, veq_dat n m x y p1 q1, vlts_dat n m xs ys p2 q2 h, vlt_dat n m x y p1 q1 q]
      exact (PySem.W.dataLt_cons (valike_dat x y q) (dats xs) (dats ys)).symm
end
end Li

namespace Li
open PySem PySem.Spec PyProof.Rows L2
def insB {α : Type} (le : α → α → Bool) (x : α) : List α → List α
  | [] => [x]
  | y :: ys => match le x y with
    | true => x :: y :: ys
    | false => y :: insB le x ys
def sortB {α : Type} (le : α → α → Bool) : List α → List α
  | [] => []
  | x :: xs => insB le x (sortB le xs)
section
variable {α : Type} {le : α → α → Bool}
theorem insB_mem {x z : α} : ∀ {ys : List α}, z ∈ insB le x ys → z = x ∨ z ∈ ys
  | [], h => by simp [insB] at h; exact .inl h
  | y :: ys, h => by
    unfold insB at h
    cases q : le x y with
    | true => rw [q] at h; rcases List.mem_cons.mp h with h | h; exact .inl h; exact .inr h
    | false =>
      rw [q] at h
      rcases List.mem_cons.mp h with h | h
      · exact .inr (h ▸ List.mem_cons_self)
      · rcases insB_mem h with h | h
        · exact .inl h
        · exact .inr (List.mem_cons_of_mem _ h)
theorem insB_pair (T : PySem.W.TotalLe le) {x : α} : ∀ {ys : List α}, ys.Pairwise (fun a b => le a b = true) → (insB le x ys).Pairwise (fun a b => le a b = true)
  | [], _ => by simp [insB]
  | y :: ys, h => by
    obtain ⟨h1, h2⟩ := List.pairwise_cons.mp h
    unfold insB
    cases q : le x y with
    | true => exact List.pairwise_cons.mpr ⟨fun z hz => by rcases List.mem_cons.mp hz with e | e; exact e ▸ q; exact T.trans _ _ _ q (h1 z e), h⟩
    | false =>
      have q' : le y x = true := (T.total y x).resolve_right (by rw [q]; exact Bool.false_ne_true)
      exact List.pairwise_cons.mpr ⟨fun z hz => by rcases insB_mem hz with e | e; exact e ▸ q'; exact h1 z e, insB_pair T h2⟩
theorem insB_filter (T : PySem.W.TotalLe le) (c x : α) : ∀ (ys : List α), (insB le x ys).filter (PySem.W.sameRank le c) = (x :: ys).filter (PySem.W.sameRank le c)
  | [] => rfl
  | y :: ys => by
    unfold insB
    cases q : le x y with
    | true => rfl
    | false =>
      dsimp only
      have ih := insB_filter T c x ys
      cases px : PySem.W.sameRank le c x with
      | false =>
        rw [List.filter_cons_of_neg (a := x) (by rw [px]; exact Bool.false_ne_true)] at ih ⊢
        rw [List.filter_cons, List.filter_cons, ih]
      | true =>
        have py : PySem.W.sameRank le c y = false := by
          cases py : PySem.W.sameRank le c y with
          | false => rfl
          | true =>
            unfold PySem.W.sameRank at px py
            rw [Bool.and_eq_true] at px py
            rw [T.trans _ _ _ px.2 py.1] at q
            cases q
        rw [List.filter_cons_of_neg (a := y) (by rw [py]; exact Bool.false_ne_true), ih, List.filter_cons_of_pos (a := x) px, List.filter_cons_of_pos (a := x) px, List.filter_cons_of_neg (a := y) (by rw [py]; exact Bool.false_ne_true)]
theorem sortB_eq (T : PySem.W.TotalLe le) (l : List α) : sortB le l = l.mergeSort le := by
  refine PySem.W.sort_unique T ?_ fun c => ?_
  · induction l with
    | nil => exact List.Pairwise.nil
    | cons x xs ih => exact insB_pair T ih
  · induction l with
    | nil => rfl
    | cons x xs ih =>
      show (insB le x (sortB le xs)).filter _ = _
      rw [insB_filter T, List.filter_cons, List.filter_cons, ih]
theorem insB_congr {le' : α → α → Bool} {x : α} : ∀ {ys : List α}, (∀ y ∈ ys, le x y = le' x y) → insB le x ys = insB le' x ys
  | [], _ => rfl
  | y :: ys, h => by
    unfold insB
    rw [h y List.mem_cons_self, insB_congr fun z hz => h z (List.mem_cons_of_mem _ hz)]
theorem sortB_mem {z : α} : ∀ {l : List α}, z ∈ sortB le l → z ∈ l
  | [], h => h
  | x :: xs, h => by
    rcases insB_mem h with h | h
    · exact h ▸ List.mem_cons_self
    · exact List.mem_cons_of_mem _ (sortB_mem h)
theorem sortB_congr {le' : α → α → Bool} : ∀ {l : List α}, (∀ x ∈ l, ∀ y ∈ l, le x y = le' x y) → sortB le l = sortB le' l
  | [], _ => rfl
  | x :: xs, h => by
    unfold sortB
    rw [← sortB_congr (l := xs) fun a ha b hb => h a (List.mem_cons_of_mem _ ha) b (List.mem_cons_of_mem _ hb)]
    exact insB_congr fun y hy => h x List.mem_cons_self y (List.mem_cons_of_mem _ (sortB_mem hy))
end
/-- not after -/
def vle (a b : Val) : Bool := match vlt b a with
  | true => false
  | false => true
def vsort (xs : List Val) : List Val := sortB vle xs
def isTup1 : Val → Bool
  | .tup (_ :: _) => true
  | _ => false
def notTN : Val → Bool
  | .tup _ => false
  | .non => false
  | _ => true
def sortOk (xs : List Val) : Bool := match allB (pureB 60) xs with
  | true => (match allB (fun x => allB (valike x) xs) xs with
    | true => (match allB isTup1 xs with
      | true => true
      | false => allB notTN xs)
    | false => false)
  | false => false
theorem sortOk_at {xs : List Val} (h : sortOk xs = true) : allB (pureB 60) xs = true ∧ (∀ x ∈ xs, ∀ y ∈ xs, valike x y = true) ∧ PySem.W.Sortable (xs.map dat) := by
  unfold sortOk at h
  cases h1 : allB (pureB 60) xs with
  | false => simp only [h1] at h; cases h
  | true =>
    cases h2 : allB (fun x => allB (valike x) xs) xs with
    | false => simp only [h1, h2] at h; cases h
    | true =>
      simp only [h1, h2] at h
      refine ⟨rfl, fun x hx y hy => allB_iff.mp (allB_iff.mp h2 x hx) y hy, ?_⟩
      cases h3 : allB isTup1 xs with
      | true =>
        refine .inl fun d hd => ?_
        obtain ⟨v, hv, rfl⟩ := List.mem_map.mp hd
        have := allB_iff.mp h3 v hv
        cases v with
        | tup l =>
          cases l with
          | nil => cases this
          | cons a b => exact ⟨dat a, dats b, rfl⟩
        | _ => cases this
      | false =>
        simp only [h3] at h
        have hp := allB_iff.mp h1
        refine .inr fun d hd => ?_
        obtain ⟨v, hv, rfl⟩ := List.mem_map.mp hd
        have h4 := allB_iff.mp h v hv
        have h5 := hp v hv
        cases v with
        | bl _ => exact ⟨fun e => PyData.noConfusion e, fun _ e => PyData.noConfusion e⟩
        | int _ => exact ⟨fun e => PyData.noConfusion e, fun _ e => PyData.noConfusion e⟩
        | str _ => exact ⟨fun e => PyData.noConfusion e, fun _ e => PyData.noConfusion e⟩
        | lst _ => exact ⟨fun e => PyData.noConfusion e, fun _ e => PyData.noConfusion e⟩
        | tup _ => cases h4
        | non => cases h4
        | _ => cases h5
theorem vsort_eq {xs : List Val} (h1 : allB (pureB 60) xs = true) (h2 : ∀ x ∈ xs, ∀ y ∈ xs, valike x y = true) : vsort xs = xs.mergeSort (PySem.W.dataLe false dat) := by
  have T : PySem.W.TotalLe (PySem.W.dataLe false dat) := PySem.W.sortLe_total _ _ _
  rw [← sortB_eq T]
  refine sortB_congr fun x hx y hy => ?_
  rw [PySem.W.dataLe_eq]
  show vle x y = !PySem.W.dataLt (dat y) (dat x)
  rw [← vlt_dat 60 60 y x (allB_iff.mp h1 y hy) (allB_iff.mp h1 x hx) (h2 y hy x hx)]
  unfold vle
  cases vlt y x <;> rfl
section
variable {X : Cx} {g : Pg} {E : EX}
/-- sorted(xs) -/
def fSorted (m : Bool) : LF := fun vs h => match vs with
  | [v] => (match lstOf h v with
    | some xs => (match sortOk xs with
      | true => lstM m (vsort xs) h
      | false => none)
    | none => none)
  | _ => none
theorem each_of {ω : Wd} : ∀ {xs : List Val} {us : List V} {its : List Value}, RVs g ω xs us → Vals us its → PySem.W.EachIs (fun t b => ∃ u, RelV u t ∧ RV g ω b u) its xs
  | _, _, _, .nil, .nil => .nil
  | _, _, _, .cons a r, .cons b t => .cons ⟨_, b, a⟩ (each_of r t)
theorem each_back {ω : Wd} {xs : List Val} {its : List Value} (e : PySem.W.EachIs (fun t b => ∃ u, RelV u t ∧ RV g ω b u) its xs) : ∃ us, Vals us its ∧ RVs g ω xs us := by
  induction e with
  | nil => exact ⟨[], .nil, .nil⟩
  | cons a _ ih =>
    obtain ⟨u, h1, h2⟩ := a
    obtain ⟨us, k1, k2⟩ := ih
    exact ⟨u :: us, .cons h1 k1, .cons h2 k2⟩
theorem each_reads {pins : List (Addr × Obj)} {s : Shared} {σ : L2.St} {H : Hp} {ω : Wd} (I : Inv X pins σ H s) (hz : ∀ a o, ω.Z a = some o → H a = some o) (hK : X.K = g.K) : ∀ {xs : List Val} {us : List V} {its : List Value}, RVs g ω xs us → Vals us its → allB (pureB 60) xs = true →
    PySem.W.EachIs (fun t b => ∃ as, Reads s.heap t (dat b) as) its xs
  | _, _, _, .nil, .nil, _ => .nil
  | _, _, _, .cons a r, .cons b t, h => by
    obtain ⟨h1, h2⟩ := allB_cons.mp h
    exact .cons (Dp.reads I _ _ _ (hK ▸ (RV.dp hz a h1).1) b) (each_reads I hz hK r t h2)
theorem sorted_L (hK : X.K = g.K) {k : Nat} (hr : Room k X.A) (m : Bool) : CallR X (.builtin "sorted") (cL g (fSorted m)) := by
  intro pins s σ H xs us Q I rs ⟨ω, hh, vs, r, rv, o⟩
  match vs, rv, o with
  | [v], .cons ra .nil, o =>
    unfold fSorted at o
    cases e : lstOf hh v with
    | none => simp only [e] at o; exact o.elim
    | some ys =>
      cases ek : sortOk ys with
      | false => simp only [e, ek] at o; exact o.elim
      | true =>
        simp only [e, ek] at o
        obtain ⟨a, ws, rfl, hH, rw'⟩ := lst_at r ra e
        obtain ⟨k1, k2, k3⟩ := sortOk_at ek
        obtain ⟨its, vv, pl, hz⟩ := I.list (SqL.of hH)
        rw [Vals.ref1 rs]
        have hlen : ys.length ≤ sizeLine := by rw [← rw'.length]; exact hz
        refine PySem.W.sorted_data (R := fun t b => ∃ u, RelV u t ∧ RV g ω b u) (enc := dat) (bs := ys) pl.isList (each_of rw' vv) (each_reads I r.z hK rw' vv k1) (fun d hd d' hd' => ?_) k3 hlen (fun b hb => ?_) fun out ho eo => ?_
        · obtain ⟨x, hx, rfl⟩ := List.mem_map.mp hd
          obtain ⟨y, hy, rfl⟩ := List.mem_map.mp hd'
          exact valike_dat x y (k2 x hx y hy)
        · have h1 := pure_depth 60 b (allB_iff.mp k1 b hb)
          have h2 := hr.un
          omega
        · rw [← vsort_eq k1 k2] at eo
          obtain ⟨us', b1, b2⟩ := each_back eo
          obtain ⟨ep, he'⟩ := PyProof.Rows.sortedAll_at s.heap its out.toArray
          have hl2 : us'.length ≤ sizeLine := by rw [b1.length, ho]; exact hlen
          exact ⟨.ref _, upd H (s.heap.objs.size + 1) (.lst us'), I.laid (t' := s.toks) (fun _ _ => PyProof.Rows.sortedAll_old) (Nat.le_succ _) ⟨hl2, out, ep, b1, he'⟩, rfl, lstM_ok r b2 (I.hok.fresh (Nat.le_succ _)) o⟩
def opLtD : P2 := fun h a b => match pureB 60 a with
  | true => (match pureB 60 b with
    | true => (match valike a b with
      | true => (match isNon a with
        | false => some (.bl (vlt a b), h)
        | true => none)
      | false => none)
    | false => none)
  | false => none
theorem op_ltD (hK : X.K = g.K) {k : Nat} (hr : Room k X.A) : OpR X (compareOp .Lt) (rL g opLtD) := by
  intro pins s σ H x y v u Q I rx ry ⟨ω, hh, a, b, r, ra, rb, o⟩
  unfold opLtD at o
  cases h1 : pureB 60 a with
  | false => simp only [h1] at o; exact o.elim
  | true =>
    cases h2 : pureB 60 b with
    | false => simp only [h1, h2] at o; exact o.elim
    | true =>
      cases h3 : valike a b with
      | false => simp only [h1, h2, h3] at o; exact o.elim
      | true =>
        cases h4 : isNon a with
        | true => simp only [h1, h2, h3, h4] at o; exact o.elim
        | false =>
          simp only [h1, h2, h3, h4] at o
          obtain ⟨as, r1⟩ := Dp.reads I (dat a) x v (hK ▸ (RV.dp r.z ra h1).1) rx
          obtain ⟨bs, r2⟩ := Dp.reads I (dat b) y u (hK ▸ (RV.dp r.z rb h2).1) ry
          refine PySem.W.lt_data r1 r2 (valike_dat a b h3) ?_ ?_ ⟨.bl _, H, I, rfl, ?_⟩
          · cases a <;> first | (cases h4; done) | (cases h1; done) | (intro e; cases e; done)
          · have h1 := pure_depth 60 a h1
            have h2 := hr.un
            omega
          · rw [← vlt_dat 60 60 a b h1 h2 h3]
            exact o ω _ H .rfl' r (.bl _)
end
end Li

namespace Li
open PySem PySem.Spec PyProof.Rows L2
def RawD (h : Heap) (d : Addr) (es : Array DictEntry) (ep : Nat) : Prop := ∃ o, h.get? d = some o ∧ o.ExactDict ∧ o.data = .dict es ep
/-- a dict as a thing to be collected: its keys -/
theorem kdl_raw {P : Program} {w : World} {d : Addr} {es : Array DictEntry} {ep : Nat} (lo : (d == sysModules) = false) : PySem.W.KdlSrc P w "dict" d d es.size (fun i v => (es[i]?).map (·.key) = some v) (fun h => RawD h d es ep) where
  type := fun _ ⟨o, h1, h2, _⟩ => ⟨o, h1, h2.1⟩
  there := fun _ ⟨o, h1, _, _⟩ => ⟨Heap.lt_size h1, Heap.lt_size h1⟩
  keep := fun _ _ ⟨o, h1, h2, h3⟩ hk => ⟨o, hk d (.inl rfl) o h1, h2, h3⟩
  notList := by decide
  notTuple := by decide
  hint := fun _ _ _ _ ⟨o, h1, h2, _⟩ hq => PySem.W.kdl_hint_dict ⟨o, h1, h2.1⟩ hq
  iter := fun A s hh ⟨o, h1, h2, h3⟩ => by
    have hne : d ≠ s.heap.objs.size := Nat.ne_of_lt (Heap.lt_size h1)
    refine ⟨_, fun i h => h.IsKeyIter s.heap.objs.size d i es.size ep ∧ RawD h d es ep, (fun E Q hq => iter_keys lo h1 h2 h3 hq), ?_, ⟨_, Heap.get?_push_size _ rfl, rfl, rfl⟩, o, Heap.get?_push_of_some _ h1, h2, h3⟩
    exact {
      sub := fun b hb => by simp at hb; simp [hb]
      frame := fun i h h' ⟨st, o, g1, g2, g3⟩ hk => ⟨st.at fun oi e => hk _ (by simp) oi e, o, hk d (by simp) o g1, g2, g3⟩
      item := fun i s' Q E hi ⟨st, o, g1, g2, g3⟩ hQ => by
        refine next_key_item st g1 g3 rfl (Array.getElem?_eq_getElem hi) fun h' st' sb => ?_
        exact hQ _ h' s'.toks (by rw [Array.getElem?_eq_getElem hi]; rfl) ⟨st', o, (sb.2 d hne).trans g1, g2, g3⟩ fun b ob hb e => (sb.2 b fun e2 => hb (by simp [e2])).trans e
      done := fun s' Q E ⟨st, o, g1, g2, g3⟩ hQ => next_key_end hh st g1 g3 rfl (Nat.le_refl _) fun h' eb => hQ h' s'.toks fun b ob hb e => eb b ob (fun e2 => hb (by simp [e2])) e
      self := fun _ _ _ _ ⟨st, _⟩ hQ => wpAny_pyIter_keyiter st hQ }
theorem acc_vals {es : Array DictEntry} {ys : List V} {acc : Array Value} (hk : Vals ys (es.toList.map (·.key))) (h : ItemsOf (fun i v => (es[i]?).map (·.key) = some v) acc es.size) : Vals ys acc.toList := by
  have e : acc.toList = es.toList.map (·.key) := by
    refine List.ext_getElem? fun j => ?_
    rw [Array.getElem?_toList, List.getElem?_map, Array.getElem?_toList]
    cases q : acc[j]? with
    | some v => exact (h.2 j v q).symm
    | none =>
      have : acc.size ≤ j := Array.getElem?_eq_none_iff.mp q
      rw [h.1] at this
      rw [Array.getElem?_eq_none this]
      rfl
  rw [e]; exact hk
section
variable {X : Cx} {g : Pg} {E : EX}
/-- a dict's keys -/
theorem dct_keys {ω : Wd} {hh : LHeap} {H : Hp} {v : Val} {u : V} {t : Bool} {ks vs : List Val} (r : HRel g ω hh H) (rv : RV g ω v u) (e : dctOf hh v = some (t, ks, vs)) :
    ∃ a o es ep ys, u = .ref a ∧ H a = some (dctO a o) ∧ (a == sysModules) = false ∧ o.ExactDict ∧ o.data = .dict es ep ∧ es.size ≤ sizeLine ∧ Vals ys (es.toList.map (·.key)) ∧ RVs g ω ks ys := by
  cases t with
  | true =>
    obtain ⟨a, ys, us, o, rfl, hH, r1, r2, d⟩ := dt_at r rv e
    obtain ⟨es, ep, h2, h3, hz, h4, _⟩ := d.ob
    exact ⟨a, o, es, ep, ys, rfl, hH, d.sys, h2, h3, hz, h4, r1⟩
  | false =>
    obtain ⟨a, kvs, o, rfl, hH, r1, r2, d⟩ := dk_at r rv e
    obtain ⟨es, ep, h2, h3, h4, h5⟩ := dl_vals (ω := ω) d
    refine ⟨a, o, es, ep, _, rfl, hH, d.sys, h2, h3, ?_, h4, r1⟩
    have := h4.length
    have hl := d.len
    simp at this
    omega
def fSortedD (m : Bool) : LF := fun vs h => match vs with
  | [v] => (match dctOf h v with
    | some (_, ks, _) => (match sortOk ks with
      | true => lstM m (vsort ks) h
      | false => none)
    | none => none)
  | _ => none
theorem sorted_LD (hK : X.K = g.K) (hc : X.calm = true) {k : Nat} (hr : Room k X.A) (m : Bool) : CallR X (.builtin "sorted") (cL g (fSortedD m)) := by
  intro pins s σ H xs us Q I rs ⟨ω, hh, vs, r, rv, o⟩
  match vs, rv, o with
  | [v], .cons ra .nil, o =>
    unfold fSortedD at o
    cases e : dctOf hh v with
    | none => simp only [e] at o; exact o.elim
    | some tkv =>
      obtain ⟨t, ys, zs⟩ := tkv
      cases ek : sortOk ys with
      | false => simp only [e, ek] at o; exact o.elim
      | true =>
        simp only [e, ek] at o
        obtain ⟨a, ob, es, ep, ws, rfl, hH, hs, hx, hd, hz, hv, rw'⟩ := dct_keys r ra e
        obtain ⟨k1, k2, k3⟩ := sortOk_at ek
        rw [Vals.ref1 rs]
        refine Calls.call_function_entry PyProof.Rows.kind_sorted PyProof.Rows.plain_sorted PyProof.Rows.entry_sorted (PyProof.Rows.args_sorted1 _) ?_
        unfold Builtin.«sorted»
        refine wpAny_bind (m := checkCount "sorted" 1 1 _) (wpAny_pure ?_)
        refine wpAny_bind (PySem.W.kdu_collect (A := X.A.in1) (kdl_raw (es := es) (ep := ep) hs) (I.ok.hd hc) ⟨ob, dct_get I hH, hx, hd⟩ hz fun h' tk acc hk hacc => ?_)
        have I1 : Inv X pins σ H { s with heap := h', toks := tk } := I.kept hk
        have vv := acc_vals hv hacc
        have hlen : acc.toList.length ≤ sizeLine := by rw [Array.length_toList, hacc.1]; exact hz
        have hyl : ys.length = acc.toList.length := by rw [← rw'.length]; exact vv.length
        refine wpAny_bind (wpAny_newList ?_ hlen)
        have hoL : (h'.push (seqObj "list" acc.toList.toArray 0)).get? h'.objs.size = some (seqObj "list" acc.toList.toArray 0) := Heap.get?_push_size _ rfl
        show wpAny _ _ _ _ _ { s with heap := h'.push (seqObj "list" acc.toList.toArray 0), toks := tk }
        have er := each_reads I1 r.z hK rw' vv k1
        have er2 : PySem.W.EachIs (fun t b => ∃ as, Reads (h'.push (seqObj "list" acc.toList.toArray 0)) t (dat b) as ∧ h'.objs.size ∉ as) acc.toList ys := er.mono fun t b ⟨as, q⟩ => ⟨as, PyProof.Rows.Reads.keeps (fun _ _ e => Heap.get?_push_of_some _ e) q, fun hm => by
          obtain ⟨o', e'⟩ := PyProof.On.reads_mem_get q _ hm
          exact Nat.lt_irrefl _ (Heap.lt_size e')⟩
        refine wpAny_bind (wpAny_holding (PySem.W.list_sort_data (s := { s with heap := h'.push (seqObj "list" acc.toList.toArray 0), toks := tk }) (R := fun t b => ∃ u, RelV u t ∧ RV g ω b u) (enc := dat) (bs := ys) hoL (each_of rw' vv) er2 (fun d hd d' hd' => ?_) k3 (by omega) (fun b hb => ?_) fun out ho eo => ?_))
        · obtain ⟨x, hx, rfl⟩ := List.mem_map.mp hd
          obtain ⟨y, hy, rfl⟩ := List.mem_map.mp hd'
          exact valike_dat x y (k2 x hx y hy)
        · have h1 := pure_depth 60 b (allB_iff.mp k1 b hb)
          have h2 := hr.un
          show X.A.units + 1 + 1 + _ < _
          omega
        · rw [← vsort_eq k1 k2] at eo
          obtain ⟨us', b1, b2⟩ := each_back eo
          obtain ⟨e', he'⟩ := PyProof.Rows.sortedHeap_at (vs := acc.toList) (out := out.toArray) hoL
          have hl2 : us'.length ≤ sizeLine := by rw [b1.length, ho, hyl]; exact hlen
          refine wpAny_pure ⟨_, rfl, .ref h'.objs.size, upd H h'.objs.size (.lst us'), I1.laid (t' := tk) (fun b u e => ?_) (Nat.le_refl _) ⟨hl2, out, e', b1, he'⟩, rfl, lstM_ok r b2 (I1.hok.fresh (Nat.le_refl _)) o⟩
          have hb : b < h'.objs.size := Heap.lt_size e
          rw [PyProof.Rows.sortedHeap_old (Nat.ne_of_lt hb) (by rw [size_push']; exact Nat.lt_succ_of_lt hb)]
          exact Heap.get?_push_of_some _ e
def fLstD (m : Bool) : LF := fun vs h => match vs with
  | [v] => (match dctOf h v with
    | some (_, ks, _) => lstM m ks h
    | none => none)
  | _ => none
theorem lst_LD (hK : X.K = g.K) (hc : X.calm = true) (m : Bool) : CallR X (.type "list") (cL g (fLstD m)) := by
  intro pins s σ H xs us Q I rs ⟨ω, hh, vs, r, rv, o⟩
  match vs, rv, o with
  | [v], .cons ra .nil, o =>
    unfold fLstD at o
    cases e : dctOf hh v with
    | none => simp only [e] at o; exact o.elim
    | some tkv =>
      obtain ⟨t, ys, zs⟩ := tkv
      simp only [e] at o
      obtain ⟨a, ob, es, ep, ws, rfl, hH, hs, hx, hd, hz, hv, rw'⟩ := dct_keys r ra e
      rw [Vals.ref1 rs]
      refine PySem.W.kdl_call (kdl_raw (es := es) (ep := ep) hs) (I.ok.hd hc) ⟨ob, dct_get I hH, hx, hd⟩ hz fun h' tk acc c' hk hD hacc => ?_
      have vv := acc_vals hv hacc
      have hl2 : ws.length ≤ sizeLine := by rw [vv.length, Array.length_toList, hacc.1]; exact hz
      exact ⟨.ref s.heap.objs.size, upd H s.heap.objs.size (.lst ws), I.laid (t' := tk) hk (Nat.le_refl _) (show ObjOk X.prog X.w _ _ _ (.lst ws) from ⟨hl2, acc.toList, c', vv, by rw [Array.toArray_toList]; exact hD⟩), rfl, lstM_ok r rw' (I.hok.fresh (Nat.le_refl _)) o⟩
end
end Li

namespace Li
open PySem PySem.Spec PyProof.Rows L2
def bsame : Bool → Bool → Bool
  | true, b => b
  | false, true => false
  | false, false => true
theorem bsame_eq : ∀ {a b : Bool}, bsame a b = true → a = b
  | true, true, _ => rfl
  | false, false, _ => rfl
  | true, false, h => by cases h
  | false, true, h => by cases h
mutual
def vsame : Val → Val → Bool
  | .non, .non => true
  | .bl a, .bl b => bsame a b
  | .int i, .int j => decide (i = j)
  | .str a, .str b => natsEq a b
  | .tup xs, .tup ys => vsames xs ys
  | .lst xs, .lst ys => vsames xs ys
  | .ins c fs, .ins d gs => match Nat.beq c d with
    | true => vsames fs gs
    | false => false
  | .dct t ks vs, .dct u ls ws => match bsame t u with
    | true => (match vsames ks ls with
      | true => vsames vs ws
      | false => false)
    | false => false
  | .obj d n, .obj e m => match Nat.beq d e with
    | true => Nat.beq n m
    | false => false
  | .cls c, .cls d => Nat.beq c d
  | .ty c, .ty d => Nat.beq c d
  | .fn c, .fn d => Nat.beq c d
  | _, _ => false
def vsames : List Val → List Val → Bool
  | [], [] => true
  | x :: xs, y :: ys => match vsame x y with
    | true => vsames xs ys
    | false => false
  | _, _ => false
end
mutual
theorem vsame_eq : ∀ {a b : Val}, vsame a b = true → a = b
  | .non, b, h => by cases b <;> first | rfl | cases h
  | .bl a, b, h => by
    cases b with
    | bl b => rw [bsame_eq (show bsame a b = true from h)]
    | _ => cases h
  | .int i, b, h => by
    cases b with
    | int j => rw [of_decide_eq_true (show decide (i = j) = true from h)]
    | _ => cases h
  | .str a, b, h => by
    cases b with
    | str b =>
      have h' : natsEq a b = true := h
      rw [natsEq_eq] at h'
      rw [of_decide_eq_true h']
    | _ => cases h
  | .tup xs, b, h => by
    cases b with
    | tup ys => rw [vsames_eq (show vsames xs ys = true from h)]
    | _ => cases h
  | .lst xs, b, h => by
    cases b with
    | lst ys => rw [vsames_eq (show vsames xs ys = true from h)]
    | _ => cases h
  | .ins c fs, b, h => by
    cases b with
    | ins d gs =>
      unfold vsame at h
      cases q : Nat.beq c d with
      | false => rw [q] at h; cases h
      | true => rw [q] at h; rw [Nat.eq_of_beq_eq_true q, vsames_eq (show vsames fs gs = true from h)]
    | _ => cases h
  | .dct t ks vs, b, h => by
    cases b with
    | dct u ls ws =>
      unfold vsame at h
      cases q : bsame t u with
      | false => simp only [q] at h; cases h
      | true =>
        cases q2 : vsames ks ls with
        | false => simp only [q, q2] at h; cases h
        | true =>
          simp only [q, q2] at h
          rw [bsame_eq q, vsames_eq q2, vsames_eq h]
    | _ => cases h
  | .obj d n, b, h => by
    cases b with
    | obj e m =>
      unfold vsame at h
      cases q : Nat.beq d e with
      | false => rw [q] at h; cases h
      | true => rw [q] at h; rw [Nat.eq_of_beq_eq_true q, Nat.eq_of_beq_eq_true (show Nat.beq n m = true from h)]
    | _ => cases h
  | .cls c, b, h => by
    cases b with
    | cls d => rw [Nat.eq_of_beq_eq_true (show Nat.beq c d = true from h)]
    | _ => cases h
  | .ty c, b, h => by
    cases b with
    | ty d => rw [Nat.eq_of_beq_eq_true (show Nat.beq c d = true from h)]
    | _ => cases h
  | .fn c, b, h => by
    cases b with
    | fn d => rw [Nat.eq_of_beq_eq_true (show Nat.beq c d = true from h)]
    | _ => cases h
theorem vsames_eq : ∀ {a b : List Val}, vsames a b = true → a = b
  | [], [], _ => rfl
  | [], _ :: _, h => by cases h
  | _ :: _, [], h => by cases h
  | x :: xs, y :: ys, h => by
    unfold vsames at h
    cases q : vsame x y with
    | false => rw [q] at h; cases h
    | true => rw [q] at h; rw [vsame_eq q, vsames_eq h]
end
def fsame : List (Option Val) → List (Option Val) → Bool
  | [], [] => true
  | none :: xs, none :: ys => fsame xs ys
  | some x :: xs, some y :: ys => match vsame x y with
    | true => fsame xs ys
    | false => false
  | _, _ => false
theorem fsame_eq : ∀ {a b : List (Option Val)}, fsame a b = true → a = b
  | [], [], _ => rfl
  | none :: xs, none :: ys, h => by rw [fsame_eq (show fsame xs ys = true from h)]
  | some x :: xs, some y :: ys, h => by
    unfold fsame at h
    cases q : vsame x y with
    | false => rw [q] at h; cases h
    | true => rw [q] at h; rw [vsame_eq q, fsame_eq h]
  | [], _ :: _, h => by cases h
  | none :: _, [], h => by cases h
  | some _ :: _, [], h => by cases h
  | none :: _, some _ :: _, h => by cases h
  | some _ :: _, none :: _, h => by cases h
def osame : LObj → LObj → Bool
  | .lst xs, .lst ys => vsames xs ys
  | .ins c fs, .ins d gs => match Nat.beq c d with
    | true => fsame fs gs
    | false => false
  | .dct t ks vs, .dct u ls ws => match bsame t u with
    | true => (match vsames ks ls with
      | true => vsames vs ws
      | false => false)
    | false => false
  | _, _ => false
theorem osame_eq {a b : LObj} (h : osame a b = true) : a = b := by
  cases a with
  | lst xs =>
    cases b with
    | lst ys => rw [vsames_eq (show vsames xs ys = true from h)]
    | _ => cases h
  | ins c fs =>
    cases b with
    | ins d gs =>
      unfold osame at h
      cases q : Nat.beq c d with
      | false => simp only [q] at h; cases h
      | true => simp only [q] at h; rw [Nat.eq_of_beq_eq_true q, fsame_eq h]
    | _ => cases h
  | dct t ks vs =>
    cases b with
    | dct u ls ws =>
      unfold osame at h
      cases q : bsame t u with
      | false => simp only [q] at h; cases h
      | true =>
        cases q2 : vsames ks ls with
        | false => simp only [q, q2] at h; cases h
        | true =>
          simp only [q, q2] at h
          rw [bsame_eq q, vsames_eq q2, vsames_eq h]
    | _ => cases h
def listSame {α : Type} (f : α → α → Bool) : List α → List α → Bool
  | [], [] => true
  | x :: xs, y :: ys => match f x y with
    | true => listSame f xs ys
    | false => false
  | _, _ => false
theorem listSame_eq {α : Type} {f : α → α → Bool} (hf : ∀ x y, f x y = true → x = y) : ∀ {a b : List α}, listSame f a b = true → a = b
  | [], [], _ => rfl
  | [], _ :: _, h => by cases h
  | _ :: _, [], h => by cases h
  | x :: xs, y :: ys, h => by
    unfold listSame at h
    cases q : f x y with
    | false => rw [q] at h; cases h
    | true => rw [q] at h; rw [hf _ _ q, listSame_eq hf h]
def heapSame : LHeap → LHeap → Bool := listSame (listSame osame)
theorem heapSame_eq {a b : LHeap} (h : heapSame a b = true) : a = b := listSame_eq (fun _ _ h => listSame_eq (fun _ _ h => osame_eq h) h) h
end Li

namespace Li
open PySem PySem.Spec PyProof.Rows L2
open PySem.AutoSeq1 (wpAny_loadPart')
theorem int_eq_ins (b : Int) (u : Tok) (l : Addr) (C dx : Addr) : Meets (Builtin.«int.__eq__» ⟨[.int b u, .ref l], []⟩) (fun _ R s => s.heap.get? l = some (PySem.W.instObj C dx) ∧ R (.ok (.ret .notImplemented)) s) :=
  .of_wp fun prog w A R s h => by obtain ⟨hp, g, d, tk, os⟩ := s; obtain ⟨hl, h⟩ := h; wp_walk using wpAny_loadPart' hl, wpAny_load hl; exact ⟨_, rfl, h⟩
theorem int_eq_insB (b : Bool) (l : Addr) (C dx : Addr) : Meets (Builtin.«int.__eq__» ⟨[.bool b, .ref l], []⟩) (fun _ R s => s.heap.get? l = some (PySem.W.instObj C dx) ∧ R (.ok (.ret .notImplemented)) s) :=
  .of_wp fun prog w A R s h => by obtain ⟨hp, g, d, tk, os⟩ := s; obtain ⟨hl, h⟩ := h; wp_walk using wpAny_loadPart' hl, wpAny_load hl; exact ⟨_, rfl, h⟩
theorem int_ne_ins (b : Int) (u : Tok) (l : Addr) (C dx : Addr) : Meets (Builtin.«int.__ne__» ⟨[.int b u, .ref l], []⟩) (fun _ R s => s.heap.get? l = some (PySem.W.instObj C dx) ∧ R (.ok (.ret .notImplemented)) s) :=
  .of_wp fun prog w A R s h => by obtain ⟨hp, g, d, tk, os⟩ := s; obtain ⟨hl, h⟩ := h; wp_walk using wpAny_loadPart' hl, wpAny_load hl; exact ⟨_, rfl, h⟩
theorem str_eq_ins (b : Str) (u : Tok) (l : Addr) (C dx : Addr) : Meets (Builtin.«str.__eq__» ⟨[.str b u, .ref l], []⟩) (fun _ R s => s.heap.get? l = some (PySem.W.instObj C dx) ∧ R (.ok (.ret .notImplemented)) s) :=
  .of_wp fun prog w A R s h => by obtain ⟨hp, g, d, tk, os⟩ := s; obtain ⟨hl, h⟩ := h; wp_walk using wpAny_loadPart' hl, wpAny_load hl; exact ⟨_, rfl, h⟩
theorem none_eq_ins (l : Addr) : Gives (Builtin.«NoneType.__eq__» ⟨[.none, .ref l], []⟩) (.val (Value.notImplemented)) := SeqAt.NoneType___eq___none_ref_0 l
end Li

namespace Li
open PySem PySem.Spec PyProof.Rows L2
open PySem.AutoSeq1 (wpAny_loadPart')
theorem int_ne_insB (b : Bool) (l : Addr) (C dx : Addr) : Meets (Builtin.«int.__ne__» ⟨[.bool b, .ref l], []⟩) (fun _ R s => s.heap.get? l = some (PySem.W.instObj C dx) ∧ R (.ok (.ret .notImplemented)) s) :=
  .of_wp fun prog w A R s h => by obtain ⟨hp, g, d, tk, os⟩ := s; obtain ⟨hl, h⟩ := h; wp_walk using wpAny_loadPart' hl, wpAny_load hl; exact ⟨_, rfl, h⟩
theorem str_ne_ins (b : Str) (u : Tok) (l : Addr) (C dx : Addr) : Meets (Builtin.«str.__ne__» ⟨[.str b u, .ref l], []⟩) (fun _ R s => s.heap.get? l = some (PySem.W.instObj C dx) ∧ R (.ok (.ret .notImplemented)) s) :=
  .of_wp fun prog w A R s h => by obtain ⟨hp, g, d, tk, os⟩ := s; obtain ⟨hl, h⟩ := h; wp_walk using wpAny_loadPart' hl, wpAny_load hl; exact ⟨_, rfl, h⟩
theorem none_ne_ins (l : Addr) : Gives (Builtin.«NoneType.__ne__» ⟨[.none, .ref l], []⟩) (.val (Value.notImplemented)) := by
  first
    | exact SeqAt.NoneType___ne___none_ref_0 l
    | exact fun _ => rfl
    | (intro prog w A R s h; exact h)
section
variable {prog : Program} {w : World} {A : Around} {E : Value → Shared → Prop} {s : Shared}
theorem tup_eq_ins {a l : Addr} {items : Array Value} {Q : Value → Shared → Prop} (ht : s.heap.IsTuple a items) (hi : PySem.W.Looks (model prog w) s.heap (isInstance (.ref l) (.type "tuple")) false) (q : Q .notImplemented s) :
    wpAny (model prog w) A (call (.builtin "tuple.__eq__") [.ref a, .ref l]) Q E s := by
  refine wpAny_call_entry F.slot_tuple_eq ht.typeIs F.entry_tuple_eq ?_ (F.args_tuple_eq_2 _ _)
  show wpAny _ _ (slotArgs "__eq__" 1 ⟨[.ref a, .ref l], []⟩ >>= _) _ _ s
  refine wpAny_bind (wpAny_of_eq (a := (.ref a, [.ref l])) rfl ?_)
  refine wpAny_bind (hi.here ?_)
  exact wpAny_pure ⟨_, rfl, q⟩
theorem tup_ne_ins {a l : Addr} {items : Array Value} {Q : Value → Shared → Prop} (ht : s.heap.IsTuple a items) (hi : PySem.W.Looks (model prog w) s.heap (isInstance (.ref l) (.type "tuple")) false) (q : Q .notImplemented s) :
    wpAny (model prog w) A (call (.builtin "tuple.__ne__") [.ref a, .ref l]) Q E s := by
  refine wpAny_call_entry F.slot_tuple_ne ht.typeIs F.entry_tuple_ne ?_ (F.args_tuple_ne_2 _ _)
  show wpAny _ _ (slotArgs "__ne__" 1 ⟨[.ref a, .ref l], []⟩ >>= _) _ _ s
  refine wpAny_bind (wpAny_of_eq (a := (.ref a, [.ref l])) rfl ?_)
  refine wpAny_bind (hi.here ?_)
  exact wpAny_pure ⟨_, rfl, q⟩
theorem lst_eq_ins {a l : Addr} {items : Array Value} {Q : Value → Shared → Prop} (ht : s.heap.IsList a items) (hi : PySem.W.Looks (model prog w) s.heap (isInstance (.ref l) (.type "list")) false) (q : Q .notImplemented s) :
    wpAny (model prog w) A (call (.builtin "list.__eq__") [.ref a, .ref l]) Q E s := by
  refine wpAny_call_entry F.slot_list_eq ht.typeIs F.entry_list_eq ?_ (F.args_list_eq_2 _ _)
  show wpAny _ _ (slotArgs "__eq__" 1 ⟨[.ref a, .ref l], []⟩ >>= _) _ _ s
  refine wpAny_bind (wpAny_of_eq (a := (.ref a, [.ref l])) rfl ?_)
  refine wpAny_bind (hi.here ?_)
  exact wpAny_pure ⟨_, rfl, q⟩
theorem lst_ne_ins {a l : Addr} {items : Array Value} {Q : Value → Shared → Prop} (ht : s.heap.IsList a items) (hi : PySem.W.Looks (model prog w) s.heap (isInstance (.ref l) (.type "list")) false) (q : Q .notImplemented s) :
    wpAny (model prog w) A (call (.builtin "list.__ne__") [.ref a, .ref l]) Q E s := by
  refine wpAny_call_entry F.slot_list_ne ht.typeIs F.entry_list_ne ?_ (F.args_list_ne_2 _ _)
  show wpAny _ _ (slotArgs "__ne__" 1 ⟨[.ref a, .ref l], []⟩ >>= _) _ _ s
  refine wpAny_bind (wpAny_of_eq (a := (.ref a, [.ref l])) rfl ?_)
  refine wpAny_bind (hi.here ?_)
  exact wpAny_pure ⟨_, rfl, q⟩
theorem dct_eq_ins {a l : Addr} {Q : Value → Shared → Prop} (ht : s.TypeIs (.ref a) "dict") (hi : PySem.W.Looks (model prog w) s.heap (isInstance (.ref l) (.type "dict")) false) (q : Q .notImplemented s) :
    wpAny (model prog w) A (call (.builtin "dict.__eq__") [.ref a, .ref l]) Q E s := by
  refine wpAny_call_entry F.slot_dict_eq ht F.entry_dict_eq ?_ (F.args_dict_eq_2 _ _)
  show wpAny _ _ (Builtin.Dict.dictSlotArgs "__eq__" ⟨[.ref a, .ref l], []⟩ >>= _) _ _ s
  refine wpAny_bind ?_
  unfold Builtin.Dict.dictSlotArgs
  refine wpAny_bind (wpAny_notOrdered_dict ht ?_)
  show wpAny _ _ (pure (Value.ref a, Value.ref l)) _ _ s
  refine wpAny_pure ?_
  refine wpAny_bind (hi.here ?_)
  simp only [Bool.not_false, if_true]
  exact wpAny_bind (wpAny_rule (wpAny_pure ⟨_, rfl, q⟩))
theorem dct_ne_ins {a l : Addr} {Q : Value → Shared → Prop} (ht : s.TypeIs (.ref a) "dict") (hi : PySem.W.Looks (model prog w) s.heap (isInstance (.ref l) (.type "dict")) false) (q : Q .notImplemented s) :
    wpAny (model prog w) A (call (.builtin "dict.__ne__") [.ref a, .ref l]) Q E s := by
  refine wpAny_call_entry F.slot_dict_ne ht F.entry_dict_ne ?_ (F.args_dict_ne_2 _ _)
  show wpAny _ _ (Builtin.Dict.dictSlotArgs "__ne__" ⟨[.ref a, .ref l], []⟩ >>= _) _ _ s
  refine wpAny_bind ?_
  unfold Builtin.Dict.dictSlotArgs
  refine wpAny_bind (wpAny_notOrdered_dict ht ?_)
  show wpAny _ _ (pure (Value.ref a, Value.ref l)) _ _ s
  refine wpAny_pure ?_
  refine wpAny_bind (hi.here ?_)
  simp only [Bool.not_false, if_true]
  exact wpAny_bind (wpAny_rule (wpAny_pure ⟨_, rfl, q⟩))
end
end Li

namespace Li
open PySem PySem.Spec PyProof.Rows L2
section
variable {prog : Program} {w : World} {A : Around} {E : Value → Shared → Prop} {s : Shared} {K : PySem.W.Frag}
theorem looks_isI {M : Model} {h : Heap} {x C : Addr} {ox : Obj} {od : Option Obj} {base : Value} {r : Bool} (X : K.In h) (I : PySem.W.InstAt h x ox C od) (e : PySem.W.subIn K (.ref C) base = some r) : PySem.W.Looks M h (isInstance (.ref x) base) r :=
  I.type.andThen (PySem.W.looks_subIn X e)
/-- the left one, a built-in's, declines; the right one answers -/
theorem cmp_ref {op : CmpOp} {T : String} {C l : Addr} {u : Value} {Q : Value → Shared → Prop} (hu : A.units < cLine) (hT : s.TypeIs u T) (hb : PySem.W.Looks (model prog w) s.heap (typeOf (.ref l)) (.ref C)) (X : K.In s.heap) (hsub : PySem.W.subIn K (.ref C) (.type T) = some false)
    (decl : ∀ Q : Option Value → Shared → Prop, Q none s → wpAny (model prog w) A (tryCompare u (cmpInfo op).2.1 (.ref l)) Q E s)
    (one : wpAny (model prog w) A (tryCompare (.ref l) (cmpInfo op).2.2 u) (fun r s' => ∃ v, r = some v ∧ Q v s') E s) : wpAny (model prog w) A (richCompare op u (.ref l)) Q E s := by
  unfold richCompare
  simp only [hT.oneThing_none]
  refine wpAny_holding (wpAny_bind (wpAny_cRoomFor hu ?_))
  refine wpAny_bind (wpAny_typeOf hT (wpAny_bind (hb.here ?_)))
  rw [if_pos (show (Value.type T != Value.ref C) = true from rfl)]
  refine wpAny_bind ((PySem.W.looks_subIn X hsub).here ?_)
  simp only [Bool.false_eq_true, if_false, Bool.not_false, if_true]
  refine wpAny_bind (decl _ ?_)
  refine wpAny_bind (wpAny_mono one (fun r s' z => ?_) fun _ _ e => e)
  obtain ⟨v, rfl, hq⟩ := z
  exact wpAny_pure hq
end
/-- an own class's instances are none of the built-ins' -/
structure NotB (g : Pg) (c : Nat) : Prop where
  sub : ∀ n, Nat.ble n 6 = true → PySem.W.subIn g.K (.ref (g.ca c)) (.type (tyN n)) = some false
section
variable {X : Cx} {g : Pg} {n : Nat}
set_option maxHeartbeats 4000000 in
theorem decl_at {op : CmpOp} {neg : Bool} (hop : (cmpInfo op).2.1 = (if neg then "__ne__" else "__eq__" : String)) (hK : X.K = g.K) {c : Nat} (N : NotB g c) {pins : List (Addr × Obj)} {s : Shared} {σ : L2.St} {H : Hp} {ω : Wd} {hh : LHeap} {a : Val} {x : V} {u : Value} {l dx : Addr} {gs : List (Str × V)} {t : Nat}
    (I : Inv X pins σ H s) (r : HRel g ω hh H) (ra : RV g ω a x) (rx : RelV x u) (hH : H l = some (.ins (g.ca c) dx gs)) (ht : tagOf hh a = some t) (hb : Nat.ble t 6 = true) :
    s.TypeIs u (tyN t) ∧ ∀ Q : Option Value → Shared → Prop, Q none s → wpAny (model X.prog X.w) X.A (tryCompare u (cmpInfo op).2.1 (.ref l)) Q X.xe s := by
  obtain ⟨od, J⟩ := inst_ne I hH
  have hk : g.K.In s.heap := hK ▸ I.kIn
  have is : ∀ m, Nat.ble m 6 = true → PySem.W.Looks (model X.prog X.w) s.heap (isInstance (.ref l) (.type (tyN m))) false := fun m hm => looks_isI hk J (N.sub m hm)
  have at_ := J.at_
  rw [hop]
  have lst : ∀ p us, H p = some (.lst us) → s.TypeIs (.ref p) "list" ∧ ∀ Q : Option Value → Shared → Prop, Q none s → wpAny (model X.prog X.w) X.A (tryCompare (.ref p) (if neg then "__ne__" else "__eq__" : String) (.ref l)) Q X.xe s := fun p us hp => by
    obtain ⟨its, _, pl, _⟩ := I.list (SqL.of (K := X.K) hp)
    refine ⟨pl.isList.typeIs, fun Q q => ?_⟩
    cases neg with
    | false => exact wpAny_tryCompare_declines pl.isList.typeIs F.slot_list_eq (lst_eq_ins pl.isList (is 4 rfl) ⟨rfl, q⟩)
    | true => exact wpAny_tryCompare_declines pl.isList.typeIs F.slot_list_ne (lst_ne_ins pl.isList (is 4 rfl) ⟨rfl, q⟩)
  have dct : ∀ p o, H p = some (dctO p o) → o.cls = .type "dict" → s.TypeIs (.ref p) "dict" ∧ ∀ Q : Option Value → Shared → Prop, Q none s → wpAny (model X.prog X.w) X.A (tryCompare (.ref p) (if neg then "__ne__" else "__eq__" : String) (.ref l)) Q X.xe s := fun p o hp hc => by
    have hT : s.TypeIs (.ref p) "dict" := ⟨o, dct_get I hp, hc⟩
    refine ⟨hT, fun Q q => ?_⟩
    cases neg with
    | false => exact wpAny_tryCompare_declines hT F.slot_dict_eq (dct_eq_ins hT (is 6 rfl) ⟨rfl, q⟩)
    | true => exact wpAny_tryCompare_declines hT F.slot_dict_ne (dct_ne_ins hT (is 6 rfl) ⟨rfl, q⟩)
  cases ra with
  | non =>
    cases ht
    cases rx
    have hT : s.TypeIs Value.none "NoneType" := rfl
    refine ⟨hT, fun Q q => ?_⟩
    cases neg with
    | false => exact wpAny_tryCompare_declines (T := "NoneType") hT F.slot_NoneType_eq (call_gives F.slot_NoneType_eq hT F.entry_NoneType_eq (F.args_NoneType_eq_2 _ _) (none_eq_ins l) ⟨rfl, q⟩)
    | true => exact wpAny_tryCompare_declines (T := "NoneType") hT F.slot_NoneType_ne (call_gives F.slot_NoneType_ne hT F.entry_NoneType_ne (F.args_NoneType_ne_2 _ _) (none_ne_ins l) ⟨rfl, q⟩)
  | bl b =>
    cases ht
    cases rx
    have hT : s.TypeIs (Value.bool b) "bool" := rfl
    refine ⟨hT, fun Q q => ?_⟩
    cases neg with
    | false => exact wpAny_tryCompare_declines (T := "bool") hT F.slot_bool_eq (call_meets F.slot_bool_eq hT F.entry_int_eq (F.args_int_eq_2 _ _) (int_eq_insB b l _ _) ⟨at_, rfl, q⟩)
    | true => exact wpAny_tryCompare_declines (T := "bool") hT F.slot_bool_ne (call_meets F.slot_bool_ne hT F.entry_int_ne (F.args_int_ne_2 _ _) (int_ne_insB b l _ _) ⟨at_, rfl, q⟩)
  | int i =>
    cases ht
    obtain ⟨tk, rfl⟩ := rx
    have hT : s.TypeIs (Value.int i tk) "int" := typeIs_int s i tk
    refine ⟨hT, fun Q q => ?_⟩
    cases neg with
    | false => exact wpAny_tryCompare_declines (T := "int") hT F.slot_int_eq (call_meets F.slot_int_eq hT F.entry_int_eq (F.args_int_eq_2 _ _) (int_eq_ins i tk l _ _) ⟨at_, rfl, q⟩)
    | true => exact wpAny_tryCompare_declines (T := "int") hT F.slot_int_ne (call_meets F.slot_int_ne hT F.entry_int_ne (F.args_int_ne_2 _ _) (int_ne_ins i tk l _ _) ⟨at_, rfl, q⟩)
  | str z hz =>
    cases ht
    obtain ⟨tk, rfl⟩ := rx
    have hT : s.TypeIs (Value.str z tk) "str" := typeIs_str s z tk
    refine ⟨hT, fun Q q => ?_⟩
    cases neg with
    | false => exact wpAny_tryCompare_declines (T := "str") hT F.slot_str_eq (call_meets F.slot_str_eq hT F.entry_str_eq (F.args_str_eq_2 _ _) (str_eq_ins z tk l _ _) ⟨at_, rfl, q⟩)
    | true => exact wpAny_tryCompare_declines (T := "str") hT F.slot_str_ne (call_meets F.slot_str_ne hT F.entry_str_ne (F.args_str_ne_2 _ _) (str_ne_ins z tk l _ _) ⟨at_, rfl, q⟩)
  | tup hz hs =>
    cases ht
    cases rx
    obtain ⟨its, _, tt, _⟩ := I.tuple (hK ▸ SqT.mono r.z hz)
    refine ⟨tt.typeIs, fun Q q => ?_⟩
    cases neg with
    | false => exact wpAny_tryCompare_declines tt.typeIs F.slot_tuple_eq (tup_eq_ins tt (is 5 rfl) ⟨rfl, q⟩)
    | true => exact wpAny_tryCompare_declines tt.typeIs F.slot_tuple_ne (tup_ne_ins tt (is 5 rfl) ⟨rfl, q⟩)
  | lst hz hs => cases ht; cases rx; exact lst _ _ (r.z _ _ hz)
  | dk hz h1 h2 d => cases ht; cases rx; exact dct _ _ (r.z _ _ hz) (dctL_cls d)
  | dt hz h1 h2 d => cases ht; cases rx; exact dct _ _ (r.z _ _ hz) (dct_cls d)
  | ins h1 h2 h3 =>
    have e := Option.some.inj ht
    have := Nat.le_of_ble_eq_true hb
    omega
  | @obj d m p hl =>
    unfold tagOf at ht
    cases e0 : look hh d m with
    | none => simp only [e0] at ht; cases ht
    | some ob =>
      obtain ⟨p', h1, _, ro⟩ := obj_at r (.obj hl) e0
      cases h1
      cases rx
      cases ob with
      | lst xs =>
        simp only [e0] at ht
        cases ht
        obtain ⟨ys, hp, _⟩ := ro.lst'
        exact lst p ys hp
      | ins c' fs =>
        simp only [e0] at ht
        have e := Option.some.inj ht
        have := Nat.le_of_ble_eq_true hb
        omega
      | dct tt ks vs =>
        simp only [e0] at ht
        cases ht
        cases tt with
        | true =>
          obtain ⟨ys, us, o, hp, _, _, d⟩ := ro.dt'
          exact dct p o hp (dct_cls d)
        | false =>
          obtain ⟨kvs, o, hp, _, _, d⟩ := ro.dk'
          exact dct p o hp (dctL_cls d)
  | cls c => cases ht
  | ty m _ => cases ht
  | fn f => cases ht
  | scr a => cases ht
/-- as opOwn; own instances on the right, too -/
def opOwn2 (all : List Nat) (fs : Nat → Option (List Nat × LF)) (neg : Bool) : P2 := fun h a b => match insOf h a with
  | some _ => opOwn all fs neg h a b
  | none => (match insOf h b with
    | none => opOwn all fs neg h a b
    | some c => (match fs c with
      | some (_, f) => (match tagOf h a with
        | some t => (match Nat.ble t 6 with
          | true => negB neg (f [b, a] h)
          | false => none)
        | none => none)
      | none => none))
def NotBs (g : Pg) (fs : Nat → Option (List Nat × LF)) : Prop := ∀ c subs f, fs c = some (subs, f) → NotB g c
theorem op_own2 {all : List Nat} {it : IsiT} {fs : Nat → Option (List Nat × LF)} {op : CmpOp} {neg : Bool} (hop : (cmpInfo op).2.1 = (if neg then "__ne__" else "__eq__" : String) ∧ (cmpInfo op).2.2 = (if neg then "__ne__" else "__eq__" : String)) (hcmp : ∀ a b, compareOp op a b = richCompare op a b) (hd : OpR X (compareOp op) (rL g (opEq neg)))
    (hK : X.K = g.K) (T : IsiOk g all it) (Fs : EqFs X g n all fs) (Nb : NotBs g fs) (hr : Room (n + 1) X.A) : OpR X (compareOp op) (rL g (opOwn2 all fs neg)) := by
  intro pins s σ H x y v u Q I rx ry ⟨ω, hh, a, b, r, ra, rb, o⟩
  have old : okO g ω (opOwn all fs neg hh a b) Q → wpAny (model X.prog X.w) X.A (compareOp op v u) (EP X pins σ Q) X.xe s := fun o => op_own hop hcmp hd hK T Fs hr pins s σ H x y v u Q I rx ry ⟨ω, hh, a, b, r, ra, rb, o⟩
  unfold opOwn2 at o
  cases e1 : insOf hh a with
  | some c => simp only [e1] at o; exact old o
  | none =>
    cases e2 : insOf hh b with
    | none => simp only [e1, e2] at o; exact old o
    | some c =>
      cases e3 : fs c with
      | none => simp only [e1, e2, e3] at o; exact o.elim
      | some sf =>
        obtain ⟨subs, lf⟩ := sf
        cases e4 : tagOf hh a with
        | none => simp only [e1, e2, e3, e4] at o; exact o.elim
        | some t =>
          cases e5 : Nat.ble t 6 with
          | false => simp only [e1, e2, e3, e4, e5] at o; exact o.elim
          | true =>
            simp only [e1, e2, e3, e4, e5] at o
            obtain ⟨f, fd, ps, E1, F1, hn1, hb1⟩ := Fs c subs lf e3
            obtain ⟨p, dx, gs, rfl, hH⟩ := insOf_at r rb e2
            cases ry
            obtain ⟨od, J⟩ := inst_ne I hH
            obtain ⟨hT, decl⟩ := decl_at (op := op) hop.1 hK (Nb c subs lf e3) I r ra rx hH e4 e5
            rw [hcmp]
            exact cmp_ref (K := g.K) hr.units0 hT J.type (hK ▸ I.kIn) ((Nb c subs lf e3).sub t e5) decl (by rw [hop.2]; exact try_own (op := op) hop hK E1 F1 hn1 hb1 hr I.ok.frames I r rb ra rx hH o)
end
end Li

namespace Li
open PySem PySem.Spec PyProof.Rows L2
open PySem.AutoSeq1 (wpAny_loadPart')
theorem int_eq_dct (b : Int) (u : Tok) (l : Addr) (es : Array DictEntry) (ep : Nat) (dd : Option Addr) (sl : Array (Option Value)) : Meets (Builtin.«int.__eq__» ⟨[.int b u, .ref l], []⟩) (fun _ R s => s.heap.get? l = some { cls := .type "dict", dict := dd, data := .dict es ep, slots := sl } ∧ R (.ok (.ret .notImplemented)) s) :=
  .of_wp fun prog w A R s h => by obtain ⟨hp, g, d, tk, os⟩ := s; obtain ⟨hl, h⟩ := h; wp_walk using wpAny_loadPart' hl, wpAny_load hl; exact ⟨_, rfl, h⟩
theorem str_eq_dct (b : Str) (u : Tok) (l : Addr) (es : Array DictEntry) (ep : Nat) (dd : Option Addr) (sl : Array (Option Value)) : Meets (Builtin.«str.__eq__» ⟨[.str b u, .ref l], []⟩) (fun _ R s => s.heap.get? l = some { cls := .type "dict", dict := dd, data := .dict es ep, slots := sl } ∧ R (.ok (.ret .notImplemented)) s) :=
  .of_wp fun prog w A R s h => by obtain ⟨hp, g, d, tk, os⟩ := s; obtain ⟨hl, h⟩ := h; wp_walk using wpAny_loadPart' hl, wpAny_load hl; exact ⟨_, rfl, h⟩
section
variable {prog : Program} {w : World} {A : Around} {E : Value → Shared → Prop} {s : Shared}
/-- dict == anything that is none -/
theorem dct_eq_oth {a : Addr} {v : Value} {T : String} {Q : Value → Shared → Prop} (ht : s.TypeIs (.ref a) "dict") (hv : s.TypeIs v T) (hs : isSubtype (.type T) (.type "dict") = pure false) (q : Q .notImplemented s) :
    wpAny (model prog w) A (call (.builtin "dict.__eq__") [.ref a, v]) Q E s := by
  refine wpAny_call_entry F.slot_dict_eq ht F.entry_dict_eq ?_ (F.args_dict_eq_2 _ _)
  show wpAny _ _ (Builtin.Dict.dictSlotArgs "__eq__" ⟨[.ref a, v], []⟩ >>= _) _ _ s
  refine wpAny_bind ?_
  unfold Builtin.Dict.dictSlotArgs
  refine wpAny_bind (wpAny_notOrdered_dict ht ?_)
  show wpAny _ _ (pure (Value.ref a, v)) _ _ s
  refine wpAny_pure ?_
  refine wpAny_bind (wpAny_isInstance (T := T) (b := false) hv hs ?_)
  simp only [Bool.not_false, if_true]
  exact wpAny_bind (wpAny_rule (wpAny_pure ⟨_, rfl, q⟩))
theorem tup_eq_oth {a : Addr} {items : Array Value} {v : Value} {T : String} {Q : Value → Shared → Prop} (ht : s.heap.IsTuple a items) (hv : s.TypeIs v T) (hs : isSubtype (.type T) (.type "tuple") = pure false) (q : Q .notImplemented s) :
    wpAny (model prog w) A (call (.builtin "tuple.__eq__") [.ref a, v]) Q E s := by
  refine wpAny_call_entry F.slot_tuple_eq ht.typeIs F.entry_tuple_eq ?_ (F.args_tuple_eq_2 _ _)
  show wpAny _ _ (slotArgs "__eq__" 1 ⟨[.ref a, v], []⟩ >>= _) _ _ s
  refine wpAny_bind (wpAny_of_eq (a := (.ref a, [v])) rfl ?_)
  refine wpAny_bind (wpAny_isInstance (T := T) (b := false) hv hs ?_)
  exact wpAny_pure ⟨_, rfl, q⟩
theorem lst_eq_oth {a : Addr} {items : Array Value} {v : Value} {T : String} {Q : Value → Shared → Prop} (ht : s.heap.IsList a items) (hv : s.TypeIs v T) (hs : isSubtype (.type T) (.type "list") = pure false) (q : Q .notImplemented s) :
    wpAny (model prog w) A (call (.builtin "list.__eq__") [.ref a, v]) Q E s := by
  refine wpAny_call_entry F.slot_list_eq ht.typeIs F.entry_list_eq ?_ (F.args_list_eq_2 _ _)
  show wpAny _ _ (slotArgs "__eq__" 1 ⟨[.ref a, v], []⟩ >>= _) _ _ s
  refine wpAny_bind (wpAny_of_eq (a := (.ref a, [v])) rfl ?_)
  refine wpAny_bind (wpAny_isInstance (T := T) (b := false) hv hs ?_)
  exact wpAny_pure ⟨_, rfl, q⟩
end
end Li

namespace Li
open PySem PySem.Spec PyProof.Rows L2
section
variable {X : Cx} {g : Pg} {E : EX} {elt tg iter : Expr} {ifs : List Expr} {scope : Scope} {own : List (Str × Nat)} {pos : Pos} {li : LI} {gt : TG} {t : LG} {lc' : LT} {le : LE}
def lcM (m : Bool) (it : LI) (vs : List Nat) (t : LG) (c : LT) (e : LE) : LE := match m with
  | true => lcH it vs t c e
  | false => lcF it vs t c e
theorem lc_weak {vs : List Nat} (hv : Gv g vs gt t) (m : Bool) {σ : L2.St} {H : Hp} {Q : VK} (h : tE g E (lcM m li vs t lc' le) σ H Q) : tLc (tI g E li) gt (tT g E0x lc') (tE g E0x le) vs σ H Q := by
  obtain ⟨ω, env, h, s, r, o⟩ := h
  cases m with
  | false => exact tL.step (R := RIt g) (R' := RV g) (f := fun env s h1 => match compS t lc' le (wipeE env vs) s h1 with
      | .ok ys h2 => .ok (Val.lst ys) h2
      | _ => .err) s r o fun ω1 a J h1 H1 s1 r1 ra l1 o1 D hD => lc_tree hv s1 r1 ra hD (okC_F o1)
  | true => exact tL.step (R := RIt g) (R' := RV g) (f := fun env s h1 => match compS t lc' le (wipeE env vs) s h1 with
      | .ok ys h2 => ofO (pushL ys h2)
      | _ => .err) s r o fun ω1 a J h1 H1 s1 r1 ra l1 o1 D hD => lc_tree hv s1 r1 ra hD (okC_H o1)
theorem s_setLc {i : Nat} {y : Str} {py spos : Pos} (m : Bool) (hc : X.calm = true) (hN : X.N.Nodup) (hy : X.N[i]? = some y) (hyl : X.env.scope.names.lookup y = some .local)
    (hi : PI X tg iter (tI g E li)) (ok : BlkOk X.N X.env.scope scope own)
    (hg : ∀ (s : Shared) (H : Hp) (C : Addr) (cl : List (Str × Addr)) (fp : List Addr), PG (X.blk s H scope (compEnvC scope cl C X.env) fp) tg gt) (hv : Gv g (own.map (·.2)) gt t)
    (ht : ∀ (s : Shared) (H : Hp) (C : Addr) (cl : List (Str × Addr)) (fp : List Addr), PTs (X.blk s H scope (compEnvC scope cl C X.env) fp) ifs (tT g E0x lc'))
    (he : ∀ (s : Shared) (H : Hp) (C : Addr) (cl : List (Str × Addr)) (fp : List Addr), PE (X.blk s H scope (compEnvC scope cl C X.env) fp) elt (tE g E0x le))
    (hsw : swapsWith (.ListComp elt [⟨tg, iter, ifs, 0⟩] scope pos) (some (.Name y py)) spos.line X.env = pure true := by rfl) (hs : ∀ x, foldedSetIterable iter X.env x = pure x := by intro _; rfl) :
    PS X (.Assign [.Name y py] (.ListComp elt [⟨tg, iter, ifs, 0⟩] scope pos) spos) (tS g E (lset i (lcM m li (own.map (·.2)) t lc' le))) :=
  (ps_setLc hc hN hy hyl hsw hi ok hg ht he hs).weak fun D σ H ⟨ω, env, h, s, r, o⟩ => lc_weak hv m (tL.stepS (f := fun env v h1 => .nx (env.set i (some v)) h1) s r o fun ω1 v u h1 H1 s1 r1 rv l1 o1 => o1 ω1 _ H1 .rfl' r1 (s1.set rv i))
end
end Li

namespace Li
open PySem PySem.Spec PyProof.Rows L2
theorem bsame_refl (b : Bool) : bsame b b = true := by cases b <;> rfl
theorem natsEq_refl (a : List Nat) : natsEq a a = true := by rw [natsEq_eq]; exact decide_eq_true rfl
mutual
theorem vsame_refl : ∀ (a : Val), vsame a a = true
  | .non => rfl
  | .bl b => bsame_refl b
  | .int i => decide_eq_true rfl
  | .str s => natsEq_refl s
  | .tup xs => vsames_refl xs
  | .lst xs => vsames_refl xs
  | .ins c fs => by
    show (match Nat.beq c c with | true => vsames fs fs | false => false) = true
    rw [Nat.beq_refl]
    exact vsames_refl fs
  | .dct t ks vs => by
    show (match bsame t t with
      | true => (match vsames ks ks with
        | true => vsames vs vs
        | false => false)
      | false => false) = true
    rw [bsame_refl, vsames_refl ks]
    exact vsames_refl vs
  | .obj d n => by
    show (match Nat.beq d d with | true => Nat.beq n n | false => false) = true
    rw [Nat.beq_refl]
    exact Nat.beq_refl n
  | .cls c => Nat.beq_refl c
  | .ty c => Nat.beq_refl c
  | .fn c => Nat.beq_refl c
theorem vsames_refl : ∀ (a : List Val), vsames a a = true
  | [] => rfl
  | x :: xs => by
    show (match vsame x x with | true => vsames xs xs | false => false) = true
    rw [vsame_refl x]
    exact vsames_refl xs
end
theorem fsame_refl : ∀ (a : List (Option Val)), fsame a a = true
  | [] => rfl
  | none :: xs => fsame_refl xs
  | some x :: xs => by
    show (match vsame x x with | true => fsame xs xs | false => false) = true
    rw [vsame_refl x]
    exact fsame_refl xs
theorem osame_refl (a : LObj) : osame a a = true := by
  cases a with
  | lst xs => exact vsames_refl xs
  | ins c fs =>
    show (match Nat.beq c c with | true => fsame fs fs | false => false) = true
    rw [Nat.beq_refl]
    exact fsame_refl fs
  | dct t ks vs =>
    show (match bsame t t with
      | true => (match vsames ks ks with
        | true => vsames vs vs
        | false => false)
      | false => false) = true
    rw [bsame_refl, vsames_refl ks]
    exact vsames_refl vs
theorem listSame_refl {α : Type} {f : α → α → Bool} (hf : ∀ x, f x x = true) : ∀ a : List α, listSame f a a = true
  | [] => rfl
  | x :: xs => by
    show (match f x x with | true => listSame f xs xs | false => false) = true
    rw [hf]
    exact listSame_refl hf xs
theorem heapSame_refl (h : LHeap) : heapSame h h = true := listSame_refl (fun x => listSame_refl osame_refl x) h
end Li

namespace Li
open PySem PySem.Spec PyProof.Rows L2

/-- nothing that can be frozen -/
def hole : LObj := .ins 0 [none]
def frzIs (f : Val → Option Val) : List (Option Val) → Option (List (Option Val))
  | [] => some []
  | none :: xs => match frzIs f xs with
    | none => none
    | some ys => some (none :: ys)
  | some x :: xs => match f x with
    | none => none
    | some y => match frzIs f xs with
      | none => none
      | some ys => some (some y :: ys)
def frzO (f : Val → Option Val) : LObj → Option LObj
  | .lst xs => (mapO f xs).map .lst
  | .ins c fs => (frzIs f fs).map (.ins c)
  | .dct t ks vs => (mapO f vs).map (.dct t ks)
def outOf (as : List Addr) (p : Addr) : List Addr := as.filter fun a => !decide (a = p)
theorem mem_outOf {as : List Addr} {p a : Addr} : a ∈ outOf as p ↔ a ∈ as ∧ a ≠ p := by
  unfold outOf
  rw [List.mem_filter]
  simp

section
variable {g : Pg} {Z H : Hp} {r : List (List Addr)} {h : LHeap} {as : List Addr} {os : List LObj} {y : List (Addr × HO)}
theorem frz_zM (x : HRel g ⟨Z, as :: r, y⟩ (os :: h) H) (p : Addr) : ∀ a o, Z a = some o → frzZ (outOf as p) H Z a = some o := fun a o e => by
  unfold frzZ
  by_cases ha : a ∈ outOf as p
  · rw [if_pos ha]; exact x.z a o e
  · rw [if_neg ha]; exact e
theorem HRel.popM (x : HRel g ⟨Z, as :: r, y⟩ (os :: h) H) {p : Addr} {u : HO} (hp : p ∈ as) (hu : H p = some u) : HRel g ⟨frzZ (outOf as p) H Z, r, (p, u) :: y⟩ h H := by
  have nd := x.nd
  rw [show (⟨Z, as :: r, y⟩ : Wd).r.flatten = as ++ r.flatten from rfl, List.nodup_append] at nd
  obtain ⟨_, n2, n3⟩ := nd
  have hpf : p ∈ (⟨Z, as :: r, y⟩ : Wd).r.flatten := List.mem_append_left _ hp
  refine ⟨fun a o e => ?_, n2, fun a ha => ?_, ?_, fun q hq => ?_, ?_⟩
  · have e' : (if a ∈ outOf as p then H a else Z a) = some o := e
    split at e'
    · exact e'
    · exact x.z a o e'
  · obtain ⟨h1, o, h2⟩ := x.fr a (by show a ∈ as ++ r.flatten; exact List.mem_append_right _ ha)
    refine ⟨?_, o, h2⟩
    show (if a ∈ outOf as p then H a else Z a) = none
    rw [if_neg fun z => n3 a (mem_outOf.mp z).1 a ha rfl]
    exact h1
  · cases x.hr with
    | cons f t => exact HR.keep (frz_zM x p) t fun _ _ => rfl
  · rcases List.mem_cons.mp hq with rfl | hq
    · refine ⟨hu, ?_, fun hm => n3 p hp p hm rfl⟩
      show (if p ∈ outOf as p then H p else Z p) = none
      rw [if_neg fun z => (mem_outOf.mp z).2 rfl]
      exact (x.fr p hpf).1
    · obtain ⟨g1, g2, g3⟩ := x.gh q hq
      have g3' : q.1 ∉ as ++ r.flatten := g3
      refine ⟨g1, ?_, fun hm => g3' (List.mem_append_right _ hm)⟩
      show (if q.1 ∈ outOf as p then H q.1 else Z q.1) = none
      rw [if_neg fun hm => g3' (List.mem_append_left _ (mem_outOf.mp hm).1)]
      exact g2
  · refine List.nodup_cons.mpr ⟨fun hm => ?_, x.gn⟩
    obtain ⟨q, hq, e⟩ := List.mem_map.mp hm
    exact (x.gh q hq).2.2 (by rw [e]; exact hpf)
theorem RV.frozenM (x : HRel g ⟨Z, as :: r, y⟩ (os :: h) H) {k : Nat} {p : Addr} (hk : as[k]? = some p) : ∀ (n : Nat) {v v' : Val} {u : V}, frz n (os.set k hole) r.length v = some v' → RV g ⟨Z, as :: r, y⟩ v u → RV g ⟨frzZ (outOf as p) H Z, r, y⟩ v' u := by
  intro n
  have zz := frz_zM x p
  have nd : as.Nodup := by
    have nd := x.nd
    rw [show (⟨Z, as :: r, y⟩ : Wd).r.flatten = as ++ r.flatten from rfl, List.nodup_append] at nd
    exact nd.1
  have key : ∀ {ks : List Val} {ys : List V}, RVs g ⟨Z, as :: r, y⟩ ks ys → belows r.length ks = true → RVs g ⟨frzZ (outOf as p) H Z, r, y⟩ ks ys := fun rv b => RVs.restrict (ω' := ⟨frzZ (outOf as p) H Z, r, y⟩) zz (fun d n a hd q => by
    have q' : Li.look (as :: r) d n = some a := q
    rw [look_cons, if_neg (Nat.ne_of_lt hd)] at q'
    exact q') rv b
  induction n with
  | zero => intro v v' u e; cases e
  | succ n ih =>
    intro v v' u e rv
    cases rv with
    | tup a b =>
      obtain ⟨xs', e1, rfl⟩ := Option.map_eq_some_iff.mp (show (mapO (frz n (os.set k hole) r.length) _).map Val.tup = some v' from e)
      exact .tup (SqT.mono zz a) (mapO_RVs (fun _ _ _ => ih) e1 b)
    | lst a b =>
      obtain ⟨xs', e1, rfl⟩ := Option.map_eq_some_iff.mp (show (mapO (frz n (os.set k hole) r.length) _).map Val.lst = some v' from e)
      exact .lst (zz _ _ a) (mapO_RVs (fun _ _ _ => ih) e1 b)
    | ins a b c =>
      obtain ⟨xs', e1, rfl⟩ := Option.map_eq_some_iff.mp (show (mapO (frz n (os.set k hole) r.length) _).map (Val.ins _) = some v' from e)
      exact .ins (zz _ _ a) (mapO_RFs (fun _ _ _ => ih) e1 b) c
    | dk a b c d =>
      obtain ⟨xs', e1, rfl⟩ := Option.map_eq_some_iff.mp (show (mapO (frz n (os.set k hole) r.length) _).map (Val.dct false _) = some v' from e)
      exact .dk (zz _ _ a) (key b (keys_below b)) (mapO_RVs (fun _ _ _ => ih) e1 c) d
    | dt a b c d =>
      obtain ⟨xs', e1, rfl⟩ := Option.map_eq_some_iff.mp (show (mapO (frz n (os.set k hole) r.length) _).map (Val.dct true _) = some v' from e)
      exact .dt (zz _ _ a) (key b (tkey_below d.ok)) (mapO_RVs (fun _ _ _ => ih) e1 c) d
    | obj a =>
      rename_i d m q
      have a' : Li.look (as :: r) d m = some q := a
      unfold frz at e
      rw [look_cons] at a'
      by_cases hd : d = r.length
      · rw [if_pos hd] at a'
        simp only [if_pos hd] at e
        by_cases hm : m = k
        · subst hm
          have hlt : m < os.length := by
            have hl : os.length = as.length := by
              have := x.hr
              cases this with | cons f _ => exact Li.Paired.len' f
            rw [hl]; exact (List.getElem?_eq_some_iff.mp hk).1
          rw [List.getElem?_set_self hlt] at e
          cases e
        · rw [List.getElem?_set_ne (Ne.symm hm)] at e
          have hqp : q ≠ p := fun z => by
            subst z
            obtain ⟨l1, e1⟩ := List.getElem?_eq_some_iff.mp a'
            obtain ⟨l2, e2⟩ := List.getElem?_eq_some_iff.mp hk
            exact hm ((List.getElem_inj nd).mp (e1.trans e2.symm))
          have hq : q ∈ outOf as p := mem_outOf.mpr ⟨List.mem_of_getElem? a', hqp⟩
          have hz : frzZ (outOf as p) H Z q = H q := if_pos hq
          cases eo : os[m]? with
          | none => rw [eo] at e; cases e
          | some o =>
            rw [eo] at e
            obtain ⟨f, t⟩ : FR g ⟨Z, as :: r, []⟩ H os as ∧ HR g Z H h r := by
              have := x.hr
              cases this with | cons a b => exact ⟨a, b⟩
            obtain ⟨p', e1, ro0⟩ := Paired.get f eo
            have ro : RO g ⟨Z, as :: r, y⟩ o p' (H p') := ro0.gx
            rw [a'] at e1; cases e1
            cases o with
            | lst xs =>
              obtain ⟨xs', e2, rfl⟩ := Option.map_eq_some_iff.mp (show (mapO (frz n (os.set k hole) r.length) _).map Val.lst = some v' from e)
              generalize hH : H q = hp' at ro
              cases ro with
              | lst rvs => exact .lst (hz.trans hH) (mapO_RVs (fun _ _ _ => ih) e2 rvs)
            | dct t ks vs =>
              obtain ⟨xs', e2, rfl⟩ := Option.map_eq_some_iff.mp (show (mapO (frz n (os.set k hole) r.length) _).map (Val.dct t ks) = some v' from e)
              generalize hH : H q = hp' at ro
              cases ro with
              | dk b c d => exact .dk (hz.trans hH) (key b (keys_below b)) (mapO_RVs (fun _ _ _ => ih) e2 c) d
              | dt b c d => exact .dt (hz.trans hH) (key b (tkey_below d.ok)) (mapO_RVs (fun _ _ _ => ih) e2 c) d
            | ins c fs =>
              cases e3 : allS fs with
              | none => simp only [e3] at e; cases e
              | some xs =>
                simp only [e3] at e
                obtain ⟨xs', e2, rfl⟩ := Option.map_eq_some_iff.mp (show (mapO (frz n (os.set k hole) r.length) _).map (Val.ins c) = some v' from e)
                generalize hH : H q = hp' at ro
                cases ro with
                | ins rvs nm _ => exact .ins (hz.trans hH) (mapO_RFs (fun _ _ _ => ih) e2 (allS_RFs e3 rvs)) nm
      · rw [if_neg hd] at a'
        simp only [if_neg hd] at e
        cases e
        exact .obj a'
    | non => cases e; exact .non
    | bl b => cases e; exact .bl b
    | int i => cases e; exact .int i
    | str s h => cases e; exact .str s h
    | cls c => cases e; exact .cls c
    | ty n h => cases e; exact .ty n h
    | fn f => cases e; exact .fn f
    | scr a => cases e; exact .scr (SqL.mono zz a)
theorem frzIs_RIs {ω ω' : Wd} {f : Val → Option Val} (hf : ∀ v v' u, f v = some v' → RV g ω v u → RV g ω' v' u) : ∀ {ns : List Str} {xs xs' : List (Option Val)} {us : List (Str × V)}, frzIs f xs = some xs' → RIs g ω ns xs us → RIs g ω' ns xs' us
  | [], [], _, _, e, .nil => by
    cases e; exact .nil
  | _ :: _, some x :: xs, _, _, e, .set l a b => by
    unfold frzIs at e
    cases e1 : f x with
    | none => rw [e1] at e; cases e
    | some y =>
      rw [e1] at e
      cases e2 : frzIs f xs with
      | none => rw [e2] at e; cases e
      | some ys =>
        rw [e2] at e
        cases e
        exact .set l (hf _ _ _ e1 a) (frzIs_RIs hf e2 b)
  | _ :: _, none :: xs, _, _, e, .no b => by
    unfold frzIs at e
    cases e2 : frzIs f xs with
    | none => rw [e2] at e; cases e
    | some ys =>
      rw [e2] at e
      cases e
      exact .no (frzIs_RIs hf e2 b)
/-- the object that is handed on, without its frame -/
theorem RO.moved (x : HRel g ⟨Z, as :: r, y⟩ (os :: h) H) {k : Nat} {p : Addr} (hk : as[k]? = some p) {o o' : LObj} (eo : os[k]? = some o) (e : frzO (frz 64 (os.set k hole) r.length) o = some o') :
    ∃ u, H p = some u ∧ RO g ⟨frzZ (outOf as p) H Z, r, y⟩ o' p (some u) := by
  have zz := frz_zM x p
  have key : ∀ {ks : List Val} {ys : List V}, RVs g ⟨Z, as :: r, y⟩ ks ys → belows r.length ks = true → RVs g ⟨frzZ (outOf as p) H Z, r, y⟩ ks ys := fun rv b => RVs.restrict (ω' := ⟨frzZ (outOf as p) H Z, r, y⟩) zz (fun d n a hd q => by
    have q' : Li.look (as :: r) d n = some a := q
    rw [look_cons, if_neg (Nat.ne_of_lt hd)] at q'
    exact q') rv b
  obtain ⟨f, t⟩ : FR g ⟨Z, as :: r, []⟩ H os as ∧ HR g Z H h r := by
    have := x.hr
    cases this with | cons a b => exact ⟨a, b⟩
  obtain ⟨p', e1, ro0⟩ := Paired.get f eo
  rw [hk] at e1; cases e1
  have ro : RO g ⟨Z, as :: r, y⟩ o p (H p) := ro0.gx
  obtain ⟨_, u, hu⟩ := x.fr p (by show p ∈ as ++ r.flatten; exact List.mem_append_left _ (List.mem_of_getElem? hk))
  refine ⟨u, hu, ?_⟩
  rw [hu] at ro
  cases o with
  | lst xs =>
    obtain ⟨xs', e2, rfl⟩ := Option.map_eq_some_iff.mp (show (mapO _ xs).map LObj.lst = some o' from e)
    cases ro with
    | lst rvs => exact .lst (mapO_RVs (fun _ _ _ => RV.frozenM x hk 64) e2 rvs)
  | ins c fs =>
    obtain ⟨xs', e2, rfl⟩ := Option.map_eq_some_iff.mp (show (frzIs _ fs).map (LObj.ins c) = some o' from e)
    cases ro with
    | ins rvs nm ng => exact .ins (frzIs_RIs (fun _ _ _ => RV.frozenM x hk 64) e2 rvs) nm ng
  | dct t ks vs =>
    obtain ⟨xs', e2, rfl⟩ := Option.map_eq_some_iff.mp (show (mapO _ vs).map (LObj.dct t ks) = some o' from e)
    cases ro with
    | dk b c d => exact .dk (key b (keys_below b)) (mapO_RVs (fun _ _ _ => RV.frozenM x hk 64) e2 c) d
    | dt b c d => exact .dt (key b (tkey_below d.ok)) (mapO_RVs (fun _ _ _ => RV.frozenM x hk 64) e2 c) d
theorem WLe.popM {ω : Wd} {Z' : Hp} {p : Addr} (l : WLe ⟨ω.Z, [] :: ω.r, ω.x⟩ ⟨Z', as :: r, y⟩) (x : HRel g ⟨Z', as :: r, y⟩ (os :: h) H) : WLe ω ⟨frzZ (outOf as p) H Z', r, y⟩ := by
  have hlen : r.length = ω.r.length := by
    have := l.len
    simpa using this
  refine ⟨fun a o e => frz_zM x p a o (l.z a o e), hlen, fun d n a e => ?_, l.gh⟩
  have q : Li.look (as :: r) d n = some a := l.look d n a (look_push e [])
  rw [look_cons, if_neg (by have := look_lt e; omega)] at q
  exact q
end

/-- the promise: a new object, which no one knows yet -/
abbrev LFM := List Val → LHeap → Option (LObj × LHeap)
def okM (g : Pg) (ω : Wd) (o : Option (LObj × LHeap)) (Q : VK) : Prop := match o with
  | some (ob, h) => ∀ Z' r' p u H', WLe ω ⟨Z', r', ω.x⟩ → HRel g ⟨Z', r', (p, u) :: ω.x⟩ h H' → RO g ⟨Z', r', ω.x⟩ ob p (some u) → Q (.ref p) H'
  | none => False
def spM (g : Pg) (n : Nat) (f : LFM) : Sp := fun vs H Q _ => vs.length = n ∧ ∃ ω h as, RVs g ω as vs ∧ HRel g ω h H ∧ okM g ω (f as h) Q
def finM (r : SRes) : Option (LObj × LHeap) := match r with
  | .rt (.obj d n) (os :: h) => (match Nat.beq d h.length with
    | true => (match os[n]? with
      | some o => (match frzO (frz 64 (os.set n hole) h.length) o with
        | some o' => some (o', h)
        | none => none)
      | none => none)
    | false => none)
  | _ => none
def lfnM (n N : Nat) (b : LS) : LFM := fun as h => match as.length == n with
  | true => finM (b (env0 N n as) ([] :: h))
  | false => none
theorem finM_ok {g : Pg} {ω : Wd} {r : SRes} {Q : VK} (o : okM g ω (finM r) Q) : okS g ⟨ω.Z, [] :: ω.r, ω.x⟩ E0x { nx := fun _ H' => Q .non H', rt := Q } r := by
  cases r with
  | rt v h =>
    cases v with
    | obj d n =>
      cases h with
      | nil => exact o.elim
      | cons os h =>
        intro ω' u H' l x rv
        obtain ⟨Z', rr, y⟩ := ω'
        cases rr with
        | nil => have := HR.len x.hr; simp at this
        | cons as r =>
          have hl : h.length = r.length := by have := x.len; simpa using this
          unfold finM at o
          cases e1 : Nat.beq d h.length with
          | false => simp only [e1] at o; exact o.elim
          | true =>
            simp only [e1] at o
            have e1 := Nat.eq_of_beq_eq_true e1
            cases e2 : os[n]? with
            | none => simp only [e2] at o; exact o.elim
            | some ob =>
              simp only [e2] at o
              cases e3 : frzO (frz 64 (os.set n hole) h.length) ob with
              | none => simp only [e3] at o; exact o.elim
              | some ob' =>
                simp only [e3] at o
                cases rv with
                | @obj _ _ p hp =>
                  have hp' : Li.look (as :: r) d n = some p := hp
                  rw [look_cons, if_pos (e1.trans hl)] at hp'
                  rw [hl] at e3
                  obtain ⟨u, hu, ro⟩ := RO.moved x hp' e2 e3
                  have eg : y = ω.x := l.gh
                  subst eg
                  exact o _ _ p u H' (WLe.popM l x) (x.popM (List.mem_of_getElem? hp') hu) ro
    | _ => first | exact o.elim | (cases h <;> exact o.elim)
  | nx e h => exact o.elim
  | bk e h => exact o.elim
  | ct e h => exact o.elim
  | exc x e h => exact o.elim
  | err => exact o.elim
section
variable {P : Program} {w : World} {K : PySem.W.Frag} {mg : Str → Option Value} {base : Heap}
theorem fn_liteM {g : Pg} {x qual : Str} {params : Arguments} {body : List Stmt} {scope : Scope} {dvs : List V} {kws : List (Str × V)} {f : Addr} {fd : FuncData} {N ps : List Str} {k : Nat} {b : LS} (F : FunD K x qual params body scope dvs kws f fd) (S : FnScope N ps scope)
    (hbody : ∀ (cdv : Value) (A : Around) (outer : List PySem.Env) (s : Shared) (H : Hp) (E : XK), Room k (A.deeper (envOfC qual scope s.heap.objs.size f cdv)) → PSs (cxOf CX0 P w K mg base N qual scope f cdv A outer s H E).nox body (tS g E0x b)) :
    FnOk P w K mg base CX0 (k + 1) f fd ps (spM g ps.length (lfnM ps.length N.length b)) := by
  refine F.ok S (fun vs H Q E h => h.1) fun cdv A outer s H vs Q E hr h => ⟨tS g E0x b, (hbody cdv A outer s H E hr).nox, ?_⟩
  obtain ⟨hl, ω, h, as, rv, hr', o⟩ := h
  have hla : as.length = ps.length := rv.length.symm.trans hl
  unfold lfnM at o
  rw [show (as.length == ps.length) = true from beq_iff_eq.mpr hla] at o
  refine ⟨⟨ω.Z, [] :: ω.r, ω.x⟩, env0 N.length ps.length as, [] :: h, ?_, hr'.push, finM_ok o⟩
  have := start_rel (rv.mono (pushIn (Z := ω.Z) (r := ω.r) (y := ω.x) (z := ω.x) [])) N
  rw [hla] at this
  exact this
end
/-- the new object is laid in the frame at hand -/
def pushO (o : Option (LObj × LHeap)) : Option (Val × LHeap) := match o with
  | some (ob, os :: h) => some (.obj h.length os.length, (os ++ [ob]) :: h)
  | _ => none
theorem pushO_ok {g : Pg} {ω : Wd} {o : Option (LObj × LHeap)} {Q : VK} (h : okO g ω (pushO o) Q) : okM g ω o Q := by
  cases o with
  | none => exact h
  | some p =>
    obtain ⟨ob, hh⟩ := p
    cases hh with
    | nil => exact h.elim
    | cons os hh =>
      intro Z' r' p u H' l x ro
      cases r' with
      | nil => have := HR.len x.hr; simp at this
      | cons as r =>
        obtain ⟨h1, h2, h3⟩ := x.madeH ro
        have l2 : WLe ω ⟨Z', (as ++ [p]) :: r, ω.x⟩ := l.trans growLe
        exact h _ _ H' l2 h1 h3
def lcallM (f : LFM) (a : LA) : LE := fun env h => (a env h).bind fun vs h1 => ofO (pushO (f vs h1))
section
variable {X : Cx} {g : Pg} {E : EX} {k : Nat} {f : Addr} {fd : FuncData} {ps : List Str} {lf : LFM} {x : Str} {p pos apos : Pos} {e o : Expr} {es : List Expr} {la : LA} {lo : LE}
def TakesM (n : Nat) (f : LFM) : Prop := ∀ as h, as.length ≠ n → f as h = none
theorem lfnM_takes {n N : Nat} {b : LS} : TakesM n (lfnM n N b) := fun as h ne => by
  unfold lfnM
  rw [show (as.length == n) = false from beq_eq_false_iff_ne.mpr ne]
theorem spM_of {σ : L2.St} {ω : Wd} {h : LHeap} {as : List Val} {vs : List V} {H : Hp} {Q : VK} {XE : XK} {n : Nat} (hn : TakesM n lf) (r : RVs g ω as vs) (x : HRel g ω h H) (o : okR g (RV g) ω σ E (ofO (pushO (lf as h))) Q) : spM g n lf vs H Q XE := by
  refine ⟨r.length.trans ?_, ω, h, as, r, x, pushO_ok (.of o)⟩
  by_cases q : as.length = n
  · exact q
  · rw [hn as h q] at o; exact o.elim
theorem e_callM {n : Nat} (F : FnOk X.prog X.w X.K X.mg X.base CX0 k f fd ps (spM g n lf)) (hn : TakesM n lf) (hr : Room k X.A) (hg : Gl X x) (hm : X.mg x = some (.ref f)) (hk : PySem.W.keepIn X.K (.ref f) = true) (hb : Binds X.K fd ps [])
    (ha : PA X (e :: es) (tA g E la)) (hdb : (x == ("__debug__" : Str)) = false := by decide) (he : starEach (e :: es) X.env = (false, eval e X.env) :: starEach es X.env := by rfl) (hpl : (backTo pos (starEach es X.env)).any (·.1) = false := by rfl) :
    PE X (.Call (.Name x p) (e :: es) [] pos) (tE g E (lcallM lf la)) :=
  (pe_call F hr hg hm hk hb .nil pass0 ha hdb he hpl).weak fun σ H Q ⟨ω, env, h, s, r, o⟩ => tL.step (f := fun _ vs h1 => ofO (pushO (lf vs h1))) s r o fun ω1 a vs h1 H1 s1 r1 ra l1 o1 => by
    rw [List.append_nil]
    exact spM_of hn ra r1 o1
theorem e_callM0 {n : Nat} (F : FnOk X.prog X.w X.K X.mg X.base CX0 k f fd ps (spM g n lf)) (hn : TakesM n lf) (hr : Room k X.A) (hg : Gl X x) (hm : X.mg x = some (.ref f)) (hk : PySem.W.keepIn X.K (.ref f) = true) (hb : Binds X.K fd ps [])
    (hdb : (x == ("__debug__" : Str)) = false := by decide) : PE X (.Call (.Name x p) [] [] pos) (tE g E (lcallM lf anil)) :=
  (pe_call0 F hr hg hm hk hb .nil pass0 hdb).weak fun σ H Q ⟨ω, env, h, s, r, o⟩ => spM_of (XE := E0) (as := []) hn .nil r o
end
end Li

namespace Li
open PySem PySem.Spec PyProof.Rows L2
open PySem.SeqAt (EqIn EqAt RcAt rcIn_lists rcIn_tuples rc_eq_decline_or wpAny_isSame_ref_other')
open PySem.W (KeqHitsIn keq_eqIn)

mutual
inductive DV (g : Pg) (H : Hp) : Val → V → Prop
  | non : DV g H .non .non
  | bl (b : Bool) : DV g H (.bl b) (.bl b)
  | int (i : Int) : DV g H (.int i) (.int i)
  | str (x : Str) : PyData.strOk x = true → DV g H (.str x.cps.toList) (.str x)
  | tup {xs : List Val} {a : Addr} {ys : List V} : SqT g.K H a ys → DVs g H xs ys → DV g H (.tup xs) (.ref a)
  | lst {xs : List Val} {a : Addr} {ys : List V} : H a = some (.lst ys) → DVs g H xs ys → DV g H (.lst xs) (.ref a)
  | dk {ω : Wd} {ks vs : List Val} {a : Addr} {kvs : List (Key × V)} {o : Obj} : H a = some (dctO a o) → RVs g ω ks (kvs.map fun p => kV p.1) → DVs g H vs (kvs.map (·.2)) → DL g a kvs o → DV g H (.dct false ks vs) (.ref a)
inductive DVs (g : Pg) (H : Hp) : List Val → List V → Prop
  | nil : DVs g H [] []
  | cons {x : Val} {y : V} {xs : List Val} {ys : List V} : DV g H x y → DVs g H xs ys → DVs g H (x :: xs) (y :: ys)
end
theorem DVs.length {g : Pg} {H : Hp} : ∀ {xs : List Val} {ys : List V}, DVs g H xs ys → ys.length = xs.length
  | _, _, .nil => rfl
  | _, _, .cons _ t => by simp [DVs.length t]
theorem DVs.get {g : Pg} {H : Hp} : ∀ {xs : List Val} {ys : List V} {i : Nat} {y : V}, DVs g H xs ys → ys[i]? = some y → ∃ x, xs[i]? = some x ∧ DV g H x y
  | _, _, _, _, .nil, e => by simp at e
  | _, _, 0, _, .cons r _, e => by simp at e; subst e; exact ⟨_, rfl, r⟩
  | _, _, i + 1, y, .cons _ t, e => by
    obtain ⟨u, h1, h2⟩ := DVs.get (i := i) (y := y) t (by simpa using e)
    exact ⟨u, by simpa using h1, h2⟩
/-- a value with the frames' lists and dicts written out: data -/
def rsv : Nat → LHeap → Val → Option Val
  | 0, _, _ => none
  | n + 1, h, v => match v with
    | .tup xs => (mapO (rsv n h) xs).map .tup
    | .lst xs => (mapO (rsv n h) xs).map .lst
    | .dct t ks vs => (match t with
      | false => (mapO (rsv n h) vs).map (.dct false ks)
      | true => none)
    | .obj d m => (match look h d m with
      | some (.lst xs) => (mapO (rsv n h) xs).map .lst
      | some (.dct t ks vs) => (match t with
        | false => (mapO (rsv n h) vs).map (.dct false ks)
        | true => none)
      | _ => none)
    | .non => some .non
    | .bl b => some (.bl b)
    | .int i => some (.int i)
    | .str s => some (.str s)
    | _ => none
theorem mapO_DVs {g : Pg} {ω : Wd} {H : Hp} {f : Val → Option Val} (hf : ∀ v v' u, f v = some v' → RV g ω v u → DV g H v' u) : ∀ {xs xs' : List Val} {us : List V}, mapO f xs = some xs' → RVs g ω xs us → DVs g H xs' us
  | [], _, [], e, .nil => by
    cases e; exact .nil
  | x :: xs, _, _ :: _, e, .cons a b => by
    unfold mapO at e
    cases e1 : f x with
    | none => rw [e1] at e; cases e
    | some y =>
      rw [e1] at e
      cases e2 : mapO f xs with
      | none => rw [e2] at e; cases e
      | some ys =>
        rw [e2] at e
        cases e
        exact .cons (hf _ _ _ e1 a) (mapO_DVs hf e2 b)
theorem rsv_ok {g : Pg} {ω : Wd} {h : LHeap} {H : Hp} (r : HRel g ω h H) : ∀ (n : Nat) {v v' : Val} {u : V}, rsv n h v = some v' → RV g ω v u → DV g H v' u := by
  intro n
  induction n with
  | zero => intro v v' u e; cases e
  | succ n ih =>
    intro v v' u e rv
    have sq : ∀ {a ys}, SqT g.K ω.Z a ys → SqT g.K H a ys := fun q => SqT.mono r.z q
    cases rv with
    | tup a b =>
      obtain ⟨xs', e1, rfl⟩ := Option.map_eq_some_iff.mp (show (mapO (rsv n h) _).map Val.tup = some v' from e)
      exact .tup (sq a) (mapO_DVs (fun _ _ _ => ih) e1 b)
    | lst a b =>
      obtain ⟨xs', e1, rfl⟩ := Option.map_eq_some_iff.mp (show (mapO (rsv n h) _).map Val.lst = some v' from e)
      exact .lst (r.z _ _ a) (mapO_DVs (fun _ _ _ => ih) e1 b)
    | dk a b c d =>
      obtain ⟨xs', e1, rfl⟩ := Option.map_eq_some_iff.mp (show (mapO (rsv n h) _).map (Val.dct false _) = some v' from e)
      exact .dk (r.z _ _ a) b (mapO_DVs (fun _ _ _ => ih) e1 c) d
    | dt a b c d => cases e
    | obj a =>
      rename_i d m p
      unfold rsv at e
      cases e0 : look h d m with
      | none => simp only [e0] at e; cases e
      | some ob =>
        simp only [e0] at e
        obtain ⟨p', hp, ro⟩ := r.look e0
        rw [a] at hp; cases hp
        cases ob with
        | lst xs =>
          obtain ⟨xs', e1, rfl⟩ := Option.map_eq_some_iff.mp (show (mapO (rsv n h) _).map Val.lst = some v' from e)
          obtain ⟨ys, hH, rs⟩ := ro.lst'
          exact .lst hH (mapO_DVs (fun _ _ _ => ih) e1 rs)
        | ins c fs => cases e
        | dct t ks vs =>
          cases t with
          | true => cases e
          | false =>
            obtain ⟨xs', e1, rfl⟩ := Option.map_eq_some_iff.mp (show (mapO (rsv n h) _).map (Val.dct false _) = some v' from e)
            obtain ⟨kvs, o, hH, b, c, d⟩ := ro.dk'
            exact .dk hH b (mapO_DVs (fun _ _ _ => ih) e1 c) d
    | ins a b c => cases e
    | non => cases e; exact .non
    | bl b => cases e; exact .bl b
    | int i => cases e; exact .int i
    | str s h => cases e; exact .str s h
    | cls c => cases e
    | ty n _ => cases e
    | fn f => cases e
    | scr a => cases e
/-- so deep at most -/
def deepB : Nat → Val → Bool
  | n, .tup xs => match n with
    | 0 => false
    | n + 1 => allB (deepB n) xs
  | n, .lst xs => match n with
    | 0 => false
    | n + 1 => allB (deepB n) xs
  | n, .dct _ _ vs => match n with
    | 0 => false
    | n + 1 => allB (deepB n) vs
  | _, _ => true

mutual
def veqd : Val → Val → Bool
  | .tup xs, b => match b with
    | .tup ys => veqds xs ys
    | _ => false
  | .lst xs, b => match b with
    | .lst ys => veqds xs ys
    | _ => false
  | .dct _ ks vs, b => match b with
    | .dct _ ks' vs' => (match Nat.beq ks.length ks'.length with
      | true => dsub vs ks ks' vs'
      | false => false)
    | _ => false
  | .non, b => veq .non b
  | .bl x, b => veq (.bl x) b
  | .int i, b => veq (.int i) b
  | .str s, b => veq (.str s) b
  | .ins _ _, _ => false
  | .obj _ _, _ => false
  | .cls _, _ => false
  | .ty _, _ => false
  | .fn _, _ => false
termination_by structural x => x
def veqds : List Val → List Val → Bool
  | [], ys => match ys with
    | [] => true
    | _ => false
  | x :: xs, ys => match ys with
    | y :: ys => (match veqd x y with
      | true => veqds xs ys
      | false => false)
    | [] => false
termination_by structural x => x
def dsub : List Val → List Val → List Val → List Val → Bool
  | [], _, _, _ => true
  | v :: vs, ks, ks', vs' => match ks with
    | k :: ks => (match dget ks' vs' k with
      | some v' => (match veqd v v' with
        | true => dsub vs ks ks' vs'
        | false => false)
      | none => false)
    | [] => true
termination_by structural x => x
end
theorem veqds_cons (x y : Val) (xs ys : List Val) : veqds (x :: xs) (y :: ys) = (veqd x y && veqds xs ys) := by
  show (match veqd x y with | true => veqds xs ys | false => false) = _
  cases veqd x y <;> rfl
theorem veqds_range : ∀ (xs ys : List Val), veqds xs ys = ((List.range (min xs.length ys.length)).all (fun j => match xs[j]?, ys[j]? with
    | some a, some b => veqd a b
    | _, _ => true) && (xs.length == ys.length))
  | [], [] => rfl
  | [], _ :: _ => rfl
  | _ :: _, [] => rfl
  | x :: xs, y :: ys => by
    rw [veqds_cons, veqds_range xs ys]
    have e : min (x :: xs).length (y :: ys).length = min xs.length ys.length + 1 := by simp <;> omega
    rw [e, List.range_succ_eq_map, List.all_cons, List.all_map]
    have e2 : ((x :: xs).length == (y :: ys).length) = (xs.length == ys.length) := by simp
    rw [e2, Bool.and_assoc]
    rfl
section
variable {A : Around} {s : Shared}
theorem int_eq_dctB (b : Bool) (l : Addr) (es : Array DictEntry) (ep : Nat) (dd : Option Addr) (sl : Array (Option Value)) : Meets (Builtin.«int.__eq__» ⟨[.bool b, .ref l], []⟩) (fun _ R s => s.heap.get? l = some { cls := .type "dict", dict := dd, data := .dict es ep, slots := sl } ∧ R (.ok (.ret .notImplemented)) s) :=
  .of_wp fun prog w A R s h => by obtain ⟨hp, g, d, tk, os⟩ := s; obtain ⟨hl, h⟩ := h; wp_walk using AutoSeq1.wpAny_loadPart' hl, wpAny_load hl; exact ⟨_, rfl, h⟩
/-- a dict's object -/
def IsD (s : Shared) (l : Addr) : Prop := ∃ es ep dd sl, s.heap.get? l = some { cls := .type "dict", dict := dd, data := .dict es ep, slots := sl }
theorem IsD.ty {l : Addr} (h : IsD s l) : s.TypeIs (.ref l) "dict" := let ⟨_, _, _, _, e⟩ := h; ⟨_, e, rfl⟩
theorem rc_none_dct {l : Addr} (h : IsD s l) (hu : A.units < cLine) : RcAt A s .none (.ref l) false := fun prog w E Q q =>
  rc_eq_decline_or (k := false) rfl h.ty (by decide) F.sub_dict_NoneType F.slot_NoneType_eq F.slot_dict_eq_refl
    (fun _ hq => call_gives F.slot_NoneType_eq rfl F.entry_NoneType_eq (F.args_NoneType_eq_2 _ _) (none_eq_ins l) hq)
    (fun _ hq => dct_eq_oth h.ty (T := "NoneType") rfl F.sub_NoneType_dict hq)
    (fun _ hq => wpAny_of_eq (rfl : isSame .none (.ref l) = pure false) hq) (.inr hu) q
theorem rc_dct_none {l : Addr} (h : IsD s l) (hu : A.units < cLine) : RcAt A s (.ref l) .none false := fun prog w E Q q =>
  rc_eq_decline_or (k := false) h.ty rfl (by decide) F.sub_NoneType_dict F.slot_dict_eq F.slot_NoneType_eq_refl
    (fun _ hq => dct_eq_oth h.ty (T := "NoneType") rfl F.sub_NoneType_dict hq)
    (fun _ hq => call_gives F.slot_NoneType_eq_refl rfl F.entry_NoneType_eq (F.args_NoneType_eq_2 _ _) (none_eq_ins l) hq)
    (fun _ hq => wpAny_of_eq (rfl : isSame (.ref l) .none = pure false) hq) (.inr hu) q
theorem rc_bool_dct {l : Addr} (b : Bool) (h : IsD s l) (hu : A.units < cLine) : RcAt A s (.bool b) (.ref l) false := fun prog w E Q q => by
  obtain ⟨es, ep, dd, sl, e⟩ := id h
  exact rc_eq_decline_or (k := false) rfl h.ty (by decide) F.sub_dict_bool F.slot_bool_eq F.slot_dict_eq_refl
    (fun _ hq => call_meets F.slot_bool_eq rfl F.entry_int_eq (F.args_int_eq_2 _ _) (int_eq_dctB b l es ep dd sl) ⟨e, hq⟩)
    (fun _ hq => dct_eq_oth h.ty (T := "bool") rfl F.sub_bool_dict hq)
    (fun _ hq => wpAny_of_eq (rfl : isSame (.bool b) (.ref l) = pure false) hq) (.inr hu) q
theorem rc_dct_bool {l : Addr} (b : Bool) (h : IsD s l) (hu : A.units < cLine) : RcAt A s (.ref l) (.bool b) false := fun prog w E Q q => by
  obtain ⟨es, ep, dd, sl, e⟩ := id h
  exact rc_eq_decline_or (k := false) h.ty rfl (by decide) F.sub_bool_dict F.slot_dict_eq F.slot_bool_eq_refl
    (fun _ hq => dct_eq_oth h.ty (T := "bool") rfl F.sub_bool_dict hq)
    (fun _ hq => call_meets F.slot_bool_eq_refl rfl F.entry_int_eq (F.args_int_eq_2 _ _) (int_eq_dctB b l es ep dd sl) ⟨e, hq⟩)
    (fun _ hq => wpAny_of_eq (rfl : isSame (.ref l) (.bool b) = pure false) hq) (.inr hu) q
theorem rc_int_dct {l : Addr} (i : Int) (t : Tok) (h : IsD s l) (hu : A.units < cLine) : RcAt A s (.int i t) (.ref l) false := fun prog w E Q q => by
  obtain ⟨es, ep, dd, sl, e⟩ := id h
  exact rc_eq_decline_or (k := false) (typeIs_int s i t) h.ty (by decide) F.sub_dict_int F.slot_int_eq F.slot_dict_eq_refl
    (fun _ hq => call_meets F.slot_int_eq (typeIs_int s i t) F.entry_int_eq (F.args_int_eq_2 _ _) (int_eq_dct i t l es ep dd sl) ⟨e, hq⟩)
    (fun _ hq => dct_eq_oth h.ty (typeIs_int s i t) F.sub_int_dict hq)
    (fun _ hq => wpAny_of_eq (rfl : isSame (.int i t) (.ref l) = pure false) hq) (.inr hu) q
theorem rc_dct_int {l : Addr} (i : Int) (t : Tok) (h : IsD s l) (hu : A.units < cLine) : RcAt A s (.ref l) (.int i t) false := fun prog w E Q q => by
  obtain ⟨es, ep, dd, sl, e⟩ := id h
  exact rc_eq_decline_or (k := false) h.ty (typeIs_int s i t) (by decide) F.sub_int_dict F.slot_dict_eq F.slot_int_eq_refl
    (fun _ hq => dct_eq_oth h.ty (typeIs_int s i t) F.sub_int_dict hq)
    (fun _ hq => call_meets F.slot_int_eq_refl (typeIs_int s i t) F.entry_int_eq (F.args_int_eq_2 _ _) (int_eq_dct i t l es ep dd sl) ⟨e, hq⟩)
    (fun _ hq => wpAny_of_eq (rfl : isSame (.ref l) (.int i t) = pure false) hq) (.inr hu) q
theorem rc_str_dct {l : Addr} (i : Str) (t : Tok) (h : IsD s l) (hu : A.units < cLine) : RcAt A s (.str i t) (.ref l) false := fun prog w E Q q => by
  obtain ⟨es, ep, dd, sl, e⟩ := id h
  exact rc_eq_decline_or (k := false) (typeIs_str s i t) h.ty (by decide) F.sub_dict_str F.slot_str_eq F.slot_dict_eq_refl
    (fun _ hq => call_meets F.slot_str_eq (typeIs_str s i t) F.entry_str_eq (F.args_str_eq_2 _ _) (str_eq_dct i t l es ep dd sl) ⟨e, hq⟩)
    (fun _ hq => dct_eq_oth h.ty (typeIs_str s i t) F.sub_str_dict hq)
    (fun _ hq => wpAny_of_eq (rfl : isSame (.str i t) (.ref l) = pure false) hq) (.inr hu) q
theorem rc_dct_str {l : Addr} (i : Str) (t : Tok) (h : IsD s l) (hu : A.units < cLine) : RcAt A s (.ref l) (.str i t) false := fun prog w E Q q => by
  obtain ⟨es, ep, dd, sl, e⟩ := id h
  exact rc_eq_decline_or (k := false) h.ty (typeIs_str s i t) (by decide) F.sub_str_dict F.slot_dict_eq F.slot_str_eq_refl
    (fun _ hq => dct_eq_oth h.ty (typeIs_str s i t) F.sub_str_dict hq)
    (fun _ hq => call_meets F.slot_str_eq_refl (typeIs_str s i t) F.entry_str_eq (F.args_str_eq_2 _ _) (str_eq_dct i t l es ep dd sl) ⟨e, hq⟩)
    (fun _ hq => wpAny_of_eq (rfl : isSame (.ref l) (.str i t) = pure false) hq) (.inr hu) q
theorem IsD.neT {l b : Addr} {items : Array Value} (h : IsD s l) (hb : s.heap.IsTuple b items) : l ≠ b := fun e => by
  subst e
  obtain ⟨es, ep, dd, sl, e⟩ := h
  obtain ⟨o2, ho2, hc2, _⟩ := hb
  rw [e] at ho2
  cases ho2
  exact absurd hc2 (by simp)
theorem IsD.neL {l b : Addr} {items : Array Value} (h : IsD s l) (hb : s.heap.IsList b items) : l ≠ b := fun e => by
  subst e
  obtain ⟨es, ep, dd, sl, e⟩ := h
  obtain ⟨o2, ho2, hc2, _⟩ := hb
  rw [e] at ho2
  cases ho2
  exact absurd hc2 (by simp)
theorem rc_dct_tup {l b : Addr} {items : Array Value} (h : IsD s l) (hb : s.heap.IsTuple b items) (hu : A.units < cLine) : RcAt A s (.ref l) (.ref b) false := fun prog w E Q q => by
  have hne := h.neT hb
  obtain ⟨es, ep, dd, sl, e⟩ := id h
  obtain ⟨o2, ho2, hc2, _⟩ := id hb
  exact rc_eq_decline_or (k := false) h.ty hb.typeIs (by decide) F.sub_tuple_dict F.slot_dict_eq F.slot_tuple_eq_refl
    (fun _ hq => dct_eq_oth h.ty hb.typeIs F.sub_tuple_dict hq)
    (fun _ hq => tup_eq_oth hb h.ty F.sub_dict_tuple hq)
    (fun _ hq => wpAny_isSame_ref_other hne e ho2 (by simp) hq) (.inr hu) q
theorem rc_tup_dct {l b : Addr} {items : Array Value} (h : IsD s l) (hb : s.heap.IsTuple b items) (hu : A.units < cLine) : RcAt A s (.ref b) (.ref l) false := fun prog w E Q q => by
  have hne := h.neT hb
  obtain ⟨es, ep, dd, sl, e⟩ := id h
  obtain ⟨o2, ho2, hc2, _⟩ := id hb
  exact rc_eq_decline_or (k := false) hb.typeIs h.ty (by decide) F.sub_dict_tuple F.slot_tuple_eq F.slot_dict_eq_refl
    (fun _ hq => tup_eq_oth hb h.ty F.sub_dict_tuple hq)
    (fun _ hq => dct_eq_oth h.ty hb.typeIs F.sub_tuple_dict hq)
    (fun _ hq => wpAny_isSame_ref_other' (Ne.symm hne) ho2 e (by simp) hq) (.inr hu) q
theorem rc_dct_lst {l b : Addr} {items : Array Value} (h : IsD s l) (hb : s.heap.IsList b items) (hu : A.units < cLine) : RcAt A s (.ref l) (.ref b) false := fun prog w E Q q => by
  have hne := h.neL hb
  obtain ⟨es, ep, dd, sl, e⟩ := id h
  obtain ⟨o2, ho2, hc2, _⟩ := id hb
  exact rc_eq_decline_or (k := false) h.ty hb.typeIs (by decide) F.sub_list_dict F.slot_dict_eq F.slot_list_eq_refl
    (fun _ hq => dct_eq_oth h.ty hb.typeIs F.sub_list_dict hq)
    (fun _ hq => lst_eq_oth hb h.ty F.sub_dict_list hq)
    (fun _ hq => wpAny_isSame_ref_other hne e ho2 (by simp) hq) (.inr hu) q
theorem rc_lst_dct {l b : Addr} {items : Array Value} (h : IsD s l) (hb : s.heap.IsList b items) (hu : A.units < cLine) : RcAt A s (.ref b) (.ref l) false := fun prog w E Q q => by
  have hne := h.neL hb
  obtain ⟨es, ep, dd, sl, e⟩ := id h
  obtain ⟨o2, ho2, hc2, _⟩ := id hb
  exact rc_eq_decline_or (k := false) hb.typeIs h.ty (by decide) F.sub_dict_list F.slot_list_eq F.slot_dict_eq_refl
    (fun _ hq => lst_eq_oth hb h.ty F.sub_dict_list hq)
    (fun _ hq => dct_eq_oth h.ty hb.typeIs F.sub_list_dict hq)
    (fun _ hq => wpAny_isSame_ref_other (Ne.symm hne) ho2 e (by simp [hc2]) hq) (.inr hu) q
end
end Li

namespace Li
open PySem PySem.Spec PyProof.Rows L2
open PySem.SeqAt (EqIn EqAt RcAt rcIn_lists rcIn_tuples rc_eq_decline_or)
open PySem.W (KeqHitsIn keq_eqIn)

/-- for one program and world: the comparison's answer -/
def RcIn (prog : Program) (w : World) (A : Around) (s : Shared) (y x : Value) (b : Bool) : Prop :=
  ∀ (E : Value → Shared → Prop) (Q : Value → Shared → Prop), Q (.bool b) s → wpAny (model prog w) A (richCompare .Eq y x) Q E s
theorem RcIn.of {prog : Program} {w : World} {A : Around} {s : Shared} {y x : Value} {b : Bool} (h : RcAt A s y x b) : RcIn prog w A s y x b := fun E Q q => h prog w E Q q
theorem dget_mem {x v : Val} : ∀ {ks vs : List Val}, dget ks vs x = some v → v ∈ vs
  | [], [], h => by cases h
  | [], _ :: _, h => by cases h
  | _ :: _, [], h => by cases h
  | k :: ks, w :: vs, h => by
    unfold dget at h
    split at h
    · cases h; exact List.mem_cons_self
    · exact List.mem_cons_of_mem _ (dget_mem h)
section
variable {X : Cx} {g : Pg} {pins : List (Addr × Obj)} {σ : L2.St} {H : Hp} {s : Shared}
theorem RV.key {ω ω' : Wd} {x : Val} {k : Key} (r : RV g ω x (kV k)) : RV g ω' x (kV k) := by
  cases k with
  | inl i =>
    generalize hx : kV (Sum.inl i) = u at r
    cases r with
    | int j => cases hx; exact .int _
    | _ => cases hx
  | inr z =>
    generalize hx : kV (Sum.inr z) = u at r
    cases r with
    | str z0 h => cases hx; exact .str _ h
    | _ => cases hx
theorem RV.key_inj {ω ω' : Wd} {x y : Val} {k : Key} (r : RV g ω x (kV k)) (q : RV g ω' y (kV k)) : x = y := by
  cases k with
  | inl i =>
    generalize hx : kV (Sum.inl i) = u at r q
    cases r with
    | int j =>
      cases hx
      generalize hy : V.int i = u at q
      cases q with
      | int j => cases hy; rfl
      | _ => cases hy
    | _ => cases hx
  | inr z =>
    generalize hx : kV (Sum.inr z) = u at r q
    cases r with
    | str z0 h =>
      cases hx
      generalize hy : V.str z = u at q
      cases q with
      | str j _ => cases hy; rfl
      | _ => cases hy
    | _ => cases hx
theorem RVs.keys_inj {ω ω' : Wd} : ∀ {kvs : List (Key × V)} {ks ks' : List Val}, RVs g ω ks (kvs.map fun p => kV p.1) → RVs g ω' ks' (kvs.map fun p => kV p.1) → ks = ks'
  | [], _, _, .nil, .nil => rfl
  | p :: kvs, _, _, .cons a b, .cons c d => by rw [a.key_inj c, RVs.keys_inj b d]
theorem dget_dv {ω ω0 : Wd} {x : Val} {k : Key} (rx : RV g ω0 x (kV k)) : ∀ {kvs : List (Key × V)} {ks vs : List Val}, RVs g ω ks (kvs.map fun p => kV p.1) → DVs g H vs (kvs.map (·.2)) →
    match dget ks vs x with
    | some v => ∃ u, valV kvs k = some u ∧ DV g H v u
    | none => valV kvs k = none
  | [], _, _, .nil, .nil => rfl
  | p :: kvs, _, _, .cons (x := k1) (xs := ks) r1 t1, .cons (x := v1) (xs := vs) r2 t2 => by
    unfold dget
    have h := veq_kV (ω := ω0) r1.key rx
    cases q : veq k1 x with
    | true =>
      rw [q] at h
      have h' : p.1 = k := of_decide_eq_true h.symm
      exact ⟨p.2, valV_pos h', r2⟩
    | false =>
      rw [q] at h
      have h' : ¬ p.1 = k := of_decide_eq_false h.symm
      have ih := dget_dv rx t1 t2
      dsimp only
      cases e : dget ks vs x with
      | some v =>
        rw [e] at ih
        obtain ⟨u, h1, h2⟩ := ih
        exact ⟨u, by rw [valV_neg h']; exact h1, h2⟩
      | none =>
        rw [e] at ih
        show valV (p :: kvs) k = none
        rw [valV_neg h']; exact ih
theorem isD_of (I : Inv X pins σ H s) {a : Addr} {kvs : List (Key × V)} {o : Obj} (hH : H a = some (dctO a o)) (d : DL g a kvs o) : IsD s a := by
  have e := dct_get I hH
  have hc := dctL_cls d
  obtain ⟨es, ep, _, hd, _, _⟩ := dl_vals (ω := ⟨fun _ => none, [], []⟩) d
  obtain ⟨oc, od, dt, sl⟩ := o
  simp only at hc hd
  subst hc hd
  exact ⟨es, ep, od, sl, e⟩
theorem lst_of (I : Inv X pins σ H s) {a : Addr} {us : List V} (hH : H a = some (.lst us)) : ∃ its, Vals us its ∧ s.heap.IsList a its.toArray := by
  obtain ⟨its, r, pl, _⟩ := I.list (SqL.of (K := X.K) hH)
  exact ⟨its, r, pl.isList⟩
theorem deep0 {P : Prop} {n : Nat} {f : Nat → Val → Bool} {xs : List Val} {m : Bool → Prop} (h : P) : P := h
theorem eqd_same (I : Inv X pins σ H s) (hK : X.K = g.K) : ∀ (n : Nat) {a b : Val} {x : V}, deepB n a = true → deepB n b = true → DV g H a x → DV g H b x → veqd a b = true := by
  intro n
  induction n with
  | zero =>
    intro a b x ha hb da db
    cases da with
    | non => cases db; rfl
    | bl k => cases db; show (k == k) = true; exact beq_self_eq_true _
    | int i => cases db; show decide (i = i) = true; exact decide_eq_true rfl
    | str z _ => cases db; exact natsEq_refl _
    | tup _ _ => exact absurd ha Bool.false_ne_true
    | lst _ _ => exact absurd ha Bool.false_ne_true
    | dk _ _ _ _ => exact absurd ha Bool.false_ne_true
  | succ n ih =>
    intro a b x ha hb da db
    have ihs : ∀ {xs ys : List Val} {us : List V}, allB (deepB n) xs = true → allB (deepB n) ys = true → DVs g H xs us → DVs g H ys us → veqds xs ys = true := by
      intro xs ys us h1 h2 d1 d2
      induction us generalizing xs ys with
      | nil => cases d1; cases d2; rfl
      | cons u us ihu =>
        cases d1 with
        | cons p q =>
          cases d2 with
          | cons p' q' =>
            rw [veqds_cons, ih (allB_cons.mp h1).1 (allB_cons.mp h2).1 p p', ihu (allB_cons.mp h1).2 (allB_cons.mp h2).2 q q']
            rfl
    cases da with
    | non => cases db; rfl
    | bl k => cases db; show (k == k) = true; exact beq_self_eq_true _
    | int i => cases db; show decide (i = i) = true; exact decide_eq_true rfl
    | str z _ => cases db; exact natsEq_refl _
    | tup h1 d1 =>
      cases db with
      | tup h2 d2 =>
        have e := I.tuple_inj (hK ▸ h1) (hK ▸ h2)
        subst e
        exact ihs ha hb d1 d2
      | lst h2 d2 =>
        obtain ⟨its, _, t, _⟩ := I.tuple (hK ▸ h1)
        obtain ⟨its', _, l⟩ := lst_of I h2
        exact absurd rfl (SeqAt.ne_of_list_tuple l t)
      | dk h2 _ _ d2 =>
        obtain ⟨its, _, t, _⟩ := I.tuple (hK ▸ h1)
        exact absurd rfl ((isD_of I h2 d2).neT t)
    | lst h1 d1 =>
      cases db with
      | tup h2 d2 =>
        obtain ⟨its, _, t, _⟩ := I.tuple (hK ▸ h2)
        obtain ⟨its', _, l⟩ := lst_of I h1
        exact absurd rfl (SeqAt.ne_of_list_tuple l t)
      | lst h2 d2 =>
        rw [h1] at h2
        cases h2
        exact ihs ha hb d1 d2
      | dk h2 _ _ d2 =>
        obtain ⟨its', _, l⟩ := lst_of I h1
        exact absurd rfl ((isD_of I h2 d2).neL l)
    | dk h1 k1 v1 d1 =>
      cases db with
      | tup h2 d2 =>
        obtain ⟨its, _, t, _⟩ := I.tuple (hK ▸ h2)
        exact absurd rfl ((isD_of I h1 d1).neT t)
      | lst h2 d2 =>
        obtain ⟨its', _, l⟩ := lst_of I h2
        exact absurd rfl ((isD_of I h1 d1).neL l)
      | @dk ω2 ks2 vs2 _ kvs2 o2 h2 k2 v2 d2 =>
        rename_i ω1 ks1 vs1 p kvs1 o1
        have e1 := dct_get I h1
        have e2 := dct_get I h2
        rw [e1] at e2
        cases e2
        obtain ⟨es, ep, _, hd, a1, a2⟩ := dl_vals (ω := ω1) d1
        obtain ⟨es', ep', _, hd', b1, b2⟩ := dl_vals (ω := ω1) d2
        rw [hd] at hd'
        cases hd'
        have q1 : ∀ {xs ys : List V} {vs : List Value}, Vals xs vs → Vals ys vs → xs = ys := by
          intro xs ys vs r
          induction r generalizing ys with
          | nil => intro q; cases q; rfl
          | cons a _ ihr => intro q; cases q with | cons c d => rw [RelV.inj a c, ihr d]
        have ek := q1 a1 b1
        have ev := q1 a2 b2
        have ekk : kvs1 = kvs2 := by
          clear a1 a2 b1 b2 d1 d2 k1 k2 v1 v2 h1 h2 ha hb
          induction kvs1 generalizing kvs2 with
          | nil => cases kvs2 with | nil => rfl | cons _ _ => cases ek
          | cons p kvs1 ihk =>
            cases kvs2 with
            | nil => cases ek
            | cons q kvs2 =>
              simp only [List.map_cons, List.cons.injEq] at ek ev
              rw [ihk ek.2 ev.2]
              obtain ⟨pk, pv⟩ := p
              obtain ⟨qk, qv⟩ := q
              have h1 : kV pk = kV qk := ek.1
              have h2 : pv = qv := ev.1
              subst h2
              have h3 : pk = qk := by
                cases pk <;> cases qk <;> first | (cases h1; done) | (cases h1; rfl)
              rw [h3]
        subst ekk
        have eks := k1.keys_inj k2
        subst eks
        show (match Nat.beq ks1.length ks1.length with
          | true => dsub vs1 ks1 ks1 vs2
          | false => false) = true
        rw [Nat.beq_refl]
        have nd := dl_nodup d1
        -- entry by entry
        have go : ∀ (sub : List (Key × V)) {ks vs : List Val}, (∀ q ∈ sub, valV kvs1 q.1 = some q.2) → RVs g ω1 ks (sub.map fun p => kV p.1) → DVs g H vs (sub.map (·.2)) → allB (deepB n) vs = true → dsub vs ks ks1 vs2 = true := by
          intro sub
          induction sub with
          | nil => intro ks vs _ rk rv _; cases rk; cases rv; rfl
          | cons q sub ihs2 =>
            intro ks vs hv rk rv hd2
            cases rk with
            | cons a1 a2 =>
              cases rv with
              | cons b1 b2 =>
                rename_i kx ksx vx vsx
                have hg := dget_dv (H := H) a1 k1 v2
                have hq := hv q List.mem_cons_self
                show (match dget ks1 vs2 kx with
                  | some v' => (match veqd vx v' with
                    | true => dsub vsx ksx ks1 vs2
                    | false => false)
                  | none => false) = true
                cases e : dget ks1 vs2 kx with
                | none => rw [e] at hg; rw [hq] at hg; cases hg
                | some v' =>
                  rw [e] at hg
                  obtain ⟨u, hu, dv⟩ := hg
                  rw [hq] at hu
                  cases hu
                  have hv' : deepB n v' = true := allB_iff.mp hb v' (dget_mem e)
                  dsimp only
                  rw [ih (allB_cons.mp hd2).1 hv' b1 dv]
                  exact ihs2 (fun z hz => hv z (List.mem_cons_of_mem _ hz)) a2 b2 (allB_cons.mp hd2).2
        refine go kvs1 (fun q hq => ?_) k1 v1 ha
        have all : ∀ (l : List (Key × V)), (l.map (·.1)).Nodup → q ∈ l → valV l q.1 = some q.2 := by
          intro l
          induction l with
          | nil => intro _ h; cases h
          | cons p l ihl =>
            intro nd h
            rw [List.map_cons] at nd
            obtain ⟨n1, n2⟩ := List.nodup_cons.mp nd
            rcases List.mem_cons.mp h with rfl | h
            · exact valV_pos rfl
            · have : ¬ p.1 = q.1 := fun e => n1 (by rw [e]; exact List.mem_map_of_mem h)
              rw [valV_neg this]
              exact ihl n2 h
        exact all kvs1 nd hq
theorem valAt_of {kvs : List (Key × V)} {vs : List (Key × Value)} (r : KV kvs vs) {k : Key} {u : V} (h : valV kvs k = some u) : ∃ y, PySem.valueAt vs k = some y ∧ RelV u y := by
  have := r.val k
  rw [h] at this
  cases e : PySem.valueAt vs k with
  | none => rw [e] at this; exact this.elim
  | some y => rw [e] at this; exact ⟨y, rfl, this⟩
theorem valAt_none {kvs : List (Key × V)} {vs : List (Key × Value)} (r : KV kvs vs) {k : Key} (h : valV kvs k = none) : PySem.valueAt vs k = none := by
  have := r.val k
  rw [h] at this
  cases e : PySem.valueAt vs k with
  | none => rfl
  | some y => rw [e] at this; exact this.elim
theorem EqIn.of_ne {prog : Program} {w : World} {A : Around} {s : Shared} {u v : Value} {b : Bool} (hf : ∀ z t, u ≠ .float z t) (hne : u ≠ v) (rc : RcIn prog w A s u v b) : EqIn prog w A s u v b := fun E Q h => by
  unfold eqBool
  refine wpAny_holding ?_
  refine wpAny_ite_split (fun hab => absurd (eq_of_beq hab) hne) (fun _ => ?_)
  cases u with
  | float z t => exact absurd rfl (hf z t)
  | _ => exact wpAny_bind (rc E _ (wpAny_truthy_bool h))
theorem DV.nofl {a : Val} {x : V} {u : Value} (d : DV g H a x) (r : RelV x u) : ∀ z t, u ≠ .float z t := fun z t e => by
  subst e
  cases d <;> first | (cases r; done) | (obtain ⟨_, r⟩ := r; cases r)
theorem eqd_in_of (I : Inv X pins σ H s) (hK : X.K = g.K) {n : Nat} {a b : Val} {x y : V} {u v : Value} (ha : deepB n a = true) (hb : deepB n b = true) (da : DV g H a x) (db : DV g H b y) (rx : RelV x u) (ry : RelV y v) {A : Around}
    (rc : RcIn X.prog X.w A s u v (veqd a b)) : EqIn X.prog X.w A s u v (veqd a b) := by
  by_cases huv : u = v
  · subst huv
    have e := RelV.inj rx ry
    subst e
    rw [eqd_same I hK n ha hb da db]
    exact (EqAt.same _).inModel _ _
  · exact EqIn.of_ne (da.nofl rx) huv rc
theorem veqd_str (a b : Str) : veqd (.str a.cps.toList) (.str b.cps.toList) = (a == b) := by
  show natsEq _ _ = _
  rw [natsEq_eq, ← SeqAt.str_beq]
  generalize a.cps.toList = l
  generalize b.cps.toList = m
  by_cases h : l = m <;> simp [h]
theorem DVs.items {xs : List Val} {us : List V} {its : List Value} (d : DVs g H xs us) (r : Vals us its) {j : Nat} (h : j < its.toArray.size) : ∃ x u, xs[j]? = some x ∧ DV g H x u ∧ RelV u its.toArray[j] := by
  have hl := r.length
  have h1 : j < its.length := by simpa using h
  obtain ⟨y, hy, ry⟩ := r.get (i := j) (x := us[j]'(by omega)) (List.getElem?_eq_getElem _)
  obtain ⟨x, hx, dx⟩ := d.get (i := j) (y := us[j]'(by omega)) (List.getElem?_eq_getElem _)
  refine ⟨x, _, hx, dx, ?_⟩
  have : y = its.toArray[j] := by
    rw [List.getElem?_eq_getElem h1] at hy
    have := Option.some.inj hy
    rw [← this] <;> simp
  rw [← this]; exact ry
def eqAtJ (xs ys : List Val) (j : Nat) : Bool := match xs[j]?, ys[j]? with
  | some a, some b => veqd a b
  | _, _ => true
theorem veqds_J (xs ys : List Val) : veqds xs ys = ((List.range (min xs.length ys.length)).all (eqAtJ xs ys) && (xs.length == ys.length)) := veqds_range xs ys
theorem eqAtJ_at {xs ys : List Val} {j : Nat} {a b : Val} (e1 : xs[j]? = some a) (e2 : ys[j]? = some b) : eqAtJ xs ys j = veqd a b := by
  unfold eqAtJ
  rw [e1, e2]
theorem rc_step (I : Inv X pins σ H s) (hP : X.prog = g.P) (hK : X.K = g.K) (hw : X.w = g.w) {n : Nat}
    (ih : ∀ m, m + 1 = n → ∀ {a b : Val} {x y : V} {u v : Value}, deepB m a = true → deepB m b = true → DV g H a x → DV g H b y → RelV x u → RelV y v → ∀ A : Around, A.units + m < cLine → EqIn X.prog X.w A s u v (veqd a b))
    {a b : Val} {x y : V} {u v : Value} (ha : deepB n a = true) (hb : deepB n b = true) (da : DV g H a x) (db : DV g H b y) (rx : RelV x u) (ry : RelV y v) {A : Around} (hu : A.units + n < cLine) : RcIn X.prog X.w A s u v (veqd a b) := by
  have hu0 : A.units < cLine := by omega
  cases da with
  | non =>
    cases rx
    cases db with
    | non => cases ry; exact .of .none_none
    | bl k => cases ry; exact .of (.none_bool k)
    | int i => obtain ⟨t, rfl⟩ := ry; exact .of (.none_int i t)
    | str z _ => obtain ⟨t, rfl⟩ := ry; exact .of (.none_str z t)
    | tup h2 d2 => cases ry; obtain ⟨its, _, t, _⟩ := I.tuple (hK ▸ h2); exact .of (.none_tuple t hu0)
    | lst h2 d2 => cases ry; obtain ⟨its, _, t⟩ := lst_of I h2; exact .of (.none_list t hu0)
    | dk h2 _ _ d2 => cases ry; exact .of (rc_none_dct (isD_of I h2 d2) hu0)
  | bl k =>
    cases rx
    cases db with
    | non => cases ry; exact .of (.bool_none k)
    | bl k' => cases ry; exact .of (.bool_bool k k')
    | int i =>
      obtain ⟨t, rfl⟩ := ry
      have e : veqd (.bl k) (.int i) = ((if k then 1 else 0) == i) := by
        show decide (b2i k = i) = _
        cases k <;> rfl
      rw [e]
      exact .of (.bool_int k i t)
    | str z _ => obtain ⟨t, rfl⟩ := ry; exact .of (.bool_str k z t)
    | tup h2 d2 => cases ry; obtain ⟨its, _, t, _⟩ := I.tuple (hK ▸ h2); exact .of (.bool_tuple k t hu0)
    | lst h2 d2 => cases ry; obtain ⟨its, _, t⟩ := lst_of I h2; exact .of (.bool_list k t hu0)
    | dk h2 _ _ d2 => cases ry; exact .of (rc_bool_dct k (isD_of I h2 d2) hu0)
  | int i =>
    obtain ⟨tk, rfl⟩ := rx
    cases db with
    | non => cases ry; exact .of (.int_none i tk)
    | bl k =>
      cases ry
      have e : veqd (.int i) (.bl k) = (i == (if k then 1 else 0)) := by
        show decide (i = b2i k) = _
        cases k <;> rfl
      rw [e]
      exact .of (.int_bool i tk k)
    | int j => obtain ⟨t, rfl⟩ := ry; exact .of (.int_int i tk j t)
    | str z _ => obtain ⟨t, rfl⟩ := ry; exact .of (.int_str i tk z t)
    | tup h2 d2 => cases ry; obtain ⟨its, _, t, _⟩ := I.tuple (hK ▸ h2); exact .of (.int_tuple i tk t hu0)
    | lst h2 d2 => cases ry; obtain ⟨its, _, t⟩ := lst_of I h2; exact .of (.int_list i tk t hu0)
    | dk h2 _ _ d2 => cases ry; exact .of (rc_int_dct i tk (isD_of I h2 d2) hu0)
  | str z _ =>
    obtain ⟨tk, rfl⟩ := rx
    cases db with
    | non => cases ry; exact .of (.str_none z tk)
    | bl k => cases ry; exact .of (.str_bool z tk k)
    | int j => obtain ⟨t, rfl⟩ := ry; exact .of (.str_int z tk j t)
    | str z' _ => obtain ⟨t, rfl⟩ := ry; rw [veqd_str]; exact .of (.str_str z tk z' t)
    | tup h2 d2 => cases ry; obtain ⟨its, _, t, _⟩ := I.tuple (hK ▸ h2); exact .of (.str_tuple z tk t hu0)
    | lst h2 d2 => cases ry; obtain ⟨its, _, t⟩ := lst_of I h2; exact .of (.str_list z tk t hu0)
    | dk h2 _ _ d2 => cases ry; exact .of (rc_str_dct z tk (isD_of I h2 d2) hu0)
  | @tup xs p us h1 d1 =>
    cases rx
    obtain ⟨its, r1, t1, _⟩ := I.tuple (hK ▸ h1)
    cases db with
    | non => cases ry; exact .of (.tuple_none t1 hu0)
    | bl k => cases ry; exact .of (.tuple_bool k t1 hu0)
    | int j => obtain ⟨t, rfl⟩ := ry; exact .of (.tuple_int j t t1 hu0)
    | str z' _ => obtain ⟨t, rfl⟩ := ry; exact .of (.tuple_str z' t t1 hu0)
    | @tup ys q vs h2 d2 =>
      cases ry
      obtain ⟨its2, r2, t2, _⟩ := I.tuple (hK ▸ h2)
      cases n with
      | zero => exact absurd ha Bool.false_ne_true
      | succ n =>
        intro E Q hq
        have l1 : its.toArray.size = xs.length := by rw [List.size_toArray, ← r1.length, d1.length]
        have l2 : its2.toArray.size = ys.length := by rw [List.size_toArray, ← r2.length, d2.length]
        refine rcIn_tuples (e := eqAtJ xs ys) t1 t2 hu0 (fun j g1 g2 => ?_) ?_
        · obtain ⟨x1, u1, e1, dv1, rv1⟩ := d1.items r1 g1
          obtain ⟨x2, u2, e2, dv2, rv2⟩ := d2.items r2 g2
          rw [eqAtJ_at e1 e2]
          exact ih n rfl (allB_iff.mp ha x1 (List.mem_of_getElem? e1)) (allB_iff.mp hb x2 (List.mem_of_getElem? e2)) dv1 dv2 rv1 rv2 A.in1 (by rw [Around.in1_units]; omega)
        · rw [l1, l2, ← veqds_J]
          exact hq
    | lst h2 d2 => cases ry; obtain ⟨its2, _, t2⟩ := lst_of I h2; exact .of (.tuple_list t1 t2 hu0)
    | dk h2 _ _ d2 => cases ry; exact .of (rc_tup_dct (isD_of I h2 d2) t1 hu0)
  | @lst xs p us h1 d1 =>
    cases rx
    obtain ⟨its, r1, t1⟩ := lst_of I h1
    cases db with
    | non => cases ry; exact .of (.list_none t1 hu0)
    | bl k => cases ry; exact .of (.list_bool k t1 hu0)
    | int j => obtain ⟨t, rfl⟩ := ry; exact .of (.list_int j t t1 hu0)
    | str z' _ => obtain ⟨t, rfl⟩ := ry; exact .of (.list_str z' t t1 hu0)
    | @lst ys q vs h2 d2 =>
      cases ry
      obtain ⟨its2, r2, t2⟩ := lst_of I h2
      cases n with
      | zero => exact absurd ha Bool.false_ne_true
      | succ n =>
        have l1 : its.toArray.size = xs.length := by rw [List.size_toArray, ← r1.length, d1.length]
        have l2 : its2.toArray.size = ys.length := by rw [List.size_toArray, ← r2.length, d2.length]
        show RcIn _ _ _ _ _ _ (veqds xs ys)
        by_cases hl : xs.length = ys.length
        · intro E Q hq
          refine rcIn_lists (e := eqAtJ xs ys) t1 t2 (by omega) hu0 (fun j g1 g2 => ?_) ?_
          · obtain ⟨x1, u1, e1, dv1, rv1⟩ := d1.items r1 g1
            obtain ⟨x2, u2, e2, dv2, rv2⟩ := d2.items r2 g2
            rw [eqAtJ_at e1 e2]
            exact ih n rfl (allB_iff.mp ha x1 (List.mem_of_getElem? e1)) (allB_iff.mp hb x2 (List.mem_of_getElem? e2)) dv1 dv2 rv1 rv2 A.in1 (by rw [Around.in1_units]; omega)
          · rw [veqds_J, ← hl, Nat.min_self, beq_self_eq_true, Bool.and_true] at hq
            rw [l1]
            exact hq
        · have e : veqds xs ys = false := by
            rw [veqds_J, beq_eq_false_iff_ne.mpr hl, Bool.and_false]
          rw [e]
          exact .of (.lists_lengths t1 t2 (by rw [l1, l2]; exact bne_iff_ne.mpr hl) hu0)
    | tup h2 d2 => cases ry; obtain ⟨its2, _, t2, _⟩ := I.tuple (hK ▸ h2); exact .of (.list_tuple t1 t2 hu0)
    | dk h2 _ _ d2 => cases ry; exact .of (rc_lst_dct (isD_of I h2 d2) t1 hu0)
  | @dk ω1 ks1 vs1 p kvs1 o1 h1 k1 v1 d1 =>
    cases rx
    have t1 := isD_of I h1 d1
    cases db with
    | non => cases ry; exact .of (rc_dct_none t1 hu0)
    | bl k => cases ry; exact .of (rc_dct_bool k t1 hu0)
    | int j => obtain ⟨t, rfl⟩ := ry; exact .of (rc_dct_int j t t1 hu0)
    | str z' _ => obtain ⟨t, rfl⟩ := ry; exact .of (rc_dct_str z' t t1 hu0)
    | tup h2 d2 => cases ry; obtain ⟨its2, _, t2, _⟩ := I.tuple (hK ▸ h2); exact .of (rc_dct_tup t1 t2 hu0)
    | lst h2 d2 => cases ry; obtain ⟨its2, _, t2⟩ := lst_of I h2; exact .of (rc_dct_lst t1 t2 hu0)
    | @dk ω2 ks2 vs2 _ kvs2 o2 h2 k2 v2 d2 =>
      cases ry
      cases n with
      | zero => exact absurd ha Bool.false_ne_true
      | succ n =>
        obtain ⟨va, kva, da⟩ := dk_heap I hP hw h1 d1
        obtain ⟨vb, kvb, db⟩ := dk_heap I hP hw h2 d2
        intro E Q hq
        have hits : ∀ (l : List (Key × V)) {w : List (Key × Value)} {ks vs : List Val}, KV l w → RVs g ω1 ks (l.map fun p => kV p.1) → DVs g H vs (l.map (·.2)) → allB (deepB n) vs = true → KeqHitsIn X.prog X.w A.in1 s vb w (dsub vs ks ks2 vs2) := by
          intro l
          induction l with
          | nil => intro w ks vs hk hr hd _; cases hk; cases hr; cases hd; exact .nil
          | cons p l ihl =>
            intro w ks vs hk hr hd hdp
            cases hk with
            | cons e1 e2 =>
              cases hr with
              | cons a1 a2 =>
                cases hd with
                | cons b1 b2 =>
                  rename_i q2 w kx ksx vx vsx
                  obtain ⟨qk, qv⟩ := q2
                  obtain ⟨pk, pv⟩ := p
                  obtain ⟨ek, er⟩ := e1
                  have ek : pk = qk := ek
                  subst ek
                  have hg := dget_dv (H := H) a1 k2 v2
                  have tail := ihl e2 a2 b2 (allB_cons.mp hdp).2
                  show KeqHitsIn _ _ _ _ _ _ (match dget ks2 vs2 kx with
                    | some v' => (match veqd vx v' with
                      | true => dsub vsx ksx ks2 vs2
                      | false => false)
                    | none => false)
                  cases e : dget ks2 vs2 kx with
                  | none =>
                    rw [e] at hg
                    exact .miss (valAt_none kvb hg)
                  | some v' =>
                    rw [e] at hg
                    obtain ⟨u, hu', dv⟩ := hg
                    obtain ⟨y, hy, ry⟩ := valAt_of kvb hu'
                    have hit := ih n rfl (allB_cons.mp hdp).1 (allB_iff.mp hb v' (dget_mem e)) b1 dv er ry A.in1 (by rw [Around.in1_units]; omega)
                    have := KeqHitsIn.hit hy hit tail
                    have eb : (match veqd vx v' with
                      | true => dsub vsx ksx ks2 vs2
                      | false => false) = (veqd vx v' && dsub vsx ksx ks2 vs2) := by cases veqd vx v' <;> rfl
                    dsimp only
                    rw [eb]
                    exact this
        refine keq_eqIn d1.sys d2.sys da db hu0 (fun _ => hits kvs1 kva k1 v1 ha) ?_
        have l1 : va.length = ks1.length := by rw [← Li.Paired.len' kva]; have := k1.length; simpa using this
        have l2 : vb.length = ks2.length := by rw [← Li.Paired.len' kvb]; have := k2.length; simpa using this
        have : veqd (.dct false ks1 vs1) (.dct false ks2 vs2) = (va.length == vb.length && dsub vs1 ks1 ks2 vs2) := by
          show (match Nat.beq ks1.length ks2.length with
            | true => dsub vs1 ks1 ks2 vs2
            | false => false) = _
          rw [l1, l2]
          cases e : Nat.beq ks1.length ks2.length with
          | true => rw [beq_iff_eq.mpr (Nat.eq_of_beq_eq_true e)]; rfl
          | false => rw [beq_eq_false_iff_ne.mpr fun z => by rw [z, Nat.beq_refl] at e; cases e]; rfl
        rw [← this]
        exact hq
theorem eqd_in (I : Inv X pins σ H s) (hP : X.prog = g.P) (hK : X.K = g.K) (hw : X.w = g.w) : ∀ (n : Nat) {a b : Val} {x y : V} {u v : Value}, deepB n a = true → deepB n b = true → DV g H a x → DV g H b y → RelV x u → RelV y v → ∀ A : Around, A.units + n < cLine → EqIn X.prog X.w A s u v (veqd a b) := by
  intro n
  induction n with
  | zero => intro a b x y u v ha hb da db rx ry A hu; exact eqd_in_of I hK ha hb da db rx ry (rc_step I hP hK hw (fun m e => by omega) ha hb da db rx ry hu)
  | succ n ih =>
    intro a b x y u v ha hb da db rx ry A hu
    refine eqd_in_of I hK ha hb da db rx ry (rc_step I hP hK hw (fun m e => ?_) ha hb da db rx ry hu)
    obtain rfl : m = n := by omega
    exact ih
theorem eqd_rc (I : Inv X pins σ H s) (hP : X.prog = g.P) (hK : X.K = g.K) (hw : X.w = g.w) {n : Nat} {a b : Val} {x y : V} {u v : Value} (ha : deepB n a = true) (hb : deepB n b = true) (da : DV g H a x) (db : DV g H b y) (rx : RelV x u) (ry : RelV y v) {A : Around} (hu : A.units + n < cLine) : RcIn X.prog X.w A s u v (veqd a b) :=
  rc_step I hP hK hw (fun m _ => eqd_in I hP hK hw m) ha hb da db rx ry hu
/-- == of data -/
def opEqP : P2 := fun h a b => match rsv 60 h a, rsv 60 h b with
  | some a', some b' => (match deepB 60 a', deepB 60 b' with
    | true, true => some (.bl (veqd a' b'), h)
    | _, _ => none)
  | _, _ => none
theorem op_eqP {k : Nat} (hP : X.prog = g.P) (hK : X.K = g.K) (hw : X.w = g.w) (hr : Room k X.A) : OpR X (compareOp .Eq) (rL g opEqP) := by
  intro pins s σ H x y v u Q I rx ry ⟨ω, hh, a, b, r, ra, rb, o⟩
  unfold opEqP at o
  cases e1 : rsv 60 hh a with
  | none => simp only [e1] at o; exact o.elim
  | some a' =>
    cases e2 : rsv 60 hh b with
    | none => simp only [e1, e2] at o; exact o.elim
    | some b' =>
      cases e3 : deepB 60 a' with
      | false => simp only [e1, e2, e3] at o; exact o.elim
      | true =>
        cases e4 : deepB 60 b' with
        | false => simp only [e1, e2, e3, e4] at o; exact o.elim
        | true =>
          simp only [e1, e2, e3, e4] at o
          have hu : X.A.units + 60 < cLine := by have := hr.un; omega
          exact eqd_rc I hP hK hw e3 e4 (rsv_ok r 60 e1 ra) (rsv_ok r 60 e2 rb) rx ry hu _ _ ⟨.bl (veqd a' b'), H, I, rfl, o ω _ H .rfl' r (.bl _)⟩
end
end Li

namespace Li
open PySem PySem.Spec PyProof.Rows L2
section
variable {X : Cx} {g : Pg} {n : Nat}
set_option maxHeartbeats 4000000 in
theorem declA {A : Around} {op : CmpOp} {neg : Bool} (hop : (cmpInfo op).2.1 = (if neg then "__ne__" else "__eq__" : String)) (hK : X.K = g.K) {c : Nat} (N : NotB g c) {pins : List (Addr × Obj)} {s : Shared} {σ : L2.St} {H : Hp} {ω : Wd} {hh : LHeap} {a : Val} {x : V} {u : Value} {l dx : Addr} {gs : List (Str × V)} {t : Nat}
    (I : Inv X pins σ H s) (r : HRel g ω hh H) (ra : RV g ω a x) (rx : RelV x u) (hH : H l = some (.ins (g.ca c) dx gs)) (ht : tagOf hh a = some t) (hb : Nat.ble t 6 = true) :
    s.TypeIs u (tyN t) ∧ ∀ Q : Option Value → Shared → Prop, Q none s → wpAny (model X.prog X.w) A (tryCompare u (cmpInfo op).2.1 (.ref l)) Q X.xe s := by
  obtain ⟨od, J⟩ := inst_ne I hH
  have hk : g.K.In s.heap := hK ▸ I.kIn
  have is : ∀ m, Nat.ble m 6 = true → PySem.W.Looks (model X.prog X.w) s.heap (isInstance (.ref l) (.type (tyN m))) false := fun m hm => looks_isI hk J (N.sub m hm)
  have at_ := J.at_
  rw [hop]
  have lst : ∀ p us, H p = some (.lst us) → s.TypeIs (.ref p) "list" ∧ ∀ Q : Option Value → Shared → Prop, Q none s → wpAny (model X.prog X.w) A (tryCompare (.ref p) (if neg then "__ne__" else "__eq__" : String) (.ref l)) Q X.xe s := fun p us hp => by
    obtain ⟨its, _, pl, _⟩ := I.list (SqL.of (K := X.K) hp)
    refine ⟨pl.isList.typeIs, fun Q q => ?_⟩
    cases neg with
    | false => exact wpAny_tryCompare_declines pl.isList.typeIs F.slot_list_eq (lst_eq_ins pl.isList (is 4 rfl) ⟨rfl, q⟩)
    | true => exact wpAny_tryCompare_declines pl.isList.typeIs F.slot_list_ne (lst_ne_ins pl.isList (is 4 rfl) ⟨rfl, q⟩)
  have dct : ∀ p o, H p = some (dctO p o) → o.cls = .type "dict" → s.TypeIs (.ref p) "dict" ∧ ∀ Q : Option Value → Shared → Prop, Q none s → wpAny (model X.prog X.w) A (tryCompare (.ref p) (if neg then "__ne__" else "__eq__" : String) (.ref l)) Q X.xe s := fun p o hp hc => by
    have hT : s.TypeIs (.ref p) "dict" := ⟨o, dct_get I hp, hc⟩
    refine ⟨hT, fun Q q => ?_⟩
    cases neg with
    | false => exact wpAny_tryCompare_declines hT F.slot_dict_eq (dct_eq_ins hT (is 6 rfl) ⟨rfl, q⟩)
    | true => exact wpAny_tryCompare_declines hT F.slot_dict_ne (dct_ne_ins hT (is 6 rfl) ⟨rfl, q⟩)
  cases ra with
  | non =>
    cases ht
    cases rx
    have hT : s.TypeIs Value.none "NoneType" := rfl
    refine ⟨hT, fun Q q => ?_⟩
    cases neg with
    | false => exact wpAny_tryCompare_declines (T := "NoneType") hT F.slot_NoneType_eq (call_gives F.slot_NoneType_eq hT F.entry_NoneType_eq (F.args_NoneType_eq_2 _ _) (none_eq_ins l) ⟨rfl, q⟩)
    | true => exact wpAny_tryCompare_declines (T := "NoneType") hT F.slot_NoneType_ne (call_gives F.slot_NoneType_ne hT F.entry_NoneType_ne (F.args_NoneType_ne_2 _ _) (none_ne_ins l) ⟨rfl, q⟩)
  | bl b =>
    cases ht
    cases rx
    have hT : s.TypeIs (Value.bool b) "bool" := rfl
    refine ⟨hT, fun Q q => ?_⟩
    cases neg with
    | false => exact wpAny_tryCompare_declines (T := "bool") hT F.slot_bool_eq (call_meets F.slot_bool_eq hT F.entry_int_eq (F.args_int_eq_2 _ _) (int_eq_insB b l _ _) ⟨at_, rfl, q⟩)
    | true => exact wpAny_tryCompare_declines (T := "bool") hT F.slot_bool_ne (call_meets F.slot_bool_ne hT F.entry_int_ne (F.args_int_ne_2 _ _) (int_ne_insB b l _ _) ⟨at_, rfl, q⟩)
  | int i =>
    cases ht
    obtain ⟨tk, rfl⟩ := rx
    have hT : s.TypeIs (Value.int i tk) "int" := typeIs_int s i tk
    refine ⟨hT, fun Q q => ?_⟩
    cases neg with
    | false => exact wpAny_tryCompare_declines (T := "int") hT F.slot_int_eq (call_meets F.slot_int_eq hT F.entry_int_eq (F.args_int_eq_2 _ _) (int_eq_ins i tk l _ _) ⟨at_, rfl, q⟩)
    | true => exact wpAny_tryCompare_declines (T := "int") hT F.slot_int_ne (call_meets F.slot_int_ne hT F.entry_int_ne (F.args_int_ne_2 _ _) (int_ne_ins i tk l _ _) ⟨at_, rfl, q⟩)
  | str z hz =>
    cases ht
    obtain ⟨tk, rfl⟩ := rx
    have hT : s.TypeIs (Value.str z tk) "str" := typeIs_str s z tk
    refine ⟨hT, fun Q q => ?_⟩
    cases neg with
    | false => exact wpAny_tryCompare_declines (T := "str") hT F.slot_str_eq (call_meets F.slot_str_eq hT F.entry_str_eq (F.args_str_eq_2 _ _) (str_eq_ins z tk l _ _) ⟨at_, rfl, q⟩)
    | true => exact wpAny_tryCompare_declines (T := "str") hT F.slot_str_ne (call_meets F.slot_str_ne hT F.entry_str_ne (F.args_str_ne_2 _ _) (str_ne_ins z tk l _ _) ⟨at_, rfl, q⟩)
  | tup hz hs =>
    cases ht
    cases rx
    obtain ⟨its, _, tt, _⟩ := I.tuple (hK ▸ SqT.mono r.z hz)
    refine ⟨tt.typeIs, fun Q q => ?_⟩
    cases neg with
    | false => exact wpAny_tryCompare_declines tt.typeIs F.slot_tuple_eq (tup_eq_ins tt (is 5 rfl) ⟨rfl, q⟩)
    | true => exact wpAny_tryCompare_declines tt.typeIs F.slot_tuple_ne (tup_ne_ins tt (is 5 rfl) ⟨rfl, q⟩)
  | lst hz hs => cases ht; cases rx; exact lst _ _ (r.z _ _ hz)
  | dk hz h1 h2 d => cases ht; cases rx; exact dct _ _ (r.z _ _ hz) (dctL_cls d)
  | dt hz h1 h2 d => cases ht; cases rx; exact dct _ _ (r.z _ _ hz) (dct_cls d)
  | ins h1 h2 h3 =>
    have e := Option.some.inj ht
    have := Nat.le_of_ble_eq_true hb
    omega
  | @obj d m p hl =>
    unfold tagOf at ht
    cases e0 : look hh d m with
    | none => simp only [e0] at ht; cases ht
    | some ob =>
      obtain ⟨p', h1, _, ro⟩ := obj_at r (.obj hl) e0
      cases h1
      cases rx
      cases ob with
      | lst xs =>
        simp only [e0] at ht
        cases ht
        obtain ⟨ys, hp, _⟩ := ro.lst'
        exact lst p ys hp
      | ins c' fs =>
        simp only [e0] at ht
        have e := Option.some.inj ht
        have := Nat.le_of_ble_eq_true hb
        omega
      | dct tt ks vs =>
        simp only [e0] at ht
        cases ht
        cases tt with
        | true =>
          obtain ⟨ys, us, o, hp, _, _, d⟩ := ro.dt'
          exact dct p o hp (dct_cls d)
        | false =>
          obtain ⟨kvs, o, hp, _, _, d⟩ := ro.dk'
          exact dct p o hp (dctL_cls d)
  | cls c => cases ht
  | ty m _ => cases ht
  | fn f => cases ht
  | scr a => cases ht

/-- == and != where one side at least is an own instance -/
def opOwnC (all : List Nat) (fs : Nat → Option (List Nat × LF)) (neg : Bool) : P2 := fun h a b => match insOf h a with
  | some c => (match fs c with
    | some (subs, f) => (match tagOf h b with
      | some t => (match memN t all with
        | true => (match memN t subs with
          | false => negB neg (f [a, b] h)
          | true => (match insOf h b with
            | some c' => (match Nat.beq t (c' + 16) with
              | true => (match fs c' with
                | some (_, f') => negB neg (f' [b, a] h)
                | none => none)
              | false => none)
            | none => none))
        | false => none)
      | none => none)
    | none => none)
  | none => (match insOf h b with
    | none => none
    | some c => (match fs c with
      | some (_, f) => (match tagOf h a with
        | some t => (match Nat.ble t 6 with
          | true => negB neg (f [b, a] h)
          | false => none)
        | none => none)
      | none => none))
theorem rc_ownC {A : Around} {all : List Nat} {it : IsiT} {fs : Nat → Option (List Nat × LF)} {op : CmpOp} {neg : Bool} (hop : (cmpInfo op).2.1 = (if neg then "__ne__" else "__eq__" : String) ∧ (cmpInfo op).2.2 = (if neg then "__ne__" else "__eq__" : String))
    (hK : X.K = g.K) (T : IsiOk g all it) (Fs : EqFs X g n all fs) (Nb : NotBs g fs) (hr : Room (n + 1) A) (hfr : A.frames = some X.stack) {pins : List (Addr × Obj)} {s : Shared} {σ : L2.St} {H : Hp} {ω : Wd} {hh : LHeap} {a b : Val} {x y : V} {v u : Value} {Q : VK}
    (I : Inv X pins σ H s) (r : HRel g ω hh H) (ra : RV g ω a x) (rb : RV g ω b y) (rx : RelV x v) (ry : RelV y u) (o : okO g ω (opOwnC all fs neg hh a b) Q) : wpAny (model X.prog X.w) A (richCompare op v u) (EP X pins σ Q) X.xe s := by
  unfold opOwnC at o
  cases e1 : insOf hh a with
  | none =>
    simp only [e1] at o
    cases e2 : insOf hh b with
    | none => simp only [e2] at o; exact o.elim
    | some c =>
      simp only [e2] at o
      cases e3 : fs c with
      | none => simp only [e3] at o; exact o.elim
      | some sf =>
        obtain ⟨subs, lf⟩ := sf
        simp only [e3] at o
        cases e4 : tagOf hh a with
        | none => simp only [e4] at o; exact o.elim
        | some t =>
          simp only [e4] at o
          cases e5 : Nat.ble t 6 with
          | false => simp only [e5] at o; exact o.elim
          | true =>
            simp only [e5] at o
            obtain ⟨f, fd, ps, E1, F1, hn1, hb1⟩ := Fs c subs lf e3
            obtain ⟨p, dx, gs, rfl, hH⟩ := insOf_at r rb e2
            cases ry
            obtain ⟨od, J⟩ := inst_ne I hH
            obtain ⟨hT, decl⟩ := declA (A := A) (op := op) hop.1 hK (Nb c subs lf e3) I r ra rx hH e4 e5
            exact cmp_ref (K := g.K) hr.units0 hT J.type (hK ▸ I.kIn) ((Nb c subs lf e3).sub t e5) decl (by rw [hop.2]; exact try_own (op := op) hop hK E1 F1 hn1 hb1 hr hfr I r rb ra rx hH o)
  | some c =>
    simp only [e1] at o
    cases e2 : fs c with
    | none => simp only [e2] at o; exact o.elim
    | some sf =>
      obtain ⟨subs, lf⟩ := sf
      simp only [e2] at o
      cases e3 : tagOf hh b with
      | none => simp only [e3] at o; exact o.elim
      | some t =>
        simp only [e3] at o
        cases e4 : memN t all with
        | false => simp only [e4] at o; exact o.elim
        | true =>
          simp only [e4] at o
          obtain ⟨f, fd, ps, E1, F1, hn1, hb1⟩ := Fs c subs lf e2
          obtain ⟨p, dx, gs, rfl, hH⟩ := insOf_at r ra e1
          cases rx
          obtain ⟨od, J⟩ := inst_ne I hH
          obtain ⟨PH, Z, ph, _⟩ := kit_ofY I ry (hK ▸ tag_at T r rb e3 e4)
          have hb : PySem.W.Looks (model X.prog X.w) s.heap (typeOf u) (tagV g t) := Z.ty _ _ I.kIn ph
          cases e5 : memN t subs with
          | false =>
            simp only [e5] at o
            exact cmp_one (K := g.K) hr.units0 J.type hb (hK ▸ I.kIn) (E1.nf t e4 e5) (by rw [hop.1]; exact try_own (op := op) hop hK E1 F1 hn1 hb1 hr hfr I r ra rb ry hH o)
          | true =>
            simp only [e5] at o
            obtain ⟨c', et, es, ene⟩ := E1.fs t e5
            cases e6 : insOf hh b with
            | none => simp only [e6] at o; exact o.elim
            | some c'' =>
              simp only [e6] at o
              cases e7 : Nat.beq t (c'' + 16) with
              | false => simp only [e7] at o; exact o.elim
              | true =>
                simp only [e7] at o
                have e8 := Nat.eq_of_beq_eq_true e7
                have e9 : c' = c'' := by omega
                subst e9
                cases e10 : fs c' with
                | none => simp only [e10] at o; exact o.elim
                | some sf' =>
                  obtain ⟨subs', lf'⟩ := sf'
                  simp only [e10] at o
                  obtain ⟨f', fd', ps', E2, F2, hn2, hb2⟩ := Fs c' subs' lf' e10
                  obtain ⟨p', dx', gs', rfl, hH'⟩ := insOf_at r rb e6
                  cases ry
                  obtain ⟨od', J'⟩ := inst_ne I hH'
                  exact cmp_two (K := g.K) hr.units0 J.type J'.type (hK ▸ I.kIn) es ene (by rw [hop.2]; exact try_own (op := op) hop hK E2 F2 hn2 hb2 hr hfr I r rb ra (show RelV (.ref p) (.ref p) from rfl) hH' o)
def plainEq (h : LHeap) (a b : Val) : Bool := match opEqP h a b with
  | some (.bl k, _) => k
  | _ => false
def ownEq (all : List Nat) (fs : Nat → Option (List Nat × LF)) (h : LHeap) (a b : Val) : Bool := match opOwnC all fs false h a b with
  | some (.bl k, h') => (match heapSame h' h with
    | true => k
    | false => false)
  | _ => false
def teqs (f : Val → Val → Bool) : List Val → List Val → Bool
  | [], ys => match ys with
    | [] => true
    | _ => false
  | x :: xs, ys => match ys with
    | y :: ys => (match f x y with
      | true => teqs f xs ys
      | false => false)
    | [] => false
/-- surely equal, so deep -/
def teq (all : List Nat) (fs : Nat → Option (List Nat × LF)) : Nat → LHeap → Val → Val → Bool
  | 0, _, _, _ => false
  | n + 1, h, a, b => match plainEq h a b with
    | true => true
    | false => (match a with
      | .tup xs => (match b with
        | .tup ys => teqs (teq all fs n h) xs ys
        | _ => false)
      | _ => ownEq all fs h a b)
theorem teqs_len {f : Val → Val → Bool} : ∀ {xs ys : List Val}, teqs f xs ys = true → xs.length = ys.length
  | [], [], _ => rfl
  | [], _ :: _, h => by cases h
  | _ :: _, [], h => by cases h
  | x :: xs, y :: ys, h => by
    have h' : (match f x y with | true => teqs f xs ys | false => false) = true := h
    cases e : f x y with
    | false => rw [e] at h'; cases h'
    | true => rw [e] at h'; simp [teqs_len h']
theorem teqs_get {f : Val → Val → Bool} : ∀ {xs ys : List Val} {i : Nat} {x y : Val}, teqs f xs ys = true → xs[i]? = some x → ys[i]? = some y → f x y = true
  | [], _, _, _, _, _, h, _ => by simp at h
  | _ :: _, [], _, _, _, h, _, _ => by cases h
  | a :: xs, b :: ys, i, x, y, h, h1, h2 => by
    have h' : (match f a b with | true => teqs f xs ys | false => false) = true := h
    cases e : f a b with
    | false => rw [e] at h'; cases h'
    | true =>
      rw [e] at h'
      cases i with
      | zero => simp at h1 h2; subst h1; subst h2; exact e
      | succ i => exact teqs_get h' (by simpa using h1) (by simpa using h2)
/-- what the inner comparisons keep -/
def KeepsE (X : Cx) (g : Pg) (ω : Wd) (h : LHeap) (pins : List (Addr × Obj)) (σ : L2.St) (s' : Shared) : Prop := ∃ ω' H', Inv X pins σ H' s' ∧ WLe ω ω' ∧ HRel g ω' h H'
/-- the rich comparison gives True -/
def RcT (X : Cx) (g : Pg) (m : Nat) (f : LHeap → Val → Val → Bool) : Prop := ∀ (A : Around) (pins : List (Addr × Obj)) (s : Shared) (σ : L2.St) (H : Hp) (ω : Wd) (h : LHeap) (a b : Val) (x y : V) (u v : Value), Room m A → A.frames = some X.stack → Inv X pins σ H s → HRel g ω h H →
  RV g ω a x → RV g ω b y → RelV x u → RelV y v → f h a b = true → wpAny (model X.prog X.w) A (richCompare .Eq u v) (fun r s' => r = .bool true ∧ KeepsE X g ω h pins σ s') X.xe s
/-- == within a list or a tuple gives True -/
def EqT' (X : Cx) (g : Pg) (m : Nat) (f : LHeap → Val → Val → Bool) : Prop := ∀ (A : Around) (pins : List (Addr × Obj)) (s : Shared) (σ : L2.St) (H : Hp) (ω : Wd) (h : LHeap) (a b : Val) (x y : V) (u v : Value), Room m A → A.frames = some X.stack → Inv X pins σ H s → HRel g ω h H →
  RV g ω a x → RV g ω b y → RelV x u → RelV y v → f h a b = true → wpAny (model X.prog X.w) A (eqBool u v) (fun r s' => r = true ∧ KeepsE X g ω h pins σ s') X.xe s
theorem nofl {x : V} {u : Value} {ω : Wd} {a : Val} (ra : RV g ω a x) (r : RelV x u) : ∀ z t, u ≠ .float z t := fun z t e => by
  subst e
  cases ra <;> first | (cases r; done) | (obtain ⟨_, r⟩ := r; cases r)
theorem RcT.eq {m : Nat} {f : LHeap → Val → Val → Bool} (h : RcT X g m f) : EqT' X g m f := fun A pins s σ H ω hh a b x y u v hr hfr I r ra rb rx ry e => by
  have base := h A pins s σ H ω hh a b x y u v hr hfr I r ra rb rx ry e
  by_cases huv : u = v
  · subst huv
    exact SeqAt.EqAt.same (A := A) (s := s) u X.prog X.w X.xe _ ⟨rfl, ω, H, I, .rfl', r⟩
  · unfold eqBool
    refine wpAny_holding ?_
    refine wpAny_ite_split (fun hab => absurd (eq_of_beq hab) huv) (fun _ => ?_)
    have nf := nofl ra rx
    cases u with
    | float z t => exact absurd rfl (nf z t)
    | _ =>
      refine wpAny_bind (wpAny_mono base (fun w s' q => ?_) fun _ _ e => e)
      obtain ⟨rfl, q⟩ := q
      exact wpAny_truthy_bool ⟨rfl, q⟩
theorem teq_rc {all : List Nat} {it : IsiT} {fs : Nat → Option (List Nat × LF)} (hP : X.prog = g.P) (hK : X.K = g.K) (hw : X.w = g.w) (T : IsiOk g all it) (Fs : EqFs X g n all fs) (Nb : NotBs g fs) : ∀ k, RcT X g (n + 1 + k) (teq all fs k) := by
  intro k
  induction k with
  | zero => intro A pins s σ H ω h a b x y u v hr hfr I r ra rb rx ry e; cases e
  | succ k ih =>
    intro A pins s σ H ω h a b x y u v hr hfr I r ra rb rx ry e
    unfold teq at e
    cases e0 : plainEq h a b with
    | true =>
      unfold plainEq opEqP at e0
      cases e1 : rsv 60 h a with
      | none => simp only [e1] at e0; cases e0
      | some a' =>
        cases e2 : rsv 60 h b with
        | none => simp only [e1, e2] at e0; cases e0
        | some b' =>
          cases e3 : deepB 60 a' with
          | false => simp only [e1, e2, e3] at e0; cases e0
          | true =>
            cases e4 : deepB 60 b' with
            | false => simp only [e1, e2, e3, e4] at e0; cases e0
            | true =>
              simp only [e1, e2, e3, e4] at e0
              have hu : A.units + 60 < cLine := by have := hr.un; omega
              have q := eqd_rc I hP hK hw e3 e4 (rsv_ok r 60 e1 ra) (rsv_ok r 60 e2 rb) rx ry hu
              rw [e0] at q
              exact q _ _ ⟨rfl, ω, H, I, .rfl', r⟩
    | false =>
      simp only [e0] at e
      have own : ownEq all fs h a b = true → wpAny (model X.prog X.w) A (richCompare .Eq u v) (fun r s' => r = .bool true ∧ KeepsE X g ω h pins σ s') X.xe s := by
        intro eo
        unfold ownEq at eo
        cases e1 : opOwnC all fs false h a b with
        | none => simp only [e1] at eo; cases eo
        | some p =>
          obtain ⟨w, h'⟩ := p
          simp only [e1] at eo
          cases w with
          | bl kk =>
            cases e2 : heapSame h' h with
            | false => simp only [e2] at eo; cases eo
            | true =>
              have eh := heapSame_eq e2
              have ek : kk = true := by
                simp only [e2] at eo
                exact eo
              subst ek
              subst eh
              refine wpAny_mono (rc_ownC (A := A) (op := .Eq) (neg := false) (Q := fun w H' => w = .bl true ∧ ∃ ω', WLe ω ω' ∧ HRel g ω' h' H') ⟨rfl, rfl⟩ hK T Fs Nb (hr.mono (by omega)) hfr I r ra rb rx ry (by
                rw [e1]
                exact fun ω' b H' l hr' rb' => by cases rb'; exact ⟨rfl, ω', l, hr'⟩)) (fun w s' q => ?_) fun _ _ e => e
              obtain ⟨z, H', I', rz, ez, ω', l, r'⟩ := q
              subst ez
              cases rz
              exact ⟨rfl, ω', H', I', l, r'⟩
          | _ => cases eo
      cases a with
      | tup xs =>
        cases b with
        | tup ys =>
          obtain ⟨p, us, rfl, h1, d1⟩ := tup_at r ra
          obtain ⟨q, vs, rfl, h2, d2⟩ := tup_at r rb
          cases rx
          cases ry
          obtain ⟨its, r1, t1, _⟩ := I.tuple (hK ▸ h1)
          obtain ⟨its2, r2, t2, _⟩ := I.tuple (hK ▸ h2)
          have hl := teqs_len e
          have hsz : its.toArray.size = its2.toArray.size := by rw [List.size_toArray, List.size_toArray, ← r1.length, ← r2.length, d1.length, d2.length, hl]
          refine GQ.rc_tupG hsz hr.units0 (fun _ s' => KeepsE X g ω h pins σ s') t1 t2 (fun i g1 g2 s' q => ?_) (fun s' q => ⟨rfl, q⟩) ⟨ω, H, I, .rfl', r⟩
          obtain ⟨ω1, H1, I1, l1, hr1⟩ := q
          have k1 : i < us.length := by rw [r1.length]; simpa using g1
          have k2 : i < vs.length := by rw [r2.length]; simpa using g2
          have j1 : i < xs.length := by rw [← d1.length]; exact k1
          have j2 : i < ys.length := by rw [← d2.length]; exact k2
          obtain ⟨z1, hz1, rz1⟩ := d1.get (List.getElem?_eq_getElem j1)
          obtain ⟨z2, hz2, rz2⟩ := d2.get (List.getElem?_eq_getElem j2)
          obtain ⟨w1, hw1, rw1⟩ := r1.get hz1
          obtain ⟨w2, hw2, rw2⟩ := r2.get hz2
          have ew1 : its.toArray[i] = w1 := by
            have g1' : i < its.length := by simpa using g1
            rw [List.getElem?_eq_getElem g1'] at hw1
            have := Option.some.inj hw1
            rw [← this] <;> simp
          have ew2 : its2.toArray[i] = w2 := by
            have g2' : i < its2.length := by simpa using g2
            rw [List.getElem?_eq_getElem g2'] at hw2
            have := Option.some.inj hw2
            rw [← this] <;> simp
          rw [ew1, ew2]
          have step := (RcT.eq ih) A.in1 pins s' σ H1 ω1 h xs[i] ys[i] z1 z2 w1 w2 (Room.in1 (hr.mono (by omega))) (by first | exact hfr | (rw [← hfr] <;> rfl)) I1 hr1 (rz1.mono l1.to) (rz2.mono l1.to) rw1 rw2 (teqs_get e (List.getElem?_eq_getElem j1) (List.getElem?_eq_getElem j2))
          refine wpAny_mono step (fun rr s2 qq => ?_) fun _ _ x => x
          obtain ⟨e1, ω2, H2, I2, l2, hr2⟩ := qq
          exact ⟨e1, ω2, H2, I2, l1.trans l2, hr2⟩
        | _ => cases e
      | _ => exact own e
/-- == : data; own instances; tuples surely equal -/
def opEqX (all : List Nat) (fs : Nat → Option (List Nat × LF)) : P2 := fun h a b => match insOf h a, insOf h b with
  | none, none => (match opEqP h a b with
    | some r => some r
    | none => (match teq all fs 8 h a b with
      | true => some (.bl true, h)
      | false => none))
  | _, _ => opOwnC all fs false h a b
def opNeX (all : List Nat) (fs : Nat → Option (List Nat × LF)) : P2 := fun h a b => match insOf h a, insOf h b with
  | none, none => opEq true h a b
  | _, _ => opOwnC all fs true h a b
theorem op_eqX {all : List Nat} {it : IsiT} {fs : Nat → Option (List Nat × LF)} (hP : X.prog = g.P) (hK : X.K = g.K) (hw : X.w = g.w) (T : IsiOk g all it) (Fs : EqFs X g n all fs) (Nb : NotBs g fs) (hr : Room (n + 9) X.A) : OpR X (compareOp .Eq) (rL g (opEqX all fs)) := by
  intro pins s σ H x y v u Q I rx ry ⟨ω, hh, a, b, r, ra, rb, o⟩
  have own : okO g ω (opOwnC all fs false hh a b) Q → wpAny (model X.prog X.w) X.A (compareOp .Eq v u) (EP X pins σ Q) X.xe s := fun o =>
    rc_ownC (A := X.A) (op := .Eq) (neg := false) ⟨rfl, rfl⟩ hK T Fs Nb (hr.mono (by omega)) I.ok.frames I r ra rb rx ry o
  unfold opEqX at o
  cases e1 : insOf hh a with
  | some c => simp only [e1] at o; exact own o
  | none =>
    cases e2 : insOf hh b with
    | some c => simp only [e1, e2] at o; exact own o
    | none =>
      simp only [e1, e2] at o
      cases e3 : opEqP hh a b with
      | some p =>
        simp only [e3] at o
        exact op_eqP hP hK hw hr pins s σ H x y v u Q I rx ry ⟨ω, hh, a, b, r, ra, rb, by rw [e3]; exact o⟩
      | none =>
        simp only [e3] at o
        cases e4 : teq all fs 8 hh a b with
        | false => simp only [e4] at o; exact o.elim
        | true =>
          simp only [e4] at o
          refine wpAny_mono (teq_rc hP hK hw T Fs Nb 8 X.A pins s σ H ω hh a b x y v u hr I.ok.frames I r ra rb rx ry e4) (fun w s' q => ?_) fun _ _ e => e
          obtain ⟨rfl, ω', H', I', l, r'⟩ := q
          exact ⟨.bl true, H', I', rfl, o ω' _ H' l r' (.bl true)⟩
theorem op_neX {all : List Nat} {it : IsiT} {fs : Nat → Option (List Nat × LF)} (hK : X.K = g.K) (T : IsiOk g all it) (Fs : EqFs X g n all fs) (Nb : NotBs g fs) (hr : Room (n + 1) X.A) : OpR X (compareOp .NotEq) (rL g (opNeX all fs)) := by
  intro pins s σ H x y v u Q I rx ry ⟨ω, hh, a, b, r, ra, rb, o⟩
  have own : okO g ω (opOwnC all fs true hh a b) Q → wpAny (model X.prog X.w) X.A (compareOp .NotEq v u) (EP X pins σ Q) X.xe s := fun o =>
    rc_ownC (A := X.A) (op := .NotEq) (neg := true) ⟨rfl, rfl⟩ hK T Fs Nb hr I.ok.frames I r ra rb rx ry o
  unfold opNeX at o
  cases e1 : insOf hh a with
  | some c => simp only [e1] at o; exact own o
  | none =>
    cases e2 : insOf hh b with
    | some c => simp only [e1, e2] at o; exact own o
    | none =>
      simp only [e1, e2] at o
      exact op_neL hK hr pins s σ H x y v u Q I rx ry ⟨ω, hh, a, b, r, ra, rb, o⟩
end
end Li

namespace Li
open PySem PySem.Spec PyProof.Rows L2
section
variable {X : Cx} {g : Pg} {E : EX}
def land (a b : LE) : LE := fun env h => (a env h).bind fun v h1 => match v with
  | .bl true => b env h1
  | .bl false => .ok (.bl false) h1
  | _ => .err
def lor (a b : LE) : LE := fun env h => (a env h).bind fun v h1 => match v with
  | .bl true => .ok (.bl true) h1
  | .bl false => b env h1
  | _ => .err
def lnot (a : LE) : LE := fun env h => (a env h).bind fun v h1 => match v with
  | .bl k => .ok (.bl (!k)) h1
  | _ => .err
section
variable {a b : Expr} {rest : List Expr} {la lb : LE} {pos : Pos}
theorem e_one {op} (h : PE X a (tE g E la)) : PE X (.BoolOp op [a] pos) (tE g E la) := pe_one h
theorem e_and (ha : PE X a (tE g E la)) (hb : PE X (.BoolOp .And (b :: rest) pos) (tE g E lb)) : PE X (.BoolOp .And (a :: b :: rest) pos) (tE g E (land la lb)) :=
  (pe_and ha hb).weak fun σ H Q ⟨ω, env, hh, s, r, o⟩ => tL.step (f := fun env v h1 => match v with
    | .bl true => lb env h1
    | .bl false => .ok (.bl false) h1
    | _ => .err) s r o fun ω1 v x h1 H1 s1 r1 ra l1 o1 => by
    cases v with
    | bl k =>
      cases ra
      refine ⟨k, rfl, ?_⟩
      cases k with
      | true => rw [if_pos rfl]; exact .mk s1 r1 o1
      | false => rw [if_neg Bool.false_ne_true]; exact o1 ω1 _ H1 .rfl' r1 (.bl false)
    | _ => exact o1.elim
theorem e_or (ha : PE X a (tE g E la)) (hb : PE X (.BoolOp .Or (b :: rest) pos) (tE g E lb)) : PE X (.BoolOp .Or (a :: b :: rest) pos) (tE g E (lor la lb)) :=
  (pe_or ha hb).weak fun σ H Q ⟨ω, env, hh, s, r, o⟩ => tL.step (f := fun env v h1 => match v with
    | .bl true => .ok (.bl true) h1
    | .bl false => lb env h1
    | _ => .err) s r o fun ω1 v x h1 H1 s1 r1 ra l1 o1 => by
    cases v with
    | bl k =>
      cases ra
      refine ⟨k, rfl, ?_⟩
      cases k with
      | true => rw [if_pos rfl]; exact o1 ω1 _ H1 .rfl' r1 (.bl true)
      | false => rw [if_neg Bool.false_ne_true]; exact .mk s1 r1 o1
    | _ => exact o1.elim
theorem e_not (ha : PE X a (tE g E la)) : PE X (.UnaryOp .Not a pos) (tE g E (lnot la)) :=
  (pe_not ha).weak fun σ H Q ⟨ω, env, hh, s, r, o⟩ => tL.step (R := RV g) (R' := RV g) (f := fun _ v h1 => match v with
    | .bl k => .ok (Val.bl (!k)) h1
    | _ => .err) s r o fun ω1 v x h1 H1 s1 r1 ra l1 o1 => by
    cases v with
    | bl k => cases ra; exact ⟨k, rfl, o1 ω1 _ H1 .rfl' r1 (.bl _)⟩
    | _ => exact o1.elim
end
def GV (g : Pg) (mg : Str → Option Value) (x : Str) (v : Val) : Prop := ∃ uv u, mg x = some uv ∧ RelV u uv ∧ ∀ ω, RV g ω v u
theorem e_gl {x : Str} {v : Val} {pos : Pos} (hg : Gl X x) (h : GV g X.mg x v) (hd : (x == ("__debug__" : Str)) = false := by decide) : PE X (.Name x pos) (tE g E (lc v)) := by
  obtain ⟨uv, u, hm, r, rv⟩ := h
  exact e_glob hg hm r rv hd
theorem e_lv {i : Nat} {x : Str} {pos : Pos} (hN : X.N[i]? = some x) (hv : Vis X.env.scope x) (hd : (x == ("__debug__" : Str)) = false := by decide) (hcd : (x == ("__classdict__" : Str)) = false := by decide) : PE X (.Name x pos) (tE g E (lvar i)) := e_var hN hv hd hcd
end
/-- the def x keeps lf's promise, at level k -/
structure Ok1 (g : Pg) (mg : Str → Option Value) (base : Heap) (p : Str × Option Str) (ps : List Str) (k : Nat) (lf : LF) (fd : FuncData) : Prop where
  F : FnOk g.P g.w g.K mg base CX0 k (He.fAd g.K p) fd ps (spL g ps.length lf)
  N : Takes ps.length lf
  B : Binds g.K fd ps []
  K : PySem.W.keepIn g.K (.ref (He.fAd g.K p)) = true
def OkL (g : Pg) (mg : Str → Option Value) (base : Heap) (p : Str × Option Str) (ps : List Str) (k : Nat) (lf : LF) : Prop := ∃ fd, Ok1 g mg base p ps k lf fd
structure Ok1M (g : Pg) (mg : Str → Option Value) (base : Heap) (p : Str × Option Str) (ps : List Str) (k : Nat) (lf : LFM) (fd : FuncData) : Prop where
  F : FnOk g.P g.w g.K mg base CX0 k (He.fAd g.K p) fd ps (spM g ps.length lf)
  N : TakesM ps.length lf
  B : Binds g.K fd ps []
  K : PySem.W.keepIn g.K (.ref (He.fAd g.K p)) = true
def OkM (g : Pg) (mg : Str → Option Value) (base : Heap) (p : Str × Option Str) (ps : List Str) (k : Nat) (lf : LFM) : Prop := ∃ fd, Ok1M g mg base p ps k lf fd
/-- a def of a positional promise (*args) -/
structure OkR (g : Pg) (mg : Str → Option Value) (base : Heap) (p : Str × Option Str) (k : Nat) (lf : LF) : Prop where
  F : FnR g.P g.w g.K mg base CX0 k (He.fAd g.K p) (spR g lf)
theorem FnOk.none {P : Program} {w : World} {K : PySem.W.Frag} {mg : Str → Option Value} {base : Heap} {g : Pg} {k : Nat} {f : Addr} {fd : FuncData} {ps : List Str} : FnOk P w K mg base CX0 k f fd ps (spL g ps.length fun _ _ => .none) :=
  ⟨fun _ _ _ _ h => h.1, fun _ _ _ _ _ _ _ _ _ _ _ _ _ h => by obtain ⟨_, _, _, _, _, _, o⟩ := h; exact o.elim⟩
theorem FnR.none {P : Program} {w : World} {K : PySem.W.Frag} {mg : Str → Option Value} {base : Heap} {g : Pg} {k : Nat} {f : Addr} : FnR P w K mg base CX0 k f (spR g fun _ _ => .none) :=
  fun _ _ _ _ _ _ _ _ _ _ _ h => by obtain ⟨_, _, _, _, _, o⟩ := h; exact o.elim
section
variable {X : Cx} {g : Pg} {E : EX} {k : Nat} {q : Str × Option Str} {fd : FuncData} {ps : List Str} {lf : LF} {x : Str} {p pos apos : Pos} {e o : Expr} {es : List Expr} {la : LA} {lo : LE}
theorem c_call {mg : Str → Option Value} {base : Heap} (O : Ok1 g mg base q ps k lf fd) (hP : X.prog = g.P) (hw : X.w = g.w) (hK : X.K = g.K) (hmg : X.mg = mg) (hba : X.base = base) (hr : Room k X.A) (hg : Gl X x) (hm : mg x = some (.ref (He.fAd g.K q)))
    (ha : PA X (e :: es) (tA g E la)) (hdb : (x == ("__debug__" : Str)) = false := by decide) (he : starEach (e :: es) X.env = (false, eval e X.env) :: starEach es X.env := by rfl) (hpl : (backTo pos (starEach es X.env)).any (·.1) = false := by rfl) :
    PE X (.Call (.Name x p) (e :: es) [] pos) (tE g E (lcall lf la)) := by
  subst hmg; subst hba
  exact e_call (hP ▸ hw ▸ hK ▸ O.F) O.N hr hg hm (hK ▸ O.K) (hK ▸ O.B) ha hdb he hpl
end
end Li

namespace Li
open PySem PySem.Spec PyProof.Rows L2

structure SupE where
  at_ : Str × Option Str
  name : Str
  qual : Str
  params : Arguments
  body : List Stmt
  scope : Scope
  cls : Str
abbrev FnS : Type := Option (Str × Str × Arguments × FuncBody × Scope × Addr × List Str × Addr)
def fnS (K : PySem.W.Frag) (p : Str × Option Str) : FnS := match K.lookup (He.fAd K p) with
  | some ⟨_, _, .func fd, _⟩ => some (fd.name, fd.qualname, fd.params, fd.body, fd.scope, fd.globals, fd.closure.map (·.1), fd.builtins)
  | _ => none
def SupE.val (d : SupE) : FnS := some (d.name, d.qual, d.params, .stmts d.body, d.scope, mainGlobals, ["__class__"], builtinsNs)
def isNV : Value → Bool
  | .none => true
  | _ => false
def oneC : List (Str × Addr) → Addr
  | [(_, c)] => c
  | _ => 0
def refA : Value → Addr
  | .ref c => c
  | _ => 0
/-- the cell, the code object -/
def cellAt (K : PySem.W.Frag) (p : Str × Option Str) : Addr := match K.lookup (He.fAd K p) with
  | some ⟨_, _, .func fd, _⟩ => oneC fd.closure
  | _ => 0
def codeAt (K : PySem.W.Frag) (p : Str × Option Str) : Addr := match K.lookup (He.fAd K p) with
  | some ⟨_, _, .func fd, _⟩ => refA fd.code
  | _ => 0
def codeFile (K : PySem.W.Frag) (file : Str) (c : Addr) : Bool := match K.lookup c with
  | some ⟨_, _, .fields vs, _⟩ => (match (vs[2]? : Option Value) with
    | some (Value.str z _) => decide (file = z)
    | _ => false)
  | _ => false
def cellB (K : PySem.W.Frag) (c D : Addr) : Bool := match K.lookup c with
  | some ⟨_, _, .cell (some (.ref E)), _⟩ => decide (E = D)
  | _ => false
def SupE.ok (file : Str) (K : PySem.W.Frag) (d : SupE) : Bool := PySem.W.keepIn K (.ref (He.fAd K d.at_)) && ((match K.lookup (He.fAd K d.at_) with
  | some ⟨_, _, .func fd, _⟩ => PySem.W.codeIn K fd.code d.qual && isNV fd.defaults
  | _ => false) && (codeFile K file (codeAt K d.at_) && (cellB K (cellAt K d.at_) (He.ga K d.cls) && (PySem.W.clsIn K (He.ga K d.cls)).isSome)))
/-- what stands there -/
structure SupAt (P : Program) (K : PySem.W.Frag) (d : SupE) (fd : FuncData) : Prop where
  sd : SupD P K d.name d.qual d.params d.body d.scope (He.fAd K d.at_) (He.ga K d.cls) (cellAt K d.at_) (codeAt K d.at_) fd
  kp : PySem.W.keepIn K (.ref (He.fAd K d.at_)) = true
  fd : ∃ (kV doc pm : Value) (an : Option Addr) (cd ct : Value), fd = PySem.W.fnX d.name d.qual d.params d.body d.scope [("__class__", cellAt K d.at_)] .none kV doc pm an cd ct
theorem SupAt.binds {P : Program} {K : PySem.W.Frag} {d : SupE} {fd : FuncData} {ps : List Str} (S : SupAt P K d fd)
    (h : ∀ (cl : List (Str × Addr)) (kV doc pm : Value) (an : Option Addr) (cdv ct : Value) (us : List Value), us.length = ps.length → bindArgs (PySem.W.fnX d.name d.qual d.params d.body d.scope cl .none kV doc pm an cdv ct) ⟨us, []⟩ = pure (ps.zip us)) : Binds K fd ps [] := by
  obtain ⟨kV, doc, pm, an, cd, ct, e⟩ := S.fd
  subst e
  exact .all (h _ kV doc pm an cd ct)
theorem SupAt.kbinds {P : Program} {K : PySem.W.Frag} {d : SupE} {fd : FuncData} {ps ks : List Str} {n : Nat} {pm : List Nat} (S : SupAt P K d fd)
    (h : ∀ (cl : List (Str × Addr)) (kV doc pmv : Value) (an : Option Addr) (cdv ct : Value) (us ws : List Value), us.length = n → ws.length = ks.length → bindArgs (PySem.W.fnX d.name d.qual d.params d.body d.scope cl .none kV doc pmv an cdv ct) ⟨us, ks.zip ws⟩ = pure (ps.zip (us ++ permL pm ws))) : KBp K fd ps n ks pm := by
  obtain ⟨kV, doc, pmv, an, cd, ct, e⟩ := S.fd
  subst e
  exact KBp.of (h _ kV doc pmv an cd ct)
theorem SupE.at_ok {P : Program} {K : PySem.W.Frag} {d : SupE} (e : fnS K d.at_ = d.val) (c : d.ok P.main.file K = true) : ∃ fd, SupAt P K d fd := by
  obtain ⟨c1, c⟩ := He.ba c
  obtain ⟨c2, c⟩ := He.ba c
  obtain ⟨c3, c⟩ := He.ba c
  obtain ⟨c4, c5⟩ := He.ba c
  have hcell : cellAt K d.at_ = (match K.lookup (He.fAd K d.at_) with
    | some ⟨_, _, .func fd, _⟩ => oneC fd.closure
    | _ => 0) := rfl
  have hcode : codeAt K d.at_ = (match K.lookup (He.fAd K d.at_) with
    | some ⟨_, _, .func fd, _⟩ => refA fd.code
    | _ => 0) := rfl
  unfold fnS at e
  cases q : K.lookup (He.fAd K d.at_) with
  | none => rw [q] at e; cases e
  | some o =>
    obtain ⟨oc, od, dt, osl⟩ := o
    rw [q] at c2 e hcell hcode
    cases dt with
    | func fd =>
      obtain ⟨n1, n2, n3, n4, n5, n6, n7, n8, n9, n10, n11, n12, n13, n14, n15⟩ := fd
      have e2 : (some (n1, n2, n3, n4, n5, n6, n7.map (·.1), n15) : FnS) = (some (d.name, d.qual, d.params, FuncBody.stmts d.body, d.scope, mainGlobals, ["__class__"], builtinsNs) : FnS) := e
      simp only [Option.some.injEq, Prod.mk.injEq] at e2
      obtain ⟨h1, h2, h3, h4, h5, h6, h7, h8⟩ := e2
      have c2' : (PySem.W.codeIn K n13 d.qual && isNV n8) = true := c2
      obtain ⟨k1, k2⟩ := He.ba c2'
      have hc7 : n7 = [(("__class__" : Str), cellAt K d.at_)] := by
        have hcell' : cellAt K d.at_ = oneC n7 := hcell
        clear hcell hcode c2 c2' q e
        cases n7 with
        | nil => cases h7
        | cons p r =>
          cases r with
          | nil =>
            obtain ⟨a, b⟩ := p
            simp only [List.map_cons, List.map_nil, List.cons.injEq, and_true] at h7
            rw [hcell', h7] <;> rfl
          | cons _ _ => simp at h7
      have hk : ∃ c, n13 = .ref c := by
        cases n13 with
        | ref c => exact ⟨c, rfl⟩
        | _ => cases k1
      obtain ⟨cdA, hk⟩ := hk
      have hcd : codeAt K d.at_ = cdA := by
        have hcode' : codeAt K d.at_ = refA n13 := hcode
        rw [hcode', hk] <;> rfl
      have h8n : n8 = .none := by
        cases n8 with
        | none => rfl
        | _ => cases k2
      subst h1 h2 h3 h4 h5 h6 h8 h8n hk
      obtain ⟨ccl, cld, cvs, ccs, lc⟩ : ∃ ccl cld vs ccs, K.lookup cdA = some ⟨ccl, cld, .fields vs, ccs⟩ := by
        have k1' : (match K.lookup cdA with
          | some ⟨_, _, .fields vs, _⟩ => (match vs.toList with | _ :: .str n _ :: _ => n == d.qual | _ => false)
          | _ => false) = true := k1
        cases q2 : K.lookup cdA with
        | none => rw [q2] at k1'; cases k1'
        | some o2 =>
          obtain ⟨a1, a2, a3, a4⟩ := o2
          rw [q2] at k1'
          cases a3 with
          | fields vs => exact ⟨_, _, _, _, rfl⟩
          | _ => cases k1'
      refine ⟨PySem.W.fnX d.name d.qual d.params d.body d.scope [("__class__", cellAt K d.at_)] .none n9 n10 n11 n12 (.ref cdA) n14, ⟨⟨oc, od, .none, n9, n10, n11, n12, n14, osl, ?_, ?_⟩, by rw [hcd]; exact k1, ?_, ?_, ?_⟩, c1, ?_⟩
      · rw [hcd]
      · rw [hc7] at q; exact q
      · rw [hcd]
        unfold codeFile at c3
        rw [hcd, lc] at c3
        have c3' : (match (cvs[2]? : Option Value) with
          | some (Value.str z _) => decide (P.main.file = z)
          | _ => false) = true := c3
        cases q3 : cvs[2]? with
        | none => rw [q3] at c3'; cases c3'
        | some v =>
          rw [q3] at c3'
          cases v with
          | str z t => exact ⟨ccl, cld, cvs, ccs, t, z, lc, q3, beq_iff_eq.mpr (of_decide_eq_true c3')⟩
          | _ => cases c3'
      · unfold cellB at c4
        cases q4 : K.lookup (cellAt K d.at_) with
        | none => rw [q4] at c4; cases c4
        | some o4 =>
          obtain ⟨a1, a2, a3, a4⟩ := o4
          rw [q4] at c4
          cases a3 with
          | cell v =>
            cases v with
            | none => cases c4
            | some v =>
              cases v with
              | ref E =>
                have : E = He.ga K d.cls := of_decide_eq_true c4
                subst this
                exact ⟨a1, a2, a4, rfl⟩
              | _ => cases c4
          | _ => cases c4
      · cases q5 : PySem.W.clsIn K (He.ga K d.cls) with
        | none => rw [q5] at c5; cases c5
        | some cd => exact ⟨cd, rfl⟩
      · exact ⟨n9, n10, n11, n12, .ref cdA, n14, rfl⟩
    | _ => cases c2

abbrev FaB := PySem.W.Frag → Bool
structure Spec where
  file : Str
  fa : List He.Fa
  ex : List FaB
  fn : List He.DefD
  sn : List SupE
abbrev AlL : Type := Bool × List He.FnW × List FnS
def obsL (S : Spec) (K : PySem.W.Frag) : AlL := ((S.fa.all fun f => f.ok K) && ((S.ex.all fun f => f K) && ((S.fn.all fun d => d.ok K) && S.sn.all fun d => d.ok S.file K)), S.fn.map fun d => He.fnW K d.at_, S.sn.map fun d => fnS K d.at_)
def valL (S : Spec) : AlL := (true, S.fn.map He.DefD.val, S.sn.map SupE.val)
def SaysL (S : Spec) (K : PySem.W.Frag) : Prop := obsL S K = valL S
def asL (g : Addr → Option Obj) (n : Nat) : List Addr := He.asD g n ++ [cStatics]
def obsLG (n : Nat) (S : Spec) (g : Addr → Option Obj) : AlL := obsL S (He.frG g (asL g n))
def hookL (n : Nat) (S : Spec) : PySem.W.Hook where
  α := AlL
  obs := fun s => obsLG n S s.heap.get?
  val := fun _ => valL S
  says := fun _ h => ∃ K : PySem.W.Frag, K.In h ∧ SaysL S K
  of := fun _ _ e => ⟨_, He.frG_in, e⟩
  keeps := fun _ _ _ ⟨K, hK, c⟩ k => ⟨K, PySem.W.Frag.In.keeps hK k, c⟩
theorem obsLG_eq {n : Nat} {S : Spec} {g : Addr → Option Obj} {s : Shared} (h : ∀ a, g a = s.heap.get? a) : obsLG n S g = (hookL n S).obs s := by
  have e : g = s.heap.get? := funext h
  rw [e] <;> rfl
section
variable {S : Spec} {K : PySem.W.Frag}
theorem SaysL.b (c : SaysL S K) : ((S.fa.all fun f => f.ok K) && ((S.ex.all fun f => f K) && ((S.fn.all fun d => d.ok K) && S.sn.all fun d => d.ok S.file K))) = true := congrArg (fun z : AlL => z.1) c
theorem SaysL.fact (c : SaysL S K) (i : Nat) {f : He.Fa} (h : S.fa[i]? = some f := by rfl) : f.ok K = true := List.all_eq_true.mp (He.ba c.b).1 f (List.mem_of_getElem? h)
theorem SaysL.more (c : SaysL S K) (i : Nat) {f : FaB} (h : S.ex[i]? = some f := by rfl) : f K = true := List.all_eq_true.mp (He.ba (He.ba c.b).2).1 f (List.mem_of_getElem? h)
theorem SaysL.def_ (c : SaysL S K) (i : Nat) {d : He.DefD} (h : S.fn[i]? = some d := by rfl) : ∃ fd, FunD K d.name d.qual d.params d.body d.scope (d.dvs K) (d.kws K) (He.fAd K d.at_) fd := by
  have c2 := (He.ba (He.ba (He.ba c.b).2).2).1
  have e : S.fn.map (fun d => He.fnW K d.at_) = S.fn.map He.DefD.val := congrArg (fun z : AlL => z.2.1) c
  have e2 : (S.fn.map fun d => He.fnW K d.at_)[i]? = (S.fn.map He.DefD.val)[i]? := by rw [e]
  rw [List.getElem?_map, List.getElem?_map, h] at e2
  exact He.DefD.funD (Option.some.inj e2) (List.all_eq_true.mp c2 d (List.mem_of_getElem? h))
theorem SaysL.sup (c : SaysL S K) {P : Program} (hP : P.main.file = S.file) (i : Nat) {d : SupE} (h : S.sn[i]? = some d := by rfl) : ∃ fd, SupAt P K d fd := by
  have c2 := (He.ba (He.ba (He.ba c.b).2).2).2
  have e : S.sn.map (fun d => fnS K d.at_) = S.sn.map SupE.val := congrArg (fun z : AlL => z.2.2) c
  have e2 : (S.sn.map fun d => fnS K d.at_)[i]? = (S.sn.map SupE.val)[i]? := by rw [e]
  rw [List.getElem?_map, List.getElem?_map, h] at e2
  exact SupE.at_ok (Option.some.inj e2) (hP ▸ List.all_eq_true.mp c2 d (List.mem_of_getElem? h))
end
end Li

namespace Li
open PySem PySem.Spec PyProof.Rows L2
abbrev Fr := PySem.W.Frag
def eqF (a b : Option (Option Value)) : Bool := decide (a = b)
theorem eqF_ok {a b : Option (Option Value)} (h : eqF a b = true) : a = b := of_decide_eq_true h
theorem ba2 {a b : Bool} (h : (a && b) = true) : a = true ∧ b = true := Bool.and_eq_true_iff.mp h
def clsB (K : Fr) (C : Addr) : Bool := PySem.W.plainGet K C Str.empty && (PySem.W.hasDictIn K C && (PySem.W.plainOver K C && eqF (PySem.W.findIn K (.ref C) "__setattr__") (some (some (.builtin "object.__setattr__")))))
theorem clsB_ok {K : Fr} {C : Addr} (c : clsB K C = true) : Cls K C := by
  obtain ⟨c1, c⟩ := ba2 c
  obtain ⟨c2, c⟩ := ba2 c
  obtain ⟨c3, c4⟩ := ba2 c
  exact ⟨c1, c2, c3, eqF_ok c4⟩
def methB (K : Fr) (C : Addr) (m : Str) (f : Addr) : Bool := eqF (PySem.W.findIn K (.ref C) m) (some (some (.ref f))) && (PySem.W.isFn K (.ref f) && PySem.W.keepIn K (.ref f))
theorem methB_ok {K : Fr} {C f : Addr} {m : Str} (c : methB K C m f = true) : Meth K C m f := by
  obtain ⟨c1, c⟩ := ba2 c
  obtain ⟨c2, c3⟩ := ba2 c
  exact ⟨eqF_ok c1, c2, c3⟩
def mkB (K : Fr) (C f : Addr) : Bool := PySem.W.makesIn K C && (eqF (PySem.W.findIn K (.ref C) "__init__") (some (some (.ref f))) && (PySem.W.isFn K (.ref f) && PySem.W.keepIn K (.ref C)))
theorem mkB_ok {K : Fr} {C f : Addr} (c : mkB K C f = true) : Mk K C f := by
  obtain ⟨c1, c⟩ := ba2 c
  obtain ⟨c2, c⟩ := ba2 c
  obtain ⟨c3, c4⟩ := ba2 c
  exact ⟨c1, eqF_ok c2, c3, c4⟩
def isiCB (K : Fr) (C : Addr) : Bool := clsB K C && (eqF (PySem.W.findIn K (.ref C) "__class__") (some (some (.builtin "object.__class__"))) && (eqF (PySem.W.specialIn K (.builtin "object.__class__") "__get__") (some (some (.builtin "getset_descriptor.__get__"))) &&
  (decide (PySem.W.takesIn K (.builtin "object.__class__") = some true) && decide (PySem.W.mroIn K C (.type "object") = some true))))
theorem isiCB_ok {K : Fr} {C : Addr} (c : isiCB K C = true) : IsiC K C := by
  obtain ⟨c1, c⟩ := ba2 c
  obtain ⟨c2, c⟩ := ba2 c
  obtain ⟨c3, c⟩ := ba2 c
  obtain ⟨c4, c5⟩ := ba2 c
  exact ⟨clsB_ok c1, eqF_ok c2, eqF_ok c3, of_decide_eq_true c4, of_decide_eq_true c5⟩
def tagA (ca : Nat → Addr) (t : Nat) : Value := match t with
  | 0 => .type "NoneType"
  | 1 => .type "bool"
  | 2 => .type "int"
  | 3 => .type "str"
  | 4 => .type "list"
  | 5 => .type "tuple"
  | 6 => .type "dict"
  | t => .ref (ca (t - 16))
theorem tagA_eq (g : Pg) (t : Nat) : tagV g t = tagA g.ca t := by
  match t with
  | 0 => rfl
  | 1 => rfl
  | 2 => rfl
  | 3 => rfl
  | 4 => rfl
  | 5 => rfl
  | 6 => rfl
  | t + 7 => rfl
theorem memN_mem {n : Nat} : ∀ {l : List Nat}, memN n l = true ↔ n ∈ l := by
  intro l
  rw [memN_eq]
  exact decide_eq_true_iff
def isiB (K : Fr) (ca : Nat → Addr) (all : List Nat) (it : IsiT) : Bool := (it.all fun p => all.all fun t => decide (PySem.W.kitOne K (tagA ca t) (tagA ca p.1) = some (memN t p.2))) && all.all fun t => Nat.blt t 16 || isiCB K (ca (t - 16))
theorem isiLook_mem {c : Nat} {ts : List Nat} : ∀ {it : IsiT}, isiLook it c = some ts → (c, ts) ∈ it
  | [], h => by cases h
  | (d, us) :: r, h => by
    unfold isiLook at h
    cases e : Nat.beq d c with
    | true =>
      rw [e] at h
      have e := Nat.eq_of_beq_eq_true e
      subst e
      cases h
      exact List.mem_cons_self
    | false =>
      rw [e] at h
      exact List.mem_cons_of_mem _ (isiLook_mem h)
theorem isiB_ok {g : Pg} {all : List Nat} {it : IsiT} (c : isiB g.K g.ca all it = true) : IsiOk g all it := by
  obtain ⟨c1, c2⟩ := ba2 c
  refine ⟨fun n ts t h1 h2 => ?_, fun t h => ?_⟩
  · rw [tagA_eq, tagA_eq]
    exact of_decide_eq_true (List.all_eq_true.mp (List.all_eq_true.mp c1 _ (isiLook_mem h1)) t (memN_mem.mp h2))
  · have := List.all_eq_true.mp c2 _ (memN_mem.mp h)
    rcases Bool.or_eq_true_iff.mp this with e | e
    · have := Nat.le_of_ble_eq_true (show Nat.ble (t + 16 + 1) 16 = true from e)
      omega
    · simpa using isiCB_ok e
def eqTB (K : Fr) (ca : Nat → Addr) (all : List Nat) (c : Nat) (subs : List Nat) (f : Addr) : Bool := eqF (PySem.W.findIn K (.ref (ca c)) "__eq__") (some (some (.ref f))) && (PySem.W.isFn K (.ref f) && (eqF (PySem.W.findIn K (.ref (ca c)) "__ne__") (some (some (.builtin "object.__ne__"))) &&
  (decide (PySem.W.mroIn K (ca c) (.type "object") = some true) && ((all.all fun t => memN t subs || PySem.W.notFirst K (ca c) (tagA ca t)) && subs.all fun t => Nat.ble 16 t && (decide (PySem.W.subIn K (.ref (ca (t - 16))) (.ref (ca c)) = some true) && !decide (ca (t - 16) = ca c))))))
theorem eqTB_ok {g : Pg} {all : List Nat} {c : Nat} {subs : List Nat} {f : Addr} (h : eqTB g.K g.ca all c subs f = true) : EqT g all c subs f := by
  obtain ⟨c1, h⟩ := ba2 h
  obtain ⟨c2, h⟩ := ba2 h
  obtain ⟨c3, h⟩ := ba2 h
  obtain ⟨c4, h⟩ := ba2 h
  obtain ⟨c5, c6⟩ := ba2 h
  refine ⟨eqF_ok c1, c2, eqF_ok c3, of_decide_eq_true c4, fun t h1 h2 => ?_, fun t h1 => ?_⟩
  · have := List.all_eq_true.mp c5 t (memN_mem.mp h1)
    rw [h2] at this
    rw [tagA_eq]
    exact this
  · obtain ⟨d1, d⟩ := ba2 (List.all_eq_true.mp c6 t (memN_mem.mp h1))
    obtain ⟨d2, d3⟩ := ba2 d
    have d1 := Nat.le_of_ble_eq_true d1
    refine ⟨t - 16, by omega, of_decide_eq_true d2, fun e => ?_⟩
    rw [e] at d3
    simp at d3
def boB (K : Fr) (C f : Addr) : Bool := eqF (PySem.W.findIn K (.ref C) "__bool__") (some (some (.ref f))) && PySem.W.isFn K (.ref f)
theorem boB_ok {g : Pg} {c : Nat} {f : Addr} (h : boB g.K (g.ca c) f = true) : BoT g c f := ⟨eqF_ok (ba2 h).1, (ba2 h).2⟩
def cnB (K : Fr) (C : Addr) (z : Str) : Bool := decide (PySem.W.typeIn K (.ref C) = some (.type "type")) && ((match K.lookup C with
  | some o => (match (o.slots[2]? : Option (Option Value)) with
    | some (some (Value.str y _)) => decide (y = z)
    | _ => false)
  | none => false) && ((match PySem.W.findCls K (.ref C) (.type "type") "__name__" with
  | some (.get a b c d) => decide (a = .builtin "getset_descriptor.__get__") && (decide (b = .builtin "type.__name__") && (decide (c = .ref C) && decide (d = .type "type")))
  | _ => false) && eqF (PySem.W.nsIn K cStatics "thirdparty.any") (some none)))
theorem cnB_ok {K : Fr} {C : Addr} {z : Str} (h : cnB K C z = true) : CNm K C z := by
  obtain ⟨c1, h⟩ := ba2 h
  obtain ⟨c2, h⟩ := ba2 h
  obtain ⟨c3, c4⟩ := ba2 h
  refine ⟨of_decide_eq_true c1, ?_, ?_, eqF_ok c4⟩
  · cases q : K.lookup C with
    | none => rw [q] at c2; cases c2
    | some o =>
      rw [q] at c2
      have c2' : (match (o.slots[2]? : Option (Option Value)) with
        | some (some (Value.str y _)) => decide (y = z)
        | _ => false) = true := c2
      cases q2 : o.slots[2]? with
      | none => rw [q2] at c2'; cases c2'
      | some v =>
        rw [q2] at c2'
        cases v with
        | none => cases c2'
        | some v =>
          cases v with
          | str y t =>
            have e : y = z := of_decide_eq_true c2'
            subst e
            exact ⟨o, t, rfl, q2⟩
          | _ => cases c2'
  · cases q : PySem.W.findCls K (.ref C) (.type "type") "__name__" with
    | none => rw [q] at c3; cases c3
    | some v =>
      rw [q] at c3
      cases v with
      | get a b c d =>
        obtain ⟨d1, c3⟩ := ba2 c3
        obtain ⟨d2, c3⟩ := ba2 c3
        obtain ⟨d3, d4⟩ := ba2 c3
        rw [of_decide_eq_true d1, of_decide_eq_true d2, of_decide_eq_true d3, of_decide_eq_true d4]
      | _ => cases c3
def supCB (K : Fr) (C D f2 : Addr) : Bool := decide (PySem.W.mroIn K C (.ref D) = some true) && (decide (PySem.W.ks_superIn K C D "__init__" = some (some (.ref f2))) && (decide (PySem.W.typeIn K (.ref f2) = some (.type "function")) && (PySem.W.fnIn K f2 && eqF (PySem.W.nsIn K cStatics "thirdparty.any") (some none))))
theorem supCB_ok {K : Fr} {C D f2 : Addr} (h : supCB K C D f2 = true) : SupC K C D f2 := by
  obtain ⟨c1, h⟩ := ba2 h
  obtain ⟨c2, h⟩ := ba2 h
  obtain ⟨c3, h⟩ := ba2 h
  obtain ⟨c4, c5⟩ := ba2 h
  exact ⟨of_decide_eq_true c1, of_decide_eq_true c2, of_decide_eq_true c3, c4, eqF_ok c5⟩
def notBB (K : Fr) (C : Addr) : Bool := [0, 1, 2, 3, 4, 5, 6].all fun n => decide (PySem.W.subIn K (.ref C) (.type (tyN n)) = some false)
theorem notBB_ok {g : Pg} {c : Nat} (h : notBB g.K (g.ca c) = true) : NotB g c := ⟨fun n hn => by
  have hn := Nat.le_of_ble_eq_true hn
  have := List.all_eq_true.mp h n (by
    have : n = 0 ∨ n = 1 ∨ n = 2 ∨ n = 3 ∨ n = 4 ∨ n = 5 ∨ n = 6 := by omega
    simpa using this)
  exact of_decide_eq_true this⟩
def fldB (K : Fr) (ca : Nat → Addr) (cf : Nat → List Str) (f : Str) (fx : List (Nat × Nat)) : Bool := fx.all fun p => clsB K (ca p.1) && (eqF (PySem.W.findIn K (.ref (ca p.1)) f) (some none) && (decide ((cf p.1)[p.2]? = some f) && (decide (cf p.1).Nodup && decide ((cf p.1).length < 1000))))
theorem lookup_memN {c i : Nat} : ∀ {fx : List (Nat × Nat)}, fx.lookup c = some i → (c, i) ∈ fx
  | [], h => by cases h
  | (a, b) :: r, h => by
    rw [List.lookup_cons] at h
    cases e : (c == a) with
    | true =>
      rw [e] at h
      cases h
      rw [beq_iff_eq.mp e]
      exact List.mem_cons_self
    | false =>
      rw [e] at h
      exact List.mem_cons_of_mem _ (lookup_memN h)
theorem fldB_ok {g : Pg} {f : Str} {fx : List (Nat × Nat)} (h : fldB g.K g.ca g.cf f fx = true) : FOkS g f fx := by
  have key : ∀ c i, fx.lookup c = some i → Cls g.K (g.ca c) ∧ NoAttr g.K (g.ca c) f ∧ (g.cf c)[i]? = some f ∧ (g.cf c).Nodup ∧ (g.cf c).length < 1000 := fun c i e => by
    obtain ⟨c1, h⟩ := ba2 (List.all_eq_true.mp h _ (lookup_memN e))
    obtain ⟨c2, h⟩ := ba2 h
    obtain ⟨c3, h⟩ := ba2 h
    obtain ⟨c4, c5⟩ := ba2 h
    exact ⟨clsB_ok c1, eqF_ok c2, of_decide_eq_true c3, of_decide_eq_true c4, of_decide_eq_true c5⟩
  exact ⟨fun c i e => let ⟨a, b, d, _, _⟩ := key c i e; ⟨a, b, d⟩, fun c i e => let ⟨_, _, _, a, b⟩ := key c i e; ⟨a, b⟩⟩
mutual
def valB (K : Fr) (ca fa : Nat → Addr) : Val → Value → Bool
  | .non, u => (match u with
    | .none => true
    | _ => false)
  | .bl b, u => (match u with
    | .bool c => b == c
    | _ => false)
  | .int i, u => (match u with
    | .int j _ => decide (i = j)
    | _ => false)
  | .str s, u => (match u with
    | .str z _ => natsEq z.cps.toList s && PyData.strOk z
    | _ => false)
  | .cls c, u => (match u with
    | .ref a => decide (a = ca c)
    | _ => false)
  | .fn c, u => (match u with
    | .ref a => decide (a = fa c)
    | _ => false)
  | .ty n, u => (match u with
    | .type m => Nat.blt n 900 && decide (m = tyN n)
    | _ => false)
  | .tup xs, u => (match u with
    | .ref a => (match K.lookup a with
      | some ⟨.type c, _, .seq its _, _⟩ => decide (c = "tuple") && (decide (its.size ≤ sizeLine) && valsB K ca fa xs its.toList)
      | _ => false)
    | _ => false)
  | .lst _, _ => false
  | .ins _ _, _ => false
  | .dct _ _ _, _ => false
  | .obj _ _, _ => false
termination_by structural x => x
def valsB (K : Fr) (ca fa : Nat → Addr) : List Val → List Value → Bool
  | [], us => (match us with
    | [] => true
    | _ => false)
  | x :: xs, us => (match us with
    | u :: us => valB K ca fa x u && valsB K ca fa xs us
    | [] => false)
termination_by structural x => x
end
mutual
theorem valB_ok {g : Pg} : ∀ {v : Val} {u : Value}, valB g.K g.ca g.fa v u = true → ∃ x, RelV x u ∧ ∀ ω, RV g ω v x
  | .non, u, h => by cases u <;> first | exact ⟨.non, rfl, fun _ => .non⟩ | cases h
  | .bl b, u, h => by
    cases u with
    | bool c =>
      have e : b = c := eq_of_beq (show (b == c) = true from h)
      subst e
      exact ⟨.bl b, rfl, fun _ => .bl b⟩
    | _ => cases h
  | .int i, u, h => by
    cases u with
    | int j t =>
      have e : i = j := of_decide_eq_true h
      subst e
      exact ⟨.int i, ⟨t, rfl⟩, fun _ => .int i⟩
    | _ => cases h
  | .str s, u, h => by
    cases u with
    | str z t =>
      obtain ⟨h1, h2⟩ := ba2 (show (natsEq z.cps.toList s && PyData.strOk z) = true from h)
      rw [natsEq_eq] at h1
      have e : z.cps.toList = s := of_decide_eq_true h1
      subst e
      exact ⟨.str z, ⟨t, rfl⟩, fun _ => .str z h2⟩
    | _ => cases h
  | .cls c, u, h => by
    cases u with
    | ref a =>
      have e : a = g.ca c := of_decide_eq_true h
      subst e
      exact ⟨.ref _, rfl, fun _ => .cls c⟩
    | _ => cases h
  | .fn c, u, h => by
    cases u with
    | ref a =>
      have e : a = g.fa c := of_decide_eq_true h
      subst e
      exact ⟨.ref _, rfl, fun _ => .fn c⟩
    | _ => cases h
  | .ty n, u, h => by
    cases u with
    | type m =>
      obtain ⟨h1, h2⟩ := ba2 (show (Nat.blt n 900 && decide (m = tyN n)) = true from h)
      have e : m = tyN n := of_decide_eq_true h2
      subst e
      exact ⟨.ty _, rfl, fun _ => .ty n h1⟩
    | _ => cases h
  | .tup xs, u, h => by
    cases u with
    | ref a =>
      have h' : (match g.K.lookup a with
        | some ⟨.type c, _, .seq its _, _⟩ => decide (c = "tuple") && (decide (its.size ≤ sizeLine) && valsB g.K g.ca g.fa xs its.toList)
        | _ => false) = true := h
      cases q : g.K.lookup a with
      | none => rw [q] at h'; cases h'
      | some o =>
        obtain ⟨oc, od, dt, osl⟩ := o
        rw [q] at h'
        cases oc with
        | type c =>
          cases dt with
          | seq its n =>
            obtain ⟨h1, h2⟩ := ba2 (show (decide (c = "tuple") && (decide (its.size ≤ sizeLine) && valsB g.K g.ca g.fa xs its.toList)) = true from h')
            obtain ⟨h3, h4⟩ := ba2 h2
            obtain ⟨ys, r1, r2⟩ := valsB_ok h4
            exact ⟨.ref a, rfl, fun ω => .tup (.inr ⟨_, its, n, q, congrArg Value.type (of_decide_eq_true h1), rfl, of_decide_eq_true h3, r1⟩) (r2 ω)⟩
          | _ => cases h'
        | _ => cases dt <;> cases h'
    | _ => cases h
  | .lst _, _, h => by cases h
  | .ins _ _, _, h => by cases h
  | .dct _ _ _, _, h => by cases h
  | .obj _ _, _, h => by cases h
theorem valsB_ok {g : Pg} : ∀ {v : List Val} {u : List Value}, valsB g.K g.ca g.fa v u = true → ∃ x, Vals x u ∧ ∀ ω, RVs g ω v x
  | [], [], _ => ⟨[], .nil, fun _ => .nil⟩
  | [], _ :: _, h => by cases h
  | _ :: _, [], h => by cases h
  | v :: vs, u :: us, h => by
    obtain ⟨h1, h2⟩ := ba2 (show (valB g.K g.ca g.fa v u && valsB g.K g.ca g.fa vs us) = true from h)
    obtain ⟨x, r1, r2⟩ := valB_ok h1
    obtain ⟨xs, q1, q2⟩ := valsB_ok h2
    exact ⟨x :: xs, .cons r1 q1, fun ω => .cons (r2 ω) (q2 ω)⟩
end
def gvB (K : Fr) (ca fa : Nat → Addr) (x : Str) (v : Val) : Bool := match PySem.W.nsIn K mainGlobals x with
  | some (some u) => valB K ca fa v u
  | _ => false
theorem gvB_ok {g : Pg} {h : Heap} {mg : Str → Option Value} (X : g.K.In h) (G : h.Ns mainGlobals mg) {x : Str} {v : Val} (c : gvB g.K g.ca g.fa x v = true) : GV g mg x v := by
  unfold gvB at c
  cases q : PySem.W.nsIn g.K mainGlobals x with
  | none => rw [q] at c; cases c
  | some o =>
    rw [q] at c
    cases o with
    | none => cases c
    | some u =>
      obtain ⟨y, r, rv⟩ := valB_ok c
      exact ⟨u, y, PySem.W.mg_of X G q, r, rv⟩
end Li

namespace Li
open PySem PySem.Spec PyProof.Rows L2
section
variable {X : Cx} {g : Pg} {E : EX} {pos : Pos}
def gseqN (n : Nat) (t : LGs) : LG := fun v env h => match seqOf h v with
  | some xs => if xs.length = n then t xs env h else .err
  | none => .err
theorem g_seq {es : List Expr} {k n : Nat} {t : LGs} (hK : X.K = g.K) (hc : X.calm = true) (h : PGs X es (tGs g t)) (hn : (assignEach es X.env).length = n := by rfl) (hst : (assignEach es X.env).findIdx? (·.1) = none := by rfl) :
    PG X (.Tuple es k pos) (tG g (gseqN n t)) := by
  refine ⟨fun pins s σ H v u Q I r ⟨ω, env, hh, w, sr, hr, rv, o⟩ => ?_⟩
  unfold gseqN at o
  cases e : seqOf hh w with
  | none => simp only [e] at o; exact o.elim
  | some xs =>
    simp only [e] at o
    by_cases hl : xs.length = n
    · rw [if_pos hl] at o
      obtain ⟨a, us, eu, sq, rs⟩ := seq_at hr rv e
      have inner : tGs g t us σ H Q := ⟨ω, env, hh, xs, sr, hr, rs, o⟩
      rcases sq with sq | sq
      · exact (pg_unl hc h hn hst).run pins s σ H v u Q I r ⟨a, us, eu, hK ▸ sq, rs.length.trans hl, inner⟩
      · exact (pg_tup hc h hn hst).run pins s σ H v u Q I r ⟨a, us, eu, hK ▸ sq, rs.length.trans hl, inner⟩
    · rw [if_neg hl] at o; exact o.elim
end
theorem bb_len : bootBuiltins "len" = some (.builtin "len") := by decide +kernel
theorem bb_isinstance : bootBuiltins "isinstance" = some (.builtin "isinstance") := by decide +kernel
theorem bb_all : bootBuiltins "all" = some (.builtin "all") := by decide +kernel
theorem bb_any : bootBuiltins "any" = some (.builtin "any") := by decide +kernel
theorem bb_sorted : bootBuiltins "sorted" = some (.builtin "sorted") := by decide +kernel
theorem bb_repr : bootBuiltins "repr" = some (.builtin "repr") := by decide +kernel
theorem bb_sum : bootBuiltins "sum" = some (.builtin "sum") := by decide +kernel
theorem bb_min : bootBuiltins "min" = some (.builtin "min") := by decide +kernel
theorem bb_max : bootBuiltins "max" = some (.builtin "max") := by decide +kernel
theorem bb_int : bootBuiltins "int" = some (.type "int") := by decide +kernel
theorem bb_bool : bootBuiltins "bool" = some (.type "bool") := by decide +kernel
theorem bb_str : bootBuiltins "str" = some (.type "str") := by decide +kernel
theorem bb_list : bootBuiltins "list" = some (.type "list") := by decide +kernel
theorem bb_tuple : bootBuiltins "tuple" = some (.type "tuple") := by decide +kernel
theorem bb_dict : bootBuiltins "dict" = some (.type "dict") := by decide +kernel
theorem bb_set : bootBuiltins "set" = some (.type "set") := by decide +kernel
/-- a built-in type as a value -/
theorem e_tyB {X : Cx} {g : Pg} {E : EX} {x : Str} {T : Nat} {pos : Pos} (hg : Gl X x) (hm : X.mg x = none) (hv : bootBuiltins x = some (.type (tyN T))) (hn : x ≠ "__name__" := by decide) (hd : (x == ("__debug__" : Str)) = false := by decide) (hT : Nat.blt T 900 = true := by rfl) : PE X (.Name x pos) (tE g E (lc (.ty T))) := e_ty hT hg hm hv hn hd
end Li

namespace Li
open PySem PySem.Spec PyProof.Rows L2
section
variable {X : Cx} {g : Pg} {E : EX} {H : Hp}
mutual
theorem DV.dp : ∀ {n : Nat} {v : Val} {u : V}, DV g H v u → pureB n v = true → Dp g.K H u (dat v) ∧ (dat v).canLay0 = true
  | n, _, _, .non, _ => ⟨.non, rfl⟩
  | n, _, _, .bl b, _ => ⟨.bl b, rfl⟩
  | n, _, _, .int i, _ => ⟨.int i, rfl⟩
  | n, _, _, .str x h, _ => by
    refine ⟨?_, ?_⟩
    · exact .str x
    · exact h
  | 0, _, _, .tup a b, h => absurd h Bool.false_ne_true
  | 0, _, _, .lst a b, h => absurd h Bool.false_ne_true
  | n + 1, _, _, .tup a b, h => let ⟨h1, h2⟩ := DVs.dp b h; ⟨.tup a h1, h2⟩
  | n + 1, _, _, .lst a b, h => let ⟨h1, h2⟩ := DVs.dp b h; ⟨.lst (SqL.of a) h1, h2⟩
  | n, _, _, .dk _ _ _ _, h => absurd h (by cases n <;> exact Bool.false_ne_true)
theorem DVs.dp : ∀ {n : Nat} {v : List Val} {u : List V}, DVs g H v u → allB (pureB n) v = true → DpAll g.K H u (dats v) ∧ PyData.canLayAll0 (dats v) = true
  | _, _, _, .nil, _ => ⟨.nil, rfl⟩
  | n, _, _, .cons a b, h => by
    obtain ⟨h1, h2⟩ := DV.dp a (allB_cons.mp h).1
    obtain ⟨h3, h4⟩ := DVs.dp b (allB_cons.mp h).2
    exact ⟨.cons h1 h3, Bool.and_eq_true_iff.mpr ⟨h2, h4⟩⟩
end
/-- a != b of data -/
def opNeP : P2 := fun h a b => match rsv 60 h a, rsv 60 h b with
  | some a', some b' => (match pureB 60 a', pureB 60 b' with
    | true, true => some (.bl (!veq a' b'), h)
    | _, _ => none)
  | _, _ => none
theorem op_neP {k : Nat} (hK : X.K = g.K) (hr : Room k X.A) : OpR X (compareOp .NotEq) (rL g opNeP) :=
  OpR.to (op_neD hr.units) fun ω hh H a b x y Q r ra rb o => by
    unfold opNeP at o
    cases e1 : rsv 60 hh a with
    | none => simp only [e1] at o; exact o.elim
    | some a' =>
      cases e2 : rsv 60 hh b with
      | none => simp only [e1, e2] at o; exact o.elim
      | some b' =>
        cases h1 : pureB 60 a' with
        | false => simp only [e1, e2, h1] at o; exact o.elim
        | true =>
          cases h2 : pureB 60 b' with
          | false => simp only [e1, e2, h1, h2] at o; exact o.elim
          | true =>
            simp only [e1, e2, h1, h2] at o
            obtain ⟨p1, p2⟩ := DV.dp (rsv_ok r 60 e1 ra) h1
            obtain ⟨q1, q2⟩ := DV.dp (rsv_ok r 60 e2 rb) h2
            refine ⟨dat a', dat b', hK ▸ p1, hK ▸ q1, shaped_of h1 p2 (by decide), shaped_of h2 q2 (by decide), ?_⟩
            rw [← veq_dat 60 60 a' b' h1 h2]
            exact o ω _ H .rfl' r (.bl _)
/-- != : data; own instances -/
def opNeY (all : List Nat) (fs : Nat → Option (List Nat × LF)) : P2 := fun h a b => match insOf h a, insOf h b with
  | none, none => opNeP h a b
  | _, _ => opOwnC all fs true h a b
theorem op_neY {n : Nat} {all : List Nat} {it : IsiT} {fs : Nat → Option (List Nat × LF)} (hK : X.K = g.K) (T : IsiOk g all it) (Fs : EqFs X g n all fs) (Nb : NotBs g fs) (hr : Room (n + 1) X.A) : OpR X (compareOp .NotEq) (rL g (opNeY all fs)) := by
  intro pins s σ H x y v u Q I rx ry ⟨ω, hh, a, b, r, ra, rb, o⟩
  have own : okO g ω (opOwnC all fs true hh a b) Q → wpAny (model X.prog X.w) X.A (compareOp .NotEq v u) (EP X pins σ Q) X.xe s := fun o =>
    rc_ownC (A := X.A) (op := .NotEq) (neg := true) ⟨rfl, rfl⟩ hK T Fs Nb hr I.ok.frames I r ra rb rx ry o
  unfold opNeY at o
  cases e1 : insOf hh a with
  | some c => simp only [e1] at o; exact own o
  | none =>
    cases e2 : insOf hh b with
    | some c => simp only [e1, e2] at o; exact own o
    | none =>
      simp only [e1, e2] at o
      exact op_neP hK hr pins s σ H x y v u Q I rx ry ⟨ω, hh, a, b, r, ra, rb, o⟩
end
end Li

namespace Li
open PySem PySem.Spec PyProof.Rows L2
def lbreak : LS := fun env h => .bk env h
def lcont : LS := fun env h => .ct env h
def lnever : LS := fun _ _ => .err
structure Ok1R (g : Pg) (mg : Str → Option Value) (base : Heap) (p : Str × Option Str) (k : Nat) (lf : LF) : Prop where
  F : FnR g.P g.w g.K mg base CX0 k (He.fAd g.K p) (spR g lf)
section
variable {X : Cx} {g : Pg} {E : EX} {k c nf : Nat} {q : Str × Option Str} {fd : FuncData} {ps : List Str} {lf : LF} {lm : LFM} {x : Str} {p pos apos : Pos} {e o : Expr} {es : List Expr} {la : LA} {lo : LE} {mg : Str → Option Value} {base : Heap}
theorem c_call0 (O : Ok1 g mg base q ps k lf fd) (hP : X.prog = g.P) (hw : X.w = g.w) (hK : X.K = g.K) (hmg : X.mg = mg) (hba : X.base = base) (hr : Room k X.A) (hg : Gl X x) (hm : mg x = some (.ref (He.fAd g.K q)))
    (hdb : (x == ("__debug__" : Str)) = false := by decide) : PE X (.Call (.Name x p) [] [] pos) (tE g E (lcall lf anil)) := by
  subst hmg; subst hba
  exact e_call0 (hP ▸ hw ▸ hK ▸ O.F) O.N hr hg hm (hK ▸ O.K) (hK ▸ O.B) hdb
theorem c_callM (O : Ok1M g mg base q ps k lm fd) (hP : X.prog = g.P) (hw : X.w = g.w) (hK : X.K = g.K) (hmg : X.mg = mg) (hba : X.base = base) (hr : Room k X.A) (hg : Gl X x) (hm : mg x = some (.ref (He.fAd g.K q)))
    (ha : PA X (e :: es) (tA g E la)) (hdb : (x == ("__debug__" : Str)) = false := by decide) (he : starEach (e :: es) X.env = (false, eval e X.env) :: starEach es X.env := by rfl) (hpl : (backTo pos (starEach es X.env)).any (·.1) = false := by rfl) :
    PE X (.Call (.Name x p) (e :: es) [] pos) (tE g E (lcallM lm la)) := by
  subst hmg; subst hba
  exact e_callM (hP ▸ hw ▸ hK ▸ O.F) O.N hr hg hm (hK ▸ O.K) (hK ▸ O.B) ha hdb he hpl
theorem c_callM0 (O : Ok1M g mg base q ps k lm fd) (hP : X.prog = g.P) (hw : X.w = g.w) (hK : X.K = g.K) (hmg : X.mg = mg) (hba : X.base = base) (hr : Room k X.A) (hg : Gl X x) (hm : mg x = some (.ref (He.fAd g.K q)))
    (hdb : (x == ("__debug__" : Str)) = false := by decide) : PE X (.Call (.Name x p) [] [] pos) (tE g E (lcallM lm anil)) := by
  subst hmg; subst hba
  exact e_callM0 (hP ▸ hw ▸ hK ▸ O.F) O.N hr hg hm (hK ▸ O.K) (hK ▸ O.B) hdb
theorem c_mkF (O : Ok1 g mg base q ps k lf fd) (hP : X.prog = g.P) (hw : X.w = g.w) (hK : X.K = g.K) (hmg : X.mg = mg) (hba : X.base = base) (hnf : (g.cf c).length = nf) (M : Mk g.K (g.ca c) (He.fAd g.K q)) (hr : Room (k + 1) X.A) (hm : mg x = some (.ref (g.ca c))) (hg : Gl X x)
    (ha : PA X (e :: es) (tA g E la)) (hdb : (x == ("__debug__" : Str)) = false := by decide) (he : starEach (e :: es) X.env = (false, eval e X.env) :: starEach es X.env := by rfl) (hpl : (backTo pos (starEach es X.env)).any (·.1) = false := by rfl) :
    PE X (.Call (.Name x p) (e :: es) [] pos) (tE g E (lmkF c nf lf la)) := by
  subst hmg; subst hba
  exact e_mkF hnf (hK ▸ M) (hP ▸ hw ▸ hK ▸ O.F) O.N hr hg hm (hK ▸ O.B) ha hdb he hpl
theorem c_mkM (O : Ok1 g mg base q ps k lf fd) (hP : X.prog = g.P) (hw : X.w = g.w) (hK : X.K = g.K) (hmg : X.mg = mg) (hba : X.base = base) (hnf : (g.cf c).length = nf) (M : Mk g.K (g.ca c) (He.fAd g.K q)) (hr : Room (k + 1) X.A) (hm : mg x = some (.ref (g.ca c))) (hg : Gl X x)
    (ha : PA X (e :: es) (tA g E la)) (hdb : (x == ("__debug__" : Str)) = false := by decide) (he : starEach (e :: es) X.env = (false, eval e X.env) :: starEach es X.env := by rfl) (hpl : (backTo pos (starEach es X.env)).any (·.1) = false := by rfl) :
    PE X (.Call (.Name x p) (e :: es) [] pos) (tE g E (lmkM c nf lf la)) := by
  subst hmg; subst hba
  exact e_mkM hnf (hK ▸ M) (hP ▸ hw ▸ hK ▸ O.F) O.N hr hg hm (hK ▸ O.B) ha hdb he hpl
theorem c_mkFR (O : Ok1R g mg base q k lf) (hP : X.prog = g.P) (hw : X.w = g.w) (hK : X.K = g.K) (hmg : X.mg = mg) (hba : X.base = base) (hnf : (g.cf c).length = nf) (M : Mk g.K (g.ca c) (He.fAd g.K q)) (hr : Room (k + 1) X.A) (hm : mg x = some (.ref (g.ca c))) (hg : Gl X x)
    (ha : PA X (e :: es) (tA g E la)) (hdb : (x == ("__debug__" : Str)) = false := by decide) (he : starEach (e :: es) X.env = (false, eval e X.env) :: starEach es X.env := by rfl) (hpl : (backTo pos (starEach es X.env)).any (·.1) = false := by rfl) :
    PE X (.Call (.Name x p) (e :: es) [] pos) (tE g E (lmkF c nf lf la)) := by
  subst hmg; subst hba
  exact e_mkFR hnf (hK ▸ M) (hP ▸ hw ▸ hK ▸ O.F) hr hg hm ha hdb he hpl
/-- C(): without arguments -/
theorem c_mkF0 (O : Ok1 g mg base q ps k lf fd) (hP : X.prog = g.P) (hw : X.w = g.w) (hK : X.K = g.K) (hmg : X.mg = mg) (hba : X.base = base) (hnf : (g.cf c).length = nf) (M : Mk g.K (g.ca c) (He.fAd g.K q)) (hr : Room (k + 1) X.A) (hm : mg x = some (.ref (g.ca c))) (hg : Gl X x)
    (hdb : (x == ("__debug__" : Str)) = false := by decide) : PE X (.Call (.Name x p) [] [] pos) (tE g E (lmkF c nf lf anil)) := by
  subst hmg; subst hba
  refine (pe_make0 (hK ▸ M) (hP ▸ hw ▸ hK ▸ O.F) hr hg hm (hK ▸ O.B) .nil pass0 hdb).weak fun σ H Q ⟨ω, env, h, s, r, o⟩ => ?_
  exact fun z dx hz hd ne => mkF_ok (σ := σ) (as := []) O.N hnf .nil r (okO.of (E := E) (σ := σ) o) hz hd ne
theorem c_meth {m : Str} {pl : Sem Bool} (O : Ok1 g mg base q ps k lf fd) (hP : X.prog = g.P) (hw : X.w = g.w) (hK : X.K = g.K) (hmg : X.mg = mg) (hba : X.base = base) (hc : Cls g.K (g.ca c)) (hm : Meth g.K (g.ca c) m (He.fAd g.K q)) (hna : m ∉ g.cf c) (hr : Room k X.A)
    (he : PE X o (tE g E lo)) (ha : PA X (e :: es) (tA g E la)) (hst : starEach (e :: es) X.env = (false, eval e X.env) :: starEach es X.env := by rfl) (hpl : (backTo pos (starEach es X.env)).any (·.1) = false := by rfl)
    (ht : eval (.Call (.Attribute o m apos) (e :: es) [] pos) X.env = (do
      let ov ← eval o X.env
      standAt apos.atName
      let (f, first) ← holding [ov] (getMethod ov m pl)
      callWith pos f first (backTo pos (starEach (e :: es) X.env)) (backToKw pos (keywordEach [] X.env))) := by rfl) :
    PE X (.Call (.Attribute o m apos) (e :: es) [] pos) (tE g E (lmeth c lf lo la)) := by
  subst hmg; subst hba
  exact e_meth hK he (hK ▸ hc) (hK ▸ hm) hna (hP ▸ hw ▸ hK ▸ O.F) O.N hr (hK ▸ O.B) ha hst hpl ht
theorem c_meth0 {m : Str} {pl : Sem Bool} (O : Ok1 g mg base q ps k lf fd) (hP : X.prog = g.P) (hw : X.w = g.w) (hK : X.K = g.K) (hmg : X.mg = mg) (hba : X.base = base) (hc : Cls g.K (g.ca c)) (hm : Meth g.K (g.ca c) m (He.fAd g.K q)) (hna : m ∉ g.cf c) (hr : Room k X.A)
    (he : PE X o (tE g E lo))
    (ht : eval (.Call (.Attribute o m apos) [] [] pos) X.env = (do
      let ov ← eval o X.env
      standAt apos.atName
      let (f, first) ← holding [ov] (getMethod ov m pl)
      callWith pos f first (backTo pos (starEach [] X.env)) (backToKw pos (keywordEach [] X.env))) := by rfl) :
    PE X (.Call (.Attribute o m apos) [] [] pos) (tE g E (lmeth c lf lo anil)) := by
  subst hmg; subst hba
  exact e_meth0 hK he (hK ▸ hc) (hK ▸ hm) hna (hP ▸ hw ▸ hK ▸ O.F) O.N hr (hK ▸ O.B) ht
/-- C(k = v, ..) -/
theorem c_mkK {m : Nat} {ks : List Str} {pm : List Nat} {kws : List Keyword} (O : Ok1 g mg base q ps k lf fd) (hP : X.prog = g.P) (hw : X.w = g.w) (hK : X.K = g.K) (hmg : X.mg = mg) (hba : X.base = base) (hnf : (g.cf c).length = nf) (M : Mk g.K (g.ca c) (He.fAd g.K q)) (hr : Room (k + 1) X.A) (hm : mg x = some (.ref (g.ca c))) (hg : Gl X x)
    (hb : KBp g.K fd ps 1 ks pm) (hkm : ks.length = m) (hkw : PK X kws (tA g E la)) (hall : (backToKw pos (keywordEach kws X.env)).all (·.1.isSome) = true := by rfl) (hks : (backToKw pos (keywordEach kws X.env)).filterMap (·.1) = ks := by rfl)
    (hdb : (x == ("__debug__" : Str)) = false := by decide) (hpl : ((backTo pos (starEach [] X.env)).any (·.1) || (backToKw pos (keywordEach kws X.env)).any (·.1.isNone)) = false := by rfl) :
    PE X (.Call (.Name x p) [] kws pos) (tE g E (lmkK c nf m pm lf la)) := by
  subst hmg; subst hba
  exact e_mkK hnf (hK ▸ M) (hP ▸ hw ▸ hK ▸ O.F) O.N hr hg hm (hK ▸ hb) hkm hkw hall hks hdb hpl
end
def clsTB (K : Fr) (ca : Nat → Addr) (all : List Nat) : Bool := all.all fun t => Nat.blt t 16 || (isiCB K (ca (t - 16)) && PySem.W.plainGet K (ca (t - 16)) "__class__")
theorem clsTB_ok {g : Pg} {all : List Nat} (h : clsTB g.K g.ca all = true) : ∀ c, memN (c + 16) all = true → IsiC g.K (g.ca c) ∧ PySem.W.plainGet g.K (g.ca c) "__class__" = true := fun c hc => by
  have := List.all_eq_true.mp h _ (memN_mem.mp hc)
  rcases Bool.or_eq_true_iff.mp this with e | e
  · have := Nat.le_of_ble_eq_true (show Nat.ble (c + 16 + 1) 16 = true from e)
    omega
  · obtain ⟨e1, e2⟩ := ba2 e
    exact ⟨isiCB_ok (by simpa using e1), by simpa using e2⟩
def nmB (K : Fr) (ca : Nat → Addr) (nms : List (Nat × List Nat)) : Bool := nms.all fun p => cnB K (ca p.1) ⟨p.2.toArray⟩ && PyData.strOk ⟨p.2.toArray⟩
theorem nmLook_mem {c : Nat} {z : List Nat} : ∀ {l : List (Nat × List Nat)}, nmLook l c = some z → (c, z) ∈ l
  | [], h => by cases h
  | (d, us) :: r, h => by
    unfold nmLook at h
    cases e : Nat.beq d c with
    | true =>
      rw [e] at h
      have e := Nat.eq_of_beq_eq_true e
      subst e
      cases h
      exact List.mem_cons_self
    | false =>
      rw [e] at h
      exact List.mem_cons_of_mem _ (nmLook_mem h)
theorem nmB_ok {g : Pg} {nms : List (Nat × List Nat)} (h : nmB g.K g.ca nms = true) : ∀ c z, nmLook nms c = some z → ∃ y : Str, y.cps.toList = z ∧ PyData.strOk y = true ∧ CNm g.K (g.ca c) y := fun c z e => by
  obtain ⟨e1, e2⟩ := ba2 (List.all_eq_true.mp h _ (nmLook_mem e))
  exact ⟨⟨z.toArray⟩, by simp, e2, cnB_ok e1⟩
/-- own == by a table, over the whole program -/
def EqFsG (g : Pg) (mg : Str → Option Value) (base : Heap) (n : Nat) (all : List Nat) (fs : Nat → Option (List Nat × LF)) : Prop := ∀ c subs lf, fs c = some (subs, lf) → ∃ f fd ps, EqT g all c subs f ∧ FnOk g.P g.w g.K mg base CX0 n f fd ps (spL g ps.length lf) ∧ Takes ps.length lf ∧ Binds g.K fd ps []
def BoFsG (g : Pg) (mg : Str → Option Value) (base : Heap) (n : Nat) (fs : Nat → Option LF) : Prop := ∀ c lf, fs c = some lf → ∃ f fd ps, BoT g c f ∧ FnOk g.P g.w g.K mg base CX0 n f fd ps (spL g ps.length lf) ∧ Takes ps.length lf ∧ Binds g.K fd ps []
theorem EqFsG.mono {g : Pg} {mg : Str → Option Value} {base : Heap} {n m : Nat} {all : List Nat} {fs : Nat → Option (List Nat × LF)} (h : EqFsG g mg base n all fs) (hm : n ≤ m) : EqFsG g mg base m all fs := fun c subs lf e =>
  let ⟨f, fd, ps, a, b, d, e⟩ := h c subs lf e
  ⟨f, fd, ps, a, b.mono hm, d, e⟩
end Li

namespace Li
open PySem PySem.Spec PyProof.Rows L2
theorem OkL.mono {g : Pg} {mg : Str → Option Value} {base : Heap} {p : Str × Option Str} {ps : List Str} {k j : Nat} {lf : LF} (h : OkL g mg base p ps k lf) (hj : k ≤ j) : OkL g mg base p ps j lf :=
  let ⟨fd, O⟩ := h
  ⟨fd, O.F.mono hj, O.N, O.B, O.K⟩
theorem lfnS_takes {n N D : Nat} {b : LS} : Takes n (lfnS n N D b) := fun as h ne => by
  unfold lfnS
  rw [show (as.length == n) = false from beq_eq_false_iff_ne.mpr ne]
/-- all parameters given, though there are defaults -/
theorem bindsF {K : PySem.W.Frag} {x qual : Str} {params : Arguments} {body : List Stmt} {scope : Scope} {dvs : List V} {kws : List (Str × V)} {f : Addr} {fd : FuncData} {ps : List Str} {n : Nat} (F : FunD K x qual params body scope dvs kws f fd) (hd : dvs ≠ []) (hn : n = ps.length)
    (h : ∀ (T : Addr) (kV doc pm : Value) (an : Option Addr) (cdv ct : Value) (us its : List Value), us.length = n → its.length = dvs.length →
      ∃ k, bindArgs (PySem.W.fnOf x qual params body scope (.ref T) kV doc pm an cdv ct) ⟨us, []⟩ = seqItems? (.ref T) >>= k ∧ k (some its.toArray) = pure (ps.zip us)) : Binds K fd ps [] := by
  obtain ⟨ds, r, b⟩ := F.binds1 (ps := ps) n dvs.length hd (by omega) fun T kV doc pm an cdv ct us its h1 h2 => by
    obtain ⟨k, e1, e2⟩ := h T kV doc pm an cdv ct us its h1 h2
    refine ⟨k, e1, ?_⟩
    rw [← h2, List.drop_length, List.append_nil]
    exact e2
  rw [List.drop_length] at r
  cases r
  exact b
section
variable {X : Cx} {g : Pg} {E : EX}
def lpar (i j : Nat) (a : LA) : LS := fun env h => (a env h).s env fun vs h1 => match vs with
  | [v, w] => .nx ((env.set i (some v)).set j (some w)) h1
  | _ => .err
def lpar3 (i j l : Nat) (a : LA) : LS := fun env h => (a env h).s env fun vs h1 => match vs with
  | [u, v, w] => .nx (((env.set i (some u)).set j (some v)).set l (some w)) h1
  | _ => .err
theorem s_par {i j : Nat} {x y : Str} {a b : Expr} {la : LA} {px py pt pos : Pos} {kt k2 pt2} (hc : X.calm = true) (hN : X.N.Nodup) (hi : X.N[i]? = some x) (hj : X.N[j]? = some y) (hij : i ≠ j)
    (hx : X.env.scope.names.lookup x = some .local) (hy : X.env.scope.names.lookup y = some .local) (ha : PA X [a, b] (tA g E la))
    (hw : swappedStores [.Tuple [.Name x px, .Name y py] kt pt] (.Tuple [a, b] k2 pt2) X.env = pure (some [x, y]) := by rfl)
    (hs : swapsWithSole [.Tuple [.Name x px, .Name y py] kt pt] (.Tuple [a, b] k2 pt2) pos.line X.env = pure false := by rfl) :
    PS X (.Assign [.Tuple [.Name x px, .Name y py] kt pt] (.Tuple [a, b] k2 pt2) pos) (tS g E (lpar i j la)) :=
  (ps_par hc hN hi hj hij hx hy ha hw hs).weak fun D σ H ⟨ω, env, h, s, r, o⟩ => tL.stepS (R := RVs g) (f := fun env vs h1 => match vs with
    | [v, w] => .nx ((env.set i (some v)).set j (some w)) h1
    | _ => .err) s r o fun ω1 vs us h1 H1 s1 r1 rv l o1 => by
    cases rv with
    | nil => exact o1.elim
    | cons a t =>
      cases t with
      | nil => exact o1.elim
      | cons b t =>
        cases t with
        | nil => exact ⟨_, _, rfl, o1 ω1 _ H1 .rfl' r1 ((s1.set a i).set b j)⟩
        | cons _ _ => exact o1.elim
theorem s_par3 {i j l : Nat} {x y z : Str} {a b c : Expr} {la : LA} {px py pz pt pos : Pos} {kt k2 pt2} (hc : X.calm = true) (hN : X.N.Nodup) (hi : X.N[i]? = some x) (hj : X.N[j]? = some y) (hl : X.N[l]? = some z) (hij : i ≠ j) (hil : i ≠ l) (hjl : j ≠ l)
    (hx : X.env.scope.names.lookup x = some .local) (hy : X.env.scope.names.lookup y = some .local) (hz : X.env.scope.names.lookup z = some .local) (ha : PA X [a, b, c] (tA g E la))
    (hw : swappedStores [.Tuple [.Name x px, .Name y py, .Name z pz] kt pt] (.Tuple [a, b, c] k2 pt2) X.env = pure (some [x, y, z]) := by rfl)
    (hs : swapsWithSole [.Tuple [.Name x px, .Name y py, .Name z pz] kt pt] (.Tuple [a, b, c] k2 pt2) pos.line X.env = pure false := by rfl) :
    PS X (.Assign [.Tuple [.Name x px, .Name y py, .Name z pz] kt pt] (.Tuple [a, b, c] k2 pt2) pos) (tS g E (lpar3 i j l la)) :=
  (ps_par3 hc hN hi hj hl hij hil hjl hx hy hz ha hw hs).weak fun D σ H ⟨ω, env, h, s, r, o⟩ => tL.stepS (R := RVs g) (f := fun env vs h1 => match vs with
    | [u, v, w] => .nx (((env.set i (some u)).set j (some v)).set l (some w)) h1
    | _ => .err) s r o fun ω1 vs us h1 H1 s1 r1 rv lw o1 => by
    cases rv with
    | nil => exact o1.elim
    | cons a t =>
      cases t with
      | nil => exact o1.elim
      | cons b t =>
        cases t with
        | nil => exact o1.elim
        | cons c t =>
          cases t with
          | nil => exact ⟨_, _, _, rfl, o1 ω1 _ H1 .rfl' r1 (((s1.set a i).set b j).set c l)⟩
          | cons _ _ => exact o1.elim
end
theorem e_strK {X : Cx} {g : Pg} {E : EX} {x : Str} {s : List Nat} {j pos} (h : x.cps.toList = s := by decide +kernel) (hk : PyData.strOk x = true := by decide +kernel) : PE X (.Constant (.str x) j pos) (tE g E (lc (.str s))) := e_str h hk
/-- the defaults that fill up -/
def OkDs (g : Pg) (fd : FuncData) (ps : List Str) (dl : List Val) : Prop := ∃ (ds : List Value) (dvs : List V), Binds g.K fd ps ds ∧ Vals dvs ds ∧ ∀ ω, RVs g ω dl dvs
theorem rv_str {g : Pg} {ω : Wd} {x : Str} {s : List Nat} (h : x.cps.toList = s) (hk : PyData.strOk x = true) : RV g ω (.str s) (.str x) := h ▸ .str x hk
theorem valB_ref {g : Pg} {v : Val} {a : Addr} (h : valB g.K g.ca g.fa v (.ref a) = true) : ∀ ω, RV g ω v (.ref a) := by
  obtain ⟨x, r, rv⟩ := valB_ok h
  have e : x = .ref a := RelV.inj r (show RelV (.ref a) (.ref a) from rfl)
  subst e
  exact rv
/-- f(..) with defaults behind -/
theorem c_callD {X : Cx} {g : Pg} {E : EX} {k : Nat} {q : Str × Option Str} {fd : FuncData} {ps : List Str} {lf : LF} {x : Str} {p pos : Pos} {e : Expr} {es : List Expr} {la : LA} {mg : Str → Option Value} {base : Heap} {dl : List Val} (O : Ok1 g mg base q ps k lf fd) (D : OkDs g fd ps dl)
    (hP : X.prog = g.P) (hw : X.w = g.w) (hK : X.K = g.K) (hmg : X.mg = mg) (hba : X.base = base) (hr : Room k X.A) (hg : Gl X x) (hm : mg x = some (.ref (He.fAd g.K q)))
    (ha : PA X (e :: es) (tA g E la)) (hdb : (x == ("__debug__" : Str)) = false := by decide) (he : starEach (e :: es) X.env = (false, eval e X.env) :: starEach es X.env := by rfl) (hpl : (backTo pos (starEach es X.env)).any (·.1) = false := by rfl) :
    PE X (.Call (.Name x p) (e :: es) [] pos) (tE g E (lcallD lf dl la)) := by
  subst hmg; subst hba
  obtain ⟨ds, dvs, hb, hd, hdl⟩ := D
  exact e_callD (hP ▸ hw ▸ hK ▸ O.F) O.N hr hg hm (hK ▸ O.K) (hK ▸ hb) hd hdl ha hdb he hpl
theorem fn_starN {P : Program} {w : World} {K : PySem.W.Frag} {mg : Str → Option Value} {base : Heap} {g : Pg} {x qual : Str} {params : Arguments} {body : List Stmt} {scope : Scope} {kws : List (Str × V)} {f : Addr} {fd : FuncData} {N ps : List Str} {pv : Str} {k : Nat} {b : LS} (F : FunD K x qual params body scope [] kws f fd) (S : FnScope N (ps ++ [pv]) scope)
    (hb : ∀ (kV doc pm : Value) (an : Option Addr) (cdv ct : Value) (us rest : List Value), us.length = ps.length → bindArgs (PySem.W.fnOf x qual params body scope .none kV doc pm an cdv ct) ⟨us ++ rest, []⟩ = (newTuple rest >>= fun t => pure (ps.zip us ++ [(pv, t)])))
    (hbody : ∀ (cdv : Value) (A : Around) (outer : List PySem.Env) (s : Shared) (H : Hp) (E : XK), Room k (A.deeper (envOfC qual scope s.heap.objs.size f cdv)) → PSs (cxOf CX0 P w K mg base N qual scope f cdv A outer s H E).nox body (tS g E0x b)) :
    FnR P w K mg base CX0 (k + 1) f (spR g (lfnStar ps.length N.length b)) := by
  obtain ⟨oc, od, dV, kV, doc, pm, an, cdv, ct, osl, rfl, lk, hcd, hD, hK⟩ := F.ex
  rcases hD with ⟨_, rfl⟩ | ⟨e, _⟩
  · refine FnR.imp (StX.fn_star (sp := spL g (ps.length + 1) (lfn (ps.length + 1) N.length b)) lk hcd S StX.cxUp_none (fun us rest hl => hb kV doc pm an cdv ct us rest hl) fun A outer s H vs Q E hr h => ⟨tS g E0x b, (hbody cdv A outer s H E hr).nox, ?_⟩) fun vs H Q E h => ?_
    · obtain ⟨hl, ω, h, as, rv, hr', o⟩ := h
      have hla : as.length = ps.length + 1 := rv.length.symm.trans hl
      unfold lfn at o
      rw [show (as.length == ps.length + 1) = true from beq_iff_eq.mpr hla] at o
      refine ⟨⟨ω.Z, [] :: ω.r, ω.x⟩, env0 N.length (ps.length + 1) as, [] :: h, ?_, hr'.push, fin_ok o⟩
      have := start_rel (rv.mono (pushIn (Z := ω.Z) (r := ω.r) (y := ω.x) (z := ω.x) [])) N
      rw [hla] at this
      exact this
    · obtain ⟨ω, hh, as, rv, hr', o⟩ := h
      unfold lfnStar at o
      cases q1 : Nat.ble ps.length as.length with
      | false => simp only [q1] at o; exact o.elim
      | true =>
        cases q2 : lim as.length with
        | false => simp only [q1, q2] at o; exact o.elim
        | true =>
          simp only [q1, q2] at o
          have hn := Nat.le_of_ble_eq_true q1
          have hl := rv.length
          have hz := lim_le q2
          refine ⟨vs.take ps.length, vs.drop ps.length, (List.take_append_drop _ _).symm, by rw [List.length_take]; omega, by rw [List.length_drop]; omega, fun p hp => ?_⟩
          obtain ⟨h1, l1, rt⟩ := new_tup hr' (rv.drop ps.length) hp
          refine ⟨by simp; omega, _, hh, _, ((rv.take ps.length).mono l1.to).append (.cons rt .nil), h1, ?_⟩
          exact okO.mono o l1
  · exact absurd rfl e
theorem SupAt.head {P : Program} {K : PySem.W.Frag} {d : SupE} {fd : FuncData} (S : SupAt P K d fd) {ar : Arg} (h : (d.params.posonlyargs ++ d.params.args).head? = some ar) : (fd.params.posonlyargs ++ fd.params.args).head? = some ar := by
  obtain ⟨kV, doc, pm, an, cd, ct, e⟩ := S.fd
  subst e
  exact h
def scrV (ns : List Int) : List Val := ns.map .int
theorem scr_RVs {g : Pg} {ω : Wd} : ∀ ns : List Int, RVs g ω (scrV ns) (ns.map V.int)
  | [] => .nil
  | n :: ns => .cons (.int n) (scr_RVs ns)
theorem is_scr {g : Pg} {ω : Wd} {a : Addr} (hz : SqL g.K ω.Z a (g.ns.map V.int)) : IsIt g ω (.vals (scrV g.ns)) (Itl g.K a) := by
  intro i ω' H h xs l r e
  cases e
  have hq : SqL g.K H a (g.ns.map V.int) := SqL.mono (fun b o q => r.z b o (l.z b o q)) hz
  have rs := (scr_RVs (g := g) (ω := ω) g.ns)
  refine ⟨fun v ev => ?_, fun ev => ⟨_, hq, ?_⟩⟩
  · obtain ⟨u, hu, ru⟩ := rs.get ev
    refine ⟨⟨_, u, hq, hu⟩, fun x H' ⟨eH, hx⟩ => ?_⟩
    subst eH
    have := hx _ hq
    rw [hu] at this; cases this
    exact ⟨ω', .rfl', r, ru.mono ⟨l.z, l.look⟩⟩
  · rw [rs.length]
    exact List.getElem?_eq_none_iff.mp ev
/-- for .. in script -/
def lscr (ns : List Int) (i : Nat) : LI := fun env h => match env[i]? with
  | some (some (.ty n)) => (match Nat.beq n 999 with
    | true => .ok (.vals (scrV ns)) h
    | false => .err)
  | _ => .err
theorem i_scr {X : Cx} {g : Pg} {E : EX} {tg : Expr} {i : Nat} {x : Str} {pos : Pos} (hK : X.K = g.K) (hN : X.N[i]? = some x) (hv : Vis X.env.scope x) (hd : (x == ("__debug__" : Str)) = false := by decide) (hcd : (x == ("__classdict__" : Str)) = false := by decide) : PI X tg (.Name x pos) (tI g E (lscr g.ns i)) := by
  refine (pi_of it_lst (pe_var hN hv hd hcd)).weak fun σ H R ⟨ω, env, h, s, r, o⟩ => ?_
  unfold lscr at o
  cases e : env[i]? with
  | none => rw [e] at o; exact o.elim
  | some v =>
    rw [e] at o
    cases v with
    | none => exact o.elim
    | some v =>
      cases v with
      | ty n =>
        cases e2 : Nat.beq n 999 with
        | false => simp only [e2] at o; exact o.elim
        | true =>
          simp only [e2] at o
          have := Nat.eq_of_beq_eq_true e2
          subst this
          obtain ⟨u, h1, h2⟩ := s.get i _ e
          refine ⟨u, h1, ?_⟩
          cases h2 with
          | ty _ h9 => cases h9
          | scr hz =>
            exact ⟨_, rfl, ⟨_, hK ▸ SqL.mono r.z hz⟩, hK ▸ o ω _ H .rfl' r (is_scr hz)⟩
      | _ => exact o.elim
end Li

namespace Li
open PySem PySem.Spec PyProof.Rows L2
def spScr (K : PySem.W.Frag) : Sp := fun vs H Q _ => ∃ (a : Addr) (ns : List Int), vs = [.ref a] ∧ ns.length ≤ 63 ∧ SqL K H a (ns.map V.int) ∧ ∀ H', Q (.bl true) H'
theorem law_fn {P : Program} {w : World} {K : PySem.W.Frag} {mg : Str → Option Value} {base : Heap} {f : Addr} {fd : FuncData} {k : Nat} {gf : List Int → Pg} {m : List Int → LF} (hK : ∀ ns, (gf ns).K = K) (hns : ∀ ns, (gf ns).ns = ns)
    (F : ∀ ns, FnOk P w K mg base CX0 k f fd ["script"] (spL (gf ns) 1 (m ns))) (law : ∀ ns : List Int, ns.length ≤ 63 → ∃ h, m ns [.ty 999] [] = some (.bl true, h)) : FnOk P w K mg base CX0 k f fd ["script"] (spScr K) := by
  refine ⟨fun vs H Q E h => ?_, fun A outer s H args us vs Q E hr e0 hb r h => ?_⟩
  · obtain ⟨a, ns, rfl, _⟩ := h
    rfl
  · obtain ⟨a, ns, rfl, hl, hS, q⟩ := h
    refine (F ns).run A outer s H args us _ Q E hr e0 hb r ⟨rfl, ⟨H, [], []⟩, [], [.ty 999], .cons (.scr ?_) .nil, ⟨fun _ _ h => h, List.nodup_nil, fun a ha => ?_, .nil, fun p hp => ?_, List.nodup_nil⟩, ?_⟩
    · rw [hK, hns]; exact hS
    · cases ha
    · cases hp
    · obtain ⟨h, e⟩ := law ns hl
      rw [e]
      intro ω' b H' _ _ rb
      cases rb
      exact q H'
end Li

namespace Li
open PySem PySem.Spec PyProof.Rows L2
def finI (r : SRes) : Option (Val × LHeap) := match r with
  | .rt v h => some (v, h)
  | .nx _ h => some (.non, h)
  | _ => none
def lfnI (n N : Nat) (b : LS) : LF := fun as h => match as.length == n with
  | true => finI (b (env0 N n as) h)
  | false => none
theorem finI_ok {g : Pg} {ω : Wd} {r : SRes} {Q : VK} (o : okO g ω (finI r) Q) : okS g ω E0x { nx := fun _ H' => Q .non H', rt := Q } r := by
  cases r with
  | rt v h => exact fun ω' u H' l x rv => o ω' u H' l x rv
  | nx e h => exact fun ω' σ' H' l x _ => o ω' .non H' l x .non
  | bk e h => exact o.elim
  | ct e h => exact o.elim
  | exc x e h => exact o.elim
  | err => exact o.elim
theorem lfnI_takes {n N : Nat} {b : LS} : Takes n (lfnI n N b) := fun as h ne => by
  unfold lfnI
  rw [show (as.length == n) = false from beq_eq_false_iff_ne.mpr ne]
section
variable {P : Program} {w : World} {K : PySem.W.Frag} {mg : Str → Option Value} {base : Heap}
theorem fn_liteI {g : Pg} {x qual : Str} {params : Arguments} {body : List Stmt} {scope : Scope} {dvs : List V} {kws : List (Str × V)} {f : Addr} {fd : FuncData} {N ps : List Str} {k : Nat} {b : LS} (F : FunD K x qual params body scope dvs kws f fd) (S : FnScope N ps scope)
    (hbody : ∀ (cdv : Value) (A : Around) (outer : List PySem.Env) (s : Shared) (H : Hp) (E : XK), Room k (A.deeper (envOfC qual scope s.heap.objs.size f cdv)) → PSs (cxOf CX0 P w K mg base N qual scope f cdv A outer s H E).nox body (tS g E0x b)) :
    FnOk P w K mg base CX0 (k + 1) f fd ps (spL g ps.length (lfnI ps.length N.length b)) := by
  refine F.ok S (fun vs H Q E h => h.1) fun cdv A outer s H vs Q E hr h => ⟨tS g E0x b, (hbody cdv A outer s H E hr).nox, ?_⟩
  obtain ⟨hl, ω, h, as, rv, hr', o⟩ := h
  have hla : as.length = ps.length := rv.length.symm.trans hl
  unfold lfnI at o
  rw [show (as.length == ps.length) = true from beq_iff_eq.mpr hla] at o
  refine ⟨ω, env0 N.length ps.length as, h, ?_, hr', finI_ok o⟩
  have := start_rel rv N
  rw [hla] at this
  exact this
end
end Li

namespace Gk47
open PySem PySem.Spec PyProof.Rows L2 Li
def top (i : Nat) : Stmt := PySem.Challenge.pw_allhadit_k47_papers_of_any_values.main.body.getD i (.Pass ⟨0, 0, 0, 0⟩)
def kidsOf : Stmt → List Stmt
  | .ClassDef (body := b) .. => b
  | _ => []
def cname : Nat → Str
  | 0 => "Paper"
  | 1 => "Denial"
  | 2 => "Talk"
  | 3 => "Link"
  | 4 => "Early"
  | 5 => "Net"
  | 6 => "Stage"
  | 7 => "Idle"
  | 8 => "Done"
  | 9 => "Blamed"
  | 10 => "Blocked"
  | 11 => "Unison"
  | _ => ""
def cfs : Nat → List Str
  | 0 => ["word", "parts"]
  | 1 => ["word", "parts"]
  | 2 => ["moods", "words", "sure", "rules"]
  | 3 => ["left", "right"]
  | 4 => ["word", "parts", "kinds", "events"]
  | 5 => ["people", "links", "near", "ends", "pairs", "is_tree"]
  | 6 => ["word", "parts", "told", "net", "events", "around", "person", "neighbour"]
  | 7 => ["word", "parts"]
  | 8 => ["word", "parts", "rows"]
  | 9 => ["word", "parts", "at", "person", "neighbour", "paper"]
  | 10 => ["word", "parts", "person", "neighbour", "paper"]
  | 11 => ["word", "parts", "level", "rows"]
  | _ => []
def fname : Nat → Str × Option Str
  | _ => ("", none)
abbrev cas (K : PySem.W.Frag) : Nat → Addr := fun c => He.ga K (cname c)
abbrev fas (K : PySem.W.Frag) : Nat → Addr := fun f => He.fAd K (fname f)
abbrev gp (P : Program) (w : World) (K : PySem.W.Frag) (ns : List Int) : Pg := ⟨P, w, K, cas K, cfs, fas K, ns⟩
abbrev alls : List Nat := [0, 1, 2, 3, 4, 5, 6, 16, 17, 18, 19, 20, 21, 22, 23, 24, 25, 26, 27]
abbrev isis : IsiT := [(0, [0]), (1, [1]), (2, [1, 2]), (3, [3]), (4, [4]), (5, [5]), (6, [6]), (16, [16, 17, 20, 22, 23, 24, 25, 26, 27]), (17, [17, 20, 22, 25, 26]), (18, [18]), (19, [19]), (20, [20]), (21, [21]), (22, [22]), (23, [23]), (24, [24]), (25, [25]), (26, [26]), (27, [27])]
abbrev nms : List (Nat × List Nat) := [(0, [80, 97, 112, 101, 114]), (1, [68, 101, 110, 105, 97, 108]), (2, [84, 97, 108, 107]), (3, [76, 105, 110, 107]), (4, [69, 97, 114, 108, 121]), (5, [78, 101, 116]), (6, [83, 116, 97, 103, 101]), (7, [73, 100, 108, 101]), (8, [68, 111, 110, 101]), (9, [66, 108, 97, 109, 101, 100]), (10, [66, 108, 111, 99, 107, 101, 100]), (11, [85, 110, 105, 115, 111, 110])]
abbrev s_is_listed : Stmt := (top 8)
abbrev s_is_row : Stmt := (top 9)
abbrev s_is_name : Stmt := (top 10)
abbrev s_are_so_many : Stmt := (top 11)
abbrev s_fixed : Stmt := (top 13)
abbrev s_are_unlike : Stmt := (top 27)
abbrev s_is_rule : Stmt := (top 28)
abbrev s_Talk_init : Stmt := ((kidsOf (top 29)).getD 0 (.Pass ⟨0, 0, 0, 0⟩))
abbrev s_Talk_eq : Stmt := ((kidsOf (top 29)).getD 1 (.Pass ⟨0, 0, 0, 0⟩))
abbrev s_need_talk : Stmt := (top 30)
abbrev s_plain_talk : Stmt := (top 32)
abbrev s_Link_init : Stmt := ((kidsOf (top 38)).getD 0 (.Pass ⟨0, 0, 0, 0⟩))
abbrev s_Link_eq : Stmt := ((kidsOf (top 38)).getD 1 (.Pass ⟨0, 0, 0, 0⟩))
abbrev s_Link_turned : Stmt := ((kidsOf (top 38)).getD 3 (.Pass ⟨0, 0, 0, 0⟩))
abbrev s_are_people : Stmt := (top 44)
abbrev s_is_joint : Stmt := (top 45)
abbrev s_are_joints : Stmt := (top 46)
abbrev s_reached : Stmt := (top 47)
abbrev s_Net_init : Stmt := ((kidsOf (top 48)).getD 0 (.Pass ⟨0, 0, 0, 0⟩))
abbrev s_Net_eq : Stmt := ((kidsOf (top 48)).getD 1 (.Pass ⟨0, 0, 0, 0⟩))
abbrev s_Paper_init : Stmt := ((kidsOf (top 15)).getD 0 (.Pass ⟨0, 0, 0, 0⟩))
abbrev s_Paper_bool : Stmt := ((kidsOf (top 15)).getD 1 (.Pass ⟨0, 0, 0, 0⟩))
abbrev s_Denial_bool : Stmt := ((kidsOf (top 16)).getD 0 (.Pass ⟨0, 0, 0, 0⟩))
abbrev s_Paper_eq : Stmt := ((kidsOf (top 15)).getD 2 (.Pass ⟨0, 0, 0, 0⟩))
abbrev s_are_alike : Stmt := (top 14)
abbrev s_Early_init : Stmt := ((kidsOf (top 40)).getD 0 (.Pass ⟨0, 0, 0, 0⟩))
abbrev s_Stage_init : Stmt := ((kidsOf (top 50)).getD 0 (.Pass ⟨0, 0, 0, 0⟩))
abbrev s_Idle_init : Stmt := ((kidsOf (top 52)).getD 0 (.Pass ⟨0, 0, 0, 0⟩))
abbrev s_Done_init : Stmt := ((kidsOf (top 53)).getD 0 (.Pass ⟨0, 0, 0, 0⟩))
abbrev s_Blamed_init : Stmt := ((kidsOf (top 54)).getD 0 (.Pass ⟨0, 0, 0, 0⟩))
abbrev s_Blocked_init : Stmt := ((kidsOf (top 55)).getD 0 (.Pass ⟨0, 0, 0, 0⟩))
abbrev s_Unison_init : Stmt := ((kidsOf (top 57)).getD 0 (.Pass ⟨0, 0, 0, 0⟩))
abbrev s_law_pen : Stmt := (top 59)
abbrev s_law_draw : Stmt := (top 60)
abbrev s_law_pick : Stmt := (top 61)
abbrev s_law : Stmt := (top 62)
def faL0 : List He.Fa := [.free "tuple",
  .free "list",
  .free "isinstance",
  .glo "is_listed",
  .free "len",
  .free "str",
  .free "all",
  .glo "fixed",
  .glo "is_row",
  .free "bool",
  .glo "are_so_many",
  .glo "is_name",
  .glo "are_unlike",
  .free "zip",
  .glo "is_rule",
  .glo "Talk",
  .glo "need_talk",
  .glo "Link",
  .glo "is_joint",
  .glo "are_people"]
def faL1 : List He.Fa := [.glo "are_joints",
  .free "sorted",
  .glo "reached",
  .glo "are_alike",
  .free "super",
  .free "int",
  .glo "_law_draw",
  .glo "_law_pen",
  .glo "plain_talk",
  .glo "Net",
  .glo "Early",
  .glo "Unison",
  .free "range",
  .glo "_law_pick",
  .glo "Stage",
  .glo "Paper",
  .glo "Denial",
  .glo "Done",
  .glo "Blamed",
  .glo "Blocked"]
def faL2 : List He.Fa := [.glo "Idle",
  .glo "law"]
def faL : List He.Fa := faL0 ++ faL1 ++ faL2
def exL0 : List FaB := [fun K => isiB K (cas K) alls isis,
  fun K => gvB K (cas K) (fas K) "MOST_LETTERS" (.int 8),
  fun K => gvB K (cas K) (fas K) "LETTERS" (.str [97, 98, 99, 100, 101, 102, 103, 104, 105, 106, 107, 108, 109, 110, 111, 112, 113, 114, 115, 116, 117, 118, 119, 120, 121, 122]),
  fun K => gvB K (cas K) (fas K) "STATUSES" (.tup [(.str [108, 97, 99, 107]), (.str [104, 97, 118, 101]), (.str [103, 111, 110, 101])]),
  fun K => gvB K (cas K) (fas K) "GIVE" (.str [103, 105, 118, 101]),
  fun K => gvB K (cas K) (fas K) "BEAT" (.str [98, 101, 97, 116]),
  fun K => gvB K (cas K) (fas K) "MOST_MOODS" (.int 5),
  fun K => gvB K (cas K) (fas K) "MOST_WORDS" (.int 4),
  fun K => gvB K (cas K) (fas K) "MOST_RULES" (.int 60),
  fun K => fldB K (cas K) cfs "rules" [(2, 3)],
  fun K => fldB K (cas K) cfs "sure" [(2, 2)],
  fun K => fldB K (cas K) cfs "words" [(2, 1)],
  fun K => fldB K (cas K) cfs "moods" [(2, 0)],
  fun K => gvB K (cas K) (fas K) "Talk" (.cls 2),
  fun K => eqTB K (cas K) alls 2 [] (He.fAd K ("Talk", some "__eq__")),
  fun K => notBB K (He.ga K "Talk"),
  fun K => mkB K (He.ga K "Talk") (He.fAd K ("Talk", some "__init__")),
  fun K => gvB K (cas K) (fas K) "PLAIN_RULES" (.tup [(.tup [(.str [104, 97, 118, 101]), .non, (.str [111, 110, 101]), (.str [98, 101, 97, 116]), (.str [116, 119, 111]), (.str [103, 105, 118, 101])]), (.tup [(.str [104, 97, 118, 101]), (.bl true), (.str [116, 119, 111]), (.str [98, 101, 97, 116]), (.str [111, 110, 101]), (.str [97, 108, 108])]), (.tup [(.str [104, 97, 118, 101]), (.bl false), (.str [116, 119, 111]), (.str [98, 101, 97, 116]), (.str [111, 110, 101]), .non]), (.tup [(.str [104, 97, 118, 101]), .non, .non, (.str [97, 108, 108]), (.str [97, 108, 108]), .non]), (.tup [(.str [104, 97, 118, 101]), (.bl true), (.str [97, 108, 108]), (.str [98, 101, 97, 116]), .non, (.str [97, 108, 108])]), (.tup [(.str [103, 111, 110, 101]), .non, .non, (.str [98, 101, 97, 116]), .non, (.str [97, 108, 108])])]),
  fun K => gvB K (cas K) (fas K) "LEFT" (.str [108, 101, 102, 116]),
  fun K => gvB K (cas K) (fas K) "RIGHT" (.str [114, 105, 103, 104, 116])]
def exL1 : List FaB := [fun K => fldB K (cas K) cfs "right" [(3, 1)],
  fun K => fldB K (cas K) cfs "left" [(3, 0)],
  fun K => gvB K (cas K) (fas K) "Link" (.cls 3),
  fun K => eqTB K (cas K) alls 3 [] (He.fAd K ("Link", some "__eq__")),
  fun K => notBB K (He.ga K "Link"),
  fun K => mkB K (He.ga K "Link") (He.fAd K ("Link", some "__init__")),
  fun K => gvB K (cas K) (fas K) "MOST_PEOPLE" (.int 60),
  fun K => gvB K (cas K) (fas K) "LEAST_PEOPLE" (.int 2),
  fun K => valB K (cas K) (fas K) (.tup []) (.ref (He.dflAt ("reached", none) 0 K)),
  fun K => fldB K (cas K) cfs "people" [(5, 0)],
  fun K => fldB K (cas K) cfs "links" [(5, 1)],
  fun K => fldB K (cas K) cfs "near" [(5, 2)],
  fun K => fldB K (cas K) cfs "ends" [(5, 3)],
  fun K => methB K (He.ga K "Link") "turned" (He.fAd K ("Link", some "turned")),
  fun K => clsB K (He.ga K "Link"),
  fun K => fldB K (cas K) cfs "pairs" [(5, 4)],
  fun K => fldB K (cas K) cfs "is_tree" [(5, 5)],
  fun K => gvB K (cas K) (fas K) "Net" (.cls 5),
  fun K => fldB K (cas K) cfs "word" [(0, 0), (1, 0), (4, 0), (6, 0), (7, 0), (8, 0), (9, 0), (10, 0), (11, 0)],
  fun K => fldB K (cas K) cfs "parts" [(0, 1), (1, 1), (4, 1), (6, 1), (7, 1), (8, 1), (9, 1), (10, 1), (11, 1)]]
def exL2 : List FaB := [fun K => gvB K (cas K) (fas K) "Paper" (.cls 0),
  fun K => eqTB K (cas K) alls 0 [17, 20, 22, 23, 24, 25, 26, 27] (He.fAd K ("Paper", some "__eq__")),
  fun K => notBB K (He.ga K "Paper"),
  fun K => eqTB K (cas K) alls 1 [20, 22, 25, 26] (He.fAd K ("Paper", some "__eq__")),
  fun K => notBB K (He.ga K "Denial"),
  fun K => eqTB K (cas K) alls 4 [] (He.fAd K ("Paper", some "__eq__")),
  fun K => notBB K (He.ga K "Early"),
  fun K => eqTB K (cas K) alls 6 [] (He.fAd K ("Paper", some "__eq__")),
  fun K => notBB K (He.ga K "Stage"),
  fun K => eqTB K (cas K) alls 7 [] (He.fAd K ("Paper", some "__eq__")),
  fun K => notBB K (He.ga K "Idle"),
  fun K => eqTB K (cas K) alls 8 [] (He.fAd K ("Paper", some "__eq__")),
  fun K => notBB K (He.ga K "Done"),
  fun K => eqTB K (cas K) alls 9 [] (He.fAd K ("Paper", some "__eq__")),
  fun K => notBB K (He.ga K "Blamed"),
  fun K => eqTB K (cas K) alls 10 [] (He.fAd K ("Paper", some "__eq__")),
  fun K => notBB K (He.ga K "Blocked"),
  fun K => eqTB K (cas K) alls 11 [] (He.fAd K ("Paper", some "__eq__")),
  fun K => notBB K (He.ga K "Unison"),
  fun K => eqTB K (cas K) alls 5 [] (He.fAd K ("Net", some "__eq__"))]
def exL3 : List FaB := [fun K => notBB K (He.ga K "Net"),
  fun K => fldB K (cas K) cfs "events" [(4, 3), (6, 4)],
  fun K => fldB K (cas K) cfs "kinds" [(4, 2)],
  fun K => supCB K (He.ga K "Early") (He.ga K "Early") (He.fAd K ("Paper", some "__init__")),
  fun K => fldB K (cas K) cfs "neighbour" [(6, 7), (9, 4), (10, 3)],
  fun K => fldB K (cas K) cfs "person" [(6, 6), (9, 3), (10, 2)],
  fun K => fldB K (cas K) cfs "around" [(6, 5)],
  fun K => fldB K (cas K) cfs "net" [(6, 3)],
  fun K => fldB K (cas K) cfs "told" [(6, 2)],
  fun K => supCB K (He.ga K "Stage") (He.ga K "Stage") (He.fAd K ("Paper", some "__init__")),
  fun K => supCB K (He.ga K "Idle") (He.ga K "Idle") (He.fAd K ("Paper", some "__init__")),
  fun K => fldB K (cas K) cfs "rows" [(8, 2), (11, 3)],
  fun K => supCB K (He.ga K "Done") (He.ga K "Done") (He.fAd K ("Paper", some "__init__")),
  fun K => fldB K (cas K) cfs "paper" [(9, 5), (10, 4)],
  fun K => fldB K (cas K) cfs "at" [(9, 2)],
  fun K => supCB K (He.ga K "Blamed") (He.ga K "Blamed") (He.fAd K ("Paper", some "__init__")),
  fun K => supCB K (He.ga K "Blocked") (He.ga K "Blocked") (He.fAd K ("Paper", some "__init__")),
  fun K => fldB K (cas K) cfs "level" [(11, 2)],
  fun K => supCB K (He.ga K "Unison") (He.ga K "Unison") (He.fAd K ("Paper", some "__init__")),
  fun K => boB K (He.ga K "Paper") (He.fAd K ("Paper", some "__bool__"))]
def exL4 : List FaB := [fun K => boB K (He.ga K "Denial") (He.fAd K ("Denial", some "__bool__")),
  fun K => boB K (He.ga K "Early") (He.fAd K ("Denial", some "__bool__")),
  fun K => boB K (He.ga K "Stage") (He.fAd K ("Denial", some "__bool__")),
  fun K => boB K (He.ga K "Idle") (He.fAd K ("Paper", some "__bool__")),
  fun K => boB K (He.ga K "Done") (He.fAd K ("Paper", some "__bool__")),
  fun K => boB K (He.ga K "Blamed") (He.fAd K ("Denial", some "__bool__")),
  fun K => boB K (He.ga K "Blocked") (He.fAd K ("Denial", some "__bool__")),
  fun K => boB K (He.ga K "Unison") (He.fAd K ("Paper", some "__bool__")),
  fun K => mkB K (He.ga K "Net") (He.fAd K ("Net", some "__init__")),
  fun K => mkB K (He.ga K "Early") (He.fAd K ("Early", some "__init__")),
  fun K => mkB K (He.ga K "Unison") (He.fAd K ("Unison", some "__init__")),
  fun K => mkB K (He.ga K "Stage") (He.fAd K ("Stage", some "__init__")),
  fun K => gvB K (cas K) (fas K) "Denial" (.cls 1),
  fun K => mkB K (He.ga K "Paper") (He.fAd K ("Paper", some "__init__")),
  fun K => mkB K (He.ga K "Denial") (He.fAd K ("Paper", some "__init__")),
  fun K => mkB K (He.ga K "Done") (He.fAd K ("Done", some "__init__")),
  fun K => mkB K (He.ga K "Blamed") (He.fAd K ("Blamed", some "__init__")),
  fun K => mkB K (He.ga K "Blocked") (He.fAd K ("Blocked", some "__init__")),
  fun K => mkB K (He.ga K "Idle") (He.fAd K ("Idle", some "__init__")),
  fun K => clsTB K (cas K) alls]
def exL5 : List FaB := [fun K => nmB K (cas K) nms]
def exL : List FaB := exL0 ++ exL1 ++ exL2 ++ exL3 ++ exL4 ++ exL5
def dd_is_listed : He.DefD := ⟨("is_listed", none), "is_listed", "is_listed", defArgs s_is_listed, defBody s_is_listed, defScope s_is_listed, [], []⟩
def dd_is_row : He.DefD := ⟨("is_row", none), "is_row", "is_row", defArgs s_is_row, defBody s_is_row, defScope s_is_row, [], []⟩
def dd_is_name : He.DefD := ⟨("is_name", none), "is_name", "is_name", defArgs s_is_name, defBody s_is_name, defScope s_is_name, [], []⟩
def dd_are_so_many : He.DefD := ⟨("are_so_many", none), "are_so_many", "are_so_many", defArgs s_are_so_many, defBody s_are_so_many, defScope s_are_so_many, [], []⟩
def dd_fixed : He.DefD := ⟨("fixed", none), "fixed", "fixed", defArgs s_fixed, defBody s_fixed, defScope s_fixed, [], []⟩
def dd_are_unlike : He.DefD := ⟨("are_unlike", none), "are_unlike", "are_unlike", defArgs s_are_unlike, defBody s_are_unlike, defScope s_are_unlike, [], []⟩
def dd_is_rule : He.DefD := ⟨("is_rule", none), "is_rule", "is_rule", defArgs s_is_rule, defBody s_is_rule, defScope s_is_rule, [], []⟩
def dd_Talk_init : He.DefD := ⟨("Talk", some "__init__"), "__init__", "Talk.__init__", defArgs s_Talk_init, defBody s_Talk_init, defScope s_Talk_init, [], []⟩
def dd_Talk_eq : He.DefD := ⟨("Talk", some "__eq__"), "__eq__", "Talk.__eq__", defArgs s_Talk_eq, defBody s_Talk_eq, defScope s_Talk_eq, [], []⟩
def dd_need_talk : He.DefD := ⟨("need_talk", none), "need_talk", "need_talk", defArgs s_need_talk, defBody s_need_talk, defScope s_need_talk, [.str "talk"], []⟩
def dd_plain_talk : He.DefD := ⟨("plain_talk", none), "plain_talk", "plain_talk", defArgs s_plain_talk, defBody s_plain_talk, defScope s_plain_talk, [], []⟩
def dd_Link_init : He.DefD := ⟨("Link", some "__init__"), "__init__", "Link.__init__", defArgs s_Link_init, defBody s_Link_init, defScope s_Link_init, [], []⟩
def dd_Link_eq : He.DefD := ⟨("Link", some "__eq__"), "__eq__", "Link.__eq__", defArgs s_Link_eq, defBody s_Link_eq, defScope s_Link_eq, [], []⟩
def dd_Link_turned : He.DefD := ⟨("Link", some "turned"), "turned", "Link.turned", defArgs s_Link_turned, defBody s_Link_turned, defScope s_Link_turned, [], []⟩
def dd_are_people : He.DefD := ⟨("are_people", none), "are_people", "are_people", defArgs s_are_people, defBody s_are_people, defScope s_are_people, [], []⟩
def dd_is_joint : He.DefD := ⟨("is_joint", none), "is_joint", "is_joint", defArgs s_is_joint, defBody s_is_joint, defScope s_is_joint, [], []⟩
def dd_are_joints : He.DefD := ⟨("are_joints", none), "are_joints", "are_joints", defArgs s_are_joints, defBody s_are_joints, defScope s_are_joints, [], []⟩
def dd_reached : He.DefD := ⟨("reached", none), "reached", "reached", defArgs s_reached, defBody s_reached, defScope s_reached, [.adr (He.dflAt ("reached", none) 0)], []⟩
def dd_Net_init : He.DefD := ⟨("Net", some "__init__"), "__init__", "Net.__init__", defArgs s_Net_init, defBody s_Net_init, defScope s_Net_init, [], []⟩
def dd_Net_eq : He.DefD := ⟨("Net", some "__eq__"), "__eq__", "Net.__eq__", defArgs s_Net_eq, defBody s_Net_eq, defScope s_Net_eq, [], []⟩
def dd_Paper_init : He.DefD := ⟨("Paper", some "__init__"), "__init__", "Paper.__init__", defArgs s_Paper_init, defBody s_Paper_init, defScope s_Paper_init, [], []⟩
def dd_Paper_bool : He.DefD := ⟨("Paper", some "__bool__"), "__bool__", "Paper.__bool__", defArgs s_Paper_bool, defBody s_Paper_bool, defScope s_Paper_bool, [], []⟩
def dd_Denial_bool : He.DefD := ⟨("Denial", some "__bool__"), "__bool__", "Denial.__bool__", defArgs s_Denial_bool, defBody s_Denial_bool, defScope s_Denial_bool, [], []⟩
def dd_Paper_eq : He.DefD := ⟨("Paper", some "__eq__"), "__eq__", "Paper.__eq__", defArgs s_Paper_eq, defBody s_Paper_eq, defScope s_Paper_eq, [], []⟩
def dd_are_alike : He.DefD := ⟨("are_alike", none), "are_alike", "are_alike", defArgs s_are_alike, defBody s_are_alike, defScope s_are_alike, [], []⟩
def dd_law_pen : He.DefD := ⟨("_law_pen", none), "_law_pen", "_law_pen", defArgs s_law_pen, defBody s_law_pen, defScope s_law_pen, [], []⟩
def dd_law_draw : He.DefD := ⟨("_law_draw", none), "_law_draw", "_law_draw", defArgs s_law_draw, defBody s_law_draw, defScope s_law_draw, [], []⟩
def dd_law_pick : He.DefD := ⟨("_law_pick", none), "_law_pick", "_law_pick", defArgs s_law_pick, defBody s_law_pick, defScope s_law_pick, [], []⟩
def dd_law : He.DefD := ⟨("law", none), "law", "law", defArgs s_law, defBody s_law, defScope s_law, [], []⟩
def dd_Early_init : SupE := ⟨("Early", some "__init__"), "__init__", "Early.__init__", defArgs s_Early_init, defBody s_Early_init, defScope s_Early_init, "Early"⟩
def dd_Stage_init : SupE := ⟨("Stage", some "__init__"), "__init__", "Stage.__init__", defArgs s_Stage_init, defBody s_Stage_init, defScope s_Stage_init, "Stage"⟩
def dd_Idle_init : SupE := ⟨("Idle", some "__init__"), "__init__", "Idle.__init__", defArgs s_Idle_init, defBody s_Idle_init, defScope s_Idle_init, "Idle"⟩
def dd_Done_init : SupE := ⟨("Done", some "__init__"), "__init__", "Done.__init__", defArgs s_Done_init, defBody s_Done_init, defScope s_Done_init, "Done"⟩
def dd_Blamed_init : SupE := ⟨("Blamed", some "__init__"), "__init__", "Blamed.__init__", defArgs s_Blamed_init, defBody s_Blamed_init, defScope s_Blamed_init, "Blamed"⟩
def dd_Blocked_init : SupE := ⟨("Blocked", some "__init__"), "__init__", "Blocked.__init__", defArgs s_Blocked_init, defBody s_Blocked_init, defScope s_Blocked_init, "Blocked"⟩
def dd_Unison_init : SupE := ⟨("Unison", some "__init__"), "__init__", "Unison.__init__", defArgs s_Unison_init, defBody s_Unison_init, defScope s_Unison_init, "Unison"⟩
def fns : List He.DefD := [dd_is_listed, dd_is_row, dd_is_name, dd_are_so_many, dd_fixed, dd_are_unlike, dd_is_rule, dd_Talk_init, dd_Talk_eq, dd_need_talk, dd_plain_talk, dd_Link_init, dd_Link_eq, dd_Link_turned, dd_are_people, dd_is_joint, dd_are_joints, dd_reached, dd_Net_init, dd_Net_eq, dd_Paper_init, dd_Paper_bool, dd_Denial_bool, dd_Paper_eq, dd_are_alike, dd_law_pen, dd_law_draw, dd_law_pick, dd_law]
def sns : List SupE := [dd_Early_init, dd_Stage_init, dd_Idle_init, dd_Done_init, dd_Blamed_init, dd_Blocked_init, dd_Unison_init]
def dfn : He.DefD := ⟨("", none), "", "", defArgs (.Pass ⟨0, 0, 0, 0⟩), [], defScope (.Pass ⟨0, 0, 0, 0⟩), [], []⟩
def dsn : SupE := ⟨("", none), "", "", defArgs (.Pass ⟨0, 0, 0, 0⟩), [], defScope (.Pass ⟨0, 0, 0, 0⟩), ""⟩
def spec : Li.Spec := ⟨"/claim/cut.py", faL, exL, fns, sns⟩
structure Txt (P : Program) (w : World) (K : PySem.W.Frag) (mg : Str → Option Value) : Prop where
  h : ∃ h : Heap, K.In h ∧ h.Ns mainGlobals mg
  c : SaysL spec K
  fl : P.main.file = "/claim/cut.py"
  sup : (P.main.scope.names.lookup ("super" : Str)).isSome = false
section
variable {P : Program} {w : World} {K : PySem.W.Frag} {mg : Str → Option Value} {ns : List Int}
theorem f_free_tuple (T : Txt P w K mg) : mg "tuple" = none := let ⟨_, X, G⟩ := T.h; He.free_ok X G (T.c.fact 0)
theorem f_free_list (T : Txt P w K mg) : mg "list" = none := let ⟨_, X, G⟩ := T.h; He.free_ok X G (T.c.fact 1)
theorem f_free_isinstance (T : Txt P w K mg) : mg "isinstance" = none := let ⟨_, X, G⟩ := T.h; He.free_ok X G (T.c.fact 2)
theorem f_isi (T : Txt P w K mg) : IsiOk (gp P w K ns) alls isis := isiB_ok (g := gp P w K ns) (T.c.more 0)
theorem f_glo_is_listed (T : Txt P w K mg) : mg "is_listed" = some (.ref (He.ga K "is_listed")) := let ⟨_, X, G⟩ := T.h; He.glo_ok X G (T.c.fact 3)
theorem f_free_len (T : Txt P w K mg) : mg "len" = none := let ⟨_, X, G⟩ := T.h; He.free_ok X G (T.c.fact 4)
theorem f_free_str (T : Txt P w K mg) : mg "str" = none := let ⟨_, X, G⟩ := T.h; He.free_ok X G (T.c.fact 5)
theorem f_gv_MOST_LETTERS (T : Txt P w K mg) : GV (gp P w K ns) mg "MOST_LETTERS" (.int 8) := let ⟨_, X, G⟩ := T.h; gvB_ok (g := gp P w K ns) X G (T.c.more 1)
theorem f_gv_LETTERS (T : Txt P w K mg) : GV (gp P w K ns) mg "LETTERS" (.str [97, 98, 99, 100, 101, 102, 103, 104, 105, 106, 107, 108, 109, 110, 111, 112, 113, 114, 115, 116, 117, 118, 119, 120, 121, 122]) := let ⟨_, X, G⟩ := T.h; gvB_ok (g := gp P w K ns) X G (T.c.more 2)
theorem f_free_all (T : Txt P w K mg) : mg "all" = none := let ⟨_, X, G⟩ := T.h; He.free_ok X G (T.c.fact 6)
theorem f_glo_fixed (T : Txt P w K mg) : mg "fixed" = some (.ref (He.ga K "fixed")) := let ⟨_, X, G⟩ := T.h; He.glo_ok X G (T.c.fact 7)
theorem f_glo_is_row (T : Txt P w K mg) : mg "is_row" = some (.ref (He.ga K "is_row")) := let ⟨_, X, G⟩ := T.h; He.glo_ok X G (T.c.fact 8)
theorem f_free_bool (T : Txt P w K mg) : mg "bool" = none := let ⟨_, X, G⟩ := T.h; He.free_ok X G (T.c.fact 9)
theorem f_gv_STATUSES (T : Txt P w K mg) : GV (gp P w K ns) mg "STATUSES" (.tup [(.str [108, 97, 99, 107]), (.str [104, 97, 118, 101]), (.str [103, 111, 110, 101])]) := let ⟨_, X, G⟩ := T.h; gvB_ok (g := gp P w K ns) X G (T.c.more 3)
theorem f_gv_GIVE (T : Txt P w K mg) : GV (gp P w K ns) mg "GIVE" (.str [103, 105, 118, 101]) := let ⟨_, X, G⟩ := T.h; gvB_ok (g := gp P w K ns) X G (T.c.more 4)
theorem f_gv_BEAT (T : Txt P w K mg) : GV (gp P w K ns) mg "BEAT" (.str [98, 101, 97, 116]) := let ⟨_, X, G⟩ := T.h; gvB_ok (g := gp P w K ns) X G (T.c.more 5)
theorem f_gv_MOST_MOODS (T : Txt P w K mg) : GV (gp P w K ns) mg "MOST_MOODS" (.int 5) := let ⟨_, X, G⟩ := T.h; gvB_ok (g := gp P w K ns) X G (T.c.more 6)
theorem f_glo_are_so_many (T : Txt P w K mg) : mg "are_so_many" = some (.ref (He.ga K "are_so_many")) := let ⟨_, X, G⟩ := T.h; He.glo_ok X G (T.c.fact 10)
theorem f_glo_is_name (T : Txt P w K mg) : mg "is_name" = some (.ref (He.ga K "is_name")) := let ⟨_, X, G⟩ := T.h; He.glo_ok X G (T.c.fact 11)
theorem f_glo_are_unlike (T : Txt P w K mg) : mg "are_unlike" = some (.ref (He.ga K "are_unlike")) := let ⟨_, X, G⟩ := T.h; He.glo_ok X G (T.c.fact 12)
theorem f_gv_MOST_WORDS (T : Txt P w K mg) : GV (gp P w K ns) mg "MOST_WORDS" (.int 4) := let ⟨_, X, G⟩ := T.h; gvB_ok (g := gp P w K ns) X G (T.c.more 7)
theorem f_free_zip (T : Txt P w K mg) : mg "zip" = none := let ⟨_, X, G⟩ := T.h; He.free_ok X G (T.c.fact 13)
theorem f_gv_MOST_RULES (T : Txt P w K mg) : GV (gp P w K ns) mg "MOST_RULES" (.int 60) := let ⟨_, X, G⟩ := T.h; gvB_ok (g := gp P w K ns) X G (T.c.more 8)
theorem f_glo_is_rule (T : Txt P w K mg) : mg "is_rule" = some (.ref (He.ga K "is_rule")) := let ⟨_, X, G⟩ := T.h; He.glo_ok X G (T.c.fact 14)
theorem f_fld_rules (T : Txt P w K mg) : FOkS (gp P w K ns) "rules" [(2, 3)] := fldB_ok (g := gp P w K ns) (T.c.more 9)
theorem f_fld_sure (T : Txt P w K mg) : FOkS (gp P w K ns) "sure" [(2, 2)] := fldB_ok (g := gp P w K ns) (T.c.more 10)
theorem f_fld_words (T : Txt P w K mg) : FOkS (gp P w K ns) "words" [(2, 1)] := fldB_ok (g := gp P w K ns) (T.c.more 11)
theorem f_fld_moods (T : Txt P w K mg) : FOkS (gp P w K ns) "moods" [(2, 0)] := fldB_ok (g := gp P w K ns) (T.c.more 12)
theorem f_gv_Talk (T : Txt P w K mg) : GV (gp P w K ns) mg "Talk" (.cls 2) := let ⟨_, X, G⟩ := T.h; gvB_ok (g := gp P w K ns) X G (T.c.more 13)
theorem f_eq_Talk (T : Txt P w K mg) : EqT (gp P w K ns) alls 2 [] (He.fAd K ("Talk", some "__eq__")) := eqTB_ok (g := gp P w K ns) (T.c.more 14)
theorem f_notb_Talk (T : Txt P w K mg) : NotB (gp P w K ns) 2 := notBB_ok (g := gp P w K ns) (c := 2) (T.c.more 15)
theorem f_mk_Talk (T : Txt P w K mg) : Mk K (He.ga K "Talk") (He.fAd K ("Talk", some "__init__")) := mkB_ok (T.c.more 16)
theorem f_gv_PLAIN_RULES (T : Txt P w K mg) : GV (gp P w K ns) mg "PLAIN_RULES" (.tup [(.tup [(.str [104, 97, 118, 101]), .non, (.str [111, 110, 101]), (.str [98, 101, 97, 116]), (.str [116, 119, 111]), (.str [103, 105, 118, 101])]), (.tup [(.str [104, 97, 118, 101]), (.bl true), (.str [116, 119, 111]), (.str [98, 101, 97, 116]), (.str [111, 110, 101]), (.str [97, 108, 108])]), (.tup [(.str [104, 97, 118, 101]), (.bl false), (.str [116, 119, 111]), (.str [98, 101, 97, 116]), (.str [111, 110, 101]), .non]), (.tup [(.str [104, 97, 118, 101]), .non, .non, (.str [97, 108, 108]), (.str [97, 108, 108]), .non]), (.tup [(.str [104, 97, 118, 101]), (.bl true), (.str [97, 108, 108]), (.str [98, 101, 97, 116]), .non, (.str [97, 108, 108])]), (.tup [(.str [103, 111, 110, 101]), .non, .non, (.str [98, 101, 97, 116]), .non, (.str [97, 108, 108])])]) := let ⟨_, X, G⟩ := T.h; gvB_ok (g := gp P w K ns) X G (T.c.more 17)
theorem f_glo_Talk (T : Txt P w K mg) : mg "Talk" = some (.ref (He.ga K "Talk")) := let ⟨_, X, G⟩ := T.h; He.glo_ok X G (T.c.fact 15)
theorem f_gv_LEFT (T : Txt P w K mg) : GV (gp P w K ns) mg "LEFT" (.str [108, 101, 102, 116]) := let ⟨_, X, G⟩ := T.h; gvB_ok (g := gp P w K ns) X G (T.c.more 18)
theorem f_glo_need_talk (T : Txt P w K mg) : mg "need_talk" = some (.ref (He.ga K "need_talk")) := let ⟨_, X, G⟩ := T.h; He.glo_ok X G (T.c.fact 16)
theorem f_gv_RIGHT (T : Txt P w K mg) : GV (gp P w K ns) mg "RIGHT" (.str [114, 105, 103, 104, 116]) := let ⟨_, X, G⟩ := T.h; gvB_ok (g := gp P w K ns) X G (T.c.more 19)
theorem f_fld_right (T : Txt P w K mg) : FOkS (gp P w K ns) "right" [(3, 1)] := fldB_ok (g := gp P w K ns) (T.c.more 20)
theorem f_fld_left (T : Txt P w K mg) : FOkS (gp P w K ns) "left" [(3, 0)] := fldB_ok (g := gp P w K ns) (T.c.more 21)
theorem f_gv_Link (T : Txt P w K mg) : GV (gp P w K ns) mg "Link" (.cls 3) := let ⟨_, X, G⟩ := T.h; gvB_ok (g := gp P w K ns) X G (T.c.more 22)
theorem f_eq_Link (T : Txt P w K mg) : EqT (gp P w K ns) alls 3 [] (He.fAd K ("Link", some "__eq__")) := eqTB_ok (g := gp P w K ns) (T.c.more 23)
theorem f_notb_Link (T : Txt P w K mg) : NotB (gp P w K ns) 3 := notBB_ok (g := gp P w K ns) (c := 3) (T.c.more 24)
theorem f_mk_Link (T : Txt P w K mg) : Mk K (He.ga K "Link") (He.fAd K ("Link", some "__init__")) := mkB_ok (T.c.more 25)
theorem f_glo_Link (T : Txt P w K mg) : mg "Link" = some (.ref (He.ga K "Link")) := let ⟨_, X, G⟩ := T.h; He.glo_ok X G (T.c.fact 17)
theorem f_gv_MOST_PEOPLE (T : Txt P w K mg) : GV (gp P w K ns) mg "MOST_PEOPLE" (.int 60) := let ⟨_, X, G⟩ := T.h; gvB_ok (g := gp P w K ns) X G (T.c.more 26)
theorem f_gv_LEAST_PEOPLE (T : Txt P w K mg) : GV (gp P w K ns) mg "LEAST_PEOPLE" (.int 2) := let ⟨_, X, G⟩ := T.h; gvB_ok (g := gp P w K ns) X G (T.c.more 27)
theorem f_glo_is_joint (T : Txt P w K mg) : mg "is_joint" = some (.ref (He.ga K "is_joint")) := let ⟨_, X, G⟩ := T.h; He.glo_ok X G (T.c.fact 18)
theorem f_dfl_reached_0 (T : Txt P w K mg) : ∀ ω, RV (gp P w K ns) ω (.tup []) (.ref (He.dflAt ("reached", none) 0 K)) := valB_ref (g := gp P w K ns) (T.c.more 28)
theorem f_glo_are_people (T : Txt P w K mg) : mg "are_people" = some (.ref (He.ga K "are_people")) := let ⟨_, X, G⟩ := T.h; He.glo_ok X G (T.c.fact 19)
theorem f_glo_are_joints (T : Txt P w K mg) : mg "are_joints" = some (.ref (He.ga K "are_joints")) := let ⟨_, X, G⟩ := T.h; He.glo_ok X G (T.c.fact 20)
theorem f_fld_people (T : Txt P w K mg) : FOkS (gp P w K ns) "people" [(5, 0)] := fldB_ok (g := gp P w K ns) (T.c.more 29)
theorem f_fld_links (T : Txt P w K mg) : FOkS (gp P w K ns) "links" [(5, 1)] := fldB_ok (g := gp P w K ns) (T.c.more 30)
theorem f_fld_near (T : Txt P w K mg) : FOkS (gp P w K ns) "near" [(5, 2)] := fldB_ok (g := gp P w K ns) (T.c.more 31)
theorem f_fld_ends (T : Txt P w K mg) : FOkS (gp P w K ns) "ends" [(5, 3)] := fldB_ok (g := gp P w K ns) (T.c.more 32)
theorem f_meth_Link_turned (T : Txt P w K mg) : Meth K (He.ga K "Link") "turned" (He.fAd K ("Link", some "turned")) := methB_ok (T.c.more 33)
theorem f_cls_Link (T : Txt P w K mg) : Cls K (He.ga K "Link") := clsB_ok (T.c.more 34)
theorem f_free_sorted (T : Txt P w K mg) : mg "sorted" = none := let ⟨_, X, G⟩ := T.h; He.free_ok X G (T.c.fact 21)
theorem f_glo_reached (T : Txt P w K mg) : mg "reached" = some (.ref (He.ga K "reached")) := let ⟨_, X, G⟩ := T.h; He.glo_ok X G (T.c.fact 22)
theorem f_fld_pairs (T : Txt P w K mg) : FOkS (gp P w K ns) "pairs" [(5, 4)] := fldB_ok (g := gp P w K ns) (T.c.more 35)
theorem f_fld_is_tree (T : Txt P w K mg) : FOkS (gp P w K ns) "is_tree" [(5, 5)] := fldB_ok (g := gp P w K ns) (T.c.more 36)
theorem f_gv_Net (T : Txt P w K mg) : GV (gp P w K ns) mg "Net" (.cls 5) := let ⟨_, X, G⟩ := T.h; gvB_ok (g := gp P w K ns) X G (T.c.more 37)
theorem f_fld_word (T : Txt P w K mg) : FOkS (gp P w K ns) "word" [(0, 0), (1, 0), (4, 0), (6, 0), (7, 0), (8, 0), (9, 0), (10, 0), (11, 0)] := fldB_ok (g := gp P w K ns) (T.c.more 38)
theorem f_fld_parts (T : Txt P w K mg) : FOkS (gp P w K ns) "parts" [(0, 1), (1, 1), (4, 1), (6, 1), (7, 1), (8, 1), (9, 1), (10, 1), (11, 1)] := fldB_ok (g := gp P w K ns) (T.c.more 39)
theorem f_gv_Paper (T : Txt P w K mg) : GV (gp P w K ns) mg "Paper" (.cls 0) := let ⟨_, X, G⟩ := T.h; gvB_ok (g := gp P w K ns) X G (T.c.more 40)
theorem f_glo_are_alike (T : Txt P w K mg) : mg "are_alike" = some (.ref (He.ga K "are_alike")) := let ⟨_, X, G⟩ := T.h; He.glo_ok X G (T.c.fact 23)
theorem f_eq_Paper (T : Txt P w K mg) : EqT (gp P w K ns) alls 0 [17, 20, 22, 23, 24, 25, 26, 27] (He.fAd K ("Paper", some "__eq__")) := eqTB_ok (g := gp P w K ns) (T.c.more 41)
theorem f_notb_Paper (T : Txt P w K mg) : NotB (gp P w K ns) 0 := notBB_ok (g := gp P w K ns) (c := 0) (T.c.more 42)
theorem f_eq_Denial (T : Txt P w K mg) : EqT (gp P w K ns) alls 1 [20, 22, 25, 26] (He.fAd K ("Paper", some "__eq__")) := eqTB_ok (g := gp P w K ns) (T.c.more 43)
theorem f_notb_Denial (T : Txt P w K mg) : NotB (gp P w K ns) 1 := notBB_ok (g := gp P w K ns) (c := 1) (T.c.more 44)
theorem f_eq_Early (T : Txt P w K mg) : EqT (gp P w K ns) alls 4 [] (He.fAd K ("Paper", some "__eq__")) := eqTB_ok (g := gp P w K ns) (T.c.more 45)
theorem f_notb_Early (T : Txt P w K mg) : NotB (gp P w K ns) 4 := notBB_ok (g := gp P w K ns) (c := 4) (T.c.more 46)
theorem f_eq_Stage (T : Txt P w K mg) : EqT (gp P w K ns) alls 6 [] (He.fAd K ("Paper", some "__eq__")) := eqTB_ok (g := gp P w K ns) (T.c.more 47)
theorem f_notb_Stage (T : Txt P w K mg) : NotB (gp P w K ns) 6 := notBB_ok (g := gp P w K ns) (c := 6) (T.c.more 48)
theorem f_eq_Idle (T : Txt P w K mg) : EqT (gp P w K ns) alls 7 [] (He.fAd K ("Paper", some "__eq__")) := eqTB_ok (g := gp P w K ns) (T.c.more 49)
theorem f_notb_Idle (T : Txt P w K mg) : NotB (gp P w K ns) 7 := notBB_ok (g := gp P w K ns) (c := 7) (T.c.more 50)
theorem f_eq_Done (T : Txt P w K mg) : EqT (gp P w K ns) alls 8 [] (He.fAd K ("Paper", some "__eq__")) := eqTB_ok (g := gp P w K ns) (T.c.more 51)
theorem f_notb_Done (T : Txt P w K mg) : NotB (gp P w K ns) 8 := notBB_ok (g := gp P w K ns) (c := 8) (T.c.more 52)
theorem f_eq_Blamed (T : Txt P w K mg) : EqT (gp P w K ns) alls 9 [] (He.fAd K ("Paper", some "__eq__")) := eqTB_ok (g := gp P w K ns) (T.c.more 53)
theorem f_notb_Blamed (T : Txt P w K mg) : NotB (gp P w K ns) 9 := notBB_ok (g := gp P w K ns) (c := 9) (T.c.more 54)
theorem f_eq_Blocked (T : Txt P w K mg) : EqT (gp P w K ns) alls 10 [] (He.fAd K ("Paper", some "__eq__")) := eqTB_ok (g := gp P w K ns) (T.c.more 55)
theorem f_notb_Blocked (T : Txt P w K mg) : NotB (gp P w K ns) 10 := notBB_ok (g := gp P w K ns) (c := 10) (T.c.more 56)
theorem f_eq_Unison (T : Txt P w K mg) : EqT (gp P w K ns) alls 11 [] (He.fAd K ("Paper", some "__eq__")) := eqTB_ok (g := gp P w K ns) (T.c.more 57)
theorem f_notb_Unison (T : Txt P w K mg) : NotB (gp P w K ns) 11 := notBB_ok (g := gp P w K ns) (c := 11) (T.c.more 58)
theorem f_eq_Net (T : Txt P w K mg) : EqT (gp P w K ns) alls 5 [] (He.fAd K ("Net", some "__eq__")) := eqTB_ok (g := gp P w K ns) (T.c.more 59)
theorem f_notb_Net (T : Txt P w K mg) : NotB (gp P w K ns) 5 := notBB_ok (g := gp P w K ns) (c := 5) (T.c.more 60)
theorem f_fld_events (T : Txt P w K mg) : FOkS (gp P w K ns) "events" [(4, 3), (6, 4)] := fldB_ok (g := gp P w K ns) (T.c.more 61)
theorem f_fld_kinds (T : Txt P w K mg) : FOkS (gp P w K ns) "kinds" [(4, 2)] := fldB_ok (g := gp P w K ns) (T.c.more 62)
theorem f_sup_Early (T : Txt P w K mg) : SupC K (He.ga K "Early") (He.ga K "Early") (He.fAd K ("Paper", some "__init__")) := supCB_ok (T.c.more 63)
theorem f_free_super (T : Txt P w K mg) : mg "super" = none := let ⟨_, X, G⟩ := T.h; He.free_ok X G (T.c.fact 24)
theorem f_fld_neighbour (T : Txt P w K mg) : FOkS (gp P w K ns) "neighbour" [(6, 7), (9, 4), (10, 3)] := fldB_ok (g := gp P w K ns) (T.c.more 64)
theorem f_fld_person (T : Txt P w K mg) : FOkS (gp P w K ns) "person" [(6, 6), (9, 3), (10, 2)] := fldB_ok (g := gp P w K ns) (T.c.more 65)
theorem f_fld_around (T : Txt P w K mg) : FOkS (gp P w K ns) "around" [(6, 5)] := fldB_ok (g := gp P w K ns) (T.c.more 66)
theorem f_fld_net (T : Txt P w K mg) : FOkS (gp P w K ns) "net" [(6, 3)] := fldB_ok (g := gp P w K ns) (T.c.more 67)
theorem f_fld_told (T : Txt P w K mg) : FOkS (gp P w K ns) "told" [(6, 2)] := fldB_ok (g := gp P w K ns) (T.c.more 68)
theorem f_sup_Stage (T : Txt P w K mg) : SupC K (He.ga K "Stage") (He.ga K "Stage") (He.fAd K ("Paper", some "__init__")) := supCB_ok (T.c.more 69)
theorem f_sup_Idle (T : Txt P w K mg) : SupC K (He.ga K "Idle") (He.ga K "Idle") (He.fAd K ("Paper", some "__init__")) := supCB_ok (T.c.more 70)
theorem f_fld_rows (T : Txt P w K mg) : FOkS (gp P w K ns) "rows" [(8, 2), (11, 3)] := fldB_ok (g := gp P w K ns) (T.c.more 71)
theorem f_sup_Done (T : Txt P w K mg) : SupC K (He.ga K "Done") (He.ga K "Done") (He.fAd K ("Paper", some "__init__")) := supCB_ok (T.c.more 72)
theorem f_fld_paper (T : Txt P w K mg) : FOkS (gp P w K ns) "paper" [(9, 5), (10, 4)] := fldB_ok (g := gp P w K ns) (T.c.more 73)
theorem f_fld_at (T : Txt P w K mg) : FOkS (gp P w K ns) "at" [(9, 2)] := fldB_ok (g := gp P w K ns) (T.c.more 74)
theorem f_sup_Blamed (T : Txt P w K mg) : SupC K (He.ga K "Blamed") (He.ga K "Blamed") (He.fAd K ("Paper", some "__init__")) := supCB_ok (T.c.more 75)
theorem f_sup_Blocked (T : Txt P w K mg) : SupC K (He.ga K "Blocked") (He.ga K "Blocked") (He.fAd K ("Paper", some "__init__")) := supCB_ok (T.c.more 76)
theorem f_fld_level (T : Txt P w K mg) : FOkS (gp P w K ns) "level" [(11, 2)] := fldB_ok (g := gp P w K ns) (T.c.more 77)
theorem f_sup_Unison (T : Txt P w K mg) : SupC K (He.ga K "Unison") (He.ga K "Unison") (He.fAd K ("Paper", some "__init__")) := supCB_ok (T.c.more 78)
theorem f_bo_Paper (T : Txt P w K mg) : BoT (gp P w K ns) 0 (He.fAd K ("Paper", some "__bool__")) := boB_ok (g := gp P w K ns) (c := 0) (T.c.more 79)
theorem f_bo_Denial (T : Txt P w K mg) : BoT (gp P w K ns) 1 (He.fAd K ("Denial", some "__bool__")) := boB_ok (g := gp P w K ns) (c := 1) (T.c.more 80)
theorem f_bo_Early (T : Txt P w K mg) : BoT (gp P w K ns) 4 (He.fAd K ("Denial", some "__bool__")) := boB_ok (g := gp P w K ns) (c := 4) (T.c.more 81)
theorem f_bo_Stage (T : Txt P w K mg) : BoT (gp P w K ns) 6 (He.fAd K ("Denial", some "__bool__")) := boB_ok (g := gp P w K ns) (c := 6) (T.c.more 82)
theorem f_bo_Idle (T : Txt P w K mg) : BoT (gp P w K ns) 7 (He.fAd K ("Paper", some "__bool__")) := boB_ok (g := gp P w K ns) (c := 7) (T.c.more 83)
theorem f_bo_Done (T : Txt P w K mg) : BoT (gp P w K ns) 8 (He.fAd K ("Paper", some "__bool__")) := boB_ok (g := gp P w K ns) (c := 8) (T.c.more 84)
theorem f_bo_Blamed (T : Txt P w K mg) : BoT (gp P w K ns) 9 (He.fAd K ("Denial", some "__bool__")) := boB_ok (g := gp P w K ns) (c := 9) (T.c.more 85)
theorem f_bo_Blocked (T : Txt P w K mg) : BoT (gp P w K ns) 10 (He.fAd K ("Denial", some "__bool__")) := boB_ok (g := gp P w K ns) (c := 10) (T.c.more 86)
theorem f_bo_Unison (T : Txt P w K mg) : BoT (gp P w K ns) 11 (He.fAd K ("Paper", some "__bool__")) := boB_ok (g := gp P w K ns) (c := 11) (T.c.more 87)
theorem f_free_int (T : Txt P w K mg) : mg "int" = none := let ⟨_, X, G⟩ := T.h; He.free_ok X G (T.c.fact 25)
theorem f_glo_law_draw (T : Txt P w K mg) : mg "_law_draw" = some (.ref (He.ga K "_law_draw")) := let ⟨_, X, G⟩ := T.h; He.glo_ok X G (T.c.fact 26)
theorem f_glo_law_pen (T : Txt P w K mg) : mg "_law_pen" = some (.ref (He.ga K "_law_pen")) := let ⟨_, X, G⟩ := T.h; He.glo_ok X G (T.c.fact 27)
theorem f_mk_Net (T : Txt P w K mg) : Mk K (He.ga K "Net") (He.fAd K ("Net", some "__init__")) := mkB_ok (T.c.more 88)
theorem f_glo_plain_talk (T : Txt P w K mg) : mg "plain_talk" = some (.ref (He.ga K "plain_talk")) := let ⟨_, X, G⟩ := T.h; He.glo_ok X G (T.c.fact 28)
theorem f_glo_Net (T : Txt P w K mg) : mg "Net" = some (.ref (He.ga K "Net")) := let ⟨_, X, G⟩ := T.h; He.glo_ok X G (T.c.fact 29)
theorem f_mk_Early (T : Txt P w K mg) : Mk K (He.ga K "Early") (He.fAd K ("Early", some "__init__")) := mkB_ok (T.c.more 89)
theorem f_glo_Early (T : Txt P w K mg) : mg "Early" = some (.ref (He.ga K "Early")) := let ⟨_, X, G⟩ := T.h; He.glo_ok X G (T.c.fact 30)
theorem f_mk_Unison (T : Txt P w K mg) : Mk K (He.ga K "Unison") (He.fAd K ("Unison", some "__init__")) := mkB_ok (T.c.more 90)
theorem f_glo_Unison (T : Txt P w K mg) : mg "Unison" = some (.ref (He.ga K "Unison")) := let ⟨_, X, G⟩ := T.h; He.glo_ok X G (T.c.fact 31)
theorem f_free_range (T : Txt P w K mg) : mg "range" = none := let ⟨_, X, G⟩ := T.h; He.free_ok X G (T.c.fact 32)
theorem f_glo_law_pick (T : Txt P w K mg) : mg "_law_pick" = some (.ref (He.ga K "_law_pick")) := let ⟨_, X, G⟩ := T.h; He.glo_ok X G (T.c.fact 33)
theorem f_mk_Stage (T : Txt P w K mg) : Mk K (He.ga K "Stage") (He.fAd K ("Stage", some "__init__")) := mkB_ok (T.c.more 91)
theorem f_glo_Stage (T : Txt P w K mg) : mg "Stage" = some (.ref (He.ga K "Stage")) := let ⟨_, X, G⟩ := T.h; He.glo_ok X G (T.c.fact 34)
theorem f_gv_Denial (T : Txt P w K mg) : GV (gp P w K ns) mg "Denial" (.cls 1) := let ⟨_, X, G⟩ := T.h; gvB_ok (g := gp P w K ns) X G (T.c.more 92)
theorem f_mk_Paper (T : Txt P w K mg) : Mk K (He.ga K "Paper") (He.fAd K ("Paper", some "__init__")) := mkB_ok (T.c.more 93)
theorem f_glo_Paper (T : Txt P w K mg) : mg "Paper" = some (.ref (He.ga K "Paper")) := let ⟨_, X, G⟩ := T.h; He.glo_ok X G (T.c.fact 35)
theorem f_mk_Denial (T : Txt P w K mg) : Mk K (He.ga K "Denial") (He.fAd K ("Paper", some "__init__")) := mkB_ok (T.c.more 94)
theorem f_glo_Denial (T : Txt P w K mg) : mg "Denial" = some (.ref (He.ga K "Denial")) := let ⟨_, X, G⟩ := T.h; He.glo_ok X G (T.c.fact 36)
theorem f_mk_Done (T : Txt P w K mg) : Mk K (He.ga K "Done") (He.fAd K ("Done", some "__init__")) := mkB_ok (T.c.more 95)
theorem f_glo_Done (T : Txt P w K mg) : mg "Done" = some (.ref (He.ga K "Done")) := let ⟨_, X, G⟩ := T.h; He.glo_ok X G (T.c.fact 37)
theorem f_mk_Blamed (T : Txt P w K mg) : Mk K (He.ga K "Blamed") (He.fAd K ("Blamed", some "__init__")) := mkB_ok (T.c.more 96)
theorem f_glo_Blamed (T : Txt P w K mg) : mg "Blamed" = some (.ref (He.ga K "Blamed")) := let ⟨_, X, G⟩ := T.h; He.glo_ok X G (T.c.fact 38)
theorem f_mk_Blocked (T : Txt P w K mg) : Mk K (He.ga K "Blocked") (He.fAd K ("Blocked", some "__init__")) := mkB_ok (T.c.more 97)
theorem f_glo_Blocked (T : Txt P w K mg) : mg "Blocked" = some (.ref (He.ga K "Blocked")) := let ⟨_, X, G⟩ := T.h; He.glo_ok X G (T.c.fact 39)
theorem f_mk_Idle (T : Txt P w K mg) : Mk K (He.ga K "Idle") (He.fAd K ("Idle", some "__init__")) := mkB_ok (T.c.more 98)
theorem f_glo_Idle (T : Txt P w K mg) : mg "Idle" = some (.ref (He.ga K "Idle")) := let ⟨_, X, G⟩ := T.h; He.glo_ok X G (T.c.fact 40)
theorem f_clsT (T : Txt P w K mg) : ∀ c, memN (c + 16) alls = true → IsiC K (cas K c) ∧ PySem.W.plainGet K (cas K c) "__class__" = true := clsTB_ok (g := gp P w K []) (T.c.more 99)
theorem f_nmT (T : Txt P w K mg) : ∀ c z, nmLook nms c = some z → ∃ y : Str, y.cps.toList = z ∧ PyData.strOk y = true ∧ CNm K (cas K c) y := nmB_ok (g := gp P w K []) (T.c.more 100)
end
end Gk47

namespace Gk47
open PySem PySem.Spec PyProof.Rows L2 Li
section
variable {P : Program} {w : World} {K : PySem.W.Frag} {mg : Str → Option Value} {ns : List Int}
def N_is_listed : List Str := ["value"]
theorem sc_is_listed : FnScope N_is_listed ["value"] (defScope s_is_listed) := ⟨rfl, rfl, rfl, by decide +kernel, rfl, by decide +kernel, by decide +kernel⟩
def b_is_listed : LS := (lret (lcall (fIsi alls isis) (acons (lvar 0) (acons (ltup (acons (lc (.ty 4)) (acons (lc (.ty 5)) anil))) anil))))
def m_is_listed : LF := lfn 1 1 (b_is_listed)
theorem d_is_listed (T : Txt P w K mg) : ∃ fd, FunD K "is_listed" "is_listed" (defArgs s_is_listed) (defBody s_is_listed) (defScope s_is_listed) (dd_is_listed.dvs K) [] (He.fAd K ("is_listed", none)) fd := T.c.def_ (S := spec) 0 (d := dd_is_listed) rfl
theorem ok_is_listed (T : Txt P w K mg) (base : Heap) : OkL (gp P w K ns) mg base ("is_listed", none) ["value"] 1 (m_is_listed) := by
  obtain ⟨fd, F⟩ := d_is_listed T
  refine ⟨fd, fn_lite (g := gp P w K ns) (k := 0) (N := N_is_listed) (ps := ["value"]) (b := b_is_listed) F sc_is_listed fun cdv A outer s H E hr => ?_, lfn_takes, F.bindsN (ps := ["value"]) fun _ _ _ _ _ _ us hl => match us, hl with | [_], _ => rfl, F.kp⟩
  exact (ss_one (s_ret (e_callB (isi_L rfl (f_isi T)) rfl (f_free_isinstance T) bb_isinstance (a_cons (e_var (i := 0) rfl (by first | exact .inl rfl | exact .inr (.inl rfl) | exact .inr (.inr rfl))) (a_cons (e_tup (a_cons (e_tyB (T := 4) rfl (f_free_list T) bb_list) (a_cons (e_tyB (T := 5) rfl (f_free_tuple T) bb_tuple) a_nil))) a_nil)))))
def N_is_row : List Str := ["value", "many"]
theorem sc_is_row : FnScope N_is_row ["value", "many"] (defScope s_is_row) := ⟨rfl, rfl, rfl, by decide +kernel, rfl, by decide +kernel, by decide +kernel⟩
def b_is_row : LS := (lret (land (lcall m_is_listed (acons (lvar 0) anil)) (lop opEqP (lcall fLen (acons (lvar 0) anil)) (lvar 1))))
def m_is_row : LF := lfn 2 2 (b_is_row)
theorem d_is_row (T : Txt P w K mg) : ∃ fd, FunD K "is_row" "is_row" (defArgs s_is_row) (defBody s_is_row) (defScope s_is_row) (dd_is_row.dvs K) [] (He.fAd K ("is_row", none)) fd := T.c.def_ (S := spec) 1 (d := dd_is_row) rfl
theorem ok_is_row (T : Txt P w K mg) (base : Heap) : OkL (gp P w K ns) mg base ("is_row", none) ["value", "many"] 2 (m_is_row) := by
  obtain ⟨fd, F⟩ := d_is_row T
  obtain ⟨fd_is_listed, O_is_listed⟩ := ok_is_listed (ns := ns) T base
  refine ⟨fd, fn_lite (g := gp P w K ns) (k := 1) (N := N_is_row) (ps := ["value", "many"]) (b := b_is_row) F sc_is_row fun cdv A outer s H E hr => ?_, lfn_takes, F.bindsN (ps := ["value", "many"]) fun _ _ _ _ _ _ us hl => match us, hl with | [_, _], _ => rfl, F.kp⟩
  exact (ss_one (s_ret (e_and (c_call O_is_listed rfl rfl rfl rfl rfl (hr.mono (by omega)) rfl (f_glo_is_listed T) (a_cons (e_var (i := 0) rfl (by first | exact .inl rfl | exact .inr (.inl rfl) | exact .inr (.inr rfl))) a_nil)) (e_one (e_cmp (op_eqP rfl rfl rfl hr) (e_callB (len_L rfl rfl rfl) rfl (f_free_len T) bb_len (a_cons (e_var (i := 0) rfl (by first | exact .inl rfl | exact .inr (.inl rfl) | exact .inr (.inr rfl))) a_nil)) (e_var (i := 1) rfl (by first | exact .inl rfl | exact .inr (.inl rfl) | exact .inr (.inr rfl))))))))
def N_is_name : List Str := ["value", "sign"]
theorem sc_is_name : FnScope N_is_name ["value"] (defScope s_is_name) := ⟨rfl, rfl, rfl, by decide +kernel, rfl, by decide +kernel, by decide +kernel⟩
def b_is_name : LS := (lseq (lifS (tor (tnot (lb2t (lcall (fIsi alls isis) (acons (lvar 0) (acons (lc (.ty 3)) anil))))) (tnot (lb2t (lchain opLe opLe (lc (.int 1)) (lcall fLen (acons (lvar 0) anil)) (lc (.int 8)))))) (lret (lc (.bl false))) lnil)
  (lret (lcall (fBls allOf) (acons (lcF (lseq' (lvar 0)) [1] (gname 1) lyes (lop (opInD false) (lvar 1) (lc (.str [97, 98, 99, 100, 101, 102, 103, 104, 105, 106, 107, 108, 109, 110, 111, 112, 113, 114, 115, 116, 117, 118, 119, 120, 121, 122])))) anil))))
def m_is_name : LF := lfn 1 2 (b_is_name)
theorem d_is_name (T : Txt P w K mg) : ∃ fd, FunD K "is_name" "is_name" (defArgs s_is_name) (defBody s_is_name) (defScope s_is_name) (dd_is_name.dvs K) [] (He.fAd K ("is_name", none)) fd := T.c.def_ (S := spec) 2 (d := dd_is_name) rfl
theorem ok_is_name (T : Txt P w K mg) (base : Heap) : OkL (gp P w K ns) mg base ("is_name", none) ["value"] 1 (m_is_name) := by
  obtain ⟨fd, F⟩ := d_is_name T
  refine ⟨fd, fn_lite (g := gp P w K ns) (k := 0) (N := N_is_name) (ps := ["value"]) (b := b_is_name) F sc_is_name fun cdv A outer s H E hr => ?_, lfn_takes, F.bindsN (ps := ["value"]) fun _ _ _ _ _ _ us hl => match us, hl with | [_], _ => rfl, F.kp⟩
  exact (ss_cons (s_if (PW.pt (w_or (t_not (t_val (e_callB (isi_L rfl (f_isi T)) rfl (f_free_isinstance T) bb_isinstance (a_cons (e_var (i := 0) rfl (by first | exact .inl rfl | exact .inr (.inl rfl) | exact .inr (.inr rfl))) (a_cons (e_tyB (T := 3) rfl (f_free_str T) bb_str) a_nil))))) (w_or1 (t_not (t_chain op_leL op_leL e_int (e_callB (len_L rfl rfl rfl) rfl (f_free_len T) bb_len (a_cons (e_var (i := 0) rfl (by first | exact .inl rfl | exact .inr (.inl rfl) | exact .inr (.inr rfl))) a_nil)) (e_gl rfl (f_gv_MOST_LETTERS T))))))) (ss_one (s_ret e_bl)) ss_nil)
  (ss_one (s_ret (e_callB (all_L rfl rfl) rfl (f_free_all T) bb_all (a_cons (e_lcF (own := [("sign", 1)]) (gt := (gName 1)) rfl sc_is_name.nd (i_seq rfl (e_var (i := 0) rfl (by first | exact .inl rfl | exact .inr (.inl rfl) | exact .inr (.inr rfl)))) (blkOk_by (N := N_is_name) (sc := defScope s_is_name) (by decide +kernel)) (fun _ _ _ _ _ => (pg_name (i := 1) sc_is_name.nd rfl (.inl rfl))) (gv_name (by decide)) (fun _ _ _ _ _ => ts_nil) (fun _ _ _ _ _ => (e_cmp (op_inD rfl rfl rfl hr) (e_var (i := 1) rfl (by first | exact .inl rfl | exact .inr (.inl rfl) | exact .inr (.inr rfl))) (e_gl rfl (f_gv_LETTERS T))))) a_nil)))))
def N_are_so_many : List Str := ["value", "least", "most"]
theorem sc_are_so_many : FnScope N_are_so_many ["value", "least", "most"] (defScope s_are_so_many) := ⟨rfl, rfl, rfl, by decide +kernel, rfl, by decide +kernel, by decide +kernel⟩
def b_are_so_many : LS := (lret (land (lcall m_is_listed (acons (lvar 0) anil)) (lchain opLe opLe (lvar 1) (lcall fLen (acons (lvar 0) anil)) (lvar 2))))
def m_are_so_many : LF := lfn 3 3 (b_are_so_many)
theorem d_are_so_many (T : Txt P w K mg) : ∃ fd, FunD K "are_so_many" "are_so_many" (defArgs s_are_so_many) (defBody s_are_so_many) (defScope s_are_so_many) (dd_are_so_many.dvs K) [] (He.fAd K ("are_so_many", none)) fd := T.c.def_ (S := spec) 3 (d := dd_are_so_many) rfl
theorem ok_are_so_many (T : Txt P w K mg) (base : Heap) : OkL (gp P w K ns) mg base ("are_so_many", none) ["value", "least", "most"] 2 (m_are_so_many) := by
  obtain ⟨fd, F⟩ := d_are_so_many T
  obtain ⟨fd_is_listed, O_is_listed⟩ := ok_is_listed (ns := ns) T base
  refine ⟨fd, fn_lite (g := gp P w K ns) (k := 1) (N := N_are_so_many) (ps := ["value", "least", "most"]) (b := b_are_so_many) F sc_are_so_many fun cdv A outer s H E hr => ?_, lfn_takes, F.bindsN (ps := ["value", "least", "most"]) fun _ _ _ _ _ _ us hl => match us, hl with | [_, _, _], _ => rfl, F.kp⟩
  exact (ss_one (s_ret (e_and (c_call O_is_listed rfl rfl rfl rfl rfl (hr.mono (by omega)) rfl (f_glo_is_listed T) (a_cons (e_var (i := 0) rfl (by first | exact .inl rfl | exact .inr (.inl rfl) | exact .inr (.inr rfl))) a_nil)) (e_one (e_chain op_leL op_leL (e_var (i := 1) rfl (by first | exact .inl rfl | exact .inr (.inl rfl) | exact .inr (.inr rfl))) (e_callB (len_L rfl rfl rfl) rfl (f_free_len T) bb_len (a_cons (e_var (i := 0) rfl (by first | exact .inl rfl | exact .inr (.inl rfl) | exact .inr (.inr rfl))) a_nil)) (e_var (i := 2) rfl (by first | exact .inl rfl | exact .inr (.inl rfl) | exact .inr (.inr rfl))))))))
def N_fixed : List Str := ["value", "part"]
theorem sc_fixed : FnScope N_fixed ["value"] (defScope s_fixed) := ⟨rfl, rfl, rfl, by decide +kernel, rfl, by decide +kernel, by decide +kernel⟩
def b_fixed (c_fixed : LF) : LS := (lseq (lifS (lb2t (lcall (fIsi alls isis) (acons (lvar 0) (acons (ltup (acons (lc (.ty 4)) (acons (lc (.ty 5)) anil))) anil)))) (lret (lcall fTup (acons (lcF (lseq' (lvar 0)) [1] (gname 1) lyes (lcall c_fixed (acons (lvar 1) anil))) anil))) lnil)
  (lret (lvar 0)))
def mo_fixed (c_fixed : LF) : LF := lfn 1 2 (b_fixed c_fixed)
def m_fixed : Nat → LF
  | 0 => fun _ _ => none
  | n + 1 => mo_fixed (m_fixed n)
theorem d_fixed (T : Txt P w K mg) : ∃ fd, FunD K "fixed" "fixed" (defArgs s_fixed) (defBody s_fixed) (defScope s_fixed) (dd_fixed.dvs K) [] (He.fAd K ("fixed", none)) fd := T.c.def_ (S := spec) 4 (d := dd_fixed) rfl
theorem oko_fixed (T : Txt P w K mg) (base : Heap) {ka : Nat} {c_fixed : LF} (H_fixed : OkL (gp P w K ns) mg base ("fixed", none) ["value"] ka c_fixed) (h_ka : 0 ≤ ka) : OkL (gp P w K ns) mg base ("fixed", none) ["value"] (ka + 1) (mo_fixed c_fixed) := by
  obtain ⟨fd, F⟩ := d_fixed T
  obtain ⟨fd_fixed, O_fixed⟩ := H_fixed
  refine ⟨fd, fn_lite (g := gp P w K ns) (k := (ka + 0)) (N := N_fixed) (ps := ["value"]) (b := b_fixed c_fixed) F sc_fixed fun cdv A outer s H E hr => ?_, lfn_takes, F.bindsN (ps := ["value"]) fun _ _ _ _ _ _ us hl => match us, hl with | [_], _ => rfl, F.kp⟩
  exact (ss_cons (s_if (t_val (e_callB (isi_L rfl (f_isi T)) rfl (f_free_isinstance T) bb_isinstance (a_cons (e_var (i := 0) rfl (by first | exact .inl rfl | exact .inr (.inl rfl) | exact .inr (.inr rfl))) (a_cons (e_tup (a_cons (e_tyB (T := 4) rfl (f_free_list T) bb_list) (a_cons (e_tyB (T := 5) rfl (f_free_tuple T) bb_tuple) a_nil))) a_nil)))) (ss_one (s_ret (e_callTy (tup_L rfl) rfl (f_free_tuple T) bb_tuple (a_cons (e_lcF (own := [("part", 1)]) (gt := (gName 1)) rfl sc_fixed.nd (i_seq rfl (e_var (i := 0) rfl (by first | exact .inl rfl | exact .inr (.inl rfl) | exact .inr (.inr rfl)))) (blkOk_by (N := N_fixed) (sc := defScope s_fixed) (by decide +kernel)) (fun _ _ _ _ _ => (pg_name (i := 1) sc_fixed.nd rfl (.inl rfl))) (gv_name (by decide)) (fun _ _ _ _ _ => ts_nil) (fun _ _ _ _ _ => (c_call O_fixed rfl rfl rfl rfl rfl (hr.mono (by omega)) rfl (f_glo_fixed T) (a_cons (e_var (i := 1) rfl (by first | exact .inl rfl | exact .inr (.inl rfl) | exact .inr (.inr rfl))) a_nil)))) a_nil)))) ss_nil)
  (ss_one (s_ret (e_var (i := 0) rfl (by first | exact .inl rfl | exact .inr (.inl rfl) | exact .inr (.inr rfl))))))
theorem okn_fixed (T : Txt P w K mg) (base : Heap) : ∀ n : Nat, OkL (gp P w K ns) mg base ("fixed", none) ["value"] (1 + 1 * n) (m_fixed n)
  | 0 => by
    obtain ⟨fd, F⟩ := d_fixed T
    exact ⟨fd, FnOk.none, fun _ _ _ => rfl, F.bindsN (ps := ["value"]) fun _ _ _ _ _ _ us hl => match us, hl with | [_], _ => rfl, F.kp⟩
  | n + 1 => (oko_fixed T base (okn_fixed T base n) (by omega)).mono (by omega)
def N_are_unlike : List Str := ["some", "one"]
theorem sc_are_unlike : FnScope N_are_unlike ["some"] (defScope s_are_unlike) := ⟨rfl, rfl, rfl, by decide +kernel, rfl, by decide +kernel, by decide +kernel⟩
def b_are_unlike : LS := (lret (lop opEqP (lcall fLen (acons (ldc false (lseq' (lvar 0)) [1] (gname 1) lyes (lvar 1) (lc (.bl true))) anil)) (lcall fLen (acons (lvar 0) anil))))
def m_are_unlike : LF := lfn 1 2 (b_are_unlike)
theorem d_are_unlike (T : Txt P w K mg) : ∃ fd, FunD K "are_unlike" "are_unlike" (defArgs s_are_unlike) (defBody s_are_unlike) (defScope s_are_unlike) (dd_are_unlike.dvs K) [] (He.fAd K ("are_unlike", none)) fd := T.c.def_ (S := spec) 5 (d := dd_are_unlike) rfl
theorem ok_are_unlike (T : Txt P w K mg) (base : Heap) : OkL (gp P w K ns) mg base ("are_unlike", none) ["some"] 1 (m_are_unlike) := by
  obtain ⟨fd, F⟩ := d_are_unlike T
  refine ⟨fd, fn_lite (g := gp P w K ns) (k := 0) (N := N_are_unlike) (ps := ["some"]) (b := b_are_unlike) F sc_are_unlike fun cdv A outer s H E hr => ?_, lfn_takes, F.bindsN (ps := ["some"]) fun _ _ _ _ _ _ us hl => match us, hl with | [_], _ => rfl, F.kp⟩
  exact (ss_one (s_ret (e_cmp (op_eqP rfl rfl rfl hr) (e_callB (len_L rfl rfl rfl) rfl (f_free_len T) bb_len (a_cons (e_dc (own := [("one", 1)]) (gt := (gName 1)) false rfl rfl rfl sc_are_unlike.nd (i_seq rfl (e_var (i := 0) rfl (by first | exact .inl rfl | exact .inr (.inl rfl) | exact .inr (.inr rfl)))) (blkOk_by (N := N_are_unlike) (sc := defScope s_are_unlike) (by decide +kernel)) (fun _ _ _ _ _ => (pg_name (i := 1) sc_are_unlike.nd rfl (.inl rfl))) (gv_name (by decide)) (fun _ _ _ _ _ => ts_nil) (fun _ _ _ _ _ => (e_var (i := 1) rfl (by first | exact .inl rfl | exact .inr (.inl rfl) | exact .inr (.inr rfl)))) (fun _ _ _ _ _ => e_bl)) a_nil)) (e_callB (len_L rfl rfl rfl) rfl (f_free_len T) bb_len (a_cons (e_var (i := 0) rfl (by first | exact .inl rfl | exact .inr (.inl rfl) | exact .inr (.inr rfl))) a_nil)))))
def N_is_rule : List Str := ["value", "moods", "words", "one"]
theorem sc_is_rule : FnScope N_is_rule ["value", "moods", "words"] (defScope s_is_rule) := ⟨rfl, rfl, rfl, by decide +kernel, rfl, by decide +kernel, by decide +kernel⟩
def b_is_rule : LS := (lseq (lifS (tor (tnot (lb2t (lcall m_is_row (acons (lvar 0) (acons (lc (.int 6)) anil))))) (tand (lb2t (lop (opIs true) (lop opIx (lvar 0) (lc (.int 1))) (lc .non))) (tnot (lb2t (lcall (fIsi alls isis) (acons (lop opIx (lvar 0) (lc (.int 1))) (acons (lc (.ty 1)) anil))))))) (lret (lc (.bl false))) lnil)
  (lseq (lifS (tnot (lb2t (lcall (fBls allOf) (acons (lcF (lseq' (ltup (acons (lop opIx (lvar 0) (lc (.int 0))) (acons (lop opIx (lvar 0) (lc (.int 2))) (acons (lop opIx (lvar 0) (lc (.int 4))) (acons (lop opIx (lvar 0) (lc (.int 5))) anil)))))) [3] (gname 3) lyes (lor (lop (opIs false) (lvar 3) (lc .non)) (lcall (fIsi alls isis) (acons (lvar 3) (acons (lc (.ty 3)) anil))))) anil)))) (lret (lc (.bl false))) lnil)
  (lseq (lifS (tor (lb2t (lop (opInD true) (lop opIx (lvar 0) (lc (.int 0))) (ltup (acons (lc .non) (astar (lc (.tup [(.str [108, 97, 99, 107]), (.str [104, 97, 118, 101]), (.str [103, 111, 110, 101])])) anil))))) (tor (lb2t (lop (opInD true) (lop opIx (lvar 0) (lc (.int 2))) (ltup (acons (lc .non) (astar (lvar 1) anil))))) (lb2t (lop (opInD true) (lop opIx (lvar 0) (lc (.int 4))) (ltup (acons (lc .non) (astar (lvar 1) anil))))))) (lret (lc (.bl false))) lnil)
  (lseq (lifS (tor (tnot (lb2t (lcall (fIsi alls isis) (acons (lop opIx (lvar 0) (lc (.int 3))) (acons (lc (.ty 3)) anil))))) (lb2t (lop (opInD true) (lop opIx (lvar 0) (lc (.int 3))) (ltup (acons (lc (.str [98, 101, 97, 116])) (acons (lc (.str [103, 105, 118, 101])) (astar (lvar 2) anil))))))) (lret (lc (.bl false))) lnil)
  (lret (lop (opInD false) (lop opIx (lvar 0) (lc (.int 5))) (ltup (acons (lc .non) (acons (lc (.str [103, 105, 118, 101])) (astar (lvar 2) anil))))))))))
def m_is_rule : LF := lfn 3 4 (b_is_rule)
theorem d_is_rule (T : Txt P w K mg) : ∃ fd, FunD K "is_rule" "is_rule" (defArgs s_is_rule) (defBody s_is_rule) (defScope s_is_rule) (dd_is_rule.dvs K) [] (He.fAd K ("is_rule", none)) fd := T.c.def_ (S := spec) 6 (d := dd_is_rule) rfl
theorem ok_is_rule (T : Txt P w K mg) (base : Heap) : OkL (gp P w K ns) mg base ("is_rule", none) ["value", "moods", "words"] 3 (m_is_rule) := by
  obtain ⟨fd, F⟩ := d_is_rule T
  obtain ⟨fd_is_row, O_is_row⟩ := ok_is_row (ns := ns) T base
  refine ⟨fd, fn_lite (g := gp P w K ns) (k := 2) (N := N_is_rule) (ps := ["value", "moods", "words"]) (b := b_is_rule) F sc_is_rule fun cdv A outer s H E hr => ?_, lfn_takes, F.bindsN (ps := ["value", "moods", "words"]) fun _ _ _ _ _ _ us hl => match us, hl with | [_, _, _], _ => rfl, F.kp⟩
  exact (ss_cons (s_if (PW.pt (w_or (t_not (t_val (c_call O_is_row rfl rfl rfl rfl rfl (hr.mono (by omega)) rfl (f_glo_is_row T) (a_cons (e_var (i := 0) rfl (by first | exact .inl rfl | exact .inr (.inl rfl) | exact .inr (.inr rfl))) (a_cons e_int a_nil))))) (w_or1 (PW.pt (w_and (t_cmp op_isnotL (e_ix rfl rfl rfl hr (e_var (i := 0) rfl (by first | exact .inl rfl | exact .inr (.inl rfl) | exact .inr (.inr rfl))) e_int) e_non) (w_and1 (t_not (t_val (e_callB (isi_L rfl (f_isi T)) rfl (f_free_isinstance T) bb_isinstance (a_cons (e_ix rfl rfl rfl hr (e_var (i := 0) rfl (by first | exact .inl rfl | exact .inr (.inl rfl) | exact .inr (.inr rfl))) e_int) (a_cons (e_tyB (T := 1) rfl (f_free_bool T) bb_bool) a_nil))))))))))) (ss_one (s_ret e_bl)) ss_nil)
  (ss_cons (s_if (t_not (t_val (e_callB (all_L rfl rfl) rfl (f_free_all T) bb_all (a_cons (e_lcF (own := [("one", 3)]) (gt := (gName 3)) rfl sc_is_rule.nd (i_seq rfl (e_tup (a_cons (e_ix rfl rfl rfl hr (e_var (i := 0) rfl (by first | exact .inl rfl | exact .inr (.inl rfl) | exact .inr (.inr rfl))) e_int) (a_cons (e_ix rfl rfl rfl hr (e_var (i := 0) rfl (by first | exact .inl rfl | exact .inr (.inl rfl) | exact .inr (.inr rfl))) e_int) (a_cons (e_ix rfl rfl rfl hr (e_var (i := 0) rfl (by first | exact .inl rfl | exact .inr (.inl rfl) | exact .inr (.inr rfl))) e_int) (a_cons (e_ix rfl rfl rfl hr (e_var (i := 0) rfl (by first | exact .inl rfl | exact .inr (.inl rfl) | exact .inr (.inr rfl))) e_int) a_nil)))))) (blkOk_by (N := N_is_rule) (sc := defScope s_is_rule) (by decide +kernel)) (fun _ _ _ _ _ => (pg_name (i := 3) sc_is_rule.nd rfl (.inl rfl))) (gv_name (by decide)) (fun _ _ _ _ _ => ts_nil) (fun _ _ _ _ _ => (e_or (e_cmp op_isL (e_var (i := 3) rfl (by first | exact .inl rfl | exact .inr (.inl rfl) | exact .inr (.inr rfl))) e_non) (e_one (e_callB (isi_L rfl (f_isi T)) rfl (f_free_isinstance T) bb_isinstance (a_cons (e_var (i := 3) rfl (by first | exact .inl rfl | exact .inr (.inl rfl) | exact .inr (.inr rfl))) (a_cons (e_tyB (T := 3) rfl (f_free_str T) bb_str) a_nil))))))) a_nil)))) (ss_one (s_ret e_bl)) ss_nil)
  (ss_cons (s_if (PW.pt (w_or (t_cmp (op_notInD rfl rfl rfl hr) (e_ix rfl rfl rfl hr (e_var (i := 0) rfl (by first | exact .inl rfl | exact .inr (.inl rfl) | exact .inr (.inr rfl))) e_int) (e_tup (a_cons e_non (a_star rfl (e_gl rfl (f_gv_STATUSES T)) a_nil)))) (w_or (t_cmp (op_notInD rfl rfl rfl hr) (e_ix rfl rfl rfl hr (e_var (i := 0) rfl (by first | exact .inl rfl | exact .inr (.inl rfl) | exact .inr (.inr rfl))) e_int) (e_tup (a_cons e_non (a_star rfl (e_var (i := 1) rfl (by first | exact .inl rfl | exact .inr (.inl rfl) | exact .inr (.inr rfl))) a_nil)))) (w_or1 (t_cmp (op_notInD rfl rfl rfl hr) (e_ix rfl rfl rfl hr (e_var (i := 0) rfl (by first | exact .inl rfl | exact .inr (.inl rfl) | exact .inr (.inr rfl))) e_int) (e_tup (a_cons e_non (a_star rfl (e_var (i := 1) rfl (by first | exact .inl rfl | exact .inr (.inl rfl) | exact .inr (.inr rfl))) a_nil)))))))) (ss_one (s_ret e_bl)) ss_nil)
  (ss_cons (s_if (PW.pt (w_or (t_not (t_val (e_callB (isi_L rfl (f_isi T)) rfl (f_free_isinstance T) bb_isinstance (a_cons (e_ix rfl rfl rfl hr (e_var (i := 0) rfl (by first | exact .inl rfl | exact .inr (.inl rfl) | exact .inr (.inr rfl))) e_int) (a_cons (e_tyB (T := 3) rfl (f_free_str T) bb_str) a_nil))))) (w_or1 (t_cmp (op_notInD rfl rfl rfl hr) (e_ix rfl rfl rfl hr (e_var (i := 0) rfl (by first | exact .inl rfl | exact .inr (.inl rfl) | exact .inr (.inr rfl))) e_int) (e_tup (a_cons (e_gl rfl (f_gv_BEAT T)) (a_cons (e_gl rfl (f_gv_GIVE T)) (a_star rfl (e_var (i := 2) rfl (by first | exact .inl rfl | exact .inr (.inl rfl) | exact .inr (.inr rfl))) a_nil)))))))) (ss_one (s_ret e_bl)) ss_nil)
  (ss_one (s_ret (e_cmp (op_inD rfl rfl rfl hr) (e_ix rfl rfl rfl hr (e_var (i := 0) rfl (by first | exact .inl rfl | exact .inr (.inl rfl) | exact .inr (.inr rfl))) e_int) (e_tup (a_cons e_non (a_cons (e_gl rfl (f_gv_GIVE T)) (a_star rfl (e_var (i := 2) rfl (by first | exact .inl rfl | exact .inr (.inl rfl) | exact .inr (.inr rfl))) a_nil)))))))))))
def N_Talk_init : List Str := ["self", "moods", "words", "sure", "rules", "mood", "one", "other"]
theorem sc_Talk_init : FnScope N_Talk_init ["self", "moods", "words", "sure", "rules"] (defScope s_Talk_init) := ⟨rfl, rfl, rfl, by decide +kernel, rfl, by decide +kernel, by decide +kernel⟩
def b_Talk_init : LS := (lseq (lifS (tor (tnot (lb2t (lcall m_are_so_many (acons (lvar 1) (acons (lc (.int 1)) (acons (lc (.int 5)) anil)))))) (tor (tnot (lb2t (lcall (fBls allOf) (acons (lcF (lseq' (lvar 1)) [6] (gname 6) lyes (lcall m_is_name (acons (lvar 6) anil))) anil)))) (tnot (lb2t (lcall m_are_unlike (acons (lvar 1) anil)))))) lnever lnil)
  (lseq (lifS (tor (tnot (lb2t (lcall m_are_so_many (acons (lvar 2) (acons (lc (.int 0)) (acons (lc (.int 4)) anil)))))) (tnot (lb2t (lcall (fBls allOf) (acons (lcF (lseq' (lvar 2)) [6] (gname 6) lyes (lcall m_is_name (acons (lvar 6) anil))) anil))))) lnever lnil)
  (lseq (lifS (tor (tnot (lb2t (lcall (fBls allOf) (acons (lcF (lzip (acons (lvar 2) (acons (lsl false (lvar 2) (lpart (lc (.int 1))) lno) anil))) [6, 7] (gtupN 2 (gcons (gname 6) (gcons (gname 7) gnil))) lyes (lop opLtD (lvar 6) (lvar 7))) anil)))) (tor (lb2t (lop (opInD false) (lc (.str [103, 105, 118, 101])) (lvar 2))) (lb2t (lop (opInD false) (lc (.str [98, 101, 97, 116])) (lvar 2))))) lnever lnil)
  (lseq (lifS (tor (tnot (lb2t (lcall m_is_listed (acons (lvar 3) anil)))) (tnot (lb2t (lcall (fBls allOf) (acons (lcF (lseq' (lvar 3)) [6] (gname 6) lyes (lcall (fIsi alls isis) (acons (lvar 6) (acons (lc (.ty 3)) anil)))) anil))))) lnever lnil)
  (lseq (lifS (lb2t (lop opNeP (lcall (m_fixed 10) (acons (lvar 3) anil)) (lcall fTup (acons (lcF (lseq' (lsl false (lvar 1) (lpart (lc (.int 1))) lno)) [5] (gname 5) (lb2t (lop (opInD false) (lvar 5) (lvar 3))) (lvar 5)) anil)))) lnever lnil)
  (lseq (lifS (tor (tnot (lb2t (lcall m_are_so_many (acons (lvar 4) (acons (lc (.int 0)) (acons (lc (.int 60)) anil)))))) (tnot (lb2t (lcall (fBls allOf) (acons (lcF (lseq' (lvar 4)) [6] (gname 6) lyes (lcall m_is_rule (acons (lvar 6) (acons (lvar 1) (acons (lvar 2) anil))))) anil))))) lnever lnil)
  (lasg (ltup (acons (lcall (m_fixed 10) (acons (lvar 1) anil)) (acons (lcall (m_fixed 10) (acons (lvar 2) anil)) (acons (lcall (m_fixed 10) (acons (lvar 3) anil)) (acons (lcall (m_fixed 10) (acons (lvar 4) anil)) anil))))) (gseqN 4 (gcons (gfld [(2, 0)] (lvar 0)) (gcons (gfld [(2, 1)] (lvar 0)) (gcons (gfld [(2, 2)] (lvar 0)) (gcons (gfld [(2, 3)] (lvar 0)) gnil))))))))))))
def m_Talk_init : LF := lfn 5 8 (b_Talk_init)
theorem d_Talk_init (T : Txt P w K mg) : ∃ fd, FunD K "__init__" "Talk.__init__" (defArgs s_Talk_init) (defBody s_Talk_init) (defScope s_Talk_init) (dd_Talk_init.dvs K) [] (He.fAd K ("Talk", some "__init__")) fd := T.c.def_ (S := spec) 7 (d := dd_Talk_init) rfl
theorem ok_Talk_init (T : Txt P w K mg) (base : Heap) : OkL (gp P w K ns) mg base ("Talk", some "__init__") ["self", "moods", "words", "sure", "rules"] 12 (m_Talk_init) := by
  obtain ⟨fd, F⟩ := d_Talk_init T
  obtain ⟨fd_are_so_many, O_are_so_many⟩ := ok_are_so_many (ns := ns) T base
  obtain ⟨fd_is_name, O_is_name⟩ := ok_is_name (ns := ns) T base
  obtain ⟨fd_are_unlike, O_are_unlike⟩ := ok_are_unlike (ns := ns) T base
  obtain ⟨fd_is_listed, O_is_listed⟩ := ok_is_listed (ns := ns) T base
  obtain ⟨fd_fixed, O_fixed⟩ := okn_fixed (ns := ns) T base 10
  obtain ⟨fd_is_rule, O_is_rule⟩ := ok_is_rule (ns := ns) T base
  refine ⟨fd, fn_lite (g := gp P w K ns) (k := 11) (N := N_Talk_init) (ps := ["self", "moods", "words", "sure", "rules"]) (b := b_Talk_init) F sc_Talk_init fun cdv A outer s H E hr => ?_, lfn_takes, F.bindsN (ps := ["self", "moods", "words", "sure", "rules"]) fun _ _ _ _ _ _ us hl => match us, hl with | [_, _, _, _, _], _ => rfl, F.kp⟩
  exact (ss_cons (s_if (PW.pt (w_or (t_not (t_val (c_call O_are_so_many rfl rfl rfl rfl rfl (hr.mono (by omega)) rfl (f_glo_are_so_many T) (a_cons (e_var (i := 1) rfl (by first | exact .inl rfl | exact .inr (.inl rfl) | exact .inr (.inr rfl))) (a_cons e_int (a_cons (e_gl rfl (f_gv_MOST_MOODS T)) a_nil)))))) (w_or (t_not (t_val (e_callB (all_L rfl rfl) rfl (f_free_all T) bb_all (a_cons (e_lcF (own := [("one", 6)]) (gt := (gName 6)) rfl sc_Talk_init.nd (i_seq rfl (e_var (i := 1) rfl (by first | exact .inl rfl | exact .inr (.inl rfl) | exact .inr (.inr rfl)))) (blkOk_by (N := N_Talk_init) (sc := defScope s_Talk_init) (by decide +kernel)) (fun _ _ _ _ _ => (pg_name (i := 6) sc_Talk_init.nd rfl (.inl rfl))) (gv_name (by decide)) (fun _ _ _ _ _ => ts_nil) (fun _ _ _ _ _ => (c_call O_is_name rfl rfl rfl rfl rfl (hr.mono (by omega)) rfl (f_glo_is_name T) (a_cons (e_var (i := 6) rfl (by first | exact .inl rfl | exact .inr (.inl rfl) | exact .inr (.inr rfl))) a_nil)))) a_nil)))) (w_or1 (t_not (t_val (c_call O_are_unlike rfl rfl rfl rfl rfl (hr.mono (by omega)) rfl (f_glo_are_unlike T) (a_cons (e_var (i := 1) rfl (by first | exact .inl rfl | exact .inr (.inl rfl) | exact .inr (.inr rfl))) a_nil)))))))) (ss_one s_never) ss_nil)
  (ss_cons (s_if (PW.pt (w_or (t_not (t_val (c_call O_are_so_many rfl rfl rfl rfl rfl (hr.mono (by omega)) rfl (f_glo_are_so_many T) (a_cons (e_var (i := 2) rfl (by first | exact .inl rfl | exact .inr (.inl rfl) | exact .inr (.inr rfl))) (a_cons e_int (a_cons (e_gl rfl (f_gv_MOST_WORDS T)) a_nil)))))) (w_or1 (t_not (t_val (e_callB (all_L rfl rfl) rfl (f_free_all T) bb_all (a_cons (e_lcF (own := [("one", 6)]) (gt := (gName 6)) rfl sc_Talk_init.nd (i_seq rfl (e_var (i := 2) rfl (by first | exact .inl rfl | exact .inr (.inl rfl) | exact .inr (.inr rfl)))) (blkOk_by (N := N_Talk_init) (sc := defScope s_Talk_init) (by decide +kernel)) (fun _ _ _ _ _ => (pg_name (i := 6) sc_Talk_init.nd rfl (.inl rfl))) (gv_name (by decide)) (fun _ _ _ _ _ => ts_nil) (fun _ _ _ _ _ => (c_call O_is_name rfl rfl rfl rfl rfl (hr.mono (by omega)) rfl (f_glo_is_name T) (a_cons (e_var (i := 6) rfl (by first | exact .inl rfl | exact .inr (.inl rfl) | exact .inr (.inr rfl))) a_nil)))) a_nil))))))) (ss_one s_never) ss_nil)
  (ss_cons (s_if (PW.pt (w_or (t_not (t_val (e_callB (all_L rfl rfl) rfl (f_free_all T) bb_all (a_cons (e_lcF (own := [("one", 6), ("other", 7)]) (gt := (gTup K 2 (gCons (gName 6) (gCons (gName 7) gNil)))) rfl sc_Talk_init.nd (i_zip rfl rfl (f_free_zip T) (a_cons (e_var (i := 2) rfl (by first | exact .inl rfl | exact .inr (.inl rfl) | exact .inr (.inr rfl))) (a_cons (e_sl false rfl (e_var (i := 2) rfl (by first | exact .inl rfl | exact .inr (.inl rfl) | exact .inr (.inr rfl))) (o_some e_int) o_none) a_nil))) (blkOk_by (N := N_Talk_init) (sc := defScope s_Talk_init) (by decide +kernel)) (fun _ _ _ _ _ => (pg_tup rfl (pgs_cons (pg_name (i := 6) sc_Talk_init.nd rfl (.inl rfl)) (pgs_cons (pg_name (i := 7) sc_Talk_init.nd rfl (.inl rfl)) pgs_nil)))) (gv_tup rfl (gvs_cons (gv_name (by decide)) (gvs_cons (gv_name (by decide)) gvs_nil))) (fun _ _ _ _ _ => ts_nil) (fun _ _ _ _ _ => (e_cmp (op_ltD rfl hr) (e_var (i := 6) rfl (by first | exact .inl rfl | exact .inr (.inl rfl) | exact .inr (.inr rfl))) (e_var (i := 7) rfl (by first | exact .inl rfl | exact .inr (.inl rfl) | exact .inr (.inr rfl)))))) a_nil)))) (w_or (t_cmp (op_inD rfl rfl rfl hr) (e_gl rfl (f_gv_GIVE T)) (e_var (i := 2) rfl (by first | exact .inl rfl | exact .inr (.inl rfl) | exact .inr (.inr rfl)))) (w_or1 (t_cmp (op_inD rfl rfl rfl hr) (e_gl rfl (f_gv_BEAT T)) (e_var (i := 2) rfl (by first | exact .inl rfl | exact .inr (.inl rfl) | exact .inr (.inr rfl)))))))) (ss_one s_never) ss_nil)
  (ss_cons (s_if (PW.pt (w_or (t_not (t_val (c_call O_is_listed rfl rfl rfl rfl rfl (hr.mono (by omega)) rfl (f_glo_is_listed T) (a_cons (e_var (i := 3) rfl (by first | exact .inl rfl | exact .inr (.inl rfl) | exact .inr (.inr rfl))) a_nil)))) (w_or1 (t_not (t_val (e_callB (all_L rfl rfl) rfl (f_free_all T) bb_all (a_cons (e_lcF (own := [("one", 6)]) (gt := (gName 6)) rfl sc_Talk_init.nd (i_seq rfl (e_var (i := 3) rfl (by first | exact .inl rfl | exact .inr (.inl rfl) | exact .inr (.inr rfl)))) (blkOk_by (N := N_Talk_init) (sc := defScope s_Talk_init) (by decide +kernel)) (fun _ _ _ _ _ => (pg_name (i := 6) sc_Talk_init.nd rfl (.inl rfl))) (gv_name (by decide)) (fun _ _ _ _ _ => ts_nil) (fun _ _ _ _ _ => (e_callB (isi_L rfl (f_isi T)) rfl (f_free_isinstance T) bb_isinstance (a_cons (e_var (i := 6) rfl (by first | exact .inl rfl | exact .inr (.inl rfl) | exact .inr (.inr rfl))) (a_cons (e_tyB (T := 3) rfl (f_free_str T) bb_str) a_nil))))) a_nil))))))) (ss_one s_never) ss_nil)
  (ss_cons (s_if (t_cmp (op_neP rfl hr) (c_call O_fixed rfl rfl rfl rfl rfl (hr.mono (by omega)) rfl (f_glo_fixed T) (a_cons (e_var (i := 3) rfl (by first | exact .inl rfl | exact .inr (.inl rfl) | exact .inr (.inr rfl))) a_nil)) (e_callTy (tup_L rfl) rfl (f_free_tuple T) bb_tuple (a_cons (e_lcF (own := [("mood", 5)]) (gt := (gName 5)) rfl sc_Talk_init.nd (i_seq rfl (e_sl false rfl (e_var (i := 1) rfl (by first | exact .inl rfl | exact .inr (.inl rfl) | exact .inr (.inr rfl))) (o_some e_int) o_none)) (blkOk_by (N := N_Talk_init) (sc := defScope s_Talk_init) (by decide +kernel)) (fun _ _ _ _ _ => (pg_name (i := 5) sc_Talk_init.nd rfl (.inl rfl))) (gv_name (by decide)) (fun _ _ _ _ _ => ts_one (t_cmp (op_inD rfl rfl rfl hr) (e_var (i := 5) rfl (by first | exact .inl rfl | exact .inr (.inl rfl) | exact .inr (.inr rfl))) (e_var (i := 3) rfl (by first | exact .inl rfl | exact .inr (.inl rfl) | exact .inr (.inr rfl))))) (fun _ _ _ _ _ => (e_var (i := 5) rfl (by first | exact .inl rfl | exact .inr (.inl rfl) | exact .inr (.inr rfl))))) a_nil))) (ss_one s_never) ss_nil)
  (ss_cons (s_if (PW.pt (w_or (t_not (t_val (c_call O_are_so_many rfl rfl rfl rfl rfl (hr.mono (by omega)) rfl (f_glo_are_so_many T) (a_cons (e_var (i := 4) rfl (by first | exact .inl rfl | exact .inr (.inl rfl) | exact .inr (.inr rfl))) (a_cons e_int (a_cons (e_gl rfl (f_gv_MOST_RULES T)) a_nil)))))) (w_or1 (t_not (t_val (e_callB (all_L rfl rfl) rfl (f_free_all T) bb_all (a_cons (e_lcF (own := [("one", 6)]) (gt := (gName 6)) rfl sc_Talk_init.nd (i_seq rfl (e_var (i := 4) rfl (by first | exact .inl rfl | exact .inr (.inl rfl) | exact .inr (.inr rfl)))) (blkOk_by (N := N_Talk_init) (sc := defScope s_Talk_init) (by decide +kernel)) (fun _ _ _ _ _ => (pg_name (i := 6) sc_Talk_init.nd rfl (.inl rfl))) (gv_name (by decide)) (fun _ _ _ _ _ => ts_nil) (fun _ _ _ _ _ => (c_call O_is_rule rfl rfl rfl rfl rfl (hr.mono (by omega)) rfl (f_glo_is_rule T) (a_cons (e_var (i := 6) rfl (by first | exact .inl rfl | exact .inr (.inl rfl) | exact .inr (.inr rfl))) (a_cons (e_var (i := 1) rfl (by first | exact .inl rfl | exact .inr (.inl rfl) | exact .inr (.inr rfl))) (a_cons (e_var (i := 2) rfl (by first | exact .inl rfl | exact .inr (.inl rfl) | exact .inr (.inr rfl))) a_nil)))))) a_nil))))))) (ss_one s_never) ss_nil)
  (ss_one (s_asg (e_tup (a_cons (c_call O_fixed rfl rfl rfl rfl rfl (hr.mono (by omega)) rfl (f_glo_fixed T) (a_cons (e_var (i := 1) rfl (by first | exact .inl rfl | exact .inr (.inl rfl) | exact .inr (.inr rfl))) a_nil)) (a_cons (c_call O_fixed rfl rfl rfl rfl rfl (hr.mono (by omega)) rfl (f_glo_fixed T) (a_cons (e_var (i := 2) rfl (by first | exact .inl rfl | exact .inr (.inl rfl) | exact .inr (.inr rfl))) a_nil)) (a_cons (c_call O_fixed rfl rfl rfl rfl rfl (hr.mono (by omega)) rfl (f_glo_fixed T) (a_cons (e_var (i := 3) rfl (by first | exact .inl rfl | exact .inr (.inl rfl) | exact .inr (.inr rfl))) a_nil)) (a_cons (c_call O_fixed rfl rfl rfl rfl rfl (hr.mono (by omega)) rfl (f_glo_fixed T) (a_cons (e_var (i := 4) rfl (by first | exact .inl rfl | exact .inr (.inl rfl) | exact .inr (.inr rfl))) a_nil)) a_nil))))) (g_seq rfl rfl (gs_cons (g_fld rfl (f_fld_moods T) (e_var (i := 0) rfl (by first | exact .inl rfl | exact .inr (.inl rfl) | exact .inr (.inr rfl)))) (gs_cons (g_fld rfl (f_fld_words T) (e_var (i := 0) rfl (by first | exact .inl rfl | exact .inr (.inl rfl) | exact .inr (.inr rfl)))) (gs_cons (g_fld rfl (f_fld_sure T) (e_var (i := 0) rfl (by first | exact .inl rfl | exact .inr (.inl rfl) | exact .inr (.inr rfl)))) (gs_cons (g_fld rfl (f_fld_rules T) (e_var (i := 0) rfl (by first | exact .inl rfl | exact .inr (.inl rfl) | exact .inr (.inr rfl)))) gs_nil)))))))))))))
end
end Gk47

namespace Gk47
open PySem PySem.Spec PyProof.Rows L2 Li
section
variable {P : Program} {w : World} {K : PySem.W.Frag} {mg : Str → Option Value} {ns : List Int}
def N_Talk_eq : List Str := ["self", "other", "one", "its"]
theorem sc_Talk_eq : FnScope N_Talk_eq ["self", "other"] (defScope s_Talk_eq) := ⟨rfl, rfl, rfl, by decide +kernel, rfl, by decide +kernel, by decide +kernel⟩
def b_Talk_eq : LS := (lseq (lifS (tnot (lb2t (lcall (fIsi alls isis) (acons (lvar 1) (acons (lc (.cls 2)) anil))))) (lret (lc (.bl false))) lnil)
  (lseq (lpar 2 3 (acons (ltup (acons (lfld [(2, 0)] (lvar 0)) (acons (lfld [(2, 1)] (lvar 0)) (acons (lfld [(2, 2)] (lvar 0)) (acons (lfld [(2, 3)] (lvar 0)) anil))))) (acons (ltup (acons (lfld [(2, 0)] (lvar 1)) (acons (lfld [(2, 1)] (lvar 1)) (acons (lfld [(2, 2)] (lvar 1)) (acons (lfld [(2, 3)] (lvar 1)) anil))))) anil)))
  (lret (lcall fBool (acons (lop opEqP (lvar 2) (lvar 3)) anil)))))
def m_Talk_eq : LF := lfn 2 4 (b_Talk_eq)
theorem d_Talk_eq (T : Txt P w K mg) : ∃ fd, FunD K "__eq__" "Talk.__eq__" (defArgs s_Talk_eq) (defBody s_Talk_eq) (defScope s_Talk_eq) (dd_Talk_eq.dvs K) [] (He.fAd K ("Talk", some "__eq__")) fd := T.c.def_ (S := spec) 8 (d := dd_Talk_eq) rfl
theorem ok_Talk_eq (T : Txt P w K mg) (base : Heap) : OkL (gp P w K ns) mg base ("Talk", some "__eq__") ["self", "other"] 1 (m_Talk_eq) := by
  obtain ⟨fd, F⟩ := d_Talk_eq T
  refine ⟨fd, fn_lite (g := gp P w K ns) (k := 0) (N := N_Talk_eq) (ps := ["self", "other"]) (b := b_Talk_eq) F sc_Talk_eq fun cdv A outer s H E hr => ?_, lfn_takes, F.bindsN (ps := ["self", "other"]) fun _ _ _ _ _ _ us hl => match us, hl with | [_, _], _ => rfl, F.kp⟩
  exact (ss_cons (s_if (t_not (t_val (e_callB (isi_L rfl (f_isi T)) rfl (f_free_isinstance T) bb_isinstance (a_cons (e_var (i := 1) rfl (by first | exact .inl rfl | exact .inr (.inl rfl) | exact .inr (.inr rfl))) (a_cons (e_gl rfl (f_gv_Talk T)) a_nil))))) (ss_one (s_ret e_bl)) ss_nil)
  (ss_cons (s_par (i := 2) (j := 3) rfl sc_Talk_eq.nd rfl rfl (by decide) rfl rfl (a_cons (e_tup (a_cons (e_fld rfl (f_fld_moods T).1 (e_var (i := 0) rfl (by first | exact .inl rfl | exact .inr (.inl rfl) | exact .inr (.inr rfl)))) (a_cons (e_fld rfl (f_fld_words T).1 (e_var (i := 0) rfl (by first | exact .inl rfl | exact .inr (.inl rfl) | exact .inr (.inr rfl)))) (a_cons (e_fld rfl (f_fld_sure T).1 (e_var (i := 0) rfl (by first | exact .inl rfl | exact .inr (.inl rfl) | exact .inr (.inr rfl)))) (a_cons (e_fld rfl (f_fld_rules T).1 (e_var (i := 0) rfl (by first | exact .inl rfl | exact .inr (.inl rfl) | exact .inr (.inr rfl)))) a_nil))))) (a_cons (e_tup (a_cons (e_fld rfl (f_fld_moods T).1 (e_var (i := 1) rfl (by first | exact .inl rfl | exact .inr (.inl rfl) | exact .inr (.inr rfl)))) (a_cons (e_fld rfl (f_fld_words T).1 (e_var (i := 1) rfl (by first | exact .inl rfl | exact .inr (.inl rfl) | exact .inr (.inr rfl)))) (a_cons (e_fld rfl (f_fld_sure T).1 (e_var (i := 1) rfl (by first | exact .inl rfl | exact .inr (.inl rfl) | exact .inr (.inr rfl)))) (a_cons (e_fld rfl (f_fld_rules T).1 (e_var (i := 1) rfl (by first | exact .inl rfl | exact .inr (.inl rfl) | exact .inr (.inr rfl)))) a_nil))))) a_nil)))
  (ss_one (s_ret (e_callTy bool_L rfl (f_free_bool T) bb_bool (a_cons (e_cmp (op_eqP rfl rfl rfl hr) (e_var (i := 2) rfl (by first | exact .inl rfl | exact .inr (.inl rfl) | exact .inr (.inr rfl))) (e_var (i := 3) rfl (by first | exact .inl rfl | exact .inr (.inl rfl) | exact .inr (.inr rfl)))) a_nil))))))
def tab_T : Nat → Option (List Nat × LF)
  | 2 => some ([], m_Talk_eq)
  | _ => none
theorem tab_T_ok (T : Txt P w K mg) (base : Heap) : EqFsG (gp P w K ns) mg base 1 alls (tab_T) := by
  obtain ⟨fd_Talk_eq, O_Talk_eq⟩ := ok_Talk_eq (ns := ns) T base
  intro c subs lf e
  unfold tab_T at e
  split at e
  · cases e; exact ⟨_, _, _, (f_eq_Talk T), O_Talk_eq.F.mono (by omega), O_Talk_eq.N, O_Talk_eq.B⟩
  · cases e
theorem tab_T_nb (T : Txt P w K mg) : NotBs (gp P w K ns) (tab_T) := by
  intro c subs lf e
  unfold tab_T at e
  split at e
  · exact (f_notb_Talk T)
  · cases e
def N_need_talk : List Str := ["value", "part"]
theorem sc_need_talk : FnScope N_need_talk ["value", "part"] (defScope s_need_talk) := ⟨rfl, rfl, rfl, by decide +kernel, rfl, by decide +kernel, by decide +kernel⟩
def b_need_talk : LS := (lifS (tnot (lb2t (lcall (fIsi alls isis) (acons (lvar 0) (acons (lc (.cls 2)) anil))))) lnever lnil)
def m_need_talk : LF := lfn 2 2 (b_need_talk)
theorem d_need_talk (T : Txt P w K mg) : ∃ fd, FunD K "need_talk" "need_talk" (defArgs s_need_talk) (defBody s_need_talk) (defScope s_need_talk) (dd_need_talk.dvs K) [] (He.fAd K ("need_talk", none)) fd := T.c.def_ (S := spec) 9 (d := dd_need_talk) rfl
theorem ok1_need_talk (T : Txt P w K mg) (base : Heap) {fd : FuncData} (F : FunD K "need_talk" "need_talk" (defArgs s_need_talk) (defBody s_need_talk) (defScope s_need_talk) (dd_need_talk.dvs K) [] (He.fAd K ("need_talk", none)) fd) : Ok1 (gp P w K ns) mg base ("need_talk", none) ["value", "part"] 1 (m_need_talk) fd := by
  refine ⟨fn_lite (g := gp P w K ns) (k := 0) (N := N_need_talk) (ps := ["value", "part"]) (b := b_need_talk) F sc_need_talk fun cdv A outer s H E hr => ?_, lfn_takes, bindsF F (n := 2) (List.cons_ne_nil _ _) rfl (fun _ _ _ _ _ _ _ us its h1 h2 => match us, h1, its, h2 with | [_, _], _, [_], _ => ⟨_, rfl, rfl⟩), F.kp⟩
  exact (ss_one (s_if (t_not (t_val (e_callB (isi_L rfl (f_isi T)) rfl (f_free_isinstance T) bb_isinstance (a_cons (e_var (i := 0) rfl (by first | exact .inl rfl | exact .inr (.inl rfl) | exact .inr (.inr rfl))) (a_cons (e_gl rfl (f_gv_Talk T)) a_nil))))) (ss_one s_never) ss_nil))
theorem ok_need_talk (T : Txt P w K mg) (base : Heap) : OkL (gp P w K ns) mg base ("need_talk", none) ["value", "part"] 1 (m_need_talk) :=
  let ⟨_, F⟩ := d_need_talk T
  ⟨_, ok1_need_talk T base F⟩
theorem okd_need_talk_1 (T : Txt P w K mg) (base : Heap) : ∃ fd, Ok1 (gp P w K ns) mg base ("need_talk", none) ["value", "part"] 1 (m_need_talk) fd ∧ OkDs (gp P w K ns) fd ["value", "part"] [(.str [116, 97, 108, 107])] := by
  obtain ⟨fd, F⟩ := d_need_talk T
  obtain ⟨ds, rs, b⟩ := F.binds1 (ps := ["value", "part"]) 1 0 (List.cons_ne_nil _ _) rfl (fun _ _ _ _ _ _ _ us its h1 h2 => match us, h1, its, h2 with | [_], _, [_], _ => ⟨_, rfl, rfl⟩)
  exact ⟨fd, ok1_need_talk T base F, ds, _, b, rs, fun ω => (.cons (rv_str (x := "talk") (by decide +kernel) (by decide +kernel)) .nil)⟩
def N_plain_talk : List Str := []
theorem sc_plain_talk : FnScope N_plain_talk [] (defScope s_plain_talk) := ⟨rfl, rfl, rfl, by decide +kernel, rfl, by decide +kernel, by decide +kernel⟩
def b_plain_talk : LS := (lret (lmkF 2 4 m_Talk_init (acons (llst (acons (lc (.str [111, 110, 101])) (acons (lc (.str [116, 119, 111])) (acons (lc (.str [97, 108, 108])) anil)))) (acons (llst (acons (lc (.str [97, 108, 108])) anil)) (acons (llst (acons (lc (.str [97, 108, 108])) anil)) (acons (lc (.tup [(.tup [(.str [104, 97, 118, 101]), .non, (.str [111, 110, 101]), (.str [98, 101, 97, 116]), (.str [116, 119, 111]), (.str [103, 105, 118, 101])]), (.tup [(.str [104, 97, 118, 101]), (.bl true), (.str [116, 119, 111]), (.str [98, 101, 97, 116]), (.str [111, 110, 101]), (.str [97, 108, 108])]), (.tup [(.str [104, 97, 118, 101]), (.bl false), (.str [116, 119, 111]), (.str [98, 101, 97, 116]), (.str [111, 110, 101]), .non]), (.tup [(.str [104, 97, 118, 101]), .non, .non, (.str [97, 108, 108]), (.str [97, 108, 108]), .non]), (.tup [(.str [104, 97, 118, 101]), (.bl true), (.str [97, 108, 108]), (.str [98, 101, 97, 116]), .non, (.str [97, 108, 108])]), (.tup [(.str [103, 111, 110, 101]), .non, .non, (.str [98, 101, 97, 116]), .non, (.str [97, 108, 108])])])) anil))))))
def m_plain_talk : LF := lfn 0 0 (b_plain_talk)
theorem d_plain_talk (T : Txt P w K mg) : ∃ fd, FunD K "plain_talk" "plain_talk" (defArgs s_plain_talk) (defBody s_plain_talk) (defScope s_plain_talk) (dd_plain_talk.dvs K) [] (He.fAd K ("plain_talk", none)) fd := T.c.def_ (S := spec) 10 (d := dd_plain_talk) rfl
theorem ok_plain_talk (T : Txt P w K mg) (base : Heap) : OkL (gp P w K ns) mg base ("plain_talk", none) [] 14 (m_plain_talk) := by
  obtain ⟨fd, F⟩ := d_plain_talk T
  obtain ⟨fd_Talk_init, O_Talk_init⟩ := ok_Talk_init (ns := ns) T base
  refine ⟨fd, fn_lite (g := gp P w K ns) (k := 13) (N := N_plain_talk) (ps := []) (b := b_plain_talk) F sc_plain_talk fun cdv A outer s H E hr => ?_, lfn_takes, F.bindsN (ps := []) fun _ _ _ _ _ _ us hl => match us, hl with | [], _ => rfl, F.kp⟩
  exact (ss_one (s_ret (c_mkF (c := 2) (nf := 4) O_Talk_init rfl rfl rfl rfl rfl rfl (f_mk_Talk T) (hr.mono (by omega)) (f_glo_Talk T) rfl (a_cons (e_lst (a_cons e_strK (a_cons e_strK (a_cons e_strK a_nil)))) (a_cons (e_lst (a_cons e_strK a_nil)) (a_cons (e_lst (a_cons e_strK a_nil)) (a_cons (e_gl rfl (f_gv_PLAIN_RULES T)) a_nil)))))))
def N_Link_init : List Str := ["self", "left", "right"]
theorem sc_Link_init : FnScope N_Link_init ["self", "left", "right"] (defScope s_Link_init) := ⟨rfl, rfl, rfl, by decide +kernel, rfl, by decide +kernel, by decide +kernel⟩
def b_Link_init : LS := (lseq (lexpr (lcall m_need_talk (acons (lvar 1) (acons (lc (.str [108, 101, 102, 116])) anil))))
  (lseq (lexpr (lcall m_need_talk (acons (lvar 2) (acons (lc (.str [114, 105, 103, 104, 116])) anil))))
  (lasg (ltup (acons (lvar 1) (acons (lvar 2) anil))) (gseqN 2 (gcons (gfld [(3, 0)] (lvar 0)) (gcons (gfld [(3, 1)] (lvar 0)) gnil))))))
def m_Link_init : LF := lfn 3 3 (b_Link_init)
theorem d_Link_init (T : Txt P w K mg) : ∃ fd, FunD K "__init__" "Link.__init__" (defArgs s_Link_init) (defBody s_Link_init) (defScope s_Link_init) (dd_Link_init.dvs K) [] (He.fAd K ("Link", some "__init__")) fd := T.c.def_ (S := spec) 11 (d := dd_Link_init) rfl
theorem ok_Link_init (T : Txt P w K mg) (base : Heap) : OkL (gp P w K ns) mg base ("Link", some "__init__") ["self", "left", "right"] 2 (m_Link_init) := by
  obtain ⟨fd, F⟩ := d_Link_init T
  obtain ⟨fd_need_talk, O_need_talk⟩ := ok_need_talk (ns := ns) T base
  refine ⟨fd, fn_lite (g := gp P w K ns) (k := 1) (N := N_Link_init) (ps := ["self", "left", "right"]) (b := b_Link_init) F sc_Link_init fun cdv A outer s H E hr => ?_, lfn_takes, F.bindsN (ps := ["self", "left", "right"]) fun _ _ _ _ _ _ us hl => match us, hl with | [_, _, _], _ => rfl, F.kp⟩
  exact (ss_cons (s_expr (c_call O_need_talk rfl rfl rfl rfl rfl (hr.mono (by omega)) rfl (f_glo_need_talk T) (a_cons (e_var (i := 1) rfl (by first | exact .inl rfl | exact .inr (.inl rfl) | exact .inr (.inr rfl))) (a_cons (e_gl rfl (f_gv_LEFT T)) a_nil))))
  (ss_cons (s_expr (c_call O_need_talk rfl rfl rfl rfl rfl (hr.mono (by omega)) rfl (f_glo_need_talk T) (a_cons (e_var (i := 2) rfl (by first | exact .inl rfl | exact .inr (.inl rfl) | exact .inr (.inr rfl))) (a_cons (e_gl rfl (f_gv_RIGHT T)) a_nil))))
  (ss_one (s_asg (e_tup (a_cons (e_var (i := 1) rfl (by first | exact .inl rfl | exact .inr (.inl rfl) | exact .inr (.inr rfl))) (a_cons (e_var (i := 2) rfl (by first | exact .inl rfl | exact .inr (.inl rfl) | exact .inr (.inr rfl))) a_nil))) (g_seq rfl rfl (gs_cons (g_fld rfl (f_fld_left T) (e_var (i := 0) rfl (by first | exact .inl rfl | exact .inr (.inl rfl) | exact .inr (.inr rfl)))) (gs_cons (g_fld rfl (f_fld_right T) (e_var (i := 0) rfl (by first | exact .inl rfl | exact .inr (.inl rfl) | exact .inr (.inr rfl)))) gs_nil)))))))
def N_Link_eq : List Str := ["self", "other"]
theorem sc_Link_eq : FnScope N_Link_eq ["self", "other"] (defScope s_Link_eq) := ⟨rfl, rfl, rfl, by decide +kernel, rfl, by decide +kernel, by decide +kernel⟩
def b_Link_eq : LS := (lret (land (lcall (fIsi alls isis) (acons (lvar 1) (acons (lc (.cls 3)) anil))) (land (lop (opEqX alls tab_T) (lfld [(3, 0)] (lvar 0)) (lfld [(3, 0)] (lvar 1))) (lop (opEqX alls tab_T) (lfld [(3, 1)] (lvar 0)) (lfld [(3, 1)] (lvar 1))))))
def m_Link_eq : LF := lfn 2 2 (b_Link_eq)
theorem d_Link_eq (T : Txt P w K mg) : ∃ fd, FunD K "__eq__" "Link.__eq__" (defArgs s_Link_eq) (defBody s_Link_eq) (defScope s_Link_eq) (dd_Link_eq.dvs K) [] (He.fAd K ("Link", some "__eq__")) fd := T.c.def_ (S := spec) 12 (d := dd_Link_eq) rfl
theorem ok_Link_eq (T : Txt P w K mg) (base : Heap) : OkL (gp P w K ns) mg base ("Link", some "__eq__") ["self", "other"] 11 (m_Link_eq) := by
  obtain ⟨fd, F⟩ := d_Link_eq T
  refine ⟨fd, fn_lite (g := gp P w K ns) (k := 10) (N := N_Link_eq) (ps := ["self", "other"]) (b := b_Link_eq) F sc_Link_eq fun cdv A outer s H E hr => ?_, lfn_takes, F.bindsN (ps := ["self", "other"]) fun _ _ _ _ _ _ us hl => match us, hl with | [_, _], _ => rfl, F.kp⟩
  exact (ss_one (s_ret (e_and (e_callB (isi_L rfl (f_isi T)) rfl (f_free_isinstance T) bb_isinstance (a_cons (e_var (i := 1) rfl (by first | exact .inl rfl | exact .inr (.inl rfl) | exact .inr (.inr rfl))) (a_cons (e_gl rfl (f_gv_Link T)) a_nil))) (e_and (e_cmp (op_eqX rfl rfl rfl (f_isi T) (tab_T_ok T base) (tab_T_nb T) (hr.mono (by omega))) (e_fld rfl (f_fld_left T).1 (e_var (i := 0) rfl (by first | exact .inl rfl | exact .inr (.inl rfl) | exact .inr (.inr rfl)))) (e_fld rfl (f_fld_left T).1 (e_var (i := 1) rfl (by first | exact .inl rfl | exact .inr (.inl rfl) | exact .inr (.inr rfl))))) (e_one (e_cmp (op_eqX rfl rfl rfl (f_isi T) (tab_T_ok T base) (tab_T_nb T) (hr.mono (by omega))) (e_fld rfl (f_fld_right T).1 (e_var (i := 0) rfl (by first | exact .inl rfl | exact .inr (.inl rfl) | exact .inr (.inr rfl)))) (e_fld rfl (f_fld_right T).1 (e_var (i := 1) rfl (by first | exact .inl rfl | exact .inr (.inl rfl) | exact .inr (.inr rfl))))))))))
def tab_L : Nat → Option (List Nat × LF)
  | 2 => some ([], m_Talk_eq)
  | 3 => some ([], m_Link_eq)
  | _ => none
theorem tab_L_ok (T : Txt P w K mg) (base : Heap) : EqFsG (gp P w K ns) mg base 11 alls (tab_L) := by
  obtain ⟨fd_Talk_eq, O_Talk_eq⟩ := ok_Talk_eq (ns := ns) T base
  obtain ⟨fd_Link_eq, O_Link_eq⟩ := ok_Link_eq (ns := ns) T base
  intro c subs lf e
  unfold tab_L at e
  split at e
  · cases e; exact ⟨_, _, _, (f_eq_Talk T), O_Talk_eq.F.mono (by omega), O_Talk_eq.N, O_Talk_eq.B⟩
  · cases e; exact ⟨_, _, _, (f_eq_Link T), O_Link_eq.F.mono (by omega), O_Link_eq.N, O_Link_eq.B⟩
  · cases e
theorem tab_L_nb (T : Txt P w K mg) : NotBs (gp P w K ns) (tab_L) := by
  intro c subs lf e
  unfold tab_L at e
  split at e
  · exact (f_notb_Talk T)
  · exact (f_notb_Link T)
  · cases e
def N_Link_turned : List Str := ["self"]
theorem sc_Link_turned : FnScope N_Link_turned ["self"] (defScope s_Link_turned) := ⟨rfl, rfl, rfl, by decide +kernel, rfl, by decide +kernel, by decide +kernel⟩
def b_Link_turned : LS := (lret (lmkF 3 2 m_Link_init (acons (lfld [(3, 1)] (lvar 0)) (acons (lfld [(3, 0)] (lvar 0)) anil))))
def m_Link_turned : LF := lfn 1 1 (b_Link_turned)
theorem d_Link_turned (T : Txt P w K mg) : ∃ fd, FunD K "turned" "Link.turned" (defArgs s_Link_turned) (defBody s_Link_turned) (defScope s_Link_turned) (dd_Link_turned.dvs K) [] (He.fAd K ("Link", some "turned")) fd := T.c.def_ (S := spec) 13 (d := dd_Link_turned) rfl
theorem ok_Link_turned (T : Txt P w K mg) (base : Heap) : OkL (gp P w K ns) mg base ("Link", some "turned") ["self"] 4 (m_Link_turned) := by
  obtain ⟨fd, F⟩ := d_Link_turned T
  obtain ⟨fd_Link_init, O_Link_init⟩ := ok_Link_init (ns := ns) T base
  refine ⟨fd, fn_lite (g := gp P w K ns) (k := 3) (N := N_Link_turned) (ps := ["self"]) (b := b_Link_turned) F sc_Link_turned fun cdv A outer s H E hr => ?_, lfn_takes, F.bindsN (ps := ["self"]) fun _ _ _ _ _ _ us hl => match us, hl with | [_], _ => rfl, F.kp⟩
  exact (ss_one (s_ret (c_mkF (c := 3) (nf := 2) O_Link_init rfl rfl rfl rfl rfl rfl (f_mk_Link T) (hr.mono (by omega)) (f_glo_Link T) rfl (a_cons (e_fld rfl (f_fld_right T).1 (e_var (i := 0) rfl (by first | exact .inl rfl | exact .inr (.inl rfl) | exact .inr (.inr rfl)))) (a_cons (e_fld rfl (f_fld_left T).1 (e_var (i := 0) rfl (by first | exact .inl rfl | exact .inr (.inl rfl) | exact .inr (.inr rfl)))) a_nil)))))
end
end Gk47

namespace Gk47
open PySem PySem.Spec PyProof.Rows L2 Li
section
variable {P : Program} {w : World} {K : PySem.W.Frag} {mg : Str → Option Value} {ns : List Int}
def N_are_people : List Str := ["value", "one", "other"]
theorem sc_are_people : FnScope N_are_people ["value"] (defScope s_are_people) := ⟨rfl, rfl, rfl, by decide +kernel, rfl, by decide +kernel, by decide +kernel⟩
def b_are_people : LS := (lseq (lifS (tor (tnot (lb2t (lcall m_are_so_many (acons (lvar 0) (acons (lc (.int 2)) (acons (lc (.int 60)) anil)))))) (tnot (lb2t (lcall (fBls allOf) (acons (lcF (lseq' (lvar 0)) [1] (gname 1) lyes (lcall m_is_name (acons (lvar 1) anil))) anil))))) (lret (lc (.bl false))) lnil)
  (lret (lcall (fBls allOf) (acons (lcF (lzip (acons (lvar 0) (acons (lsl false (lvar 0) (lpart (lc (.int 1))) lno) anil))) [1, 2] (gtupN 2 (gcons (gname 1) (gcons (gname 2) gnil))) lyes (lop opLtD (lvar 1) (lvar 2))) anil))))
def m_are_people : LF := lfn 1 3 (b_are_people)
theorem d_are_people (T : Txt P w K mg) : ∃ fd, FunD K "are_people" "are_people" (defArgs s_are_people) (defBody s_are_people) (defScope s_are_people) (dd_are_people.dvs K) [] (He.fAd K ("are_people", none)) fd := T.c.def_ (S := spec) 14 (d := dd_are_people) rfl
theorem ok_are_people (T : Txt P w K mg) (base : Heap) : OkL (gp P w K ns) mg base ("are_people", none) ["value"] 3 (m_are_people) := by
  obtain ⟨fd, F⟩ := d_are_people T
  obtain ⟨fd_are_so_many, O_are_so_many⟩ := ok_are_so_many (ns := ns) T base
  obtain ⟨fd_is_name, O_is_name⟩ := ok_is_name (ns := ns) T base
  refine ⟨fd, fn_lite (g := gp P w K ns) (k := 2) (N := N_are_people) (ps := ["value"]) (b := b_are_people) F sc_are_people fun cdv A outer s H E hr => ?_, lfn_takes, F.bindsN (ps := ["value"]) fun _ _ _ _ _ _ us hl => match us, hl with | [_], _ => rfl, F.kp⟩
  exact (ss_cons (s_if (PW.pt (w_or (t_not (t_val (c_call O_are_so_many rfl rfl rfl rfl rfl (hr.mono (by omega)) rfl (f_glo_are_so_many T) (a_cons (e_var (i := 0) rfl (by first | exact .inl rfl | exact .inr (.inl rfl) | exact .inr (.inr rfl))) (a_cons (e_gl rfl (f_gv_LEAST_PEOPLE T)) (a_cons (e_gl rfl (f_gv_MOST_PEOPLE T)) a_nil)))))) (w_or1 (t_not (t_val (e_callB (all_L rfl rfl) rfl (f_free_all T) bb_all (a_cons (e_lcF (own := [("one", 1)]) (gt := (gName 1)) rfl sc_are_people.nd (i_seq rfl (e_var (i := 0) rfl (by first | exact .inl rfl | exact .inr (.inl rfl) | exact .inr (.inr rfl)))) (blkOk_by (N := N_are_people) (sc := defScope s_are_people) (by decide +kernel)) (fun _ _ _ _ _ => (pg_name (i := 1) sc_are_people.nd rfl (.inl rfl))) (gv_name (by decide)) (fun _ _ _ _ _ => ts_nil) (fun _ _ _ _ _ => (c_call O_is_name rfl rfl rfl rfl rfl (hr.mono (by omega)) rfl (f_glo_is_name T) (a_cons (e_var (i := 1) rfl (by first | exact .inl rfl | exact .inr (.inl rfl) | exact .inr (.inr rfl))) a_nil)))) a_nil))))))) (ss_one (s_ret e_bl)) ss_nil)
  (ss_one (s_ret (e_callB (all_L rfl rfl) rfl (f_free_all T) bb_all (a_cons (e_lcF (own := [("one", 1), ("other", 2)]) (gt := (gTup K 2 (gCons (gName 1) (gCons (gName 2) gNil)))) rfl sc_are_people.nd (i_zip rfl rfl (f_free_zip T) (a_cons (e_var (i := 0) rfl (by first | exact .inl rfl | exact .inr (.inl rfl) | exact .inr (.inr rfl))) (a_cons (e_sl false rfl (e_var (i := 0) rfl (by first | exact .inl rfl | exact .inr (.inl rfl) | exact .inr (.inr rfl))) (o_some e_int) o_none) a_nil))) (blkOk_by (N := N_are_people) (sc := defScope s_are_people) (by decide +kernel)) (fun _ _ _ _ _ => (pg_tup rfl (pgs_cons (pg_name (i := 1) sc_are_people.nd rfl (.inl rfl)) (pgs_cons (pg_name (i := 2) sc_are_people.nd rfl (.inl rfl)) pgs_nil)))) (gv_tup rfl (gvs_cons (gv_name (by decide)) (gvs_cons (gv_name (by decide)) gvs_nil))) (fun _ _ _ _ _ => ts_nil) (fun _ _ _ _ _ => (e_cmp (op_ltD rfl hr) (e_var (i := 1) rfl (by first | exact .inl rfl | exact .inr (.inl rfl) | exact .inr (.inr rfl))) (e_var (i := 2) rfl (by first | exact .inl rfl | exact .inr (.inl rfl) | exact .inr (.inr rfl)))))) a_nil)))))
def N_is_joint : List Str := ["people", "value", "one"]
theorem sc_is_joint : FnScope N_is_joint ["people", "value"] (defScope s_is_joint) := ⟨rfl, rfl, rfl, by decide +kernel, rfl, by decide +kernel, by decide +kernel⟩
def b_is_joint : LS := (lseq (lifS (tor (tnot (lb2t (lcall m_is_row (acons (lvar 1) (acons (lc (.int 3)) anil))))) (tor (tnot (lb2t (lcall (fIsi alls isis) (acons (lop opIx (lvar 1) (lc (.int 2))) (acons (lc (.cls 3)) anil))))) (tnot (lb2t (lcall (fBls allOf) (acons (lcF (lseq' (lsl false (lvar 1) lno (lpart (lc (.int 2))))) [2] (gname 2) lyes (lcall (fIsi alls isis) (acons (lvar 2) (acons (lc (.ty 3)) anil)))) anil)))))) (lret (lc (.bl false))) lnil)
  (lret (land (lop (opInD false) (lop opIx (lvar 1) (lc (.int 0))) (lvar 0)) (land (lop (opInD false) (lop opIx (lvar 1) (lc (.int 1))) (lvar 0)) (lop opLtD (lop opIx (lvar 1) (lc (.int 0))) (lop opIx (lvar 1) (lc (.int 1))))))))
def m_is_joint : LF := lfn 2 3 (b_is_joint)
theorem d_is_joint (T : Txt P w K mg) : ∃ fd, FunD K "is_joint" "is_joint" (defArgs s_is_joint) (defBody s_is_joint) (defScope s_is_joint) (dd_is_joint.dvs K) [] (He.fAd K ("is_joint", none)) fd := T.c.def_ (S := spec) 15 (d := dd_is_joint) rfl
theorem ok_is_joint (T : Txt P w K mg) (base : Heap) : OkL (gp P w K ns) mg base ("is_joint", none) ["people", "value"] 3 (m_is_joint) := by
  obtain ⟨fd, F⟩ := d_is_joint T
  obtain ⟨fd_is_row, O_is_row⟩ := ok_is_row (ns := ns) T base
  refine ⟨fd, fn_lite (g := gp P w K ns) (k := 2) (N := N_is_joint) (ps := ["people", "value"]) (b := b_is_joint) F sc_is_joint fun cdv A outer s H E hr => ?_, lfn_takes, F.bindsN (ps := ["people", "value"]) fun _ _ _ _ _ _ us hl => match us, hl with | [_, _], _ => rfl, F.kp⟩
  exact (ss_cons (s_if (PW.pt (w_or (t_not (t_val (c_call O_is_row rfl rfl rfl rfl rfl (hr.mono (by omega)) rfl (f_glo_is_row T) (a_cons (e_var (i := 1) rfl (by first | exact .inl rfl | exact .inr (.inl rfl) | exact .inr (.inr rfl))) (a_cons e_int a_nil))))) (w_or (t_not (t_val (e_callB (isi_L rfl (f_isi T)) rfl (f_free_isinstance T) bb_isinstance (a_cons (e_ix rfl rfl rfl hr (e_var (i := 1) rfl (by first | exact .inl rfl | exact .inr (.inl rfl) | exact .inr (.inr rfl))) e_int) (a_cons (e_gl rfl (f_gv_Link T)) a_nil))))) (w_or1 (t_not (t_val (e_callB (all_L rfl rfl) rfl (f_free_all T) bb_all (a_cons (e_lcF (own := [("one", 2)]) (gt := (gName 2)) rfl sc_is_joint.nd (i_seq rfl (e_sl false rfl (e_var (i := 1) rfl (by first | exact .inl rfl | exact .inr (.inl rfl) | exact .inr (.inr rfl))) o_none (o_some e_int))) (blkOk_by (N := N_is_joint) (sc := defScope s_is_joint) (by decide +kernel)) (fun _ _ _ _ _ => (pg_name (i := 2) sc_is_joint.nd rfl (.inl rfl))) (gv_name (by decide)) (fun _ _ _ _ _ => ts_nil) (fun _ _ _ _ _ => (e_callB (isi_L rfl (f_isi T)) rfl (f_free_isinstance T) bb_isinstance (a_cons (e_var (i := 2) rfl (by first | exact .inl rfl | exact .inr (.inl rfl) | exact .inr (.inr rfl))) (a_cons (e_tyB (T := 3) rfl (f_free_str T) bb_str) a_nil))))) a_nil)))))))) (ss_one (s_ret e_bl)) ss_nil)
  (ss_one (s_ret (e_and (e_cmp (op_inD rfl rfl rfl hr) (e_ix rfl rfl rfl hr (e_var (i := 1) rfl (by first | exact .inl rfl | exact .inr (.inl rfl) | exact .inr (.inr rfl))) e_int) (e_var (i := 0) rfl (by first | exact .inl rfl | exact .inr (.inl rfl) | exact .inr (.inr rfl)))) (e_and (e_cmp (op_inD rfl rfl rfl hr) (e_ix rfl rfl rfl hr (e_var (i := 1) rfl (by first | exact .inl rfl | exact .inr (.inl rfl) | exact .inr (.inr rfl))) e_int) (e_var (i := 0) rfl (by first | exact .inl rfl | exact .inr (.inl rfl) | exact .inr (.inr rfl)))) (e_one (e_cmp (op_ltD rfl hr) (e_ix rfl rfl rfl hr (e_var (i := 1) rfl (by first | exact .inl rfl | exact .inr (.inl rfl) | exact .inr (.inr rfl))) e_int) (e_ix rfl rfl rfl hr (e_var (i := 1) rfl (by first | exact .inl rfl | exact .inr (.inl rfl) | exact .inr (.inr rfl))) e_int))))))))
def N_are_joints : List Str := ["people", "value", "one", "other"]
theorem sc_are_joints : FnScope N_are_joints ["people", "value"] (defScope s_are_joints) := ⟨rfl, rfl, rfl, by decide +kernel, rfl, by decide +kernel, by decide +kernel⟩
def b_are_joints : LS := (lseq (lifS (tor (tnot (lb2t (lcall m_is_listed (acons (lvar 1) anil)))) (tnot (lb2t (lcall (fBls allOf) (acons (lcF (lseq' (lvar 1)) [2] (gname 2) lyes (lcall m_is_joint (acons (lvar 0) (acons (lvar 2) anil)))) anil))))) (lret (lc (.bl false))) lnil)
  (lret (lcall (fBls allOf) (acons (lcF (lzip (acons (lvar 1) (acons (lsl false (lvar 1) (lpart (lc (.int 1))) lno) anil))) [2, 3] (gtupN 2 (gcons (gname 2) (gcons (gname 3) gnil))) lyes (lop opLtD (lcall fTup (acons (lsl false (lvar 2) lno (lpart (lc (.int 2)))) anil)) (lcall fTup (acons (lsl false (lvar 3) lno (lpart (lc (.int 2)))) anil)))) anil))))
def m_are_joints : LF := lfn 2 4 (b_are_joints)
theorem d_are_joints (T : Txt P w K mg) : ∃ fd, FunD K "are_joints" "are_joints" (defArgs s_are_joints) (defBody s_are_joints) (defScope s_are_joints) (dd_are_joints.dvs K) [] (He.fAd K ("are_joints", none)) fd := T.c.def_ (S := spec) 16 (d := dd_are_joints) rfl
theorem ok_are_joints (T : Txt P w K mg) (base : Heap) : OkL (gp P w K ns) mg base ("are_joints", none) ["people", "value"] 4 (m_are_joints) := by
  obtain ⟨fd, F⟩ := d_are_joints T
  obtain ⟨fd_is_listed, O_is_listed⟩ := ok_is_listed (ns := ns) T base
  obtain ⟨fd_is_joint, O_is_joint⟩ := ok_is_joint (ns := ns) T base
  refine ⟨fd, fn_lite (g := gp P w K ns) (k := 3) (N := N_are_joints) (ps := ["people", "value"]) (b := b_are_joints) F sc_are_joints fun cdv A outer s H E hr => ?_, lfn_takes, F.bindsN (ps := ["people", "value"]) fun _ _ _ _ _ _ us hl => match us, hl with | [_, _], _ => rfl, F.kp⟩
  exact (ss_cons (s_if (PW.pt (w_or (t_not (t_val (c_call O_is_listed rfl rfl rfl rfl rfl (hr.mono (by omega)) rfl (f_glo_is_listed T) (a_cons (e_var (i := 1) rfl (by first | exact .inl rfl | exact .inr (.inl rfl) | exact .inr (.inr rfl))) a_nil)))) (w_or1 (t_not (t_val (e_callB (all_L rfl rfl) rfl (f_free_all T) bb_all (a_cons (e_lcF (own := [("one", 2)]) (gt := (gName 2)) rfl sc_are_joints.nd (i_seq rfl (e_var (i := 1) rfl (by first | exact .inl rfl | exact .inr (.inl rfl) | exact .inr (.inr rfl)))) (blkOk_by (N := N_are_joints) (sc := defScope s_are_joints) (by decide +kernel)) (fun _ _ _ _ _ => (pg_name (i := 2) sc_are_joints.nd rfl (.inl rfl))) (gv_name (by decide)) (fun _ _ _ _ _ => ts_nil) (fun _ _ _ _ _ => (c_call O_is_joint rfl rfl rfl rfl rfl (hr.mono (by omega)) rfl (f_glo_is_joint T) (a_cons (e_var (i := 0) rfl (by first | exact .inl rfl | exact .inr (.inl rfl) | exact .inr (.inr rfl))) (a_cons (e_var (i := 2) rfl (by first | exact .inl rfl | exact .inr (.inl rfl) | exact .inr (.inr rfl))) a_nil))))) a_nil))))))) (ss_one (s_ret e_bl)) ss_nil)
  (ss_one (s_ret (e_callB (all_L rfl rfl) rfl (f_free_all T) bb_all (a_cons (e_lcF (own := [("one", 2), ("other", 3)]) (gt := (gTup K 2 (gCons (gName 2) (gCons (gName 3) gNil)))) rfl sc_are_joints.nd (i_zip rfl rfl (f_free_zip T) (a_cons (e_var (i := 1) rfl (by first | exact .inl rfl | exact .inr (.inl rfl) | exact .inr (.inr rfl))) (a_cons (e_sl false rfl (e_var (i := 1) rfl (by first | exact .inl rfl | exact .inr (.inl rfl) | exact .inr (.inr rfl))) (o_some e_int) o_none) a_nil))) (blkOk_by (N := N_are_joints) (sc := defScope s_are_joints) (by decide +kernel)) (fun _ _ _ _ _ => (pg_tup rfl (pgs_cons (pg_name (i := 2) sc_are_joints.nd rfl (.inl rfl)) (pgs_cons (pg_name (i := 3) sc_are_joints.nd rfl (.inl rfl)) pgs_nil)))) (gv_tup rfl (gvs_cons (gv_name (by decide)) (gvs_cons (gv_name (by decide)) gvs_nil))) (fun _ _ _ _ _ => ts_nil) (fun _ _ _ _ _ => (e_cmp (op_ltD rfl hr) (e_callTy (tup_L rfl) rfl (f_free_tuple T) bb_tuple (a_cons (e_sl false rfl (e_var (i := 2) rfl (by first | exact .inl rfl | exact .inr (.inl rfl) | exact .inr (.inr rfl))) o_none (o_some e_int)) a_nil)) (e_callTy (tup_L rfl) rfl (f_free_tuple T) bb_tuple (a_cons (e_sl false rfl (e_var (i := 3) rfl (by first | exact .inl rfl | exact .inr (.inl rfl) | exact .inr (.inr rfl))) o_none (o_some e_int)) a_nil))))) a_nil)))))
def N_reached : List Str := ["near", "begin", "barred", "found", "line", "here", "other"]
theorem sc_reached : FnScope N_reached ["near", "begin", "barred"] (defScope s_reached) := ⟨rfl, rfl, rfl, by decide +kernel, rfl, by decide +kernel, by decide +kernel⟩
def b_reached : LS := (lseq (lpar 3 4 (acons (ldisp true (((lvar 1), (lc (.bl true))) :: [])) (acons (llstH (acons (lvar 1) anil)) anil)))
  (lseq (lwhile (lb2t (lop opNeP (lvar 4) (llstH anil))) (lseq (lset 5 (lmb isL fPop (lvar 4) anil))
  (lfor (lseq' (lop opIx (lvar 0) (lvar 5))) (gname 6) (lifS (tand (lb2t (lop (opInD true) (lvar 6) (lvar 3))) (lb2t (lop (opInD true) (ltup (acons (lvar 5) (acons (lvar 6) anil))) (lvar 2)))) (lseq (lasg (lc (.bl true)) (gsub (lvar 3) (lvar 6)))
  (lexpr (lmb isL fApp (lvar 4) (acons (lvar 6) anil)))) lnil))) 100000)
  (lret (lvar 3))))
def m_reached : LF := lfn 3 7 (b_reached)
theorem d_reached (T : Txt P w K mg) : ∃ fd, FunD K "reached" "reached" (defArgs s_reached) (defBody s_reached) (defScope s_reached) (dd_reached.dvs K) [] (He.fAd K ("reached", none)) fd := T.c.def_ (S := spec) 17 (d := dd_reached) rfl
theorem ok1_reached (T : Txt P w K mg) (base : Heap) {fd : FuncData} (F : FunD K "reached" "reached" (defArgs s_reached) (defBody s_reached) (defScope s_reached) (dd_reached.dvs K) [] (He.fAd K ("reached", none)) fd) : Ok1 (gp P w K ns) mg base ("reached", none) ["near", "begin", "barred"] 1 (m_reached) fd := by
  refine ⟨fn_lite (g := gp P w K ns) (k := 0) (N := N_reached) (ps := ["near", "begin", "barred"]) (b := b_reached) F sc_reached fun cdv A outer s H E hr => ?_, lfn_takes, bindsF F (n := 3) (List.cons_ne_nil _ _) rfl (fun _ _ _ _ _ _ _ us its h1 h2 => match us, h1, its, h2 with | [_, _, _], _, [_], _ => ⟨_, rfl, rfl⟩), F.kp⟩
  exact (ss_cons (s_par (i := 3) (j := 4) rfl sc_reached.nd rfl rfl (by decide) rfl rfl (a_cons (e_disp true rfl rfl (.cons (e_var (i := 1) rfl (by first | exact .inl rfl | exact .inr (.inl rfl) | exact .inr (.inr rfl))) e_bl .nil) (by simp) rfl) (a_cons (e_lstH (a_cons (e_var (i := 1) rfl (by first | exact .inl rfl | exact .inr (.inl rfl) | exact .inr (.inr rfl))) a_nil)) a_nil)))
  (ss_cons (s_while 100000 PassesOwn.never (t_cmp (op_neP rfl hr) (e_var (i := 4) rfl (by first | exact .inl rfl | exact .inr (.inl rfl) | exact .inr (.inr rfl))) (e_lstH a_nil)) (ss_cons (s_set (i := 5) sc_reached.nd rfl (by first | exact .inl rfl | exact .inr rfl) (e_m0 tyL PySem.F.plainAttrs_list PySem.F.slot_list_pop PySem.F.type_list_pop m_pop (e_var (i := 4) rfl (by first | exact .inl rfl | exact .inr (.inl rfl) | exact .inr (.inr rfl)))))
  (ss_one (s_for PassesOwn.never rfl (i_seq rfl (e_ix rfl rfl rfl hr (e_var (i := 0) rfl (by first | exact .inl rfl | exact .inr (.inl rfl) | exact .inr (.inr rfl))) (e_var (i := 5) rfl (by first | exact .inl rfl | exact .inr (.inl rfl) | exact .inr (.inr rfl))))) (g_name (i := 6) sc_reached.nd rfl (by first | exact .inl rfl | exact .inr rfl)) (ss_one (s_if (PW.pt (w_and (t_cmp (op_notInD rfl rfl rfl hr) (e_var (i := 6) rfl (by first | exact .inl rfl | exact .inr (.inl rfl) | exact .inr (.inr rfl))) (e_var (i := 3) rfl (by first | exact .inl rfl | exact .inr (.inl rfl) | exact .inr (.inr rfl)))) (w_and1 (t_cmp (op_notInD rfl rfl rfl hr) (e_tup (a_cons (e_var (i := 5) rfl (by first | exact .inl rfl | exact .inr (.inl rfl) | exact .inr (.inr rfl))) (a_cons (e_var (i := 6) rfl (by first | exact .inl rfl | exact .inr (.inl rfl) | exact .inr (.inr rfl))) a_nil))) (e_var (i := 2) rfl (by first | exact .inl rfl | exact .inr (.inl rfl) | exact .inr (.inr rfl))))))) (ss_cons (s_asg e_bl (g_sub (E := E0x) rfl rfl rfl hr (e_var (i := 3) rfl (by first | exact .inl rfl | exact .inr (.inl rfl) | exact .inr (.inr rfl))) (e_var (i := 6) rfl (by first | exact .inl rfl | exact .inr (.inl rfl) | exact .inr (.inr rfl)))))
  (ss_one (s_expr (e_m tyL PySem.F.plainAttrs_list PySem.F.slot_list_append PySem.F.type_list_append m_app (e_var (i := 4) rfl (by first | exact .inl rfl | exact .inr (.inl rfl) | exact .inr (.inr rfl))) (a_cons (e_var (i := 6) rfl (by first | exact .inl rfl | exact .inr (.inl rfl) | exact .inr (.inr rfl))) a_nil))))) ss_nil))))))
  (ss_one (s_ret (e_var (i := 3) rfl (by first | exact .inl rfl | exact .inr (.inl rfl) | exact .inr (.inr rfl)))))))
theorem ok_reached (T : Txt P w K mg) (base : Heap) : OkL (gp P w K ns) mg base ("reached", none) ["near", "begin", "barred"] 1 (m_reached) :=
  let ⟨_, F⟩ := d_reached T
  ⟨_, ok1_reached T base F⟩
theorem okd_reached_2 (T : Txt P w K mg) (base : Heap) : ∃ fd, Ok1 (gp P w K ns) mg base ("reached", none) ["near", "begin", "barred"] 1 (m_reached) fd ∧ OkDs (gp P w K ns) fd ["near", "begin", "barred"] [(.tup [])] := by
  obtain ⟨fd, F⟩ := d_reached T
  obtain ⟨ds, rs, b⟩ := F.binds1 (ps := ["near", "begin", "barred"]) 2 0 (List.cons_ne_nil _ _) rfl (fun _ _ _ _ _ _ _ us its h1 h2 => match us, h1, its, h2 with | [_, _], _, [_], _ => ⟨_, rfl, rfl⟩)
  exact ⟨fd, ok1_reached T base F, ds, _, b, rs, fun ω => (.cons (f_dfl_reached_0 T ω) .nil)⟩
def N_Net_init : List Str := ["self", "people", "links", "one", "other", "link", "person", "some"]
theorem sc_Net_init : FnScope N_Net_init ["self", "people", "links"] (defScope s_Net_init) := ⟨rfl, rfl, rfl, by decide +kernel, rfl, by decide +kernel, by decide +kernel⟩
def b_Net_init : LS := (lseq (lifS (tnot (lb2t (lcall m_are_people (acons (lvar 1) anil)))) lnever lnil)
  (lseq (lifS (tnot (lb2t (lcall m_are_joints (acons (lvar 1) (acons (lvar 2) anil))))) lnever lnil)
  (lseq (lsetF [(5, 0)] (lvar 0) (lcall fTup (acons (lvar 1) anil)))
  (lseq (lsetF [(5, 1)] (lvar 0) (lcall fTup (acons (lcF (lseq' (lvar 2)) [3, 4, 5] (gtupN 3 (gcons (gname 3) (gcons (gname 4) (gcons (gname 5) gnil)))) lyes (ltup (acons (lvar 3) (acons (lvar 4) (acons (lvar 5) anil))))) anil)))
  (lseq (lsetF [(5, 2)] (lvar 0) (ldc false (lseq' (lfld [(5, 0)] (lvar 0))) [6] (gname 6) lyes (lvar 6) (llstH anil)))
  (lseq (lsetF [(5, 3)] (lvar 0) (ldnew true true))
  (lseq (lfor (lseq' (lfld [(5, 1)] (lvar 0))) (gseqN 3 (gcons (gname 3) (gcons (gname 4) (gcons (gname 5) gnil)))) (lseq (lexpr (lmb isL fApp (lop opIx (lfld [(5, 2)] (lvar 0)) (lvar 3)) (acons (lvar 4) anil)))
  (lseq (lexpr (lmb isL fApp (lop opIx (lfld [(5, 2)] (lvar 0)) (lvar 4)) (acons (lvar 3) anil)))
  (lasg (ltup (acons (lvar 5) (acons (lmeth 3 m_Link_turned (lvar 5) anil) anil))) (gseqN 2 (gcons (gsub (lfld [(5, 3)] (lvar 0)) (ltup (acons (lvar 3) (acons (lvar 4) anil)))) (gcons (gsub (lfld [(5, 3)] (lvar 0)) (ltup (acons (lvar 4) (acons (lvar 3) anil)))) gnil)))))))
  (lseq (lsetF [(5, 2)] (lvar 0) (ldc false (litems (lfld [(5, 2)] (lvar 0))) [6, 7] (gtupN 2 (gcons (gname 6) (gcons (gname 7) gnil))) lyes (lvar 6) (lcall fTup (acons (lcall (fSorted false) (acons (lvar 7) anil)) anil))))
  (lseq (lifS (lb2t (lop opLtD (lcall fLen (acons (lcallD m_reached [(.tup [])] (acons (lfld [(5, 2)] (lvar 0)) (acons (lop opIx (lfld [(5, 0)] (lvar 0)) (lc (.int 0))) anil))) anil)) (lcall fLen (acons (lfld [(5, 0)] (lvar 0)) anil)))) lnever lnil)
  (lseq (lsetF [(5, 4)] (lvar 0) (lcall fTup (acons (lcall (fSortedD false) (acons (lfld [(5, 3)] (lvar 0)) anil)) anil)))
  (lsetF [(5, 5)] (lvar 0) (lop opEqP (lop opAdd (lcall fLen (acons (lfld [(5, 1)] (lvar 0)) anil)) (lc (.int 1))) (lcall fLen (acons (lfld [(5, 0)] (lvar 0)) anil))))))))))))))
def m_Net_init : LF := lfnI 3 8 (b_Net_init)
theorem d_Net_init (T : Txt P w K mg) : ∃ fd, FunD K "__init__" "Net.__init__" (defArgs s_Net_init) (defBody s_Net_init) (defScope s_Net_init) (dd_Net_init.dvs K) [] (He.fAd K ("Net", some "__init__")) fd := T.c.def_ (S := spec) 18 (d := dd_Net_init) rfl
theorem ok_Net_init (T : Txt P w K mg) (base : Heap) : OkL (gp P w K ns) mg base ("Net", some "__init__") ["self", "people", "links"] 5 (m_Net_init) := by
  obtain ⟨fd, F⟩ := d_Net_init T
  obtain ⟨fd_are_people, O_are_people⟩ := ok_are_people (ns := ns) T base
  obtain ⟨fd_are_joints, O_are_joints⟩ := ok_are_joints (ns := ns) T base
  obtain ⟨fd_Link_turned, O_Link_turned⟩ := ok_Link_turned (ns := ns) T base
  obtain ⟨fd_reached, O_reached, D_reached_2⟩ := okd_reached_2 (ns := ns) T base
  refine ⟨fd, fn_liteI (g := gp P w K ns) (k := 4) (N := N_Net_init) (ps := ["self", "people", "links"]) (b := b_Net_init) F sc_Net_init fun cdv A outer s H E hr => ?_, lfnI_takes, F.bindsN (ps := ["self", "people", "links"]) fun _ _ _ _ _ _ us hl => match us, hl with | [_, _, _], _ => rfl, F.kp⟩
  exact (ss_cons (s_if (t_not (t_val (c_call O_are_people rfl rfl rfl rfl rfl (hr.mono (by omega)) rfl (f_glo_are_people T) (a_cons (e_var (i := 1) rfl (by first | exact .inl rfl | exact .inr (.inl rfl) | exact .inr (.inr rfl))) a_nil)))) (ss_one s_never) ss_nil)
  (ss_cons (s_if (t_not (t_val (c_call O_are_joints rfl rfl rfl rfl rfl (hr.mono (by omega)) rfl (f_glo_are_joints T) (a_cons (e_var (i := 1) rfl (by first | exact .inl rfl | exact .inr (.inl rfl) | exact .inr (.inr rfl))) (a_cons (e_var (i := 2) rfl (by first | exact .inl rfl | exact .inr (.inl rfl) | exact .inr (.inr rfl))) a_nil))))) (ss_one s_never) ss_nil)
  (ss_cons (s_fld rfl (f_fld_people T) (e_var (i := 0) rfl (by first | exact .inl rfl | exact .inr (.inl rfl) | exact .inr (.inr rfl))) (e_callTy (tup_L rfl) rfl (f_free_tuple T) bb_tuple (a_cons (e_var (i := 1) rfl (by first | exact .inl rfl | exact .inr (.inl rfl) | exact .inr (.inr rfl))) a_nil)))
  (ss_cons (s_fld rfl (f_fld_links T) (e_var (i := 0) rfl (by first | exact .inl rfl | exact .inr (.inl rfl) | exact .inr (.inr rfl))) (e_callTy (tup_L rfl) rfl (f_free_tuple T) bb_tuple (a_cons (e_lcF (own := [("one", 3), ("other", 4), ("link", 5)]) (gt := (gTup K 3 (gCons (gName 3) (gCons (gName 4) (gCons (gName 5) gNil))))) rfl sc_Net_init.nd (i_seq rfl (e_var (i := 2) rfl (by first | exact .inl rfl | exact .inr (.inl rfl) | exact .inr (.inr rfl)))) (blkOk_by (N := N_Net_init) (sc := defScope s_Net_init) (by decide +kernel)) (fun _ _ _ _ _ => (pg_tup rfl (pgs_cons (pg_name (i := 3) sc_Net_init.nd rfl (.inl rfl)) (pgs_cons (pg_name (i := 4) sc_Net_init.nd rfl (.inl rfl)) (pgs_cons (pg_name (i := 5) sc_Net_init.nd rfl (.inl rfl)) pgs_nil))))) (gv_tup rfl (gvs_cons (gv_name (by decide)) (gvs_cons (gv_name (by decide)) (gvs_cons (gv_name (by decide)) gvs_nil)))) (fun _ _ _ _ _ => ts_nil) (fun _ _ _ _ _ => (e_tup (a_cons (e_var (i := 3) rfl (by first | exact .inl rfl | exact .inr (.inl rfl) | exact .inr (.inr rfl))) (a_cons (e_var (i := 4) rfl (by first | exact .inl rfl | exact .inr (.inl rfl) | exact .inr (.inr rfl))) (a_cons (e_var (i := 5) rfl (by first | exact .inl rfl | exact .inr (.inl rfl) | exact .inr (.inr rfl))) a_nil)))))) a_nil)))
  (ss_cons (s_fld rfl (f_fld_near T) (e_var (i := 0) rfl (by first | exact .inl rfl | exact .inr (.inl rfl) | exact .inr (.inr rfl))) (e_dc (own := [("person", 6)]) (gt := (gName 6)) false rfl rfl rfl sc_Net_init.nd (i_seq rfl (e_fld rfl (f_fld_people T).1 (e_var (i := 0) rfl (by first | exact .inl rfl | exact .inr (.inl rfl) | exact .inr (.inr rfl))))) (blkOk_by (N := N_Net_init) (sc := defScope s_Net_init) (by decide +kernel)) (fun _ _ _ _ _ => (pg_name (i := 6) sc_Net_init.nd rfl (.inl rfl))) (gv_name (by decide)) (fun _ _ _ _ _ => ts_nil) (fun _ _ _ _ _ => (e_var (i := 6) rfl (by first | exact .inl rfl | exact .inr (.inl rfl) | exact .inr (.inr rfl)))) (fun _ _ _ _ _ => (e_lstH a_nil))))
  (ss_cons (s_fld rfl (f_fld_ends T) (e_var (i := 0) rfl (by first | exact .inl rfl | exact .inr (.inl rfl) | exact .inr (.inr rfl))) (e_dnewT rfl rfl))
  (ss_cons (s_for PassesOwn.never rfl (i_seq rfl (e_fld rfl (f_fld_links T).1 (e_var (i := 0) rfl (by first | exact .inl rfl | exact .inr (.inl rfl) | exact .inr (.inr rfl))))) (g_seq rfl rfl (gs_cons (g_name (i := 3) sc_Net_init.nd rfl (by first | exact .inl rfl | exact .inr rfl)) (gs_cons (g_name (i := 4) sc_Net_init.nd rfl (by first | exact .inl rfl | exact .inr rfl)) (gs_cons (g_name (i := 5) sc_Net_init.nd rfl (by first | exact .inl rfl | exact .inr rfl)) gs_nil)))) (ss_cons (s_expr (e_m tyL PySem.F.plainAttrs_list PySem.F.slot_list_append PySem.F.type_list_append m_app (e_ix rfl rfl rfl hr (e_fld rfl (f_fld_near T).1 (e_var (i := 0) rfl (by first | exact .inl rfl | exact .inr (.inl rfl) | exact .inr (.inr rfl)))) (e_var (i := 3) rfl (by first | exact .inl rfl | exact .inr (.inl rfl) | exact .inr (.inr rfl)))) (a_cons (e_var (i := 4) rfl (by first | exact .inl rfl | exact .inr (.inl rfl) | exact .inr (.inr rfl))) a_nil)))
  (ss_cons (s_expr (e_m tyL PySem.F.plainAttrs_list PySem.F.slot_list_append PySem.F.type_list_append m_app (e_ix rfl rfl rfl hr (e_fld rfl (f_fld_near T).1 (e_var (i := 0) rfl (by first | exact .inl rfl | exact .inr (.inl rfl) | exact .inr (.inr rfl)))) (e_var (i := 4) rfl (by first | exact .inl rfl | exact .inr (.inl rfl) | exact .inr (.inr rfl)))) (a_cons (e_var (i := 3) rfl (by first | exact .inl rfl | exact .inr (.inl rfl) | exact .inr (.inr rfl))) a_nil)))
  (ss_one (s_asg (e_tup (a_cons (e_var (i := 5) rfl (by first | exact .inl rfl | exact .inr (.inl rfl) | exact .inr (.inr rfl))) (a_cons (c_meth0 (c := 3) O_Link_turned rfl rfl rfl rfl rfl (f_cls_Link T) (f_meth_Link_turned T) (by show ("turned" : Str) ∉ cfs 3; decide) (hr.mono (by omega)) (e_var (i := 5) rfl (by first | exact .inl rfl | exact .inr (.inl rfl) | exact .inr (.inr rfl)))) a_nil))) (g_seq rfl rfl (gs_cons (g_sub (E := E0x) rfl rfl rfl hr (e_fld rfl (f_fld_ends T).1 (e_var (i := 0) rfl (by first | exact .inl rfl | exact .inr (.inl rfl) | exact .inr (.inr rfl)))) (e_tup (a_cons (e_var (i := 3) rfl (by first | exact .inl rfl | exact .inr (.inl rfl) | exact .inr (.inr rfl))) (a_cons (e_var (i := 4) rfl (by first | exact .inl rfl | exact .inr (.inl rfl) | exact .inr (.inr rfl))) a_nil)))) (gs_cons (g_sub (E := E0x) rfl rfl rfl hr (e_fld rfl (f_fld_ends T).1 (e_var (i := 0) rfl (by first | exact .inl rfl | exact .inr (.inl rfl) | exact .inr (.inr rfl)))) (e_tup (a_cons (e_var (i := 4) rfl (by first | exact .inl rfl | exact .inr (.inl rfl) | exact .inr (.inr rfl))) (a_cons (e_var (i := 3) rfl (by first | exact .inl rfl | exact .inr (.inl rfl) | exact .inr (.inr rfl))) a_nil)))) gs_nil))))))))
  (ss_cons (s_fld rfl (f_fld_near T) (e_var (i := 0) rfl (by first | exact .inl rfl | exact .inr (.inl rfl) | exact .inr (.inr rfl))) (e_dc (own := [("person", 6), ("some", 7)]) (gt := (gTup K 2 (gCons (gName 6) (gCons (gName 7) gNil)))) false rfl rfl rfl sc_Net_init.nd (i_items (e_fld rfl (f_fld_near T).1 (e_var (i := 0) rfl (by first | exact .inl rfl | exact .inr (.inl rfl) | exact .inr (.inr rfl))))) (blkOk_by (N := N_Net_init) (sc := defScope s_Net_init) (by decide +kernel)) (fun _ _ _ _ _ => (pg_tup rfl (pgs_cons (pg_name (i := 6) sc_Net_init.nd rfl (.inl rfl)) (pgs_cons (pg_name (i := 7) sc_Net_init.nd rfl (.inl rfl)) pgs_nil)))) (gv_tup rfl (gvs_cons (gv_name (by decide)) (gvs_cons (gv_name (by decide)) gvs_nil))) (fun _ _ _ _ _ => ts_nil) (fun _ _ _ _ _ => (e_var (i := 6) rfl (by first | exact .inl rfl | exact .inr (.inl rfl) | exact .inr (.inr rfl)))) (fun _ _ _ _ _ => (e_callTy (tup_L rfl) rfl (f_free_tuple T) bb_tuple (a_cons (e_callB (sorted_L rfl hr false) rfl (f_free_sorted T) bb_sorted (a_cons (e_var (i := 7) rfl (by first | exact .inl rfl | exact .inr (.inl rfl) | exact .inr (.inr rfl))) a_nil)) a_nil)))))
  (ss_cons (s_if (t_cmp (op_ltD rfl hr) (e_callB (len_L rfl rfl rfl) rfl (f_free_len T) bb_len (a_cons (c_callD O_reached D_reached_2 rfl rfl rfl rfl rfl (hr.mono (by omega)) rfl (f_glo_reached T) (a_cons (e_fld rfl (f_fld_near T).1 (e_var (i := 0) rfl (by first | exact .inl rfl | exact .inr (.inl rfl) | exact .inr (.inr rfl)))) (a_cons (e_ix rfl rfl rfl hr (e_fld rfl (f_fld_people T).1 (e_var (i := 0) rfl (by first | exact .inl rfl | exact .inr (.inl rfl) | exact .inr (.inr rfl)))) e_int) a_nil))) a_nil)) (e_callB (len_L rfl rfl rfl) rfl (f_free_len T) bb_len (a_cons (e_fld rfl (f_fld_people T).1 (e_var (i := 0) rfl (by first | exact .inl rfl | exact .inr (.inl rfl) | exact .inr (.inr rfl)))) a_nil))) (ss_one s_never) ss_nil)
  (ss_cons (s_fld rfl (f_fld_pairs T) (e_var (i := 0) rfl (by first | exact .inl rfl | exact .inr (.inl rfl) | exact .inr (.inr rfl))) (e_callTy (tup_L rfl) rfl (f_free_tuple T) bb_tuple (a_cons (e_callB (sorted_LD rfl rfl hr false) rfl (f_free_sorted T) bb_sorted (a_cons (e_fld rfl (f_fld_ends T).1 (e_var (i := 0) rfl (by first | exact .inl rfl | exact .inr (.inl rfl) | exact .inr (.inr rfl)))) a_nil)) a_nil)))
  (ss_one (s_fld rfl (f_fld_is_tree T) (e_var (i := 0) rfl (by first | exact .inl rfl | exact .inr (.inl rfl) | exact .inr (.inr rfl))) (e_cmp (op_eqP rfl rfl rfl hr) (e_op (op_addL rfl) (e_callB (len_L rfl rfl rfl) rfl (f_free_len T) bb_len (a_cons (e_fld rfl (f_fld_links T).1 (e_var (i := 0) rfl (by first | exact .inl rfl | exact .inr (.inl rfl) | exact .inr (.inr rfl)))) a_nil)) e_int) (e_callB (len_L rfl rfl rfl) rfl (f_free_len T) bb_len (a_cons (e_fld rfl (f_fld_people T).1 (e_var (i := 0) rfl (by first | exact .inl rfl | exact .inr (.inl rfl) | exact .inr (.inr rfl)))) a_nil)))))))))))))))
def N_Net_eq : List Str := ["self", "other"]
theorem sc_Net_eq : FnScope N_Net_eq ["self", "other"] (defScope s_Net_eq) := ⟨rfl, rfl, rfl, by decide +kernel, rfl, by decide +kernel, by decide +kernel⟩
def b_Net_eq : LS := (lret (land (lcall (fIsi alls isis) (acons (lvar 1) (acons (lc (.cls 5)) anil))) (land (lop (opEqX alls tab_L) (lfld [(5, 0)] (lvar 0)) (lfld [(5, 0)] (lvar 1))) (lop (opEqX alls tab_L) (lfld [(5, 1)] (lvar 0)) (lfld [(5, 1)] (lvar 1))))))
def m_Net_eq : LF := lfn 2 2 (b_Net_eq)
theorem d_Net_eq (T : Txt P w K mg) : ∃ fd, FunD K "__eq__" "Net.__eq__" (defArgs s_Net_eq) (defBody s_Net_eq) (defScope s_Net_eq) (dd_Net_eq.dvs K) [] (He.fAd K ("Net", some "__eq__")) fd := T.c.def_ (S := spec) 19 (d := dd_Net_eq) rfl
theorem ok_Net_eq (T : Txt P w K mg) (base : Heap) : OkL (gp P w K ns) mg base ("Net", some "__eq__") ["self", "other"] 21 (m_Net_eq) := by
  obtain ⟨fd, F⟩ := d_Net_eq T
  refine ⟨fd, fn_lite (g := gp P w K ns) (k := 20) (N := N_Net_eq) (ps := ["self", "other"]) (b := b_Net_eq) F sc_Net_eq fun cdv A outer s H E hr => ?_, lfn_takes, F.bindsN (ps := ["self", "other"]) fun _ _ _ _ _ _ us hl => match us, hl with | [_, _], _ => rfl, F.kp⟩
  exact (ss_one (s_ret (e_and (e_callB (isi_L rfl (f_isi T)) rfl (f_free_isinstance T) bb_isinstance (a_cons (e_var (i := 1) rfl (by first | exact .inl rfl | exact .inr (.inl rfl) | exact .inr (.inr rfl))) (a_cons (e_gl rfl (f_gv_Net T)) a_nil))) (e_and (e_cmp (op_eqX rfl rfl rfl (f_isi T) (tab_L_ok T base) (tab_L_nb T) (hr.mono (by omega))) (e_fld rfl (f_fld_people T).1 (e_var (i := 0) rfl (by first | exact .inl rfl | exact .inr (.inl rfl) | exact .inr (.inr rfl)))) (e_fld rfl (f_fld_people T).1 (e_var (i := 1) rfl (by first | exact .inl rfl | exact .inr (.inl rfl) | exact .inr (.inr rfl))))) (e_one (e_cmp (op_eqX rfl rfl rfl (f_isi T) (tab_L_ok T base) (tab_L_nb T) (hr.mono (by omega))) (e_fld rfl (f_fld_links T).1 (e_var (i := 0) rfl (by first | exact .inl rfl | exact .inr (.inl rfl) | exact .inr (.inr rfl)))) (e_fld rfl (f_fld_links T).1 (e_var (i := 1) rfl (by first | exact .inl rfl | exact .inr (.inl rfl) | exact .inr (.inr rfl))))))))))
def N_Paper_init : List Str := ["self", "word", "parts"]
theorem sc_Paper_init : FnScope N_Paper_init ["self", "word", "parts"] (defScope s_Paper_init) := ⟨rfl, rfl, rfl, by decide +kernel, rfl, by decide +kernel, by decide +kernel⟩
def b_Paper_init : LS := (lseq (lsetF [(0, 0), (1, 0), (4, 0), (6, 0), (7, 0), (8, 0), (9, 0), (10, 0), (11, 0)] (lvar 0) (lcall (m_fixed 10) (acons (lvar 1) anil)))
  (lsetF [(0, 1), (1, 1), (4, 1), (6, 1), (7, 1), (8, 1), (9, 1), (10, 1), (11, 1)] (lvar 0) (lcall (m_fixed 10) (acons (lvar 2) anil))))
def m_Paper_init : LF := lfnStar 2 3 (b_Paper_init)
theorem d_Paper_init (T : Txt P w K mg) : ∃ fd, FunD K "__init__" "Paper.__init__" (defArgs s_Paper_init) (defBody s_Paper_init) (defScope s_Paper_init) (dd_Paper_init.dvs K) [] (He.fAd K ("Paper", some "__init__")) fd := T.c.def_ (S := spec) 20 (d := dd_Paper_init) rfl
theorem okr_Paper_init (T : Txt P w K mg) (base : Heap) : Ok1R (gp P w K ns) mg base ("Paper", some "__init__") 12 (m_Paper_init) := by
  obtain ⟨fd, F⟩ := d_Paper_init T
  obtain ⟨fd_fixed, O_fixed⟩ := okn_fixed (ns := ns) T base 10
  refine ⟨fn_starN (g := gp P w K ns) (k := 11) (N := N_Paper_init) (ps := ["self", "word"]) (pv := "parts") (b := b_Paper_init) F sc_Paper_init (fun kV doc pm an cdv ct => StX.bind_star2 (B := fun us => bindArgs _ ⟨us, []⟩) (fun _ _ => rfl) (fun _ _ _ _ => rfl)) fun cdv A outer s H E hr => ?_⟩
  exact (ss_cons (s_fld rfl (f_fld_word T) (e_var (i := 0) rfl (by first | exact .inl rfl | exact .inr (.inl rfl) | exact .inr (.inr rfl))) (c_call O_fixed rfl rfl rfl rfl rfl (hr.mono (by omega)) rfl (f_glo_fixed T) (a_cons (e_var (i := 1) rfl (by first | exact .inl rfl | exact .inr (.inl rfl) | exact .inr (.inr rfl))) a_nil)))
  (ss_one (s_fld rfl (f_fld_parts T) (e_var (i := 0) rfl (by first | exact .inl rfl | exact .inr (.inl rfl) | exact .inr (.inr rfl))) (c_call O_fixed rfl rfl rfl rfl rfl (hr.mono (by omega)) rfl (f_glo_fixed T) (a_cons (e_var (i := 2) rfl (by first | exact .inl rfl | exact .inr (.inl rfl) | exact .inr (.inr rfl))) a_nil)))))
def N_Paper_bool : List Str := ["self"]
theorem sc_Paper_bool : FnScope N_Paper_bool ["self"] (defScope s_Paper_bool) := ⟨rfl, rfl, rfl, by decide +kernel, rfl, by decide +kernel, by decide +kernel⟩
def b_Paper_bool : LS := (lret (lc (.bl true)))
def m_Paper_bool : LF := lfn 1 1 (b_Paper_bool)
theorem d_Paper_bool (T : Txt P w K mg) : ∃ fd, FunD K "__bool__" "Paper.__bool__" (defArgs s_Paper_bool) (defBody s_Paper_bool) (defScope s_Paper_bool) (dd_Paper_bool.dvs K) [] (He.fAd K ("Paper", some "__bool__")) fd := T.c.def_ (S := spec) 21 (d := dd_Paper_bool) rfl
theorem ok_Paper_bool (T : Txt P w K mg) (base : Heap) : OkL (gp P w K ns) mg base ("Paper", some "__bool__") ["self"] 1 (m_Paper_bool) := by
  obtain ⟨fd, F⟩ := d_Paper_bool T
  refine ⟨fd, fn_lite (g := gp P w K ns) (k := 0) (N := N_Paper_bool) (ps := ["self"]) (b := b_Paper_bool) F sc_Paper_bool fun cdv A outer s H E hr => ?_, lfn_takes, F.bindsN (ps := ["self"]) fun _ _ _ _ _ _ us hl => match us, hl with | [_], _ => rfl, F.kp⟩
  exact (ss_one (s_ret e_bl))
end
end Gk47

namespace Gk47
open PySem PySem.Spec PyProof.Rows L2 Li
section
variable {P : Program} {w : World} {K : PySem.W.Frag} {mg : Str → Option Value} {ns : List Int}
def N_Denial_bool : List Str := ["self"]
theorem sc_Denial_bool : FnScope N_Denial_bool ["self"] (defScope s_Denial_bool) := ⟨rfl, rfl, rfl, by decide +kernel, rfl, by decide +kernel, by decide +kernel⟩
def b_Denial_bool : LS := (lret (lc (.bl false)))
def m_Denial_bool : LF := lfn 1 1 (b_Denial_bool)
theorem d_Denial_bool (T : Txt P w K mg) : ∃ fd, FunD K "__bool__" "Denial.__bool__" (defArgs s_Denial_bool) (defBody s_Denial_bool) (defScope s_Denial_bool) (dd_Denial_bool.dvs K) [] (He.fAd K ("Denial", some "__bool__")) fd := T.c.def_ (S := spec) 22 (d := dd_Denial_bool) rfl
theorem ok_Denial_bool (T : Txt P w K mg) (base : Heap) : OkL (gp P w K ns) mg base ("Denial", some "__bool__") ["self"] 1 (m_Denial_bool) := by
  obtain ⟨fd, F⟩ := d_Denial_bool T
  refine ⟨fd, fn_lite (g := gp P w K ns) (k := 0) (N := N_Denial_bool) (ps := ["self"]) (b := b_Denial_bool) F sc_Denial_bool fun cdv A outer s H E hr => ?_, lfn_takes, F.bindsN (ps := ["self"]) fun _ _ _ _ _ _ us hl => match us, hl with | [_], _ => rfl, F.kp⟩
  exact (ss_one (s_ret e_bl))
def N_Paper_eq : List Str := ["self", "other"]
theorem sc_Paper_eq : FnScope N_Paper_eq ["self", "other"] (defScope s_Paper_eq) := ⟨rfl, rfl, rfl, by decide +kernel, rfl, by decide +kernel, by decide +kernel⟩
def b_Paper_eq (c_alike : LF) : LS := (lseq (lifS (tor (tnot (lb2t (lcall (fIsi alls isis) (acons (lvar 1) (acons (lc (.cls 0)) anil))))) (lb2t (lop opNeP (lcname nms (lcls alls (lvar 0))) (lcname nms (lcls alls (lvar 1)))))) (lret (lc (.bl false))) lnil)
  (lret (lcall c_alike (acons (ltup (acons (lfld [(0, 0), (1, 0), (4, 0), (6, 0), (7, 0), (8, 0), (9, 0), (10, 0), (11, 0)] (lvar 0)) (acons (lfld [(0, 1), (1, 1), (4, 1), (6, 1), (7, 1), (8, 1), (9, 1), (10, 1), (11, 1)] (lvar 0)) anil))) (acons (ltup (acons (lfld [(0, 0), (1, 0), (4, 0), (6, 0), (7, 0), (8, 0), (9, 0), (10, 0), (11, 0)] (lvar 1)) (acons (lfld [(0, 1), (1, 1), (4, 1), (6, 1), (7, 1), (8, 1), (9, 1), (10, 1), (11, 1)] (lvar 1)) anil))) anil)))))
def m_Paper_eq (c_alike : LF) : LF := lfn 2 2 (b_Paper_eq c_alike)
theorem d_Paper_eq (T : Txt P w K mg) : ∃ fd, FunD K "__eq__" "Paper.__eq__" (defArgs s_Paper_eq) (defBody s_Paper_eq) (defScope s_Paper_eq) (dd_Paper_eq.dvs K) [] (He.fAd K ("Paper", some "__eq__")) fd := T.c.def_ (S := spec) 23 (d := dd_Paper_eq) rfl
theorem ok_Paper_eq (T : Txt P w K mg) (base : Heap) {ka : Nat} {c_alike : LF} (H_are_alike : OkL (gp P w K ns) mg base ("are_alike", none) ["one", "other"] ka c_alike) (h_ka : 40 ≤ ka) : OkL (gp P w K ns) mg base ("Paper", some "__eq__") ["self", "other"] (ka + 1) (m_Paper_eq c_alike) := by
  obtain ⟨fd, F⟩ := d_Paper_eq T
  obtain ⟨fd_are_alike, O_are_alike⟩ := H_are_alike
  refine ⟨fd, fn_lite (g := gp P w K ns) (k := (ka + 0)) (N := N_Paper_eq) (ps := ["self", "other"]) (b := b_Paper_eq c_alike) F sc_Paper_eq fun cdv A outer s H E hr => ?_, lfn_takes, F.bindsN (ps := ["self", "other"]) fun _ _ _ _ _ _ us hl => match us, hl with | [_, _], _ => rfl, F.kp⟩
  exact (ss_cons (s_if (PW.pt (w_or (t_not (t_val (e_callB (isi_L rfl (f_isi T)) rfl (f_free_isinstance T) bb_isinstance (a_cons (e_var (i := 1) rfl (by first | exact .inl rfl | exact .inr (.inl rfl) | exact .inr (.inr rfl))) (a_cons (e_gl rfl (f_gv_Paper T)) a_nil))))) (w_or1 (t_cmp (op_neP rfl hr) (e_cname rfl (f_nmT T) (e_cls rfl (f_clsT T) (e_var (i := 0) rfl (by first | exact .inl rfl | exact .inr (.inl rfl) | exact .inr (.inr rfl))))) (e_cname rfl (f_nmT T) (e_cls rfl (f_clsT T) (e_var (i := 1) rfl (by first | exact .inl rfl | exact .inr (.inl rfl) | exact .inr (.inr rfl))))))))) (ss_one (s_ret e_bl)) ss_nil)
  (ss_one (s_ret (c_call O_are_alike rfl rfl rfl rfl rfl (hr.mono (by omega)) rfl (f_glo_are_alike T) (a_cons (e_tup (a_cons (e_fld rfl (f_fld_word T).1 (e_var (i := 0) rfl (by first | exact .inl rfl | exact .inr (.inl rfl) | exact .inr (.inr rfl)))) (a_cons (e_fld rfl (f_fld_parts T).1 (e_var (i := 0) rfl (by first | exact .inl rfl | exact .inr (.inl rfl) | exact .inr (.inr rfl)))) a_nil))) (a_cons (e_tup (a_cons (e_fld rfl (f_fld_word T).1 (e_var (i := 1) rfl (by first | exact .inl rfl | exact .inr (.inl rfl) | exact .inr (.inr rfl)))) (a_cons (e_fld rfl (f_fld_parts T).1 (e_var (i := 1) rfl (by first | exact .inl rfl | exact .inr (.inl rfl) | exact .inr (.inr rfl)))) a_nil))) a_nil))))))
def tab_A (c_alike : LF) : Nat → Option (List Nat × LF)
  | 0 => some ([17, 20, 22, 23, 24, 25, 26, 27], m_Paper_eq c_alike)
  | 1 => some ([20, 22, 25, 26], m_Paper_eq c_alike)
  | 4 => some ([], m_Paper_eq c_alike)
  | 6 => some ([], m_Paper_eq c_alike)
  | 7 => some ([], m_Paper_eq c_alike)
  | 8 => some ([], m_Paper_eq c_alike)
  | 9 => some ([], m_Paper_eq c_alike)
  | 10 => some ([], m_Paper_eq c_alike)
  | 11 => some ([], m_Paper_eq c_alike)
  | 2 => some ([], m_Talk_eq)
  | 3 => some ([], m_Link_eq)
  | 5 => some ([], m_Net_eq)
  | _ => none
theorem tab_A_ok (T : Txt P w K mg) (base : Heap) {ka : Nat} {c_alike : LF} (H_are_alike : OkL (gp P w K ns) mg base ("are_alike", none) ["one", "other"] ka c_alike) (h_ka : 40 ≤ ka) : EqFsG (gp P w K ns) mg base (ka + 1) alls (tab_A c_alike) := by
  obtain ⟨fd_Paper_eq, O_Paper_eq⟩ := ok_Paper_eq (ns := ns) T base H_are_alike h_ka
  obtain ⟨fd_Talk_eq, O_Talk_eq⟩ := ok_Talk_eq (ns := ns) T base
  obtain ⟨fd_Link_eq, O_Link_eq⟩ := ok_Link_eq (ns := ns) T base
  obtain ⟨fd_Net_eq, O_Net_eq⟩ := ok_Net_eq (ns := ns) T base
  intro c subs lf e
  unfold tab_A at e
  split at e
  · cases e; exact ⟨_, _, _, (f_eq_Paper T), O_Paper_eq.F.mono (by omega), O_Paper_eq.N, O_Paper_eq.B⟩
  · cases e; exact ⟨_, _, _, (f_eq_Denial T), O_Paper_eq.F.mono (by omega), O_Paper_eq.N, O_Paper_eq.B⟩
  · cases e; exact ⟨_, _, _, (f_eq_Early T), O_Paper_eq.F.mono (by omega), O_Paper_eq.N, O_Paper_eq.B⟩
  · cases e; exact ⟨_, _, _, (f_eq_Stage T), O_Paper_eq.F.mono (by omega), O_Paper_eq.N, O_Paper_eq.B⟩
  · cases e; exact ⟨_, _, _, (f_eq_Idle T), O_Paper_eq.F.mono (by omega), O_Paper_eq.N, O_Paper_eq.B⟩
  · cases e; exact ⟨_, _, _, (f_eq_Done T), O_Paper_eq.F.mono (by omega), O_Paper_eq.N, O_Paper_eq.B⟩
  · cases e; exact ⟨_, _, _, (f_eq_Blamed T), O_Paper_eq.F.mono (by omega), O_Paper_eq.N, O_Paper_eq.B⟩
  · cases e; exact ⟨_, _, _, (f_eq_Blocked T), O_Paper_eq.F.mono (by omega), O_Paper_eq.N, O_Paper_eq.B⟩
  · cases e; exact ⟨_, _, _, (f_eq_Unison T), O_Paper_eq.F.mono (by omega), O_Paper_eq.N, O_Paper_eq.B⟩
  · cases e; exact ⟨_, _, _, (f_eq_Talk T), O_Talk_eq.F.mono (by omega), O_Talk_eq.N, O_Talk_eq.B⟩
  · cases e; exact ⟨_, _, _, (f_eq_Link T), O_Link_eq.F.mono (by omega), O_Link_eq.N, O_Link_eq.B⟩
  · cases e; exact ⟨_, _, _, (f_eq_Net T), O_Net_eq.F.mono (by omega), O_Net_eq.N, O_Net_eq.B⟩
  · cases e
theorem tab_A_nb (T : Txt P w K mg) {c_alike : LF} : NotBs (gp P w K ns) (tab_A c_alike) := by
  intro c subs lf e
  unfold tab_A at e
  split at e
  · exact (f_notb_Paper T)
  · exact (f_notb_Denial T)
  · exact (f_notb_Early T)
  · exact (f_notb_Stage T)
  · exact (f_notb_Idle T)
  · exact (f_notb_Done T)
  · exact (f_notb_Blamed T)
  · exact (f_notb_Blocked T)
  · exact (f_notb_Unison T)
  · exact (f_notb_Talk T)
  · exact (f_notb_Link T)
  · exact (f_notb_Net T)
  · cases e
def N_are_alike : List Str := ["one", "other", "part", "its"]
theorem sc_are_alike : FnScope N_are_alike ["one", "other"] (defScope s_are_alike) := ⟨rfl, rfl, rfl, by decide +kernel, rfl, by decide +kernel, by decide +kernel⟩
def b_are_alike (c_alike : LF) : LS := (lseq (lifS (tand (lb2t (lcall (fIsi alls isis) (acons (lvar 0) (acons (lc (.ty 5)) anil)))) (lb2t (lcall (fIsi alls isis) (acons (lvar 1) (acons (lc (.ty 5)) anil))))) (lret (land (lop (opEqX alls (tab_A c_alike)) (lcall fLen (acons (lvar 0) anil)) (lcall fLen (acons (lvar 1) anil))) (lcall (fBls allOf) (acons (lcF (lzip (acons (lvar 0) (acons (lvar 1) anil))) [2, 3] (gtupN 2 (gcons (gname 2) (gcons (gname 3) gnil))) lyes (lcall c_alike (acons (lvar 2) (acons (lvar 3) anil)))) anil)))) lnil)
  (lseq (lifS (lb2t (lop (opNeY alls (tab_A c_alike)) (lcall (fIsi alls isis) (acons (lvar 0) (acons (lc (.ty 1)) anil))) (lcall (fIsi alls isis) (acons (lvar 1) (acons (lc (.ty 1)) anil))))) (lret (lc (.bl false))) lnil)
  (lret (lcall fBool (acons (lop (opEqX alls (tab_A c_alike)) (lvar 0) (lvar 1)) anil)))))
def mo_are_alike (c_alike : LF) : LF := lfn 2 4 (b_are_alike c_alike)
def m_are_alike : Nat → LF
  | 0 => fun _ _ => none
  | n + 1 => mo_are_alike (m_are_alike n)
theorem d_are_alike (T : Txt P w K mg) : ∃ fd, FunD K "are_alike" "are_alike" (defArgs s_are_alike) (defBody s_are_alike) (defScope s_are_alike) (dd_are_alike.dvs K) [] (He.fAd K ("are_alike", none)) fd := T.c.def_ (S := spec) 24 (d := dd_are_alike) rfl
theorem oko_are_alike (T : Txt P w K mg) (base : Heap) {ka : Nat} {c_alike : LF} (H_are_alike : OkL (gp P w K ns) mg base ("are_alike", none) ["one", "other"] ka c_alike) (h_ka : 40 ≤ ka) : OkL (gp P w K ns) mg base ("are_alike", none) ["one", "other"] (ka + 11) (mo_are_alike c_alike) := by
  obtain ⟨fd, F⟩ := d_are_alike T
  obtain ⟨fd_are_alike, O_are_alike⟩ := H_are_alike
  refine ⟨fd, fn_lite (g := gp P w K ns) (k := (ka + 10)) (N := N_are_alike) (ps := ["one", "other"]) (b := b_are_alike c_alike) F sc_are_alike fun cdv A outer s H E hr => ?_, lfn_takes, F.bindsN (ps := ["one", "other"]) fun _ _ _ _ _ _ us hl => match us, hl with | [_, _], _ => rfl, F.kp⟩
  exact (ss_cons (s_if (PW.pt (w_and (t_val (e_callB (isi_L rfl (f_isi T)) rfl (f_free_isinstance T) bb_isinstance (a_cons (e_var (i := 0) rfl (by first | exact .inl rfl | exact .inr (.inl rfl) | exact .inr (.inr rfl))) (a_cons (e_tyB (T := 5) rfl (f_free_tuple T) bb_tuple) a_nil)))) (w_and1 (t_val (e_callB (isi_L rfl (f_isi T)) rfl (f_free_isinstance T) bb_isinstance (a_cons (e_var (i := 1) rfl (by first | exact .inl rfl | exact .inr (.inl rfl) | exact .inr (.inr rfl))) (a_cons (e_tyB (T := 5) rfl (f_free_tuple T) bb_tuple) a_nil))))))) (ss_one (s_ret (e_and (e_cmp (op_eqX rfl rfl rfl (f_isi T) (tab_A_ok T base ⟨_, O_are_alike⟩ h_ka) (tab_A_nb T) (hr.mono (by omega))) (e_callB (len_L rfl rfl rfl) rfl (f_free_len T) bb_len (a_cons (e_var (i := 0) rfl (by first | exact .inl rfl | exact .inr (.inl rfl) | exact .inr (.inr rfl))) a_nil)) (e_callB (len_L rfl rfl rfl) rfl (f_free_len T) bb_len (a_cons (e_var (i := 1) rfl (by first | exact .inl rfl | exact .inr (.inl rfl) | exact .inr (.inr rfl))) a_nil))) (e_one (e_callB (all_L rfl rfl) rfl (f_free_all T) bb_all (a_cons (e_lcF (own := [("part", 2), ("its", 3)]) (gt := (gTup K 2 (gCons (gName 2) (gCons (gName 3) gNil)))) rfl sc_are_alike.nd (i_zip rfl rfl (f_free_zip T) (a_cons (e_var (i := 0) rfl (by first | exact .inl rfl | exact .inr (.inl rfl) | exact .inr (.inr rfl))) (a_cons (e_var (i := 1) rfl (by first | exact .inl rfl | exact .inr (.inl rfl) | exact .inr (.inr rfl))) a_nil))) (blkOk_by (N := N_are_alike) (sc := defScope s_are_alike) (by decide +kernel)) (fun _ _ _ _ _ => (pg_tup rfl (pgs_cons (pg_name (i := 2) sc_are_alike.nd rfl (.inl rfl)) (pgs_cons (pg_name (i := 3) sc_are_alike.nd rfl (.inl rfl)) pgs_nil)))) (gv_tup rfl (gvs_cons (gv_name (by decide)) (gvs_cons (gv_name (by decide)) gvs_nil))) (fun _ _ _ _ _ => ts_nil) (fun _ _ _ _ _ => (c_call O_are_alike rfl rfl rfl rfl rfl (hr.mono (by omega)) rfl (f_glo_are_alike T) (a_cons (e_var (i := 2) rfl (by first | exact .inl rfl | exact .inr (.inl rfl) | exact .inr (.inr rfl))) (a_cons (e_var (i := 3) rfl (by first | exact .inl rfl | exact .inr (.inl rfl) | exact .inr (.inr rfl))) a_nil))))) a_nil)))))) ss_nil)
  (ss_cons (s_if (t_cmp (op_neY rfl (f_isi T) (tab_A_ok T base ⟨_, O_are_alike⟩ h_ka) (tab_A_nb T) (hr.mono (by omega))) (e_callB (isi_L rfl (f_isi T)) rfl (f_free_isinstance T) bb_isinstance (a_cons (e_var (i := 0) rfl (by first | exact .inl rfl | exact .inr (.inl rfl) | exact .inr (.inr rfl))) (a_cons (e_tyB (T := 1) rfl (f_free_bool T) bb_bool) a_nil))) (e_callB (isi_L rfl (f_isi T)) rfl (f_free_isinstance T) bb_isinstance (a_cons (e_var (i := 1) rfl (by first | exact .inl rfl | exact .inr (.inl rfl) | exact .inr (.inr rfl))) (a_cons (e_tyB (T := 1) rfl (f_free_bool T) bb_bool) a_nil)))) (ss_one (s_ret e_bl)) ss_nil)
  (ss_one (s_ret (e_callTy bool_L rfl (f_free_bool T) bb_bool (a_cons (e_cmp (op_eqX rfl rfl rfl (f_isi T) (tab_A_ok T base ⟨_, O_are_alike⟩ h_ka) (tab_A_nb T) (hr.mono (by omega))) (e_var (i := 0) rfl (by first | exact .inl rfl | exact .inr (.inl rfl) | exact .inr (.inr rfl))) (e_var (i := 1) rfl (by first | exact .inl rfl | exact .inr (.inl rfl) | exact .inr (.inr rfl)))) a_nil))))))
theorem okn_are_alike (T : Txt P w K mg) (base : Heap) : ∀ n : Nat, OkL (gp P w K ns) mg base ("are_alike", none) ["one", "other"] (40 + 11 * n) (m_are_alike n)
  | 0 => by
    obtain ⟨fd, F⟩ := d_are_alike T
    exact ⟨fd, FnOk.none, fun _ _ _ => rfl, F.bindsN (ps := ["one", "other"]) fun _ _ _ _ _ _ us hl => match us, hl with | [_, _], _ => rfl, F.kp⟩
  | n + 1 => (oko_are_alike T base (okn_are_alike T base n) (by omega)).mono (by omega)
def N_Early_init : List Str := ["self", "kinds", "events", "__class__"]
theorem sc_Early_init : NdefX.NScope N_Early_init ["self", "kinds", "events"] ["__class__"] (defScope s_Early_init) := NdefX.nscope_by (by decide +kernel)
def b_Early_init : LS := lseq (lsuper 4 m_Paper_init (acons (lc (.str [101, 97, 114, 108, 121])) (acons (lvar 1) (acons (lvar 2) anil))))
  (lasg (lfld [(0, 1), (1, 1), (4, 1), (6, 1), (7, 1), (8, 1), (9, 1), (10, 1), (11, 1)] (lvar 0)) (gseqN 2 (gcons (gfld [(4, 2)] (lvar 0)) (gcons (gfld [(4, 3), (6, 4)] (lvar 0)) gnil))))
def m_Early_init : LF := lfnS 3 4 4 (b_Early_init)
theorem sd_Early_init (T : Txt P w K mg) : ∃ fd, SupAt P K dd_Early_init fd := T.c.sup (S := spec) T.fl 0 (d := dd_Early_init) rfl
theorem ok1_Early_init (T : Txt P w K mg) (base : Heap) {fd : FuncData} (S : SupAt P K dd_Early_init fd) : Ok1 (gp P w K ns) mg base ("Early", some "__init__") ["self", "kinds", "events"] 13 (m_Early_init) fd := by
  have O_Paper_init := okr_Paper_init (ns := ns) T base
  refine ⟨fn_super (g := gp P w K ns) (D := 4) (N := N_Early_init) (ps := ["self", "kinds", "events"]) (k := 12) (la := lsuper 4 m_Paper_init (acons (lc (.str [101, 97, 114, 108, 121])) (acons (lvar 1) (acons (lvar 2) anil)))) (lb := (lasg (lfld [(0, 1), (1, 1), (4, 1), (6, 1), (7, 1), (8, 1), (9, 1), (10, 1), (11, 1)] (lvar 0)) (gseqN 2 (gcons (gfld [(4, 2)] (lvar 0)) (gcons (gfld [(4, 3), (6, 4)] (lvar 0)) gnil))))) sc_Early_init S.sd (fun A outer s H E pins s1 σ H1 Dn hr I q => super_stmt (g := gp P w K ns) (c := 4) rfl S.sd (f_sup_Early T) O_Paper_init.F (hr.mono (by omega)) rfl rfl rfl rfl rfl rfl rfl (f_free_super T) (S.head rfl) T.sup (a_cons e_strK (a_cons (e_var (i := 1) rfl (by first | exact .inl rfl | exact .inr (.inl rfl) | exact .inr (.inr rfl))) (a_cons (e_var (i := 2) rfl (by first | exact .inl rfl | exact .inr (.inl rfl) | exact .inr (.inr rfl))) a_nil))) (I := I) (q := q))
    (fun A outer s H E hr => (ss_one (s_asg (e_fld rfl (f_fld_parts T).1 (e_var (i := 0) rfl (by first | exact .inl rfl | exact .inr (.inl rfl) | exact .inr (.inr rfl)))) (g_seq rfl rfl (gs_cons (g_fld rfl (f_fld_kinds T) (e_var (i := 0) rfl (by first | exact .inl rfl | exact .inr (.inl rfl) | exact .inr (.inr rfl)))) (gs_cons (g_fld rfl (f_fld_events T) (e_var (i := 0) rfl (by first | exact .inl rfl | exact .inr (.inl rfl) | exact .inr (.inr rfl)))) gs_nil)))))), lfnS_takes, S.binds (ps := ["self", "kinds", "events"]) fun _ _ _ _ _ _ _ us hl => match us, hl with | [_, _, _], _ => rfl, S.kp⟩
theorem ok_Early_init (T : Txt P w K mg) (base : Heap) : OkL (gp P w K ns) mg base ("Early", some "__init__") ["self", "kinds", "events"] 13 (m_Early_init) :=
  let ⟨_, S⟩ := sd_Early_init T
  ⟨_, ok1_Early_init T base S⟩
def N_Stage_init : List Str := ["self", "told", "net", "events", "around", "person", "neighbour", "__class__"]
theorem sc_Stage_init : NdefX.NScope N_Stage_init ["self", "told", "net", "events", "around", "person", "neighbour"] ["__class__"] (defScope s_Stage_init) := NdefX.nscope_by (by decide +kernel)
def b_Stage_init : LS := lseq (lsuper 6 m_Paper_init (acons (lc (.str [115, 116, 97, 103, 101])) (acons (lvar 1) (acons (lvar 2) (acons (lvar 3) (acons (lvar 4) (acons (lvar 5) (acons (lvar 6) anil))))))))
  (lasg (lfld [(0, 1), (1, 1), (4, 1), (6, 1), (7, 1), (8, 1), (9, 1), (10, 1), (11, 1)] (lvar 0)) (gseqN 6 (gcons (gfld [(6, 2)] (lvar 0)) (gcons (gfld [(6, 3)] (lvar 0)) (gcons (gfld [(4, 3), (6, 4)] (lvar 0)) (gcons (gfld [(6, 5)] (lvar 0)) (gcons (gfld [(6, 6), (9, 3), (10, 2)] (lvar 0)) (gcons (gfld [(6, 7), (9, 4), (10, 3)] (lvar 0)) gnil))))))))
def m_Stage_init : LF := lfnS 7 8 6 (b_Stage_init)
theorem sd_Stage_init (T : Txt P w K mg) : ∃ fd, SupAt P K dd_Stage_init fd := T.c.sup (S := spec) T.fl 1 (d := dd_Stage_init) rfl
theorem ok1_Stage_init (T : Txt P w K mg) (base : Heap) {fd : FuncData} (S : SupAt P K dd_Stage_init fd) : Ok1 (gp P w K ns) mg base ("Stage", some "__init__") ["self", "told", "net", "events", "around", "person", "neighbour"] 13 (m_Stage_init) fd := by
  have O_Paper_init := okr_Paper_init (ns := ns) T base
  refine ⟨fn_super (g := gp P w K ns) (D := 6) (N := N_Stage_init) (ps := ["self", "told", "net", "events", "around", "person", "neighbour"]) (k := 12) (la := lsuper 6 m_Paper_init (acons (lc (.str [115, 116, 97, 103, 101])) (acons (lvar 1) (acons (lvar 2) (acons (lvar 3) (acons (lvar 4) (acons (lvar 5) (acons (lvar 6) anil)))))))) (lb := (lasg (lfld [(0, 1), (1, 1), (4, 1), (6, 1), (7, 1), (8, 1), (9, 1), (10, 1), (11, 1)] (lvar 0)) (gseqN 6 (gcons (gfld [(6, 2)] (lvar 0)) (gcons (gfld [(6, 3)] (lvar 0)) (gcons (gfld [(4, 3), (6, 4)] (lvar 0)) (gcons (gfld [(6, 5)] (lvar 0)) (gcons (gfld [(6, 6), (9, 3), (10, 2)] (lvar 0)) (gcons (gfld [(6, 7), (9, 4), (10, 3)] (lvar 0)) gnil))))))))) sc_Stage_init S.sd (fun A outer s H E pins s1 σ H1 Dn hr I q => super_stmt (g := gp P w K ns) (c := 6) rfl S.sd (f_sup_Stage T) O_Paper_init.F (hr.mono (by omega)) rfl rfl rfl rfl rfl rfl rfl (f_free_super T) (S.head rfl) T.sup (a_cons e_strK (a_cons (e_var (i := 1) rfl (by first | exact .inl rfl | exact .inr (.inl rfl) | exact .inr (.inr rfl))) (a_cons (e_var (i := 2) rfl (by first | exact .inl rfl | exact .inr (.inl rfl) | exact .inr (.inr rfl))) (a_cons (e_var (i := 3) rfl (by first | exact .inl rfl | exact .inr (.inl rfl) | exact .inr (.inr rfl))) (a_cons (e_var (i := 4) rfl (by first | exact .inl rfl | exact .inr (.inl rfl) | exact .inr (.inr rfl))) (a_cons (e_var (i := 5) rfl (by first | exact .inl rfl | exact .inr (.inl rfl) | exact .inr (.inr rfl))) (a_cons (e_var (i := 6) rfl (by first | exact .inl rfl | exact .inr (.inl rfl) | exact .inr (.inr rfl))) a_nil))))))) (I := I) (q := q))
    (fun A outer s H E hr => (ss_one (s_asg (e_fld rfl (f_fld_parts T).1 (e_var (i := 0) rfl (by first | exact .inl rfl | exact .inr (.inl rfl) | exact .inr (.inr rfl)))) (g_seq rfl rfl (gs_cons (g_fld rfl (f_fld_told T) (e_var (i := 0) rfl (by first | exact .inl rfl | exact .inr (.inl rfl) | exact .inr (.inr rfl)))) (gs_cons (g_fld rfl (f_fld_net T) (e_var (i := 0) rfl (by first | exact .inl rfl | exact .inr (.inl rfl) | exact .inr (.inr rfl)))) (gs_cons (g_fld rfl (f_fld_events T) (e_var (i := 0) rfl (by first | exact .inl rfl | exact .inr (.inl rfl) | exact .inr (.inr rfl)))) (gs_cons (g_fld rfl (f_fld_around T) (e_var (i := 0) rfl (by first | exact .inl rfl | exact .inr (.inl rfl) | exact .inr (.inr rfl)))) (gs_cons (g_fld rfl (f_fld_person T) (e_var (i := 0) rfl (by first | exact .inl rfl | exact .inr (.inl rfl) | exact .inr (.inr rfl)))) (gs_cons (g_fld rfl (f_fld_neighbour T) (e_var (i := 0) rfl (by first | exact .inl rfl | exact .inr (.inl rfl) | exact .inr (.inr rfl)))) gs_nil)))))))))), lfnS_takes, S.binds (ps := ["self", "told", "net", "events", "around", "person", "neighbour"]) fun _ _ _ _ _ _ _ us hl => match us, hl with | [_, _, _, _, _, _, _], _ => rfl, S.kp⟩
theorem ok_Stage_init (T : Txt P w K mg) (base : Heap) : OkL (gp P w K ns) mg base ("Stage", some "__init__") ["self", "told", "net", "events", "around", "person", "neighbour"] 13 (m_Stage_init) :=
  let ⟨_, S⟩ := sd_Stage_init T
  ⟨_, ok1_Stage_init T base S⟩
def N_Idle_init : List Str := ["self", "__class__"]
theorem sc_Idle_init : NdefX.NScope N_Idle_init ["self"] ["__class__"] (defScope s_Idle_init) := NdefX.nscope_by (by decide +kernel)
def b_Idle_init : LS := lseq (lsuper 7 m_Paper_init (acons (lc (.str [105, 100, 108, 101])) anil))
  lnil
def m_Idle_init : LF := lfnS 1 2 7 (b_Idle_init)
theorem sd_Idle_init (T : Txt P w K mg) : ∃ fd, SupAt P K dd_Idle_init fd := T.c.sup (S := spec) T.fl 2 (d := dd_Idle_init) rfl
theorem ok1_Idle_init (T : Txt P w K mg) (base : Heap) {fd : FuncData} (S : SupAt P K dd_Idle_init fd) : Ok1 (gp P w K ns) mg base ("Idle", some "__init__") ["self"] 13 (m_Idle_init) fd := by
  have O_Paper_init := okr_Paper_init (ns := ns) T base
  refine ⟨fn_super (g := gp P w K ns) (D := 7) (N := N_Idle_init) (ps := ["self"]) (k := 12) (la := lsuper 7 m_Paper_init (acons (lc (.str [105, 100, 108, 101])) anil)) (lb := lnil) sc_Idle_init S.sd (fun A outer s H E pins s1 σ H1 Dn hr I q => super_stmt (g := gp P w K ns) (c := 7) rfl S.sd (f_sup_Idle T) O_Paper_init.F (hr.mono (by omega)) rfl rfl rfl rfl rfl rfl rfl (f_free_super T) (S.head rfl) T.sup (a_cons e_strK a_nil) (I := I) (q := q))
    (fun A outer s H E hr => ss_nil), lfnS_takes, S.binds (ps := ["self"]) fun _ _ _ _ _ _ _ us hl => match us, hl with | [_], _ => rfl, S.kp⟩
theorem ok_Idle_init (T : Txt P w K mg) (base : Heap) : OkL (gp P w K ns) mg base ("Idle", some "__init__") ["self"] 13 (m_Idle_init) :=
  let ⟨_, S⟩ := sd_Idle_init T
  ⟨_, ok1_Idle_init T base S⟩
def N_Done_init : List Str := ["self", "rows", "__class__"]
theorem sc_Done_init : NdefX.NScope N_Done_init ["self", "rows"] ["__class__"] (defScope s_Done_init) := NdefX.nscope_by (by decide +kernel)
def b_Done_init : LS := lseq (lsuper 8 m_Paper_init (acons (lc (.str [100, 111, 110, 101])) (acons (lvar 1) anil)))
  (lsetF [(8, 2), (11, 3)] (lvar 0) (lop opIx (lfld [(0, 1), (1, 1), (4, 1), (6, 1), (7, 1), (8, 1), (9, 1), (10, 1), (11, 1)] (lvar 0)) (lc (.int 0))))
def m_Done_init : LF := lfnS 2 3 8 (b_Done_init)
theorem sd_Done_init (T : Txt P w K mg) : ∃ fd, SupAt P K dd_Done_init fd := T.c.sup (S := spec) T.fl 3 (d := dd_Done_init) rfl
theorem ok1_Done_init (T : Txt P w K mg) (base : Heap) {fd : FuncData} (S : SupAt P K dd_Done_init fd) : Ok1 (gp P w K ns) mg base ("Done", some "__init__") ["self", "rows"] 13 (m_Done_init) fd := by
  have O_Paper_init := okr_Paper_init (ns := ns) T base
  refine ⟨fn_super (g := gp P w K ns) (D := 8) (N := N_Done_init) (ps := ["self", "rows"]) (k := 12) (la := lsuper 8 m_Paper_init (acons (lc (.str [100, 111, 110, 101])) (acons (lvar 1) anil))) (lb := (lsetF [(8, 2), (11, 3)] (lvar 0) (lop opIx (lfld [(0, 1), (1, 1), (4, 1), (6, 1), (7, 1), (8, 1), (9, 1), (10, 1), (11, 1)] (lvar 0)) (lc (.int 0))))) sc_Done_init S.sd (fun A outer s H E pins s1 σ H1 Dn hr I q => super_stmt (g := gp P w K ns) (c := 8) rfl S.sd (f_sup_Done T) O_Paper_init.F (hr.mono (by omega)) rfl rfl rfl rfl rfl rfl rfl (f_free_super T) (S.head rfl) T.sup (a_cons e_strK (a_cons (e_var (i := 1) rfl (by first | exact .inl rfl | exact .inr (.inl rfl) | exact .inr (.inr rfl))) a_nil)) (I := I) (q := q))
    (fun A outer s H E hr => (ss_one (s_fld rfl (f_fld_rows T) (e_var (i := 0) rfl (by first | exact .inl rfl | exact .inr (.inl rfl) | exact .inr (.inr rfl))) (e_ix rfl rfl rfl hr (e_fld rfl (f_fld_parts T).1 (e_var (i := 0) rfl (by first | exact .inl rfl | exact .inr (.inl rfl) | exact .inr (.inr rfl)))) e_int)))), lfnS_takes, S.binds (ps := ["self", "rows"]) fun _ _ _ _ _ _ _ us hl => match us, hl with | [_, _], _ => rfl, S.kp⟩
theorem ok_Done_init (T : Txt P w K mg) (base : Heap) : OkL (gp P w K ns) mg base ("Done", some "__init__") ["self", "rows"] 13 (m_Done_init) :=
  let ⟨_, S⟩ := sd_Done_init T
  ⟨_, ok1_Done_init T base S⟩
end
end Gk47

namespace Gk47
open PySem PySem.Spec PyProof.Rows L2 Li
section
variable {P : Program} {w : World} {K : PySem.W.Frag} {mg : Str → Option Value} {ns : List Int}
def N_Blamed_init : List Str := ["self", "at", "person", "neighbour", "paper", "__class__"]
theorem sc_Blamed_init : NdefX.NScope N_Blamed_init ["self", "at", "person", "neighbour", "paper"] ["__class__"] (defScope s_Blamed_init) := NdefX.nscope_by (by decide +kernel)
def b_Blamed_init : LS := lseq (lsuper 9 m_Paper_init (acons (lc (.str [98, 108, 97, 109, 101, 100])) (acons (lvar 1) (acons (lvar 2) (acons (lvar 3) (acons (lvar 4) anil))))))
  (lasg (lfld [(0, 1), (1, 1), (4, 1), (6, 1), (7, 1), (8, 1), (9, 1), (10, 1), (11, 1)] (lvar 0)) (gseqN 4 (gcons (gfld [(9, 2)] (lvar 0)) (gcons (gfld [(6, 6), (9, 3), (10, 2)] (lvar 0)) (gcons (gfld [(6, 7), (9, 4), (10, 3)] (lvar 0)) (gcons (gfld [(9, 5), (10, 4)] (lvar 0)) gnil))))))
def m_Blamed_init : LF := lfnS 5 6 9 (b_Blamed_init)
theorem sd_Blamed_init (T : Txt P w K mg) : ∃ fd, SupAt P K dd_Blamed_init fd := T.c.sup (S := spec) T.fl 4 (d := dd_Blamed_init) rfl
theorem ok1_Blamed_init (T : Txt P w K mg) (base : Heap) {fd : FuncData} (S : SupAt P K dd_Blamed_init fd) : Ok1 (gp P w K ns) mg base ("Blamed", some "__init__") ["self", "at", "person", "neighbour", "paper"] 13 (m_Blamed_init) fd := by
  have O_Paper_init := okr_Paper_init (ns := ns) T base
  refine ⟨fn_super (g := gp P w K ns) (D := 9) (N := N_Blamed_init) (ps := ["self", "at", "person", "neighbour", "paper"]) (k := 12) (la := lsuper 9 m_Paper_init (acons (lc (.str [98, 108, 97, 109, 101, 100])) (acons (lvar 1) (acons (lvar 2) (acons (lvar 3) (acons (lvar 4) anil)))))) (lb := (lasg (lfld [(0, 1), (1, 1), (4, 1), (6, 1), (7, 1), (8, 1), (9, 1), (10, 1), (11, 1)] (lvar 0)) (gseqN 4 (gcons (gfld [(9, 2)] (lvar 0)) (gcons (gfld [(6, 6), (9, 3), (10, 2)] (lvar 0)) (gcons (gfld [(6, 7), (9, 4), (10, 3)] (lvar 0)) (gcons (gfld [(9, 5), (10, 4)] (lvar 0)) gnil))))))) sc_Blamed_init S.sd (fun A outer s H E pins s1 σ H1 Dn hr I q => super_stmt (g := gp P w K ns) (c := 9) rfl S.sd (f_sup_Blamed T) O_Paper_init.F (hr.mono (by omega)) rfl rfl rfl rfl rfl rfl rfl (f_free_super T) (S.head rfl) T.sup (a_cons e_strK (a_cons (e_var (i := 1) rfl (by first | exact .inl rfl | exact .inr (.inl rfl) | exact .inr (.inr rfl))) (a_cons (e_var (i := 2) rfl (by first | exact .inl rfl | exact .inr (.inl rfl) | exact .inr (.inr rfl))) (a_cons (e_var (i := 3) rfl (by first | exact .inl rfl | exact .inr (.inl rfl) | exact .inr (.inr rfl))) (a_cons (e_var (i := 4) rfl (by first | exact .inl rfl | exact .inr (.inl rfl) | exact .inr (.inr rfl))) a_nil))))) (I := I) (q := q))
    (fun A outer s H E hr => (ss_one (s_asg (e_fld rfl (f_fld_parts T).1 (e_var (i := 0) rfl (by first | exact .inl rfl | exact .inr (.inl rfl) | exact .inr (.inr rfl)))) (g_seq rfl rfl (gs_cons (g_fld rfl (f_fld_at T) (e_var (i := 0) rfl (by first | exact .inl rfl | exact .inr (.inl rfl) | exact .inr (.inr rfl)))) (gs_cons (g_fld rfl (f_fld_person T) (e_var (i := 0) rfl (by first | exact .inl rfl | exact .inr (.inl rfl) | exact .inr (.inr rfl)))) (gs_cons (g_fld rfl (f_fld_neighbour T) (e_var (i := 0) rfl (by first | exact .inl rfl | exact .inr (.inl rfl) | exact .inr (.inr rfl)))) (gs_cons (g_fld rfl (f_fld_paper T) (e_var (i := 0) rfl (by first | exact .inl rfl | exact .inr (.inl rfl) | exact .inr (.inr rfl)))) gs_nil)))))))), lfnS_takes, S.binds (ps := ["self", "at", "person", "neighbour", "paper"]) fun _ _ _ _ _ _ _ us hl => match us, hl with | [_, _, _, _, _], _ => rfl, S.kp⟩
theorem ok_Blamed_init (T : Txt P w K mg) (base : Heap) : OkL (gp P w K ns) mg base ("Blamed", some "__init__") ["self", "at", "person", "neighbour", "paper"] 13 (m_Blamed_init) :=
  let ⟨_, S⟩ := sd_Blamed_init T
  ⟨_, ok1_Blamed_init T base S⟩
def N_Blocked_init : List Str := ["self", "person", "neighbour", "paper", "__class__"]
theorem sc_Blocked_init : NdefX.NScope N_Blocked_init ["self", "person", "neighbour", "paper"] ["__class__"] (defScope s_Blocked_init) := NdefX.nscope_by (by decide +kernel)
def b_Blocked_init : LS := lseq (lsuper 10 m_Paper_init (acons (lc (.str [98, 108, 111, 99, 107, 101, 100])) (acons (lvar 1) (acons (lvar 2) (acons (lvar 3) anil)))))
  (lasg (lfld [(0, 1), (1, 1), (4, 1), (6, 1), (7, 1), (8, 1), (9, 1), (10, 1), (11, 1)] (lvar 0)) (gseqN 3 (gcons (gfld [(6, 6), (9, 3), (10, 2)] (lvar 0)) (gcons (gfld [(6, 7), (9, 4), (10, 3)] (lvar 0)) (gcons (gfld [(9, 5), (10, 4)] (lvar 0)) gnil)))))
def m_Blocked_init : LF := lfnS 4 5 10 (b_Blocked_init)
theorem sd_Blocked_init (T : Txt P w K mg) : ∃ fd, SupAt P K dd_Blocked_init fd := T.c.sup (S := spec) T.fl 5 (d := dd_Blocked_init) rfl
theorem ok1_Blocked_init (T : Txt P w K mg) (base : Heap) {fd : FuncData} (S : SupAt P K dd_Blocked_init fd) : Ok1 (gp P w K ns) mg base ("Blocked", some "__init__") ["self", "person", "neighbour", "paper"] 13 (m_Blocked_init) fd := by
  have O_Paper_init := okr_Paper_init (ns := ns) T base
  refine ⟨fn_super (g := gp P w K ns) (D := 10) (N := N_Blocked_init) (ps := ["self", "person", "neighbour", "paper"]) (k := 12) (la := lsuper 10 m_Paper_init (acons (lc (.str [98, 108, 111, 99, 107, 101, 100])) (acons (lvar 1) (acons (lvar 2) (acons (lvar 3) anil))))) (lb := (lasg (lfld [(0, 1), (1, 1), (4, 1), (6, 1), (7, 1), (8, 1), (9, 1), (10, 1), (11, 1)] (lvar 0)) (gseqN 3 (gcons (gfld [(6, 6), (9, 3), (10, 2)] (lvar 0)) (gcons (gfld [(6, 7), (9, 4), (10, 3)] (lvar 0)) (gcons (gfld [(9, 5), (10, 4)] (lvar 0)) gnil)))))) sc_Blocked_init S.sd (fun A outer s H E pins s1 σ H1 Dn hr I q => super_stmt (g := gp P w K ns) (c := 10) rfl S.sd (f_sup_Blocked T) O_Paper_init.F (hr.mono (by omega)) rfl rfl rfl rfl rfl rfl rfl (f_free_super T) (S.head rfl) T.sup (a_cons e_strK (a_cons (e_var (i := 1) rfl (by first | exact .inl rfl | exact .inr (.inl rfl) | exact .inr (.inr rfl))) (a_cons (e_var (i := 2) rfl (by first | exact .inl rfl | exact .inr (.inl rfl) | exact .inr (.inr rfl))) (a_cons (e_var (i := 3) rfl (by first | exact .inl rfl | exact .inr (.inl rfl) | exact .inr (.inr rfl))) a_nil)))) (I := I) (q := q))
    (fun A outer s H E hr => (ss_one (s_asg (e_fld rfl (f_fld_parts T).1 (e_var (i := 0) rfl (by first | exact .inl rfl | exact .inr (.inl rfl) | exact .inr (.inr rfl)))) (g_seq rfl rfl (gs_cons (g_fld rfl (f_fld_person T) (e_var (i := 0) rfl (by first | exact .inl rfl | exact .inr (.inl rfl) | exact .inr (.inr rfl)))) (gs_cons (g_fld rfl (f_fld_neighbour T) (e_var (i := 0) rfl (by first | exact .inl rfl | exact .inr (.inl rfl) | exact .inr (.inr rfl)))) (gs_cons (g_fld rfl (f_fld_paper T) (e_var (i := 0) rfl (by first | exact .inl rfl | exact .inr (.inl rfl) | exact .inr (.inr rfl)))) gs_nil))))))), lfnS_takes, S.binds (ps := ["self", "person", "neighbour", "paper"]) fun _ _ _ _ _ _ _ us hl => match us, hl with | [_, _, _, _], _ => rfl, S.kp⟩
theorem ok_Blocked_init (T : Txt P w K mg) (base : Heap) : OkL (gp P w K ns) mg base ("Blocked", some "__init__") ["self", "person", "neighbour", "paper"] 13 (m_Blocked_init) :=
  let ⟨_, S⟩ := sd_Blocked_init T
  ⟨_, ok1_Blocked_init T base S⟩
def N_Unison_init : List Str := ["self", "level", "rows", "__class__"]
theorem sc_Unison_init : NdefX.NScope N_Unison_init ["self", "level", "rows"] ["__class__"] (defScope s_Unison_init) := NdefX.nscope_by (by decide +kernel)
def b_Unison_init : LS := lseq (lsuper 11 m_Paper_init (acons (lc (.str [117, 110, 105, 115, 111, 110])) (acons (lvar 1) (acons (lvar 2) anil))))
  (lasg (lfld [(0, 1), (1, 1), (4, 1), (6, 1), (7, 1), (8, 1), (9, 1), (10, 1), (11, 1)] (lvar 0)) (gseqN 2 (gcons (gfld [(11, 2)] (lvar 0)) (gcons (gfld [(8, 2), (11, 3)] (lvar 0)) gnil))))
def m_Unison_init : LF := lfnS 3 4 11 (b_Unison_init)
theorem sd_Unison_init (T : Txt P w K mg) : ∃ fd, SupAt P K dd_Unison_init fd := T.c.sup (S := spec) T.fl 6 (d := dd_Unison_init) rfl
theorem ok1_Unison_init (T : Txt P w K mg) (base : Heap) {fd : FuncData} (S : SupAt P K dd_Unison_init fd) : Ok1 (gp P w K ns) mg base ("Unison", some "__init__") ["self", "level", "rows"] 13 (m_Unison_init) fd := by
  have O_Paper_init := okr_Paper_init (ns := ns) T base
  refine ⟨fn_super (g := gp P w K ns) (D := 11) (N := N_Unison_init) (ps := ["self", "level", "rows"]) (k := 12) (la := lsuper 11 m_Paper_init (acons (lc (.str [117, 110, 105, 115, 111, 110])) (acons (lvar 1) (acons (lvar 2) anil)))) (lb := (lasg (lfld [(0, 1), (1, 1), (4, 1), (6, 1), (7, 1), (8, 1), (9, 1), (10, 1), (11, 1)] (lvar 0)) (gseqN 2 (gcons (gfld [(11, 2)] (lvar 0)) (gcons (gfld [(8, 2), (11, 3)] (lvar 0)) gnil))))) sc_Unison_init S.sd (fun A outer s H E pins s1 σ H1 Dn hr I q => super_stmt (g := gp P w K ns) (c := 11) rfl S.sd (f_sup_Unison T) O_Paper_init.F (hr.mono (by omega)) rfl rfl rfl rfl rfl rfl rfl (f_free_super T) (S.head rfl) T.sup (a_cons e_strK (a_cons (e_var (i := 1) rfl (by first | exact .inl rfl | exact .inr (.inl rfl) | exact .inr (.inr rfl))) (a_cons (e_var (i := 2) rfl (by first | exact .inl rfl | exact .inr (.inl rfl) | exact .inr (.inr rfl))) a_nil))) (I := I) (q := q))
    (fun A outer s H E hr => (ss_one (s_asg (e_fld rfl (f_fld_parts T).1 (e_var (i := 0) rfl (by first | exact .inl rfl | exact .inr (.inl rfl) | exact .inr (.inr rfl)))) (g_seq rfl rfl (gs_cons (g_fld rfl (f_fld_level T) (e_var (i := 0) rfl (by first | exact .inl rfl | exact .inr (.inl rfl) | exact .inr (.inr rfl)))) (gs_cons (g_fld rfl (f_fld_rows T) (e_var (i := 0) rfl (by first | exact .inl rfl | exact .inr (.inl rfl) | exact .inr (.inr rfl)))) gs_nil)))))), lfnS_takes, S.binds (ps := ["self", "level", "rows"]) fun _ _ _ _ _ _ _ us hl => match us, hl with | [_, _, _], _ => rfl, S.kp⟩
theorem ok_Unison_init (T : Txt P w K mg) (base : Heap) : OkL (gp P w K ns) mg base ("Unison", some "__init__") ["self", "level", "rows"] 13 (m_Unison_init) :=
  let ⟨_, S⟩ := sd_Unison_init T
  ⟨_, ok1_Unison_init T base S⟩
def tab_B : Nat → Option LF
  | 0 => some (m_Paper_bool)
  | 1 => some (m_Denial_bool)
  | 4 => some (m_Denial_bool)
  | 6 => some (m_Denial_bool)
  | 7 => some (m_Paper_bool)
  | 8 => some (m_Paper_bool)
  | 9 => some (m_Denial_bool)
  | 10 => some (m_Denial_bool)
  | 11 => some (m_Paper_bool)
  | _ => none
theorem tab_B_ok (T : Txt P w K mg) (base : Heap) : BoFsG (gp P w K ns) mg base 1 (tab_B) := by
  obtain ⟨fd_Paper_bool, O_Paper_bool⟩ := ok_Paper_bool (ns := ns) T base
  obtain ⟨fd_Denial_bool, O_Denial_bool⟩ := ok_Denial_bool (ns := ns) T base
  intro c lf e
  unfold tab_B at e
  split at e
  · cases e; exact ⟨_, _, _, (f_bo_Paper T), O_Paper_bool.F.mono (by omega), O_Paper_bool.N, O_Paper_bool.B⟩
  · cases e; exact ⟨_, _, _, (f_bo_Denial T), O_Denial_bool.F.mono (by omega), O_Denial_bool.N, O_Denial_bool.B⟩
  · cases e; exact ⟨_, _, _, (f_bo_Early T), O_Denial_bool.F.mono (by omega), O_Denial_bool.N, O_Denial_bool.B⟩
  · cases e; exact ⟨_, _, _, (f_bo_Stage T), O_Denial_bool.F.mono (by omega), O_Denial_bool.N, O_Denial_bool.B⟩
  · cases e; exact ⟨_, _, _, (f_bo_Idle T), O_Paper_bool.F.mono (by omega), O_Paper_bool.N, O_Paper_bool.B⟩
  · cases e; exact ⟨_, _, _, (f_bo_Done T), O_Paper_bool.F.mono (by omega), O_Paper_bool.N, O_Paper_bool.B⟩
  · cases e; exact ⟨_, _, _, (f_bo_Blamed T), O_Denial_bool.F.mono (by omega), O_Denial_bool.N, O_Denial_bool.B⟩
  · cases e; exact ⟨_, _, _, (f_bo_Blocked T), O_Denial_bool.F.mono (by omega), O_Denial_bool.N, O_Denial_bool.B⟩
  · cases e; exact ⟨_, _, _, (f_bo_Unison T), O_Paper_bool.F.mono (by omega), O_Paper_bool.N, O_Paper_bool.B⟩
  · cases e
def N_law_pen : List Str := ["script", "seed", "cell"]
theorem sc_law_pen : FnScope N_law_pen ["script"] (defScope s_law_pen) := ⟨rfl, rfl, rfl, by decide +kernel, rfl, by decide +kernel, by decide +kernel⟩
def b_law_pen (ns : List Int) : LS := (lseq (lset 1 (lc (.int 101490)))
  (lseq (lfor (lscr ns 0) (gname 2) (lset 1 (lop (opI fMod) (lcall fInt (acons (lop opAdd (lop opAdd (lop (opMul false) (lvar 1) (lc (.int 1000003))) (lop (opI fMod) (lcall fInt (acons (lvar 2) anil)) (lop (opI fPow) (lc (.int 10)) (lc (.int 18))))) (lc (.int 9658))) anil)) (lop opSub (lop (opI fPow) (lc (.int 2)) (lc (.int 61))) (lc (.int 1))))))
  (lret (llstH (acons (lvar 1) anil)))))
def m_law_pen (ns : List Int) : LFM := lfnM 1 3 (b_law_pen ns)
theorem d_law_pen (T : Txt P w K mg) : ∃ fd, FunD K "_law_pen" "_law_pen" (defArgs s_law_pen) (defBody s_law_pen) (defScope s_law_pen) (dd_law_pen.dvs K) [] (He.fAd K ("_law_pen", none)) fd := T.c.def_ (S := spec) 25 (d := dd_law_pen) rfl
theorem ok_law_pen (T : Txt P w K mg) (base : Heap) : OkM (gp P w K ns) mg base ("_law_pen", none) ["script"] 1 (m_law_pen ns) := by
  obtain ⟨fd, F⟩ := d_law_pen T
  refine ⟨fd, fn_liteM (g := gp P w K ns) (k := 0) (N := N_law_pen) (ps := ["script"]) (b := b_law_pen ns) F sc_law_pen fun cdv A outer s H E hr => ?_, lfnM_takes, F.bindsN (ps := ["script"]) fun _ _ _ _ _ _ us hl => match us, hl with | [_], _ => rfl, F.kp⟩
  exact (ss_cons (s_set (i := 1) sc_law_pen.nd rfl (by first | exact .inl rfl | exact .inr rfl) e_int)
  (ss_cons (s_for PassesOwn.never rfl (i_scr (g := gp P w K ns) (i := 0) rfl rfl (by first | exact .inl rfl | exact .inr (.inl rfl) | exact .inr (.inr rfl))) (g_name (i := 2) sc_law_pen.nd rfl (by first | exact .inl rfl | exact .inr rfl)) (ss_one (s_set (i := 1) sc_law_pen.nd rfl (by first | exact .inl rfl | exact .inr rfl) (e_op op_modL (e_callTy int_L rfl (f_free_int T) bb_int (a_cons (e_op (op_addL rfl) (e_op (op_addL rfl) (e_op (op_mulA rfl false) (e_var (i := 1) rfl (by first | exact .inl rfl | exact .inr (.inl rfl) | exact .inr (.inr rfl))) e_int) (e_op op_modL (e_callTy int_L rfl (f_free_int T) bb_int (a_cons (e_var (i := 2) rfl (by first | exact .inl rfl | exact .inr (.inl rfl) | exact .inr (.inr rfl))) a_nil)) (e_op op_powL e_int e_int))) e_int) a_nil)) (e_op op_subL (e_op op_powL e_int e_int) e_int)))))
  (ss_one (s_ret (e_lstH (a_cons (e_var (i := 1) rfl (by first | exact .inl rfl | exact .inr (.inl rfl) | exact .inr (.inr rfl))) a_nil))))))
def N_law_draw : List Str := ["pen", "many"]
theorem sc_law_draw : FnScope N_law_draw ["pen", "many"] (defScope s_law_draw) := ⟨rfl, rfl, rfl, by decide +kernel, rfl, by decide +kernel, by decide +kernel⟩
def b_law_draw : LS := (lseq (lifS (lb2t (lop opLtD (lvar 1) (lc (.int 1)))) (lret (lc (.int 0))) lnil)
  (lseq (lasg (lop (opI fMod) (lcall fInt (acons (lop opAdd (lop (opMul false) (lop opIx (lvar 0) (lc (.int 0))) (lc (.int 6364136223846793005))) (lc (.int 1442695040888963407))) anil)) (lop (opI fPow) (lc (.int 2)) (lc (.int 64)))) (gsub (lvar 0) (lc (.int 0))))
  (lret (lop (opI fMod) (lcall fInt (acons (lop (opI fDiv) (lop opIx (lvar 0) (lc (.int 0))) (lc (.int 65537))) anil)) (lvar 1)))))
def m_law_draw : LF := lfn 2 2 (b_law_draw)
theorem d_law_draw (T : Txt P w K mg) : ∃ fd, FunD K "_law_draw" "_law_draw" (defArgs s_law_draw) (defBody s_law_draw) (defScope s_law_draw) (dd_law_draw.dvs K) [] (He.fAd K ("_law_draw", none)) fd := T.c.def_ (S := spec) 26 (d := dd_law_draw) rfl
theorem ok_law_draw (T : Txt P w K mg) (base : Heap) : OkL (gp P w K ns) mg base ("_law_draw", none) ["pen", "many"] 1 (m_law_draw) := by
  obtain ⟨fd, F⟩ := d_law_draw T
  refine ⟨fd, fn_lite (g := gp P w K ns) (k := 0) (N := N_law_draw) (ps := ["pen", "many"]) (b := b_law_draw) F sc_law_draw fun cdv A outer s H E hr => ?_, lfn_takes, F.bindsN (ps := ["pen", "many"]) fun _ _ _ _ _ _ us hl => match us, hl with | [_, _], _ => rfl, F.kp⟩
  exact (ss_cons (s_if (t_cmp (op_ltD rfl hr) (e_var (i := 1) rfl (by first | exact .inl rfl | exact .inr (.inl rfl) | exact .inr (.inr rfl))) e_int) (ss_one (s_ret e_int)) ss_nil)
  (ss_cons (s_asg (e_op op_modL (e_callTy int_L rfl (f_free_int T) bb_int (a_cons (e_op (op_addL rfl) (e_op (op_mulA rfl false) (e_ix rfl rfl rfl hr (e_var (i := 0) rfl (by first | exact .inl rfl | exact .inr (.inl rfl) | exact .inr (.inr rfl))) e_int) e_int) e_int) a_nil)) (e_op op_powL e_int e_int)) (g_sub (E := E0x) rfl rfl rfl hr (e_var (i := 0) rfl (by first | exact .inl rfl | exact .inr (.inl rfl) | exact .inr (.inr rfl))) e_int))
  (ss_one (s_ret (e_op op_modL (e_callTy int_L rfl (f_free_int T) bb_int (a_cons (e_op op_divL (e_ix rfl rfl rfl hr (e_var (i := 0) rfl (by first | exact .inl rfl | exact .inr (.inl rfl) | exact .inr (.inr rfl))) e_int) e_int) a_nil)) (e_var (i := 1) rfl (by first | exact .inl rfl | exact .inr (.inl rfl) | exact .inr (.inr rfl))))))))
def N_law_pick : List Str := ["pen", "some"]
theorem sc_law_pick : FnScope N_law_pick ["pen", "some"] (defScope s_law_pick) := ⟨rfl, rfl, rfl, by decide +kernel, rfl, by decide +kernel, by decide +kernel⟩
def b_law_pick : LS := (lret (lop opIx (lvar 1) (lcall m_law_draw (acons (lvar 0) (acons (lcall fLen (acons (lvar 1) anil)) anil)))))
def m_law_pick : LF := lfn 2 2 (b_law_pick)
theorem d_law_pick (T : Txt P w K mg) : ∃ fd, FunD K "_law_pick" "_law_pick" (defArgs s_law_pick) (defBody s_law_pick) (defScope s_law_pick) (dd_law_pick.dvs K) [] (He.fAd K ("_law_pick", none)) fd := T.c.def_ (S := spec) 27 (d := dd_law_pick) rfl
theorem ok_law_pick (T : Txt P w K mg) (base : Heap) : OkL (gp P w K ns) mg base ("_law_pick", none) ["pen", "some"] 2 (m_law_pick) := by
  obtain ⟨fd, F⟩ := d_law_pick T
  obtain ⟨fd_law_draw, O_law_draw⟩ := ok_law_draw (ns := ns) T base
  refine ⟨fd, fn_lite (g := gp P w K ns) (k := 1) (N := N_law_pick) (ps := ["pen", "some"]) (b := b_law_pick) F sc_law_pick fun cdv A outer s H E hr => ?_, lfn_takes, F.bindsN (ps := ["pen", "some"]) fun _ _ _ _ _ _ us hl => match us, hl with | [_, _], _ => rfl, F.kp⟩
  exact (ss_one (s_ret (e_ix rfl rfl rfl hr (e_var (i := 1) rfl (by first | exact .inl rfl | exact .inr (.inl rfl) | exact .inr (.inr rfl))) (c_call O_law_draw rfl rfl rfl rfl rfl (hr.mono (by omega)) rfl (f_glo_law_draw T) (a_cons (e_var (i := 0) rfl (by first | exact .inl rfl | exact .inr (.inl rfl) | exact .inr (.inr rfl))) (a_cons (e_callB (len_L rfl rfl rfl) rfl (f_free_len T) bb_len (a_cons (e_var (i := 1) rfl (by first | exact .inl rfl | exact .inr (.inl rfl) | exact .inr (.inr rfl))) a_nil)) a_nil))))))
def N_law : List Str := ["script", "pen", "even", "some", "turn", "told", "other", "lists", "copied", "kept", "done", "blamed", "blocked", "a", "b", "c", "d", "e", "f", "stage", "paper", "lap", "one", "its"]
theorem sc_law : FnScope N_law ["script"] (defScope s_law) := ⟨rfl, rfl, rfl, by decide +kernel, rfl, by decide +kernel, by decide +kernel⟩
def b_law (ns : List Int) : LS := (lseq (lset 1 (lcallM (m_law_pen ns) (acons (lvar 0) anil)))
  (lseq (lset 2 (lmkF 5 6 m_Net_init (acons (llst (acons (lc (.str [97, 110, 110])) (acons (lc (.str [98, 111, 98])) anil))) (acons (llst (acons (ltup (acons (lc (.str [97, 110, 110])) (acons (lc (.str [98, 111, 98])) (acons (lmkF 3 2 m_Link_init (acons (lcall m_plain_talk anil) (acons (lcall m_plain_talk anil) anil))) anil)))) anil)) anil))))
  (lseq (lset 3 (llst (acons (lc .non) (acons (lc (.bl true)) (acons (lc (.int 0)) (acons (lneg (lc (.int 7))) (acons (lop opAdd (lop (opI fPow) (lc (.int 10)) (lc (.int 60))) (lc (.int 3))) (acons (lc (.str [119, 111, 114, 100])) (acons (lc (.str [])) (acons (ltup anil) (acons (ltup (acons (lc (.str [97])) (acons (lc (.int 1)) anil))) (acons (ltup (acons (ltup (acons (lc (.str [98])) anil)) (acons (lc .non) anil))) (acons (ldisp false (((lc (.str [107])), (ltup (acons (lc (.int 1)) (acons (lc (.int 2)) anil)))) :: [])) (acons (lvar 2) (acons (lmkF 11 4 m_Unison_init (acons (lc (.int 0)) (acons (ltup anil) anil))) (acons (lmkF 4 4 m_Early_init (acons (ltup anil) (acons (ltup (acons (lc (.int 1)) anil)) anil))) anil))))))))))))))))
  (lseq (lfor (lrng1 (acons (lc (.int 8)) anil)) (gname 4) (lseq (lasg (lcF (lrng1 (acons (lc (.int 6)) anil)) [21] (gname 21) lyes (lcall m_law_pick (acons (lvar 1) (acons (lvar 3) anil)))) (gseqN 6 (gcons (gname 13) (gcons (gname 14) (gcons (gname 15) (gcons (gname 16) (gcons (gname 17) (gcons (gname 18) gnil))))))))
  (lseq (lpar 19 20 (acons (lmkF 6 8 m_Stage_init (acons (lvar 13) (acons (lvar 14) (acons (lvar 15) (acons (lvar 16) (acons (lvar 17) (acons (lvar 18) anil))))))) (acons (lmkF 11 4 m_Unison_init (acons (lvar 13) (acons (lvar 14) anil))) anil)))
  (lseq (lifS (tor (lb2t (lop (opNeY alls (tab_A (m_are_alike 12))) (ltup (acons (lfld [(0, 0), (1, 0), (4, 0), (6, 0), (7, 0), (8, 0), (9, 0), (10, 0), (11, 0)] (lvar 19)) (acons (lfld [(0, 0), (1, 0), (4, 0), (6, 0), (7, 0), (8, 0), (9, 0), (10, 0), (11, 0)] (lvar 20)) (acons (lcall (fBoolO tab_B) (acons (lvar 19) anil)) (acons (lcall (fBoolO tab_B) (acons (lvar 20) anil)) anil))))) (ltup (acons (lc (.str [115, 116, 97, 103, 101])) (acons (lc (.str [117, 110, 105, 115, 111, 110])) (acons (lc (.bl false)) (acons (lc (.bl true)) anil))))))) (tor (tnot (lb2t (lcall (fIsi alls isis) (acons (lvar 19) (acons (lc (.cls 1)) anil))))) (tor (lb2t (lcall (fIsi alls isis) (acons (lvar 20) (acons (lc (.cls 1)) anil)))) (tnot (lb2t (lcall (fIsi alls isis) (acons (lvar 19) (acons (lc (.cls 0)) anil)))))))) (lret (lc (.bl false))) lnil)
  (lseq (lset 5 (llst (acons (lfld [(6, 2)] (lvar 19)) (acons (lfld [(6, 3)] (lvar 19)) (acons (lfld [(4, 3), (6, 4)] (lvar 19)) (acons (lfld [(6, 5)] (lvar 19)) (acons (lfld [(6, 6), (9, 3), (10, 2)] (lvar 19)) (acons (lfld [(6, 7), (9, 4), (10, 3)] (lvar 19)) (acons (lfld [(11, 2)] (lvar 20)) (acons (lfld [(8, 2), (11, 3)] (lvar 20)) anil))))))))))
  (lseq (lifS (tor (lb2t (lop (opNeY alls (tab_A (m_are_alike 12))) (lcF (lzip (acons (lvar 5) (acons (llst (acons (lvar 13) (acons (lvar 14) (acons (lvar 15) (acons (lvar 16) (acons (lvar 17) (acons (lvar 18) (acons (lvar 13) (acons (lvar 14) anil))))))))) anil))) [22, 23] (gtupN 2 (gcons (gname 22) (gcons (gname 23) gnil))) (lb2t (lop (opNeY alls (tab_A (m_are_alike 12))) (lmkF 0 2 m_Paper_init (acons (lc (.str [120])) (acons (lvar 22) anil))) (lmkF 0 2 m_Paper_init (acons (lc (.str [120])) (acons (lvar 23) anil))))) (lc (.int 1))) (llst anil))) (tor (lb2t (lop (opNeY alls (tab_A (m_are_alike 12))) (lcall fLen (acons (lfld [(0, 1), (1, 1), (4, 1), (6, 1), (7, 1), (8, 1), (9, 1), (10, 1), (11, 1)] (lvar 19)) anil)) (lc (.int 6)))) (lb2t (lop (opNeY alls (tab_A (m_are_alike 12))) (lcall fLen (acons (lfld [(0, 1), (1, 1), (4, 1), (6, 1), (7, 1), (8, 1), (9, 1), (10, 1), (11, 1)] (lvar 20)) anil)) (lc (.int 2)))))) (lret (lc (.bl false))) lnil)
  (lseq (lifS (tor (lb2t (lop (opNeY alls (tab_A (m_are_alike 12))) (lvar 19) (lmkK 6 8 6 [5, 4, 3, 2, 1, 0] m_Stage_init (acons (lvar 18) (acons (lvar 17) (acons (lvar 16) (acons (lvar 15) (acons (lvar 14) (acons (lvar 13) anil))))))))) (tor (lb2t (lop (opNeY alls (tab_A (m_are_alike 12))) (lvar 20) (lmkK 11 4 2 [1, 0] m_Unison_init (acons (lvar 14) (acons (lvar 13) anil))))) (tor (lb2t (lop (opEqX alls (tab_A (m_are_alike 12))) (lvar 19) (lvar 20))) (lb2t (lop (opEqX alls (tab_A (m_are_alike 12))) (lvar 19) (lfld [(0, 1), (1, 1), (4, 1), (6, 1), (7, 1), (8, 1), (9, 1), (10, 1), (11, 1)] (lvar 19))))))) (lret (lc (.bl false))) lnil)
  (lseq (lset 6 (lcall m_law_pick (acons (lvar 1) (acons (lvar 3) anil))))
  (lseq (lifS (tor (lb2t (lop (opNeY alls (tab_A (m_are_alike 12))) (lop (opEqX alls (tab_A (m_are_alike 12))) (lmkF 6 8 m_Stage_init (acons (lvar 13) (acons (lvar 14) (acons (lvar 6) (acons (lvar 16) (acons (lvar 17) (acons (lvar 18) anil))))))) (lvar 19)) (lop (opEqX alls (tab_A (m_are_alike 12))) (lmkF 0 2 m_Paper_init (acons (lc (.str [120])) (acons (lvar 6) anil))) (lmkF 0 2 m_Paper_init (acons (lc (.str [120])) (acons (lvar 15) anil)))))) (lb2t (lop (opNeY alls (tab_A (m_are_alike 12))) (lop (opEqX alls (tab_A (m_are_alike 12))) (lmkF 11 4 m_Unison_init (acons (lvar 13) (acons (lvar 6) anil))) (lvar 20)) (lop (opEqX alls (tab_A (m_are_alike 12))) (lmkF 0 2 m_Paper_init (acons (lc (.str [120])) (acons (lvar 6) anil))) (lmkF 0 2 m_Paper_init (acons (lc (.str [120])) (acons (lvar 14) anil))))))) (lret (lc (.bl false))) lnil)
  (lseq (lifS (tor (lb2t (lop (opEqX alls (tab_A (m_are_alike 12))) (lvar 19) (lmkF 1 2 m_Paper_init (acons (lc (.str [115, 116, 97, 103, 101])) (acons (lvar 13) (acons (lvar 14) (acons (lvar 15) (acons (lvar 16) (acons (lvar 17) (acons (lvar 18) anil)))))))))) (tor (lb2t (lop (opEqX alls (tab_A (m_are_alike 12))) (lvar 20) (lmkF 0 2 m_Paper_init (acons (lc (.str [117, 110, 105, 115, 111, 110])) (acons (lvar 13) (acons (lvar 14) anil)))))) (tor (lb2t (lop (opEqX alls (tab_A (m_are_alike 12))) (lmkF 11 4 m_Unison_init (acons (lc (.int 1)) (acons (lvar 13) anil))) (lmkF 11 4 m_Unison_init (acons (lc (.bl true)) (acons (lvar 13) anil))))) (lb2t (lop (opEqX alls (tab_A (m_are_alike 12))) (lmkF 11 4 m_Unison_init (acons (lc (.int 0)) (acons (lvar 13) anil))) (lmkF 11 4 m_Unison_init (acons (lc (.bl false)) (acons (lvar 13) anil)))))))) (lret (lc (.bl false))) lnil)
  (lseq (lset 7 (llstH (acons (lc (.int 1)) (acons (llstH (acons (lc (.int 2)) (acons (llst (acons (lc (.int 3)) anil)) anil))) (acons (llst (acons (llst (acons (lc (.int 4)) anil)) anil)) anil)))))
  (lseq (lset 8 (llst (acons (lmkF 6 8 m_Stage_init (acons (lvar 7) (acons (lc (.int 1)) (acons (lvar 7) (acons (llst (acons (lvar 7) anil)) (acons (lc (.int 2)) (acons (lc (.int 3)) anil))))))) (acons (lmkF 11 4 m_Unison_init (acons (llst (acons (lvar 7) anil)) (acons (lvar 7) anil))) anil))))
  (lseq (lexpr (lmb isL fApp (lop opIx (lvar 7) (lc (.int 1))) (acons (lc (.int 5)) anil)))
  (lseq (lexpr (lmb isL fApp (lvar 7) (acons (lc (.int 6)) anil)))
  (lseq (lset 9 (ltup (acons (lc (.int 1)) (acons (ltup (acons (lc (.int 2)) (acons (ltup (acons (lc (.int 3)) anil)) anil))) (acons (ltup (acons (ltup (acons (lc (.int 4)) anil)) anil)) anil)))))
  (lifS (tor (lb2t (lop (opNeY alls (tab_A (m_are_alike 12))) (lfld [(0, 1), (1, 1), (4, 1), (6, 1), (7, 1), (8, 1), (9, 1), (10, 1), (11, 1)] (lop opIx (lvar 8) (lc (.int 0)))) (ltup (acons (lvar 9) (acons (lc (.int 1)) (acons (lvar 9) (acons (ltup (acons (lvar 9) anil)) (acons (lc (.int 2)) (acons (lc (.int 3)) anil))))))))) (lb2t (lop (opNeY alls (tab_A (m_are_alike 12))) (lfld [(0, 1), (1, 1), (4, 1), (6, 1), (7, 1), (8, 1), (9, 1), (10, 1), (11, 1)] (lop opIx (lvar 8) (lc (.int 1)))) (ltup (acons (ltup (acons (lvar 9) anil)) (acons (lvar 9) anil)))))) (lret (lc (.bl false))) lnil))))))))))))))))
  (lseq (lpar3 10 11 12 (acons (lmkK 8 3 1 [0] m_Done_init (acons (llst (acons (llst (acons (lc (.int 1)) anil)) anil)) anil)) (acons (lmkK 9 6 4 [3, 2, 1, 0] m_Blamed_init (acons (llst (acons (lc (.int 4)) anil)) (acons (lc (.int 3)) (acons (lc (.int 2)) (acons (llst (acons (lc (.int 1)) anil)) anil))))) (acons (lmkK 10 5 3 [2, 1, 0] m_Blocked_init (acons (llst (acons (lc (.int 3)) anil)) (acons (lc (.int 2)) (acons (llst (acons (lc (.int 1)) anil)) anil)))) anil))))
  (lseq (lifS (tor (lb2t (lop (opNeY alls (tab_A (m_are_alike 12))) (ltup (acons (lfld [(0, 0), (1, 0), (4, 0), (6, 0), (7, 0), (8, 0), (9, 0), (10, 0), (11, 0)] (lvar 10)) (acons (lcall (fBoolO tab_B) (acons (lvar 10) anil)) (acons (lfld [(8, 2), (11, 3)] (lvar 10)) (acons (lfld [(0, 0), (1, 0), (4, 0), (6, 0), (7, 0), (8, 0), (9, 0), (10, 0), (11, 0)] (lmkF 7 2 m_Idle_init anil)) (acons (lcall (fBoolO tab_B) (acons (lmkF 7 2 m_Idle_init anil) anil)) (acons (lfld [(0, 1), (1, 1), (4, 1), (6, 1), (7, 1), (8, 1), (9, 1), (10, 1), (11, 1)] (lmkF 7 2 m_Idle_init anil)) anil))))))) (ltup (acons (lc (.str [100, 111, 110, 101])) (acons (lc (.bl true)) (acons (ltup (acons (ltup (acons (lc (.int 1)) anil)) anil)) (acons (lc (.str [105, 100, 108, 101])) (acons (lc (.bl true)) (acons (ltup anil) anil))))))))) (tor (lb2t (lop (opNeY alls (tab_A (m_are_alike 12))) (lmkF 7 2 m_Idle_init anil) (lmkF 7 2 m_Idle_init anil))) (lb2t (lop (opEqX alls (tab_A (m_are_alike 12))) (lmkF 7 2 m_Idle_init anil) (lmkF 0 2 m_Paper_init (acons (lc (.str [105, 100, 108, 101])) anil)))))) (lret (lc (.bl false))) lnil)
  (lseq (lifS (lb2t (lop (opNeY alls (tab_A (m_are_alike 12))) (ltup (acons (lfld [(0, 0), (1, 0), (4, 0), (6, 0), (7, 0), (8, 0), (9, 0), (10, 0), (11, 0)] (lvar 11)) (acons (lcall (fBoolO tab_B) (acons (lvar 11) anil)) (acons (lfld [(0, 1), (1, 1), (4, 1), (6, 1), (7, 1), (8, 1), (9, 1), (10, 1), (11, 1)] (lvar 11)) (acons (lfld [(0, 0), (1, 0), (4, 0), (6, 0), (7, 0), (8, 0), (9, 0), (10, 0), (11, 0)] (lvar 12)) (acons (lcall (fBoolO tab_B) (acons (lvar 12) anil)) (acons (lfld [(0, 1), (1, 1), (4, 1), (6, 1), (7, 1), (8, 1), (9, 1), (10, 1), (11, 1)] (lvar 12)) anil))))))) (ltup (acons (lc (.str [98, 108, 97, 109, 101, 100])) (acons (lc (.bl false)) (acons (ltup (acons (ltup (acons (lc (.int 1)) anil)) (acons (lc (.int 2)) (acons (lc (.int 3)) (acons (ltup (acons (lc (.int 4)) anil)) anil))))) (acons (lc (.str [98, 108, 111, 99, 107, 101, 100])) (acons (lc (.bl false)) (acons (ltup (acons (ltup (acons (lc (.int 1)) anil)) (acons (lc (.int 2)) (acons (ltup (acons (lc (.int 3)) anil)) anil)))) anil))))))))) (lret (lc (.bl false))) lnil)
  (lseq (lifS (tor (lb2t (lop (opNeY alls (tab_A (m_are_alike 12))) (ltup (acons (lfld [(9, 2)] (lvar 11)) (acons (lfld [(6, 6), (9, 3), (10, 2)] (lvar 11)) (acons (lfld [(6, 7), (9, 4), (10, 3)] (lvar 11)) (acons (lfld [(9, 5), (10, 4)] (lvar 11)) (acons (lfld [(6, 6), (9, 3), (10, 2)] (lvar 12)) (acons (lfld [(6, 7), (9, 4), (10, 3)] (lvar 12)) (acons (lfld [(9, 5), (10, 4)] (lvar 12)) anil)))))))) (ltup (acons (ltup (acons (lc (.int 1)) anil)) (acons (lc (.int 2)) (acons (lc (.int 3)) (acons (ltup (acons (lc (.int 4)) anil)) (acons (ltup (acons (lc (.int 1)) anil)) (acons (lc (.int 2)) (acons (ltup (acons (lc (.int 3)) anil)) anil)))))))))) (lb2t (lop (opEqX alls (tab_A (m_are_alike 12))) (lmkF 8 3 m_Done_init (acons (lc (.int 1)) anil)) (lmkF 8 3 m_Done_init (acons (lc (.bl true)) anil))))) (lret (lc (.bl false))) lnil)
  (lret (land (lop (opEqX alls (tab_A (m_are_alike 12))) (lmkF 6 8 m_Stage_init (acons (llst (acons (lc (.int 1)) anil)) (acons (lc (.int 2)) (acons (lc (.int 3)) (acons (lc (.int 4)) (acons (lc (.int 5)) (acons (lc (.int 6)) anil))))))) (lmkF 6 8 m_Stage_init (acons (ltup (acons (lc (.int 1)) anil)) (acons (lc (.int 2)) (acons (lc (.int 3)) (acons (lc (.int 4)) (acons (lc (.int 5)) (acons (lc (.int 6)) anil)))))))) (land (lop (opEqX alls (tab_A (m_are_alike 12))) (lmkF 11 4 m_Unison_init (acons (llst anil) (acons (llst (acons (llst (acons (lc (.int 1)) anil)) anil)) anil))) (lmkF 11 4 m_Unison_init (acons (ltup anil) (acons (ltup (acons (ltup (acons (lc (.int 1)) anil)) anil)) anil)))) (lop (opNeY alls (tab_A (m_are_alike 12))) (lmkF 6 8 m_Stage_init (acons (lc (.int 0)) (acons (lc (.int 1)) (acons (lc (.int 2)) (acons (lc (.int 3)) (acons (lc (.int 4)) (acons (lc (.int 5)) anil))))))) (lmkF 6 8 m_Stage_init (acons (lc (.int 0)) (acons (lc (.int 1)) (acons (lc (.int 2)) (acons (lc (.int 3)) (acons (lc (.int 4)) (acons (lc (.int 6)) anil)))))))))))))))))))
def m_law (ns : List Int) : LF := lfn 1 24 (b_law ns)
theorem okk_Stage_init_law (T : Txt P w K mg) (base : Heap) : ∃ fd, Ok1 (gp P w K ns) mg base ("Stage", some "__init__") ["self", "told", "net", "events", "around", "person", "neighbour"] 13 (m_Stage_init) fd ∧ KBp K fd ["self", "told", "net", "events", "around", "person", "neighbour"] 1 ["neighbour", "person", "around", "events", "net", "told"] [5, 4, 3, 2, 1, 0] :=
  let ⟨_, S⟩ := sd_Stage_init T
  ⟨_, ok1_Stage_init T base S, S.kbinds (n := 1) (fun _ _ _ _ _ _ _ us ws h1 h2 => match us, h1, ws, h2 with | [_], _, [_, _, _, _, _, _], _ => rfl)⟩
theorem okk_Unison_init_law (T : Txt P w K mg) (base : Heap) : ∃ fd, Ok1 (gp P w K ns) mg base ("Unison", some "__init__") ["self", "level", "rows"] 13 (m_Unison_init) fd ∧ KBp K fd ["self", "level", "rows"] 1 ["rows", "level"] [1, 0] :=
  let ⟨_, S⟩ := sd_Unison_init T
  ⟨_, ok1_Unison_init T base S, S.kbinds (n := 1) (fun _ _ _ _ _ _ _ us ws h1 h2 => match us, h1, ws, h2 with | [_], _, [_, _], _ => rfl)⟩
theorem okk_Done_init_law (T : Txt P w K mg) (base : Heap) : ∃ fd, Ok1 (gp P w K ns) mg base ("Done", some "__init__") ["self", "rows"] 13 (m_Done_init) fd ∧ KBp K fd ["self", "rows"] 1 ["rows"] [0] :=
  let ⟨_, S⟩ := sd_Done_init T
  ⟨_, ok1_Done_init T base S, S.kbinds (n := 1) (fun _ _ _ _ _ _ _ us ws h1 h2 => match us, h1, ws, h2 with | [_], _, [_], _ => rfl)⟩
theorem okk_Blamed_init_law (T : Txt P w K mg) (base : Heap) : ∃ fd, Ok1 (gp P w K ns) mg base ("Blamed", some "__init__") ["self", "at", "person", "neighbour", "paper"] 13 (m_Blamed_init) fd ∧ KBp K fd ["self", "at", "person", "neighbour", "paper"] 1 ["paper", "neighbour", "person", "at"] [3, 2, 1, 0] :=
  let ⟨_, S⟩ := sd_Blamed_init T
  ⟨_, ok1_Blamed_init T base S, S.kbinds (n := 1) (fun _ _ _ _ _ _ _ us ws h1 h2 => match us, h1, ws, h2 with | [_], _, [_, _, _, _], _ => rfl)⟩
theorem okk_Blocked_init_law (T : Txt P w K mg) (base : Heap) : ∃ fd, Ok1 (gp P w K ns) mg base ("Blocked", some "__init__") ["self", "person", "neighbour", "paper"] 13 (m_Blocked_init) fd ∧ KBp K fd ["self", "person", "neighbour", "paper"] 1 ["paper", "neighbour", "person"] [2, 1, 0] :=
  let ⟨_, S⟩ := sd_Blocked_init T
  ⟨_, ok1_Blocked_init T base S, S.kbinds (n := 1) (fun _ _ _ _ _ _ _ us ws h1 h2 => match us, h1, ws, h2 with | [_], _, [_, _, _], _ => rfl)⟩
theorem d_law (T : Txt P w K mg) : ∃ fd, FunD K "law" "law" (defArgs s_law) (defBody s_law) (defScope s_law) (dd_law.dvs K) [] (He.fAd K ("law", none)) fd := T.c.def_ (S := spec) 28 (d := dd_law) rfl
theorem ok1_law (T : Txt P w K mg) (base : Heap) {fd : FuncData} (F : FunD K "law" "law" (defArgs s_law) (defBody s_law) (defScope s_law) (dd_law.dvs K) [] (He.fAd K ("law", none)) fd) : Ok1 (gp P w K ns) mg base ("law", none) ["script"] 183 (m_law ns) fd := by
  obtain ⟨fd_law_pen, O_law_pen⟩ := ok_law_pen (ns := ns) T base
  obtain ⟨fd_Net_init, O_Net_init⟩ := ok_Net_init (ns := ns) T base
  obtain ⟨fd_Link_init, O_Link_init⟩ := ok_Link_init (ns := ns) T base
  obtain ⟨fd_plain_talk, O_plain_talk⟩ := ok_plain_talk (ns := ns) T base
  obtain ⟨fd_Early_init, O_Early_init⟩ := ok_Early_init (ns := ns) T base
  obtain ⟨fd_Unison_init, O_Unison_init, KB_Unison_init_10⟩ := okk_Unison_init_law (ns := ns) T base
  obtain ⟨fd_law_pick, O_law_pick⟩ := ok_law_pick (ns := ns) T base
  obtain ⟨fd_Stage_init, O_Stage_init, KB_Stage_init_543210⟩ := okk_Stage_init_law (ns := ns) T base
  have O_Paper_init := okr_Paper_init (ns := ns) T base
  obtain ⟨fd_Done_init, O_Done_init, KB_Done_init_0⟩ := okk_Done_init_law (ns := ns) T base
  obtain ⟨fd_Blamed_init, O_Blamed_init, KB_Blamed_init_3210⟩ := okk_Blamed_init_law (ns := ns) T base
  obtain ⟨fd_Blocked_init, O_Blocked_init, KB_Blocked_init_210⟩ := okk_Blocked_init_law (ns := ns) T base
  obtain ⟨fd_Idle_init, O_Idle_init⟩ := ok_Idle_init (ns := ns) T base
  refine ⟨fn_lite (g := gp P w K ns) (k := 182) (N := N_law) (ps := ["script"]) (b := b_law ns) F sc_law fun cdv A outer s H E hr => ?_, lfn_takes, F.bindsN (ps := ["script"]) fun _ _ _ _ _ _ us hl => match us, hl with | [_], _ => rfl, F.kp⟩
  exact (ss_cons (s_set (i := 1) sc_law.nd rfl (by first | exact .inl rfl | exact .inr rfl) (c_callM O_law_pen rfl rfl rfl rfl rfl (hr.mono (by omega)) rfl (f_glo_law_pen T) (a_cons (e_var (i := 0) rfl (by first | exact .inl rfl | exact .inr (.inl rfl) | exact .inr (.inr rfl))) a_nil)))
  (ss_cons (s_set (i := 2) sc_law.nd rfl (by first | exact .inl rfl | exact .inr rfl) (c_mkF (c := 5) (nf := 6) O_Net_init rfl rfl rfl rfl rfl rfl (f_mk_Net T) (hr.mono (by omega)) (f_glo_Net T) rfl (a_cons (e_lst (a_cons e_strK (a_cons e_strK a_nil))) (a_cons (e_lst (a_cons (e_tup (a_cons e_strK (a_cons e_strK (a_cons (c_mkF (c := 3) (nf := 2) O_Link_init rfl rfl rfl rfl rfl rfl (f_mk_Link T) (hr.mono (by omega)) (f_glo_Link T) rfl (a_cons (c_call0 O_plain_talk rfl rfl rfl rfl rfl (hr.mono (by omega)) rfl (f_glo_plain_talk T)) (a_cons (c_call0 O_plain_talk rfl rfl rfl rfl rfl (hr.mono (by omega)) rfl (f_glo_plain_talk T)) a_nil))) a_nil)))) a_nil)) a_nil))))
  (ss_cons (s_set (i := 3) sc_law.nd rfl (by first | exact .inl rfl | exact .inr rfl) (e_lst (a_cons e_non (a_cons e_bl (a_cons e_int (a_cons (e_neg e_int) (a_cons (e_op (op_addL rfl) (e_op op_powL e_int e_int) e_int) (a_cons e_strK (a_cons e_strK (a_cons (e_tup a_nil) (a_cons (e_tup (a_cons e_strK (a_cons e_int a_nil))) (a_cons (e_tup (a_cons (e_tup (a_cons e_strK a_nil)) (a_cons e_non a_nil))) (a_cons (e_disp false rfl rfl (.cons e_strK (e_tup (a_cons e_int (a_cons e_int a_nil))) .nil) (by simp) rfl) (a_cons (e_var (i := 2) rfl (by first | exact .inl rfl | exact .inr (.inl rfl) | exact .inr (.inr rfl))) (a_cons (c_mkF (c := 11) (nf := 4) O_Unison_init rfl rfl rfl rfl rfl rfl (f_mk_Unison T) (hr.mono (by omega)) (f_glo_Unison T) rfl (a_cons e_int (a_cons (e_tup a_nil) a_nil))) (a_cons (c_mkF (c := 4) (nf := 4) O_Early_init rfl rfl rfl rfl rfl rfl (f_mk_Early T) (hr.mono (by omega)) (f_glo_Early T) rfl (a_cons (e_tup a_nil) (a_cons (e_tup (a_cons e_int a_nil)) a_nil))) a_nil))))))))))))))))
  (ss_cons (s_for PassesOwn.never rfl (i_range1 rfl (f_free_range T) (a_cons e_int a_nil)) (g_name (i := 4) sc_law.nd rfl (by first | exact .inl rfl | exact .inr rfl)) (ss_cons (s_asg (e_lcF (own := [("lap", 21)]) (gt := (gName 21)) rfl sc_law.nd (i_range1 rfl (f_free_range T) (a_cons e_int a_nil)) (blkOk_by (N := N_law) (sc := defScope s_law) (by decide +kernel)) (fun _ _ _ _ _ => (pg_name (i := 21) sc_law.nd rfl (.inl rfl))) (gv_name (by decide)) (fun _ _ _ _ _ => ts_nil) (fun _ _ _ _ _ => (c_call O_law_pick rfl rfl rfl rfl rfl (hr.mono (by omega)) rfl (f_glo_law_pick T) (a_cons (e_var (i := 1) rfl (by first | exact .inl rfl | exact .inr (.inl rfl) | exact .inr (.inr rfl))) (a_cons (e_var (i := 3) rfl (by first | exact .inl rfl | exact .inr (.inl rfl) | exact .inr (.inr rfl))) a_nil))))) (g_seq rfl rfl (gs_cons (g_name (i := 13) sc_law.nd rfl (by first | exact .inl rfl | exact .inr rfl)) (gs_cons (g_name (i := 14) sc_law.nd rfl (by first | exact .inl rfl | exact .inr rfl)) (gs_cons (g_name (i := 15) sc_law.nd rfl (by first | exact .inl rfl | exact .inr rfl)) (gs_cons (g_name (i := 16) sc_law.nd rfl (by first | exact .inl rfl | exact .inr rfl)) (gs_cons (g_name (i := 17) sc_law.nd rfl (by first | exact .inl rfl | exact .inr rfl)) (gs_cons (g_name (i := 18) sc_law.nd rfl (by first | exact .inl rfl | exact .inr rfl)) gs_nil))))))))
  (ss_cons (s_par (i := 19) (j := 20) rfl sc_law.nd rfl rfl (by decide) rfl rfl (a_cons (c_mkF (c := 6) (nf := 8) O_Stage_init rfl rfl rfl rfl rfl rfl (f_mk_Stage T) (hr.mono (by omega)) (f_glo_Stage T) rfl (a_cons (e_var (i := 13) rfl (by first | exact .inl rfl | exact .inr (.inl rfl) | exact .inr (.inr rfl))) (a_cons (e_var (i := 14) rfl (by first | exact .inl rfl | exact .inr (.inl rfl) | exact .inr (.inr rfl))) (a_cons (e_var (i := 15) rfl (by first | exact .inl rfl | exact .inr (.inl rfl) | exact .inr (.inr rfl))) (a_cons (e_var (i := 16) rfl (by first | exact .inl rfl | exact .inr (.inl rfl) | exact .inr (.inr rfl))) (a_cons (e_var (i := 17) rfl (by first | exact .inl rfl | exact .inr (.inl rfl) | exact .inr (.inr rfl))) (a_cons (e_var (i := 18) rfl (by first | exact .inl rfl | exact .inr (.inl rfl) | exact .inr (.inr rfl))) a_nil))))))) (a_cons (c_mkF (c := 11) (nf := 4) O_Unison_init rfl rfl rfl rfl rfl rfl (f_mk_Unison T) (hr.mono (by omega)) (f_glo_Unison T) rfl (a_cons (e_var (i := 13) rfl (by first | exact .inl rfl | exact .inr (.inl rfl) | exact .inr (.inr rfl))) (a_cons (e_var (i := 14) rfl (by first | exact .inl rfl | exact .inr (.inl rfl) | exact .inr (.inr rfl))) a_nil))) a_nil)))
  (ss_cons (s_if (PW.pt (w_or (t_cmp (op_neY rfl (f_isi T) (tab_A_ok T base (okn_are_alike T base 12) (by omega)) (tab_A_nb T) (hr.mono (by omega))) (e_tup (a_cons (e_fld rfl (f_fld_word T).1 (e_var (i := 19) rfl (by first | exact .inl rfl | exact .inr (.inl rfl) | exact .inr (.inr rfl)))) (a_cons (e_fld rfl (f_fld_word T).1 (e_var (i := 20) rfl (by first | exact .inl rfl | exact .inr (.inl rfl) | exact .inr (.inr rfl)))) (a_cons (e_callTy (bool_LO rfl (tab_B_ok T base) (hr.mono (by omega))) rfl (f_free_bool T) bb_bool (a_cons (e_var (i := 19) rfl (by first | exact .inl rfl | exact .inr (.inl rfl) | exact .inr (.inr rfl))) a_nil)) (a_cons (e_callTy (bool_LO rfl (tab_B_ok T base) (hr.mono (by omega))) rfl (f_free_bool T) bb_bool (a_cons (e_var (i := 20) rfl (by first | exact .inl rfl | exact .inr (.inl rfl) | exact .inr (.inr rfl))) a_nil)) a_nil))))) (e_tup (a_cons e_strK (a_cons e_strK (a_cons e_bl (a_cons e_bl a_nil)))))) (w_or (t_not (t_val (e_callB (isi_L rfl (f_isi T)) rfl (f_free_isinstance T) bb_isinstance (a_cons (e_var (i := 19) rfl (by first | exact .inl rfl | exact .inr (.inl rfl) | exact .inr (.inr rfl))) (a_cons (e_gl rfl (f_gv_Denial T)) a_nil))))) (w_or (t_val (e_callB (isi_L rfl (f_isi T)) rfl (f_free_isinstance T) bb_isinstance (a_cons (e_var (i := 20) rfl (by first | exact .inl rfl | exact .inr (.inl rfl) | exact .inr (.inr rfl))) (a_cons (e_gl rfl (f_gv_Denial T)) a_nil)))) (w_or1 (t_not (t_val (e_callB (isi_L rfl (f_isi T)) rfl (f_free_isinstance T) bb_isinstance (a_cons (e_var (i := 19) rfl (by first | exact .inl rfl | exact .inr (.inl rfl) | exact .inr (.inr rfl))) (a_cons (e_gl rfl (f_gv_Paper T)) a_nil)))))))))) (ss_one (s_ret e_bl)) ss_nil)
  (ss_cons (s_set (i := 5) sc_law.nd rfl (by first | exact .inl rfl | exact .inr rfl) (e_lst (a_cons (e_fld rfl (f_fld_told T).1 (e_var (i := 19) rfl (by first | exact .inl rfl | exact .inr (.inl rfl) | exact .inr (.inr rfl)))) (a_cons (e_fld rfl (f_fld_net T).1 (e_var (i := 19) rfl (by first | exact .inl rfl | exact .inr (.inl rfl) | exact .inr (.inr rfl)))) (a_cons (e_fld rfl (f_fld_events T).1 (e_var (i := 19) rfl (by first | exact .inl rfl | exact .inr (.inl rfl) | exact .inr (.inr rfl)))) (a_cons (e_fld rfl (f_fld_around T).1 (e_var (i := 19) rfl (by first | exact .inl rfl | exact .inr (.inl rfl) | exact .inr (.inr rfl)))) (a_cons (e_fld rfl (f_fld_person T).1 (e_var (i := 19) rfl (by first | exact .inl rfl | exact .inr (.inl rfl) | exact .inr (.inr rfl)))) (a_cons (e_fld rfl (f_fld_neighbour T).1 (e_var (i := 19) rfl (by first | exact .inl rfl | exact .inr (.inl rfl) | exact .inr (.inr rfl)))) (a_cons (e_fld rfl (f_fld_level T).1 (e_var (i := 20) rfl (by first | exact .inl rfl | exact .inr (.inl rfl) | exact .inr (.inr rfl)))) (a_cons (e_fld rfl (f_fld_rows T).1 (e_var (i := 20) rfl (by first | exact .inl rfl | exact .inr (.inl rfl) | exact .inr (.inr rfl)))) a_nil))))))))))
  (ss_cons (s_if (PW.pt (w_or (t_cmp (op_neY rfl (f_isi T) (tab_A_ok T base (okn_are_alike T base 12) (by omega)) (tab_A_nb T) (hr.mono (by omega))) (e_lcF (own := [("one", 22), ("its", 23)]) (gt := (gTup K 2 (gCons (gName 22) (gCons (gName 23) gNil)))) rfl sc_law.nd (i_zip rfl rfl (f_free_zip T) (a_cons (e_var (i := 5) rfl (by first | exact .inl rfl | exact .inr (.inl rfl) | exact .inr (.inr rfl))) (a_cons (e_lst (a_cons (e_var (i := 13) rfl (by first | exact .inl rfl | exact .inr (.inl rfl) | exact .inr (.inr rfl))) (a_cons (e_var (i := 14) rfl (by first | exact .inl rfl | exact .inr (.inl rfl) | exact .inr (.inr rfl))) (a_cons (e_var (i := 15) rfl (by first | exact .inl rfl | exact .inr (.inl rfl) | exact .inr (.inr rfl))) (a_cons (e_var (i := 16) rfl (by first | exact .inl rfl | exact .inr (.inl rfl) | exact .inr (.inr rfl))) (a_cons (e_var (i := 17) rfl (by first | exact .inl rfl | exact .inr (.inl rfl) | exact .inr (.inr rfl))) (a_cons (e_var (i := 18) rfl (by first | exact .inl rfl | exact .inr (.inl rfl) | exact .inr (.inr rfl))) (a_cons (e_var (i := 13) rfl (by first | exact .inl rfl | exact .inr (.inl rfl) | exact .inr (.inr rfl))) (a_cons (e_var (i := 14) rfl (by first | exact .inl rfl | exact .inr (.inl rfl) | exact .inr (.inr rfl))) a_nil))))))))) a_nil))) (blkOk_by (N := N_law) (sc := defScope s_law) (by decide +kernel)) (fun _ _ _ _ _ => (pg_tup rfl (pgs_cons (pg_name (i := 22) sc_law.nd rfl (.inl rfl)) (pgs_cons (pg_name (i := 23) sc_law.nd rfl (.inl rfl)) pgs_nil)))) (gv_tup rfl (gvs_cons (gv_name (by decide)) (gvs_cons (gv_name (by decide)) gvs_nil))) (fun _ _ _ _ _ => ts_one (t_cmp (op_neY rfl (f_isi T) (tab_A_ok T base (okn_are_alike T base 12) (by omega)) (tab_A_nb T) (hr.mono (by omega))) (c_mkFR (c := 0) (nf := 2) O_Paper_init rfl rfl rfl rfl rfl rfl (f_mk_Paper T) (hr.mono (by omega)) (f_glo_Paper T) rfl (a_cons e_strK (a_cons (e_var (i := 22) rfl (by first | exact .inl rfl | exact .inr (.inl rfl) | exact .inr (.inr rfl))) a_nil))) (c_mkFR (c := 0) (nf := 2) O_Paper_init rfl rfl rfl rfl rfl rfl (f_mk_Paper T) (hr.mono (by omega)) (f_glo_Paper T) rfl (a_cons e_strK (a_cons (e_var (i := 23) rfl (by first | exact .inl rfl | exact .inr (.inl rfl) | exact .inr (.inr rfl))) a_nil))))) (fun _ _ _ _ _ => e_int)) (e_lst a_nil)) (w_or (t_cmp (op_neY rfl (f_isi T) (tab_A_ok T base (okn_are_alike T base 12) (by omega)) (tab_A_nb T) (hr.mono (by omega))) (e_callB (len_L rfl rfl rfl) rfl (f_free_len T) bb_len (a_cons (e_fld rfl (f_fld_parts T).1 (e_var (i := 19) rfl (by first | exact .inl rfl | exact .inr (.inl rfl) | exact .inr (.inr rfl)))) a_nil)) e_int) (w_or1 (t_cmp (op_neY rfl (f_isi T) (tab_A_ok T base (okn_are_alike T base 12) (by omega)) (tab_A_nb T) (hr.mono (by omega))) (e_callB (len_L rfl rfl rfl) rfl (f_free_len T) bb_len (a_cons (e_fld rfl (f_fld_parts T).1 (e_var (i := 20) rfl (by first | exact .inl rfl | exact .inr (.inl rfl) | exact .inr (.inr rfl)))) a_nil)) e_int))))) (ss_one (s_ret e_bl)) ss_nil)
  (ss_cons (s_if (PW.pt (w_or (t_cmp (op_neY rfl (f_isi T) (tab_A_ok T base (okn_are_alike T base 12) (by omega)) (tab_A_nb T) (hr.mono (by omega))) (e_var (i := 19) rfl (by first | exact .inl rfl | exact .inr (.inl rfl) | exact .inr (.inr rfl))) (c_mkK (c := 6) (nf := 8) (m := 6) O_Stage_init rfl rfl rfl rfl rfl rfl (f_mk_Stage T) (hr.mono (by omega)) (f_glo_Stage T) rfl KB_Stage_init_543210 rfl (k_cons (e_var (i := 18) rfl (by first | exact .inl rfl | exact .inr (.inl rfl) | exact .inr (.inr rfl))) (k_cons (e_var (i := 17) rfl (by first | exact .inl rfl | exact .inr (.inl rfl) | exact .inr (.inr rfl))) (k_cons (e_var (i := 16) rfl (by first | exact .inl rfl | exact .inr (.inl rfl) | exact .inr (.inr rfl))) (k_cons (e_var (i := 15) rfl (by first | exact .inl rfl | exact .inr (.inl rfl) | exact .inr (.inr rfl))) (k_cons (e_var (i := 14) rfl (by first | exact .inl rfl | exact .inr (.inl rfl) | exact .inr (.inr rfl))) (k_cons (e_var (i := 13) rfl (by first | exact .inl rfl | exact .inr (.inl rfl) | exact .inr (.inr rfl))) k_nil)))))))) (w_or (t_cmp (op_neY rfl (f_isi T) (tab_A_ok T base (okn_are_alike T base 12) (by omega)) (tab_A_nb T) (hr.mono (by omega))) (e_var (i := 20) rfl (by first | exact .inl rfl | exact .inr (.inl rfl) | exact .inr (.inr rfl))) (c_mkK (c := 11) (nf := 4) (m := 2) O_Unison_init rfl rfl rfl rfl rfl rfl (f_mk_Unison T) (hr.mono (by omega)) (f_glo_Unison T) rfl KB_Unison_init_10 rfl (k_cons (e_var (i := 14) rfl (by first | exact .inl rfl | exact .inr (.inl rfl) | exact .inr (.inr rfl))) (k_cons (e_var (i := 13) rfl (by first | exact .inl rfl | exact .inr (.inl rfl) | exact .inr (.inr rfl))) k_nil)))) (w_or (t_cmp (op_eqX rfl rfl rfl (f_isi T) (tab_A_ok T base (okn_are_alike T base 12) (by omega)) (tab_A_nb T) (hr.mono (by omega))) (e_var (i := 19) rfl (by first | exact .inl rfl | exact .inr (.inl rfl) | exact .inr (.inr rfl))) (e_var (i := 20) rfl (by first | exact .inl rfl | exact .inr (.inl rfl) | exact .inr (.inr rfl)))) (w_or1 (t_cmp (op_eqX rfl rfl rfl (f_isi T) (tab_A_ok T base (okn_are_alike T base 12) (by omega)) (tab_A_nb T) (hr.mono (by omega))) (e_var (i := 19) rfl (by first | exact .inl rfl | exact .inr (.inl rfl) | exact .inr (.inr rfl))) (e_fld rfl (f_fld_parts T).1 (e_var (i := 19) rfl (by first | exact .inl rfl | exact .inr (.inl rfl) | exact .inr (.inr rfl)))))))))) (ss_one (s_ret e_bl)) ss_nil)
  (ss_cons (s_set (i := 6) sc_law.nd rfl (by first | exact .inl rfl | exact .inr rfl) (c_call O_law_pick rfl rfl rfl rfl rfl (hr.mono (by omega)) rfl (f_glo_law_pick T) (a_cons (e_var (i := 1) rfl (by first | exact .inl rfl | exact .inr (.inl rfl) | exact .inr (.inr rfl))) (a_cons (e_var (i := 3) rfl (by first | exact .inl rfl | exact .inr (.inl rfl) | exact .inr (.inr rfl))) a_nil))))
  (ss_cons (s_if (PW.pt (w_or (t_cmp (op_neY rfl (f_isi T) (tab_A_ok T base (okn_are_alike T base 12) (by omega)) (tab_A_nb T) (hr.mono (by omega))) (e_cmp (op_eqX rfl rfl rfl (f_isi T) (tab_A_ok T base (okn_are_alike T base 12) (by omega)) (tab_A_nb T) (hr.mono (by omega))) (c_mkF (c := 6) (nf := 8) O_Stage_init rfl rfl rfl rfl rfl rfl (f_mk_Stage T) (hr.mono (by omega)) (f_glo_Stage T) rfl (a_cons (e_var (i := 13) rfl (by first | exact .inl rfl | exact .inr (.inl rfl) | exact .inr (.inr rfl))) (a_cons (e_var (i := 14) rfl (by first | exact .inl rfl | exact .inr (.inl rfl) | exact .inr (.inr rfl))) (a_cons (e_var (i := 6) rfl (by first | exact .inl rfl | exact .inr (.inl rfl) | exact .inr (.inr rfl))) (a_cons (e_var (i := 16) rfl (by first | exact .inl rfl | exact .inr (.inl rfl) | exact .inr (.inr rfl))) (a_cons (e_var (i := 17) rfl (by first | exact .inl rfl | exact .inr (.inl rfl) | exact .inr (.inr rfl))) (a_cons (e_var (i := 18) rfl (by first | exact .inl rfl | exact .inr (.inl rfl) | exact .inr (.inr rfl))) a_nil))))))) (e_var (i := 19) rfl (by first | exact .inl rfl | exact .inr (.inl rfl) | exact .inr (.inr rfl)))) (e_cmp (op_eqX rfl rfl rfl (f_isi T) (tab_A_ok T base (okn_are_alike T base 12) (by omega)) (tab_A_nb T) (hr.mono (by omega))) (c_mkFR (c := 0) (nf := 2) O_Paper_init rfl rfl rfl rfl rfl rfl (f_mk_Paper T) (hr.mono (by omega)) (f_glo_Paper T) rfl (a_cons e_strK (a_cons (e_var (i := 6) rfl (by first | exact .inl rfl | exact .inr (.inl rfl) | exact .inr (.inr rfl))) a_nil))) (c_mkFR (c := 0) (nf := 2) O_Paper_init rfl rfl rfl rfl rfl rfl (f_mk_Paper T) (hr.mono (by omega)) (f_glo_Paper T) rfl (a_cons e_strK (a_cons (e_var (i := 15) rfl (by first | exact .inl rfl | exact .inr (.inl rfl) | exact .inr (.inr rfl))) a_nil))))) (w_or1 (t_cmp (op_neY rfl (f_isi T) (tab_A_ok T base (okn_are_alike T base 12) (by omega)) (tab_A_nb T) (hr.mono (by omega))) (e_cmp (op_eqX rfl rfl rfl (f_isi T) (tab_A_ok T base (okn_are_alike T base 12) (by omega)) (tab_A_nb T) (hr.mono (by omega))) (c_mkF (c := 11) (nf := 4) O_Unison_init rfl rfl rfl rfl rfl rfl (f_mk_Unison T) (hr.mono (by omega)) (f_glo_Unison T) rfl (a_cons (e_var (i := 13) rfl (by first | exact .inl rfl | exact .inr (.inl rfl) | exact .inr (.inr rfl))) (a_cons (e_var (i := 6) rfl (by first | exact .inl rfl | exact .inr (.inl rfl) | exact .inr (.inr rfl))) a_nil))) (e_var (i := 20) rfl (by first | exact .inl rfl | exact .inr (.inl rfl) | exact .inr (.inr rfl)))) (e_cmp (op_eqX rfl rfl rfl (f_isi T) (tab_A_ok T base (okn_are_alike T base 12) (by omega)) (tab_A_nb T) (hr.mono (by omega))) (c_mkFR (c := 0) (nf := 2) O_Paper_init rfl rfl rfl rfl rfl rfl (f_mk_Paper T) (hr.mono (by omega)) (f_glo_Paper T) rfl (a_cons e_strK (a_cons (e_var (i := 6) rfl (by first | exact .inl rfl | exact .inr (.inl rfl) | exact .inr (.inr rfl))) a_nil))) (c_mkFR (c := 0) (nf := 2) O_Paper_init rfl rfl rfl rfl rfl rfl (f_mk_Paper T) (hr.mono (by omega)) (f_glo_Paper T) rfl (a_cons e_strK (a_cons (e_var (i := 14) rfl (by first | exact .inl rfl | exact .inr (.inl rfl) | exact .inr (.inr rfl))) a_nil)))))))) (ss_one (s_ret e_bl)) ss_nil)
  (ss_cons (s_if (PW.pt (w_or (t_cmp (op_eqX rfl rfl rfl (f_isi T) (tab_A_ok T base (okn_are_alike T base 12) (by omega)) (tab_A_nb T) (hr.mono (by omega))) (e_var (i := 19) rfl (by first | exact .inl rfl | exact .inr (.inl rfl) | exact .inr (.inr rfl))) (c_mkFR (c := 1) (nf := 2) O_Paper_init rfl rfl rfl rfl rfl rfl (f_mk_Denial T) (hr.mono (by omega)) (f_glo_Denial T) rfl (a_cons e_strK (a_cons (e_var (i := 13) rfl (by first | exact .inl rfl | exact .inr (.inl rfl) | exact .inr (.inr rfl))) (a_cons (e_var (i := 14) rfl (by first | exact .inl rfl | exact .inr (.inl rfl) | exact .inr (.inr rfl))) (a_cons (e_var (i := 15) rfl (by first | exact .inl rfl | exact .inr (.inl rfl) | exact .inr (.inr rfl))) (a_cons (e_var (i := 16) rfl (by first | exact .inl rfl | exact .inr (.inl rfl) | exact .inr (.inr rfl))) (a_cons (e_var (i := 17) rfl (by first | exact .inl rfl | exact .inr (.inl rfl) | exact .inr (.inr rfl))) (a_cons (e_var (i := 18) rfl (by first | exact .inl rfl | exact .inr (.inl rfl) | exact .inr (.inr rfl))) a_nil))))))))) (w_or (t_cmp (op_eqX rfl rfl rfl (f_isi T) (tab_A_ok T base (okn_are_alike T base 12) (by omega)) (tab_A_nb T) (hr.mono (by omega))) (e_var (i := 20) rfl (by first | exact .inl rfl | exact .inr (.inl rfl) | exact .inr (.inr rfl))) (c_mkFR (c := 0) (nf := 2) O_Paper_init rfl rfl rfl rfl rfl rfl (f_mk_Paper T) (hr.mono (by omega)) (f_glo_Paper T) rfl (a_cons e_strK (a_cons (e_var (i := 13) rfl (by first | exact .inl rfl | exact .inr (.inl rfl) | exact .inr (.inr rfl))) (a_cons (e_var (i := 14) rfl (by first | exact .inl rfl | exact .inr (.inl rfl) | exact .inr (.inr rfl))) a_nil))))) (w_or (t_cmp (op_eqX rfl rfl rfl (f_isi T) (tab_A_ok T base (okn_are_alike T base 12) (by omega)) (tab_A_nb T) (hr.mono (by omega))) (c_mkF (c := 11) (nf := 4) O_Unison_init rfl rfl rfl rfl rfl rfl (f_mk_Unison T) (hr.mono (by omega)) (f_glo_Unison T) rfl (a_cons e_int (a_cons (e_var (i := 13) rfl (by first | exact .inl rfl | exact .inr (.inl rfl) | exact .inr (.inr rfl))) a_nil))) (c_mkF (c := 11) (nf := 4) O_Unison_init rfl rfl rfl rfl rfl rfl (f_mk_Unison T) (hr.mono (by omega)) (f_glo_Unison T) rfl (a_cons e_bl (a_cons (e_var (i := 13) rfl (by first | exact .inl rfl | exact .inr (.inl rfl) | exact .inr (.inr rfl))) a_nil)))) (w_or1 (t_cmp (op_eqX rfl rfl rfl (f_isi T) (tab_A_ok T base (okn_are_alike T base 12) (by omega)) (tab_A_nb T) (hr.mono (by omega))) (c_mkF (c := 11) (nf := 4) O_Unison_init rfl rfl rfl rfl rfl rfl (f_mk_Unison T) (hr.mono (by omega)) (f_glo_Unison T) rfl (a_cons e_int (a_cons (e_var (i := 13) rfl (by first | exact .inl rfl | exact .inr (.inl rfl) | exact .inr (.inr rfl))) a_nil))) (c_mkF (c := 11) (nf := 4) O_Unison_init rfl rfl rfl rfl rfl rfl (f_mk_Unison T) (hr.mono (by omega)) (f_glo_Unison T) rfl (a_cons e_bl (a_cons (e_var (i := 13) rfl (by first | exact .inl rfl | exact .inr (.inl rfl) | exact .inr (.inr rfl))) a_nil))))))))) (ss_one (s_ret e_bl)) ss_nil)
  (ss_cons (s_set (i := 7) sc_law.nd rfl (by first | exact .inl rfl | exact .inr rfl) (e_lstH (a_cons e_int (a_cons (e_lstH (a_cons e_int (a_cons (e_lst (a_cons e_int a_nil)) a_nil))) (a_cons (e_lst (a_cons (e_lst (a_cons e_int a_nil)) a_nil)) a_nil)))))
  (ss_cons (s_set (i := 8) sc_law.nd rfl (by first | exact .inl rfl | exact .inr rfl) (e_lst (a_cons (c_mkF (c := 6) (nf := 8) O_Stage_init rfl rfl rfl rfl rfl rfl (f_mk_Stage T) (hr.mono (by omega)) (f_glo_Stage T) rfl (a_cons (e_var (i := 7) rfl (by first | exact .inl rfl | exact .inr (.inl rfl) | exact .inr (.inr rfl))) (a_cons e_int (a_cons (e_var (i := 7) rfl (by first | exact .inl rfl | exact .inr (.inl rfl) | exact .inr (.inr rfl))) (a_cons (e_lst (a_cons (e_var (i := 7) rfl (by first | exact .inl rfl | exact .inr (.inl rfl) | exact .inr (.inr rfl))) a_nil)) (a_cons e_int (a_cons e_int a_nil))))))) (a_cons (c_mkF (c := 11) (nf := 4) O_Unison_init rfl rfl rfl rfl rfl rfl (f_mk_Unison T) (hr.mono (by omega)) (f_glo_Unison T) rfl (a_cons (e_lst (a_cons (e_var (i := 7) rfl (by first | exact .inl rfl | exact .inr (.inl rfl) | exact .inr (.inr rfl))) a_nil)) (a_cons (e_var (i := 7) rfl (by first | exact .inl rfl | exact .inr (.inl rfl) | exact .inr (.inr rfl))) a_nil))) a_nil))))
  (ss_cons (s_expr (e_m tyL PySem.F.plainAttrs_list PySem.F.slot_list_append PySem.F.type_list_append m_app (e_ix rfl rfl rfl hr (e_var (i := 7) rfl (by first | exact .inl rfl | exact .inr (.inl rfl) | exact .inr (.inr rfl))) e_int) (a_cons e_int a_nil)))
  (ss_cons (s_expr (e_m tyL PySem.F.plainAttrs_list PySem.F.slot_list_append PySem.F.type_list_append m_app (e_var (i := 7) rfl (by first | exact .inl rfl | exact .inr (.inl rfl) | exact .inr (.inr rfl))) (a_cons e_int a_nil)))
  (ss_cons (s_set (i := 9) sc_law.nd rfl (by first | exact .inl rfl | exact .inr rfl) (e_tup (a_cons e_int (a_cons (e_tup (a_cons e_int (a_cons (e_tup (a_cons e_int a_nil)) a_nil))) (a_cons (e_tup (a_cons (e_tup (a_cons e_int a_nil)) a_nil)) a_nil)))))
  (ss_one (s_if (PW.pt (w_or (t_cmp (op_neY rfl (f_isi T) (tab_A_ok T base (okn_are_alike T base 12) (by omega)) (tab_A_nb T) (hr.mono (by omega))) (e_fld rfl (f_fld_parts T).1 (e_ix rfl rfl rfl hr (e_var (i := 8) rfl (by first | exact .inl rfl | exact .inr (.inl rfl) | exact .inr (.inr rfl))) e_int)) (e_tup (a_cons (e_var (i := 9) rfl (by first | exact .inl rfl | exact .inr (.inl rfl) | exact .inr (.inr rfl))) (a_cons e_int (a_cons (e_var (i := 9) rfl (by first | exact .inl rfl | exact .inr (.inl rfl) | exact .inr (.inr rfl))) (a_cons (e_tup (a_cons (e_var (i := 9) rfl (by first | exact .inl rfl | exact .inr (.inl rfl) | exact .inr (.inr rfl))) a_nil)) (a_cons e_int (a_cons e_int a_nil)))))))) (w_or1 (t_cmp (op_neY rfl (f_isi T) (tab_A_ok T base (okn_are_alike T base 12) (by omega)) (tab_A_nb T) (hr.mono (by omega))) (e_fld rfl (f_fld_parts T).1 (e_ix rfl rfl rfl hr (e_var (i := 8) rfl (by first | exact .inl rfl | exact .inr (.inl rfl) | exact .inr (.inr rfl))) e_int)) (e_tup (a_cons (e_tup (a_cons (e_var (i := 9) rfl (by first | exact .inl rfl | exact .inr (.inl rfl) | exact .inr (.inr rfl))) a_nil)) (a_cons (e_var (i := 9) rfl (by first | exact .inl rfl | exact .inr (.inl rfl) | exact .inr (.inr rfl))) a_nil))))))) (ss_one (s_ret e_bl)) ss_nil)))))))))))))))))
  (ss_cons (s_par3 (i := 10) (j := 11) (l := 12) rfl sc_law.nd rfl rfl rfl (by decide) (by decide) (by decide) rfl rfl rfl (a_cons (c_mkK (c := 8) (nf := 3) (m := 1) O_Done_init rfl rfl rfl rfl rfl rfl (f_mk_Done T) (hr.mono (by omega)) (f_glo_Done T) rfl KB_Done_init_0 rfl (k_cons (e_lst (a_cons (e_lst (a_cons e_int a_nil)) a_nil)) k_nil)) (a_cons (c_mkK (c := 9) (nf := 6) (m := 4) O_Blamed_init rfl rfl rfl rfl rfl rfl (f_mk_Blamed T) (hr.mono (by omega)) (f_glo_Blamed T) rfl KB_Blamed_init_3210 rfl (k_cons (e_lst (a_cons e_int a_nil)) (k_cons e_int (k_cons e_int (k_cons (e_lst (a_cons e_int a_nil)) k_nil))))) (a_cons (c_mkK (c := 10) (nf := 5) (m := 3) O_Blocked_init rfl rfl rfl rfl rfl rfl (f_mk_Blocked T) (hr.mono (by omega)) (f_glo_Blocked T) rfl KB_Blocked_init_210 rfl (k_cons (e_lst (a_cons e_int a_nil)) (k_cons e_int (k_cons (e_lst (a_cons e_int a_nil)) k_nil)))) a_nil))))
  (ss_cons (s_if (PW.pt (w_or (t_cmp (op_neY rfl (f_isi T) (tab_A_ok T base (okn_are_alike T base 12) (by omega)) (tab_A_nb T) (hr.mono (by omega))) (e_tup (a_cons (e_fld rfl (f_fld_word T).1 (e_var (i := 10) rfl (by first | exact .inl rfl | exact .inr (.inl rfl) | exact .inr (.inr rfl)))) (a_cons (e_callTy (bool_LO rfl (tab_B_ok T base) (hr.mono (by omega))) rfl (f_free_bool T) bb_bool (a_cons (e_var (i := 10) rfl (by first | exact .inl rfl | exact .inr (.inl rfl) | exact .inr (.inr rfl))) a_nil)) (a_cons (e_fld rfl (f_fld_rows T).1 (e_var (i := 10) rfl (by first | exact .inl rfl | exact .inr (.inl rfl) | exact .inr (.inr rfl)))) (a_cons (e_fld rfl (f_fld_word T).1 (c_mkF0 (c := 7) (nf := 2) O_Idle_init rfl rfl rfl rfl rfl rfl (f_mk_Idle T) (hr.mono (by omega)) (f_glo_Idle T) rfl)) (a_cons (e_callTy (bool_LO rfl (tab_B_ok T base) (hr.mono (by omega))) rfl (f_free_bool T) bb_bool (a_cons (c_mkF0 (c := 7) (nf := 2) O_Idle_init rfl rfl rfl rfl rfl rfl (f_mk_Idle T) (hr.mono (by omega)) (f_glo_Idle T) rfl) a_nil)) (a_cons (e_fld rfl (f_fld_parts T).1 (c_mkF0 (c := 7) (nf := 2) O_Idle_init rfl rfl rfl rfl rfl rfl (f_mk_Idle T) (hr.mono (by omega)) (f_glo_Idle T) rfl)) a_nil))))))) (e_tup (a_cons e_strK (a_cons e_bl (a_cons (e_tup (a_cons (e_tup (a_cons e_int a_nil)) a_nil)) (a_cons e_strK (a_cons e_bl (a_cons (e_tup a_nil) a_nil)))))))) (w_or (t_cmp (op_neY rfl (f_isi T) (tab_A_ok T base (okn_are_alike T base 12) (by omega)) (tab_A_nb T) (hr.mono (by omega))) (c_mkF0 (c := 7) (nf := 2) O_Idle_init rfl rfl rfl rfl rfl rfl (f_mk_Idle T) (hr.mono (by omega)) (f_glo_Idle T) rfl) (c_mkF0 (c := 7) (nf := 2) O_Idle_init rfl rfl rfl rfl rfl rfl (f_mk_Idle T) (hr.mono (by omega)) (f_glo_Idle T) rfl)) (w_or1 (t_cmp (op_eqX rfl rfl rfl (f_isi T) (tab_A_ok T base (okn_are_alike T base 12) (by omega)) (tab_A_nb T) (hr.mono (by omega))) (c_mkF0 (c := 7) (nf := 2) O_Idle_init rfl rfl rfl rfl rfl rfl (f_mk_Idle T) (hr.mono (by omega)) (f_glo_Idle T) rfl) (c_mkFR (c := 0) (nf := 2) O_Paper_init rfl rfl rfl rfl rfl rfl (f_mk_Paper T) (hr.mono (by omega)) (f_glo_Paper T) rfl (a_cons e_strK a_nil))))))) (ss_one (s_ret e_bl)) ss_nil)
  (ss_cons (s_if (t_cmp (op_neY rfl (f_isi T) (tab_A_ok T base (okn_are_alike T base 12) (by omega)) (tab_A_nb T) (hr.mono (by omega))) (e_tup (a_cons (e_fld rfl (f_fld_word T).1 (e_var (i := 11) rfl (by first | exact .inl rfl | exact .inr (.inl rfl) | exact .inr (.inr rfl)))) (a_cons (e_callTy (bool_LO rfl (tab_B_ok T base) (hr.mono (by omega))) rfl (f_free_bool T) bb_bool (a_cons (e_var (i := 11) rfl (by first | exact .inl rfl | exact .inr (.inl rfl) | exact .inr (.inr rfl))) a_nil)) (a_cons (e_fld rfl (f_fld_parts T).1 (e_var (i := 11) rfl (by first | exact .inl rfl | exact .inr (.inl rfl) | exact .inr (.inr rfl)))) (a_cons (e_fld rfl (f_fld_word T).1 (e_var (i := 12) rfl (by first | exact .inl rfl | exact .inr (.inl rfl) | exact .inr (.inr rfl)))) (a_cons (e_callTy (bool_LO rfl (tab_B_ok T base) (hr.mono (by omega))) rfl (f_free_bool T) bb_bool (a_cons (e_var (i := 12) rfl (by first | exact .inl rfl | exact .inr (.inl rfl) | exact .inr (.inr rfl))) a_nil)) (a_cons (e_fld rfl (f_fld_parts T).1 (e_var (i := 12) rfl (by first | exact .inl rfl | exact .inr (.inl rfl) | exact .inr (.inr rfl)))) a_nil))))))) (e_tup (a_cons e_strK (a_cons e_bl (a_cons (e_tup (a_cons (e_tup (a_cons e_int a_nil)) (a_cons e_int (a_cons e_int (a_cons (e_tup (a_cons e_int a_nil)) a_nil))))) (a_cons e_strK (a_cons e_bl (a_cons (e_tup (a_cons (e_tup (a_cons e_int a_nil)) (a_cons e_int (a_cons (e_tup (a_cons e_int a_nil)) a_nil)))) a_nil)))))))) (ss_one (s_ret e_bl)) ss_nil)
  (ss_cons (s_if (PW.pt (w_or (t_cmp (op_neY rfl (f_isi T) (tab_A_ok T base (okn_are_alike T base 12) (by omega)) (tab_A_nb T) (hr.mono (by omega))) (e_tup (a_cons (e_fld rfl (f_fld_at T).1 (e_var (i := 11) rfl (by first | exact .inl rfl | exact .inr (.inl rfl) | exact .inr (.inr rfl)))) (a_cons (e_fld rfl (f_fld_person T).1 (e_var (i := 11) rfl (by first | exact .inl rfl | exact .inr (.inl rfl) | exact .inr (.inr rfl)))) (a_cons (e_fld rfl (f_fld_neighbour T).1 (e_var (i := 11) rfl (by first | exact .inl rfl | exact .inr (.inl rfl) | exact .inr (.inr rfl)))) (a_cons (e_fld rfl (f_fld_paper T).1 (e_var (i := 11) rfl (by first | exact .inl rfl | exact .inr (.inl rfl) | exact .inr (.inr rfl)))) (a_cons (e_fld rfl (f_fld_person T).1 (e_var (i := 12) rfl (by first | exact .inl rfl | exact .inr (.inl rfl) | exact .inr (.inr rfl)))) (a_cons (e_fld rfl (f_fld_neighbour T).1 (e_var (i := 12) rfl (by first | exact .inl rfl | exact .inr (.inl rfl) | exact .inr (.inr rfl)))) (a_cons (e_fld rfl (f_fld_paper T).1 (e_var (i := 12) rfl (by first | exact .inl rfl | exact .inr (.inl rfl) | exact .inr (.inr rfl)))) a_nil)))))))) (e_tup (a_cons (e_tup (a_cons e_int a_nil)) (a_cons e_int (a_cons e_int (a_cons (e_tup (a_cons e_int a_nil)) (a_cons (e_tup (a_cons e_int a_nil)) (a_cons e_int (a_cons (e_tup (a_cons e_int a_nil)) a_nil))))))))) (w_or1 (t_cmp (op_eqX rfl rfl rfl (f_isi T) (tab_A_ok T base (okn_are_alike T base 12) (by omega)) (tab_A_nb T) (hr.mono (by omega))) (c_mkF (c := 8) (nf := 3) O_Done_init rfl rfl rfl rfl rfl rfl (f_mk_Done T) (hr.mono (by omega)) (f_glo_Done T) rfl (a_cons e_int a_nil)) (c_mkF (c := 8) (nf := 3) O_Done_init rfl rfl rfl rfl rfl rfl (f_mk_Done T) (hr.mono (by omega)) (f_glo_Done T) rfl (a_cons e_bl a_nil)))))) (ss_one (s_ret e_bl)) ss_nil)
  (ss_one (s_ret (e_and (e_cmp (op_eqX rfl rfl rfl (f_isi T) (tab_A_ok T base (okn_are_alike T base 12) (by omega)) (tab_A_nb T) (hr.mono (by omega))) (c_mkF (c := 6) (nf := 8) O_Stage_init rfl rfl rfl rfl rfl rfl (f_mk_Stage T) (hr.mono (by omega)) (f_glo_Stage T) rfl (a_cons (e_lst (a_cons e_int a_nil)) (a_cons e_int (a_cons e_int (a_cons e_int (a_cons e_int (a_cons e_int a_nil))))))) (c_mkF (c := 6) (nf := 8) O_Stage_init rfl rfl rfl rfl rfl rfl (f_mk_Stage T) (hr.mono (by omega)) (f_glo_Stage T) rfl (a_cons (e_tup (a_cons e_int a_nil)) (a_cons e_int (a_cons e_int (a_cons e_int (a_cons e_int (a_cons e_int a_nil)))))))) (e_and (e_cmp (op_eqX rfl rfl rfl (f_isi T) (tab_A_ok T base (okn_are_alike T base 12) (by omega)) (tab_A_nb T) (hr.mono (by omega))) (c_mkF (c := 11) (nf := 4) O_Unison_init rfl rfl rfl rfl rfl rfl (f_mk_Unison T) (hr.mono (by omega)) (f_glo_Unison T) rfl (a_cons (e_lst a_nil) (a_cons (e_lst (a_cons (e_lst (a_cons e_int a_nil)) a_nil)) a_nil))) (c_mkF (c := 11) (nf := 4) O_Unison_init rfl rfl rfl rfl rfl rfl (f_mk_Unison T) (hr.mono (by omega)) (f_glo_Unison T) rfl (a_cons (e_tup a_nil) (a_cons (e_tup (a_cons (e_tup (a_cons e_int a_nil)) a_nil)) a_nil)))) (e_one (e_cmp (op_neY rfl (f_isi T) (tab_A_ok T base (okn_are_alike T base 12) (by omega)) (tab_A_nb T) (hr.mono (by omega))) (c_mkF (c := 6) (nf := 8) O_Stage_init rfl rfl rfl rfl rfl rfl (f_mk_Stage T) (hr.mono (by omega)) (f_glo_Stage T) rfl (a_cons e_int (a_cons e_int (a_cons e_int (a_cons e_int (a_cons e_int (a_cons e_int a_nil))))))) (c_mkF (c := 6) (nf := 8) O_Stage_init rfl rfl rfl rfl rfl rfl (f_mk_Stage T) (hr.mono (by omega)) (f_glo_Stage T) rfl (a_cons e_int (a_cons e_int (a_cons e_int (a_cons e_int (a_cons e_int (a_cons e_int a_nil)))))))))))))))))))))
end
end Gk47

namespace Gk47
open PySem PySem.Spec PyProof.Rows L2 Li
/-- what the law asks of a value -/
structure Good (a : Li.Val) : Prop where
  fix : ∀ h, m_fixed 9 [a] h = some (a, h)
  bel : ∀ D, below D a = true
  frz : ∀ n os D, Li.frz (n + 40) os D a = some a
  alk : ∀ h, m_are_alike 10 [a, a] h = some (.bl true, h)
theorem fix_comp {n : Nat} {v0 : Li.Val} (os : List LObj) (h : LHeap) : ∀ (xs : List Li.Val), (∀ x ∈ xs, ∀ h, m_fixed n [x] h = some (x, h)) → ∀ o, compV (gname 1) lyes (lcall (m_fixed n) (acons (lvar 1) anil)) [some v0, o] xs (os :: h) = .ok xs (os :: h)
  | [], _, _ => rfl
  | x :: xs, hx, o => by
    have h1 := hx x (by simp) (os :: h)
    have h2 := fix_comp (v0 := v0) os h xs (fun y hy => hx y (by simp [hy])) o
    simp only [compV, gname, lyes, lcall, acons, lvar, anil, Res.bind, List.set, List.getElem?_cons_succ, List.getElem?_cons_zero, h1, ofO, h2]
theorem fix_tup {n : Nat} {xs : List Li.Val} (hx : ∀ x ∈ xs, ∀ h, m_fixed n [x] h = some (x, h)) (hb : ∀ D, belows D xs = true) (hl : lim xs.length = true) (h : LHeap) : m_fixed (n + 1) [.tup xs] h = some (.tup xs, h) := by
  have e := fix_comp (n := n) (v0 := .tup xs) [] h xs hx none
  have b := hb h.length
  have s : m_fixed (n + 1) [.tup xs] h = fin ((lseq (lret (lcall fTup (acons (lcF (lseq' (lvar 0)) [1] (gname 1) lyes (lcall (m_fixed n) (acons (lvar 1) anil))) anil))) (lret (lvar 0))) [some (.tup xs), none] ([] :: h)) := by kernel_rfl
  rw [s]
  simp only [lseq, SRes.then, lret, lcall, acons, lcF, lseq', lvar, List.getElem?_cons_zero, Res.bind, srcOf, compS, hl, wipeE, List.set, e, anil, fTup, seqOf, ofO, Res.s, fin, retV, below, b]
inductive Al (n : Nat) : List Li.Val → List Li.Val → List Bool → Prop
  | nil : Al n [] [] []
  | cons {x y : Li.Val} {xs ys : List Li.Val} {b : Bool} {bs : List Bool} : (∀ h, m_are_alike n [x, y] h = some (.bl b, h)) → Al n xs ys bs → Al n (x :: xs) (y :: ys) (b :: bs)
theorem Al.len {n : Nat} {xs ys : List Li.Val} {bs : List Bool} (a : Al n xs ys bs) : xs.length = ys.length := by
  induction a with
  | nil => rfl
  | cons _ _ ih => simp [ih]
theorem Al.zlen {n : Nat} {xs ys : List Li.Val} {bs : List Bool} (a : Al n xs ys bs) : (zipV xs ys).length = xs.length := by
  induction a with
  | nil => rfl
  | cons _ _ ih => simp [zipV, ih]
theorem alike_comp {n : Nat} {u v : Li.Val} (os : List LObj) (h : LHeap) {xs ys : List Li.Val} {bs : List Bool} (a : Al n xs ys bs) : ∀ o p, compV (gtupN 2 (gcons (gname 2) (gcons (gname 3) gnil))) lyes (lcall (m_are_alike n) (acons (lvar 2) (acons (lvar 3) anil))) [some u, some v, o, p] (zipV xs ys) (os :: h) = .ok (bs.map .bl) (os :: h) := by
  induction a with
  | nil => intro o p; rfl
  | cons h1 _ ih =>
    intro o p
    have h1 := h1 (os :: h)
    simp only [zipV, compV, gtupN, List.length_cons, List.length_nil, gcons, gnil, gname, lyes, lcall, acons, lvar, anil, Res.bind, List.set, List.getElem?_cons_succ, List.getElem?_cons_zero, h1, ofO, ih o p, List.map_cons, if_true]
theorem bls_map : ∀ bs : List Bool, blsOf (bs.map .bl) = some bs
  | [] => rfl
  | b :: bs => by simp [blsOf, bls_map bs]
theorem alike_tup {n : Nat} {xs ys : List Li.Val} {bs : List Bool} (a : Al n xs ys bs) (hl : lim xs.length = true) (h : LHeap) : m_are_alike (n + 1) [.tup xs, .tup ys] h = some (.bl (allOf bs), h) := by
  have e := alike_comp (u := .tup xs) (v := .tup ys) [] h a none none
  have s : m_are_alike (n + 1) [.tup xs, .tup ys] h = fin ((lseq (lret (land (lop (opEqX alls (tab_A (m_are_alike n))) (lcall fLen (acons (lvar 0) anil)) (lcall fLen (acons (lvar 1) anil))) (lcall (fBls allOf) (acons (lcF (lzip (acons (lvar 0) (acons (lvar 1) anil))) [2, 3] (gtupN 2 (gcons (gname 2) (gcons (gname 3) gnil))) lyes (lcall (m_are_alike n) (acons (lvar 2) (acons (lvar 3) anil)))) anil)))) (lseq (lifS (lb2t (lop (opNeY alls (tab_A (m_are_alike n))) (lcall (fIsi alls isis) (acons (lvar 0) (acons (lc (.ty 1)) anil))) (lcall (fIsi alls isis) (acons (lvar 1) (acons (lc (.ty 1)) anil))))) (lret (lc (.bl false))) lnil)
  (lret (lcall fBool (acons (lop (opEqX alls (tab_A (m_are_alike n))) (lvar 0) (lvar 1)) anil))))) [some (.tup xs), some (.tup ys), none, none] ([] :: h)) := by kernel_rfl
  rw [s]
  have q : ∀ (i : Int) (h : LHeap), opEqX alls (tab_A (m_are_alike n)) h (.int i) (.int i) = some (.bl true, h) := fun i h => by
    have e : opEqX alls (tab_A (m_are_alike n)) h (.int i) (.int i) = some (.bl (veqd (.int i) (.int i)), h) := by rfl
    rw [e]
    simp [veqd, veq]
  have z : lim (zipV xs ys).length = true := by rw [a.zlen]; exact hl
  simp only [lseq, SRes.then, lret, land, lop, lcall, acons, lcF, lzip, lvar, List.getElem?_cons_zero, List.getElem?_cons_succ, Res.bind, compS, z, a.len, wipeE, List.set, e, anil, fLen, q, fBls, lstOf, bls_map, seqOf, ofO, Res.s, fin, retV, below]
end Gk47

namespace Gk47
open PySem PySem.Spec PyProof.Rows L2 Li
theorem lim0 : lim 0 = true := rfl
theorem lim1 : lim 1 = true := rfl
theorem lim2 : lim 2 = true := rfl
theorem lim3 : lim 3 = true := rfl
theorem lim4 : lim 4 = true := rfl
theorem lim5 : lim 5 = true := rfl
theorem lim6 : lim 6 = true := rfl
theorem lim7 : lim 7 = true := rfl
theorem lim8 : lim 8 = true := rfl
theorem lim9 : lim 9 = true := rfl
theorem lim10 : lim 10 = true := rfl
theorem lim11 : lim 11 = true := rfl
theorem lim12 : lim 12 = true := rfl
theorem lim13 : lim 13 = true := rfl
theorem lim14 : lim 14 = true := rfl
theorem blt11 : Nat.blt 1 1 = false := rfl
theorem blt12 : Nat.blt 1 2 = true := rfl
theorem fix_str (s : List Nat) (h : LHeap) : m_fixed 10 [.str s] h = some (.str s, h) := by kernel_rfl
theorem lk1 (f0 F : List LObj) (n : Nat) : look [f0, F] 1 n = f0[n]? := rfl
theorem lk2 (f0 f1 F : List LObj) (n : Nat) : look [f0, f1, F] 1 n = f1[n]? := rfl
theorem lk3 (f0 f1 f2 F : List LObj) (n : Nat) : look [f0, f1, f2, F] 1 n = f2[n]? := rfl
theorem st1 (f0 F : List LObj) (n : Nat) (o : LObj) : setAt [f0, F] 1 n o = [f0.set n o, F] := rfl
theorem st2 (f0 f1 F : List LObj) (n : Nat) (o : LObj) : setAt [f0, f1, F] 1 n o = [f0, f1.set n o, F] := rfl
theorem st3 (f0 f1 f2 F : List LObj) (n : Nat) (o : LObj) : setAt [f0, f1, f2, F] 1 n o = [f0, f1, f2.set n o, F] := rfl
theorem Good.f63 {a : Li.Val} (g : Good a) (os : List LObj) (D : Nat) : Li.frz 63 os D a = some a := g.frz 23 os D
theorem Good.f62 {a : Li.Val} (g : Good a) (os : List LObj) (D : Nat) : Li.frz 62 os D a = some a := g.frz 22 os D
theorem Good.f61 {a : Li.Val} (g : Good a) (os : List LObj) (D : Nat) : Li.frz 61 os D a = some a := g.frz 21 os D
theorem fz_obj (c : Nat) (fs : List (Option Li.Val)) (r : List LObj) : Li.frz 64 (.ins c fs :: r) 1 (.obj 1 0) = (match allS fs with
  | some xs => (mapO (Li.frz 63 (.ins c fs :: r) 1) xs).map (.ins c)
  | none => none) := rfl
theorem fz_str (s : List Nat) (os : List LObj) (D : Nat) : Li.frz 63 os D (.str s) = some (.str s) := rfl
theorem fz_tup (xs : List Li.Val) (os : List LObj) (D : Nat) : Li.frz 63 os D (.tup xs) = (mapO (Li.frz 62 os D) xs).map .tup := rfl
theorem fix1 {a : Li.Val} (ga : Good a) (h : LHeap) : m_fixed 10 [.tup [a]] h = some (.tup [a], h) :=
  fix_tup (fun x hx => by simp at hx; rcases hx with rfl <;> first | exact ga.fix) (fun D => by simp only [belows, ga.bel]) rfl h
theorem fix2 {a b : Li.Val} (ga : Good a) (gb : Good b) (h : LHeap) : m_fixed 10 [.tup [a, b]] h = some (.tup [a, b], h) :=
  fix_tup (fun x hx => by simp at hx; rcases hx with rfl | rfl <;> first | exact ga.fix | exact gb.fix) (fun D => by simp only [belows, ga.bel, gb.bel]) rfl h
theorem fix6 {a b c d e f : Li.Val} (ga : Good a) (gb : Good b) (gc : Good c) (gd : Good d) (ge : Good e) (gf : Good f) (h : LHeap) : m_fixed 10 [.tup [a, b, c, d, e, f]] h = some (.tup [a, b, c, d, e, f], h) :=
  fix_tup (fun x hx => by simp at hx; rcases hx with rfl | rfl | rfl | rfl | rfl | rfl <;> first | exact ga.fix | exact gb.fix | exact gc.fix | exact gd.fix | exact ge.fix | exact gf.fix) (fun D => by simp only [belows, ga.bel, gb.bel, gc.bel, gd.bel, ge.bel, gf.bel]) rfl h
theorem mk_Stage {a b c d e f : Li.Val} (ga : Good a) (gb : Good b) (gc : Good c) (gd : Good d) (ge : Good e) (gf : Good f) (F : List LObj) : mkF 6 8 m_Stage_init [a, b, c, d, e, f] [F] = some ((.ins 6 [.str [115, 116, 97, 103, 101], .tup [a, b, c, d, e, f], a, b, c, d, e, f]), [F]) := by
  simp only [mkF, lfnS, lseq, SRes.then, lsuper, env0S, lfnStar, lfn, env0, lsetF, lcall, acons, anil, lvar, lc, lop, Res.bind, Res.s, ofO, fix_str, setF, lk1, lk2, lk3, st1, st2, st3, List.length_cons, List.length_nil, List.replicate, List.map_cons, List.map_nil, List.cons_append, List.nil_append, List.append_nil, List.getElem?_cons_zero, List.getElem?_cons_succ, isC, List.set_cons_zero, List.set_cons_succ, List.lookup, below, belows, fin, retV, lasg, gseqN, gtupN, gcons, gnil, gfld, lfld, getF, gname, seqOf, Nat.reduceAdd, Nat.reduceSub, Nat.reduceBEq, List.take, List.drop, Nat.ble, blt11, blt12, Nat.reduceEqDiff, if_true, if_false, fz_obj, fz_str, fz_tup, allS, mapO, Option.map_some, lmkF, lmkK, permL, List.filterMap_cons, List.filterMap_nil, lifS, lb2t, tor, tnot, lret, lnil, lset, lpar, lexpr, ltup, llst, lcF, lim0, lim1, lim2, lim3, lim4, lim5, lim6, lim7, lim8, lim9, lim10, lim11, lim12, lim13, lim14, ga.bel, ga.f63, ga.f62, ga.f61, gb.bel, gb.f63, gb.f62, gb.f61, gc.bel, gc.f63, gc.f62, gc.f61, gd.bel, gd.f63, gd.f62, gd.f61, ge.bel, ge.f63, ge.f62, ge.f61, gf.bel, gf.f63, gf.f62, gf.f61, m_Stage_init, b_Stage_init, m_Unison_init, b_Unison_init, m_Paper_init, b_Paper_init, fix6 ga gb gc gd ge gf]
theorem mk_Unison {a b : Li.Val} (ga : Good a) (gb : Good b) (F : List LObj) : mkF 11 4 m_Unison_init [a, b] [F] = some ((.ins 11 [.str [117, 110, 105, 115, 111, 110], .tup [a, b], a, b]), [F]) := by
  simp only [mkF, lfnS, lseq, SRes.then, lsuper, env0S, lfnStar, lfn, env0, lsetF, lcall, acons, anil, lvar, lc, lop, Res.bind, Res.s, ofO, fix_str, setF, lk1, lk2, lk3, st1, st2, st3, List.length_cons, List.length_nil, List.replicate, List.map_cons, List.map_nil, List.cons_append, List.nil_append, List.append_nil, List.getElem?_cons_zero, List.getElem?_cons_succ, isC, List.set_cons_zero, List.set_cons_succ, List.lookup, below, belows, fin, retV, lasg, gseqN, gtupN, gcons, gnil, gfld, lfld, getF, gname, seqOf, Nat.reduceAdd, Nat.reduceSub, Nat.reduceBEq, List.take, List.drop, Nat.ble, blt11, blt12, Nat.reduceEqDiff, if_true, if_false, fz_obj, fz_str, fz_tup, allS, mapO, Option.map_some, lmkF, lmkK, permL, List.filterMap_cons, List.filterMap_nil, lifS, lb2t, tor, tnot, lret, lnil, lset, lpar, lexpr, ltup, llst, lcF, lim0, lim1, lim2, lim3, lim4, lim5, lim6, lim7, lim8, lim9, lim10, lim11, lim12, lim13, lim14, ga.bel, ga.f63, ga.f62, ga.f61, gb.bel, gb.f63, gb.f62, gb.f61, m_Stage_init, b_Stage_init, m_Unison_init, b_Unison_init, m_Paper_init, b_Paper_init, fix2 ga gb]
theorem mk_X {a : Li.Val} (ga : Good a) (F : List LObj) : mkF 0 2 m_Paper_init [.str [120], a] [F] = some ((.ins 0 [.str [120], .tup [a]]), [F]) := by
  simp only [mkF, lfnS, lseq, SRes.then, lsuper, env0S, lfnStar, lfn, env0, lsetF, lcall, acons, anil, lvar, lc, lop, Res.bind, Res.s, ofO, fix_str, setF, lk1, lk2, lk3, st1, st2, st3, List.length_cons, List.length_nil, List.replicate, List.map_cons, List.map_nil, List.cons_append, List.nil_append, List.append_nil, List.getElem?_cons_zero, List.getElem?_cons_succ, isC, List.set_cons_zero, List.set_cons_succ, List.lookup, below, belows, fin, retV, lasg, gseqN, gtupN, gcons, gnil, gfld, lfld, getF, gname, seqOf, Nat.reduceAdd, Nat.reduceSub, Nat.reduceBEq, List.take, List.drop, Nat.ble, blt11, blt12, Nat.reduceEqDiff, if_true, if_false, fz_obj, fz_str, fz_tup, allS, mapO, Option.map_some, lmkF, lmkK, permL, List.filterMap_cons, List.filterMap_nil, lifS, lb2t, tor, tnot, lret, lnil, lset, lpar, lexpr, ltup, llst, lcF, lim0, lim1, lim2, lim3, lim4, lim5, lim6, lim7, lim8, lim9, lim10, lim11, lim12, lim13, lim14, ga.bel, ga.f63, ga.f62, ga.f61, m_Stage_init, b_Stage_init, m_Unison_init, b_Unison_init, m_Paper_init, b_Paper_init, fix1 ga]
theorem mk_Den {a b c d e f : Li.Val} (ga : Good a) (gb : Good b) (gc : Good c) (gd : Good d) (ge : Good e) (gf : Good f) (F : List LObj) : mkF 1 2 m_Paper_init [.str [115, 116, 97, 103, 101], a, b, c, d, e, f] [F] = some ((.ins 1 [.str [115, 116, 97, 103, 101], .tup [a, b, c, d, e, f]]), [F]) := by
  simp only [mkF, lfnS, lseq, SRes.then, lsuper, env0S, lfnStar, lfn, env0, lsetF, lcall, acons, anil, lvar, lc, lop, Res.bind, Res.s, ofO, fix_str, setF, lk1, lk2, lk3, st1, st2, st3, List.length_cons, List.length_nil, List.replicate, List.map_cons, List.map_nil, List.cons_append, List.nil_append, List.append_nil, List.getElem?_cons_zero, List.getElem?_cons_succ, isC, List.set_cons_zero, List.set_cons_succ, List.lookup, below, belows, fin, retV, lasg, gseqN, gtupN, gcons, gnil, gfld, lfld, getF, gname, seqOf, Nat.reduceAdd, Nat.reduceSub, Nat.reduceBEq, List.take, List.drop, Nat.ble, blt11, blt12, Nat.reduceEqDiff, if_true, if_false, fz_obj, fz_str, fz_tup, allS, mapO, Option.map_some, lmkF, lmkK, permL, List.filterMap_cons, List.filterMap_nil, lifS, lb2t, tor, tnot, lret, lnil, lset, lpar, lexpr, ltup, llst, lcF, lim0, lim1, lim2, lim3, lim4, lim5, lim6, lim7, lim8, lim9, lim10, lim11, lim12, lim13, lim14, ga.bel, ga.f63, ga.f62, ga.f61, gb.bel, gb.f63, gb.f62, gb.f61, gc.bel, gc.f63, gc.f62, gc.f61, gd.bel, gd.f63, gd.f62, gd.f61, ge.bel, ge.f63, ge.f62, ge.f61, gf.bel, gf.f63, gf.f62, gf.f61, m_Stage_init, b_Stage_init, m_Unison_init, b_Unison_init, m_Paper_init, b_Paper_init, fix6 ga gb gc gd ge gf]
theorem mk_Pap {a b : Li.Val} (ga : Good a) (gb : Good b) (F : List LObj) : mkF 0 2 m_Paper_init [.str [117, 110, 105, 115, 111, 110], a, b] [F] = some ((.ins 0 [.str [117, 110, 105, 115, 111, 110], .tup [a, b]]), [F]) := by
  simp only [mkF, lfnS, lseq, SRes.then, lsuper, env0S, lfnStar, lfn, env0, lsetF, lcall, acons, anil, lvar, lc, lop, Res.bind, Res.s, ofO, fix_str, setF, lk1, lk2, lk3, st1, st2, st3, List.length_cons, List.length_nil, List.replicate, List.map_cons, List.map_nil, List.cons_append, List.nil_append, List.append_nil, List.getElem?_cons_zero, List.getElem?_cons_succ, isC, List.set_cons_zero, List.set_cons_succ, List.lookup, below, belows, fin, retV, lasg, gseqN, gtupN, gcons, gnil, gfld, lfld, getF, gname, seqOf, Nat.reduceAdd, Nat.reduceSub, Nat.reduceBEq, List.take, List.drop, Nat.ble, blt11, blt12, Nat.reduceEqDiff, if_true, if_false, fz_obj, fz_str, fz_tup, allS, mapO, Option.map_some, lmkF, lmkK, permL, List.filterMap_cons, List.filterMap_nil, lifS, lb2t, tor, tnot, lret, lnil, lset, lpar, lexpr, ltup, llst, lcF, lim0, lim1, lim2, lim3, lim4, lim5, lim6, lim7, lim8, lim9, lim10, lim11, lim12, lim13, lim14, ga.bel, ga.f63, ga.f62, ga.f61, gb.bel, gb.f63, gb.f62, gb.f61, m_Stage_init, b_Stage_init, m_Unison_init, b_Unison_init, m_Paper_init, b_Paper_init, fix2 ga gb]
theorem opEqX_0 {xs ys r r' : List Li.Val} {bs : List Bool} (A : Al 10 xs ys bs) (hl : lim xs.length = true) (h : LHeap) : opEqX alls (tab_A (m_are_alike 12)) h (.ins 0 (.str [120] :: .tup xs :: r)) (.ins 0 (.str [120] :: .tup ys :: r')) = some (.bl (allOf bs), h) := by
  have e1 : ∀ h, m_are_alike 11 [.str [120], .str [120]] h = some (.bl true, h) := fun h => by kernel_rfl
  have e2 : ∀ h, m_are_alike 12 [.tup [.str [120], .tup xs], .tup [.str [120], .tup ys]] h = some (.bl (allOf [true, allOf bs]), h) := alike_tup (.cons e1 (.cons (alike_tup A hl) .nil)) rfl
  have e3 : ∀ h, m_Paper_eq (m_are_alike 12) [.ins 0 (.str [120] :: .tup xs :: r), .ins 0 (.str [120] :: .tup ys :: r')] h = some (.bl (allOf [true, allOf bs]), h) := fun h => by
    have q : m_Paper_eq (m_are_alike 12) [.ins 0 (.str [120] :: .tup xs :: r), .ins 0 (.str [120] :: .tup ys :: r')] h = fin ((lret (lcall (m_are_alike 12) (acons (lc (.tup [.str [120], .tup xs])) (acons (lc (.tup [.str [120], .tup ys])) anil)))) [some (.ins 0 (.str [120] :: .tup xs :: r)), some (.ins 0 (.str [120] :: .tup ys :: r'))] ([] :: h)) := by kernel_rfl
    rw [q]
    simp only [lret, lcall, acons, anil, lc, Res.bind, Res.s, ofO, e2, fin, retV, below]
  have e4 : opEqX alls (tab_A (m_are_alike 12)) h (.ins 0 (.str [120] :: .tup xs :: r)) (.ins 0 (.str [120] :: .tup ys :: r')) = negB false (m_Paper_eq (m_are_alike 12) [.ins 0 (.str [120] :: .tup xs :: r), .ins 0 (.str [120] :: .tup ys :: r')] h) := by kernel_rfl
  rw [e4, e3]
  cases q : allOf bs <;> simp [negB, allOf, q]
theorem opNeY_0 {xs ys r r' : List Li.Val} {bs : List Bool} (A : Al 10 xs ys bs) (hl : lim xs.length = true) (h : LHeap) : opNeY alls (tab_A (m_are_alike 12)) h (.ins 0 (.str [120] :: .tup xs :: r)) (.ins 0 (.str [120] :: .tup ys :: r')) = some (.bl (!allOf bs), h) := by
  have e1 : ∀ h, m_are_alike 11 [.str [120], .str [120]] h = some (.bl true, h) := fun h => by kernel_rfl
  have e2 : ∀ h, m_are_alike 12 [.tup [.str [120], .tup xs], .tup [.str [120], .tup ys]] h = some (.bl (allOf [true, allOf bs]), h) := alike_tup (.cons e1 (.cons (alike_tup A hl) .nil)) rfl
  have e3 : ∀ h, m_Paper_eq (m_are_alike 12) [.ins 0 (.str [120] :: .tup xs :: r), .ins 0 (.str [120] :: .tup ys :: r')] h = some (.bl (allOf [true, allOf bs]), h) := fun h => by
    have q : m_Paper_eq (m_are_alike 12) [.ins 0 (.str [120] :: .tup xs :: r), .ins 0 (.str [120] :: .tup ys :: r')] h = fin ((lret (lcall (m_are_alike 12) (acons (lc (.tup [.str [120], .tup xs])) (acons (lc (.tup [.str [120], .tup ys])) anil)))) [some (.ins 0 (.str [120] :: .tup xs :: r)), some (.ins 0 (.str [120] :: .tup ys :: r'))] ([] :: h)) := by kernel_rfl
    rw [q]
    simp only [lret, lcall, acons, anil, lc, Res.bind, Res.s, ofO, e2, fin, retV, below]
  have e4 : opNeY alls (tab_A (m_are_alike 12)) h (.ins 0 (.str [120] :: .tup xs :: r)) (.ins 0 (.str [120] :: .tup ys :: r')) = negB true (m_Paper_eq (m_are_alike 12) [.ins 0 (.str [120] :: .tup xs :: r), .ins 0 (.str [120] :: .tup ys :: r')] h) := by kernel_rfl
  rw [e4, e3]
  cases q : allOf bs <;> simp [negB, allOf, q]
theorem opEqX_6 {xs ys r r' : List Li.Val} {bs : List Bool} (A : Al 10 xs ys bs) (hl : lim xs.length = true) (h : LHeap) : opEqX alls (tab_A (m_are_alike 12)) h (.ins 6 (.str [115, 116, 97, 103, 101] :: .tup xs :: r)) (.ins 6 (.str [115, 116, 97, 103, 101] :: .tup ys :: r')) = some (.bl (allOf bs), h) := by
  have e1 : ∀ h, m_are_alike 11 [.str [115, 116, 97, 103, 101], .str [115, 116, 97, 103, 101]] h = some (.bl true, h) := fun h => by kernel_rfl
  have e2 : ∀ h, m_are_alike 12 [.tup [.str [115, 116, 97, 103, 101], .tup xs], .tup [.str [115, 116, 97, 103, 101], .tup ys]] h = some (.bl (allOf [true, allOf bs]), h) := alike_tup (.cons e1 (.cons (alike_tup A hl) .nil)) rfl
  have e3 : ∀ h, m_Paper_eq (m_are_alike 12) [.ins 6 (.str [115, 116, 97, 103, 101] :: .tup xs :: r), .ins 6 (.str [115, 116, 97, 103, 101] :: .tup ys :: r')] h = some (.bl (allOf [true, allOf bs]), h) := fun h => by
    have q : m_Paper_eq (m_are_alike 12) [.ins 6 (.str [115, 116, 97, 103, 101] :: .tup xs :: r), .ins 6 (.str [115, 116, 97, 103, 101] :: .tup ys :: r')] h = fin ((lret (lcall (m_are_alike 12) (acons (lc (.tup [.str [115, 116, 97, 103, 101], .tup xs])) (acons (lc (.tup [.str [115, 116, 97, 103, 101], .tup ys])) anil)))) [some (.ins 6 (.str [115, 116, 97, 103, 101] :: .tup xs :: r)), some (.ins 6 (.str [115, 116, 97, 103, 101] :: .tup ys :: r'))] ([] :: h)) := by kernel_rfl
    rw [q]
    simp only [lret, lcall, acons, anil, lc, Res.bind, Res.s, ofO, e2, fin, retV, below]
  have e4 : opEqX alls (tab_A (m_are_alike 12)) h (.ins 6 (.str [115, 116, 97, 103, 101] :: .tup xs :: r)) (.ins 6 (.str [115, 116, 97, 103, 101] :: .tup ys :: r')) = negB false (m_Paper_eq (m_are_alike 12) [.ins 6 (.str [115, 116, 97, 103, 101] :: .tup xs :: r), .ins 6 (.str [115, 116, 97, 103, 101] :: .tup ys :: r')] h) := by kernel_rfl
  rw [e4, e3]
  cases q : allOf bs <;> simp [negB, allOf, q]
theorem opNeY_6 {xs ys r r' : List Li.Val} {bs : List Bool} (A : Al 10 xs ys bs) (hl : lim xs.length = true) (h : LHeap) : opNeY alls (tab_A (m_are_alike 12)) h (.ins 6 (.str [115, 116, 97, 103, 101] :: .tup xs :: r)) (.ins 6 (.str [115, 116, 97, 103, 101] :: .tup ys :: r')) = some (.bl (!allOf bs), h) := by
  have e1 : ∀ h, m_are_alike 11 [.str [115, 116, 97, 103, 101], .str [115, 116, 97, 103, 101]] h = some (.bl true, h) := fun h => by kernel_rfl
  have e2 : ∀ h, m_are_alike 12 [.tup [.str [115, 116, 97, 103, 101], .tup xs], .tup [.str [115, 116, 97, 103, 101], .tup ys]] h = some (.bl (allOf [true, allOf bs]), h) := alike_tup (.cons e1 (.cons (alike_tup A hl) .nil)) rfl
  have e3 : ∀ h, m_Paper_eq (m_are_alike 12) [.ins 6 (.str [115, 116, 97, 103, 101] :: .tup xs :: r), .ins 6 (.str [115, 116, 97, 103, 101] :: .tup ys :: r')] h = some (.bl (allOf [true, allOf bs]), h) := fun h => by
    have q : m_Paper_eq (m_are_alike 12) [.ins 6 (.str [115, 116, 97, 103, 101] :: .tup xs :: r), .ins 6 (.str [115, 116, 97, 103, 101] :: .tup ys :: r')] h = fin ((lret (lcall (m_are_alike 12) (acons (lc (.tup [.str [115, 116, 97, 103, 101], .tup xs])) (acons (lc (.tup [.str [115, 116, 97, 103, 101], .tup ys])) anil)))) [some (.ins 6 (.str [115, 116, 97, 103, 101] :: .tup xs :: r)), some (.ins 6 (.str [115, 116, 97, 103, 101] :: .tup ys :: r'))] ([] :: h)) := by kernel_rfl
    rw [q]
    simp only [lret, lcall, acons, anil, lc, Res.bind, Res.s, ofO, e2, fin, retV, below]
  have e4 : opNeY alls (tab_A (m_are_alike 12)) h (.ins 6 (.str [115, 116, 97, 103, 101] :: .tup xs :: r)) (.ins 6 (.str [115, 116, 97, 103, 101] :: .tup ys :: r')) = negB true (m_Paper_eq (m_are_alike 12) [.ins 6 (.str [115, 116, 97, 103, 101] :: .tup xs :: r), .ins 6 (.str [115, 116, 97, 103, 101] :: .tup ys :: r')] h) := by kernel_rfl
  rw [e4, e3]
  cases q : allOf bs <;> simp [negB, allOf, q]
theorem opEqX_11 {xs ys r r' : List Li.Val} {bs : List Bool} (A : Al 10 xs ys bs) (hl : lim xs.length = true) (h : LHeap) : opEqX alls (tab_A (m_are_alike 12)) h (.ins 11 (.str [117, 110, 105, 115, 111, 110] :: .tup xs :: r)) (.ins 11 (.str [117, 110, 105, 115, 111, 110] :: .tup ys :: r')) = some (.bl (allOf bs), h) := by
  have e1 : ∀ h, m_are_alike 11 [.str [117, 110, 105, 115, 111, 110], .str [117, 110, 105, 115, 111, 110]] h = some (.bl true, h) := fun h => by kernel_rfl
  have e2 : ∀ h, m_are_alike 12 [.tup [.str [117, 110, 105, 115, 111, 110], .tup xs], .tup [.str [117, 110, 105, 115, 111, 110], .tup ys]] h = some (.bl (allOf [true, allOf bs]), h) := alike_tup (.cons e1 (.cons (alike_tup A hl) .nil)) rfl
  have e3 : ∀ h, m_Paper_eq (m_are_alike 12) [.ins 11 (.str [117, 110, 105, 115, 111, 110] :: .tup xs :: r), .ins 11 (.str [117, 110, 105, 115, 111, 110] :: .tup ys :: r')] h = some (.bl (allOf [true, allOf bs]), h) := fun h => by
    have q : m_Paper_eq (m_are_alike 12) [.ins 11 (.str [117, 110, 105, 115, 111, 110] :: .tup xs :: r), .ins 11 (.str [117, 110, 105, 115, 111, 110] :: .tup ys :: r')] h = fin ((lret (lcall (m_are_alike 12) (acons (lc (.tup [.str [117, 110, 105, 115, 111, 110], .tup xs])) (acons (lc (.tup [.str [117, 110, 105, 115, 111, 110], .tup ys])) anil)))) [some (.ins 11 (.str [117, 110, 105, 115, 111, 110] :: .tup xs :: r)), some (.ins 11 (.str [117, 110, 105, 115, 111, 110] :: .tup ys :: r'))] ([] :: h)) := by kernel_rfl
    rw [q]
    simp only [lret, lcall, acons, anil, lc, Res.bind, Res.s, ofO, e2, fin, retV, below]
  have e4 : opEqX alls (tab_A (m_are_alike 12)) h (.ins 11 (.str [117, 110, 105, 115, 111, 110] :: .tup xs :: r)) (.ins 11 (.str [117, 110, 105, 115, 111, 110] :: .tup ys :: r')) = negB false (m_Paper_eq (m_are_alike 12) [.ins 11 (.str [117, 110, 105, 115, 111, 110] :: .tup xs :: r), .ins 11 (.str [117, 110, 105, 115, 111, 110] :: .tup ys :: r')] h) := by kernel_rfl
  rw [e4, e3]
  cases q : allOf bs <;> simp [negB, allOf, q]
theorem opNeY_11 {xs ys r r' : List Li.Val} {bs : List Bool} (A : Al 10 xs ys bs) (hl : lim xs.length = true) (h : LHeap) : opNeY alls (tab_A (m_are_alike 12)) h (.ins 11 (.str [117, 110, 105, 115, 111, 110] :: .tup xs :: r)) (.ins 11 (.str [117, 110, 105, 115, 111, 110] :: .tup ys :: r')) = some (.bl (!allOf bs), h) := by
  have e1 : ∀ h, m_are_alike 11 [.str [117, 110, 105, 115, 111, 110], .str [117, 110, 105, 115, 111, 110]] h = some (.bl true, h) := fun h => by kernel_rfl
  have e2 : ∀ h, m_are_alike 12 [.tup [.str [117, 110, 105, 115, 111, 110], .tup xs], .tup [.str [117, 110, 105, 115, 111, 110], .tup ys]] h = some (.bl (allOf [true, allOf bs]), h) := alike_tup (.cons e1 (.cons (alike_tup A hl) .nil)) rfl
  have e3 : ∀ h, m_Paper_eq (m_are_alike 12) [.ins 11 (.str [117, 110, 105, 115, 111, 110] :: .tup xs :: r), .ins 11 (.str [117, 110, 105, 115, 111, 110] :: .tup ys :: r')] h = some (.bl (allOf [true, allOf bs]), h) := fun h => by
    have q : m_Paper_eq (m_are_alike 12) [.ins 11 (.str [117, 110, 105, 115, 111, 110] :: .tup xs :: r), .ins 11 (.str [117, 110, 105, 115, 111, 110] :: .tup ys :: r')] h = fin ((lret (lcall (m_are_alike 12) (acons (lc (.tup [.str [117, 110, 105, 115, 111, 110], .tup xs])) (acons (lc (.tup [.str [117, 110, 105, 115, 111, 110], .tup ys])) anil)))) [some (.ins 11 (.str [117, 110, 105, 115, 111, 110] :: .tup xs :: r)), some (.ins 11 (.str [117, 110, 105, 115, 111, 110] :: .tup ys :: r'))] ([] :: h)) := by kernel_rfl
    rw [q]
    simp only [lret, lcall, acons, anil, lc, Res.bind, Res.s, ofO, e2, fin, retV, below]
  have e4 : opNeY alls (tab_A (m_are_alike 12)) h (.ins 11 (.str [117, 110, 105, 115, 111, 110] :: .tup xs :: r)) (.ins 11 (.str [117, 110, 105, 115, 111, 110] :: .tup ys :: r')) = negB true (m_Paper_eq (m_are_alike 12) [.ins 11 (.str [117, 110, 105, 115, 111, 110] :: .tup xs :: r), .ins 11 (.str [117, 110, 105, 115, 111, 110] :: .tup ys :: r')] h) := by kernel_rfl
  rw [e4, e3]
  cases q : allOf bs <;> simp [negB, allOf, q]
end Gk47

namespace Gk47
open PySem PySem.Spec PyProof.Rows L2 Li
def TALK : Li.Val := .ins 2 [(.tup [(.str [111, 110, 101]), (.str [116, 119, 111]), (.str [97, 108, 108])]), (.tup [(.str [97, 108, 108])]), (.tup [(.str [97, 108, 108])]), (.tup [(.tup [(.str [104, 97, 118, 101]), .non, (.str [111, 110, 101]), (.str [98, 101, 97, 116]), (.str [116, 119, 111]), (.str [103, 105, 118, 101])]), (.tup [(.str [104, 97, 118, 101]), (.bl true), (.str [116, 119, 111]), (.str [98, 101, 97, 116]), (.str [111, 110, 101]), (.str [97, 108, 108])]), (.tup [(.str [104, 97, 118, 101]), (.bl false), (.str [116, 119, 111]), (.str [98, 101, 97, 116]), (.str [111, 110, 101]), .non]), (.tup [(.str [104, 97, 118, 101]), .non, .non, (.str [97, 108, 108]), (.str [97, 108, 108]), .non]), (.tup [(.str [104, 97, 118, 101]), (.bl true), (.str [97, 108, 108]), (.str [98, 101, 97, 116]), .non, (.str [97, 108, 108])]), (.tup [(.str [103, 111, 110, 101]), .non, .non, (.str [98, 101, 97, 116]), .non, (.str [97, 108, 108])])])]
def LINK : Li.Val := .ins 3 [TALK, TALK]
def EVEN : Li.Val := .ins 5 [(.tup [(.str [97, 110, 110]), (.str [98, 111, 98])]), .tup [.tup [(.str [97, 110, 110]), (.str [98, 111, 98]), LINK]], .dct false [(.str [97, 110, 110]), (.str [98, 111, 98])] [(.tup [(.str [98, 111, 98])]), (.tup [(.str [97, 110, 110])])], .dct true [(.tup [(.str [97, 110, 110]), (.str [98, 111, 98])]), (.tup [(.str [98, 111, 98]), (.str [97, 110, 110])])] [LINK, LINK], (.tup [(.tup [(.str [97, 110, 110]), (.str [98, 111, 98])]), (.tup [(.str [98, 111, 98]), (.str [97, 110, 110])])]), .bl true]
def UNI : Li.Val := .ins 11 [(.str [117, 110, 105, 115, 111, 110]), (.tup [(.int (0)), (.tup [])]), .int 0, .tup []]
def EAR : Li.Val := .ins 4 [(.str [101, 97, 114, 108, 121]), (.tup [(.tup []), (.tup [(.int (1))])]), .tup [], (.tup [(.int (1))])]
def SM : List Li.Val := [.non, (.bl true), (.int (0)), (.int (-7)), (.int (1000000000000000000000000000000000000000000000000000000000003)), (.str [119, 111, 114, 100]), (.str []), (.tup []), (.tup [(.str [97]), (.int (1))]), (.tup [(.tup [(.str [98])]), .non]), (.dct false [(.str [107])] [(.tup [(.int (1)), (.int (2))])]), EVEN, UNI, EAR]
theorem veqd_refl_str (s : List Nat) : veqd (.str s) (.str s) = true := by
  show natsEq s s = true
  induction s with
  | nil => rfl
  | cons x s ih => simp [natsEq, ih]
abbrev LKS : Li.Val := .tup [.tup [(.str [97, 110, 110]), (.str [98, 111, 98]), LINK]]
theorem own_link (h : LHeap) : ownEq alls tab_L h LINK LINK = true := by
  have e : opOwnC alls tab_L false h LINK LINK = some (.bl true, h) := by kernel_rfl
  simp only [ownEq, e, heapSame_refl]
theorem links_eq (h : LHeap) : opEqX alls tab_L h LKS LKS = some (.bl true, h) := by
  have e : opEqX alls tab_L h LKS LKS = (match teq alls tab_L 8 h LKS LKS with
    | true => some (.bl true, h)
    | false => none) := by kernel_rfl
  have e2 : teq alls tab_L 8 h LKS LKS = teqs (teq alls tab_L 7 h) [.tup [(.str [97, 110, 110]), (.str [98, 111, 98]), LINK]] [.tup [(.str [97, 110, 110]), (.str [98, 111, 98]), LINK]] := by kernel_rfl
  have e3 : teq alls tab_L 7 h (.tup [(.str [97, 110, 110]), (.str [98, 111, 98]), LINK]) (.tup [(.str [97, 110, 110]), (.str [98, 111, 98]), LINK]) = teqs (teq alls tab_L 6 h) [(.str [97, 110, 110]), (.str [98, 111, 98]), LINK] [(.str [97, 110, 110]), (.str [98, 111, 98]), LINK] := by kernel_rfl
  have e4 : ∀ s, teq alls tab_L 6 h (.str s) (.str s) = (match veqd (.str s) (.str s) with
    | true => true
    | false => ownEq alls tab_L h (.str s) (.str s)) := fun s => by kernel_rfl
  have e5 : teq alls tab_L 6 h LINK LINK = ownEq alls tab_L h LINK LINK := by kernel_rfl
  have e6 : ∀ s, veqd (.str s) (.str s) = true := fun s => veqd_refl_str s
  rw [e, e2]
  simp only [teqs, e3, e4, e5, e6, own_link]
theorem net_eq (h : LHeap) : m_Net_eq [EVEN, EVEN] h = some (.bl true, h) := by
  have e1 : lcall (fIsi alls isis) (acons (lvar 1) (acons (lc (.cls 5)) anil)) [some EVEN, some EVEN] ([] :: h) = .ok (.bl true) ([] :: h) := by kernel_rfl
  have e2 : lop (opEqX alls tab_L) (lfld [(5, 0)] (lvar 0)) (lfld [(5, 0)] (lvar 1)) [some EVEN, some EVEN] ([] :: h) = .ok (.bl true) ([] :: h) := by kernel_rfl
  have e3 : lop (opEqX alls tab_L) (lfld [(5, 1)] (lvar 0)) (lfld [(5, 1)] (lvar 1)) [some EVEN, some EVEN] ([] :: h) = ofO (opEqX alls tab_L ([] :: h) LKS LKS) := by kernel_rfl
  have e4 : m_Net_eq [EVEN, EVEN] h = fin (b_Net_eq [some EVEN, some EVEN] ([] :: h)) := by kernel_rfl
  rw [e4]
  simp only [b_Net_eq, lret, land, e1, e2, e3, links_eq, ofO, Res.bind, Res.s, fin, retV, below]
theorem even_alk (h : LHeap) : m_are_alike 10 [EVEN, EVEN] h = some (.bl true, h) := by
  have e1 : m_are_alike 10 [EVEN, EVEN] h = fin (lret (lcall fBool (acons (lop (opEqX alls (tab_A (m_are_alike 9))) (lvar 0) (lvar 1)) anil)) [some EVEN, some EVEN, none, none] ([] :: h)) := by kernel_rfl
  have e2 : opEqX alls (tab_A (m_are_alike 9)) ([] :: h) EVEN EVEN = negB false (m_Net_eq [EVEN, EVEN] ([] :: h)) := by kernel_rfl
  rw [e1]
  simp only [lret, lcall, lop, acons, anil, lvar, Res.bind, Res.s, ofO, List.getElem?_cons_zero, List.getElem?_cons_succ, e2, net_eq, negB, fBool, fin, retV, below, Bool.false_xor]
theorem good0 : Good .non := ⟨fun h => by kernel_rfl, fun D => by kernel_rfl, fun n os D => by kernel_rfl, fun h => by kernel_rfl⟩
theorem good1 : Good (.bl true) := ⟨fun h => by kernel_rfl, fun D => by kernel_rfl, fun n os D => by kernel_rfl, fun h => by kernel_rfl⟩
theorem good2 : Good (.int (0)) := ⟨fun h => by kernel_rfl, fun D => by kernel_rfl, fun n os D => by kernel_rfl, fun h => by kernel_rfl⟩
theorem good3 : Good (.int (-7)) := ⟨fun h => by kernel_rfl, fun D => by kernel_rfl, fun n os D => by kernel_rfl, fun h => by kernel_rfl⟩
theorem good4 : Good (.int (1000000000000000000000000000000000000000000000000000000000003)) := ⟨fun h => by kernel_rfl, fun D => by kernel_rfl, fun n os D => by kernel_rfl, fun h => by kernel_rfl⟩
theorem good5 : Good (.str [119, 111, 114, 100]) := ⟨fun h => by kernel_rfl, fun D => by kernel_rfl, fun n os D => by kernel_rfl, fun h => by kernel_rfl⟩
theorem good6 : Good (.str []) := ⟨fun h => by kernel_rfl, fun D => by kernel_rfl, fun n os D => by kernel_rfl, fun h => by kernel_rfl⟩
theorem good7 : Good (.tup []) := ⟨fun h => by kernel_rfl, fun D => by kernel_rfl, fun n os D => by kernel_rfl, fun h => by kernel_rfl⟩
theorem good8 : Good (.tup [(.str [97]), (.int (1))]) := ⟨fun h => by kernel_rfl, fun D => by kernel_rfl, fun n os D => by kernel_rfl, fun h => by kernel_rfl⟩
theorem good9 : Good (.tup [(.tup [(.str [98])]), .non]) := ⟨fun h => by kernel_rfl, fun D => by kernel_rfl, fun n os D => by kernel_rfl, fun h => by kernel_rfl⟩
theorem good10 : Good (.dct false [(.str [107])] [(.tup [(.int (1)), (.int (2))])]) := ⟨fun h => by kernel_rfl, fun D => by kernel_rfl, fun n os D => by kernel_rfl, fun h => by kernel_rfl⟩
theorem good11 : Good EVEN := ⟨fun h => by kernel_rfl, fun D => by kernel_rfl, fun n os D => by kernel_rfl, even_alk⟩
theorem good12 : Good UNI := ⟨fun h => by kernel_rfl, fun D => by kernel_rfl, fun n os D => by kernel_rfl, fun h => by kernel_rfl⟩
theorem good13 : Good EAR := ⟨fun h => by kernel_rfl, fun D => by kernel_rfl, fun n os D => by kernel_rfl, fun h => by kernel_rfl⟩
theorem good14 : Good (.int (1)) := ⟨fun h => by kernel_rfl, fun D => by kernel_rfl, fun n os D => by kernel_rfl, fun h => by kernel_rfl⟩
theorem good15 : Good (.bl false) := ⟨fun h => by kernel_rfl, fun D => by kernel_rfl, fun n os D => by kernel_rfl, fun h => by kernel_rfl⟩
theorem good_SM : ∀ x ∈ SM, Good x := by
  intro x hx
  simp only [SM, List.mem_cons, List.not_mem_nil, or_false] at hx
  rcases hx with rfl | rfl | rfl | rfl | rfl | rfl | rfl | rfl | rfl | rfl | rfl | rfl | rfl | rfl
  · exact good0
  · exact good1
  · exact good2
  · exact good3
  · exact good4
  · exact good5
  · exact good6
  · exact good7
  · exact good8
  · exact good9
  · exact good10
  · exact good11
  · exact good12
  · exact good13
theorem cross0 (h : LHeap) : (List.range 14).map (fun i => (List.range 14).map fun j => cond (Nat.beq i 11 && Nat.beq j 11) none (m_are_alike 10 [SM.getD i .non, SM.getD j .non] h)) = (List.range 14).map (fun i => (List.range 14).map fun j => cond (Nat.beq i 11 && Nat.beq j 11) none (some (.bl (Nat.beq i j), h))) := by kernel_rfl
theorem cross {i j : Nat} (hi : i < 14) (hj : j < 14) (h : LHeap) : m_are_alike 10 [SM.getD i .non, SM.getD j .non] h = some (.bl (Nat.beq i j), h) := by
  have e := List.map_inj_left.mp (cross0 h) i (List.mem_range.mpr hi)
  have e := List.map_inj_left.mp e j (List.mem_range.mpr hj)
  by_cases q : i = 11 ∧ j = 11
  · rw [q.1, q.2]; exact even_alk h
  · have : (Nat.beq i 11 && Nat.beq j 11) = false := by
      cases hh : (Nat.beq i 11 && Nat.beq j 11) with
      | false => rfl
      | true => simp at hh; exact absurd hh q
    rw [this] at e
    exact e
end Gk47

namespace Gk47
open PySem PySem.Spec PyProof.Rows L2 Li
def ls0 (ns : List Int) : LS := (lset 1 (lcallM (m_law_pen ns) (acons (lvar 0) anil)))
def ls1 (ns : List Int) : LS := (lset 2 (lmkF 5 6 m_Net_init (acons (llst (acons (lc (.str [97, 110, 110])) (acons (lc (.str [98, 111, 98])) anil))) (acons (llst (acons (ltup (acons (lc (.str [97, 110, 110])) (acons (lc (.str [98, 111, 98])) (acons (lmkF 3 2 m_Link_init (acons (lcall m_plain_talk anil) (acons (lcall m_plain_talk anil) anil))) anil)))) anil)) anil))))
def ls2 (ns : List Int) : LS := (lset 3 (llst (acons (lc .non) (acons (lc (.bl true)) (acons (lc (.int 0)) (acons (lneg (lc (.int 7))) (acons (lop opAdd (lop (opI fPow) (lc (.int 10)) (lc (.int 60))) (lc (.int 3))) (acons (lc (.str [119, 111, 114, 100])) (acons (lc (.str [])) (acons (ltup anil) (acons (ltup (acons (lc (.str [97])) (acons (lc (.int 1)) anil))) (acons (ltup (acons (ltup (acons (lc (.str [98])) anil)) (acons (lc .non) anil))) (acons (ldisp false (((lc (.str [107])) , (ltup (acons (lc (.int 1)) (acons (lc (.int 2)) anil)))) :: [])) (acons (lvar 2) (acons (lmkF 11 4 m_Unison_init (acons (lc (.int 0)) (acons (ltup anil) anil))) (acons (lmkF 4 4 m_Early_init (acons (ltup anil) (acons (ltup (acons (lc (.int 1)) anil)) anil))) anil))))))))))))))))
def ls4 (ns : List Int) : LS := (lpar3 10 11 12 (acons (lmkK 8 3 1 [0] m_Done_init (acons (llst (acons (llst (acons (lc (.int 1)) anil)) anil)) anil)) (acons (lmkK 9 6 4 [3, 2, 1, 0] m_Blamed_init (acons (llst (acons (lc (.int 4)) anil)) (acons (lc (.int 3)) (acons (lc (.int 2)) (acons (llst (acons (lc (.int 1)) anil)) anil))))) (acons (lmkK 10 5 3 [2, 1, 0] m_Blocked_init (acons (llst (acons (lc (.int 3)) anil)) (acons (lc (.int 2)) (acons (llst (acons (lc (.int 1)) anil)) anil)))) anil))))
def ls5 (ns : List Int) : LS := (lifS (tor (lb2t (lop (opNeY alls (tab_A (m_are_alike 12))) (ltup (acons (lfld [(0, 0), (1, 0), (4, 0), (6, 0), (7, 0), (8, 0), (9, 0), (10, 0), (11, 0)] (lvar 10)) (acons (lcall (fBoolO tab_B) (acons (lvar 10) anil)) (acons (lfld [(8, 2), (11, 3)] (lvar 10)) (acons (lfld [(0, 0), (1, 0), (4, 0), (6, 0), (7, 0), (8, 0), (9, 0), (10, 0), (11, 0)] (lmkF 7 2 m_Idle_init anil)) (acons (lcall (fBoolO tab_B) (acons (lmkF 7 2 m_Idle_init anil) anil)) (acons (lfld [(0, 1), (1, 1), (4, 1), (6, 1), (7, 1), (8, 1), (9, 1), (10, 1), (11, 1)] (lmkF 7 2 m_Idle_init anil)) anil))))))) (ltup (acons (lc (.str [100, 111, 110, 101])) (acons (lc (.bl true)) (acons (ltup (acons (ltup (acons (lc (.int 1)) anil)) anil)) (acons (lc (.str [105, 100, 108, 101])) (acons (lc (.bl true)) (acons (ltup anil) anil))))))))) (tor (lb2t (lop (opNeY alls (tab_A (m_are_alike 12))) (lmkF 7 2 m_Idle_init anil) (lmkF 7 2 m_Idle_init anil))) (lb2t (lop (opEqX alls (tab_A (m_are_alike 12))) (lmkF 7 2 m_Idle_init anil) (lmkF 0 2 m_Paper_init (acons (lc (.str [105, 100, 108, 101])) anil)))))) (lret (lc (.bl false))) lnil)
def ls6 (ns : List Int) : LS := (lifS (lb2t (lop (opNeY alls (tab_A (m_are_alike 12))) (ltup (acons (lfld [(0, 0), (1, 0), (4, 0), (6, 0), (7, 0), (8, 0), (9, 0), (10, 0), (11, 0)] (lvar 11)) (acons (lcall (fBoolO tab_B) (acons (lvar 11) anil)) (acons (lfld [(0, 1), (1, 1), (4, 1), (6, 1), (7, 1), (8, 1), (9, 1), (10, 1), (11, 1)] (lvar 11)) (acons (lfld [(0, 0), (1, 0), (4, 0), (6, 0), (7, 0), (8, 0), (9, 0), (10, 0), (11, 0)] (lvar 12)) (acons (lcall (fBoolO tab_B) (acons (lvar 12) anil)) (acons (lfld [(0, 1), (1, 1), (4, 1), (6, 1), (7, 1), (8, 1), (9, 1), (10, 1), (11, 1)] (lvar 12)) anil))))))) (ltup (acons (lc (.str [98, 108, 97, 109, 101, 100])) (acons (lc (.bl false)) (acons (ltup (acons (ltup (acons (lc (.int 1)) anil)) (acons (lc (.int 2)) (acons (lc (.int 3)) (acons (ltup (acons (lc (.int 4)) anil)) anil))))) (acons (lc (.str [98, 108, 111, 99, 107, 101, 100])) (acons (lc (.bl false)) (acons (ltup (acons (ltup (acons (lc (.int 1)) anil)) (acons (lc (.int 2)) (acons (ltup (acons (lc (.int 3)) anil)) anil)))) anil))))))))) (lret (lc (.bl false))) lnil)
def ls7 (ns : List Int) : LS := (lifS (tor (lb2t (lop (opNeY alls (tab_A (m_are_alike 12))) (ltup (acons (lfld [(9, 2)] (lvar 11)) (acons (lfld [(6, 6), (9, 3), (10, 2)] (lvar 11)) (acons (lfld [(6, 7), (9, 4), (10, 3)] (lvar 11)) (acons (lfld [(9, 5), (10, 4)] (lvar 11)) (acons (lfld [(6, 6), (9, 3), (10, 2)] (lvar 12)) (acons (lfld [(6, 7), (9, 4), (10, 3)] (lvar 12)) (acons (lfld [(9, 5), (10, 4)] (lvar 12)) anil)))))))) (ltup (acons (ltup (acons (lc (.int 1)) anil)) (acons (lc (.int 2)) (acons (lc (.int 3)) (acons (ltup (acons (lc (.int 4)) anil)) (acons (ltup (acons (lc (.int 1)) anil)) (acons (lc (.int 2)) (acons (ltup (acons (lc (.int 3)) anil)) anil)))))))))) (lb2t (lop (opEqX alls (tab_A (m_are_alike 12))) (lmkF 8 3 m_Done_init (acons (lc (.int 1)) anil)) (lmkF 8 3 m_Done_init (acons (lc (.bl true)) anil))))) (lret (lc (.bl false))) lnil)
def ls8 (ns : List Int) : LS := (lret (land (lop (opEqX alls (tab_A (m_are_alike 12))) (lmkF 6 8 m_Stage_init (acons (llst (acons (lc (.int 1)) anil)) (acons (lc (.int 2)) (acons (lc (.int 3)) (acons (lc (.int 4)) (acons (lc (.int 5)) (acons (lc (.int 6)) anil))))))) (lmkF 6 8 m_Stage_init (acons (ltup (acons (lc (.int 1)) anil)) (acons (lc (.int 2)) (acons (lc (.int 3)) (acons (lc (.int 4)) (acons (lc (.int 5)) (acons (lc (.int 6)) anil)))))))) (land (lop (opEqX alls (tab_A (m_are_alike 12))) (lmkF 11 4 m_Unison_init (acons (llst anil) (acons (llst (acons (llst (acons (lc (.int 1)) anil)) anil)) anil))) (lmkF 11 4 m_Unison_init (acons (ltup anil) (acons (ltup (acons (ltup (acons (lc (.int 1)) anil)) anil)) anil)))) (lop (opNeY alls (tab_A (m_are_alike 12))) (lmkF 6 8 m_Stage_init (acons (lc (.int 0)) (acons (lc (.int 1)) (acons (lc (.int 2)) (acons (lc (.int 3)) (acons (lc (.int 4)) (acons (lc (.int 5)) anil))))))) (lmkF 6 8 m_Stage_init (acons (lc (.int 0)) (acons (lc (.int 1)) (acons (lc (.int 2)) (acons (lc (.int 3)) (acons (lc (.int 4)) (acons (lc (.int 6)) anil)))))))))))
def bs0 : LS := (lasg (lcF (lrng1 (acons (lc (.int 6)) anil)) [21] (gname 21) lyes (lcall m_law_pick (acons (lvar 1) (acons (lvar 3) anil)))) (gseqN 6 (gcons (gname 13) (gcons (gname 14) (gcons (gname 15) (gcons (gname 16) (gcons (gname 17) (gcons (gname 18) gnil))))))))
def bs1 : LS := (lpar 19 20 (acons (lmkF 6 8 m_Stage_init (acons (lvar 13) (acons (lvar 14) (acons (lvar 15) (acons (lvar 16) (acons (lvar 17) (acons (lvar 18) anil))))))) (acons (lmkF 11 4 m_Unison_init (acons (lvar 13) (acons (lvar 14) anil))) anil)))
def bs2 : LS := (lifS (tor (lb2t (lop (opNeY alls (tab_A (m_are_alike 12))) (ltup (acons (lfld [(0, 0), (1, 0), (4, 0), (6, 0), (7, 0), (8, 0), (9, 0), (10, 0), (11, 0)] (lvar 19)) (acons (lfld [(0, 0), (1, 0), (4, 0), (6, 0), (7, 0), (8, 0), (9, 0), (10, 0), (11, 0)] (lvar 20)) (acons (lcall (fBoolO tab_B) (acons (lvar 19) anil)) (acons (lcall (fBoolO tab_B) (acons (lvar 20) anil)) anil))))) (ltup (acons (lc (.str [115, 116, 97, 103, 101])) (acons (lc (.str [117, 110, 105, 115, 111, 110])) (acons (lc (.bl false)) (acons (lc (.bl true)) anil))))))) (tor (tnot (lb2t (lcall (fIsi alls isis) (acons (lvar 19) (acons (lc (.cls 1)) anil))))) (tor (lb2t (lcall (fIsi alls isis) (acons (lvar 20) (acons (lc (.cls 1)) anil)))) (tnot (lb2t (lcall (fIsi alls isis) (acons (lvar 19) (acons (lc (.cls 0)) anil)))))))) (lret (lc (.bl false))) lnil)
def bs3 : LS := (lset 5 (llst (acons (lfld [(6, 2)] (lvar 19)) (acons (lfld [(6, 3)] (lvar 19)) (acons (lfld [(4, 3), (6, 4)] (lvar 19)) (acons (lfld [(6, 5)] (lvar 19)) (acons (lfld [(6, 6), (9, 3), (10, 2)] (lvar 19)) (acons (lfld [(6, 7), (9, 4), (10, 3)] (lvar 19)) (acons (lfld [(11, 2)] (lvar 20)) (acons (lfld [(8, 2), (11, 3)] (lvar 20)) anil))))))))))
def bs4 : LS := (lifS (tor (lb2t (lop (opNeY alls (tab_A (m_are_alike 12))) (lcF (lzip (acons (lvar 5) (acons (llst (acons (lvar 13) (acons (lvar 14) (acons (lvar 15) (acons (lvar 16) (acons (lvar 17) (acons (lvar 18) (acons (lvar 13) (acons (lvar 14) anil))))))))) anil))) [22, 23] (gtupN 2 (gcons (gname 22) (gcons (gname 23) gnil))) (lb2t (lop (opNeY alls (tab_A (m_are_alike 12))) (lmkF 0 2 m_Paper_init (acons (lc (.str [120])) (acons (lvar 22) anil))) (lmkF 0 2 m_Paper_init (acons (lc (.str [120])) (acons (lvar 23) anil))))) (lc (.int 1))) (llst anil))) (tor (lb2t (lop (opNeY alls (tab_A (m_are_alike 12))) (lcall fLen (acons (lfld [(0, 1), (1, 1), (4, 1), (6, 1), (7, 1), (8, 1), (9, 1), (10, 1), (11, 1)] (lvar 19)) anil)) (lc (.int 6)))) (lb2t (lop (opNeY alls (tab_A (m_are_alike 12))) (lcall fLen (acons (lfld [(0, 1), (1, 1), (4, 1), (6, 1), (7, 1), (8, 1), (9, 1), (10, 1), (11, 1)] (lvar 20)) anil)) (lc (.int 2)))))) (lret (lc (.bl false))) lnil)
def bs5 : LS := (lifS (tor (lb2t (lop (opNeY alls (tab_A (m_are_alike 12))) (lvar 19) (lmkK 6 8 6 [5, 4, 3, 2, 1, 0] m_Stage_init (acons (lvar 18) (acons (lvar 17) (acons (lvar 16) (acons (lvar 15) (acons (lvar 14) (acons (lvar 13) anil))))))))) (tor (lb2t (lop (opNeY alls (tab_A (m_are_alike 12))) (lvar 20) (lmkK 11 4 2 [1, 0] m_Unison_init (acons (lvar 14) (acons (lvar 13) anil))))) (tor (lb2t (lop (opEqX alls (tab_A (m_are_alike 12))) (lvar 19) (lvar 20))) (lb2t (lop (opEqX alls (tab_A (m_are_alike 12))) (lvar 19) (lfld [(0, 1), (1, 1), (4, 1), (6, 1), (7, 1), (8, 1), (9, 1), (10, 1), (11, 1)] (lvar 19))))))) (lret (lc (.bl false))) lnil)
def bs6 : LS := (lset 6 (lcall m_law_pick (acons (lvar 1) (acons (lvar 3) anil))))
def bs7 : LS := (lifS (tor (lb2t (lop (opNeY alls (tab_A (m_are_alike 12))) (lop (opEqX alls (tab_A (m_are_alike 12))) (lmkF 6 8 m_Stage_init (acons (lvar 13) (acons (lvar 14) (acons (lvar 6) (acons (lvar 16) (acons (lvar 17) (acons (lvar 18) anil))))))) (lvar 19)) (lop (opEqX alls (tab_A (m_are_alike 12))) (lmkF 0 2 m_Paper_init (acons (lc (.str [120])) (acons (lvar 6) anil))) (lmkF 0 2 m_Paper_init (acons (lc (.str [120])) (acons (lvar 15) anil)))))) (lb2t (lop (opNeY alls (tab_A (m_are_alike 12))) (lop (opEqX alls (tab_A (m_are_alike 12))) (lmkF 11 4 m_Unison_init (acons (lvar 13) (acons (lvar 6) anil))) (lvar 20)) (lop (opEqX alls (tab_A (m_are_alike 12))) (lmkF 0 2 m_Paper_init (acons (lc (.str [120])) (acons (lvar 6) anil))) (lmkF 0 2 m_Paper_init (acons (lc (.str [120])) (acons (lvar 14) anil))))))) (lret (lc (.bl false))) lnil)
def bs8 : LS := (lifS (tor (lb2t (lop (opEqX alls (tab_A (m_are_alike 12))) (lvar 19) (lmkF 1 2 m_Paper_init (acons (lc (.str [115, 116, 97, 103, 101])) (acons (lvar 13) (acons (lvar 14) (acons (lvar 15) (acons (lvar 16) (acons (lvar 17) (acons (lvar 18) anil)))))))))) (tor (lb2t (lop (opEqX alls (tab_A (m_are_alike 12))) (lvar 20) (lmkF 0 2 m_Paper_init (acons (lc (.str [117, 110, 105, 115, 111, 110])) (acons (lvar 13) (acons (lvar 14) anil)))))) (tor (lb2t (lop (opEqX alls (tab_A (m_are_alike 12))) (lmkF 11 4 m_Unison_init (acons (lc (.int 1)) (acons (lvar 13) anil))) (lmkF 11 4 m_Unison_init (acons (lc (.bl true)) (acons (lvar 13) anil))))) (lb2t (lop (opEqX alls (tab_A (m_are_alike 12))) (lmkF 11 4 m_Unison_init (acons (lc (.int 0)) (acons (lvar 13) anil))) (lmkF 11 4 m_Unison_init (acons (lc (.bl false)) (acons (lvar 13) anil)))))))) (lret (lc (.bl false))) lnil)
def bs9 : LS := (lset 7 (llstH (acons (lc (.int 1)) (acons (llstH (acons (lc (.int 2)) (acons (llst (acons (lc (.int 3)) anil)) anil))) (acons (llst (acons (llst (acons (lc (.int 4)) anil)) anil)) anil)))))
def bs10 : LS := (lset 8 (llst (acons (lmkF 6 8 m_Stage_init (acons (lvar 7) (acons (lc (.int 1)) (acons (lvar 7) (acons (llst (acons (lvar 7) anil)) (acons (lc (.int 2)) (acons (lc (.int 3)) anil))))))) (acons (lmkF 11 4 m_Unison_init (acons (llst (acons (lvar 7) anil)) (acons (lvar 7) anil))) anil))))
def bs11 : LS := (lexpr (lmb isL fApp (lop opIx (lvar 7) (lc (.int 1))) (acons (lc (.int 5)) anil)))
def bs12 : LS := (lexpr (lmb isL fApp (lvar 7) (acons (lc (.int 6)) anil)))
def bs13 : LS := (lset 9 (ltup (acons (lc (.int 1)) (acons (ltup (acons (lc (.int 2)) (acons (ltup (acons (lc (.int 3)) anil)) anil))) (acons (ltup (acons (ltup (acons (lc (.int 4)) anil)) anil)) anil)))))
def bs14 : LS := (lifS (tor (lb2t (lop (opNeY alls (tab_A (m_are_alike 12))) (lfld [(0, 1), (1, 1), (4, 1), (6, 1), (7, 1), (8, 1), (9, 1), (10, 1), (11, 1)] (lop opIx (lvar 8) (lc (.int 0)))) (ltup (acons (lvar 9) (acons (lc (.int 1)) (acons (lvar 9) (acons (ltup (acons (lvar 9) anil)) (acons (lc (.int 2)) (acons (lc (.int 3)) anil))))))))) (lb2t (lop (opNeY alls (tab_A (m_are_alike 12))) (lfld [(0, 1), (1, 1), (4, 1), (6, 1), (7, 1), (8, 1), (9, 1), (10, 1), (11, 1)] (lop opIx (lvar 8) (lc (.int 1)))) (ltup (acons (ltup (acons (lvar 9) anil)) (acons (lvar 9) anil)))))) (lret (lc (.bl false))) lnil)
def lbody : LS := (lseq bs0 (lseq bs1 (lseq bs2 (lseq bs3 (lseq bs4 (lseq bs5 (lseq bs6 (lseq bs7 (lseq bs8 (lseq bs9 (lseq bs10 (lseq bs11 (lseq bs12 (lseq bs13 bs14))))))))))))))
def ls3 (ns : List Int) : LS := lfor (lrng1 (acons (lc (.int 8)) anil)) (gname 4) lbody
theorem law_split (ns : List Int) : b_law ns = (lseq (ls0 ns) (lseq (ls1 ns) (lseq (ls2 ns) (lseq (ls3 ns) (lseq (ls4 ns) (lseq (ls5 ns) (lseq (ls6 ns) (lseq (ls7 ns) (ls8 ns))))))))) := rfl
theorem r_bs1 {o4 o5 o6 o7 o8 o9 o10 o11 o12 o19 o20 o21 o22 o23 : Option Li.Val} {a b c d e f : Li.Val} (ga : Good a) (gb : Good b) (gc : Good c) (gd : Good d) (ge : Good e) (gf : Good f) (F : List LObj) : bs1 [(some (.ty 999)), (some (.obj 0 0)), (some EVEN), (some (.lst SM)), o4, o5, o6, o7, o8, o9, o10, o11, o12, (some a), (some b), (some c), (some d), (some e), (some f), o19, o20, o21, o22, o23] [F] = .nx [(some (.ty 999)), (some (.obj 0 0)), (some EVEN), (some (.lst SM)), o4, o5, o6, o7, o8, o9, o10, o11, o12, (some a), (some b), (some c), (some d), (some e), (some f), (some (.ins 6 [.str [115, 116, 97, 103, 101], .tup [a, b, c, d, e, f], a, b, c, d, e, f])), (some (.ins 11 [.str [117, 110, 105, 115, 111, 110], .tup [a, b], a, b])), o21, o22, o23] [F] := by
  simp only [lfnS, lseq, SRes.then, lsuper, env0S, lfnStar, lfn, env0, lsetF, lcall, acons, anil, lvar, lc, lop, Res.bind, Res.s, ofO, fix_str, setF, lk1, lk2, lk3, st1, st2, st3, List.length_cons, List.length_nil, List.replicate, List.map_cons, List.map_nil, List.cons_append, List.nil_append, List.append_nil, List.getElem?_cons_zero, List.getElem?_cons_succ, isC, List.set_cons_zero, List.set_cons_succ, List.lookup, below, belows, fin, retV, lasg, gseqN, gtupN, gcons, gnil, gfld, lfld, getF, gname, seqOf, Nat.reduceAdd, Nat.reduceSub, Nat.reduceBEq, List.take, List.drop, Nat.ble, blt11, blt12, Nat.reduceEqDiff, if_true, if_false, fz_obj, fz_str, fz_tup, allS, mapO, Option.map_some, lmkF, lmkK, permL, List.filterMap_cons, List.filterMap_nil, lifS, lb2t, tor, tnot, lret, lnil, lset, lpar, lexpr, ltup, llst, lcF, lim0, lim1, lim2, lim3, lim4, lim5, lim6, lim7, lim8, lim9, lim10, lim11, lim12, lim13, lim14, bs1, mk_Stage ga gb gc gd ge gf, mk_Unison ga gb]
theorem r_bs2 {o4 o5 o6 o7 o8 o9 o10 o11 o12 o21 o22 o23 : Option Li.Val} {a b c d e f : Li.Val} (ga : Good a) (gb : Good b) (gc : Good c) (gd : Good d) (ge : Good e) (gf : Good f) (F : List LObj) : bs2 [(some (.ty 999)), (some (.obj 0 0)), (some EVEN), (some (.lst SM)), o4, o5, o6, o7, o8, o9, o10, o11, o12, (some a), (some b), (some c), (some d), (some e), (some f), (some (.ins 6 [.str [115, 116, 97, 103, 101], .tup [a, b, c, d, e, f], a, b, c, d, e, f])), (some (.ins 11 [.str [117, 110, 105, 115, 111, 110], .tup [a, b], a, b])), o21, o22, o23] [F] = .nx [(some (.ty 999)), (some (.obj 0 0)), (some EVEN), (some (.lst SM)), o4, o5, o6, o7, o8, o9, o10, o11, o12, (some a), (some b), (some c), (some d), (some e), (some f), (some (.ins 6 [.str [115, 116, 97, 103, 101], .tup [a, b, c, d, e, f], a, b, c, d, e, f])), (some (.ins 11 [.str [117, 110, 105, 115, 111, 110], .tup [a, b], a, b])), o21, o22, o23] [F] := by kernel_rfl
theorem r_bs3 {o4 o5 o6 o7 o8 o9 o10 o11 o12 o21 o22 o23 : Option Li.Val} {a b c d e f : Li.Val} (ga : Good a) (gb : Good b) (gc : Good c) (gd : Good d) (ge : Good e) (gf : Good f) (F : List LObj) : bs3 [(some (.ty 999)), (some (.obj 0 0)), (some EVEN), (some (.lst SM)), o4, o5, o6, o7, o8, o9, o10, o11, o12, (some a), (some b), (some c), (some d), (some e), (some f), (some (.ins 6 [.str [115, 116, 97, 103, 101], .tup [a, b, c, d, e, f], a, b, c, d, e, f])), (some (.ins 11 [.str [117, 110, 105, 115, 111, 110], .tup [a, b], a, b])), o21, o22, o23] [F] = .nx [(some (.ty 999)), (some (.obj 0 0)), (some EVEN), (some (.lst SM)), o4, (some (.lst [a, b, c, d, e, f, a, b])), o6, o7, o8, o9, o10, o11, o12, (some a), (some b), (some c), (some d), (some e), (some f), (some (.ins 6 [.str [115, 116, 97, 103, 101], .tup [a, b, c, d, e, f], a, b, c, d, e, f])), (some (.ins 11 [.str [117, 110, 105, 115, 111, 110], .tup [a, b], a, b])), o21, o22, o23] [F] := by kernel_rfl
theorem r_bs4 {o4 o6 o7 o8 o9 o10 o11 o12 o21 o22 o23 : Option Li.Val} {a b c d e f : Li.Val} (ga : Good a) (gb : Good b) (gc : Good c) (gd : Good d) (ge : Good e) (gf : Good f) (F : List LObj) : bs4 [(some (.ty 999)), (some (.obj 0 0)), (some EVEN), (some (.lst SM)), o4, (some (.lst [a, b, c, d, e, f, a, b])), o6, o7, o8, o9, o10, o11, o12, (some a), (some b), (some c), (some d), (some e), (some f), (some (.ins 6 [.str [115, 116, 97, 103, 101], .tup [a, b, c, d, e, f], a, b, c, d, e, f])), (some (.ins 11 [.str [117, 110, 105, 115, 111, 110], .tup [a, b], a, b])), o21, o22, o23] [F] = .nx [(some (.ty 999)), (some (.obj 0 0)), (some EVEN), (some (.lst SM)), o4, (some (.lst [a, b, c, d, e, f, a, b])), o6, o7, o8, o9, o10, o11, o12, (some a), (some b), (some c), (some d), (some e), (some f), (some (.ins 6 [.str [115, 116, 97, 103, 101], .tup [a, b, c, d, e, f], a, b, c, d, e, f])), (some (.ins 11 [.str [117, 110, 105, 115, 111, 110], .tup [a, b], a, b])), o21, o22, o23] [F] := by
  have na : ∀ h, opNeY alls (tab_A (m_are_alike 12)) h (.ins 0 [.str [120], .tup [a]]) (.ins 0 [.str [120], .tup [a]]) = some (.bl false, h) := fun h => opNeY_0 (.cons ga.alk .nil) rfl h
  have nb : ∀ h, opNeY alls (tab_A (m_are_alike 12)) h (.ins 0 [.str [120], .tup [b]]) (.ins 0 [.str [120], .tup [b]]) = some (.bl false, h) := fun h => opNeY_0 (.cons gb.alk .nil) rfl h
  have nc : ∀ h, opNeY alls (tab_A (m_are_alike 12)) h (.ins 0 [.str [120], .tup [c]]) (.ins 0 [.str [120], .tup [c]]) = some (.bl false, h) := fun h => opNeY_0 (.cons gc.alk .nil) rfl h
  have nd : ∀ h, opNeY alls (tab_A (m_are_alike 12)) h (.ins 0 [.str [120], .tup [d]]) (.ins 0 [.str [120], .tup [d]]) = some (.bl false, h) := fun h => opNeY_0 (.cons gd.alk .nil) rfl h
  have ne : ∀ h, opNeY alls (tab_A (m_are_alike 12)) h (.ins 0 [.str [120], .tup [e]]) (.ins 0 [.str [120], .tup [e]]) = some (.bl false, h) := fun h => opNeY_0 (.cons ge.alk .nil) rfl h
  have nf : ∀ h, opNeY alls (tab_A (m_are_alike 12)) h (.ins 0 [.str [120], .tup [f]]) (.ins 0 [.str [120], .tup [f]]) = some (.bl false, h) := fun h => opNeY_0 (.cons gf.alk .nil) rfl h
  have nn : ∀ h, opNeY alls (tab_A (m_are_alike 12)) h (.lst []) (.lst []) = some (.bl false, h) := fun h => by kernel_rfl
  have c0 : (lb2t (lop (opNeY alls (tab_A (m_are_alike 12))) (lcF (lzip (acons (lvar 5) (acons (llst (acons (lvar 13) (acons (lvar 14) (acons (lvar 15) (acons (lvar 16) (acons (lvar 17) (acons (lvar 18) (acons (lvar 13) (acons (lvar 14) anil))))))))) anil))) [22, 23] (gtupN 2 (gcons (gname 22) (gcons (gname 23) gnil))) (lb2t (lop (opNeY alls (tab_A (m_are_alike 12))) (lmkF 0 2 m_Paper_init (acons (lc (.str [120])) (acons (lvar 22) anil))) (lmkF 0 2 m_Paper_init (acons (lc (.str [120])) (acons (lvar 23) anil))))) (lc (.int 1))) (llst anil))) [(some (.ty 999)), (some (.obj 0 0)), (some EVEN), (some (.lst SM)), o4, (some (.lst [a, b, c, d, e, f, a, b])), o6, o7, o8, o9, o10, o11, o12, (some a), (some b), (some c), (some d), (some e), (some f), (some (.ins 6 [.str [115, 116, 97, 103, 101], .tup [a, b, c, d, e, f], a, b, c, d, e, f])), (some (.ins 11 [.str [117, 110, 105, 115, 111, 110], .tup [a, b], a, b])), o21, o22, o23] [F] = .ok false [F] := by
    simp only [lfnS, lseq, SRes.then, lsuper, env0S, lfnStar, lfn, env0, lsetF, lcall, acons, anil, lvar, lc, lop, Res.bind, Res.s, ofO, fix_str, setF, lk1, lk2, lk3, st1, st2, st3, List.length_cons, List.length_nil, List.replicate, List.map_cons, List.map_nil, List.cons_append, List.nil_append, List.append_nil, List.getElem?_cons_zero, List.getElem?_cons_succ, isC, List.set_cons_zero, List.set_cons_succ, List.lookup, below, belows, fin, retV, lasg, gseqN, gtupN, gcons, gnil, gfld, lfld, getF, gname, seqOf, Nat.reduceAdd, Nat.reduceSub, Nat.reduceBEq, List.take, List.drop, Nat.ble, blt11, blt12, Nat.reduceEqDiff, if_true, if_false, fz_obj, fz_str, fz_tup, allS, mapO, Option.map_some, lmkF, lmkK, permL, List.filterMap_cons, List.filterMap_nil, lifS, lb2t, tor, tnot, lret, lnil, lset, lpar, lexpr, ltup, llst, lcF, lim0, lim1, lim2, lim3, lim4, lim5, lim6, lim7, lim8, lim9, lim10, lim11, lim12, lim13, lim14, lzip, zipV, compS, compV, wipeE, List.set, mk_X ga, na, mk_X gb, nb, mk_X gc, nc, mk_X gd, nd, mk_X ge, ne, mk_X gf, nf, nn]
  have c1 : (lb2t (lop (opNeY alls (tab_A (m_are_alike 12))) (lcall fLen (acons (lfld [(0, 1), (1, 1), (4, 1), (6, 1), (7, 1), (8, 1), (9, 1), (10, 1), (11, 1)] (lvar 19)) anil)) (lc (.int 6)))) [(some (.ty 999)), (some (.obj 0 0)), (some EVEN), (some (.lst SM)), o4, (some (.lst [a, b, c, d, e, f, a, b])), o6, o7, o8, o9, o10, o11, o12, (some a), (some b), (some c), (some d), (some e), (some f), (some (.ins 6 [.str [115, 116, 97, 103, 101], .tup [a, b, c, d, e, f], a, b, c, d, e, f])), (some (.ins 11 [.str [117, 110, 105, 115, 111, 110], .tup [a, b], a, b])), o21, o22, o23] [F] = .ok false [F] := by
    kernel_rfl
  have c2 : (lb2t (lop (opNeY alls (tab_A (m_are_alike 12))) (lcall fLen (acons (lfld [(0, 1), (1, 1), (4, 1), (6, 1), (7, 1), (8, 1), (9, 1), (10, 1), (11, 1)] (lvar 20)) anil)) (lc (.int 2)))) [(some (.ty 999)), (some (.obj 0 0)), (some EVEN), (some (.lst SM)), o4, (some (.lst [a, b, c, d, e, f, a, b])), o6, o7, o8, o9, o10, o11, o12, (some a), (some b), (some c), (some d), (some e), (some f), (some (.ins 6 [.str [115, 116, 97, 103, 101], .tup [a, b, c, d, e, f], a, b, c, d, e, f])), (some (.ins 11 [.str [117, 110, 105, 115, 111, 110], .tup [a, b], a, b])), o21, o22, o23] [F] = .ok false [F] := by
    kernel_rfl
  simp only [bs4, lifS, tor, lnil, Res.bind, Res.s, c0, c1, c2]
theorem r_bs5 {o4 o6 o7 o8 o9 o10 o11 o12 o21 o22 o23 : Option Li.Val} {a b c d e f : Li.Val} (ga : Good a) (gb : Good b) (gc : Good c) (gd : Good d) (ge : Good e) (gf : Good f) (F : List LObj) : bs5 [(some (.ty 999)), (some (.obj 0 0)), (some EVEN), (some (.lst SM)), o4, (some (.lst [a, b, c, d, e, f, a, b])), o6, o7, o8, o9, o10, o11, o12, (some a), (some b), (some c), (some d), (some e), (some f), (some (.ins 6 [.str [115, 116, 97, 103, 101], .tup [a, b, c, d, e, f], a, b, c, d, e, f])), (some (.ins 11 [.str [117, 110, 105, 115, 111, 110], .tup [a, b], a, b])), o21, o22, o23] [F] = .nx [(some (.ty 999)), (some (.obj 0 0)), (some EVEN), (some (.lst SM)), o4, (some (.lst [a, b, c, d, e, f, a, b])), o6, o7, o8, o9, o10, o11, o12, (some a), (some b), (some c), (some d), (some e), (some f), (some (.ins 6 [.str [115, 116, 97, 103, 101], .tup [a, b, c, d, e, f], a, b, c, d, e, f])), (some (.ins 11 [.str [117, 110, 105, 115, 111, 110], .tup [a, b], a, b])), o21, o22, o23] [F] := by
  have ns : ∀ h, opNeY alls (tab_A (m_are_alike 12)) h (.ins 6 [.str [115, 116, 97, 103, 101], .tup [a, b, c, d, e, f], a, b, c, d, e, f]) (.ins 6 [.str [115, 116, 97, 103, 101], .tup [a, b, c, d, e, f], a, b, c, d, e, f]) = some (.bl false, h) := fun h => opNeY_6 (.cons ga.alk (.cons gb.alk (.cons gc.alk (.cons gd.alk (.cons ge.alk (.cons gf.alk .nil)))))) rfl h
  have nu : ∀ h, opNeY alls (tab_A (m_are_alike 12)) h (.ins 11 [.str [117, 110, 105, 115, 111, 110], .tup [a, b], a, b]) (.ins 11 [.str [117, 110, 105, 115, 111, 110], .tup [a, b], a, b]) = some (.bl false, h) := fun h => opNeY_11 (.cons ga.alk (.cons gb.alk .nil)) rfl h
  have c0 : (lb2t (lop (opNeY alls (tab_A (m_are_alike 12))) (lvar 19) (lmkK 6 8 6 [5, 4, 3, 2, 1, 0] m_Stage_init (acons (lvar 18) (acons (lvar 17) (acons (lvar 16) (acons (lvar 15) (acons (lvar 14) (acons (lvar 13) anil))))))))) [(some (.ty 999)), (some (.obj 0 0)), (some EVEN), (some (.lst SM)), o4, (some (.lst [a, b, c, d, e, f, a, b])), o6, o7, o8, o9, o10, o11, o12, (some a), (some b), (some c), (some d), (some e), (some f), (some (.ins 6 [.str [115, 116, 97, 103, 101], .tup [a, b, c, d, e, f], a, b, c, d, e, f])), (some (.ins 11 [.str [117, 110, 105, 115, 111, 110], .tup [a, b], a, b])), o21, o22, o23] [F] = .ok false [F] := by
    simp only [lfnS, lseq, SRes.then, lsuper, env0S, lfnStar, lfn, env0, lsetF, lcall, acons, anil, lvar, lc, lop, Res.bind, Res.s, ofO, fix_str, setF, lk1, lk2, lk3, st1, st2, st3, List.length_cons, List.length_nil, List.replicate, List.map_cons, List.map_nil, List.cons_append, List.nil_append, List.append_nil, List.getElem?_cons_zero, List.getElem?_cons_succ, isC, List.set_cons_zero, List.set_cons_succ, List.lookup, below, belows, fin, retV, lasg, gseqN, gtupN, gcons, gnil, gfld, lfld, getF, gname, seqOf, Nat.reduceAdd, Nat.reduceSub, Nat.reduceBEq, List.take, List.drop, Nat.ble, blt11, blt12, Nat.reduceEqDiff, if_true, if_false, fz_obj, fz_str, fz_tup, allS, mapO, Option.map_some, lmkF, lmkK, permL, List.filterMap_cons, List.filterMap_nil, lifS, lb2t, tor, tnot, lret, lnil, lset, lpar, lexpr, ltup, llst, lcF, lim0, lim1, lim2, lim3, lim4, lim5, lim6, lim7, lim8, lim9, lim10, lim11, lim12, lim13, lim14, mk_Stage ga gb gc gd ge gf, ns]
  have c1 : (lb2t (lop (opNeY alls (tab_A (m_are_alike 12))) (lvar 20) (lmkK 11 4 2 [1, 0] m_Unison_init (acons (lvar 14) (acons (lvar 13) anil))))) [(some (.ty 999)), (some (.obj 0 0)), (some EVEN), (some (.lst SM)), o4, (some (.lst [a, b, c, d, e, f, a, b])), o6, o7, o8, o9, o10, o11, o12, (some a), (some b), (some c), (some d), (some e), (some f), (some (.ins 6 [.str [115, 116, 97, 103, 101], .tup [a, b, c, d, e, f], a, b, c, d, e, f])), (some (.ins 11 [.str [117, 110, 105, 115, 111, 110], .tup [a, b], a, b])), o21, o22, o23] [F] = .ok false [F] := by
    simp only [lfnS, lseq, SRes.then, lsuper, env0S, lfnStar, lfn, env0, lsetF, lcall, acons, anil, lvar, lc, lop, Res.bind, Res.s, ofO, fix_str, setF, lk1, lk2, lk3, st1, st2, st3, List.length_cons, List.length_nil, List.replicate, List.map_cons, List.map_nil, List.cons_append, List.nil_append, List.append_nil, List.getElem?_cons_zero, List.getElem?_cons_succ, isC, List.set_cons_zero, List.set_cons_succ, List.lookup, below, belows, fin, retV, lasg, gseqN, gtupN, gcons, gnil, gfld, lfld, getF, gname, seqOf, Nat.reduceAdd, Nat.reduceSub, Nat.reduceBEq, List.take, List.drop, Nat.ble, blt11, blt12, Nat.reduceEqDiff, if_true, if_false, fz_obj, fz_str, fz_tup, allS, mapO, Option.map_some, lmkF, lmkK, permL, List.filterMap_cons, List.filterMap_nil, lifS, lb2t, tor, tnot, lret, lnil, lset, lpar, lexpr, ltup, llst, lcF, lim0, lim1, lim2, lim3, lim4, lim5, lim6, lim7, lim8, lim9, lim10, lim11, lim12, lim13, lim14, mk_Unison ga gb, nu]
  have c2 : (lb2t (lop (opEqX alls (tab_A (m_are_alike 12))) (lvar 19) (lvar 20))) [(some (.ty 999)), (some (.obj 0 0)), (some EVEN), (some (.lst SM)), o4, (some (.lst [a, b, c, d, e, f, a, b])), o6, o7, o8, o9, o10, o11, o12, (some a), (some b), (some c), (some d), (some e), (some f), (some (.ins 6 [.str [115, 116, 97, 103, 101], .tup [a, b, c, d, e, f], a, b, c, d, e, f])), (some (.ins 11 [.str [117, 110, 105, 115, 111, 110], .tup [a, b], a, b])), o21, o22, o23] [F] = .ok false [F] := by
    kernel_rfl
  have c3 : (lb2t (lop (opEqX alls (tab_A (m_are_alike 12))) (lvar 19) (lfld [(0, 1), (1, 1), (4, 1), (6, 1), (7, 1), (8, 1), (9, 1), (10, 1), (11, 1)] (lvar 19)))) [(some (.ty 999)), (some (.obj 0 0)), (some EVEN), (some (.lst SM)), o4, (some (.lst [a, b, c, d, e, f, a, b])), o6, o7, o8, o9, o10, o11, o12, (some a), (some b), (some c), (some d), (some e), (some f), (some (.ins 6 [.str [115, 116, 97, 103, 101], .tup [a, b, c, d, e, f], a, b, c, d, e, f])), (some (.ins 11 [.str [117, 110, 105, 115, 111, 110], .tup [a, b], a, b])), o21, o22, o23] [F] = .ok false [F] := by
    kernel_rfl
  simp only [bs5, lifS, tor, lnil, Res.bind, Res.s, c0, c1, c2, c3]
theorem r_bs7 {o4 o7 o8 o9 o10 o11 o12 o21 o22 o23 : Option Li.Val} {a b c d e f p : Li.Val} {x y : Bool} (ga : Good a) (gb : Good b) (gc : Good c) (gd : Good d) (ge : Good e) (gf : Good f) (gp : Good p) (hc : ∀ h, m_are_alike 10 [p, c] h = some (.bl x, h)) (hb : ∀ h, m_are_alike 10 [p, b] h = some (.bl y, h)) (F : List LObj) : bs7 [(some (.ty 999)), (some (.obj 0 0)), (some EVEN), (some (.lst SM)), o4, (some (.lst [a, b, c, d, e, f, a, b])), (some p), o7, o8, o9, o10, o11, o12, (some a), (some b), (some c), (some d), (some e), (some f), (some (.ins 6 [.str [115, 116, 97, 103, 101], .tup [a, b, c, d, e, f], a, b, c, d, e, f])), (some (.ins 11 [.str [117, 110, 105, 115, 111, 110], .tup [a, b], a, b])), o21, o22, o23] [F] = .nx [(some (.ty 999)), (some (.obj 0 0)), (some EVEN), (some (.lst SM)), o4, (some (.lst [a, b, c, d, e, f, a, b])), (some p), o7, o8, o9, o10, o11, o12, (some a), (some b), (some c), (some d), (some e), (some f), (some (.ins 6 [.str [115, 116, 97, 103, 101], .tup [a, b, c, d, e, f], a, b, c, d, e, f])), (some (.ins 11 [.str [117, 110, 105, 115, 111, 110], .tup [a, b], a, b])), o21, o22, o23] [F] := by
  have es : ∀ h, opEqX alls (tab_A (m_are_alike 12)) h (.ins 6 [.str [115, 116, 97, 103, 101], .tup [a, b, p, d, e, f], a, b, p, d, e, f]) (.ins 6 [.str [115, 116, 97, 103, 101], .tup [a, b, c, d, e, f], a, b, c, d, e, f]) = some (.bl x, h) := fun h => (opEqX_6 (bs := [true, true, x, true, true, true]) (.cons ga.alk (.cons gb.alk (.cons hc (.cons gd.alk (.cons ge.alk (.cons gf.alk .nil)))))) rfl h).trans (by cases x <;> rfl)
  have ex : ∀ h, opEqX alls (tab_A (m_are_alike 12)) h (.ins 0 [.str [120], .tup [p]]) (.ins 0 [.str [120], .tup [c]]) = some (.bl x, h) := fun h => (opEqX_0 (bs := [x]) (.cons hc .nil) rfl h).trans (by cases x <;> rfl)
  have eu : ∀ h, opEqX alls (tab_A (m_are_alike 12)) h (.ins 11 [.str [117, 110, 105, 115, 111, 110], .tup [a, p], a, p]) (.ins 11 [.str [117, 110, 105, 115, 111, 110], .tup [a, b], a, b]) = some (.bl y, h) := fun h => (opEqX_11 (bs := [true, y]) (.cons ga.alk (.cons hb .nil)) rfl h).trans (by cases y <;> rfl)
  have ey : ∀ h, opEqX alls (tab_A (m_are_alike 12)) h (.ins 0 [.str [120], .tup [p]]) (.ins 0 [.str [120], .tup [b]]) = some (.bl y, h) := fun h => (opEqX_0 (bs := [y]) (.cons hb .nil) rfl h).trans (by cases y <;> rfl)
  have nb : ∀ (k : Bool) (h : LHeap), opNeY alls (tab_A (m_are_alike 12)) h (.bl k) (.bl k) = some (.bl false, h) := fun k h => by cases k <;> kernel_rfl
  have c0 : (lb2t (lop (opNeY alls (tab_A (m_are_alike 12))) (lop (opEqX alls (tab_A (m_are_alike 12))) (lmkF 6 8 m_Stage_init (acons (lvar 13) (acons (lvar 14) (acons (lvar 6) (acons (lvar 16) (acons (lvar 17) (acons (lvar 18) anil))))))) (lvar 19)) (lop (opEqX alls (tab_A (m_are_alike 12))) (lmkF 0 2 m_Paper_init (acons (lc (.str [120])) (acons (lvar 6) anil))) (lmkF 0 2 m_Paper_init (acons (lc (.str [120])) (acons (lvar 15) anil)))))) [(some (.ty 999)), (some (.obj 0 0)), (some EVEN), (some (.lst SM)), o4, (some (.lst [a, b, c, d, e, f, a, b])), (some p), o7, o8, o9, o10, o11, o12, (some a), (some b), (some c), (some d), (some e), (some f), (some (.ins 6 [.str [115, 116, 97, 103, 101], .tup [a, b, c, d, e, f], a, b, c, d, e, f])), (some (.ins 11 [.str [117, 110, 105, 115, 111, 110], .tup [a, b], a, b])), o21, o22, o23] [F] = .ok false [F] := by
    simp only [lfnS, lseq, SRes.then, lsuper, env0S, lfnStar, lfn, env0, lsetF, lcall, acons, anil, lvar, lc, lop, Res.bind, Res.s, ofO, fix_str, setF, lk1, lk2, lk3, st1, st2, st3, List.length_cons, List.length_nil, List.replicate, List.map_cons, List.map_nil, List.cons_append, List.nil_append, List.append_nil, List.getElem?_cons_zero, List.getElem?_cons_succ, isC, List.set_cons_zero, List.set_cons_succ, List.lookup, below, belows, fin, retV, lasg, gseqN, gtupN, gcons, gnil, gfld, lfld, getF, gname, seqOf, Nat.reduceAdd, Nat.reduceSub, Nat.reduceBEq, List.take, List.drop, Nat.ble, blt11, blt12, Nat.reduceEqDiff, if_true, if_false, fz_obj, fz_str, fz_tup, allS, mapO, Option.map_some, lmkF, lmkK, permL, List.filterMap_cons, List.filterMap_nil, lifS, lb2t, tor, tnot, lret, lnil, lset, lpar, lexpr, ltup, llst, lcF, lim0, lim1, lim2, lim3, lim4, lim5, lim6, lim7, lim8, lim9, lim10, lim11, lim12, lim13, lim14, mk_Stage ga gb gp gd ge gf, es, mk_X gp, mk_X gc, ex, nb]
  have c1 : (lb2t (lop (opNeY alls (tab_A (m_are_alike 12))) (lop (opEqX alls (tab_A (m_are_alike 12))) (lmkF 11 4 m_Unison_init (acons (lvar 13) (acons (lvar 6) anil))) (lvar 20)) (lop (opEqX alls (tab_A (m_are_alike 12))) (lmkF 0 2 m_Paper_init (acons (lc (.str [120])) (acons (lvar 6) anil))) (lmkF 0 2 m_Paper_init (acons (lc (.str [120])) (acons (lvar 14) anil)))))) [(some (.ty 999)), (some (.obj 0 0)), (some EVEN), (some (.lst SM)), o4, (some (.lst [a, b, c, d, e, f, a, b])), (some p), o7, o8, o9, o10, o11, o12, (some a), (some b), (some c), (some d), (some e), (some f), (some (.ins 6 [.str [115, 116, 97, 103, 101], .tup [a, b, c, d, e, f], a, b, c, d, e, f])), (some (.ins 11 [.str [117, 110, 105, 115, 111, 110], .tup [a, b], a, b])), o21, o22, o23] [F] = .ok false [F] := by
    simp only [lfnS, lseq, SRes.then, lsuper, env0S, lfnStar, lfn, env0, lsetF, lcall, acons, anil, lvar, lc, lop, Res.bind, Res.s, ofO, fix_str, setF, lk1, lk2, lk3, st1, st2, st3, List.length_cons, List.length_nil, List.replicate, List.map_cons, List.map_nil, List.cons_append, List.nil_append, List.append_nil, List.getElem?_cons_zero, List.getElem?_cons_succ, isC, List.set_cons_zero, List.set_cons_succ, List.lookup, below, belows, fin, retV, lasg, gseqN, gtupN, gcons, gnil, gfld, lfld, getF, gname, seqOf, Nat.reduceAdd, Nat.reduceSub, Nat.reduceBEq, List.take, List.drop, Nat.ble, blt11, blt12, Nat.reduceEqDiff, if_true, if_false, fz_obj, fz_str, fz_tup, allS, mapO, Option.map_some, lmkF, lmkK, permL, List.filterMap_cons, List.filterMap_nil, lifS, lb2t, tor, tnot, lret, lnil, lset, lpar, lexpr, ltup, llst, lcF, lim0, lim1, lim2, lim3, lim4, lim5, lim6, lim7, lim8, lim9, lim10, lim11, lim12, lim13, lim14, mk_Unison ga gp, mk_X gp, mk_X gb, eu, ey, nb]
  simp only [bs7, lifS, tor, lnil, Res.bind, Res.s, c0, c1]
theorem r_bs8 {o4 o7 o8 o9 o10 o11 o12 o21 o22 o23 : Option Li.Val} {a b c d e f p : Li.Val} (ga : Good a) (gb : Good b) (gc : Good c) (gd : Good d) (ge : Good e) (gf : Good f) (gp : Good p) (F : List LObj) : bs8 [(some (.ty 999)), (some (.obj 0 0)), (some EVEN), (some (.lst SM)), o4, (some (.lst [a, b, c, d, e, f, a, b])), (some p), o7, o8, o9, o10, o11, o12, (some a), (some b), (some c), (some d), (some e), (some f), (some (.ins 6 [.str [115, 116, 97, 103, 101], .tup [a, b, c, d, e, f], a, b, c, d, e, f])), (some (.ins 11 [.str [117, 110, 105, 115, 111, 110], .tup [a, b], a, b])), o21, o22, o23] [F] = .nx [(some (.ty 999)), (some (.obj 0 0)), (some EVEN), (some (.lst SM)), o4, (some (.lst [a, b, c, d, e, f, a, b])), (some p), o7, o8, o9, o10, o11, o12, (some a), (some b), (some c), (some d), (some e), (some f), (some (.ins 6 [.str [115, 116, 97, 103, 101], .tup [a, b, c, d, e, f], a, b, c, d, e, f])), (some (.ins 11 [.str [117, 110, 105, 115, 111, 110], .tup [a, b], a, b])), o21, o22, o23] [F] := by
  have es : ∀ h, opEqX alls (tab_A (m_are_alike 12)) h (.ins 6 [.str [115, 116, 97, 103, 101], .tup [a, b, c, d, e, f], a, b, c, d, e, f]) (.ins 1 [.str [115, 116, 97, 103, 101], .tup [a, b, c, d, e, f]]) = some (.bl false, h) := fun h => by kernel_rfl
  have eu : ∀ h, opEqX alls (tab_A (m_are_alike 12)) h (.ins 11 [.str [117, 110, 105, 115, 111, 110], .tup [a, b], a, b]) (.ins 0 [.str [117, 110, 105, 115, 111, 110], .tup [a, b]]) = some (.bl false, h) := fun h => by kernel_rfl
  have ae1 : ∀ h, m_are_alike 10 [(.int (1)), (.bl true)] h = some (.bl false, h) := fun h => by kernel_rfl
  have e1 : ∀ h, opEqX alls (tab_A (m_are_alike 12)) h (.ins 11 [.str [117, 110, 105, 115, 111, 110], .tup [(.int (1)), a], (.int (1)), a]) (.ins 11 [.str [117, 110, 105, 115, 111, 110], .tup [(.bl true), a], (.bl true), a]) = some (.bl false, h) := fun h => (opEqX_11 (bs := [false, true]) (.cons ae1 (.cons ga.alk .nil)) rfl h)
  have ae0 : ∀ h, m_are_alike 10 [(.int (0)), (.bl false)] h = some (.bl false, h) := fun h => by kernel_rfl
  have e0 : ∀ h, opEqX alls (tab_A (m_are_alike 12)) h (.ins 11 [.str [117, 110, 105, 115, 111, 110], .tup [(.int (0)), a], (.int (0)), a]) (.ins 11 [.str [117, 110, 105, 115, 111, 110], .tup [(.bl false), a], (.bl false), a]) = some (.bl false, h) := fun h => (opEqX_11 (bs := [false, true]) (.cons ae0 (.cons ga.alk .nil)) rfl h)
  have c0 : (lb2t (lop (opEqX alls (tab_A (m_are_alike 12))) (lvar 19) (lmkF 1 2 m_Paper_init (acons (lc (.str [115, 116, 97, 103, 101])) (acons (lvar 13) (acons (lvar 14) (acons (lvar 15) (acons (lvar 16) (acons (lvar 17) (acons (lvar 18) anil)))))))))) [(some (.ty 999)), (some (.obj 0 0)), (some EVEN), (some (.lst SM)), o4, (some (.lst [a, b, c, d, e, f, a, b])), (some p), o7, o8, o9, o10, o11, o12, (some a), (some b), (some c), (some d), (some e), (some f), (some (.ins 6 [.str [115, 116, 97, 103, 101], .tup [a, b, c, d, e, f], a, b, c, d, e, f])), (some (.ins 11 [.str [117, 110, 105, 115, 111, 110], .tup [a, b], a, b])), o21, o22, o23] [F] = .ok false [F] := by
    simp only [lfnS, lseq, SRes.then, lsuper, env0S, lfnStar, lfn, env0, lsetF, lcall, acons, anil, lvar, lc, lop, Res.bind, Res.s, ofO, fix_str, setF, lk1, lk2, lk3, st1, st2, st3, List.length_cons, List.length_nil, List.replicate, List.map_cons, List.map_nil, List.cons_append, List.nil_append, List.append_nil, List.getElem?_cons_zero, List.getElem?_cons_succ, isC, List.set_cons_zero, List.set_cons_succ, List.lookup, below, belows, fin, retV, lasg, gseqN, gtupN, gcons, gnil, gfld, lfld, getF, gname, seqOf, Nat.reduceAdd, Nat.reduceSub, Nat.reduceBEq, List.take, List.drop, Nat.ble, blt11, blt12, Nat.reduceEqDiff, if_true, if_false, fz_obj, fz_str, fz_tup, allS, mapO, Option.map_some, lmkF, lmkK, permL, List.filterMap_cons, List.filterMap_nil, lifS, lb2t, tor, tnot, lret, lnil, lset, lpar, lexpr, ltup, llst, lcF, lim0, lim1, lim2, lim3, lim4, lim5, lim6, lim7, lim8, lim9, lim10, lim11, lim12, lim13, lim14, mk_Den ga gb gc gd ge gf, es]
  have c1 : (lb2t (lop (opEqX alls (tab_A (m_are_alike 12))) (lvar 20) (lmkF 0 2 m_Paper_init (acons (lc (.str [117, 110, 105, 115, 111, 110])) (acons (lvar 13) (acons (lvar 14) anil)))))) [(some (.ty 999)), (some (.obj 0 0)), (some EVEN), (some (.lst SM)), o4, (some (.lst [a, b, c, d, e, f, a, b])), (some p), o7, o8, o9, o10, o11, o12, (some a), (some b), (some c), (some d), (some e), (some f), (some (.ins 6 [.str [115, 116, 97, 103, 101], .tup [a, b, c, d, e, f], a, b, c, d, e, f])), (some (.ins 11 [.str [117, 110, 105, 115, 111, 110], .tup [a, b], a, b])), o21, o22, o23] [F] = .ok false [F] := by
    simp only [lfnS, lseq, SRes.then, lsuper, env0S, lfnStar, lfn, env0, lsetF, lcall, acons, anil, lvar, lc, lop, Res.bind, Res.s, ofO, fix_str, setF, lk1, lk2, lk3, st1, st2, st3, List.length_cons, List.length_nil, List.replicate, List.map_cons, List.map_nil, List.cons_append, List.nil_append, List.append_nil, List.getElem?_cons_zero, List.getElem?_cons_succ, isC, List.set_cons_zero, List.set_cons_succ, List.lookup, below, belows, fin, retV, lasg, gseqN, gtupN, gcons, gnil, gfld, lfld, getF, gname, seqOf, Nat.reduceAdd, Nat.reduceSub, Nat.reduceBEq, List.take, List.drop, Nat.ble, blt11, blt12, Nat.reduceEqDiff, if_true, if_false, fz_obj, fz_str, fz_tup, allS, mapO, Option.map_some, lmkF, lmkK, permL, List.filterMap_cons, List.filterMap_nil, lifS, lb2t, tor, tnot, lret, lnil, lset, lpar, lexpr, ltup, llst, lcF, lim0, lim1, lim2, lim3, lim4, lim5, lim6, lim7, lim8, lim9, lim10, lim11, lim12, lim13, lim14, mk_Pap ga gb, eu]
  have c2 : (lb2t (lop (opEqX alls (tab_A (m_are_alike 12))) (lmkF 11 4 m_Unison_init (acons (lc (.int 1)) (acons (lvar 13) anil))) (lmkF 11 4 m_Unison_init (acons (lc (.bl true)) (acons (lvar 13) anil))))) [(some (.ty 999)), (some (.obj 0 0)), (some EVEN), (some (.lst SM)), o4, (some (.lst [a, b, c, d, e, f, a, b])), (some p), o7, o8, o9, o10, o11, o12, (some a), (some b), (some c), (some d), (some e), (some f), (some (.ins 6 [.str [115, 116, 97, 103, 101], .tup [a, b, c, d, e, f], a, b, c, d, e, f])), (some (.ins 11 [.str [117, 110, 105, 115, 111, 110], .tup [a, b], a, b])), o21, o22, o23] [F] = .ok false [F] := by
    simp only [lfnS, lseq, SRes.then, lsuper, env0S, lfnStar, lfn, env0, lsetF, lcall, acons, anil, lvar, lc, lop, Res.bind, Res.s, ofO, fix_str, setF, lk1, lk2, lk3, st1, st2, st3, List.length_cons, List.length_nil, List.replicate, List.map_cons, List.map_nil, List.cons_append, List.nil_append, List.append_nil, List.getElem?_cons_zero, List.getElem?_cons_succ, isC, List.set_cons_zero, List.set_cons_succ, List.lookup, below, belows, fin, retV, lasg, gseqN, gtupN, gcons, gnil, gfld, lfld, getF, gname, seqOf, Nat.reduceAdd, Nat.reduceSub, Nat.reduceBEq, List.take, List.drop, Nat.ble, blt11, blt12, Nat.reduceEqDiff, if_true, if_false, fz_obj, fz_str, fz_tup, allS, mapO, Option.map_some, lmkF, lmkK, permL, List.filterMap_cons, List.filterMap_nil, lifS, lb2t, tor, tnot, lret, lnil, lset, lpar, lexpr, ltup, llst, lcF, lim0, lim1, lim2, lim3, lim4, lim5, lim6, lim7, lim8, lim9, lim10, lim11, lim12, lim13, lim14, mk_Unison good14 ga, mk_Unison good1 ga, e1]
  have c3 : (lb2t (lop (opEqX alls (tab_A (m_are_alike 12))) (lmkF 11 4 m_Unison_init (acons (lc (.int 0)) (acons (lvar 13) anil))) (lmkF 11 4 m_Unison_init (acons (lc (.bl false)) (acons (lvar 13) anil))))) [(some (.ty 999)), (some (.obj 0 0)), (some EVEN), (some (.lst SM)), o4, (some (.lst [a, b, c, d, e, f, a, b])), (some p), o7, o8, o9, o10, o11, o12, (some a), (some b), (some c), (some d), (some e), (some f), (some (.ins 6 [.str [115, 116, 97, 103, 101], .tup [a, b, c, d, e, f], a, b, c, d, e, f])), (some (.ins 11 [.str [117, 110, 105, 115, 111, 110], .tup [a, b], a, b])), o21, o22, o23] [F] = .ok false [F] := by
    simp only [lfnS, lseq, SRes.then, lsuper, env0S, lfnStar, lfn, env0, lsetF, lcall, acons, anil, lvar, lc, lop, Res.bind, Res.s, ofO, fix_str, setF, lk1, lk2, lk3, st1, st2, st3, List.length_cons, List.length_nil, List.replicate, List.map_cons, List.map_nil, List.cons_append, List.nil_append, List.append_nil, List.getElem?_cons_zero, List.getElem?_cons_succ, isC, List.set_cons_zero, List.set_cons_succ, List.lookup, below, belows, fin, retV, lasg, gseqN, gtupN, gcons, gnil, gfld, lfld, getF, gname, seqOf, Nat.reduceAdd, Nat.reduceSub, Nat.reduceBEq, List.take, List.drop, Nat.ble, blt11, blt12, Nat.reduceEqDiff, if_true, if_false, fz_obj, fz_str, fz_tup, allS, mapO, Option.map_some, lmkF, lmkK, permL, List.filterMap_cons, List.filterMap_nil, lifS, lb2t, tor, tnot, lret, lnil, lset, lpar, lexpr, ltup, llst, lcF, lim0, lim1, lim2, lim3, lim4, lim5, lim6, lim7, lim8, lim9, lim10, lim11, lim12, lim13, lim14, mk_Unison good2 ga, mk_Unison good15 ga, e0]
  simp only [bs8, lifS, tor, lnil, Res.bind, Res.s, c0, c1, c2, c3]
end Gk47

namespace Gk47
open PySem PySem.Spec PyProof.Rows L2 Li
def J : Nat → List LObj
  | 0 => []
  | t + 1 => J t ++ [.lst [.int 2, .lst [.int 3], .int 5], .lst [.int 1, .obj 0 (2 * t + 1), .lst [.lst [.int 4]], .int 6]]
abbrev KEPT : Li.Val := (.tup [(.int (1)), (.tup [(.int (2)), (.tup [(.int (3))])]), (.tup [(.tup [(.int (4))])])])
def nxt (s : Int) : Int := (s * 6364136223846793005 + 1442695040888963407) % (2 ^ 64)
theorem mul_lit {s j : Int} (hj : -(2 ^ 64) < j ∧ j < 2 ^ 64) (h : LHeap) : opMul false h (.int s) (.int j) = some (.int (s * j), h) := by
  show (match fMul s j with
    | some n => some (Li.Val.int n, h)
    | none => none) = _
  rw [show fMul s j = some (s * j) from if_pos (.inr hj)]
theorem mul_a (s : Int) (h : LHeap) : opMul false h (.int s) (.int 6364136223846793005) = some (.int (s * 6364136223846793005), h) := mul_lit (by decide) h
theorem mul_b (s : Int) (h : LHeap) : opMul false h (.int s) (.int 1000003) = some (.int (s * 1000003), h) := mul_lit (by decide) h
theorem add_i (i j : Int) (h : LHeap) : opAdd h (.int i) (.int j) = some (.int (i + j), h) := rfl
theorem sub_i (i j : Int) (h : LHeap) : opSub h (.int i) (.int j) = some (.int (i - j), h) := rfl
theorem pow_a (h : LHeap) : opI fPow h (.int 2) (.int 64) = some (.int (2 ^ 64), h) := by kernel_rfl
theorem pow_b (h : LHeap) : opI fPow h (.int 2) (.int 61) = some (.int (2 ^ 61), h) := by kernel_rfl
theorem pow_c (h : LHeap) : opI fPow h (.int 10) (.int 18) = some (.int (10 ^ 18), h) := by kernel_rfl
theorem mod_a (i : Int) (h : LHeap) : opI fMod h (.int i) (.int (2 ^ 64)) = some (.int (i % 2 ^ 64), h) := by kernel_rfl
theorem mod_b (i : Int) (h : LHeap) : opI fMod h (.int i) (.int (2 ^ 61 - 1)) = some (.int (i % (2 ^ 61 - 1)), h) := by kernel_rfl
theorem mod_c (i : Int) (h : LHeap) : opI fMod h (.int i) (.int (10 ^ 18)) = some (.int (i % 10 ^ 18), h) := by kernel_rfl
theorem int_i (i : Int) (h : LHeap) : fInt [.int i] h = some (.int i, h) := rfl
theorem r_draw (s : Int) (F : List LObj) : m_law_draw [.obj 0 0, .int 14] [[], .lst [.int s] :: F] = some (.int (nxt s / 65537 % 14), [[], .lst [.int (nxt s)] :: F]) := by
  have e : m_law_draw [.obj 0 0, .int 14] [[], .lst [.int s] :: F] = fin ((lseq (lasg (lop (opI fMod) (lcall fInt (acons (lop opAdd (lop (opMul false) (lop opIx (lvar 0) (lc (.int 0))) (lc (.int 6364136223846793005))) (lc (.int 1442695040888963407))) anil)) (lop (opI fPow) (lc (.int 2)) (lc (.int 64)))) (gsub (lvar 0) (lc (.int 0))))
  (lret (lop (opI fMod) (lcall fInt (acons (lop (opI fDiv) (lop opIx (lvar 0) (lc (.int 0))) (lc (.int 65537))) anil)) (lvar 1)))) [some (.obj 0 0), some (.int 14)] [[], [], .lst [.int s] :: F]) := by kernel_rfl
  have x : ∀ (v : Int) (G : List LObj), opIx [[], [], .lst [.int v] :: G] (.obj 0 0) (.int 0) = some (.int v, [[], [], .lst [.int v] :: G]) := fun v G => by kernel_rfl
  have y : ∀ (v u : Int) (G : List LObj), setIx [[], [], .lst [.int v] :: G] (.obj 0 0) (.int 0) (.int u) = some [[], [], .lst [.int u] :: G] := fun v u G => by kernel_rfl
  have d : ∀ (i : Int) (h : LHeap), opI fDiv h (.int i) (.int 65537) = some (.int (i / 65537), h) := fun i h => by kernel_rfl
  have m : ∀ (i : Int) (h : LHeap), opI fMod h (.int i) (.int 14) = some (.int (i % 14), h) := fun i h => by kernel_rfl
  rw [e]
  simp only [lseq, SRes.then, lasg, lret, lop, lcall, acons, anil, lvar, lc, gsub, Res.bind, Res.s, ofO, List.getElem?_cons_zero, List.getElem?_cons_succ, x, y, d, m, mul_a, add_i, int_i, pow_a, mod_a, fin, retV, below, nxt]
theorem sm_ix (h : LHeap) : ∀ i : Nat, i < 14 → opIx h (.lst SM) (.int (Int.ofNat i)) = some (SM.getD i .non, h)
  | 0, _ => by kernel_rfl
  | 1, _ => by kernel_rfl
  | 2, _ => by kernel_rfl
  | 3, _ => by kernel_rfl
  | 4, _ => by kernel_rfl
  | 5, _ => by kernel_rfl
  | 6, _ => by kernel_rfl
  | 7, _ => by kernel_rfl
  | 8, _ => by kernel_rfl
  | 9, _ => by kernel_rfl
  | 10, _ => by kernel_rfl
  | 11, _ => by kernel_rfl
  | 12, _ => by kernel_rfl
  | 13, _ => by kernel_rfl
  | n + 14, h => absurd h (by omega)
theorem sm_good : ∀ i : Nat, i < 14 → Good (SM.getD i .non)
  | 0, _ => good0
  | 1, _ => good1
  | 2, _ => good2
  | 3, _ => good3
  | 4, _ => good4
  | 5, _ => good5
  | 6, _ => good6
  | 7, _ => good7
  | 8, _ => good8
  | 9, _ => good9
  | 10, _ => good10
  | 11, _ => good11
  | 12, _ => good12
  | 13, _ => good13
  | n + 14, h => absurd h (by omega)
theorem r_pick (s : Int) (F : List LObj) : ∃ (i : Nat) (s' : Int), i < 14 ∧ m_law_pick [.obj 0 0, .lst SM] [.lst [.int s] :: F] = some (SM.getD i .non, [.lst [.int s'] :: F]) := by
  have h0 := Int.emod_nonneg (nxt s / 65537) (show (14 : Int) ≠ 0 by decide)
  have h1 := Int.emod_lt_of_pos (nxt s / 65537) (show (0 : Int) < 14 by decide)
  obtain ⟨i, hi⟩ := Int.eq_ofNat_of_zero_le h0
  have lt : i < 14 := by omega
  refine ⟨i, nxt s, lt, ?_⟩
  have e : m_law_pick [.obj 0 0, .lst SM] [.lst [.int s] :: F] = fin ((lret (lop opIx (lvar 1) (lcall m_law_draw (acons (lvar 0) (acons (lc (.int 14)) anil))))) [some (.obj 0 0), some (.lst SM)] [[], .lst [.int s] :: F]) := by kernel_rfl
  have hi' : nxt s / 65537 % 14 = Int.ofNat i := hi
  rw [e]
  simp only [lret, lop, lcall, acons, anil, lvar, lc, Res.bind, Res.s, ofO, List.getElem?_cons_zero, List.getElem?_cons_succ, r_draw, hi', sm_ix _ i lt, fin, retV, (sm_good i lt).bel]
theorem r_six (env : Li.Env) (h : LHeap) : lrng1 (acons (lc (.int 6)) anil) env h = .ok (.vals [.int 0, .int 1, .int 2, .int 3, .int 4, .int 5]) h := by kernel_rfl
theorem r_eight (env : Li.Env) (h : LHeap) : lrng1 (acons (lc (.int 8)) anil) env h = .ok (.vals (rngV 0 8)) h := by kernel_rfl
theorem r_bs0 {o4 o5 o6 o7 o8 o9 o10 o11 o12 o13 o14 o15 o16 o17 o18 o19 o20 o21 o22 o23 : Option Li.Val} (s : Int) (F : List LObj) : ∃ i0 i1 i2 i3 i4 i5 : Nat, ∃ s' : Int, i0 < 14 ∧ i1 < 14 ∧ i2 < 14 ∧ i3 < 14 ∧ i4 < 14 ∧ i5 < 14 ∧ bs0 [(some (.ty 999)), (some (.obj 0 0)), (some EVEN), (some (.lst SM)), o4, o5, o6, o7, o8, o9, o10, o11, o12, o13, o14, o15, o16, o17, o18, o19, o20, o21, o22, o23] [.lst [.int s] :: F] = .nx [(some (.ty 999)), (some (.obj 0 0)), (some EVEN), (some (.lst SM)), o4, o5, o6, o7, o8, o9, o10, o11, o12, (some (SM.getD i0 .non)), (some (SM.getD i1 .non)), (some (SM.getD i2 .non)), (some (SM.getD i3 .non)), (some (SM.getD i4 .non)), (some (SM.getD i5 .non)), o19, o20, o21, o22, o23] [.lst [.int s'] :: F] := by
  obtain ⟨i0, s0, l0, e0⟩ := r_pick s F
  obtain ⟨i1, s1, l1, e1⟩ := r_pick s0 F
  obtain ⟨i2, s2, l2, e2⟩ := r_pick s1 F
  obtain ⟨i3, s3, l3, e3⟩ := r_pick s2 F
  obtain ⟨i4, s4, l4, e4⟩ := r_pick s3 F
  obtain ⟨i5, s5, l5, e5⟩ := r_pick s4 F
  refine ⟨i0, i1, i2, i3, i4, i5, s5, l0, l1, l2, l3, l4, l5, ?_⟩
  simp only [lfnS, lseq, SRes.then, lsuper, env0S, lfnStar, lfn, env0, lsetF, lcall, acons, anil, lvar, lc, lop, Res.bind, Res.s, ofO, fix_str, setF, lk1, lk2, lk3, st1, st2, st3, List.length_cons, List.length_nil, List.replicate, List.map_cons, List.map_nil, List.cons_append, List.nil_append, List.append_nil, List.getElem?_cons_zero, List.getElem?_cons_succ, isC, List.set_cons_zero, List.set_cons_succ, List.lookup, below, belows, fin, retV, lasg, gseqN, gtupN, gcons, gnil, gfld, lfld, getF, gname, seqOf, Nat.reduceAdd, Nat.reduceSub, Nat.reduceBEq, List.take, List.drop, Nat.ble, blt11, blt12, Nat.reduceEqDiff, if_true, if_false, fz_obj, fz_str, fz_tup, allS, mapO, Option.map_some, lmkF, lmkK, permL, List.filterMap_cons, List.filterMap_nil, lifS, lb2t, tor, tnot, lret, lnil, lset, lpar, lexpr, ltup, llst, lcF, lim0, lim1, lim2, lim3, lim4, lim5, lim6, lim7, lim8, lim9, lim10, lim11, lim12, lim13, lim14, bs0, r_six, compS, compV, lyes, wipeE, List.set, e0, e1, e2, e3, e4, e5]
theorem r_bs6 {o4 o5 o6 o7 o8 o9 o10 o11 o12 o13 o14 o15 o16 o17 o18 o19 o20 o21 o22 o23 : Option Li.Val} (s : Int) (F : List LObj) : ∃ (i : Nat) (s' : Int), i < 14 ∧ bs6 [(some (.ty 999)), (some (.obj 0 0)), (some EVEN), (some (.lst SM)), o4, o5, o6, o7, o8, o9, o10, o11, o12, o13, o14, o15, o16, o17, o18, o19, o20, o21, o22, o23] [.lst [.int s] :: F] = .nx [(some (.ty 999)), (some (.obj 0 0)), (some EVEN), (some (.lst SM)), o4, o5, (some (SM.getD i .non)), o7, o8, o9, o10, o11, o12, o13, o14, o15, o16, o17, o18, o19, o20, o21, o22, o23] [.lst [.int s'] :: F] := by
  obtain ⟨i, s', l, e⟩ := r_pick s F
  refine ⟨i, s', l, ?_⟩
  simp only [lfnS, lseq, SRes.then, lsuper, env0S, lfnStar, lfn, env0, lsetF, lcall, acons, anil, lvar, lc, lop, Res.bind, Res.s, ofO, fix_str, setF, lk1, lk2, lk3, st1, st2, st3, List.length_cons, List.length_nil, List.replicate, List.map_cons, List.map_nil, List.cons_append, List.nil_append, List.append_nil, List.getElem?_cons_zero, List.getElem?_cons_succ, isC, List.set_cons_zero, List.set_cons_succ, List.lookup, below, belows, fin, retV, lasg, gseqN, gtupN, gcons, gnil, gfld, lfld, getF, gname, seqOf, Nat.reduceAdd, Nat.reduceSub, Nat.reduceBEq, List.take, List.drop, Nat.ble, blt11, blt12, Nat.reduceEqDiff, if_true, if_false, fz_obj, fz_str, fz_tup, allS, mapO, Option.map_some, lmkF, lmkK, permL, List.filterMap_cons, List.filterMap_nil, lifS, lb2t, tor, tnot, lret, lnil, lset, lpar, lexpr, ltup, llst, lcF, lim0, lim1, lim2, lim3, lim4, lim5, lim6, lim7, lim8, lim9, lim10, lim11, lim12, lim13, lim14, bs6, e]
theorem r_tail {o4 o5 o6 o7 o8 o9 o10 o11 o12 o13 o14 o15 o16 o17 o18 o19 o20 o21 o22 o23 : Option Li.Val} (s : Int) : ∀ t : Nat, t < 8 → (lseq bs9 (lseq bs10 (lseq bs11 (lseq bs12 (lseq bs13 bs14))))) [(some (.ty 999)), (some (.obj 0 0)), (some EVEN), (some (.lst SM)), o4, o5, o6, o7, o8, o9, o10, o11, o12, o13, o14, o15, o16, o17, o18, o19, o20, o21, o22, o23] [.lst [.int s] :: J t] = .nx [(some (.ty 999)), (some (.obj 0 0)), (some EVEN), (some (.lst SM)), o4, o5, o6, (some (.obj 0 (2 * t + 2))), (some (.lst [(.ins 6 [.str [115, 116, 97, 103, 101], .tup [KEPT, .int 1, KEPT, .tup [KEPT], .int 2, .int 3], KEPT, .int 1, KEPT, .tup [KEPT], .int 2, .int 3]), (.ins 11 [.str [117, 110, 105, 115, 111, 110], .tup [.tup [KEPT], KEPT], .tup [KEPT], KEPT])])), (some KEPT), o10, o11, o12, o13, o14, o15, o16, o17, o18, o19, o20, o21, o22, o23] [.lst [.int s] :: J (t + 1)]
  | 0, _ => by kernel_rfl
  | 1, _ => by kernel_rfl
  | 2, _ => by kernel_rfl
  | 3, _ => by kernel_rfl
  | 4, _ => by kernel_rfl
  | 5, _ => by kernel_rfl
  | 6, _ => by kernel_rfl
  | 7, _ => by kernel_rfl
  | n + 8, h => absurd h (by omega)
def Inv (t : Nat) (E : Li.Env) (h : LHeap) : Prop := ∃ (s : Int) (o4 o5 o6 o7 o8 o9 o10 o11 o12 o13 o14 o15 o16 o17 o18 o19 o20 o21 o22 o23 : Option Li.Val), E = [(some (.ty 999)), (some (.obj 0 0)), (some EVEN), (some (.lst SM)), o4, o5, o6, o7, o8, o9, o10, o11, o12, o13, o14, o15, o16, o17, o18, o19, o20, o21, o22, o23] ∧ h = [.lst [.int s] :: J t]
theorem seq_nx {a b : LS} {E E1 : Li.Env} {h h1 : LHeap} (e : a E h = .nx E1 h1) : lseq a b E h = b E1 h1 := by
  show (a E h).then b = _
  rw [e]
  rfl
theorem r_body (t : Nat) (ht : t < 8) {E : Li.Env} {h : LHeap} (v : Inv t E h) : ∃ E' h', lbody E h = .nx E' h' ∧ Inv (t + 1) E' h' := by
  obtain ⟨s, o4, o5, o6, o7, o8, o9, o10, o11, o12, o13, o14, o15, o16, o17, o18, o19, o20, o21, o22, o23, rfl, rfl⟩ := v
  obtain ⟨i0, i1, i2, i3, i4, i5, s1, l0, l1, l2, l3, l4, l5, p0⟩ := r_bs0 (s := s) (F := J t) (o4 := o4) (o5 := o5) (o6 := o6) (o7 := o7) (o8 := o8) (o9 := o9) (o10 := o10) (o11 := o11) (o12 := o12) (o13 := o13) (o14 := o14) (o15 := o15) (o16 := o16) (o17 := o17) (o18 := o18) (o19 := o19) (o20 := o20) (o21 := o21) (o22 := o22) (o23 := o23)
  have G0 := sm_good i0 l0
  have G1 := sm_good i1 l1
  have G2 := sm_good i2 l2
  have G3 := sm_good i3 l3
  have G4 := sm_good i4 l4
  have G5 := sm_good i5 l5
  unfold lbody
  rw [seq_nx p0, seq_nx (r_bs1 G0 G1 G2 G3 G4 G5 _), seq_nx (r_bs2 G0 G1 G2 G3 G4 G5 _), seq_nx (r_bs3 G0 G1 G2 G3 G4 G5 _), seq_nx (r_bs4 G0 G1 G2 G3 G4 G5 _), seq_nx (r_bs5 G0 G1 G2 G3 G4 G5 _)]
  obtain ⟨i, s2, l, p6⟩ := r_bs6 (s := s1) (F := J t) (o4 := o4) (o5 := some (.lst [(SM.getD i0 .non), (SM.getD i1 .non), (SM.getD i2 .non), (SM.getD i3 .non), (SM.getD i4 .non), (SM.getD i5 .non), (SM.getD i0 .non), (SM.getD i1 .non)])) (o6 := o6) (o7 := o7) (o8 := o8) (o9 := o9) (o10 := o10) (o11 := o11) (o12 := o12) (o13 := some (SM.getD i0 .non)) (o14 := some (SM.getD i1 .non)) (o15 := some (SM.getD i2 .non)) (o16 := some (SM.getD i3 .non)) (o17 := some (SM.getD i4 .non)) (o18 := some (SM.getD i5 .non)) (o19 := some (.ins 6 [.str [115, 116, 97, 103, 101], .tup [(SM.getD i0 .non), (SM.getD i1 .non), (SM.getD i2 .non), (SM.getD i3 .non), (SM.getD i4 .non), (SM.getD i5 .non)], (SM.getD i0 .non), (SM.getD i1 .non), (SM.getD i2 .non), (SM.getD i3 .non), (SM.getD i4 .non), (SM.getD i5 .non)])) (o20 := some (.ins 11 [.str [117, 110, 105, 115, 111, 110], .tup [(SM.getD i0 .non), (SM.getD i1 .non)], (SM.getD i0 .non), (SM.getD i1 .non)])) (o21 := o21) (o22 := o22) (o23 := o23)
  have GP := sm_good i l
  rw [seq_nx p6, seq_nx (r_bs7 G0 G1 G2 G3 G4 G5 GP (cross l l2) (cross l l1) _), seq_nx (r_bs8 G0 G1 G2 G3 G4 G5 GP _), r_tail s2 t ht]
  exact ⟨_, _, rfl, s2, _, _, _, _, _, _, _, _, _, _, _, _, _, _, _, _, _, _, _, _, rfl, rfl⟩
theorem r_loop : ∀ (k t : Nat) (E : Li.Env) (h : LHeap), t + k = 8 → Inv t E h → ∃ E' h', forV (gname 4) lbody (rngV t k) E h = .nx E' h' ∧ Inv 8 E' h'
  | 0, t, E, h, e, v => by
    have : t = 8 := by omega
    subst this
    exact ⟨E, h, rfl, v⟩
  | k + 1, t, E, h, e, v => by
    have v' : Inv t (E.set 4 (some (.int t))) h := by
      obtain ⟨s, o4, o5, o6, o7, o8, o9, o10, o11, o12, o13, o14, o15, o16, o17, o18, o19, o20, o21, o22, o23, rfl, rfl⟩ := v
      exact ⟨s, _, _, _, _, _, _, _, _, _, _, _, _, _, _, _, _, _, _, _, _, rfl, rfl⟩
    obtain ⟨E1, h1, p, v1⟩ := r_body t (by omega) v'
    obtain ⟨E2, h2, q, v2⟩ := r_loop k (t + 1) E1 h1 (by omega) v1
    refine ⟨E2, h2, ?_, v2⟩
    have c : ((t : Int) + 1) = ((t + 1 : Nat) : Int) := by omega
    simp only [rngV, forV, gname, p, c, q]
def pbody : LS := (lset 1 (lop (opI fMod) (lcall fInt (acons (lop opAdd (lop opAdd (lop (opMul false) (lvar 1) (lc (.int 1000003))) (lop (opI fMod) (lcall fInt (acons (lvar 2) anil)) (lop (opI fPow) (lc (.int 10)) (lc (.int 18))))) (lc (.int 9658))) anil)) (lop opSub (lop (opI fPow) (lc (.int 2)) (lc (.int 61))) (lc (.int 1)))))
theorem pen_split (ns : List Int) : b_law_pen ns = lseq (lset 1 (lc (.int 101490))) (lseq (lfor (lscr ns 0) (gname 2) pbody) (lret (llstH (acons (lvar 1) anil)))) := rfl
theorem r_pb (k c : Int) (h : LHeap) : pbody [some (.ty 999), some (.int k), some (.int c)] h = .nx [some (.ty 999), some (.int ((k * 1000003 + c % 10 ^ 18 + 9658) % (2 ^ 61 - 1))), some (.int c)] h := by
  simp only [pbody, lset, lop, lcall, acons, anil, lvar, lc, Res.bind, Res.s, ofO, List.getElem?_cons_zero, List.getElem?_cons_succ, List.set_cons_zero, List.set_cons_succ, mul_b, add_i, sub_i, int_i, pow_b, pow_c, mod_b, mod_c]
theorem r_pens : ∀ (ns : List Int) (k : Int) (o : Option Li.Val) (h : LHeap), ∃ (k' : Int) (o' : Option Li.Val), forV (gname 2) pbody (scrV ns) [some (.ty 999), some (.int k), o] h = .nx [some (.ty 999), some (.int k'), o'] h
  | [], k, o, h => ⟨k, o, rfl⟩
  | c :: ns, k, o, h => by
    obtain ⟨k', o', e⟩ := r_pens ns ((k * 1000003 + c % 10 ^ 18 + 9658) % (2 ^ 61 - 1)) (some (.int c)) h
    refine ⟨k', o', ?_⟩
    show forV (gname 2) pbody (.int c :: scrV ns) _ h = _
    simp only [forV, gname, List.set_cons_zero, List.set_cons_succ, r_pb, e]
theorem r_pen (ns : List Int) : ∃ s, m_law_pen ns [.ty 999] [[]] = some (.lst [.int s], [[]]) := by
  obtain ⟨k', o', e⟩ := r_pens ns 101490 none [[], []]
  refine ⟨k', ?_⟩
  have p : m_law_pen ns [.ty 999] [[]] = finM (b_law_pen ns [some (.ty 999), none, none] [[], []]) := rfl
  have q : ∀ (E : Li.Env) (h : LHeap), lscr ns 0 (some (.ty 999) :: E) h = .ok (.vals (scrV ns)) h := fun E h => rfl
  rw [p, pen_split]
  simp only [lseq, lset, lc, Res.s, SRes.then, List.set_cons_zero, List.set_cons_succ, lfor, q, forS, e]
  kernel_rfl
theorem r_ls0 (ns : List Int) : ∃ s : Int, ls0 ns [(some (.ty 999)), none, none, none, none, none, none, none, none, none, none, none, none, none, none, none, none, none, none, none, none, none, none, none] [[]] = .nx [(some (.ty 999)), (some (.obj 0 0)), none, none, none, none, none, none, none, none, none, none, none, none, none, none, none, none, none, none, none, none, none, none] [[.lst [.int s]]] := by
  obtain ⟨s, e⟩ := r_pen ns
  refine ⟨s, ?_⟩
  simp only [ls0, lset, lcallM, acons, anil, lvar, Res.bind, Res.s, List.getElem?_cons_zero, List.set_cons_zero, List.set_cons_succ, e, pushO, ofO]
  rfl
theorem r_ls1 (ns : List Int) (s : Int) : ls1 ns [(some (.ty 999)), (some (.obj 0 0)), none, none, none, none, none, none, none, none, none, none, none, none, none, none, none, none, none, none, none, none, none, none] [[.lst [.int s]]] = .nx [(some (.ty 999)), (some (.obj 0 0)), (some EVEN), none, none, none, none, none, none, none, none, none, none, none, none, none, none, none, none, none, none, none, none, none] [[.lst [.int s]]] := by kernel_rfl
theorem r_ls2 (ns : List Int) (s : Int) : ls2 ns [(some (.ty 999)), (some (.obj 0 0)), (some EVEN), none, none, none, none, none, none, none, none, none, none, none, none, none, none, none, none, none, none, none, none, none] [[.lst [.int s]]] = .nx [(some (.ty 999)), (some (.obj 0 0)), (some EVEN), (some (.lst SM)), none, none, none, none, none, none, none, none, none, none, none, none, none, none, none, none, none, none, none, none] [[.lst [.int s]]] := by kernel_rfl
theorem r_end (ns : List Int) {o4 o5 o6 o7 o8 o9 o10 o11 o12 o13 o14 o15 o16 o17 o18 o19 o20 o21 o22 o23 : Option Li.Val} (s : Int) : (lseq (ls4 ns) (lseq (ls5 ns) (lseq (ls6 ns) (lseq (ls7 ns) (ls8 ns))))) [(some (.ty 999)), (some (.obj 0 0)), (some EVEN), (some (.lst SM)), o4, o5, o6, o7, o8, o9, o10, o11, o12, o13, o14, o15, o16, o17, o18, o19, o20, o21, o22, o23] [.lst [.int s] :: J 8] = .rt (.bl true) [.lst [.int s] :: J 8] := by kernel_rfl
theorem r_law (ns : List Int) : m_law ns [.ty 999] [] = some (.bl true, []) := by
  have e : m_law ns [.ty 999] [] = fin (b_law ns [(some (.ty 999)), none, none, none, none, none, none, none, none, none, none, none, none, none, none, none, none, none, none, none, none, none, none, none] [[]]) := rfl
  obtain ⟨s, p0⟩ := r_ls0 ns
  rw [e, law_split, seq_nx p0, seq_nx (r_ls1 ns s), seq_nx (r_ls2 ns s)]
  have v : Inv 0 [(some (.ty 999)), (some (.obj 0 0)), (some EVEN), (some (.lst SM)), none, none, none, none, none, none, none, none, none, none, none, none, none, none, none, none, none, none, none, none] [[.lst [.int s]]] := ⟨s, _, _, _, _, _, _, _, _, _, _, _, _, _, _, _, _, _, _, _, _, rfl, rfl⟩
  obtain ⟨E', h', q, v'⟩ := r_loop 8 0 _ _ rfl v
  have p3 : ls3 ns [(some (.ty 999)), (some (.obj 0 0)), (some EVEN), (some (.lst SM)), none, none, none, none, none, none, none, none, none, none, none, none, none, none, none, none, none, none, none, none] [[.lst [.int s]]] = .nx E' h' := by
    simp only [ls3, lfor, r_eight, Res.s, forS]
    exact q
  rw [seq_nx p3]
  obtain ⟨s', o4, o5, o6, o7, o8, o9, o10, o11, o12, o13, o14, o15, o16, o17, o18, o19, o20, o21, o22, o23, rfl, rfl⟩ := v'
  rw [r_end]
  rfl
end Gk47

set_option maxHeartbeats 0
namespace Gk47
open PySem PySem.Spec PyProof.Rows L2 Li
def looseL0 : List PySem.Str := [(PySem.Str.ofString "_wall"),
  (PySem.Str.ofString "HadError"),
  (PySem.Str.ofString "BadValue"),
  (PySem.Str.ofString "Misfit"),
  (PySem.Str.ofString "LETTERS"),
  (PySem.Str.ofString "MOST_LETTERS"),
  (PySem.Str.ofString "is_listed"),
  (PySem.Str.ofString "is_row"),
  (PySem.Str.ofString "is_name"),
  (PySem.Str.ofString "are_so_many"),
  (PySem.Str.ofString "fixed"),
  (PySem.Str.ofString "are_alike"),
  (PySem.Str.ofString "Paper"),
  (PySem.Str.ofString "Denial"),
  (PySem.Str.ofString "LACK"),
  (PySem.Str.ofString "HAVE"),
  (PySem.Str.ofString "GONE"),
  (PySem.Str.ofString "STATUSES"),
  (PySem.Str.ofString "BEAT"),
  (PySem.Str.ofString "GIVE")]
def looseL1 : List PySem.Str := [(PySem.Str.ofString "MOST_MOODS"),
  (PySem.Str.ofString "MOST_WORDS"),
  (PySem.Str.ofString "MOST_RULES"),
  (PySem.Str.ofString "are_unlike"),
  (PySem.Str.ofString "is_rule"),
  (PySem.Str.ofString "Talk"),
  (PySem.Str.ofString "need_talk"),
  (PySem.Str.ofString "PLAIN_RULES"),
  (PySem.Str.ofString "plain_talk"),
  (PySem.Str.ofString "LEFT"),
  (PySem.Str.ofString "RIGHT"),
  (PySem.Str.ofString "LEAF"),
  (PySem.Str.ofString "INNER"),
  (PySem.Str.ofString "Link"),
  (PySem.Str.ofString "Early"),
  (PySem.Str.ofString "LEAST_PEOPLE"),
  (PySem.Str.ofString "MOST_PEOPLE"),
  (PySem.Str.ofString "are_people"),
  (PySem.Str.ofString "is_joint"),
  (PySem.Str.ofString "are_joints")]
def looseL2 : List PySem.Str := [(PySem.Str.ofString "reached"),
  (PySem.Str.ofString "Net"),
  (PySem.Str.ofString "Stage"),
  (PySem.Str.ofString "Idle"),
  (PySem.Str.ofString "Done"),
  (PySem.Str.ofString "Blamed"),
  (PySem.Str.ofString "Blocked"),
  (PySem.Str.ofString "Unison"),
  (PySem.Str.ofString "_law_pen"),
  (PySem.Str.ofString "_law_draw"),
  (PySem.Str.ofString "_law_pick")]
def looseL : List PySem.Str := looseL0 ++ looseL1 ++ looseL2
abbrev R : PySem.W.OpenRow := PySem.W.OpenLaw.row PySem.Challenge.rw_allhadit_k47_papers_of_any_values
abbrev hk : PySem.W.Hook := hookL 6 spec
def ob (s : PySem.W.SharedT) : AlL := obsLG 6 spec (HandSHeadRun.getT s)
theorem ob_eq (s : PySem.W.SharedT) : ob s = hk.obs s.abs := obsLG_eq (HandSHeadRun.getT_eq s)
theorem run (w : World) : HandSHeadRun.RunEq R (PySem.W.view R.prog [62]) hk ob 6000 looseL w := by
  intro os
  kernel_rfl
theorem facts {P : Program} {w : World} {K : PySem.W.Frag} {h : Heap} {mg : Str → Option Value} {f : Addr} (hfl : P.main.file = "/claim/cut.py") (hsup : (P.main.scope.names.lookup ("super" : Str)).isSome = false) (hlaw : ∀ ns : List Int, ns.length ≤ 63 → ∃ h, m_law ns [.ty 999] [] = some (.bl true, h))
    (X : K.In h) (G : h.Ns mainGlobals mg) (hfa : mg ("law" : Str) = some (.ref f)) (c : SaysL spec K) :
    ∃ fd : FuncData, (∀ (s : Shared) (v : Value), BindsTo s fd ⟨[v], []⟩ [("script", v)]) ∧ ∀ base : Heap, K.In base → base.Ns mainGlobals mg → FnOk P w K mg base CX0 183 f fd ["script"] (spScr K) := by
  have T : Txt P w K mg := ⟨⟨h, X, G⟩, c, hfl, hsup⟩
  obtain ⟨fd, F⟩ := d_law T
  have e := hfa.symm.trans (He.glo_ok X G (x := "law") (c.fact 41))
  cases e
  have b := FunD.bindsA (ps := ["script"]) F fun _ _ _ _ _ _ us hl => match us, hl with | [_], _ => rfl
  exact ⟨fd, fun s v => b s [v] rfl, fun base _ _ => law_fn (gf := gp P w K) (m := m_law) (fun _ => rfl) (fun _ => rfl) (fun ns => (ok1_law (ns := ns) T base F).F) hlaw⟩
end Gk47
open PySem PySem.W PySem.Calls PyProof.Rows
theorem Gk47_holds (hlaw : ∀ ns : List Int, ns.length ≤ 63 → ∃ h, Gk47.m_law ns [.ty 999] [] = some (.bl true, h)) : PySem.Challenge.rw_allhadit_k47_papers_of_any_values.Holds := by
  w_on; o_law
  refine HandSHeadRun.head_any (r := OpenLaw.row PySem.Challenge.rw_allhadit_k47_papers_of_any_values) (q := view (OpenLaw.row PySem.Challenge.rw_allhadit_k47_papers_of_any_values).prog [62]) (H := Gk47.hk) (ob := Gk47.ob) (M := 6000) (loose := Gk47.looseL) (d := HandSHeadRun.topDef (OpenLaw.row PySem.Challenge.rw_allhadit_k47_papers_of_any_values).prog 62) (kwd := []) Gk47.ob_eq
    (by kernel_rfl) (fun s => by kernel_rfl) Gk47.run (by kernel_rfl) (by kernel_rfl) (by kernel_rfl) (by rfl) (by first | assumption | decide +kernel) (by decide +kernel) ⟨rfl, rfl, rfl, rfl, rfl, by decide +kernel⟩ ?hw ?hc
  case hw => w_witness2
  case hc =>
    refine L2.walk_ofE (l := PySem.Challenge.rw_allhadit_k47_papers_of_any_values) (n := 63) (k := 183) (x := "script") (CX := L2.CX0) rfl (by decide) (by kernel_rfl) ⟨rfl, by decide, by decide⟩ ?F (fun _ _ _ _ z => z)
    intro w mg fa h Y G hmg0
    obtain ⟨K, KX, c⟩ := Y
    have hmg : mg ("law" : PySem.Str) = some (.ref fa) := by
      have e : (HandSHeadRun.topDef (OpenLaw.row PySem.Challenge.rw_allhadit_k47_papers_of_any_values).prog 62).name = ("law" : PySem.Str) := by kernel_rfl
      rw [← e]
      exact hmg0
    obtain ⟨fd, hb, hF⟩ := Gk47.facts (P := (PySem.Challenge.rw_allhadit_k47_papers_of_any_values).prog) (w := w) (by kernel_rfl) (by kernel_rfl) hlaw KX G hmg c
    exact ⟨K, fd, Li.spScr K, KX, hb, fun H a ns hl _ hS => ⟨a, ns, rfl, hl, hS, fun _ => rfl⟩, hF⟩

theorem PySem.Challenge.cw_allhadit_k47_papers_of_any_values_holds : PySem.Challenge.rw_allhadit_k47_papers_of_any_values.Holds := by
  exact Gk47_holds fun ns _ => ⟨_, Gk47.r_law ns⟩
