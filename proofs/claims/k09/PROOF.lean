import PyProof.Rows.All
import HandS.Zip
import HandS.Iter
import HandS.IterVal
import Wide.All
import OpenK.AllK
import Wide.FinOn
import PyProof.EqAt
import PyProof.EqKinds
import PyProof.TupleCall
import HandS.Base
import HandS.Call
import HandS.List
import HandS.Comp
import HandS.Exc
import HandS.ExcOwn
import HandS.Ends
import HandS.Words
import HandS.TryMany
import HandS.TryOnly
import HandS.SlotsOwn
import HandS.Lambda
import HandS.Wide
import HandS.TupAny
import HandS.TupMul
import HandS.IsInst
import HandS.Deep
import HandS.Text
import HandS.WordsExc
import HandS.Style
import HandS.Star
import HandS.FStr
import HandS.RaiseMore
import HandS.SortInts
import KE.GoesEnum
import HandS.Conv
import KE.KExcSuper
import KE.KExcLine
import HandS.ExcField
import HandS.EndTab
import PyProof.ListStr
import HandS.AnyAll
import HandS.GenList
import KE.KDictIter
import KE.KDictZip
import HandS.CallLocal
import KE.KTupSum
import KE.KCallOwn
import KE.KFmtOwn
import PyProof.FactsAll.object_2
import HandS.DictComp
import HandS.TupSets
import KE.SortData
import KE.DataMinMax
import HandS.OwnEq
import HandS.TupLen
import KE.KDictWalk
import HandS.ClsMeth
import PySem.Challenge.RW_touchtowers_k09_whole_texts_of_points
set_option linter.all false
set_option Elab.async false
set_option maxRecDepth 100000
set_option maxHeartbeats 4000000
/-! ZN: zip of any number of lists and tuples, at the library's level. -/
namespace ZN
open PySem PySem.Spec PyProof.Rows L2
inductive Kd where
  | l | t
def ItAt : Kd → Heap → Addr → Addr → Nat → Prop
  | .l, h, it, a, i => h.IsListIter it a i
  | .t, h, it, a, i => h.IsTupleIter it a i
def SqAt : Kd → Heap → Addr → Array Value → Prop
  | .l, h, a, xs => h.IsList a xs
  | .t, h, a, xs => h.IsTuple a xs
structure Src where
  k : Kd
  it : Nat
  a : Nat
abbrev IsTup (h : Heap) (T : Addr) (vs : List Value) : Prop := h.get? T = some { cls := .type "tuple", data := .seq vs.toArray }
theorem ItAt.over {k : Kd} {h h' : Heap} {it a : Addr} {i : Nat} (x : ItAt k h it a i) (e : ∀ o, h.get? it = some o → h'.get? it = some o) : ItAt k h' it a i := by
  cases k with
  | l => exact Heap.IsListIter.at x e
  | t => exact Heap.IsTupleIter.at x e
theorem SqAt.over {k : Kd} {h h' : Heap} {a : Addr} {xs : Array Value} (x : SqAt k h a xs) (e : ∀ o, h.get? a = some o → h'.get? a = some o) : SqAt k h' a xs := by
  cases k with
  | l => exact Heap.IsList.at x e
  | t => exact Heap.IsTuple.at x e
structure Apart (z TI TO : Addr) (cs : List Src) : Prop where
  TIz : TI ≠ z
  TOz : TO ≠ z
  TITO : TI ≠ TO
  TIi : ∀ c ∈ cs, TI ≠ c.it
  TOi : ∀ c ∈ cs, TO ≠ c.it
  iz : ∀ c ∈ cs, c.it ≠ z
  az : ∀ c ∈ cs, c.a ≠ z
  aTO : ∀ c ∈ cs, c.a ≠ TO
  ai : ∀ c ∈ cs, ∀ d ∈ cs, c.a ≠ d.it
  nd : (cs.map Src.it).Nodup
section
variable {prog : Program} {w : World} {A : Around} {E : Value → Shared → Prop} {s : Shared}
end
end ZN

set_option Elab.async false
set_option maxRecDepth 100000
set_option maxHeartbeats 4000000
/-! ZN2: zip of any number of lists and tuples, over the layer's heap. -/
namespace ZN
open PySem PySem.Spec PyProof.Rows L2
def SqK (K : PySem.W.Frag) : Kd → Hp → Nat → List V → Prop
  | .l, H, a, xs => SqL K H a xs
  | .t, H, a, xs => SqT K H a xs
structure CS where
  k : Kd
  a : Nat
  xs : List V
abbrev CS.key (c : CS) : Kd × Nat := (c.k, c.a)
abbrev Src.key (c : Src) : Kd × Nat := (c.k, c.a)
theorem SqAt.inj {k : Kd} {h : Heap} {a : Addr} {xs ys : Array Value} (h1 : SqAt k h a xs) (h2 : SqAt k h a ys) : xs = ys := by
  cases k with
  | l =>
    obtain ⟨o, e, _, n, d⟩ := h1
    obtain ⟨o', e', _, n', d'⟩ := h2
    rw [e] at e'; cases e'
    rw [d] at d'; cases d'; rfl
  | t =>
    obtain ⟨o, e, _, n, d⟩ := h1
    obtain ⟨o', e', _, n', d'⟩ := h2
    rw [e] at e'; cases e'
    rw [d] at d'; cases d'; rfl
section
variable {X : Cx} {pins : List (Addr × Obj)} {σ : L2.St} {H : Hp} {s : Shared}
end
end ZN

set_option Elab.async false
set_option maxRecDepth 100000
set_option maxHeartbeats 4000000
/-! ZN3: zip(..) as what is walked, as a value, a name that holds one. -/
namespace ZN
open PySem PySem.Spec PyProof.Rows L2
/-! ### many cells laid, many forgotten -/
section
variable {X : Cx} {pins : List (Addr × Obj)} {σ : L2.St} {H : Hp} {s : Shared}
end
/-! ### the cells of a zip -/
def itO (k : Kd) (it a : Nat) : HO := .ext fun h => ItAt k h it a 0
def tupO (T : Nat) (vs : List Value) : HO := .ext fun h => IsTup h T vs
def zipO (z TI TO : Nat) : HO := .ext fun h => IsZip h z TI TO .none
def refsZ (b n : Nat) : List Value := (List.range n).map fun j => .ref (b + j)
/-- what stands at x, of the zip laid from b on -/
def cellZ (b : Nat) (ps : List (Kd × Nat)) (x : Nat) : Option HO :=
  if x = b + ps.length + 2 then some (zipO x (b + ps.length) (b + ps.length + 1))
  else if x = b + ps.length + 1 then some (tupO x (ps.map fun _ => .none))
  else if x = b + ps.length then some (tupO x (refsZ b ps.length))
  else if b ≤ x then (ps[x - b]?).map fun p => itO p.1 x p.2 else none
def N234 (n : Nat) : Prop := n = 2 ∨ n = 3 ∨ n = 4
section
variable {X : Cx} {p pos tpos : Pos} {elts : List Expr} {kk : Nat} {e : Expr} {es : List Expr} {ta : TA}
end
end ZN

set_option Elab.async false
set_option maxRecDepth 100000
set_option maxHeartbeats 4000000
/-! L3, part a: plain values over the hand layer's abstract heap; the frame's plain state; its steps. -/
namespace L3
open PySem PySem.Spec PyProof.Rows L2

/-- plain data -/
inductive D where
  | non | bl (b : Bool) | int (i : Int) | str (x : Str) | ref (a : Addr) | ty (n : String)
  | tup (ds : List D) | lst (ds : List D) | scr (ns : List Int)
  /-- an instance of a class with slots, all of them filled -/
  | obj (nm : Str) (fs : List D)
  /-- a class of the text -/
  | cls (nm : Str)
  /-- a dict with keys of ints and texts; with keys of tuples of such -/
  | dcK (ks : List Key) (ds : List D) | dcT (ks : List (List Key)) (ds : List D)
  /-- a tuple of ints of the module -/
  | ktp (ns : List Int)
  /-- no value: the head of a register that is no list -/
  | tag (n : Nat)

/-- the class of that name -/
def ClsN (K : PySem.W.Frag) (nm : Str) (C : Addr) : Prop := PySem.W.nsIn K mainGlobals nm = some (some (.ref C))
mutual
inductive Rep (K : PySem.W.Frag) (F : Hp) : D → V → Prop
  | non : Rep K F .non .non
  | bl (b : Bool) : Rep K F (.bl b) (.bl b)
  | int (i : Int) : Rep K F (.int i) (.int i)
  | str (x : Str) : Rep K F (.str x) (.str x)
  | ref (a : Addr) : Rep K F (.ref a) (.ref a)
  | ty (n : String) : Rep K F (.ty n) (.ty n)
  | tup {a : Addr} {xs : List V} {ds : List D} : F a = some (.tup xs) → RepL K F ds xs → Rep K F (.tup ds) (.ref a)
  | ktp {a : Addr} {ns : List Int} : SqT K F a (ns.map V.int) → Rep K F (.ktp ns) (.ref a)
  | scr {a : Addr} {ns : List Int} : SqL K F a (ns.map V.int) → Rep K F (.scr ns) (.ref a)
  | lst {a : Addr} {xs : List V} {ds : List D} : Rd F a (.lst xs) → RepL K F ds xs → Rep K F (.lst ds) (.ref a)
  | obj {a C dx : Addr} {nm : Str} {xs : List V} {fs : List D} : ClsN K nm C → F a = some (SlX.SlO a C dx (xs.map some)) → F dx = some (.xd []) → RepL K F fs xs → Rep K F (.obj nm fs) (.ref a)
  | cls {C : Addr} {nm : Str} : ClsN K nm C → Rep K F (.cls nm) (.ref C)
  | dcK {a : Addr} {ob : Obj} {ks : List Key} {xs : List V} {ds : List D} : F a = some (.frz ob (.dK (ks.zip xs))) → ks.length = xs.length → RepL K F ds xs → Rep K F (.dcK ks ds) (.ref a)
  | dcT {a : Addr} {ob : Obj} {ks : List (List Key)} {xs : List V} {ds : List D} : F a = some (.frz ob (.dT (ks.zip xs))) → ks.length = xs.length → RepL K F ds xs → Rep K F (.dcT ks ds) (.ref a)
inductive RepL (K : PySem.W.Frag) (F : Hp) : List D → List V → Prop
  | nil : RepL K F [] []
  | cons {d : D} {ds : List D} {v : V} {vs : List V} : Rep K F d v → RepL K F ds vs → RepL K F (d :: ds) (v :: vs)
end

theorem sameT {K : PySem.W.Frag} {H H' : Hp} {a : Addr} {xs : List V} (e : Same H H') (h : SqT K H a xs) : SqT K H' a xs := by
  rcases h with (h | ⟨o, h⟩) | h
  · exact .inl (.inl (e _ _ h))
  · exact .inl (.inr ⟨o, e _ _ h⟩)
  · exact .inr h
theorem sameR {H H' : Hp} {a : Addr} {u : HO} (e : Same H H') (h : Rd H a u) : Rd H' a u := by
  rcases h with h | ⟨o, h⟩
  · exact .inl (e _ _ h)
  · exact .inr ⟨o, e _ _ h⟩
mutual
theorem Rep.mono {K : PySem.W.Frag} {F F' : Hp} (e : Same F F') : ∀ (d : D) (v : V), Rep K F d v → Rep K F' d v
  | .non, _, h => by cases h; exact .non
  | .bl _, _, h => by cases h; exact .bl _
  | .int _, _, h => by cases h; exact .int _
  | .str _, _, h => by cases h; exact .str _
  | .ref _, _, h => by cases h; exact .ref _
  | .ty _, _, h => by cases h; exact .ty _
  | .scr _, _, h => by
    cases h with
    | scr hs => exact .scr (e.seq hs)
  | .tup ds, _, h => by
    cases h with
    | tup hs ha => exact .tup (e _ _ hs) (RepL.mono e ds _ ha)
  | .ktp ns, _, h => by
    cases h with
    | ktp hs => exact .ktp (sameT e hs)
  | .lst ds, _, h => by
    cases h with
    | lst hs ha => exact .lst (sameR e hs) (RepL.mono e ds _ ha)
  | .tag _, _, h => by cases h
  | .cls _, _, h => by
    cases h with
    | cls hc => exact .cls hc
  | .obj _ fs, _, h => by
    cases h with
    | obj h1 h2 h3 ha => exact .obj h1 (e _ _ h2) (e _ _ h3) (RepL.mono e fs _ ha)
  | .dcK _ ds, _, h => by
    cases h with
    | dcK h1 h2 ha => exact .dcK (e _ _ h1) h2 (RepL.mono e ds _ ha)
  | .dcT _ ds, _, h => by
    cases h with
    | dcT h1 h2 ha => exact .dcT (e _ _ h1) h2 (RepL.mono e ds _ ha)
theorem RepL.mono {K : PySem.W.Frag} {F F' : Hp} (e : Same F F') : ∀ (ds : List D) (vs : List V), RepL K F ds vs → RepL K F' ds vs
  | [], _, h => by cases h; exact .nil
  | d :: ds, _, h => by
    cases h with
    | cons h1 h2 => exact .cons (Rep.mono e d _ h1) (RepL.mono e ds _ h2)
end
section
variable {K : PySem.W.Frag} {F : Hp}
theorem RepL.length : ∀ {ds : List D} {vs : List V}, RepL K F ds vs → ds.length = vs.length
  | _, _, .nil => rfl
  | _, _, .cons _ t => congrArg (· + 1) (RepL.length t)
theorem RepL.append : ∀ {ds es : List D} {vs us : List V}, RepL K F ds vs → RepL K F es us → RepL K F (ds ++ es) (vs ++ us)
  | _, _, _, _, .nil, s => s
  | _, _, _, _, .cons r t, s => .cons r (RepL.append t s)
theorem RepL.take : ∀ {ds : List D} {vs : List V} (n : Nat), RepL K F ds vs → RepL K F (ds.take n) (vs.take n)
  | _, _, 0, _ => .nil
  | _, _, _ + 1, .nil => .nil
  | _, _, n + 1, .cons r t => .cons r (RepL.take n t)
theorem RepL.drop : ∀ {ds : List D} {vs : List V} (n : Nat), RepL K F ds vs → RepL K F (ds.drop n) (vs.drop n)
  | _, _, 0, r => r
  | _, _, _ + 1, .nil => .nil
  | _, _, n + 1, .cons _ t => RepL.drop n t
theorem RepL.get : ∀ {ds : List D} {vs : List V} {i : Nat} {d : D}, RepL K F ds vs → ds[i]? = some d → ∃ v, vs[i]? = some v ∧ Rep K F d v
  | _, _, _, _, .nil, e => by simp at e
  | _, _, 0, _, .cons r _, e => by simp at e; subst e; exact ⟨_, rfl, r⟩
  | _, _, i + 1, d, .cons _ t, e => by
    obtain ⟨u, h1, h2⟩ := RepL.get (i := i) (d := d) t (by simpa using e)
    exact ⟨u, by simpa using h1, h2⟩
theorem RepL.get' : ∀ {ds : List D} {vs : List V} {i : Nat} {v : V}, RepL K F ds vs → vs[i]? = some v → ∃ d, ds[i]? = some d ∧ Rep K F d v
  | _, _, _, _, .nil, e => by simp at e
  | _, _, 0, _, .cons r _, e => by simp at e; subst e; exact ⟨_, rfl, r⟩
  | _, _, i + 1, d, .cons _ t, e => by
    obtain ⟨u, h1, h2⟩ := RepL.get' (i := i) (v := d) t (by simpa using e)
    exact ⟨u, by simpa using h1, h2⟩
theorem RepL.set : ∀ {ds : List D} {vs : List V} {d : D} {v : V} (i : Nat), Rep K F d v → RepL K F ds vs → RepL K F (ds.set i d) (vs.set i v)
  | _, _, _, _, _, _, .nil => .nil
  | _, _, _, _, 0, r, .cons _ t => .cons r t
  | _, _, _, _, i + 1, r, .cons q t => .cons q (RepL.set i r t)
theorem RepL.dropLast {ds : List D} {vs : List V} (h : RepL K F ds vs) : RepL K F ds.dropLast vs.dropLast := by
  rw [List.dropLast_eq_take, List.dropLast_eq_take, h.length]; exact h.take _
theorem RepL.reverse {ds : List D} {vs : List V} (h : RepL K F ds vs) : RepL K F ds.reverse vs.reverse := by
  induction ds generalizing vs with
  | nil => cases h; exact .nil
  | cons d r ih =>
    cases h with
    | cons h1 h2 => rw [List.reverse_cons, List.reverse_cons]; exact (ih h2).append (.cons h1 .nil)
theorem RepL.rep {ds : List D} {vs : List V} (h : RepL K F ds vs) : ∀ k : Nat, RepL K F (List.replicate k ds).flatten (List.replicate k vs).flatten
  | 0 => .nil
  | k + 1 => by rw [List.replicate_succ, List.replicate_succ, List.flatten_cons, List.flatten_cons]; exact h.append (RepL.rep h k)
theorem RepL.ints : ∀ (ns : List Int), RepL K F (ns.map D.int) (ns.map V.int)
  | [] => .nil
  | n :: r => .cons (.int n) (RepL.ints r)
theorem RepL.ints_of : ∀ {ns : List Int} {vs : List V}, RepL K F (ns.map D.int) vs → vs = ns.map V.int
  | [], _, h => by cases h; rfl
  | n :: r, _, h => by
    cases h with
    | cons h1 h2 => cases h1; rw [RepL.ints_of (ns := r) h2]; rfl
theorem RepL.bls_of : ∀ {ns : List Bool} {vs : List V}, RepL K F (ns.map D.bl) vs → vs = ns.map V.bl
  | [], _, h => by cases h; rfl
  | n :: r, _, h => by
    cases h with
    | cons h1 h2 => cases h1; rw [RepL.bls_of (ns := r) h2]; rfl
end

/-! ### the frame's plain state -/
inductive Sl3 where
  | no | val (d : D) | own (ds : List D)
  /-- a dict that only this slot holds -/
  | ownD (d : D)
  /-- the instance that __init__ is filling -/
  | new (nm : Str) (fs : List (Option D))
abbrev Env3 := List Sl3
/-- what a slot alone holds -/
def Sl3.ow : Sl3 → Option D
  | .own ds => some (.lst ds)
  | .ownD d => some d
  | _ => none
/-- an object that may change, and what it holds -/
def RepB (K : PySem.W.Frag) (F : Hp) : D → HO → Prop
  | .lst ds, o => ∃ xs, o = .lst xs ∧ RepL K F ds xs
  | .dcT ks ds, o => ∃ (ob : Obj) (xs : List V), o = .frz ob (.dT (ks.zip xs)) ∧ ks.length = xs.length ∧ RepL K F ds xs
  | .dcK ks ds, o => ∃ (ob : Obj) (xs : List V), o = .frz ob (.dK (ks.zip xs)) ∧ ks.length = xs.length ∧ RepL K F ds xs
  | _, _ => False
theorem RepB.mono {K : PySem.W.Frag} {F F' : Hp} {d : D} {o : HO} (e : Same F F') (h : RepB K F d o) : RepB K F' d o := by
  cases d with
  | lst ds => obtain ⟨xs, h1, h2⟩ := h; exact ⟨xs, h1, RepL.mono e _ _ h2⟩
  | dcT ks ds => obtain ⟨ob, xs, h1, h2, h3⟩ := h; exact ⟨ob, xs, h1, h2, RepL.mono e _ _ h3⟩
  | dcK ks ds => obtain ⟨ob, xs, h1, h2, h3⟩ := h; exact ⟨ob, xs, h1, h2, RepL.mono e _ _ h3⟩
  | _ => exact h.elim
/-- .. as a value, once it stands still -/
theorem RepB.rep {K : PySem.W.Frag} {F : Hp} {d : D} {o : HO} {a : Addr} (h : RepB K F d o) (e : F a = some o) : Rep K F d (.ref a) := by
  cases d with
  | lst ds => obtain ⟨xs, h1, h2⟩ := h; subst h1; exact .lst (Rd.of e) h2
  | dcT ks ds => obtain ⟨ob, xs, h1, h2, h3⟩ := h; subst h1; exact .dcT e h2 h3
  | dcK ks ds => obtain ⟨ob, xs, h1, h2, h3⟩ := h; subst h1; exact .dcK e h2 h3
  | _ => exact h.elim
abbrev Reg := List (Addr × List D)
abbrev Pend := List (Addr × HO)
structure Base3 where
  F : Hp
  H : Hp
  G : List Addr
  /-- where the instance stands that __init__ is filling -/
  nw : Addr

/-- no tuple -/
def isTp : HO → Bool
  | .tup _ => true
  | _ => false
/-- how the cells of a zip are told in a register -/
def encP (ps : List (ZN.Kd × Nat)) : List D := ps.map fun p => .tup [.bl (match p.1 with | .l => true | .t => false), .int p.2]
def encZ (b : Nat) (ps : List (ZN.Kd × Nat)) (dss : List (List D)) : List D := .tag 0 :: .int b :: .lst (encP ps) :: dss.map D.lst
inductive RepLs (K : PySem.W.Frag) (F : Hp) : List (List D) → List ZN.CS → Prop
  | nil : RepLs K F [] []
  | cons {ds : List D} {c : ZN.CS} {dss : List (List D)} {css : List ZN.CS} : ZN.SqK K c.k F c.a c.xs → RepL K F ds c.xs → RepLs K F dss css → RepLs K F (ds :: dss) (c :: css)
theorem sqK_same {K : PySem.W.Frag} {F F' : Hp} (e : Same F F') {k : ZN.Kd} {a : Nat} {xs : List V} (h : ZN.SqK K k F a xs) : ZN.SqK K k F' a xs := by
  cases k with
  | l => exact e.seq h
  | t => exact sameT e h
theorem RepLs.mono {K : PySem.W.Frag} {F F' : Hp} (e : Same F F') : ∀ {dss : List (List D)} {css : List ZN.CS}, RepLs K F dss css → RepLs K F' dss css
  | _, _, .nil => .nil
  | _, _, .cons h1 h2 h3 => .cons (sqK_same e h1) (RepL.mono e _ _ h2) (RepLs.mono e h3)
/-- how a table of code objects is told in a register -/
def encT (q : Str) : List D := [.tag 1, .str q]
/-- what a register tells: a list; a cell of a zip; a table of code objects -/
inductive RegO (K : PySem.W.Frag) (F : Hp) (a : Addr) : HO → List D → Prop
  | lst {xs : List V} {ds : List D} : RepL K F ds xs → RegO K F a (.lst xs) ds
  | zip {b : Nat} {css : List ZN.CS} {dss : List (List D)} {o : HO} : ZN.cellZ b (css.map ZN.CS.key) a = some o → ZN.N234 css.length → (∀ c ∈ css, c.a < b) → RepLs K F dss css → RegO K F a o (encZ b (css.map ZN.CS.key) dss)
  | tbl {q : Str} {ps : Array Value} : TriplesOk ps.toList → (∀ (pos : Pos) (cv : Value), codeAmong pos ps.toList = some cv → ∃ c, cv = .ref c ∧ F c = some (LamX.CodeO c q)) → RegO K F a (.tbl ps) (encT q)
theorem RegO.mono {K : PySem.W.Frag} {F F' : Hp} {a : Addr} {o : HO} {ds : List D} (e : Same F F') (h : RegO K F a o ds) : RegO K F' a o ds := by
  cases h with
  | lst r => exact .lst (RepL.mono e _ _ r)
  | zip h1 h2 h3 h4 => exact .zip h1 h2 h3 (h4.mono e)
  | tbl h1 h2 => exact .tbl h1 fun pos cv hc => by obtain ⟨c, e1, e2⟩ := h2 pos cv hc; exact ⟨c, e1, e _ _ e2⟩
/-- a register that is a list's -/
def isL : List D → Bool
  | .tag _ :: _ => false
  | _ => true
theorem RegO.lstOf {K : PySem.W.Frag} {F : Hp} {a : Addr} {o : HO} {ds : List D} (h : RegO K F a o ds) (hl : isL ds = true) : ∃ xs, o = .lst xs ∧ RepL K F ds xs := by
  cases h with
  | lst r => exact ⟨_, rfl, r⟩
  | zip h1 h2 h3 h4 => cases hl
  | tbl h1 h2 => cases hl
theorem RegO.nt {K : PySem.W.Frag} {F : Hp} {a : Addr} {o : HO} {ds : List D} (h : RegO K F a o ds) : isTp o = false := by
  cases h with
  | lst r => rfl
  | zip h1 h2 h3 h4 =>
    unfold ZN.cellZ at h1
    split at h1
    · cases h1; rfl
    split at h1
    · cases h1; rfl
    split at h1
    · cases h1; rfl
    split at h1
    · obtain ⟨p, _, rfl⟩ := Option.map_eq_some_iff.mp h1; rfl
    · cases h1
  | tbl h1 h2 => rfl
/-- the list of a register -/
def lookL (G : Reg) (a : Addr) : Option (List D) := match G.lookup a with
  | some ds => if isL ds = true then some ds else none
  | none => none
theorem lookL_iff {G : Reg} {a : Addr} {ds : List D} (h : lookL G a = some ds) : G.lookup a = some ds ∧ isL ds = true := by
  unfold lookL at h
  split at h
  · rename_i e hl
    split at h
    · rename_i hi; cases h; exact ⟨hl, hi⟩
    · cases h
  · cases h
structure Wld (K : PySem.W.Frag) (F H : Hp) (G : Reg) : Prop where
  sub : Same F H
  reg : ∀ (a : Addr) (ds : List D), (a, ds) ∈ G → F a = none ∧ ∃ o, H a = some o ∧ RegO K F a o ds
  nd : (G.map (·.1)).Nodup

/-- an object that stands free: nothing else names it -/
structure FreX (K : PySem.W.Frag) (B : Base3) (pn : Pend) (F H : Hp) (G : Reg) (a : Addr) (d : D) : Prop where
  nF : F a = none
  nB : B.H a = none
  nG : a ∉ G.map (·.1)
  nP : a ∉ pn.map (·.1)
  ex : ∃ o, H a = some o ∧ RepB K F d o
/-- a list that stands free: nothing else names it -/
structure Fre (K : PySem.W.Frag) (B : Base3) (pn : Pend) (F H : Hp) (G : Reg) (a : Addr) (ds : List D) : Prop where
  nF : F a = none
  nB : B.H a = none
  nG : a ∉ G.map (·.1)
  nP : a ∉ pn.map (·.1)
  ex : ∃ xs, H a = some (.lst xs) ∧ RepL K F ds xs
theorem Fre.x {K : PySem.W.Frag} {B : Base3} {pn : Pend} {F H : Hp} {G : Reg} {a : Addr} {ds : List D} (f : Fre K B pn F H G a ds) : FreX K B pn F H G a (.lst ds) :=
  ⟨f.nF, f.nB, f.nG, f.nP, by obtain ⟨xs, e, r⟩ := f.ex; exact ⟨_, e, xs, rfl, r⟩⟩
theorem FreX.l {K : PySem.W.Frag} {B : Base3} {pn : Pend} {F H : Hp} {G : Reg} {a : Addr} {ds : List D} (f : FreX K B pn F H G a (.lst ds)) : Fre K B pn F H G a ds :=
  ⟨f.nF, f.nB, f.nG, f.nP, by obtain ⟨o, e, xs, eo, r⟩ := f.ex; subst eo; exact ⟨xs, e, r⟩⟩

/-- the slots that are filled so far -/
def RepO (K : PySem.W.Frag) (F : Hp) (fs : List (Option D)) (vs : List (Option V)) : Prop := fs.length = vs.length ∧ ∀ (i : Nat) (d : D), fs[i]? = some (some d) → ∃ v, vs[i]? = some (some v) ∧ Rep K F d v
def NewAt (K : PySem.W.Frag) (nw : Addr) (pn : Pend) (F : Hp) (o : Option (Option V)) (nm : Str) (fs : List (Option D)) : Prop :=
  ∃ (a C dx : Addr) (vs : List (Option V)), (a = nw ∧ o = some (some (V.ref a))) ∧ dx ≠ a ∧ ClsN K nm C ∧ RepO K F fs vs ∧ ((vs = [] ∧ (a, HO.ins C dx []) ∈ pn ∧ (dx, HO.own a) ∈ pn) ∨ ((a, SlX.SlO a C dx vs) ∈ pn ∧ (dx, HO.xd []) ∈ pn))
structure St3 (K : PySem.W.Frag) (B : Base3) (pn : Pend) (F H : Hp) (σ : L2.St) (E : Env3) (G : Reg) : Prop where
  w : Wld K F H G
  keepF : Same B.F F
  keepH : ∀ (a : Addr) (o : HO), B.H a = some o → a ∉ B.G → H a = some o
  unfr : ∀ (a : Addr) (o : HO), B.H a = some o → isTp o = false → B.F a = none → F a = none
  regs : ∀ a, a ∈ G.map (·.1) → a ∈ B.G ∨ B.H a = none
  regk : ∀ a, a ∈ B.G → a ∈ G.map (·.1)
  len : E.length = σ.length
  slot : ∀ (i : Nat) (d : D), E[i]? = some (Sl3.val d) → ∃ v, σ[i]? = some (some v) ∧ Rep K F d v
  own : ∀ (i : Nat) (s : Sl3) (d : D), E[i]? = some s → s.ow = some d → ∃ a, σ[i]? = some (some (V.ref a)) ∧ FreX K B pn F H G a d
  ownd : ∀ (i j : Nat) (s t : Sl3) (d e : D) (a : Addr), E[i]? = some s → E[j]? = some t → s.ow = some d → t.ow = some e → σ[i]? = some (some (V.ref a)) → σ[j]? = some (some (V.ref a)) → i = j
  pend : ∀ (a : Addr) (o : HO), (a, o) ∈ pn → H a = some o ∧ F a = none ∧ B.H a = none ∧ a ∉ G.map (·.1)
  pnd : (pn.map (·.1)).Nodup ∧ ∀ p ∈ pn, isTp p.2 = false
  news : ∀ (nm : Str) (fs : List (Option D)), E[0]? = some (Sl3.new nm fs) → NewAt K B.nw pn F σ[0]? nm fs
theorem RepO.mono {K : PySem.W.Frag} {F F' : Hp} (s : Same F F') {fs : List (Option D)} {vs : List (Option V)} (h : RepO K F fs vs) : RepO K F' fs vs :=
  ⟨h.1, fun i d e => by obtain ⟨v, h1, h2⟩ := h.2 i d e; exact ⟨v, h1, Rep.mono s _ _ h2⟩⟩
theorem NewAt.mono {K : PySem.W.Frag} {nw : Addr} {F F' : Hp} {pn : Pend} {o : Option (Option V)} {nm : Str} {fs : List (Option D)} (s : Same F F') (h : NewAt K nw pn F o nm fs) : NewAt K nw pn F' o nm fs := by
  obtain ⟨a, C, dx, vs, h1, h2, h3, h4, h5⟩ := h
  exact ⟨a, C, dx, vs, h1, h2, h3, h4.mono s, h5⟩
theorem NewAt.push {K : PySem.W.Frag} {nw : Addr} {F : Hp} {pn : Pend} {p : Addr × HO} {o : Option (Option V)} {nm : Str} {fs : List (Option D)} (h : NewAt K nw pn F o nm fs) : NewAt K nw (p :: pn) F o nm fs := by
  obtain ⟨a, C, dx, vs, h1, h2, h3, h4, h5⟩ := h
  exact ⟨a, C, dx, vs, h1, h2, h3, h4, h5.imp (fun ⟨x, y, z⟩ => ⟨x, List.mem_cons_of_mem _ y, List.mem_cons_of_mem _ z⟩) fun ⟨y, z⟩ => ⟨List.mem_cons_of_mem _ y, List.mem_cons_of_mem _ z⟩⟩
inductive Dat : HO → Prop
  | lst {xs : List V} : Dat (.lst xs)
  | dT {ob : Obj} {k : List (List Key × V)} : Dat (.frz ob (.dT k))
  | dK {ob : Obj} {k : List (Key × V)} : Dat (.frz ob (.dK k))
  | dTu {k : List (List Key × V)} : Dat (.dT k)
  | dKu {k : List (Key × V)} : Dat (.dK k)
theorem RepB.dat {K : PySem.W.Frag} {F : Hp} {d : D} {o : HO} (h : RepB K F d o) : Dat o := by
  cases d with
  | lst ds => obtain ⟨xs, rfl, _⟩ := h; exact .lst
  | dcT ks ds => obtain ⟨ob, xs, rfl, _⟩ := h; exact .dT
  | dcK ks ds => obtain ⟨ob, xs, rfl, _⟩ := h; exact .dK
  | _ => exact h.elim
theorem Dat.nt {o : HO} (h : Dat o) : isTp o = false := by cases h <;> rfl
theorem NewAt.pop {K : PySem.W.Frag} {nw : Addr} {F : Hp} {pn : Pend} {b : Addr} {u : HO} {o : Option (Option V)} {nm : Str} {fs : List (Option D)} (hd : Dat u) (h : NewAt K nw ((b, u) :: pn) F o nm fs) : NewAt K nw pn F o nm fs := by
  obtain ⟨a, C, dx, vs, h1, h2, h3, h4, h5⟩ := h
  refine ⟨a, C, dx, vs, h1, h2, h3, h4, h5.imp (fun ⟨x, y, z⟩ => ⟨x, ?_, ?_⟩) fun ⟨y, z⟩ => ⟨?_, ?_⟩⟩
  all_goals first
    | exact (List.mem_cons.mp y).elim (fun e => by cases e; cases hd) id
    | exact (List.mem_cons.mp z).elim (fun e => by cases e; cases hd) id

/-- no slot of ours holds the list at a -/
def NoOwn (σ : L2.St) (E : Env3) (a : Addr) : Prop := ∀ (i : Nat) (s : Sl3) (d : D), E[i]? = some s → s.ow = some d → σ[i]? ≠ some (some (V.ref a))
theorem St3.ownL {K : PySem.W.Frag} {B : Base3} {pn : Pend} {F H : Hp} {σ : L2.St} {E : Env3} {G : Reg} (S : St3 K B pn F H σ E G) (i : Nat) (ds : List D) (h : E[i]? = some (Sl3.own ds)) : ∃ a, σ[i]? = some (some (V.ref a)) ∧ Fre K B pn F H G a ds := by
  obtain ⟨a, h1, f⟩ := S.own i _ _ h rfl
  exact ⟨a, h1, f.l⟩
theorem same_upd {F : Hp} {p : Addr} {o : HO} (n : F p = none) : Same F (upd F p o) := fun b u h => by
  rw [upd_ne (ne_of_none h n)]; exact h

section
variable {K : PySem.W.Frag} {B : Base3} {pn : Pend} {F H : Hp} {σ : L2.St} {E : Env3} {G : Reg}
theorem regMem {a : Addr} {G : Reg} (h : a ∈ G.map (·.1)) : ∃ ds, (a, ds) ∈ G := by
  obtain ⟨p, hp, rfl⟩ := List.mem_map.mp h
  exact ⟨p.2, hp⟩
theorem Wld.regH (w : Wld K F H G) {a : Addr} (h : a ∈ G.map (·.1)) : ∃ o, H a = some o := by
  obtain ⟨ds, hd⟩ := regMem h
  obtain ⟨_, xs, e, _⟩ := w.reg a ds hd
  exact ⟨_, e⟩
theorem St3.baseNone (S : St3 K B pn F H σ E G) {p : Addr} (n : H p = none) : B.H p = none := by
  cases q : B.H p with
  | none => rfl
  | some o =>
    by_cases hg : p ∈ B.G
    · obtain ⟨o', e⟩ := S.w.regH (S.regk p hg)
      rw [n] at e; cases e
    · have := S.keepH p o q hg
      rw [n] at this; cases this
theorem Wld.fNone (w : Wld K F H G) {p : Addr} (n : H p = none) : F p = none := by
  cases q : F p with
  | none => rfl
  | some o => have := w.sub p o q; rw [n] at this; cases this
/-- an object laid at a free place, frozen at once -/
theorem St3.newF (S : St3 K B pn F H σ E G) {p : Addr} {o : HO} (n : H p = none) : St3 K B pn (upd F p o) (upd H p o) σ E G ∧ Same F (upd F p o) := by
  have nF := S.w.fNone n
  have sF : Same F (upd F p o) := same_upd nF
  have sH : Same H (upd H p o) := same_upd n
  have nB := S.baseNone n
  refine ⟨⟨⟨fun a u h => ?_, fun a ds h => ?_, S.w.nd⟩, fun a u h => sF _ _ (S.keepF a u h), fun a u h hg => sH _ _ (S.keepH a u h hg), fun a u h ht h2 => ?_, S.regs, S.regk, S.len, fun i d h => ?_, fun i s d h ho => ?_, S.ownd, fun a xs h => ?_, S.pnd, fun nm fs h => (S.news nm fs h).mono sF⟩, sF⟩
  · unfold upd at h ⊢
    split at h
    · rename_i e; rw [if_pos e]; exact h
    · rename_i e; rw [if_neg e]; exact S.w.sub a u h
  · obtain ⟨h1, xs, h2, h3⟩ := S.w.reg a ds h
    have ne : a ≠ p := ne_of_none h2 n
    exact ⟨by rw [upd_ne ne]; exact h1, xs, by rw [upd_ne ne]; exact h2, RegO.mono sF h3⟩
  · have ne : a ≠ p := ne_of_none h nB
    rw [upd_ne ne]; exact S.unfr a u h ht h2
  · obtain ⟨v, h1, h2⟩ := S.slot i d h
    exact ⟨v, h1, Rep.mono sF _ _ h2⟩
  · obtain ⟨a, h1, f⟩ := S.own i s d h ho
    obtain ⟨xs, e, r⟩ := f.ex
    have ne : a ≠ p := ne_of_none e n
    exact ⟨a, h1, ⟨by rw [upd_ne ne]; exact f.nF, f.nB, f.nG, f.nP, xs, by rw [upd_ne ne]; exact e, RepB.mono sF r⟩⟩
  · obtain ⟨h1, h2, h3, h4⟩ := S.pend a xs h
    have ne : a ≠ p := ne_of_none h1 n
    exact ⟨by rw [upd_ne ne]; exact h1, by rw [upd_ne ne]; exact h2, h3, h4⟩
/-- an object laid at a free place, left free -/
theorem St3.newU (S : St3 K B pn F H σ E G) {p : Addr} {o : HO} (n : H p = none) : St3 K B pn F (upd H p o) σ E G := by
  have nF := S.w.fNone n
  have sH : Same H (upd H p o) := same_upd n
  refine ⟨⟨fun a u h => sH _ _ (S.w.sub a u h), fun a ds h => ?_, S.w.nd⟩, S.keepF, fun a u h hg => sH _ _ (S.keepH a u h hg), S.unfr, S.regs, S.regk, S.len, S.slot, fun i s d h ho => ?_, S.ownd, fun a xs h => ?_, S.pnd, S.news⟩
  · obtain ⟨h1, xs, h2, h3⟩ := S.w.reg a ds h
    exact ⟨h1, xs, sH _ _ h2, h3⟩
  · obtain ⟨a, h1, f⟩ := S.own i s d h ho
    obtain ⟨xs, e, r⟩ := f.ex
    exact ⟨a, h1, ⟨f.nF, f.nB, f.nG, f.nP, xs, sH _ _ e, r⟩⟩
  · obtain ⟨h1, h2⟩ := S.pend a xs h
    exact ⟨sH _ _ h1, h2⟩
theorem St3.newNo (S : St3 K B pn F H σ E G) {p : Addr} (n : H p = none) : NoOwn σ E p := fun i s d h ho e => by
  obtain ⟨a, h1, f⟩ := S.own i s d h ho
  rw [e] at h1
  cases h1
  obtain ⟨xs, q, _⟩ := f.ex
  rw [n] at q; cases q
theorem St3.newFreX (S : St3 K B pn F H σ E G) {p : Addr} {o : HO} {d : D} (n : H p = none) (r : RepB K F d o) : FreX K B pn F (upd H p o) G p d ∧ NoOwn σ E p := by
  refine ⟨⟨S.w.fNone n, S.baseNone n, fun h => ?_, fun h => ?_, o, upd_same, r⟩, S.newNo n⟩
  · obtain ⟨o, q⟩ := S.w.regH h
    rw [n] at q; cases q
  · obtain ⟨q, hq, rfl⟩ := List.mem_map.mp h
    have := (S.pend q.1 q.2 hq).1
    rw [n] at this; cases this
theorem St3.newFre (S : St3 K B pn F H σ E G) {p : Addr} {xs : List V} {ds : List D} (n : H p = none) (r : RepL K F ds xs) : Fre K B pn F (upd H p (.lst xs)) G p ds ∧ NoOwn σ E p := by
  obtain ⟨f, no⟩ := S.newFreX (d := .lst ds) n ⟨xs, rfl, r⟩
  exact ⟨f.l, no⟩
/-- an object that nothing of ours names freezes -/
theorem St3.freezeAt (S : St3 K B pn F H σ E G) {a : Addr} {o : HO} (nF : F a = none) (nB : B.H a = none) (nG : a ∉ G.map (·.1)) (nP : a ∉ pn.map (·.1)) (no : NoOwn σ E a) (e : H a = some o) : St3 K B pn (upd F a o) H σ E G ∧ Same F (upd F a o) := by
  have sF : Same F (upd F a o) := same_upd nF
  refine ⟨⟨⟨fun b u h => ?_, fun b es h => ?_, S.w.nd⟩, fun b u h => sF _ _ (S.keepF b u h), S.keepH, fun b u h ht h2 => ?_, S.regs, S.regk, S.len, fun i d h => ?_, fun i s d h ho => ?_, S.ownd, fun b ys h => ?_, S.pnd, fun nm fs h => (S.news nm fs h).mono sF⟩, sF⟩
  · unfold upd at h
    split at h
    · rename_i q; subst q; rw [e]; exact h
    · exact S.w.sub b u h
  · obtain ⟨h1, ys, h2, h3⟩ := S.w.reg b es h
    have ne : b ≠ a := fun z => nG (by rw [← z]; exact List.mem_map.mpr ⟨_, h, rfl⟩)
    exact ⟨by rw [upd_ne ne]; exact h1, ys, h2, RegO.mono sF h3⟩
  · rw [upd_ne (ne_of_none h nB)]; exact S.unfr b u h ht h2
  · obtain ⟨v, h1, h2⟩ := S.slot i d h
    exact ⟨v, h1, Rep.mono sF _ _ h2⟩
  · obtain ⟨b, h1, g⟩ := S.own i s d h ho
    obtain ⟨ys, e2, r2⟩ := g.ex
    have ne : b ≠ a := fun z => no i s d h ho (by rw [← z]; exact h1)
    exact ⟨b, h1, ⟨by rw [upd_ne ne]; exact g.nF, g.nB, g.nG, g.nP, ys, e2, RepB.mono sF r2⟩⟩
  · obtain ⟨h1, h2, h3, h4⟩ := S.pend b ys h
    have ne : b ≠ a := fun z => nP (by rw [← z]; exact List.mem_map.mpr ⟨_, h, rfl⟩)
    exact ⟨h1, by rw [upd_ne ne]; exact h2, h3, h4⟩
/-- a tuple of the heap may always be told -/
theorem St3.seeTup (S : St3 K B pn F H σ E G) {q : Addr} {xs : List V} (e : H q = some (.tup xs)) : ∃ F', St3 K B pn F' H σ E G ∧ Same F F' ∧ F' q = some (.tup xs) := by
  cases hq : F q with
  | some u =>
    have := S.w.sub _ _ hq
    rw [e] at this
    cases this
    exact ⟨F, S, Same.refl F, hq⟩
  | none =>
    have sF : Same F (upd F q (.tup xs)) := same_upd hq
    refine ⟨upd F q (.tup xs), ⟨⟨fun b u h => ?_, fun b es h => ?_, S.w.nd⟩, fun b u h => sF _ _ (S.keepF b u h), S.keepH, fun b u h ht h2 => ?_, S.regs, S.regk, S.len, fun i d h => ?_, fun i s d h ho => ?_, S.ownd, fun b ys h => ?_, S.pnd, fun nm fs h => (S.news nm fs h).mono sF⟩, sF, upd_same⟩
    · unfold upd at h
      split at h
      · rename_i z; subst z; rw [e]; exact h
      · exact S.w.sub b u h
    · obtain ⟨h1, o, h2, h3⟩ := S.w.reg b es h
      have ne : b ≠ q := fun z => by subst z; rw [e] at h2; cases h2; cases h3.nt
      exact ⟨by rw [upd_ne ne]; exact h1, o, h2, RegO.mono sF h3⟩
    · have hb := S.unfr b u h ht h2
      have ne : b ≠ q := fun z => by
        subst z
        by_cases hg : b ∈ B.G
        · obtain ⟨ds, hm⟩ := regMem (S.regk b hg)
          obtain ⟨_, o, h3, h4⟩ := S.w.reg b ds hm
          rw [e] at h3; cases h3; cases h4.nt
        · have := S.keepH b u h hg
          rw [e] at this; cases this; cases ht
      rw [upd_ne ne]; exact hb
    · obtain ⟨v, h1, h2⟩ := S.slot i d h
      exact ⟨v, h1, Rep.mono sF _ _ h2⟩
    · obtain ⟨b, h1, g⟩ := S.own i s d h ho
      obtain ⟨ys, e2, r2⟩ := g.ex
      have ne : b ≠ q := fun z => by subst z; rw [e] at e2; cases e2; cases r2.dat
      exact ⟨b, h1, ⟨by rw [upd_ne ne]; exact g.nF, g.nB, g.nG, g.nP, ys, e2, RepB.mono sF r2⟩⟩
    · obtain ⟨h1, h2, h3, h4⟩ := S.pend b ys h
      have ne : b ≠ q := fun z => by subst z; rw [e] at h1; cases h1; cases S.pnd.2 _ h
      exact ⟨h1, by rw [upd_ne ne]; exact h2, h3, h4⟩
/-- a free object freezes -/
theorem St3.freezeX (S : St3 K B pn F H σ E G) {a : Addr} {d : D} (f : FreX K B pn F H G a d) (no : NoOwn σ E a) : ∃ F', St3 K B pn F' H σ E G ∧ Same F F' ∧ Rep K F' d (.ref a) := by
  obtain ⟨o, e, r⟩ := f.ex
  obtain ⟨S2, s⟩ := S.freezeAt f.nF f.nB f.nG f.nP no e
  exact ⟨_, S2, s, (r.mono s).rep upd_same⟩
/-- a free list freezes -/
theorem St3.freeze (S : St3 K B pn F H σ E G) {a : Addr} {ds : List D} (f : Fre K B pn F H G a ds) (no : NoOwn σ E a) : ∃ F', St3 K B pn F' H σ E G ∧ Same F F' ∧ Rep K F' (.lst ds) (.ref a) := S.freezeX f.x no
/-- a slot's content becomes unknown to us -/
theorem St3.forget (S : St3 K B pn F H σ E G) (i : Nat) : St3 K B pn F H σ (E.set i Sl3.no) G := by
  have look : ∀ {j : Nat} {s : Sl3}, s ≠ Sl3.no → (E.set i Sl3.no)[j]? = some s → E[j]? = some s := fun {j s} hs h => by
    by_cases q : i = j
    · subst q
      rw [List.getElem?_set] at h
      simp only [if_true] at h
      split at h
      · cases h; exact absurd rfl hs
      · cases h
    · rw [List.getElem?_set_ne q] at h; exact h
  have ne : ∀ {s : Sl3} {d : D}, s.ow = some d → s ≠ Sl3.no := fun h q => by subst q; cases h
  exact ⟨S.w, S.keepF, S.keepH, S.unfr, S.regs, S.regk, by rw [List.length_set]; exact S.len, fun j d h => S.slot j d (look (fun q => nomatch q) h), fun j s d h ho => S.own j s d (look (ne ho) h) ho,
    fun j k s t d e a h1 h2 o1 o2 => S.ownd j k s t d e a (look (ne o1) h1) (look (ne o2) h2) o1 o2, S.pend, S.pnd, fun nm fs h => S.news nm fs (look (fun q => nomatch q) h)⟩
theorem set_look {E : Env3} {i j : Nat} {s t : Sl3} (h : (E.set i t)[j]? = some s) : (i = j ∧ s = t) ∨ (i ≠ j ∧ E[j]? = some s) := by
  by_cases q : i = j
  · subst q
    rw [List.getElem?_set] at h
    simp only [if_true] at h
    split at h
    · cases h; exact .inl ⟨rfl, rfl⟩
    · cases h
  · rw [List.getElem?_set_ne q] at h; exact .inr ⟨q, h⟩
/-- a slot that owns an object freezes it -/
theorem St3.freezeSlotX (S : St3 K B pn F H σ E G) {i : Nat} {s : Sl3} {d : D} {v : V} (h : E[i]? = some s) (ho : s.ow = some d) (hv : σ[i]? = some (some v)) : ∃ F', St3 K B pn F' H σ (E.set i (Sl3.val d)) G ∧ Same F F' ∧ Rep K F' d v := by
  obtain ⟨a, h1, f⟩ := S.own i s d h ho
  rw [hv] at h1
  cases h1
  have S2 := S.forget i
  obtain ⟨F', S3, sm, r⟩ := S2.freezeX f (fun j t e hj ht q => by
    rcases set_look hj with ⟨_, z⟩ | ⟨ne, z⟩
    · subst z; cases ht
    · exact ne (S.ownd i j s t d e a h z ho ht hv q))
  refine ⟨F', ⟨S3.w, S3.keepF, S3.keepH, S3.unfr, S3.regs, S3.regk, by rw [List.length_set]; exact S.len, fun j e hj => ?_, fun j t e hj ht => ?_, fun j k t u e g b h1 h2 o1 o2 => ?_, S3.pend, S3.pnd, fun nm fs h => ?_⟩, sm, r⟩
  · rcases set_look hj with ⟨q, z⟩ | ⟨ne, z⟩
    · cases z; subst q; exact ⟨_, hv, r⟩
    · exact S3.slot j e (by rw [List.getElem?_set_ne ne]; exact z)
  · rcases set_look hj with ⟨q, z⟩ | ⟨ne, z⟩
    · subst z; cases ht
    · exact S3.own j t e (by rw [List.getElem?_set_ne ne]; exact z) ht
  · rcases set_look h1 with ⟨q, z⟩ | ⟨ne, z⟩
    · subst z; cases o1
    · rcases set_look h2 with ⟨q', z'⟩ | ⟨ne', z'⟩
      · subst z'; cases o2
      · exact S.ownd j k t u e g b z z' o1 o2
  · rcases set_look h with ⟨q, z⟩ | ⟨ne, z⟩
    · cases z
    · exact S3.news nm fs (by rw [List.getElem?_set_ne ne]; exact z)
theorem St3.freezeSlot (S : St3 K B pn F H σ E G) {i : Nat} {ds : List D} {v : V} (h : E[i]? = some (Sl3.own ds)) (hv : σ[i]? = some (some v)) : ∃ F', St3 K B pn F' H σ (E.set i (Sl3.val (.lst ds))) G ∧ Same F F' ∧ Rep K F' (.lst ds) v := S.freezeSlotX h rfl hv
theorem setσ_look {σ : L2.St} {i j : Nat} {v : Option V} : i < σ.length → (σ.set i v)[j]? = if i = j then some v else σ[j]? := fun hl => by
  by_cases q : i = j
  · subst q; rw [List.getElem?_set_self hl, if_pos rfl]
  · rw [List.getElem?_set_ne q, if_neg q]
theorem lt_of_look {α : Type} {l : List α} {i : Nat} {x : α} (h : l[i]? = some x) : i < l.length := (List.getElem?_eq_some_iff.mp h).1
/-- a slot is set to a value -/
theorem St3.setVal (S : St3 K B pn F H σ E G) {i : Nat} {d : D} {v : V} (hi : i < σ.length) (r : Rep K F d v) : St3 K B pn F H (σ.set i (some v)) (E.set i (Sl3.val d)) G := by
  refine ⟨S.w, S.keepF, S.keepH, S.unfr, S.regs, S.regk, by rw [List.length_set, List.length_set]; exact S.len, fun j e h => ?_, fun j s e h ho => ?_, fun j k s t e g a h1 h2 o1 o2 h3 h4 => ?_, S.pend, S.pnd, fun nm fs h => ?_⟩
  · rw [setσ_look hi]
    rcases set_look h with ⟨q, z⟩ | ⟨ne, z⟩
    · cases z; rw [if_pos q]; exact ⟨v, rfl, r⟩
    · rw [if_neg ne]; exact S.slot j e z
  · rw [setσ_look hi]
    rcases set_look h with ⟨q, z⟩ | ⟨ne, z⟩
    · subst z; cases ho
    · rw [if_neg ne]; exact S.own j s e z ho
  · rcases set_look h1 with ⟨q, z⟩ | ⟨ne, z⟩
    · subst z; cases o1
    rcases set_look h2 with ⟨q', z'⟩ | ⟨ne', z'⟩
    · subst z'; cases o2
    rw [setσ_look hi, if_neg ne] at h3
    rw [setσ_look hi, if_neg ne'] at h4
    exact S.ownd j k s t e g a z z' o1 o2 h3 h4
  · rcases set_look h with ⟨q, z⟩ | ⟨ne, z⟩
    · cases z
    · rw [setσ_look hi, if_neg ne]; exact S.news nm fs z
/-- a slot takes a free object -/
theorem St3.setOwnX (S : St3 K B pn F H σ E G) {i : Nat} {s : Sl3} {d : D} {a : Addr} (hi : i < σ.length) (f : FreX K B pn F H G a d) (hs : s.ow = some d) (no : NoOwn σ E a) : St3 K B pn F H (σ.set i (some (V.ref a))) (E.set i s) G := by
  refine ⟨S.w, S.keepF, S.keepH, S.unfr, S.regs, S.regk, by rw [List.length_set, List.length_set]; exact S.len, fun j e h => ?_, fun j t e h ho => ?_, fun j k t u e g b h1 h2 o1 o2 h3 h4 => ?_, S.pend, S.pnd, fun nm fs h => ?_⟩
  · rw [setσ_look hi]
    rcases set_look h with ⟨q, z⟩ | ⟨ne, z⟩
    · subst z; cases hs
    · rw [if_neg ne]; exact S.slot j e z
  · rw [setσ_look hi]
    rcases set_look h with ⟨q, z⟩ | ⟨ne, z⟩
    · subst z
      rw [hs] at ho
      cases ho
      rw [if_pos q]; exact ⟨a, rfl, f⟩
    · rw [if_neg ne]; exact S.own j t e z ho
  · rw [setσ_look hi] at h3 h4
    rcases set_look h1 with ⟨q, z⟩ | ⟨ne, z⟩
    · rcases set_look h2 with ⟨q', z'⟩ | ⟨ne', z'⟩
      · omega
      · rw [if_pos q] at h3
        rw [if_neg ne'] at h4
        cases h3
        exact absurd h4 (no k u g z' o2)
    · rcases set_look h2 with ⟨q', z'⟩ | ⟨ne', z'⟩
      · rw [if_neg ne] at h3
        rw [if_pos q'] at h4
        cases h4
        exact absurd h3 (no j t e z o1)
      · rw [if_neg ne] at h3
        rw [if_neg ne'] at h4
        exact S.ownd j k t u e g b z z' o1 o2 h3 h4
  · rcases set_look h with ⟨q, z⟩ | ⟨ne, z⟩
    · subst z; cases hs
    · rw [setσ_look hi, if_neg ne]; exact S.news nm fs z
/-- a slot takes a free list -/
theorem St3.setOwn (S : St3 K B pn F H σ E G) {i : Nat} {ds : List D} {a : Addr} (hi : i < σ.length) (f : Fre K B pn F H G a ds) (no : NoOwn σ E a) : St3 K B pn F H (σ.set i (some (V.ref a))) (E.set i (Sl3.own ds)) G := S.setOwnX hi f.x rfl no
/-- the object that a slot owns is written -/
theorem St3.ownWriteX (S : St3 K B pn F H σ E G) {i : Nat} {s t : Sl3} {d e : D} {a : Addr} {o : HO} (h : E[i]? = some s) (hs : s.ow = some d) (hv : σ[i]? = some (some (V.ref a))) (ht : t.ow = some e) (r : RepB K F e o) : St3 K B pn F (upd H a o) σ (E.set i t) G := by
  obtain ⟨a', h1, f⟩ := S.own i s d h hs
  rw [hv] at h1
  cases h1
  obtain ⟨xs, ea, _⟩ := f.ex
  refine ⟨⟨fun b u hb => ?_, fun b fs hb => ?_, S.w.nd⟩, S.keepF, fun b u hb hg => ?_, S.unfr, S.regs, S.regk, by rw [List.length_set]; exact S.len, fun j g hj => ?_, fun j u g hj hu => ?_, fun j k u w g g' b h1 h2 o1 o2 h3 h4 => ?_, fun b zs hb => ?_, S.pnd, fun nm fs h => ?_⟩
  · have ne : b ≠ a := ne_of_none hb f.nF
    rw [upd_ne ne]; exact S.w.sub b u hb
  · obtain ⟨h1, zs, h2, h3⟩ := S.w.reg b fs hb
    have ne : b ≠ a := fun z => f.nG (by rw [← z]; exact List.mem_map.mpr ⟨_, hb, rfl⟩)
    exact ⟨h1, zs, by rw [upd_ne ne]; exact h2, h3⟩
  · have ne : b ≠ a := ne_of_none hb f.nB
    rw [upd_ne ne]; exact S.keepH b u hb hg
  · rcases set_look hj with ⟨q, z⟩ | ⟨ne, z⟩
    · subst z; cases ht
    · exact S.slot j g z
  · rcases set_look hj with ⟨q, z⟩ | ⟨ne, z⟩
    · subst z
      rw [ht] at hu
      cases hu
      subst q
      exact ⟨a, hv, ⟨f.nF, f.nB, f.nG, f.nP, o, upd_same, r⟩⟩
    · obtain ⟨b, e1, g2⟩ := S.own j u g z hu
      obtain ⟨zs, e2, r2⟩ := g2.ex
      have nab : b ≠ a := fun q => ne (S.ownd i j s u d g a h z hs hu hv (by rw [← q]; exact e1))
      exact ⟨b, e1, ⟨g2.nF, g2.nB, g2.nG, g2.nP, zs, by rw [upd_ne nab]; exact e2, r2⟩⟩
  · have w1 : ∃ s' d', E[j]? = some s' ∧ s'.ow = some d' := by
      rcases set_look h1 with ⟨q, z⟩ | ⟨ne, z⟩
      · subst q; exact ⟨_, _, h, hs⟩
      · exact ⟨_, _, z, o1⟩
    have w2 : ∃ s' d', E[k]? = some s' ∧ s'.ow = some d' := by
      rcases set_look h2 with ⟨q, z⟩ | ⟨ne, z⟩
      · subst q; exact ⟨_, _, h, hs⟩
      · exact ⟨_, _, z, o2⟩
    obtain ⟨_, _, w1, p1⟩ := w1
    obtain ⟨_, _, w2, p2⟩ := w2
    exact S.ownd j k _ _ _ _ b w1 w2 p1 p2 h3 h4
  · obtain ⟨h1, h2, h3, h4⟩ := S.pend b zs hb
    have ne : b ≠ a := fun z => f.nP (by rw [← z]; exact List.mem_map.mpr ⟨_, hb, rfl⟩)
    exact ⟨by rw [upd_ne ne]; exact h1, h2, h3, h4⟩
  · rcases set_look h with ⟨q, z⟩ | ⟨ne, z⟩
    · subst z; cases ht
    · exact S.news nm fs z
/-- the list that a slot owns is written -/
theorem St3.ownWrite (S : St3 K B pn F H σ E G) {i : Nat} {ds es : List D} {a : Addr} {ys : List V} (h : E[i]? = some (Sl3.own ds)) (hv : σ[i]? = some (some (V.ref a))) (r : RepL K F es ys) : St3 K B pn F (upd H a (.lst ys)) σ (E.set i (Sl3.own es)) G :=
  S.ownWriteX h rfl hv (t := Sl3.own es) (e := .lst es) rfl ⟨ys, rfl, r⟩
def regSet : Reg → Addr → List D → Reg
  | [], _, _ => []
  | (b, ds) :: r, a, es => if b = a then (a, es) :: r else (b, ds) :: regSet r a es
theorem regSet_dom (a : Addr) (es : List D) : ∀ G : Reg, (regSet G a es).map (·.1) = G.map (·.1)
  | [] => rfl
  | (b, ds) :: r => by
    unfold regSet
    by_cases h : b = a
    · rw [if_pos h, List.map_cons, List.map_cons]; subst h; rfl
    · rw [if_neg h, List.map_cons, List.map_cons, regSet_dom a es r]
theorem regSet_mem {a b : Addr} {es fs : List D} : ∀ {G : Reg}, (G.map (·.1)).Nodup → (b, fs) ∈ regSet G a es → (b = a ∧ fs = es) ∨ ((b, fs) ∈ G ∧ b ≠ a)
  | [], _, h => by cases h
  | (c, ds) :: r, nd, h => by
    unfold regSet at h
    rw [List.map_cons] at nd
    have nd' := List.nodup_cons.mp nd
    by_cases q : c = a
    · rw [if_pos q] at h
      rcases List.mem_cons.mp h with h | h
      · cases h; exact .inl ⟨rfl, rfl⟩
      · refine .inr ⟨List.mem_cons_of_mem _ h, fun e => nd'.1 ?_⟩
        show c ∈ _
        rw [q, ← e]
        exact List.mem_map.mpr ⟨_, h, rfl⟩
    · rw [if_neg q] at h
      rcases List.mem_cons.mp h with h | h
      · cases h; exact .inr ⟨List.mem_cons_self, q⟩
      · rcases regSet_mem nd'.2 h with z | ⟨z, ne⟩
        · exact .inl z
        · exact .inr ⟨List.mem_cons_of_mem _ z, ne⟩
/-- a register is written -/
theorem St3.regWrite (S : St3 K B pn F H σ E G) {ds es : List D} {a : Addr} {ys : List V} (h : (a, ds) ∈ G) (r : RepL K F es ys) : St3 K B pn F (upd H a (.lst ys)) σ E (regSet G a es) := by
  obtain ⟨nF, xs, ea, _⟩ := S.w.reg a ds h
  have ha : a ∈ G.map (·.1) := List.mem_map.mpr ⟨_, h, rfl⟩
  refine ⟨⟨fun b u hb => ?_, fun b fs hb => ?_, by rw [regSet_dom]; exact S.w.nd⟩, S.keepF, fun b u hb hg => ?_, S.unfr, by rw [regSet_dom]; exact S.regs, by rw [regSet_dom]; exact S.regk, S.len, S.slot, fun j s d hj ho => ?_, S.ownd, fun b zs hb => ?_, S.pnd, S.news⟩
  · have ne : b ≠ a := ne_of_none hb nF
    rw [upd_ne ne]; exact S.w.sub b u hb
  · rcases regSet_mem S.w.nd hb with ⟨e1, e2⟩ | ⟨hp, q⟩
    · subst e1 e2
      exact ⟨nF, _, upd_same, .lst r⟩
    · obtain ⟨h1, zs, h2, h3⟩ := S.w.reg b fs hp
      exact ⟨h1, zs, by rw [upd_ne q]; exact h2, h3⟩
  · rcases S.regs a ha with z | z
    · have ne : b ≠ a := fun q => hg (by rw [q]; exact z)
      rw [upd_ne ne]; exact S.keepH b u hb hg
    · have ne : b ≠ a := ne_of_none hb z
      rw [upd_ne ne]; exact S.keepH b u hb hg
  · obtain ⟨b, e1, g⟩ := S.own j s d hj ho
    obtain ⟨zs, e2, r2⟩ := g.ex
    have nab : b ≠ a := fun q => g.nG (by rw [q]; exact ha)
    exact ⟨b, e1, ⟨g.nF, g.nB, by rw [regSet_dom]; exact g.nG, g.nP, zs, by rw [upd_ne nab]; exact e2, r2⟩⟩
  · obtain ⟨h1, h2, h3, h4⟩ := S.pend b zs hb
    have ne : b ≠ a := fun z => h4 (by rw [z]; exact ha)
    exact ⟨by rw [upd_ne ne]; exact h1, h2, h3, by rw [regSet_dom]; exact h4⟩
/-- a free list becomes pending, comes back -/
theorem St3.pendOn (S : St3 K B pn F H σ E G) {a : Addr} {o : HO} (hF : F a = none) (hB : B.H a = none) (hG : a ∉ G.map (·.1)) (hP : a ∉ pn.map (·.1)) (hH : H a = some o) (no : NoOwn σ E a) (nt : isTp o = false := by rfl) : St3 K B ((a, o) :: pn) F H σ E G := by
  refine ⟨S.w, S.keepF, S.keepH, S.unfr, S.regs, S.regk, S.len, S.slot, fun i s d h ho => ?_, S.ownd, fun b ys h => ?_, ?_, fun nm fs h => (S.news nm fs h).push⟩
  · obtain ⟨b, h1, f⟩ := S.own i s d h ho
    refine ⟨b, h1, ⟨f.nF, f.nB, f.nG, ?_, f.ex⟩⟩
    rw [List.map_cons]
    intro z
    rcases List.mem_cons.mp z with z | z
    · have z' : b = a := z
      exact no i s d h ho (by rw [← z']; exact h1)
    · exact f.nP z
  · rcases List.mem_cons.mp h with h | h
    · cases h; exact ⟨hH, hF, hB, hG⟩
    · exact S.pend b ys h
  · rw [List.map_cons]
    refine ⟨List.nodup_cons.mpr ⟨hP, S.pnd.1⟩, fun p hp => ?_⟩
    rcases List.mem_cons.mp hp with q | q
    · subst q; exact nt
    · exact S.pnd.2 p q
theorem St3.pendOff {a : Addr} {o : HO} (S : St3 K B ((a, o) :: pn) F H σ E G) (hd : Dat o := by exact .lst) : St3 K B pn F H σ E G ∧ F a = none ∧ B.H a = none ∧ a ∉ G.map (·.1) ∧ a ∉ pn.map (·.1) ∧ H a = some o ∧ NoOwn σ E a := by
  obtain ⟨h1, h2, h3, h4⟩ := S.pend a _ List.mem_cons_self
  have nd := S.pnd.1
  rw [List.map_cons] at nd
  refine ⟨⟨S.w, S.keepF, S.keepH, S.unfr, S.regs, S.regk, S.len, S.slot, fun i s d h ho => ?_, S.ownd, fun b ys h => S.pend b ys (List.mem_cons_of_mem _ h), ⟨(List.nodup_cons.mp nd).2, fun p hp => S.pnd.2 p (List.mem_cons_of_mem _ hp)⟩, fun nm fs h => (S.news nm fs h).pop hd⟩, h2, h3, h4, (List.nodup_cons.mp nd).1, h1, fun i s d h ho e => ?_⟩
  · obtain ⟨b, h1, f⟩ := S.own i s d h ho
    exact ⟨b, h1, ⟨f.nF, f.nB, f.nG, fun z => f.nP (by rw [List.map_cons]; exact List.mem_cons_of_mem _ z), f.ex⟩⟩
  · obtain ⟨b, e1, f⟩ := S.own i s d h ho
    rw [e] at e1
    cases e1
    exact f.nP (by rw [List.map_cons]; exact List.mem_cons_self)
/-- a pending list is written -/
theorem St3.pendWrite {a : Addr} {xs ys : List V} (S : St3 K B ((a, .lst xs) :: pn) F H σ E G) : St3 K B ((a, .lst ys) :: pn) F (upd H a (.lst ys)) σ E G := by
  obtain ⟨S0, hF, hB, hG, hP, hH, no⟩ := S.pendOff
  have S1 : St3 K B pn F (upd H a (.lst ys)) σ E G := by
    refine ⟨⟨fun b u hb => ?_, fun b fs hb => ?_, S.w.nd⟩, S.keepF, fun b u hb hg => ?_, S.unfr, S.regs, S.regk, S.len, S.slot, fun j s d hj ho => ?_, S.ownd, fun b zs hb => ?_, S0.pnd, S0.news⟩
    · have ne : b ≠ a := ne_of_none hb hF
      rw [upd_ne ne]; exact S.w.sub b u hb
    · obtain ⟨h1, zs, h2, h3⟩ := S.w.reg b fs hb
      have ne : b ≠ a := fun z => hG (by rw [← z]; exact List.mem_map.mpr ⟨_, hb, rfl⟩)
      exact ⟨h1, zs, by rw [upd_ne ne]; exact h2, h3⟩
    · have ne : b ≠ a := ne_of_none hb hB
      rw [upd_ne ne]; exact S.keepH b u hb hg
    · obtain ⟨b, e1, g⟩ := S0.own j s d hj ho
      obtain ⟨zs, e2, r2⟩ := g.ex
      have nab : b ≠ a := fun q => no j s d hj ho (by rw [← q]; exact e1)
      exact ⟨b, e1, ⟨g.nF, g.nB, g.nG, g.nP, zs, by rw [upd_ne nab]; exact e2, r2⟩⟩
    · obtain ⟨h1, h2, h3, h4⟩ := S0.pend b zs hb
      have ne : b ≠ a := fun z => hP (by rw [← z]; exact List.mem_map.mpr ⟨_, hb, rfl⟩)
      exact ⟨by rw [upd_ne ne]; exact h1, h2, h3, h4⟩
  exact S1.pendOn hF hB hG hP upd_same no
end
end L3

set_option Elab.async false
set_option maxRecDepth 100000
set_option maxHeartbeats 4000000
/-! L3, part b: judgements over plain values. -/
namespace L3
open PySem PySem.Spec PyProof.Rows L2

/-- what an expression gives: a value; the list that a slot owns; a list that stands free -/
inductive Res where
  | val (d : D) | sl (i : Nat) | fr (ds : List D)
  /-- a dict that stands free -/
  | frD (d : D)
abbrev DK := Res → Env3 → Reg → Prop
abbrev DE := Env3 → Reg → DK → Prop
abbrev DT := Env3 → Reg → (Bool → Env3 → Reg → Prop) → Prop
abbrev DA := Env3 → Reg → (List D → Env3 → Reg → Prop) → Prop
/-- an exception: its class's name, the field that it keeps -/
abbrev Exc3 := Str × Option (Str × D)
abbrev DW := Exc3 → Env3 → Reg → Prop

section
variable (K : PySem.W.Frag) (B : Base3) (pn : Pend) (F H : Hp) (σ : L2.St) (E : Env3) (G : Reg)
def RepR : Res → V → Prop
  | .val d, v => Rep K F d v
  | .sl i, v => σ[i]? = some (some v)
  | .fr ds, v => ∃ a, v = .ref a ∧ Fre K B pn F H G a ds ∧ NoOwn σ E a
  | .frD d, v => ∃ a, v = .ref a ∧ FreX K B pn F H G a d ∧ NoOwn σ E a
def RepH : D → V → Prop := fun d v => Rep K F d v ∨ ∃ a o, v = .ref a ∧ H a = some o ∧ RepB K F d o
end
/-- what it is worth where it is used -/
def Res.get (r : Res) (E : Env3) : Option D := match r with
  | .val d => some d
  | .fr ds => some (.lst ds)
  | .frD d => some d
  | .sl i => match E[i]? with
    | some (Sl3.val d) => some d
    | some (Sl3.own ds) => some (.lst ds)
    | some (Sl3.ownD d) => some d
    | _ => none
/-- frozen -/
def Res.fz : Res → Res
  | .val d => .val d
  | .sl i => .sl i
  | .fr ds => .val (.lst ds)
  | .frD d => .val d
/-- .. for good: the value, the slots behind it -/
def Res.ice (r : Res) (E : Env3) : Option (D × Env3) := match r with
  | .val d => some (d, E)
  | .fr ds => some (.lst ds, E)
  | .frD d => some (d, E)
  | .sl i => match E[i]? with
    | some (Sl3.val d) => some (d, E)
    | some (Sl3.own ds) => some (.lst ds, E.set i (Sl3.val (.lst ds)))
    | some (Sl3.ownD d) => some (d, E.set i (Sl3.val d))
    | _ => none

inductive RepHL (K : PySem.W.Frag) (F H : Hp) : List D → List V → Prop
  | nil : RepHL K F H [] []
  | cons {d : D} {ds : List D} {v : V} {vs : List V} : RepH K F H d v → RepHL K F H ds vs → RepHL K F H (d :: ds) (v :: vs)

section
variable {K : PySem.W.Frag} {B : Base3} {pn : Pend} {F F' H H' : Hp} {σ : L2.St} {E E' : Env3} {G G' : Reg}
theorem RepH.mono {d : D} {v : V} (r : RepH K F H d v) (e : Same F F') (h : ∀ a o, H a = some o → H' a = some o) : RepH K F' H' d v := by
  rcases r with r | ⟨a, o, rfl, h1, h2⟩
  · exact .inl (Rep.mono e _ _ r)
  · exact .inr ⟨a, o, rfl, h _ _ h1, h2.mono e⟩
theorem St3.resolve (S : St3 K B pn F H σ E G) {i : Nat} {v : V} {d : D} (hv : σ[i]? = some (some v)) (h : (Res.sl i).get E = some d) : RepH K F H d v := by
  unfold Res.get at h
  dsimp only at h
  split at h
  · rename_i d' q
    cases h
    obtain ⟨v', h1, h2⟩ := S.slot i d q
    rw [hv] at h1
    cases h1
    exact .inl h2
  · rename_i ds q
    cases h
    obtain ⟨a, h1, f⟩ := S.own i _ _ q rfl
    rw [hv] at h1
    cases h1
    obtain ⟨o, h2, h3⟩ := f.ex
    exact .inr ⟨a, o, rfl, h2, h3⟩
  · rename_i d' q
    cases h
    obtain ⟨a, h1, f⟩ := S.own i _ _ q rfl
    rw [hv] at h1
    cases h1
    obtain ⟨o, h2, h3⟩ := f.ex
    exact .inr ⟨a, o, rfl, h2, h3⟩
  · cases h
theorem St3.getH (S : St3 K B pn F H σ E G) {r : Res} {v : V} {d : D} (hr : RepR K B pn F H σ E G r v) (h : r.get E = some d) : RepH K F H d v := by
  cases r with
  | val d' => cases h; exact .inl hr
  | sl i => exact S.resolve hr h
  | fr ds =>
    cases h
    obtain ⟨a, rfl, f, _⟩ := hr
    obtain ⟨xs, h2, h3⟩ := f.ex
    exact .inr ⟨a, _, rfl, h2, xs, rfl, h3⟩
  | frD d' =>
    cases h
    obtain ⟨a, rfl, f, _⟩ := hr
    obtain ⟨o, h2, h3⟩ := f.ex
    exact .inr ⟨a, o, rfl, h2, h3⟩
/-- a free list freezes; the others stand -/
theorem St3.fz (S : St3 K B pn F H σ E G) {r : Res} {v : V} (hr : RepR K B pn F H σ E G r v) : ∃ F', St3 K B pn F' H σ E G ∧ Same F F' ∧ RepR K B pn F' H σ E G r.fz v := by
  cases r with
  | val d => exact ⟨F, S, Same.refl F, hr⟩
  | sl i => exact ⟨F, S, Same.refl F, hr⟩
  | fr ds =>
    obtain ⟨a, rfl, f, no⟩ := hr
    exact S.freeze f no
  | frD d =>
    obtain ⟨a, rfl, f, no⟩ := hr
    exact S.freezeX f no
/-- what is frozen keeps its sense further on -/
theorem RepR.onward {r : Res} {v : V} (hr : RepR K B pn F H σ E G r.fz v) (e : Same F F') : RepR K B pn F' H' σ E' G' r.fz v := by
  cases r with
  | val d => exact Rep.mono e _ _ hr
  | sl i => exact hr
  | fr ds => exact Rep.mono e _ _ hr
  | frD d => exact Rep.mono e _ _ hr
theorem St3.ice (S : St3 K B pn F H σ E G) {r : Res} {v : V} {d : D} {E' : Env3} (hr : RepR K B pn F H σ E G r v) (h : r.ice E = some (d, E')) : ∃ F', St3 K B pn F' H σ E' G ∧ Same F F' ∧ Rep K F' d v := by
  cases r with
  | val d' => cases h; exact ⟨F, S, Same.refl F, hr⟩
  | fr ds =>
    cases h
    obtain ⟨a, rfl, f, no⟩ := hr
    exact S.freeze f no
  | frD d' =>
    cases h
    obtain ⟨a, rfl, f, no⟩ := hr
    exact S.freezeX f no
  | sl i =>
    unfold Res.ice at h
    dsimp only at h
    split at h
    · rename_i d' q
      cases h
      obtain ⟨v', h1, h2⟩ := S.slot i d q
      have hr' : σ[i]? = some (some v) := hr
      rw [hr'] at h1
      cases h1
      exact ⟨F, S, Same.refl F, h2⟩
    · rename_i ds q
      cases h
      exact S.freezeSlot q hr
    · rename_i d' q
      cases h
      exact S.freezeSlotX q rfl hr
    · cases h
end

/-! ### the lifted readings -/
section
variable (K : PySem.W.Frag) (B : Base3)
def Lift (te : DE) : TE := fun σ H Q => ∃ pn F E G k, St3 K B pn F H σ E G ∧ te E G k ∧
  ∀ r E' G', k r E' G' → ∀ v F' H', St3 K B pn F' H' σ E' G' → Same F F' → RepR K B pn F' H' σ E' G' r v → Q v H'
def LiftT (tt : DT) : TT := fun σ H Q => ∃ pn F E G k, St3 K B pn F H σ E G ∧ tt E G k ∧
  ∀ b E' G', k b E' G' → ∀ F' H', St3 K B pn F' H' σ E' G' → Same F F' → Q b H'
/-- arguments, frozen -/
def LiftA (ta : DA) : TA := fun σ H Q => ∃ pn F E G k, St3 K B pn F H σ E G ∧ ta E G k ∧
  ∀ ds E' G', k ds E' G' → ∀ vs F' H', St3 K B pn F' H' σ E' G' → Same F F' → RepL K F' ds vs → Q vs H'
/-- arguments, as they stand at the call -/
def LiftP (ta : DA) : TA := fun σ H Q => ∃ pn F E G k, St3 K B pn F H σ E G ∧ ta E G k ∧
  ∀ ds E' G', k ds E' G' → ∀ vs F' H', St3 K B pn F' H' σ E' G' → Same F F' → RepHL K F' H' ds vs → Q vs H'
end
section
variable (X : Cx) (B : Base3)
structure LE (e : Expr) (te : DE) : Prop where
  pe : PE X e (Lift X.K B te)
structure LT (e : Expr) (tt : DT) : Prop where
  pt : PT X e (LiftT X.K B tt)
/-- a test whatever its 'whole' is -/
structure LW (e : Expr) (tt : DT) : Prop where
  pw : PW X e (LiftT X.K B tt)
structure LA (es : List Expr) (ta : DA) : Prop where
  pa : PA X es (LiftA X.K B ta)
structure LP (es : List Expr) (ta : DA) : Prop where
  pa : PA X es (LiftP X.K B ta)
end
section
variable {X : Cx}
theorem pe_imp {e : Expr} {t t' : TE} (h : PE X e t) (hi : ∀ σ H Q, t' σ H Q → t σ H Q) : PE X e t' := ⟨fun pins s σ H Q I hw => h.run pins s σ H Q I (hi σ H Q hw)⟩
theorem pt_imp {e : Expr} {t t' : TT} (h : PT X e t) (hi : ∀ σ H Q, t' σ H Q → t σ H Q) : PT X e t' := ⟨fun pins s σ H Q I hw => h.run pins s σ H Q I (hi σ H Q hw)⟩
theorem pw_imp {e : Expr} {t t' : TT} (h : PW X e t) (hi : ∀ σ H Q, t' σ H Q → t σ H Q) : PW X e t' := ⟨fun wh pins s σ H Q I hw => h.run wh pins s σ H Q I (hi σ H Q hw)⟩
theorem pa_imp {e : List Expr} {t t' : TA} (h : PA X e t) (hi : ∀ σ H Q, t' σ H Q → t σ H Q) : PA X e t' := ⟨fun pos pins s σ H Q I hw => h.run pos pins s σ H Q I (hi σ H Q hw)⟩
theorem ps_imp {e : Stmt} {t t' : TS} (h : PS X e t) (hi : ∀ D σ H, t' D σ H → t D σ H) : PS X e t' := ⟨fun pins s σ H D I hw => h.run pins s σ H D I (hi D σ H hw)⟩
theorem pss_imp {e : List Stmt} {t t' : TS} (h : PSs X e t) (hi : ∀ D σ H, t' D σ H → t D σ H) : PSs X e t' := ⟨fun pins s σ H D I hw => h.run pins s σ H D I (hi D σ H hw)⟩
end

/-! ### names, constants -/
def dVar (i : Nat) : DE := fun E G k => match E[i]? with
  | some (Sl3.val d) => k (.val d) E G
  | some (Sl3.own _) => k (.sl i) E G
  | some (Sl3.ownD _) => k (.sl i) E G
  | _ => False
def dC (d : D) : DE := fun E G k => k (.val d) E G
section
variable {X : Cx} {B : Base3}
theorem le_pv {i : Nat} {e : Expr} (h : PE X e (tVar i)) : LE X B e (dVar i) := ⟨pe_imp h fun σ H Q ⟨pn, F, E, G, k, S, ht, hk⟩ => by
  unfold dVar at ht
  split at ht
  · rename_i d q
    obtain ⟨v, h1, h2⟩ := S.slot i d q
    exact ⟨v, h1, hk _ _ _ ht v F H S (Same.refl F) h2⟩
  · rename_i ds q
    obtain ⟨a, h1, h2⟩ := S.own i _ _ q rfl
    exact ⟨_, h1, hk _ _ _ ht _ F H S (Same.refl F) h1⟩
  · rename_i d q
    obtain ⟨a, h1, h2⟩ := S.own i _ _ q rfl
    exact ⟨_, h1, hk _ _ _ ht _ F H S (Same.refl F) h1⟩
  · exact ht.elim⟩
theorem le_c {d : D} {v : V} {e : Expr} (h : PE X e (tC v)) (r : ∀ F, Rep X.K F d v) : LE X B e (dC d) := ⟨pe_imp h fun σ H Q ⟨pn, F, E, G, k, S, ht, hk⟩ =>
  hk _ _ _ ht v F H S (Same.refl F) (r F)⟩
theorem le_int {i j pos} : LE X B (.Constant (.int i) j pos) (dC (.int i)) := le_c pe_int fun _ => .int i
theorem le_bl {b j pos} : LE X B (.Constant (.bool b) j pos) (dC (.bl b)) := le_c pe_bl fun _ => .bl b
theorem le_non {j pos} : LE X B (.Constant .none j pos) (dC .non) := le_c pe_non fun _ => .non
theorem le_str {x j pos} : LE X B (.Constant (.str x) j pos) (dC (.str x)) := le_c pe_str fun _ => .str x
end

/-! ### operators -/
/-- what an operator's reading makes of plain operands -/
def ROp (X : Cx) (B : Base3) (r : R2) (rd : Reg → D → D → (Res → Prop) → Prop) : Prop :=
  ∀ pn F H σ E G x y d e k Q, St3 X.K B pn F H σ E G → RepH X.K F H d x → RepH X.K F H e y → rd G d e k →
    (∀ res, k res → ∀ v F' H', St3 X.K B pn F' H' σ E G → Same F F' → RepR X.K B pn F' H' σ E G res v → Q v H') → r x y H Q
def dOp (rd : Reg → D → D → (Res → Prop) → Prop) (ta tb : DE) : DE := fun E G k => ta E G fun x E1 G1 => tb E1 G1 fun y E2 G2 =>
  ∃ d, x.fz.get E2 = some d ∧ ∃ e, y.get E2 = some e ∧ rd G2 d e fun r => k r E2 G2
section
variable {X : Cx} {B : Base3}
/-- two operands -/
theorem two {ta tb : DE} {σ : L2.St} {H : Hp} {Q : VK} {r : R2} {rd : Reg → D → D → (Res → Prop) → Prop} (hr : ROp X B r rd) (h : Lift X.K B (dOp rd ta tb) σ H Q) : tOp r (Lift X.K B ta) (Lift X.K B tb) σ H Q := by
  obtain ⟨pn, F, E, G, k, S, ht, hk⟩ := h
  refine ⟨pn, F, E, G, _, S, ht, fun x E1 G1 h1 v F1 H1 S1 s1 r1 => ?_⟩
  obtain ⟨F1', S1', s1', r1'⟩ := S1.fz r1
  refine ⟨pn, F1', E1, G1, _, S1', h1, fun y E2 G2 h2 u F2 H2 S2 s2 r2 => ?_⟩
  obtain ⟨d, hd, e, he, h3⟩ := h2
  refine hr pn F2 H2 σ E2 G2 v u d e _ Q S2 (S2.getH (r1'.onward s2) hd) (S2.getH r2 he) h3 fun res hres z F' H' S' s' rr => ?_
  exact hk _ _ _ hres z F' H' S' ((s1.trans s1').trans (s2.trans s')) rr
theorem le_op {op : Operator} {r : R2} {rd : Reg → D → D → (Res → Prop) → Prop} {a b : Expr} {ta tb : DE} {pos : Pos} (ho : OpR X (binaryOp op) r) (hr : ROp X B r rd) (ha : LE X B a ta) (hb : LE X B b tb) : LE X B (.BinOp a op b pos) (dOp rd ta tb) :=
  ⟨pe_imp (pe_op ho ha.pe hb.pe) fun _ _ _ h => two hr h⟩
theorem le_cmp {op : CmpOp} {r : R2} {rd : Reg → D → D → (Res → Prop) → Prop} {a b : Expr} {ta tb : DE} {pos : Pos} (ho : OpR X (compareOp op) r) (hr : ROp X B r rd) (ha : LE X B a ta) (hb : LE X B b tb) (hm : behindInMarks op b = false) : LE X B (.Compare a [op] [b] pos) (dOp rd ta tb) :=
  ⟨pe_imp (pe_cmpR ho ha.pe hb.pe hm) fun _ _ _ h => two hr h⟩
theorem le_ix {r : R2} {rd : Reg → D → D → (Res → Prop) → Prop} {a b : Expr} {ta tb : DE} {pos : Pos} (ho : IxR X r) (hr : ROp X B r rd) (ha : LE X B a ta) (hb : LE X B b tb) (hs : PlainIx b) : LE X B (.Subscript a b pos) (dOp rd ta tb) :=
  ⟨pe_imp (pe_ix ho ha.pe hb.pe hs) fun _ _ _ h => two hr h⟩

/-! ### tests -/
def dTest (te : DE) : DT := fun E G k => te E G fun r E1 G1 => ∃ b, r = .val (.bl b) ∧ k b E1 G1
theorem lt_val {e : Expr} {te : DE} (h : LE X B e te) (he : ∀ whole, isTrue e X.env whole = (do let v ← whole; standAt e.pos; holding [v] (truthy v)) := by intro _; rfl) : LT X B e (dTest te) :=
  ⟨pt_imp (pt_val h.pe he) fun σ H Q ⟨pn, F, E, G, k, S, ht, hk⟩ => ⟨pn, F, E, G, _, S, ht, fun r E1 G1 ⟨b, e1, h1⟩ v F1 H1 S1 s1 r1 => by
    subst e1
    cases r1
    exact ⟨b, rfl, hk _ _ _ h1 F1 H1 S1 s1⟩⟩⟩
theorem lt_cmp {op : CmpOp} {r : R2} {rd : Reg → D → D → (Res → Prop) → Prop} {a b : Expr} {ta tb : DE} {pos : Pos} (ho : OpR X (compareOp op) r) (hr : ROp X B r rd) (ha : LE X B a ta) (hb : LE X B b tb) (hm : behindInMarks op b = false) : LT X B (.Compare a [op] [b] pos) (dTest (dOp rd ta tb)) :=
  ⟨pt_imp (pt_cmpR ho ha.pe hb.pe hm) fun σ H Q ⟨pn, F, E, G, k, S, ht, hk⟩ => by
    refine two (Q := fun x H' => ∃ k, x = .bl k ∧ Q k H') hr ⟨pn, F, E, G, _, S, ht, fun r E1 G1 ⟨b, e1, h1⟩ v F1 H1 S1 s1 r1 => ?_⟩
    subst e1
    cases r1
    exact ⟨b, rfl, hk _ _ _ h1 F1 H1 S1 s1⟩⟩
def dNot (t : DT) : DT := fun E G k => t E G fun b E1 G1 => k (!b) E1 G1
def dAnd (t u : DT) : DT := fun E G k => t E G fun b E1 G1 => if b = true then u E1 G1 k else k false E1 G1
def dOr (t u : DT) : DT := fun E G k => t E G fun b E1 G1 => if b = true then k true E1 G1 else u E1 G1 k
theorem LW.lt {e : Expr} {t : DT} (h : LW X B e t) : LT X B e t := ⟨h.pw.pt⟩
theorem lt_not {a : Expr} {t : DT} {pos : Pos} (ha : LT X B a t) : LT X B (.UnaryOp .Not a pos) (dNot t) :=
  ⟨pt_imp (pt_not ha.pt) fun σ H Q ⟨pn, F, E, G, k, S, ht, hk⟩ => ⟨pn, F, E, G, _, S, ht, fun b E1 G1 h1 F1 H1 S1 s1 => hk _ _ _ h1 F1 H1 S1 s1⟩⟩
theorem lw_and1 {a : Expr} {t : DT} {pos : Pos} (ha : LT X B a t) : LW X B (.BoolOp .And [a] pos) t := ⟨pw_and1 ha.pt⟩
theorem lw_or1 {a : Expr} {t : DT} {pos : Pos} (ha : LT X B a t) : LW X B (.BoolOp .Or [a] pos) t := ⟨pw_or1 ha.pt⟩
theorem lw_and {a b : Expr} {rest : List Expr} {t u : DT} {pos : Pos} (ha : LT X B a t) (hb : LW X B (.BoolOp .And (b :: rest) pos) u) : LW X B (.BoolOp .And (a :: b :: rest) pos) (dAnd t u) :=
  ⟨pw_imp (pw_and ha.pt hb.pw) fun σ H Q ⟨pn, F, E, G, k, S, ht, hk⟩ => ⟨pn, F, E, G, _, S, ht, fun b E1 G1 h1 F1 H1 S1 s1 => by
    cases b with
    | true => exact ⟨pn, F1, E1, G1, k, S1, h1, fun b' E2 G2 h2 F2 H2 S2 s2 => hk _ _ _ h2 F2 H2 S2 (s1.trans s2)⟩
    | false => exact hk _ _ _ h1 F1 H1 S1 s1⟩⟩
theorem lw_or {a b : Expr} {rest : List Expr} {t u : DT} {pos : Pos} (ha : LT X B a t) (hb : LW X B (.BoolOp .Or (b :: rest) pos) u) : LW X B (.BoolOp .Or (a :: b :: rest) pos) (dOr t u) :=
  ⟨pw_imp (pw_or ha.pt hb.pw) fun σ H Q ⟨pn, F, E, G, k, S, ht, hk⟩ => ⟨pn, F, E, G, _, S, ht, fun b E1 G1 h1 F1 H1 S1 s1 => by
    cases b with
    | true => exact hk _ _ _ h1 F1 H1 S1 s1
    | false => exact ⟨pn, F1, E1, G1, k, S1, h1, fun b' E2 G2 h2 F2 H2 S2 s2 => hk _ _ _ h2 F2 H2 S2 (s1.trans s2)⟩⟩⟩
/-- .. as values -/
def dAndV (ta tb : DE) : DE := fun E G k => ta E G fun r E1 G1 => ∃ b, r = .val (.bl b) ∧ if b = true then tb E1 G1 k else k (.val (.bl false)) E1 G1
def dOrV (ta tb : DE) : DE := fun E G k => ta E G fun r E1 G1 => ∃ b, r = .val (.bl b) ∧ if b = true then k (.val (.bl true)) E1 G1 else tb E1 G1 k
def dNotV (ta : DE) : DE := fun E G k => ta E G fun r E1 G1 => ∃ b, r = .val (.bl b) ∧ k (.val (.bl (!b))) E1 G1
theorem le_one {op} {a : Expr} {t : DE} {pos : Pos} (h : LE X B a t) : LE X B (.BoolOp op [a] pos) t := ⟨pe_one h.pe⟩
theorem le_and {a b : Expr} {rest : List Expr} {ta tb : DE} {pos : Pos} (ha : LE X B a ta) (hb : LE X B (.BoolOp .And (b :: rest) pos) tb) : LE X B (.BoolOp .And (a :: b :: rest) pos) (dAndV ta tb) :=
  ⟨pe_imp (pe_and ha.pe hb.pe) fun σ H Q ⟨pn, F, E, G, k, S, ht, hk⟩ => ⟨pn, F, E, G, _, S, ht, fun r E1 G1 ⟨b, e1, h1⟩ v F1 H1 S1 s1 r1 => by
    subst e1
    cases r1
    refine ⟨b, rfl, ?_⟩
    cases b with
    | true => exact ⟨pn, F1, E1, G1, k, S1, h1, fun b' E2 G2 h2 v F2 H2 S2 s2 r2 => hk _ _ _ h2 v F2 H2 S2 (s1.trans s2) r2⟩
    | false => exact hk _ _ _ h1 _ F1 H1 S1 s1 (.bl false)⟩⟩
theorem le_or {a b : Expr} {rest : List Expr} {ta tb : DE} {pos : Pos} (ha : LE X B a ta) (hb : LE X B (.BoolOp .Or (b :: rest) pos) tb) : LE X B (.BoolOp .Or (a :: b :: rest) pos) (dOrV ta tb) :=
  ⟨pe_imp (pe_or ha.pe hb.pe) fun σ H Q ⟨pn, F, E, G, k, S, ht, hk⟩ => ⟨pn, F, E, G, _, S, ht, fun r E1 G1 ⟨b, e1, h1⟩ v F1 H1 S1 s1 r1 => by
    subst e1
    cases r1
    refine ⟨b, rfl, ?_⟩
    cases b with
    | true => exact hk _ _ _ h1 _ F1 H1 S1 s1 (.bl true)
    | false => exact ⟨pn, F1, E1, G1, k, S1, h1, fun b' E2 G2 h2 v F2 H2 S2 s2 r2 => hk _ _ _ h2 v F2 H2 S2 (s1.trans s2) r2⟩⟩⟩
theorem le_not {a : Expr} {ta : DE} {pos : Pos} (ha : LE X B a ta) : LE X B (.UnaryOp .Not a pos) (dNotV ta) :=
  ⟨pe_imp (pe_not ha.pe) fun σ H Q ⟨pn, F, E, G, k, S, ht, hk⟩ => ⟨pn, F, E, G, _, S, ht, fun r E1 G1 ⟨b, e1, h1⟩ v F1 H1 S1 s1 r1 => by
    subst e1
    cases r1
    exact ⟨b, rfl, hk _ _ _ h1 _ F1 H1 S1 s1 (.bl (!b))⟩⟩⟩
def dIf (t : DT) (ta tb : DE) : DE := fun E G k => t E G fun b E1 G1 => if b = true then ta E1 G1 k else tb E1 G1 k
theorem le_ifExp {c a b : Expr} {t : DT} {ta tb : DE} {pos : Pos} (hc : LT X B c t) (ha : LE X B a ta) (hb : LE X B b tb) : LE X B (.IfExp c a b pos) (dIf t ta tb) :=
  ⟨pe_imp (pe_ifExp hc.pt ha.pe hb.pe) fun σ H Q ⟨pn, F, E, G, k, S, ht, hk⟩ => ⟨pn, F, E, G, _, S, ht, fun b E1 G1 h1 F1 H1 S1 s1 => by
    cases b with
    | true => exact ⟨pn, F1, E1, G1, k, S1, h1, fun b' E2 G2 h2 v F2 H2 S2 s2 r2 => hk _ _ _ h2 v F2 H2 S2 (s1.trans s2) r2⟩
    | false => exact ⟨pn, F1, E1, G1, k, S1, h1, fun b' E2 G2 h2 v F2 H2 S2 s2 r2 => hk _ _ _ h2 v F2 H2 S2 (s1.trans s2) r2⟩⟩⟩
/-- unary -/
def RUn (X : Cx) (B : Base3) (r : V → Hp → VK → Prop) (rd : D → (Res → Prop) → Prop) : Prop :=
  ∀ pn F H σ E G x d k Q, St3 X.K B pn F H σ E G → RepH X.K F H d x → rd d k →
    (∀ res, k res → ∀ v F' H', St3 X.K B pn F' H' σ E G → Same F F' → RepR X.K B pn F' H' σ E G res v → Q v H') → r x H Q
def dUn (rd : D → (Res → Prop) → Prop) (ta : DE) : DE := fun E G k => ta E G fun x E1 G1 => ∃ d, x.get E1 = some d ∧ rd d fun r => k r E1 G1
theorem le_un {op : UnaryOp} {r : V → Hp → VK → Prop} {rd : D → (Res → Prop) → Prop} {a : Expr} {ta : DE} {pos : Pos} (ho : UnR X (unaryOp op) r) (hr : RUn X B r rd) (ha : LE X B a ta) : LE X B (.UnaryOp op a pos) (dUn rd ta) :=
  ⟨pe_imp (pe_un ho ha.pe) fun σ H Q ⟨pn, F, E, G, k, S, ht, hk⟩ => ⟨pn, F, E, G, _, S, ht, fun x E1 G1 ⟨d, hd, h1⟩ v F1 H1 S1 s1 r1 =>
    hr pn F1 H1 σ E1 G1 v d _ Q S1 (S1.getH r1 hd) h1 fun res hres u F2 H2 S2 s2 r2 => hk _ _ _ hres u F2 H2 S2 (s1.trans s2) r2⟩⟩
/-- a < b < c -/
def dChain (rd rd' : Reg → D → D → (Res → Prop) → Prop) (ta tb tc : DE) : DE := fun E G k => ta E G fun x E1 G1 => tb E1 G1 fun y E2 G2 =>
  ∃ d, x.fz.get E2 = some d ∧ ∃ e, y.fz.get E2 = some e ∧ rd G2 d e fun r => ∃ b, r = .val (.bl b) ∧
    if b = true then tc E2 G2 fun z E3 G3 => ∃ e', y.fz.get E3 = some e' ∧ ∃ f, z.get E3 = some f ∧ rd' G3 e' f fun r => k r E3 G3 else k (.val (.bl false)) E2 G2
end
end L3

set_option Elab.async false
set_option maxRecDepth 100000
set_option maxHeartbeats 4000000
/-! L3, part c: chains, arguments, displays, slices, calls, statements, loops, comprehensions, defs. -/
namespace L3
open PySem PySem.Spec PyProof.Rows L2

section
variable {X : Cx} {B : Base3}
/-- two comparisons in a row -/
theorem chain3 {ta tb tc : DE} {σ : L2.St} {H : Hp} {Q : VK} {r r' : R2} {rd rd' : Reg → D → D → (Res → Prop) → Prop} (hr : ROp X B r rd) (hr' : ROp X B r' rd') (h : Lift X.K B (dChain rd rd' ta tb tc) σ H Q) :
    tChain r r' (Lift X.K B ta) (Lift X.K B tb) (Lift X.K B tc) σ H Q := by
  obtain ⟨pn, F, E, G, k, S, ht, hk⟩ := h
  refine ⟨pn, F, E, G, _, S, ht, fun x E1 G1 h1 v F1 H1 S1 s1 r1 => ?_⟩
  obtain ⟨F1', S1', s1', r1'⟩ := S1.fz r1
  refine ⟨pn, F1', E1, G1, _, S1', h1, fun y E2 G2 h2 u F2 H2 S2 s2 r2 => ?_⟩
  obtain ⟨F2', S2', s2', r2'⟩ := S2.fz r2
  obtain ⟨d, hd, e, he, h3⟩ := h2
  refine hr pn F2' H2 σ E2 G2 v u d e _ _ S2' (S2'.getH (r1'.onward (s2.trans s2')) hd) (S2'.getH r2' he) h3 fun res hres z F' H' S' s' rr => ?_
  obtain ⟨b, e1, h4⟩ := hres
  subst e1
  cases rr
  refine ⟨b, rfl, ?_⟩
  cases b with
  | false => exact hk _ _ _ h4 _ F' H' S' (((s1.trans s1').trans (s2.trans s2')).trans s') (.bl false)
  | true =>
    refine ⟨pn, F', E2, G2, _, S', h4, fun w E3 G3 h5 q F3 H3 S3 s3 r3 => ?_⟩
    obtain ⟨e', he', f, hf, h6⟩ := h5
    refine hr' pn F3 H3 σ E3 G3 u q e' f _ Q S3 (S3.getH (r2'.onward (s'.trans s3)) he') (S3.getH r3 hf) h6 fun res hres z F5 H5 S5 s5 rr => ?_
    exact hk _ _ _ hres z F5 H5 S5 ((((s1.trans s1').trans (s2.trans s2')).trans s').trans (s3.trans s5)) rr
theorem le_chain {op op' : CmpOp} {r r' : R2} {rd rd' : Reg → D → D → (Res → Prop) → Prop} {a b c : Expr} {ta tb tc : DE} {pos : Pos} (ho : OpR X (compareOp op) r) (hr : ROp X B r rd) (ho' : OpR X (compareOp op') r') (hr' : ROp X B r' rd') (ha : LE X B a ta) (hb : LE X B b tb) (hc : LE X B c tc)
    (hm : lastMarks [op, op'] [b, c] = false := by with_unfolding_all rfl) : LE X B (.Compare a [op, op'] [b, c] pos) (dChain rd rd' ta tb tc) :=
  ⟨pe_imp (pe_chain ho ho' ha.pe hb.pe hc.pe hm) fun _ _ _ h => chain3 hr hr' h⟩
theorem lt_chain {op op' : CmpOp} {r r' : R2} {rd rd' : Reg → D → D → (Res → Prop) → Prop} {a b c : Expr} {ta tb tc : DE} {pos : Pos} (ho : OpR X (compareOp op) r) (hr : ROp X B r rd) (ho' : OpR X (compareOp op') r') (hr' : ROp X B r' rd') (ha : LE X B a ta) (hb : LE X B b tb) (hc : LE X B c tc)
    (hm : lastMarks [op, op'] [b, c] = false := by with_unfolding_all rfl) : LT X B (.Compare a [op, op'] [b, c] pos) (dTest (dChain rd rd' ta tb tc)) :=
  ⟨pt_imp (pt_chain ho ho' ha.pe hb.pe hc.pe hm) fun σ H Q ⟨pn, F, E, G, k, S, ht, hk⟩ => by
    refine chain3 (Q := fun x H' => ∃ k, x = .bl k ∧ Q k H') hr hr' ⟨pn, F, E, G, _, S, ht, fun r E1 G1 ⟨b, e1, h1⟩ v F1 H1 S1 s1 r1 => ?_⟩
    subst e1
    cases r1
    exact ⟨b, rfl, hk _ _ _ h1 F1 H1 S1 s1⟩⟩

/-! ### arguments -/
def dNil : DA := fun E G k => k [] E G
def dCons (ta : DE) (tr : DA) : DA := fun E G k => ta E G fun x E1 G1 => ∃ d E2, x.ice E1 = some (d, E2) ∧ tr E2 G1 fun ds E3 G3 => k (d :: ds) E3 G3
def dPCons (ta : DE) (tr : DA) : DA := fun E G k => ta E G fun x E1 G1 => tr E1 G1 fun ds E3 G3 => ∃ d, x.fz.get E3 = some d ∧ k (d :: ds) E3 G3
theorem la_nil : LA X B [] dNil := ⟨pa_imp pa_nil fun σ H Q ⟨pn, F, E, G, k, S, ht, hk⟩ => hk _ _ _ ht _ F H S (Same.refl F) .nil⟩
theorem lp_nil : LP X B [] dNil := ⟨pa_imp pa_nil fun σ H Q ⟨pn, F, E, G, k, S, ht, hk⟩ => hk _ _ _ ht _ F H S (Same.refl F) .nil⟩
theorem la_cons {e : Expr} {es : List Expr} {ta : DE} {tr : DA} (ha : LE X B e ta) (hr : LA X B es tr) (hs : starEach (e :: es) X.env = (false, eval e X.env) :: starEach es X.env := by rfl) : LA X B (e :: es) (dCons ta tr) :=
  ⟨pa_imp (pa_cons ha.pe hr.pa hs) fun σ H Q ⟨pn, F, E, G, k, S, ht, hk⟩ => ⟨pn, F, E, G, _, S, ht, fun x E1 G1 ⟨d, E2, h0, h1⟩ v F1 H1 S1 s1 r1 => by
    obtain ⟨F1', S1', s1', r1'⟩ := S1.ice r1 h0
    exact ⟨pn, F1', E2, G1, _, S1', h1, fun ds E3 G3 h3 vs F3 H3 S3 s3 r3 => hk _ _ _ h3 _ F3 H3 S3 ((s1.trans s1').trans s3) (.cons (Rep.mono s3 _ _ r1') r3)⟩⟩⟩
theorem lp_cons {e : Expr} {es : List Expr} {ta : DE} {tr : DA} (ha : LE X B e ta) (hr : LP X B es tr) (hs : starEach (e :: es) X.env = (false, eval e X.env) :: starEach es X.env := by rfl) : LP X B (e :: es) (dPCons ta tr) :=
  ⟨pa_imp (pa_cons ha.pe hr.pa hs) fun σ H Q ⟨pn, F, E, G, k, S, ht, hk⟩ => ⟨pn, F, E, G, _, S, ht, fun x E1 G1 h1 v F1 H1 S1 s1 r1 => by
    obtain ⟨F1', S1', s1', r1'⟩ := S1.fz r1
    exact ⟨pn, F1', E1, G1, _, S1', h1, fun ds E3 G3 ⟨d, hd, h3⟩ vs F3 H3 S3 s3 r3 => hk _ _ _ h3 _ F3 H3 S3 ((s1.trans s1').trans s3) (.cons (S3.getH (r1'.onward s3) hd) r3)⟩⟩⟩

/-! ### displays -/
def dTup (ta : DA) : DE := fun E G k => ta E G fun ds E1 G1 => ds.length ≤ sizeLine ∧ k (.val (.tup ds)) E1 G1
def dLst (ta : DA) : DE := fun E G k => ta E G fun ds E1 G1 => ds.length ≤ sizeLine ∧ k (.fr ds) E1 G1
theorem le_tup {es : List Expr} {ta : DA} {x1 pos} (h : LA X B es ta) : LE X B (.Tuple es x1 pos) (dTup ta) :=
  ⟨pe_imp (pe_tup h.pa) fun σ H Q ⟨pn, F, E, G, k, S, ht, hk⟩ => ⟨pn, F, E, G, _, S, ht, fun ds E1 G1 ⟨hz, h1⟩ vs F1 H1 S1 s1 r1 => by
    refine ⟨by rw [← r1.length]; exact hz, fun p np => ?_⟩
    obtain ⟨S2, s2⟩ := S1.newF (o := .tup vs) np
    exact hk _ _ _ h1 _ _ _ S2 (s1.trans s2) (.tup upd_same (RepL.mono s2 _ _ r1))⟩⟩
theorem le_lst {es : List Expr} {ta : DA} {pos} (h : LA X B es ta) : LE X B (.List es pos) (dLst ta) :=
  ⟨pe_imp (pe_lst h.pa) fun σ H Q ⟨pn, F, E, G, k, S, ht, hk⟩ => ⟨pn, F, E, G, _, S, ht, fun ds E1 G1 ⟨hz, h1⟩ vs F1 H1 S1 s1 r1 => by
    refine ⟨by rw [← r1.length]; exact hz, fun p np => ?_⟩
    obtain ⟨f, no⟩ := S1.newFre np r1
    exact hk _ _ _ h1 _ _ _ (S1.newU np) s1 ⟨p, rfl, f, no⟩⟩⟩

/-! ### slices -/
abbrev DO := Env3 → Reg → (Option Int → Env3 → Reg → Prop) → Prop
def LiftO (K : PySem.W.Frag) (B : Base3) (t : DO) : TO := fun σ H Q => ∃ pn F E G k, St3 K B pn F H σ E G ∧ t E G k ∧ ∀ o E' G', k o E' G' → ∀ F' H', St3 K B pn F' H' σ E' G' → Same F F' → Q o H'
structure LO (X : Cx) (B : Base3) (e : Option Expr) (t : DO) : Prop where
  po : PO X e (LiftO X.K B t)
theorem po_imp {e : Option Expr} {t t' : TO} (h : PO X e t) (hi : ∀ σ H Q, t' σ H Q → t σ H Q) : PO X e t' := ⟨fun pins s σ H Q I hw => h.run pins s σ H Q I (hi σ H Q hw)⟩
def dNoPart : DO := fun E G k => k none E G
def dPart (ta : DE) : DO := fun E G k => ta E G fun r E1 G1 => ∃ i, r = .val (.int i) ∧ k (some i) E1 G1
theorem lo_none : LO X B none dNoPart := ⟨po_imp po_none fun σ H Q ⟨pn, F, E, G, k, S, ht, hk⟩ => hk _ _ _ ht F H S (Same.refl F)⟩
theorem lo_some {e : Expr} {te : DE} (h : LE X B e te) : LO X B (some e) (dPart te) :=
  ⟨po_imp (po_some h.pe) fun σ H Q ⟨pn, F, E, G, k, S, ht, hk⟩ => ⟨pn, F, E, G, _, S, ht, fun r E1 G1 ⟨i, e1, h1⟩ v F1 H1 S1 s1 r1 => by
    subst e1
    cases r1
    exact ⟨i, rfl, hk _ _ _ h1 F1 H1 S1 s1⟩⟩⟩
def RSl3 (X : Cx) (B : Base3) (r : V → Option Int → Option Int → Hp → VK → Prop) (rd : D → Option Int → Option Int → (Res → Prop) → Prop) : Prop :=
  ∀ pn F H σ E G x d lo hi k Q, St3 X.K B pn F H σ E G → RepH X.K F H d x → rd d lo hi k →
    (∀ res, k res → ∀ v F' H', St3 X.K B pn F' H' σ E G → Same F F' → RepR X.K B pn F' H' σ E G res v → Q v H') → r x lo hi H Q
def dSl (rd : D → Option Int → Option Int → (Res → Prop) → Prop) (te : DE) (tl th : DO) : DE := fun E G k => te E G fun x E1 G1 => tl E1 G1 fun lo E2 G2 => th E2 G2 fun hi E3 G3 =>
  ∃ d, x.fz.get E3 = some d ∧ rd d lo hi fun r => k r E3 G3
theorem le_slice {r : V → Option Int → Option Int → Hp → VK → Prop} {rd : D → Option Int → Option Int → (Res → Prop) → Prop} {e : Expr} {lo hi : Option Expr} {te : DE} {tl th : DO} {p2 pos : Pos} (ho : SlR X r) (hr : RSl3 X B r rd) (he : LE X B e te) (hl : LO X B lo tl) (hh : LO X B hi th) :
    LE X B (.Subscript e (.Slice lo hi none p2) pos) (dSl rd te tl th) :=
  ⟨pe_imp (pe_slice ho he.pe hl.po hh.po) fun σ H Q ⟨pn, F, E, G, k, S, ht, hk⟩ => ⟨pn, F, E, G, _, S, ht, fun x E1 G1 h1 v F1 H1 S1 s1 r1 => by
    obtain ⟨F1', S1', s1', r1'⟩ := S1.fz r1
    refine ⟨pn, F1', E1, G1, _, S1', h1, fun lo E2 G2 h2 F2 H2 S2 s2 => ?_⟩
    refine ⟨pn, F2, E2, G2, _, S2, h2, fun hi E3 G3 h3 F3 H3 S3 s3 => ?_⟩
    obtain ⟨d, hd, h4⟩ := h3
    exact hr pn F3 H3 σ E3 G3 v d lo hi _ Q S3 (S3.getH (r1'.onward (s2.trans s3)) hd) h4 fun res hres u F4 H4 S4 s4 r4 => hk _ _ _ hres u F4 H4 S4 ((s1.trans s1').trans ((s2.trans s3).trans s4)) r4⟩⟩

/-! ### calls of built-ins -/
def RCall (X : Cx) (B : Base3) (r : List V → Hp → VK → Prop) (rd : Reg → List D → (Res → Prop) → Prop) : Prop :=
  ∀ pn F H σ E G vs ds k Q, St3 X.K B pn F H σ E G → RepHL X.K F H ds vs → rd G ds k →
    (∀ res, k res → ∀ v F' H', St3 X.K B pn F' H' σ E G → Same F F' → RepR X.K B pn F' H' σ E G res v → Q v H') → r vs H Q
def dCB (rd : Reg → List D → (Res → Prop) → Prop) (ta : DA) : DE := fun E G k => ta E G fun ds E1 G1 => rd G1 ds fun r => k r E1 G1
theorem le_cb {r : List V → Hp → VK → Prop} {rd : Reg → List D → (Res → Prop) → Prop} {es : List Expr} {e : Expr} {ta : DA} (h : PE X e (tCB r (LiftP X.K B ta))) (hr : RCall X B r rd) : LE X B e (dCB rd ta) :=
  ⟨pe_imp h fun σ H Q ⟨pn, F, E, G, k, S, ht, hk⟩ => ⟨pn, F, E, G, _, S, ht, fun ds E1 G1 h1 vs F1 H1 S1 s1 r1 =>
    hr pn F1 H1 σ E1 G1 vs ds _ Q S1 r1 h1 fun res hres u F4 H4 S4 s4 r4 => hk _ _ _ hres u F4 H4 S4 (s1.trans s4) r4⟩⟩
theorem le_callB {r : List V → Hp → VK → Prop} {rd : Reg → List D → (Res → Prop) → Prop} {x : Str} {id : String} {e : Expr} {es : List Expr} {ta : DA} {p pos : Pos} (hc : CallR X (.builtin id) r) (hr : RCall X B r rd) (hg : Gl X x) (hm : X.mg x = none) (hv : bootBuiltins x = some (.builtin id)) (ha : LP X B (e :: es) ta) (hn : x ≠ "__name__" := by decide) (hdb : (x == ("__debug__" : Str)) = false := by decide)
    (he : starEach (e :: es) X.env = (false, eval e X.env) :: starEach es X.env := by rfl) (hpl : (backTo pos (starEach es X.env)).any (·.1) = false := by rfl) : LE X B (.Call (.Name x p) (e :: es) [] pos) (dCB rd ta) :=
  le_cb (es := es) (pe_callB hc hg hm hv ha.pa hn hdb he hpl) hr
theorem le_callTy {r : List V → Hp → VK → Prop} {rd : Reg → List D → (Res → Prop) → Prop} {x : Str} {T : String} {e : Expr} {es : List Expr} {ta : DA} {p pos : Pos} (hc : CallR X (.type T) r) (hr : RCall X B r rd) (hg : Gl X x) (hm : X.mg x = none) (hv : bootBuiltins x = some (.type T)) (ha : LP X B (e :: es) ta) (hn : x ≠ "__name__" := by decide) (hdb : (x == ("__debug__" : Str)) = false := by decide)
    (he : starEach (e :: es) X.env = (false, eval e X.env) :: starEach es X.env := by rfl) (hpl : (backTo pos (starEach es X.env)).any (·.1) = false := by rfl) : LE X B (.Call (.Name x p) (e :: es) [] pos) (dCB rd ta) :=
  le_cb (es := es) (pe_callTy hc hg hm hv ha.pa hn hdb he hpl) hr
end

/-! ### promises -/
abbrev DSp := List D → Reg → (Res → Reg → Prop) → (Exc3 → Reg → Prop) → Prop
structure After (K : PySem.W.Frag) (F H : Hp) (G : Reg) (F' H' : Hp) (G' : Reg) : Prop where
  w : Wld K F' H' G'
  keepF : Same F F'
  keepH : ∀ (a : Addr) (o : HO), H a = some o → a ∉ G.map (·.1) → H' a = some o
  unfr : ∀ (a : Addr) (o : HO), H a = some o → isTp o = false → F a = none → F' a = none
  regs : ∀ a, a ∈ G'.map (·.1) → a ∈ G.map (·.1) ∨ H a = none
  regk : ∀ a, a ∈ G.map (·.1) → a ∈ G'.map (·.1)
/-- what comes back -/
def RetV (K : PySem.W.Frag) (H F' H' : Hp) (G' : Reg) : Res → V → Prop
  | .val d, v => Rep K F' d v
  | .fr ds, v => ∃ a xs, v = .ref a ∧ F' a = none ∧ H a = none ∧ a ∉ G'.map (·.1) ∧ H' a = some (.lst xs) ∧ RepL K F' ds xs
  | .frD d, v => ∃ a o, v = .ref a ∧ F' a = none ∧ H a = none ∧ a ∉ G'.map (·.1) ∧ H' a = some o ∧ RepB K F' d o
  | .sl _, _ => False
def RepX (K : PySem.W.Frag) (F : Hp) (x : Exc3) (cls : Value) (dd : Option Addr) : Prop := (∃ C, ClsN K x.1 C ∧ cls = .ref C) ∧ match x.2 with
  | none => True
  | some (f, d) => ∃ a v, dd = some a ∧ F a = some (.xd [(f, v)]) ∧ Rep K F d v
def LSp (K : PySem.W.Frag) (sp : DSp) : Sp := fun vs H Q E => ∃ F G ds k kx, Wld K F H G ∧ RepL K F ds vs ∧ sp ds G k kx ∧
  (∀ r G', k r G' → ∀ v F' H', After K F H G F' H' G' → RetV K H F' H' G' r v → Q v H') ∧
  (∀ x G', kx x G' → ∀ cls dd F' H', After K F H G F' H' G' → RepX K F' x cls dd → E cls dd H')
/-- what this frame wishes of an exception -/
def WOk (X : Cx) (B : Base3) (dw : DW) : Prop := ∃ W : WX, Takes X W ∧ ∀ pn F H σ E G x cls dd, St3 X.K B pn F H σ E G → RepX X.K F x cls dd → dw x E G → W cls dd σ H
/-- .. whatever the slots hold -/
def WOkF (X : Cx) (B : Base3) (dw : DW) : Prop := ∃ W : XK, Takes X (fun cls dd _ H => W cls dd H) ∧ ∀ pn F H σ E G x cls dd, St3 X.K B pn F H σ E G → RepX X.K F x cls dd → dw x E G → W cls dd H
theorem WOkF.ok {X : Cx} {B : Base3} {dw : DW} (h : WOkF X B dw) : WOk X B dw := by
  obtain ⟨W, tk, hW⟩ := h
  exact ⟨fun cls dd _ H => W cls dd H, tk, fun pn F H σ E G x cls dd S rx hx => hW pn F H σ E G x cls dd S rx hx⟩
/-- what was not there as the def began was not locked -/
def Lk (X : Cx) (B : Base3) : Prop := ∀ d, B.H d = none → ∀ o u, X.H_0 d ≠ some (.frz o u)
structure WOkL (X : Cx) (B : Base3) (dw : DW) : Prop where
  f : WOkF X B dw
  lk : Lk X B
theorem WOkL.ok {X : Cx} {B : Base3} {dw : DW} (h : WOkL X B dw) : WOk X B dw := h.f.ok
instance {X : Cx} {B : Base3} {dw : DW} : CoeOut (WOkL X B dw) (WOkF X B dw) := ⟨WOkL.f⟩
theorem lk_self {X : Cx} {F : Hp} {G : List Addr} {n : Addr} : Lk X ⟨F, X.H_0, G, n⟩ := fun d h o u e => by
  have h : X.H_0 d = none := h
  rw [h] at e; cases e
section
variable {X : Cx} {B : Base3}
theorem St3.wldAfter {K : PySem.W.Frag} {pn : Pend} {F H F' H' : Hp} {σ : L2.St} {E : Env3} {G G' : Reg} (S : St3 K B pn F H σ E G) (A : After K F H G F' H' G') : St3 K B pn F' H' σ E G' := by
  have hG : ∀ a o, B.H a = some o → a ∉ B.G → a ∉ G.map (·.1) := fun a o h hn hm => by
    rcases S.regs a hm with z | z
    · exact hn z
    · rw [h] at z; cases z
  have hHs : ∀ a o, B.H a = some o → isTp o = false → ∃ o', H a = some o' ∧ isTp o' = false := fun a o h ht => by
    by_cases hg : a ∈ B.G
    · obtain ⟨ds, hm⟩ := regMem (S.regk a hg)
      obtain ⟨_, o', h3, h4⟩ := S.w.reg a ds hm
      exact ⟨o', h3, h4.nt⟩
    · exact ⟨o, S.keepH a o h hg, ht⟩
  refine ⟨A.w, fun a o h => A.keepF a o (S.keepF a o h), fun a o h hn => A.keepH a o (S.keepH a o h hn) (hG a o h hn), fun a o h ht h2 => ?_, fun a h => ?_, fun a h => A.regk a (S.regk a h), S.len, fun i d h => ?_, fun i s d h ho => ?_, S.ownd, fun a xs h => ?_, S.pnd, fun nm fs h => (S.news nm fs h).mono A.keepF⟩
  · obtain ⟨o', e, ht'⟩ := hHs a o h ht
    exact A.unfr a o' e ht' (S.unfr a o h ht h2)
  · rcases A.regs a h with z | z
    · exact S.regs a z
    · exact .inr (S.baseNone z)
  · obtain ⟨v, h1, h2⟩ := S.slot i d h
    exact ⟨v, h1, Rep.mono A.keepF _ _ h2⟩
  · obtain ⟨a, h1, f⟩ := S.own i s d h ho
    obtain ⟨xs, e, r⟩ := f.ex
    refine ⟨a, h1, ⟨A.unfr a _ e r.dat.nt f.nF, f.nB, fun hm => ?_, f.nP, xs, A.keepH a _ e f.nG, RepB.mono A.keepF r⟩⟩
    rcases A.regs a hm with z | z
    · exact f.nG z
    · rw [e] at z; cases z
  · obtain ⟨h1, h2, h3, h4⟩ := S.pend a xs h
    refine ⟨A.keepH a _ h1 h4, A.unfr a _ h1 (S.pnd.2 _ h) h2, h3, fun hm => ?_⟩
    rcases A.regs a hm with z | z
    · exact h4 z
    · rw [h1] at z; cases z
/-- what a call gives, in the caller's eyes -/
theorem St3.retR {K : PySem.W.Frag} {pn : Pend} {F H F' H' : Hp} {σ : L2.St} {E : Env3} {G G' : Reg} (S : St3 K B pn F H σ E G) {r : Res} {v : V} (h : RetV K H F' H' G' r v) : RepR K B pn F' H' σ E G' r v := by
  cases r with
  | val d => exact h
  | sl i => exact h.elim
  | fr ds =>
    obtain ⟨a, xs, rfl, h1, h2, h3, h4, h5⟩ := h
    refine ⟨a, rfl, ⟨h1, S.baseNone h2, h3, fun hm => ?_, xs, h4, h5⟩, S.newNo h2⟩
    obtain ⟨q, hq, rfl⟩ := List.mem_map.mp hm
    have := (S.pend q.1 q.2 hq).1
    rw [h2] at this; cases this
  | frD d =>
    obtain ⟨a, o, rfl, h1, h2, h3, h4, h5⟩ := h
    refine ⟨a, rfl, ⟨h1, S.baseNone h2, h3, fun hm => ?_, o, h4, h5⟩, S.newNo h2⟩
    obtain ⟨q, hq, rfl⟩ := List.mem_map.mp hm
    have := (S.pend q.1 q.2 hq).1
    rw [h2] at this; cases this
def dCall (sp : DSp) (dw : DW) (ta : DA) : DE := fun E G k => ta E G fun ds E1 G1 => sp ds G1 (fun r G2 => k r E1 G2) (fun x G2 => dw x E1 G2)
theorem le_call {sp : DSp} {dw : DW} {ta : DA} {j : Nat} {f : Addr} {fd : FuncData} {ps : List Str} {x : Str} {p pos : Pos} {e : Expr} {es : List Expr} (Fn : FnOk X.prog X.w X.K X.mg X.base (L2.CX X.prog X.w) j f fd ps (LSp X.K sp)) (hr : Room j X.A) (wk : WOk X B dw) (hg : Gl X x) (hm : X.mg x = some (.ref f)) (hk : PySem.W.keepIn X.K (.ref f) = true) (hb : Binds X.K fd ps [])
    (ha : LA X B (e :: es) ta) (hdb : (x == ("__debug__" : Str)) = false := by decide) (he : starEach (e :: es) X.env = (false, eval e X.env) :: starEach es X.env := by rfl) (hpl : (backTo pos (starEach es X.env)).any (·.1) = false := by rfl) :
    LE X B (.Call (.Name x p) (e :: es) [] pos) (dCall sp dw ta) := by
  obtain ⟨W, tk, hW⟩ := wk
  refine ⟨pe_imp (pe_callS Fn hr hg hm hk hb (fun σ => passAt tk σ) ha.pa hdb he hpl) fun σ H Q ⟨pn, F, E, G, k, S, ht, hk⟩ => ⟨pn, F, E, G, _, S, ht, fun ds E1 G1 h1 vs F1 H1 S1 s1 r1 => ?_⟩⟩
  refine ⟨F1, G1, ds, _, _, S1.w, r1, h1, fun r G' h2 v F2 H2 A r2 => ?_, fun x G' h2 cls dd F2 H2 A r2 => ?_⟩
  · exact hk _ _ _ h2 v F2 H2 (S1.wldAfter A) (s1.trans A.keepF) (S1.retR r2)
  · exact hW pn F2 H2 σ E1 G' x cls dd (S1.wldAfter A) r2 h2
/-- no exception is wished for -/
def dw0 : DW := fun _ _ _ => False
theorem takesF {X : Cx} : Takes X (fun _ _ _ _ => False) := fun _ _ x => by
  obtain ⟨_, _, _, _, _, _, _, _, _, _, _, _, _, _, _, _, z⟩ := x
  exact z.elim
theorem wok0 : WOk X B dw0 := ⟨fun _ _ _ _ => False, takesF, fun _ _ _ _ _ _ _ _ _ _ _ h => h⟩
end
end L3

set_option Elab.async false
set_option maxRecDepth 100000
set_option maxHeartbeats 4000000
/-! L3, part d: statements, loops, comprehensions, defs. -/
namespace L3
open PySem PySem.Spec PyProof.Rows L2

structure Ends3 where
  nx : Env3 → Reg → Prop
  rt : Res → Reg → Prop
  bk : Env3 → Reg → Prop := fun _ _ => False
  ct : Env3 → Reg → Prop := fun _ _ => False
abbrev DSt := Ends3 → Env3 → Reg → Prop
def RetR (K : PySem.W.Frag) (B : Base3) (pn : Pend) (F H : Hp) (G : Reg) : Res → V → Prop
  | .val d, v => Rep K F d v
  | .fr ds, v => ∃ a, v = .ref a ∧ Fre K B pn F H G a ds
  | .frD d, v => ∃ a, v = .ref a ∧ FreX K B pn F H G a d
  | .sl _, _ => False
structure EndsOk (K : PySem.W.Frag) (B : Base3) (F : Hp) (D3 : Ends3) (D : Ends) : Prop where
  nx : ∀ {pn : Pend} E' G', D3.nx E' G' → ∀ σ' F' H', St3 K B pn F' H' σ' E' G' → Same F F' → D.nx σ' H'
  rt : ∀ {pn : Pend} r G', D3.rt r G' → ∀ v F' H' σ' E', St3 K B pn F' H' σ' E' G' → Same F F' → RetR K B pn F' H' G' r v → D.rt v H'
  bk : ∀ {pn : Pend} E' G', D3.bk E' G' → ∀ σ' F' H', St3 K B pn F' H' σ' E' G' → Same F F' → D.bk σ' H'
  ct : ∀ {pn : Pend} E' G', D3.ct E' G' → ∀ σ' F' H', St3 K B pn F' H' σ' E' G' → Same F F' → D.ct σ' H'
theorem EndsOk.mono {K : PySem.W.Frag} {B : Base3} {F F' : Hp} {D3 : Ends3} {D : Ends} (h : EndsOk K B F D3 D) (s : Same F F') : EndsOk K B F' D3 D :=
  ⟨fun E' G' q σ' F2 H' S s' => h.nx E' G' q σ' F2 H' S (s.trans s'), fun r G' q v F2 H' σ' E' S s' => h.rt r G' q v F2 H' σ' E' S (s.trans s'), fun E' G' q σ' F2 H' S s' => h.bk E' G' q σ' F2 H' S (s.trans s'), fun E' G' q σ' F2 H' S s' => h.ct E' G' q σ' F2 H' S (s.trans s')⟩
def LiftS (K : PySem.W.Frag) (B : Base3) (ts : DSt) : TS := fun D σ H => ∃ pn F E G D3, St3 K B pn F H σ E G ∧ ts D3 E G ∧ EndsOk K B F D3 D
structure LS (X : Cx) (B : Base3) (st : Stmt) (ts : DSt) : Prop where
  ps : PS X st (LiftS X.K B ts)
structure LSs (X : Cx) (B : Base3) (st : List Stmt) (ts : DSt) : Prop where
  pss : PSs X st (LiftS X.K B ts)

def dNext : DSt := fun D E G => D.nx E G
def dSeq (t u : DSt) : DSt := fun D E G => t { D with nx := u D } E G
def dIfS (c : DT) (t u : DSt) : DSt := fun D E G => c E G fun b E1 G1 => if b = true then t D E1 G1 else u D E1 G1
def dDrop (te : DE) : DSt := fun D E G => te E G fun _ E1 G1 => D.nx E1 G1
def Res.out (r : Res) (E : Env3) : Option Res := match r with
  | .val d => some (.val d)
  | .fr ds => some (.fr ds)
  | .frD d => some (.frD d)
  | .sl i => match E[i]? with
    | some (Sl3.val d) => some (.val d)
    | some (Sl3.own ds) => some (.fr ds)
    | some (Sl3.ownD d) => some (.frD d)
    | _ => none
def dRet (te : DE) : DSt := fun D E G => te E G fun r E1 G1 => ∃ r', r.out E1 = some r' ∧ D.rt r' G1
def dRetN : DSt := fun D _ G => D.rt (.val .non) G
def dBreak : DSt := fun D E G => D.bk E G
def dCont : DSt := fun D E G => D.ct E G
def dNever : DSt := fun _ _ _ => False
/-- what a slot takes -/
def Res.put (r : Res) (i : Nat) (E : Env3) : Option Env3 := match r with
  | .val d => some (E.set i (Sl3.val d))
  | .fr ds => some (E.set i (Sl3.own ds))
  | .frD d => some (E.set i (Sl3.ownD d))
  | .sl j => match E[j]? with
    | some (Sl3.val d) => some (E.set i (Sl3.val d))
    | some (Sl3.own ds) => some ((E.set j (Sl3.val (.lst ds))).set i (Sl3.val (.lst ds)))
    | some (Sl3.ownD d) => some ((E.set j (Sl3.val d)).set i (Sl3.val d))
    | _ => none
def dSet (i : Nat) (te : DE) : DSt := fun D E G => te E G fun r E1 G1 => i < E1.length ∧ ∃ E2, r.put i E1 = some E2 ∧ D.nx E2 G1
section
variable {K : PySem.W.Frag} {B : Base3} {pn : Pend} {F H : Hp} {σ : L2.St} {E : Env3} {G : Reg}
theorem St3.put (S : St3 K B pn F H σ E G) {r : Res} {v : V} {i : Nat} {E2 : Env3} (hi : i < E.length) (hr : RepR K B pn F H σ E G r v) (h : r.put i E = some E2) : ∃ F', St3 K B pn F' H (σ.set i (some v)) E2 G ∧ Same F F' := by
  rw [S.len] at hi
  cases r with
  | val d => cases h; exact ⟨F, S.setVal hi hr, Same.refl F⟩
  | fr ds =>
    cases h
    obtain ⟨a, rfl, f, no⟩ := hr
    exact ⟨F, S.setOwn hi f no, Same.refl F⟩
  | frD d =>
    cases h
    obtain ⟨a, rfl, f, no⟩ := hr
    exact ⟨F, S.setOwnX hi f rfl no, Same.refl F⟩
  | sl j =>
    have hr' : σ[j]? = some (some v) := hr
    unfold Res.put at h
    dsimp only at h
    split at h
    · rename_i d q
      cases h
      obtain ⟨v', h1, h2⟩ := S.slot j d q
      rw [hr'] at h1
      cases h1
      exact ⟨F, S.setVal hi h2, Same.refl F⟩
    · rename_i ds q
      cases h
      obtain ⟨F', S', s', r'⟩ := S.freezeSlot q hr'
      exact ⟨F', S'.setVal hi r', s'⟩
    · rename_i d q
      cases h
      obtain ⟨F', S', s', r'⟩ := S.freezeSlotX q rfl hr'
      exact ⟨F', S'.setVal hi r', s'⟩
    · cases h
theorem St3.outR (S : St3 K B pn F H σ E G) {r r' : Res} {v : V} (hr : RepR K B pn F H σ E G r v) (h : r.out E = some r') : RetR K B pn F H G r' v := by
  cases r with
  | val d => cases h; exact hr
  | fr ds =>
    cases h
    obtain ⟨a, rfl, f, no⟩ := hr
    exact ⟨a, rfl, f⟩
  | frD d =>
    cases h
    obtain ⟨a, rfl, f, no⟩ := hr
    exact ⟨a, rfl, f⟩
  | sl j =>
    have hr' : σ[j]? = some (some v) := hr
    unfold Res.out at h
    dsimp only at h
    split at h
    · rename_i d q
      cases h
      obtain ⟨v', h1, h2⟩ := S.slot j d q
      rw [hr'] at h1
      cases h1
      exact h2
    · rename_i ds q
      cases h
      obtain ⟨a, h1, f⟩ := S.ownL j ds q
      rw [hr'] at h1
      cases h1
      exact ⟨a, rfl, f⟩
    · rename_i d q
      cases h
      obtain ⟨a, h1, f⟩ := S.own j _ _ q rfl
      rw [hr'] at h1
      cases h1
      exact ⟨a, rfl, f⟩
    · cases h
/-- a free list becomes a register -/
theorem St3.promote (S : St3 K B pn F H σ E G) {a : Addr} {ds : List D} (f : Fre K B pn F H G a ds) (no : NoOwn σ E a) : St3 K B pn F H σ E ((a, ds) :: G) := by
  obtain ⟨xs, e, r⟩ := f.ex
  refine ⟨⟨S.w.sub, fun b es h => ?_, by rw [List.map_cons]; exact List.nodup_cons.mpr ⟨f.nG, S.w.nd⟩⟩, S.keepF, S.keepH, S.unfr, fun b h => ?_, fun b h => by rw [List.map_cons]; exact List.mem_cons_of_mem _ (S.regk b h), S.len, S.slot, fun i s d h ho => ?_, S.ownd, fun b ys h => ?_, S.pnd, S.news⟩
  · rcases List.mem_cons.mp h with h | h
    · cases h; exact ⟨f.nF, _, e, .lst r⟩
    · exact S.w.reg b es h
  · rw [List.map_cons] at h
    rcases List.mem_cons.mp h with h | h
    · have h' : b = a := h
      rw [h']; exact .inr f.nB
    · exact S.regs b h
  · obtain ⟨b, e1, g⟩ := S.own i s d h ho
    refine ⟨b, e1, ⟨g.nF, g.nB, ?_, g.nP, g.ex⟩⟩
    rw [List.map_cons]
    intro z
    rcases List.mem_cons.mp z with z | z
    · have z' : b = a := z
      exact no i s d h ho (by rw [← z']; exact e1)
    · exact g.nG z
  · obtain ⟨h1, h2, h3, h4⟩ := S.pend b ys h
    refine ⟨h1, h2, h3, ?_⟩
    rw [List.map_cons]
    intro z
    rcases List.mem_cons.mp z with z | z
    · have z' : b = a := z
      exact f.nP (by rw [← z']; exact List.mem_map.mpr ⟨_, h, rfl⟩)
    · exact h4 z
end
section
variable {X : Cx} {B : Base3}
theorem lss_nil : LSs X B [] dNext := ⟨pss_imp pss_nil fun D σ H ⟨pn, F, E, G, D3, S, h, ok⟩ => ok.nx E G h σ F H S (Same.refl F)⟩
theorem lss_cons {st : Stmt} {rest : List Stmt} {t u : DSt} (h1 : LS X B st t) (h2 : LSs X B rest u) : LSs X B (st :: rest) (dSeq t u) :=
  ⟨pss_imp (pss_cons h1.ps h2.pss) fun D σ H ⟨pn, F, E, G, D3, S, h, ok⟩ => ⟨pn, F, E, G, { D3 with nx := u D3 }, S, h, ⟨fun E' G' q σ' F' H' S' s' => ⟨_, F', E', G', D3, S', q, ok.mono s'⟩, ok.rt, ok.bk, ok.ct⟩⟩⟩
theorem lss_one {st : Stmt} {t : DSt} (h1 : LS X B st t) : LSs X B [st] t := ⟨pss_one h1.ps⟩
theorem ls_never {st : Stmt} : LS X B st dNever := ⟨ps_imp ps_never fun D σ H ⟨pn, F, E, G, D3, S, h, ok⟩ => h⟩
theorem ls_if {c : Expr} {a b : List Stmt} {tc : DT} {t u : DSt} {pos} (hc : LT X B c tc) (ha : LSs X B a t) (hb : LSs X B b u) : LS X B (.If c a b pos) (dIfS tc t u) :=
  ⟨ps_imp (ps_if hc.pt ha.pss hb.pss) fun D σ H ⟨pn, F, E, G, D3, S, h, ok⟩ => ⟨pn, F, E, G, _, S, h, fun b E1 G1 h1 F1 H1 S1 s1 => by
    cases b with
    | true => exact ⟨pn, F1, E1, G1, D3, S1, h1, ok.mono s1⟩
    | false => exact ⟨pn, F1, E1, G1, D3, S1, h1, ok.mono s1⟩⟩⟩
theorem ls_expr {e : Expr} {te : DE} {pos : Pos} (he : LE X B e te) (hs : swapsWith e none pos.line X.env = pure false := by rfl) : LS X B (.Expr e pos) (dDrop te) :=
  ⟨ps_imp (ps_expr he.pe hs) fun D σ H ⟨pn, F, E, G, D3, S, h, ok⟩ => ⟨pn, F, E, G, _, S, h, fun r E1 G1 h1 v F1 H1 S1 s1 r1 => ok.nx E1 G1 h1 σ F1 H1 S1 s1⟩⟩
theorem ls_ret {e : Expr} {te : DE} {pos} (he : LE X B e te) : LS X B (.Return (some e) pos) (dRet te) :=
  ⟨ps_imp (ps_ret he.pe) fun D σ H ⟨pn, F, E, G, D3, S, h, ok⟩ => ⟨pn, F, E, G, _, S, h, fun r E1 G1 ⟨r', hr', h1⟩ v F1 H1 S1 s1 r1 => ok.rt r' G1 h1 v F1 H1 σ E1 S1 s1 (S1.outR r1 hr')⟩⟩
theorem ls_set {i : Nat} {x : Str} {e : Expr} {te : DE} {pos pos' : Pos} (hN : X.N.Nodup) (hi : X.N[i]? = some x) (hx : Loc X.env.scope x) (he : LE X B e te) (hs : swapsWith e (some (.Name x pos')) pos.line X.env = pure false := by rfl) (hf : X.fn x = true ∨ X.env.scope.names.lookup x = some .local := by first | exact .inl rfl | exact .inr rfl | assumption) :
    LS X B (.Assign [.Name x pos'] e pos) (dSet i te) :=
  ⟨ps_imp (ps_set hN hi hx he.pe hs hf) fun D σ H ⟨pn, F, E, G, D3, S, h, ok⟩ => ⟨pn, F, E, G, _, S, h, fun r E1 G1 ⟨hi, E2, hp, h1⟩ v F1 H1 S1 s1 r1 => by
    obtain ⟨F2, S2, s2⟩ := S1.put hi r1 hp
    exact ok.nx E2 G1 h1 _ F2 H1 S2 (s1.trans s2)⟩⟩
/-- name = a free list, which becomes a register -/
def dSetReg (i : Nat) (te : DE) : DSt := fun D E G => te E G fun r E1 G1 => i < E1.length ∧ ∃ ds, r = .fr ds ∧ ∀ a, D.nx (E1.set i (Sl3.val (.ref a))) ((a, ds) :: G1)
theorem ls_setReg {i : Nat} {x : Str} {e : Expr} {te : DE} {pos pos' : Pos} (hN : X.N.Nodup) (hi : X.N[i]? = some x) (hx : Loc X.env.scope x) (he : LE X B e te) (hs : swapsWith e (some (.Name x pos')) pos.line X.env = pure false := by rfl) (hf : X.fn x = true ∨ X.env.scope.names.lookup x = some .local := by first | exact .inl rfl | exact .inr rfl | assumption) :
    LS X B (.Assign [.Name x pos'] e pos) (dSetReg i te) :=
  ⟨ps_imp (ps_set hN hi hx he.pe hs hf) fun D σ H ⟨pn, F, E, G, D3, S, h, ok⟩ => ⟨pn, F, E, G, _, S, h, fun r E1 G1 ⟨hi, ds, hp, h1⟩ v F1 H1 S1 s1 r1 => by
    subst hp
    obtain ⟨a, rfl, f, no⟩ := r1
    have S2 := S1.promote f no
    exact ok.nx _ _ (h1 a) _ F1 H1 (S2.setVal (by rw [← S1.len]; exact hi) (.ref a)) s1⟩⟩
/-- name op= e -/
def dAug (i : Nat) (rd : Reg → D → D → (Res → Prop) → Prop) (te : DE) : DSt := fun D E G => ∃ d, E[i]? = some (Sl3.val d) ∧ te E G fun y E1 G1 => E1[i]? = some (Sl3.val d) ∧ ∃ e, y.get E1 = some e ∧
  rd G1 d e fun r => ∃ z, r = .val z ∧ D.nx (E1.set i (Sl3.val z)) G1
theorem ls_aug {i : Nat} {x : Str} {e : Expr} {te : DE} {op : Operator} {ti : TIp} {rd : Reg → D → D → (Res → Prop) → Prop} {pos pos' : Pos} (hN : X.N.Nodup) (hi : X.N[i]? = some x) (hx : Loc X.env.scope x) (he : LE X B e te) (ho : PIp X op ti) (hr : ROp X B ti rd) (hf : X.fn x = true ∨ X.env.scope.names.lookup x = some .local := by first | exact .inl rfl | exact .inr rfl | assumption) :
    LS X B (.AugAssign (.Name x pos') op e pos) (dAug i rd te) :=
  ⟨ps_imp (ps_aug hN hi hx he.pe ho hf) fun D σ H ⟨pn, F, E, G, D3, S, h, ok⟩ => by
    obtain ⟨d, hd, h⟩ := h
    obtain ⟨v, hv, rv⟩ := S.slot i d hd
    refine ⟨v, hv, pn, F, E, G, _, S, h, fun y E1 G1 ⟨h0, e', he', h1⟩ u F1 H1 S1 s1 r1 => ?_⟩
    refine hr pn F1 H1 σ E1 G1 v u d e' _ _ S1 (.inl (Rep.mono s1 _ _ rv)) (S1.getH r1 he') h1 fun res hres w F2 H2 S2 s2 r2 => ?_
    obtain ⟨z, e1, h2⟩ := hres
    subst e1
    exact ok.nx _ _ h2 _ F2 H2 (S2.setVal (by rw [← S2.len]; exact lt_of_look h0) r2) (s1.trans s2)⟩

/-! ### targets -/
abbrev DG := D → Env3 → Reg → (Env3 → Reg → Prop) → Prop
def LiftG (K : PySem.W.Frag) (B : Base3) (vs : List Nat) (g : DG) : TG := fun v σ H Q => ∃ pn F E G k d, St3 K B pn F H σ E G ∧ Rep K F d v ∧ g d E G k ∧
  ∀ E' G', k E' G' → ∀ σ' F' H', St3 K B pn F' H' σ' E' G' → Same F F' → wipe σ' vs = wipe σ vs → Q σ' H'
structure LG (X : Cx) (B : Base3) (vs : List Nat) (tg : Expr) (g : DG) : Prop where
  pg : PG X tg (LiftG X.K B vs g)
theorem pg_imp {tg : Expr} {t t' : TG} (h : PG X tg t) (hi : ∀ v σ H Q, t' v σ H Q → t v σ H Q) : PG X tg t' := ⟨fun pins s σ H v u Q I r hw => h.run pins s σ H v u Q I r (hi v σ H Q hw)⟩
def gNm (i : Nat) : DG := fun d E G k => i < E.length ∧ k (E.set i (Sl3.val d)) G
theorem wipe_get {σ : L2.St} : ∀ {vs : List Nat} {j : Nat}, (wipe σ vs)[j]? = if j ∈ vs then (σ[j]?).map (fun _ => none) else σ[j]?
  | [], j => by simp [wipe]
  | v :: vs, j => by
    unfold wipe
    by_cases q : v = j
    · subst q
      rw [if_pos List.mem_cons_self]
      by_cases hv : v < σ.length
      · rw [List.getElem?_set_self (by rw [wipe_length]; exact hv), List.getElem?_eq_getElem hv]; rfl
      · rw [List.getElem?_eq_none (by rw [List.length_set, wipe_length]; omega), List.getElem?_eq_none (by omega)]; rfl
    · rw [List.getElem?_set_ne q, wipe_get]
      by_cases h : j ∈ vs
      · rw [if_pos h, if_pos (List.mem_cons_of_mem _ h)]
      · rw [if_neg h, if_neg (fun z => by rcases List.mem_cons.mp z with z | z; exact q z.symm; exact h z)]
theorem wipe_set {σ : L2.St} {vs : List Nat} {i : Nat} {v : Option V} (h : i ∈ vs) : wipe (σ.set i v) vs = wipe σ vs := by
  apply List.ext_getElem?
  intro j
  rw [wipe_get, wipe_get]
  by_cases q : j ∈ vs
  · rw [if_pos q, if_pos q]
    by_cases e : i = j
    · subst e
      by_cases hv : i < σ.length
      · rw [List.getElem?_set_self hv, List.getElem?_eq_getElem hv]; rfl
      · rw [List.getElem?_eq_none (by rw [List.length_set]; omega), List.getElem?_eq_none (by omega)]
    · rw [List.getElem?_set_ne e]
  · rw [if_neg q, if_neg q, List.getElem?_set_ne (fun (z : i = j) => q (z ▸ h))]
theorem lg_name {i : Nat} {x : Str} {vs : List Nat} {pos : Pos} (hN : X.N.Nodup) (hi : X.N[i]? = some x) (hx : Loc X.env.scope x) (hv : i ∈ vs) (hf : X.fn x = true ∨ X.env.scope.names.lookup x = some .local := by first | exact .inl rfl | exact .inr rfl | assumption) : LG X B vs (.Name x pos) (gNm i) :=
  ⟨pg_imp (pg_name hN hi hx hf) fun v σ H Q ⟨pn, F, E, G, k, d, S, r, ⟨hl, h⟩, hk⟩ => hk _ _ h _ F H (S.setVal (by rw [← S.len]; exact hl) r) (Same.refl F) (wipe_set hv)⟩
/-- several targets -/
abbrev DGs := List D → Env3 → Reg → (Env3 → Reg → Prop) → Prop
def gsNil : DGs := fun ds E G k => ds = [] ∧ k E G
def gsCons (g : DG) (gs : DGs) : DGs := fun ds E G k => ∃ d r, ds = d :: r ∧ g d E G fun E1 G1 => gs r E1 G1 k
def gTp (n : Nat) (gs : DGs) : DG := fun d E G k => ∃ ds, d = .tup ds ∧ ds.length = n ∧ gs ds E G k
/-- target = value (a tuple target) -/
def dAsg (te : DE) (g : DG) : DSt := fun D E G => te E G fun r E1 G1 => ∃ d E2, r.ice E1 = some (d, E2) ∧ g d E2 G1 D.nx
end
end L3

set_option Elab.async false
set_option maxRecDepth 100000
set_option maxHeartbeats 4000000
/-! L3, part e: what is walked; loops; comprehensions; defs. -/
namespace L3
open PySem PySem.Spec PyProof.Rows L2

/-- an iterator J gives the items ds, one by one -/
structure Wk (K : PySem.W.Frag) (B : Base3) (J : It) (ds : List D) (F0 : Hp) : Prop where
  go : ∀ pn F H σ E G i, St3 K B pn F H σ E G → Same F0 F → i < ds.length → J.go i H
  yld : ∀ pn F H σ E G i x H', St3 K B pn F H σ E G → Same F0 F → i < ds.length → J.yld i H x H' → ∃ F', St3 K B pn F' H' σ E G ∧ Same F F' ∧ ∃ d, ds[i]? = some d ∧ Rep K F' d x
  stop : ∀ pn F H σ E G i, St3 K B pn F H σ E G → Same F0 F → ds.length ≤ i → J.stop i H
abbrev DI := Env3 → Reg → (List D → Env3 → Reg → Prop) → Prop
def LiftI (K : PySem.W.Frag) (B : Base3) (di : DI) : TI := fun σ H R => ∃ pn F E G k, St3 K B pn F H σ E G ∧ di E G k ∧
  ∀ ds E' G', k ds E' G' → ∀ J F' H', St3 K B pn F' H' σ E' G' → Same F F' → Wk K B J ds F' → R J H'
structure LI (X : Cx) (B : Base3) (tg e : Expr) (di : DI) : Prop where
  pi : PI X tg e (LiftI X.K B di)
theorem pi_imp {X : Cx} {tg e : Expr} {t t' : TI} (h : PI X tg e t) (hi : ∀ σ H R, t' σ H R → t σ H R) : PI X tg e t' := ⟨fun pins s σ H R I hw => h.run pins s σ H R I (hi σ H R hw)⟩
section
variable {X : Cx} {B : Base3} {K : PySem.W.Frag}
theorem wk_list {F0 : Hp} {a : Addr} {xs : List V} {ds : List D} (hs : SqL K F0 a xs) (r : RepL K F0 ds xs) : Wk K B (Itl K a) ds F0 := by
  refine ⟨fun pn F H σ E G i S s h => ?_, fun pn F H σ E G i x H' S s _ h => ?_, fun pn F H σ E G i S s h => ?_⟩
  · have hl := r.length
    exact ⟨xs, xs[i], S.w.sub.seq (s.seq hs), by simp [hl ▸ h]⟩
  · obtain ⟨rfl, q⟩ := h
    have e := q xs (S.w.sub.seq (s.seq hs))
    obtain ⟨d, h1, h2⟩ := r.get' e
    exact ⟨F, S, Same.refl F, d, h1, Rep.mono s _ _ h2⟩
  · exact ⟨xs, S.w.sub.seq (s.seq hs), by rw [← r.length]; exact h⟩
theorem wk_tup {F0 : Hp} {a : Addr} {xs : List V} {ds : List D} (hs : SqT K F0 a xs) (r : RepL K F0 ds xs) : Wk K B (Itt K a) ds F0 := by
  refine ⟨fun pn F H σ E G i S s h => ?_, fun pn F H σ E G i x H' S s _ h => ?_, fun pn F H σ E G i S s h => ?_⟩
  · have hl := r.length
    exact ⟨xs, xs[i], sameT S.w.sub (sameT s hs), by simp [hl ▸ h]⟩
  · obtain ⟨rfl, q⟩ := h
    have e := q xs (sameT S.w.sub (sameT s hs))
    obtain ⟨d, h1, h2⟩ := r.get' e
    exact ⟨F, S, Same.refl F, d, h1, Rep.mono s _ _ h2⟩
  · exact ⟨xs, sameT S.w.sub (sameT s hs), by rw [← r.length]; exact h⟩
def rangeD (lo : Int) (n : Nat) : List D := (List.range n).map fun (i : Nat) => D.int (lo + (i : Int))
theorem wk_rng {F0 : Hp} {lo : Int} {n : Nat} : Wk K B (Itr lo n) (rangeD lo n) F0 := by
  refine ⟨fun pn F H σ E G i S s h => ?_, fun pn F H σ E G i x H' S s hi h => ?_, fun pn F H σ E G i S s h => ?_⟩
  · show i < n
    simpa [rangeD] using h
  · obtain ⟨rfl, rfl⟩ := h
    have hi' : i < n := by simpa [rangeD] using hi
    exact ⟨F, S, Same.refl F, D.int (lo + (i : Int)), by simp [rangeD, hi'], .int _⟩
  · show n ≤ i
    simpa [rangeD] using h
def strD (x : Str) : List D := x.cps.toList.map fun c => D.str ⟨#[c]⟩
theorem wk_str {F0 : Hp} {x : Str} : Wk K B (Its x) (strD x) F0 := by
  refine ⟨fun pn F H σ E G i S s h => ?_, fun pn F H σ E G i v H' S s hi h => ?_, fun pn F H σ E G i S s h => ?_⟩
  · show i < x.cps.size
    simpa [strD] using h
  · obtain ⟨rfl, c, hc, rfl⟩ := h
    exact ⟨F, S, Same.refl F, D.str ⟨#[c]⟩, by simp [strD, hc], .str _⟩
  · show x.cps.size ≤ i
    simpa [strD] using h
/-- a list, a tuple, a text -/
def iSeq (K : PySem.W.Frag) (tl : TE) : TI := fun σ H R => tl σ H fun x H1 => (∃ a xs, x = .ref a ∧ SqL K H1 a xs ∧ R (Itl K a) H1) ∨ (∃ a xs, x = .ref a ∧ SqT K H1 a xs ∧ R (Itt K a) H1) ∨ ∃ z, x = .str z ∧ R (Its z) H1
theorem pi_seq {tg l : Expr} {tl : TE} (hl : PE X l tl) : PI X tg l (iSeq X.K tl) := by
  refine ⟨fun pins s σ H R I h => ?_⟩
  refine thn (hl.run pins s σ H _ I h) fun v s1 ⟨x, H1, I1, r1, q1⟩ => ?_
  rcases q1 with ⟨a, xs, e, hq, q⟩ | ⟨a, xs, e, hq, q⟩ | ⟨z, e, q⟩
  · subst e
    cases r1
    obtain ⟨its, rv, p, hz⟩ := I1.list hq
    refine wpAny_pyIter_list p.isList ?_
    refine ⟨s1.heap.objs.size, [s1.heap.objs.size], _, _, H1, rfl, I1.kept (t' := s1.toks) fun b o e => Heap.get?_push_of_some _ e, turn_list a _, ⟨_, Heap.get?_push_size _ rfl, rfl, rfl⟩, fun b hb => ?_, q⟩
    have e : b = s1.heap.objs.size := by simpa using hb
    subst e
    exact I1.fpOk (Nat.le_refl _) (I1.hok.fresh (Nat.le_refl _))
  · subst e
    cases r1
    obtain ⟨its, rv, p, hz⟩ := I1.tuple hq
    refine wpAny_pyIter_tuple (show s1.heap.IsTuple a its.toArray from p) ?_
    refine ⟨s1.heap.objs.size, [s1.heap.objs.size], _, _, H1, rfl, I1.kept (t' := s1.toks) fun b o e => Heap.get?_push_of_some _ e, turn_tuple a _, ⟨_, Heap.get?_push_size _ rfl, rfl, rfl⟩, fun b hb => ?_, q⟩
    have e : b = s1.heap.objs.size := by simpa using hb
    subst e
    exact I1.fpOk (Nat.le_refl _) (I1.hok.fresh (Nat.le_refl _))
  · subst e
    obtain ⟨t, rfl⟩ := r1
    cases ha : z.cps.all (· < 128)
    · exact wpAny_pyIter_wide ha (pi_one (tk := s1.toks) I1 _ (turn_str _ z t "str_iterator" (.inr rfl)) ⟨_, Heap.get?_push_size _ rfl, rfl, rfl⟩ q)
    · exact wpAny_pyIter_ascii ha (pi_one (tk := s1.toks) I1 _ (turn_str _ z t "str_ascii_iterator" (.inl rfl)) ⟨_, Heap.get?_push_size _ rfl, rfl, rfl⟩ q)
def iterD : D → Option (List D)
  | .lst ds => some ds
  | .tup ds => some ds
  | .str x => some (strD x)
  | .scr ns => some (ns.map D.int)
  | _ => none
def dIter (te : DE) : DI := fun E G k => te E G fun r E1 G1 => ∃ d E2, r.ice E1 = some (d, E2) ∧ ∃ ds, iterD d = some ds ∧ k ds E2 G1
theorem li_seq {tg l : Expr} {te : DE} (hl : LE X B l te) : LI X B tg l (dIter te) :=
  ⟨pi_imp (pi_seq hl.pe) fun σ H R ⟨pn, F, E, G, k, S, h, hk⟩ => ⟨pn, F, E, G, _, S, h, fun r E1 G1 ⟨d, E2, hd, ds, hi, h1⟩ v F1 H1 S1 s1 r1 => by
    obtain ⟨F2, S2, s2, r2⟩ := S1.ice r1 hd
    cases r2 with
    | lst hs ha => cases hi; exact .inl ⟨_, _, rfl, S2.w.sub.seq (.inl hs), hk _ _ _ h1 _ F2 H1 S2 (s1.trans s2) (wk_list (.inl hs) ha)⟩
    | tup hs ha => cases hi; exact .inr (.inl ⟨_, _, rfl, SqT.of (S2.w.sub _ _ hs), hk _ _ _ h1 _ F2 H1 S2 (s1.trans s2) (wk_tup (SqT.of hs) ha)⟩)
    | scr hs => cases hi; exact .inl ⟨_, _, rfl, S2.w.sub.seq hs, hk _ _ _ h1 _ F2 H1 S2 (s1.trans s2) (wk_list hs (RepL.ints _))⟩
    | str x => cases hi; exact .inr (.inr ⟨_, rfl, hk _ _ _ h1 _ F2 H1 S2 (s1.trans s2) wk_str⟩)
    | _ => cases hi⟩⟩
def dRng1 (ta : DA) : DI := fun E G k => ta E G fun ds E1 G1 => ∃ j : Int, ds = [.int j] ∧ -(2 ^ 62) ≤ j ∧ j < 2 ^ 62 ∧ k (rangeD 0 j.toNat) E1 G1
def dRng2 (ta : DA) : DI := fun E G k => ta E G fun ds E1 G1 => ∃ i j : Int, ds = [.int i, .int j] ∧ (-(2 ^ 62) ≤ i ∧ i < 2 ^ 62 ∧ -(2 ^ 62) ≤ j ∧ j < 2 ^ 62) ∧ k (rangeD i (j - i).toNat) E1 G1
theorem li_range1 {tg a : Expr} {ta : DA} {p pos : Pos} (hg : Gl X "range") (hm : X.mg "range" = none) (ha : LA X B [a] ta) (hs : starEach [a] X.env = [(false, eval a X.env)] := by rfl) : LI X B tg (.Call (.Name "range" p) [a] [] pos) (dRng1 ta) :=
  ⟨pi_imp (pi_range1 hg hm ha.pa hs) fun σ H R ⟨pn, F, E, G, k, S, h, hk⟩ => ⟨pn, F, E, G, _, S, h, fun ds E1 G1 ⟨j, e, q1, q2, h1⟩ vs F1 H1 S1 s1 r1 => by
    subst e
    cases r1 with
    | cons r rr =>
      cases rr
      cases r
      exact ⟨j, rfl, q1, q2, hk _ _ _ h1 _ F1 H1 S1 s1 wk_rng⟩⟩⟩
/-! ### for -/
def dForL (g : DG) (tb : DSt) : List D → DSt
  | [], D, E, G => D.nx E G
  | d :: ds, D, E, G => g d E G fun E1 G1 => tb { D with nx := fun E2 G2 => dForL g tb ds D E2 G2, ct := fun E2 G2 => dForL g tb ds D E2 G2, bk := D.nx } E1 G1
def dFor (di : DI) (g : DG) (tb : DSt) : DSt := fun D E G => di E G fun ds E1 G1 => dForL g tb ds D E1 G1
theorem ls_for {tg iter : Expr} {body : List Stmt} {di : DI} {g : DG} {vs : List Nat} {tb : DSt} {pos : Pos} (hp : PassesOwn (model X.prog X.w) X.A X.env X.xe) (hc : X.calm = true) (hi : LI X B tg iter di) (hg : LG X B vs tg g) (hb : LSs X B body tb)
    (hs : ∀ x, foldedSetIterable iter X.env x = pure x := by intro _; rfl) : LS X B (.For tg iter body [] pos) (dFor di g tb) :=
  ⟨ps_imp (ps_for hp hc hi.pi hg.pg hb.pss hs) fun D σ H ⟨pn, F, E, G, D3, S, h, ok⟩ => ⟨pn, F, E, G, _, S, h, fun ds E1 G1 h1 J F1 H1 S1 s1 wk => by
    refine ⟨fun i m σ' H' => ∃ pn F' E' G', St3 X.K B pn F' H' σ' E' G' ∧ Same F1 F' ∧ m = ds.length - i ∧ i ≤ ds.length ∧ dForL g tb (ds.drop i) D3 E' G', ⟨ds.length, pn, F1, E1, G1, S1, Same.refl F1, rfl, Nat.zero_le _, h1⟩, ?_⟩
    rintro i m σ2 H2 ⟨pn, F2, E2, G2, S2, s2, rfl, hi, h2⟩
    by_cases hlt : i < ds.length
    · refine .inr ⟨wk.go pn F2 H2 σ2 E2 G2 i S2 s2 hlt, fun σ' H' => ∃ pn F' E' G', St3 X.K B pn F' H' σ' E' G' ∧ Same F1 F' ∧ dForL g tb (ds.drop (i + 1)) D3 E' G', fun σ' H' ⟨pn, F', E', G', S', s', h'⟩ => ⟨ds.length - (i + 1), by omega, pn, F', E', G', S', s', rfl, hlt, h'⟩, fun x H' y => ?_⟩
      obtain ⟨F3, S3, s3, d, hd, rd⟩ := wk.yld pn F2 H2 σ2 E2 G2 i x H' S2 s2 hlt y
      rw [List.drop_eq_getElem_cons hlt] at h2
      have ed : ds[i] = d := by
        rw [List.getElem?_eq_getElem hlt] at hd
        exact Option.some.inj hd
      rw [ed] at h2
      refine ⟨pn, F3, E2, G2, _, d, S3, rd, h2, fun E4 G4 h4 σ4 F4 H4 S4 s4 _ => ?_⟩
      have ss : Same F1 F4 := (s2.trans s3).trans s4
      refine ⟨pn, F4, E4, G4, _, S4, h4, ⟨fun E5 G5 q σ5 F5 H5 S5 s5 => ⟨_, F5, E5, G5, S5, ss.trans s5, q⟩, fun r G5 q v F5 H5 σ5 E5 S5 s5 rr => ok.rt r G5 q v F5 H5 σ5 E5 S5 ((s1.trans ss).trans s5) rr, fun E5 G5 q σ5 F5 H5 S5 s5 => ok.nx E5 G5 q σ5 F5 H5 S5 ((s1.trans ss).trans s5), fun E5 G5 q σ5 F5 H5 S5 s5 => ⟨_, F5, E5, G5, S5, ss.trans s5, q⟩⟩⟩
    · have e : i = ds.length := by omega
      subst e
      rw [List.drop_length] at h2
      exact .inl ⟨wk.stop pn F2 H2 σ2 E2 G2 _ S2 s2 (Nat.le_refl _), ok.nx E2 G2 h2 σ2 F2 H2 S2 (s1.trans s2)⟩⟩⟩

/-! ### while -/
def dWhN (c : DT) (tb : DSt) : Nat → DSt
  | 0, _, _, _ => False
  | n + 1, D, E, G => c E G fun b E1 G1 => if b = true then tb { D with nx := fun E2 G2 => dWhN c tb n D E2 G2, ct := fun E2 G2 => dWhN c tb n D E2 G2, bk := D.nx } E1 G1 else D.nx E1 G1
def dWhile (c : DT) (tb : DSt) : DSt := fun D E G => ∃ n, dWhN c tb n D E G
theorem ls_while {c : Expr} {body : List Stmt} {tc : DT} {tb : DSt} {pos : Pos} (hp : PassesOwn (model X.prog X.w) X.A X.env X.xe) (hc : LT X B c tc) (hb : LSs X B body tb) : LS X B (.While c body [] pos) (dWhile tc tb) :=
  ⟨ps_imp (ps_while hp hc.pt hb.pss) fun D σ H ⟨pn, F, E, G, D3, S, ⟨n, h⟩, ok⟩ => by
    refine ⟨fun m σ' H' => ∃ pn F' E' G', St3 X.K B pn F' H' σ' E' G' ∧ Same F F' ∧ dWhN tc tb m D3 E' G', ⟨n, pn, F, E, G, S, Same.refl F, h⟩, ?_⟩
    rintro m σ2 H2 ⟨pn, F2, E2, G2, S2, s2, h2⟩
    cases m with
    | zero => exact h2.elim
    | succ m =>
      refine ⟨pn, F2, E2, G2, _, S2, h2, fun b E3 G3 h3 F3 H3 S3 s3 => ?_⟩
      cases b with
      | false => exact ok.nx E3 G3 h3 σ2 F3 H3 S3 (s2.trans s3)
      | true =>
        have ss : Same F F3 := s2.trans s3
        refine ⟨fun σ' H' => ∃ pn F' E' G', St3 X.K B pn F' H' σ' E' G' ∧ Same F F' ∧ dWhN tc tb m D3 E' G', fun σ' H' q => ⟨m, Nat.lt_succ_self m, q⟩, ?_⟩
        exact ⟨pn, F3, E3, G3, _, S3, h3, ⟨fun E5 G5 q σ5 F5 H5 S5 s5 => ⟨_, F5, E5, G5, S5, ss.trans s5, q⟩, fun r G5 q v F5 H5 σ5 E5 S5 s5 rr => ok.rt r G5 q v F5 H5 σ5 E5 S5 (ss.trans s5) rr, fun E5 G5 q σ5 F5 H5 S5 s5 => ok.nx E5 G5 q σ5 F5 H5 S5 (ss.trans s5), fun E5 G5 q σ5 F5 H5 S5 s5 => ⟨_, F5, E5, G5, S5, ss.trans s5, q⟩⟩⟩⟩

/-! ### comprehensions -/
def wipe3 (E : Env3) : List Nat → Env3
  | [] => E
  | v :: vs => (wipe3 E vs).set v Sl3.no
theorem wipe3_length (E : Env3) : ∀ vs : List Nat, (wipe3 E vs).length = E.length
  | [] => rfl
  | v :: vs => by unfold wipe3; rw [List.length_set, wipe3_length E vs]
theorem wipe3_some {E : Env3} {i : Nat} {s : Sl3} (hs : s ≠ Sl3.no) : ∀ {vs : List Nat}, (wipe3 E vs)[i]? = some s → E[i]? = some s ∧ i ∉ vs
  | [], h => ⟨h, by simp⟩
  | v :: vs, h => by
    unfold wipe3 at h
    rcases set_look h with ⟨_, z⟩ | ⟨ne, z⟩
    · exact absurd z hs
    · obtain ⟨h1, h2⟩ := wipe3_some hs z
      exact ⟨h1, by simp only [List.mem_cons, not_or]; exact ⟨fun e => ne e.symm, h2⟩⟩
theorem wipe3_val {E : Env3} {i : Nat} {vs : List Nat} {d : D} (h : (wipe3 E vs)[i]? = some (Sl3.val d)) : E[i]? = some (Sl3.val d) ∧ i ∉ vs := wipe3_some (s := Sl3.val d) (fun q => nomatch q) h
theorem wipe3_own {E : Env3} {i : Nat} {vs : List Nat} {d : List D} (h : (wipe3 E vs)[i]? = some (Sl3.own d)) : E[i]? = some (Sl3.own d) ∧ i ∉ vs := wipe3_some (s := Sl3.own d) (fun q => nomatch q) h
theorem wipe3_ow {E : Env3} {i : Nat} {vs : List Nat} {s : Sl3} {d : D} (h : (wipe3 E vs)[i]? = some s) (ho : s.ow = some d) : E[i]? = some s ∧ i ∉ vs := wipe3_some (fun q => by subst q; cases ho) h
/-- other slots, alike outside vs -/
theorem St3.wipeS {pn : Pend} {F H : Hp} {σ σ' : L2.St} {E : Env3} {G : Reg} (S : St3 K B pn F H σ E G) (vs : List Nat) (hl : σ'.length = σ.length) (w : ∀ i, i ∉ vs → σ'[i]? = σ[i]?) : St3 K B pn F H σ' (wipe3 E vs) G := by
  refine ⟨S.w, S.keepF, S.keepH, S.unfr, S.regs, S.regk, by rw [wipe3_length, hl]; exact S.len, fun i d h => ?_, fun i s d h ho => ?_, fun i j s t d e a h1 h2 o1 o2 h3 h4 => ?_, S.pend, S.pnd, fun nm fs h => ?_⟩
  · obtain ⟨h1, h2⟩ := wipe3_val h
    rw [w i h2]; exact S.slot i d h1
  · obtain ⟨h1, h2⟩ := wipe3_ow h ho
    rw [w i h2]; exact S.own i s d h1 ho
  · obtain ⟨q1, n1⟩ := wipe3_ow h1 o1
    obtain ⟨q2, n2⟩ := wipe3_ow h2 o2
    rw [w i n1] at h3
    rw [w j n2] at h4
    exact S.ownd i j s t d e a q1 q2 o1 o2 h3 h4
  · obtain ⟨h1, h2⟩ := wipe3_some (s := Sl3.new nm fs) (fun q => nomatch q) h
    rw [w 0 h2]; exact S.news nm fs h1
theorem wipe_out' {σ : L2.St} {vs : List Nat} {i : Nat} (h : i ∉ vs) : (wipe σ vs)[i]? = σ[i]? := by
  rw [wipe_get, if_neg h]
def LiftTs (X : Cx) (B : Base3) (ifs : List Expr) (tt : DT) : Prop := PTs X ifs (LiftT X.K B tt)
def dYes : DT := fun E G k => k true E G
theorem lts_nil : LiftTs X B [] dYes := ⟨fun pins s σ H Q I ⟨pn, F, E, G, k, S, h, hk⟩ => pts_nil.run pins s σ H Q I (hk _ _ _ h F H S (Same.refl F))⟩
theorem lts_one {c : Expr} {t : DT} (h : LT X B c t) : LiftTs X B [c] t := ⟨fun pins s σ H Q I hw => (pts_one h.pt).run pins s σ H Q I hw⟩
def dLcL (g : DG) (tt : DT) (te : DE) (vs : List Nat) : List D → List D → Env3 → Reg → (List D → Env3 → Reg → Prop) → Prop
  | [], acc, E, G, k => k acc E G
  | d :: ds, acc, E, G, k => g d E G fun E1 G1 => tt E1 G1 fun b E2 G2 => if b = true then te E2 G2 fun r E3 G3 => ∃ x E4, r.ice E3 = some (x, E4) ∧ dLcL g tt te vs ds (acc ++ [x]) (wipe3 E4 vs) G3 k else dLcL g tt te vs ds acc (wipe3 E2 vs) G2 k
def dLc (di : DI) (g : DG) (tt : DT) (te : DE) (vs : List Nat) : DE := fun E G k => di E G fun ds E1 G1 => ds.length ≤ sizeLine ∧ dLcL g tt te vs ds [] (wipe3 E1 vs) G1 fun acc E2 G2 => k (.fr acc) E2 G2
theorem lc3 {di : DI} {g : DG} {tt : DT} {te : DE} {vs : List Nat} {σ : L2.St} {H : Hp} {Q : VK} (h : Lift K B (dLc di g tt te vs) σ H Q) : tLc (LiftI K B di) (LiftG K B vs g) (LiftT K B tt) (Lift K B te) vs σ H Q := by
  obtain ⟨pn, F, E, G, k, S, h, hk⟩ := h
  refine ⟨pn, F, E, G, _, S, h, fun ds E1 G1 ⟨hz, h1⟩ J F1 H1 S1 s1 wk D nD => ?_⟩
  -- the state of the loop: the list at D pending
  have f0 := S1.newFre (xs := []) (ds := []) nD .nil
  have S1' : St3 K B ((D, HO.lst []) :: pn) F1 (upd H1 D (.lst [])) (wipe σ vs) (wipe3 E1 vs) G1 :=
    ((S1.newU nD).pendOn f0.1.nF f0.1.nB f0.1.nG f0.1.nP upd_same f0.2).wipeS vs (wipe_length σ vs) (fun i hi => wipe_out' hi)
  refine ⟨fun i m H' => ∃ F' E' G' acc xs, St3 K B ((D, HO.lst xs) :: pn) F' H' (wipe σ vs) E' G' ∧ (∀ i ∈ vs, ∀ s, E'[i]? = some s → s = Sl3.no) ∧ Same F1 F' ∧ RepL K F' acc xs ∧ acc.length ≤ i ∧ m = ds.length - i ∧ i ≤ ds.length ∧ dLcL g tt te vs (ds.drop i) acc E' G' (fun acc E2 G2 => k (.fr acc) E2 G2), ⟨ds.length, F1, wipe3 E1 vs, G1, [], [], S1', ?w, Same.refl F1, .nil, Nat.zero_le _, rfl, Nat.zero_le _, h1⟩, ?_⟩
  case w =>
    intro i hi s hs
    cases s with
    | no => rfl
    | val d => exact absurd hi (wipe3_val hs).2
    | own d => exact absurd hi (wipe3_own hs).2
    | ownD d => exact absurd hi (wipe3_ow hs rfl).2
    | new nm fs => exact absurd hi (wipe3_some (s := Sl3.new nm fs) (fun q => nomatch q) hs).2
  rintro i m H2 ⟨F2, E2, G2, acc, xs, S2, hw2, s2, ra, hal, rfl, hi, h2⟩
  by_cases hlt : i < ds.length
  · refine .inr ⟨wk.go _ F2 H2 _ E2 G2 i S2 s2 hlt, fun H' => ∃ F' E' G' acc xs, St3 K B ((D, HO.lst xs) :: pn) F' H' (wipe σ vs) E' G' ∧ (∀ i ∈ vs, ∀ s, E'[i]? = some s → s = Sl3.no) ∧ Same F1 F' ∧ RepL K F' acc xs ∧ acc.length ≤ i + 1 ∧ dLcL g tt te vs (ds.drop (i + 1)) acc E' G' (fun acc E2 G2 => k (.fr acc) E2 G2), fun H' ⟨F', E', G', acc', xs', S', w', s', r', l', h'⟩ => ⟨ds.length - (i + 1), by omega, F', E', G', acc', xs', S', w', s', r', l', rfl, hlt, h'⟩, fun x H' y => ?_⟩
    obtain ⟨F3, S3, s3, d, hd, rd⟩ := wk.yld _ F2 H2 _ E2 G2 i x H' S2 s2 hlt y
    rw [List.drop_eq_getElem_cons hlt] at h2
    have ed : ds[i] = d := by
      rw [List.getElem?_eq_getElem hlt] at hd
      exact Option.some.inj hd
    rw [ed] at h2
    refine ⟨_, F3, E2, G2, _, d, S3, rd, h2, fun E4 G4 h4 σ4 F4 H4 S4 s4 w4 => ?_⟩
    have ww : wipe (wipe σ vs) vs = wipe σ vs := by
      apply List.ext_getElem?
      intro j
      rw [wipe_get, wipe_get]
      by_cases q : j ∈ vs
      · rw [if_pos q, if_pos q]; cases σ[j]? <;> rfl
      · rw [if_neg q]
    have w4' : wipe σ4 vs = wipe σ vs := by rw [w4, ww]
    refine ⟨w4', ?_⟩
    have back : ∀ {F' H' E' G' ys}, St3 K B ((D, HO.lst ys) :: pn) F' H' σ4 E' G' → St3 K B ((D, HO.lst ys) :: pn) F' H' (wipe σ vs) (wipe3 E' vs) G' := fun S' => by
      rw [← w4']
      exact S'.wipeS vs (wipe_length σ4 vs) (fun i hi => wipe_out' hi)
    have wno : ∀ (E' : Env3), ∀ i ∈ vs, ∀ s, (wipe3 E' vs)[i]? = some s → s = Sl3.no := fun E' i hi s hs => by
      cases s with
      | no => rfl
      | val d => exact absurd hi (wipe3_val hs).2
      | own d => exact absurd hi (wipe3_own hs).2
      | ownD d => exact absurd hi (wipe3_ow hs rfl).2
      | new nm fs => exact absurd hi (wipe3_some (s := Sl3.new nm fs) (fun q => nomatch q) hs).2
    refine ⟨_, F4, E4, G4, _, S4, h4, fun b E5 G5 h5 F5 H5 S5 s5 => ?_⟩
    have s15 : Same F1 F5 := ((s2.trans s3).trans s4).trans s5
    have s25 : Same F2 F5 := (s3.trans s4).trans s5
    cases b with
    | false => exact ⟨F5, _, G5, acc, xs, back S5, wno _, s15, RepL.mono s25 _ _ ra, by omega, h5⟩
    | true =>
      refine ⟨_, F5, E5, G5, _, S5, h5, fun r E6 G6 ⟨x', E7, hx, h6⟩ v F6 H6 S6 s6 r6 => ?_⟩
      obtain ⟨F7, S7, s7, r7⟩ := S6.ice r6 hx
      have s27 : Same F2 F7 := (s25.trans s6).trans s7
      have ra' := RepL.mono s27 _ _ ra
      refine ⟨xs, S7.pendOff.2.2.2.2.2.1, ?_, F7, _, G6, acc ++ [x'], xs ++ [v], (back (S7.pendWrite (ys := xs ++ [v]))), wno _, (s15.trans s6).trans s7, ra'.append (.cons r7 .nil), by rw [List.length_append]; show acc.length + 1 ≤ i + 1; omega, h6⟩
      have := ra.length
      omega
  · have e : i = ds.length := by omega
    subst e
    rw [List.drop_length] at h2
    obtain ⟨S3, hF, hB, hG, hP, hH, no⟩ := S2.pendOff
    have S4 : St3 K B pn F2 H2 σ E2 G2 := by
      have q := S3.wipeS (σ' := σ) vs (wipe_length σ vs).symm (fun i hi => (wipe_out' hi).symm)
      have eq : wipe3 E2 vs = E2 := by
        apply List.ext_getElem?
        intro j
        cases q2 : E2[j]? with
        | none =>
          apply List.getElem?_eq_none
          rw [wipe3_length]
          exact List.getElem?_eq_none_iff.mp q2
        | some s =>
          have hj := lt_of_look q2
          cases q3 : (wipe3 E2 vs)[j]? with
          | none =>
            have := List.getElem?_eq_none_iff.mp q3
            rw [wipe3_length] at this
            omega
          | some t =>
            cases t with
            | no =>
              by_cases hm : j ∈ vs
              · rw [hw2 j hm s q2]
              · have : ∀ (vs : List Nat), j ∉ vs → (wipe3 E2 vs)[j]? = E2[j]? := by
                  intro vs
                  induction vs with
                  | nil => intro _; rfl
                  | cons v r ih =>
                    intro hm
                    unfold wipe3
                    rw [List.getElem?_set_ne (fun z => hm (by rw [z]; exact List.mem_cons_self))]
                    exact ih (fun z => hm (List.mem_cons_of_mem _ z))
                rw [this vs hm, q2] at q3
                exact q3.symm
            | val d => rw [← (wipe3_val q3).1]; exact q2
            | own d => rw [← (wipe3_own q3).1]; exact q2
            | ownD d => rw [← (wipe3_ow q3 rfl).1]; exact q2
            | new nm fs => rw [← (wipe3_some (s := Sl3.new nm fs) (fun q => nomatch q) q3).1]; exact q2
      rw [eq] at q
      exact q
    refine .inl ⟨wk.stop _ F2 H2 _ E2 G2 _ S2 s2 (Nat.le_refl _), hk _ _ _ h2 _ F2 H2 S4 (s1.trans s2) ⟨D, rfl, ⟨hF, hB, hG, hP, xs, hH, ra⟩, fun j t es hj ht e => ?_⟩⟩
    by_cases hm : j ∈ vs
    · have z := hw2 j hm _ hj
      subst z
      cases ht
    · exact no j t es hj ht (by rw [wipe_out' hm]; exact e)
end
end L3

set_option Elab.async false
set_option maxRecDepth 100000
set_option maxHeartbeats 4000000
/-! L3, part f: comprehensions as values, defs; the operators. -/
namespace L3
open PySem PySem.Spec PyProof.Rows L2
section
variable {X : Cx} {B : Base3}
theorem le_lc {elt tg iter : Expr} {ifs : List Expr} {scope : Scope} {own : List (Str × Nat)} {pos : Pos} {di : DI} {g : DG} {tt : DT} {te : DE} (hc : X.calm = true) (hN : X.N.Nodup) (hi : LI X B tg iter di) (ok : BlkOk X.N X.env.scope scope own)
    (hg : ∀ (s : Shared) (H : Hp) (C : Addr) (cl : List (Str × Addr)) (fp : List Addr), LG (X.blk s H scope (compEnvC scope cl C X.env) fp) B (own.map (·.2)) tg g) (ht : ∀ (s : Shared) (H : Hp) (C : Addr) (cl : List (Str × Addr)) (fp : List Addr), LiftTs (X.blk s H scope (compEnvC scope cl C X.env) fp) B ifs tt)
    (he : ∀ (s : Shared) (H : Hp) (C : Addr) (cl : List (Str × Addr)) (fp : List Addr), LE (X.blk s H scope (compEnvC scope cl C X.env) fp) B elt te) (hs : ∀ x, foldedSetIterable iter X.env x = pure x := by intro _; rfl) :
    LE X B (.ListComp elt [⟨tg, iter, ifs, 0⟩] scope pos) (dLc di g tt te (own.map (·.2))) :=
  ⟨pe_imp (pe_lc hc hN hi.pi ok (fun s H C cl fp => (hg s H C cl fp).pg) (fun s H C cl fp => (show PTs _ ifs (LiftT X.K B tt) from ht s H C cl fp)) (fun s H C cl fp => (he s H C cl fp).pe) hs) fun σ H Q h => lc3 h⟩
/-- name = [..] on one line -/
theorem ls_setLc {i : Nat} {y : Str} {py : Pos} {elt tg iter : Expr} {ifs : List Expr} {scope : Scope} {own : List (Str × Nat)} {pos spos : Pos} {di : DI} {g : DG} {tt : DT} {te : DE} (hc : X.calm = true) (hN : X.N.Nodup) (hy : X.N[i]? = some y) (hyl : X.env.scope.names.lookup y = some .local)
    (hsw : swapsWith (.ListComp elt [⟨tg, iter, ifs, 0⟩] scope pos) (some (.Name y py)) spos.line X.env = pure true) (hi : LI X B tg iter di) (ok : BlkOk X.N X.env.scope scope own)
    (hg : ∀ (s : Shared) (H : Hp) (C : Addr) (cl : List (Str × Addr)) (fp : List Addr), LG (X.blk s H scope (compEnvC scope cl C X.env) fp) B (own.map (·.2)) tg g) (ht : ∀ (s : Shared) (H : Hp) (C : Addr) (cl : List (Str × Addr)) (fp : List Addr), LiftTs (X.blk s H scope (compEnvC scope cl C X.env) fp) B ifs tt)
    (he : ∀ (s : Shared) (H : Hp) (C : Addr) (cl : List (Str × Addr)) (fp : List Addr), LE (X.blk s H scope (compEnvC scope cl C X.env) fp) B elt te) (hs : ∀ x, foldedSetIterable iter X.env x = pure x := by intro _; rfl) :
    LS X B (.Assign [.Name y py] (.ListComp elt [⟨tg, iter, ifs, 0⟩] scope pos) spos) (dSet i (dLc di g tt te (own.map (·.2)))) :=
  ⟨ps_imp (ps_setLc hc hN hy hyl hsw hi.pi ok (fun s H C cl fp => (hg s H C cl fp).pg) (fun s H C cl fp => (show PTs _ ifs (LiftT X.K B tt) from ht s H C cl fp)) (fun s H C cl fp => (he s H C cl fp).pe) hs) fun D σ H ⟨pn, F, E, G, D3, S, h, ok⟩ => by
    refine lc3 (Q := fun x H1 => gName i x σ H1 D.nx) ⟨pn, F, E, G, _, S, h, fun r E1 G1 ⟨hi, E2, hp, h1⟩ v F1 H1 S1 s1 r1 => ?_⟩
    obtain ⟨F2, S2, s2⟩ := S1.put hi r1 hp
    exact ok.nx E2 G1 h1 _ F2 H1 S2 (s1.trans s2)⟩
end

/-! ### defs -/
def start3 (N : List Str) (ds : List D) : Env3 := ds.map Sl3.val ++ List.replicate (N.length - ds.length) Sl3.no
section
variable {P : Program} {w : World} {K : PySem.W.Frag} {mg : Str → Option Value} {base : Heap}
theorem start_st {N : List Str} {F H : Hp} {G : Reg} {ds : List D} {vs : List V} (wl : Wld K F H G) (r : RepL K F ds vs) : St3 K ⟨F, H, G.map (·.1), 0⟩ [] F H (L2.start N vs) (start3 N ds) G := by
  have hl := r.length
  have look : ∀ {i : Nat} {s : Sl3}, (start3 N ds)[i]? = some s → (∃ d, ds[i]? = some d ∧ s = Sl3.val d) ∨ s = Sl3.no := fun {i s} h => by
    unfold start3 at h
    by_cases q : i < ds.length
    · rw [List.getElem?_append_left (by simpa using q), List.getElem?_map] at h
      rw [List.getElem?_eq_getElem q] at h ⊢
      exact .inl ⟨_, rfl, (Option.some.inj h).symm⟩
    · rw [List.getElem?_append_right (by simpa using Nat.le_of_not_lt q)] at h
      have := List.mem_of_getElem? h
      exact .inr (List.eq_of_mem_replicate this)
  refine ⟨wl, Same.refl F, fun a o h _ => h, fun a o _ _ h => h, fun a h => .inl h, fun a h => h, ?_, fun i d h => ?_, fun i s d h ho => ?_, fun i j s t d e a h _ ho => ?_, fun a xs h => (by cases h), ⟨List.nodup_nil, fun p h => (by cases h)⟩, fun nm fs h => (look h).elim (fun ⟨_, _, z⟩ => by cases z) fun z => by cases z⟩
  · unfold start3 L2.start
    simp only [List.length_append, List.length_map, List.length_replicate, hl]
  · rcases look h with ⟨d', h1, h2⟩ | z
    · cases h2
      obtain ⟨v, h3, h4⟩ := r.get h1
      refine ⟨v, ?_, h4⟩
      have hlt := lt_of_look h3
      unfold L2.start
      rw [List.getElem?_append_left (by simpa using hlt), List.getElem?_map, h3]
      rfl
    · cases z
  · rcases look h with ⟨d', h1, h2⟩ | z
    · subst h2; cases ho
    · subst z; cases ho
  · rcases look h with ⟨d', h1, h2⟩ | z
    · subst h2; cases ho
    · subst z; cases ho
theorem St3.afterB {F H F' H' : Hp} {G G' : Reg} {pn : Pend} {σ : L2.St} {E : Env3} (S : St3 K ⟨F, H, G.map (·.1), 0⟩ pn F' H' σ E G') : After K F H G F' H' G' :=
  ⟨S.w, S.keepF, S.keepH, S.unfr, S.regs, S.regk⟩
/-- THE RULE for a def: its body as a term of rules, and what it makes of plain values -/
theorem ok3 {x qual : Str} {st : Stmt} {f : Addr} {fd : FuncData} {N ps : List Str} {k : Nat} {sp : DSp} (F : Fun K x qual st f fd) (S : FnScope N ps (defScope st)) (len : ∀ ds G q e, sp ds G q e → ds.length = ps.length)
    (body : ∀ (cdv : Value) (A : Around) (outer : List Env) (s : Shared) (H : Hp) (E : XK) (B : Base3) (dw : Exc3 → Reg → Prop), Room k (A.deeper (envOfC qual (defScope st) s.heap.objs.size f cdv)) →
      WOkL (cxOf (L2.CX P w) P w K mg base N qual (defScope st) f cdv A outer s H E) B (fun x _ G => dw x G) →
      ∃ t : DSt, LSs (cxOf (L2.CX P w) P w K mg base N qual (defScope st) f cdv A outer s H E) B (defBody st) t ∧ ∀ ds G q, sp ds G q dw → t { nx := fun _ G' => q (.val .non) G', rt := q } (start3 N ds) G) :
    FnOk P w K mg base (L2.CX P w) (k + 1) f fd ps (LSp K sp) := by
  refine F.okX S (fun vs H Q E h => ?_) (fun cdv A outer s H vs Q E hr h => ?_)
  · obtain ⟨F, G, ds, q, e, _, r, h, _⟩ := h
    rw [← r.length]
    exact len _ _ _ _ h
  · obtain ⟨F, G, ds, q, e, wl, r, h, hq, he⟩ := h
    have wk : WOkL (cxOf (L2.CX P w) P w K mg base N qual (defScope st) f cdv A outer s H E) ⟨F, H, G.map (·.1), 0⟩ (fun x _ G => e x G) :=
      ⟨⟨fun cls d H => E cls d H, takes_of rfl rfl rfl rfl, fun pn F' H' σ E' G' x cls dd S' rx hx => he x G' hx cls dd F' H' S'.afterB rx⟩, lk_self⟩
    obtain ⟨t, hb, ht⟩ := body cdv A outer s H E ⟨F, H, G.map (·.1), 0⟩ e hr wk
    refine ⟨_, hb.pss, ⟨[], F, start3 N ds, G, _, start_st wl r, ht ds G q h, ⟨fun E' G' h' σ' F' H' S' _ => hq _ _ h' _ F' H' S'.afterB .non, fun r' G' h' v F' H' σ' E' S' _ rr => hq _ _ h' v F' H' S'.afterB ?_, fun _ _ z => z.elim, fun _ _ z => z.elim⟩⟩⟩
    cases r' with
    | val d => exact rr
    | fr es =>
      obtain ⟨a, rfl, f⟩ := rr
      obtain ⟨xs, h1, h2⟩ := f.ex
      exact ⟨a, xs, rfl, f.nF, f.nB, f.nG, h1, h2⟩
    | frD d =>
      obtain ⟨a, rfl, f⟩ := rr
      obtain ⟨o, h1, h2⟩ := f.ex
      exact ⟨a, o, rfl, f.nF, f.nB, f.nG, h1, h2⟩
    | sl i => exact rr.elim
end

/-! ### plain data that can be compared -/
mutual
def D.py : D → PyData
  | .non => .none
  | .bl b => .bool b
  | .int i => .int i
  | .str x => .str x
  | .ref _ => .none
  | .ty _ => .none
  | .scr _ => .none
  | .obj _ _ => .none
  | .cls _ => .none
  | .dcK _ _ => .none
  | .dcT _ _ => .none
  | .ktp _ => .none
  | .tag _ => .none
  | .tup ds => .tuple (pyL ds)
  | .lst ds => .list (pyL ds)
def pyL : List D → List PyData
  | [] => []
  | d :: ds => d.py :: pyL ds
end
def shl (p : D → Bool) : D → Bool
  | .tup ds => ds.all p
  | .lst ds => ds.all p
  | .ref _ => false
  | .ty _ => false
  | .scr _ => false
  | .obj _ _ => false
  | .cls _ => false
  | .dcK _ _ => false
  | .dcT _ _ => false
  | .ktp _ => false
  | .tag _ => false
  | .str x => PyData.strOk x
  | _ => true
def sh0 : D → Bool
  | .tup ds => ds.isEmpty
  | .lst ds => ds.isEmpty
  | .ref _ => false
  | .ty _ => false
  | .scr _ => false
  | .obj _ _ => false
  | .cls _ => false
  | .dcK _ _ => false
  | .dcT _ _ => false
  | .ktp _ => false
  | .tag _ => false
  | .str x => PyData.strOk x
  | _ => true
def D.sh : D → Bool := shl (shl (shl (shl (shl sh0))))
/-- as sh, told so that the kernel reckons it -/
def strOkC (x : Str) : Bool := x.cps.toList.all fun c => Nat.blt c 0x110000
theorem strOkC_of {x : Str} (h : strOkC x = true) : PyData.strOk x = true := by
  unfold PyData.strOk
  rw [Array.all_eq_true']
  intro c hc
  have := List.all_eq_true.mp h c (Array.mem_toList_iff.mpr hc)
  exact decide_eq_true (Nat.blt_eq.mp this)
def shlC (p : D → Bool) : D → Bool
  | .tup ds => ds.all p
  | .lst ds => ds.all p
  | .str x => strOkC x
  | .non => true
  | .bl _ => true
  | .int _ => true
  | _ => false
def sh0C : D → Bool
  | .tup ds => ds.isEmpty
  | .lst ds => ds.isEmpty
  | .str x => strOkC x
  | .non => true
  | .bl _ => true
  | .int _ => true
  | _ => false
def D.shC : D → Bool := shlC (shlC (shlC (shlC (shlC sh0C))))
theorem sh0C_of : ∀ {d : D}, sh0C d = true → sh0 d = true := fun {d} h => by
  cases d <;> first | exact h | exact strOkC_of h | cases h
theorem shlC_of {p q : D → Bool} (hp : ∀ {d : D}, p d = true → q d = true) : ∀ {d : D}, shlC p d = true → shl q d = true := fun {d} h => by
  cases d with
  | tup ds => exact List.all_eq_true.mpr fun x hx => hp (List.all_eq_true.mp h x hx)
  | lst ds => exact List.all_eq_true.mpr fun x hx => hp (List.all_eq_true.mp h x hx)
  | str x => exact strOkC_of h
  | _ => first | rfl | cases h
theorem shC_of {d : D} (h : d.shC = true) : d.sh = true := shlC_of (fun h => shlC_of (fun h => shlC_of (fun h => shlC_of (fun h => shlC_of sh0C_of h) h) h) h) h
def D.eqv (d e : D) : Bool := PyData.eqv d.py e.py
def ShOk (p : D → Bool) (m : Nat) : Prop := ∀ (K : PySem.W.Frag) (F : Hp) (d : D) (v : V), p d = true → Rep K F d v → Dp K F v d.py ∧ d.py.canLay0 = true ∧ d.py.depth ≤ m
theorem pyL_map : ∀ ds : List D, pyL ds = ds.map D.py
  | [] => rfl
  | d :: ds => by rw [pyL, pyL_map ds]; rfl
theorem sh0_ok : ShOk sh0 1 := by
  intro K F d v h r
  cases r with
  | non => exact ⟨.non, rfl, by simp [D.py, PyData.depth]⟩
  | bl b => exact ⟨.bl b, rfl, by simp [D.py, PyData.depth]⟩
  | int b => exact ⟨.int b, rfl, by simp [D.py, PyData.depth]⟩
  | str b => exact ⟨.str b, h, by simp [D.py, PyData.depth]⟩
  | ref a => cases h
  | ty n => cases h
  | scr n => cases h
  | obj _ _ _ _ => cases h
  | cls _ => cases h
  | dcK _ _ _ => cases h
  | dcT _ _ _ => cases h
  | ktp _ => cases h
  | @tup a xs ds hs ha =>
    cases ds with
    | nil => cases ha; exact ⟨.tup (SqT.of hs) .nil, rfl, by simp [D.py, pyL, PyData.depth, PyData.depthAll]⟩
    | cons _ _ => cases h
  | @lst a xs ds hs ha =>
    cases ds with
    | nil => cases ha; exact ⟨.lst (.inl hs) .nil, rfl, by simp [D.py, pyL, PyData.depth, PyData.depthAll]⟩
    | cons _ _ => cases h
theorem shl_all {p : D → Bool} {m : Nat} (hp : ShOk p m) {K : PySem.W.Frag} {F : Hp} : ∀ (ds : List D) (vs : List V), ds.all p = true → RepL K F ds vs → DpAll K F vs (pyL ds) ∧ PyData.canLayAll0 (pyL ds) = true ∧ PyData.depthAll (pyL ds) ≤ m
  | [], _, _, r => by cases r; exact ⟨.nil, rfl, Nat.zero_le _⟩
  | d :: ds, _, h, r => by
    cases r with
    | cons r1 r2 =>
      rw [List.all_cons, Bool.and_eq_true] at h
      obtain ⟨h1, h2, h3⟩ := hp K F d _ h.1 r1
      obtain ⟨q1, q2, q3⟩ := shl_all hp ds _ h.2 r2
      exact ⟨.cons h1 q1, by simp [pyL, PyData.canLayAll0, h2, q2], by simp only [pyL, PyData.depthAll]; exact Nat.max_le.mpr ⟨h3, q3⟩⟩
theorem shl_ok {p : D → Bool} {m : Nat} (hp : ShOk p m) : ShOk (shl p) (m + 1) := by
  intro K F d v h r
  cases r with
  | non => exact ⟨.non, rfl, by simp [D.py, PyData.depth]⟩
  | bl b => exact ⟨.bl b, rfl, by simp [D.py, PyData.depth]⟩
  | int b => exact ⟨.int b, rfl, by simp [D.py, PyData.depth]⟩
  | str b => exact ⟨.str b, h, by simp [D.py, PyData.depth]⟩
  | ref a => cases h
  | ty n => cases h
  | scr n => cases h
  | obj _ _ _ _ => cases h
  | cls _ => cases h
  | dcK _ _ _ => cases h
  | dcT _ _ _ => cases h
  | ktp _ => cases h
  | @tup a xs ds hs ha =>
    obtain ⟨h1, h2, h3⟩ := shl_all hp ds xs h ha
    exact ⟨.tup (SqT.of hs) h1, by simpa [D.py, PyData.canLay0] using h2, by simp only [D.py, PyData.depth]; omega⟩
  | @lst a xs ds hs ha =>
    obtain ⟨h1, h2, h3⟩ := shl_all hp ds xs h ha
    exact ⟨.lst (.inl hs) h1, by simpa [D.py, PyData.canLay0] using h2, by simp only [D.py, PyData.depth]; omega⟩
theorem sh_ok : ShOk D.sh 6 := shl_ok (shl_ok (shl_ok (shl_ok (shl_ok sh0_ok))))
mutual
theorem Dp.mono3 {K : PySem.W.Frag} {F F' : Hp} (e : Same F F') : ∀ (d : PyData) (v : V), Dp K F v d → Dp K F' v d
  | .none, _, h => by cases h; exact .non
  | .bool _, _, h => by cases h; exact .bl _
  | .int _, _, h => by cases h; exact .int _
  | .str _, _, h => by cases h; exact .str _
  | .list ds, _, h => by
    cases h with
    | lst hs ha => exact .lst (e.seq hs) (DpAll.mono3 e ds _ ha)
  | .tuple ds, _, h => by
    cases h with
    | tup hs ha => exact .tup (sameT e hs) (DpAll.mono3 e ds _ ha)
  | .dict _, _, h => by cases h
theorem DpAll.mono3 {K : PySem.W.Frag} {F F' : Hp} (e : Same F F') : ∀ (ds : List PyData) (vs : List V), DpAll K F vs ds → DpAll K F' vs ds
  | [], _, h => by cases h; exact .nil
  | d :: ds, _, h => by
    cases h with
    | cons h1 h2 => exact .cons (Dp.mono3 e d _ h1) (DpAll.mono3 e ds _ h2)
end
theorem sh_H {K : PySem.W.Frag} {F H : Hp} {d : D} {v : V} (s : Same F H) (h : d.sh = true) (r : RepH K F H d v) : Dp K H v d.py ∧ SeqAt.shaped d.py = true := by
  have fin : ∀ {d : D}, Dp K H v d.py ∧ d.py.canLay0 = true ∧ d.py.depth ≤ 6 → Dp K H v d.py ∧ SeqAt.shaped d.py = true := fun {d} ⟨a, b, c⟩ => ⟨a, by unfold SeqAt.shaped; rw [b, Bool.true_and]; exact decide_eq_true (by omega)⟩
  rcases r with r | ⟨a, o, rfl, h1, h2⟩
  · obtain ⟨q1, q2, q3⟩ := sh_ok K F d v h r
    exact fin ⟨Dp.mono3 s _ _ q1, q2, q3⟩
  · obtain ⟨ds, rfl⟩ : ∃ ds, d = .lst ds := by
      cases d with
      | lst ds => exact ⟨ds, rfl⟩
      | dcT ks ds => cases h
      | dcK ks ds => cases h
      | _ => exact h2.elim
    obtain ⟨xs, rfl, h2⟩ := h2
    obtain ⟨q1, q2, q3⟩ := shl_all (shl_ok (shl_ok (shl_ok (shl_ok sh0_ok)))) ds xs h (RepL.mono s _ _ h2)
    refine fin (d := .lst ds) ⟨.lst (SqL.of h1) q1, by simpa [D.py, PyData.canLay0] using q2, by simp only [D.py, PyData.depth]; omega⟩
theorem RepH.lst {K : PySem.W.Frag} {F H : Hp} {ds : List D} {v : V} (r : RepH K F H (.lst ds) v) (s : Same F H) : ∃ a xs, v = .ref a ∧ Rd H a (.lst xs) ∧ RepL K F ds xs := by
  rcases r with r | ⟨a, o, rfl, h1, h2⟩
  · cases r with
    | lst hs ha => exact ⟨_, _, rfl, sameR s hs, ha⟩
  · obtain ⟨xs, rfl, h2⟩ := h2
    exact ⟨a, xs, rfl, Rd.of h1, h2⟩
theorem RepH.dct {K : PySem.W.Frag} {F H : Hp} {ks : List (List Key)} {ds : List D} {v : V} (r : RepH K F H (.dcT ks ds) v) (s : Same F H) : ∃ a ob xs, v = .ref a ∧ H a = some (.frz ob (.dT (ks.zip xs))) ∧ ks.length = xs.length ∧ RepL K F ds xs := by
  rcases r with r | ⟨a, o, rfl, h1, h2⟩
  · cases r with
    | dcT e hl ha => exact ⟨_, _, _, rfl, s _ _ e, hl, ha⟩
  · obtain ⟨ob, xs, rfl, hl, h2⟩ := h2
    exact ⟨a, ob, xs, rfl, h1, hl, h2⟩
theorem RepH.dck {K : PySem.W.Frag} {F H : Hp} {ks : List Key} {ds : List D} {v : V} (r : RepH K F H (.dcK ks ds) v) (s : Same F H) : ∃ a ob xs, v = .ref a ∧ H a = some (.frz ob (.dK (ks.zip xs))) ∧ ks.length = xs.length ∧ RepL K F ds xs := by
  rcases r with r | ⟨a, o, rfl, h1, h2⟩
  · cases r with
    | dcK e hl ha => exact ⟨_, _, _, rfl, s _ _ e, hl, ha⟩
  · obtain ⟨ob, xs, rfl, hl, h2⟩ := h2
    exact ⟨a, ob, xs, rfl, h1, hl, h2⟩
/-- a dict -/
def D.isDc : D → Bool
  | .dcT _ _ => true
  | .dcK _ _ => true
  | _ => false
theorem RepH.val {K : PySem.W.Frag} {F H : Hp} {d : D} {v : V} (r : RepH K F H d v) (n : ∀ ds, d ≠ .lst ds) (m : d.isDc = false := by rfl) : Rep K F d v := by
  rcases r with r | ⟨a, o, rfl, h1, h2⟩
  · exact r
  · cases d with
    | lst ds => exact absurd rfl (n ds)
    | dcT ks ds => cases m
    | dcK ks ds => cases m
    | _ => exact h2.elim
theorem RepH.tup {K : PySem.W.Frag} {F H : Hp} {ds : List D} {v : V} (r : RepH K F H (.tup ds) v) (s : Same F H) : ∃ a xs, v = .ref a ∧ SqT K H a xs ∧ RepL K F ds xs := by
  cases r.val (fun _ q => nomatch q) with
  | tup hs ha => exact ⟨_, _, rfl, SqT.of (s _ _ hs), ha⟩
/-- a tuple as it stands in the heap -/
theorem RepH.tupX {K : PySem.W.Frag} {F H : Hp} {ds : List D} {v : V} (r : RepH K F H (.tup ds) v) (s : Same F H) : ∃ a xs, v = .ref a ∧ H a = some (.tup xs) ∧ RepL K F ds xs := by
  cases r.val (fun _ q => nomatch q) with
  | tup hs ha => exact ⟨_, _, rfl, s _ _ hs, ha⟩
theorem RepH.ktp {K : PySem.W.Frag} {F H : Hp} {ns : List Int} {v : V} (r : RepH K F H (.ktp ns) v) (s : Same F H) : ∃ a, v = .ref a ∧ SqT K H a (ns.map V.int) := by
  cases r.val (fun _ q => nomatch q) with
  | ktp hs => exact ⟨_, rfl, sameT s hs⟩
theorem ktp_dp {K : PySem.W.Frag} {H : Hp} {a : Addr} {ns : List Int} (h : SqT K H a (ns.map V.int)) : Dp K H (.ref a) (D.tup (ns.map D.int)).py ∧ SeqAt.shaped (D.tup (ns.map D.int)).py = true := by
  have e : (ns.map D.int).all sh0 = true := List.all_eq_true.mpr fun d hd => by
    obtain ⟨i, _, rfl⟩ := List.mem_map.mp hd
    rfl
  obtain ⟨h1, h2, h3⟩ := shl_all sh0_ok (ns.map D.int) (ns.map V.int) e (RepL.ints (K := K) (F := H) ns)
  refine ⟨.tup h h1, ?_⟩
  unfold SeqAt.shaped
  rw [Bool.and_eq_true]
  exact ⟨by simpa [D.py, PyData.canLay0] using h2, decide_eq_true (by simp only [D.py, PyData.depth]; omega)⟩
theorem RepH.int {K : PySem.W.Frag} {F H : Hp} {i : Int} {v : V} (r : RepH K F H (.int i) v) : v = .int i := by
  cases r.val (fun _ q => nomatch q); rfl
theorem RepH.bl {K : PySem.W.Frag} {F H : Hp} {i : Bool} {v : V} (r : RepH K F H (.bl i) v) : v = .bl i := by
  cases r.val (fun _ q => nomatch q); rfl
theorem RepH.str {K : PySem.W.Frag} {F H : Hp} {i : Str} {v : V} (r : RepH K F H (.str i) v) : v = .str i := by
  cases r.val (fun _ q => nomatch q); rfl
theorem RepH.non {K : PySem.W.Frag} {F H : Hp} {v : V} (r : RepH K F H .non v) : v = .non := by
  cases r.val (fun _ q => nomatch q); rfl
end L3

set_option Elab.async false
set_option maxRecDepth 100000
set_option maxHeartbeats 4000000
/-! L3, part g: operators, subscripts, built-ins over plain values. -/
namespace L3
open PySem PySem.Spec PyProof.Rows L2
section
variable {X : Cx} {B : Base3}
/-! ### list + list, list * int: also of a list that is locked -/
def rCatR : R2 := fun x y H Q => ∃ l b xs zs, x = .ref l ∧ y = .ref b ∧ Rd H l (.lst xs) ∧ Rd H b (.lst zs) ∧ xs.length + zs.length ≤ sizeLine ∧ ∀ p, H p = none → Q (.ref p) (upd H p (.lst (xs ++ zs)))
theorem op_catR : OpR X (binaryOp .Add) rCatR := by
  intro pins s σ H x y v u Q I rx ry h
  obtain ⟨l, b, xs, zs, rfl, rfl, hH, hB, hz, q⟩ := h
  cases rx
  cases ry
  obtain ⟨z, its, n, r, e⟩ := hH.ok I.hok
  obtain ⟨z2, its2, n2, r2, e2⟩ := hB.ok I.hok
  have hl := r.length
  have hl2 := r2.length
  refine PySem.P.add_list e e2 ?_ (by rw [List.size_toArray, List.size_toArray]; omega)
  have ea : its.toArray ++ its2.toArray = (its ++ its2).toArray := by simp
  rw [ea]
  exact ⟨.ref _, _, I.lnew (t' := s.toks) (r.append r2) (by rw [List.length_append]; omega), rfl, q _ I.fresh⟩
def rRepR : R2 := fun x y H Q => ∃ l k xs, x = .ref l ∧ y = .int k ∧ Rd H l (.lst xs) ∧ -(2 ^ 63) ≤ k ∧ k < 2 ^ 63 ∧ xs.length * k.toNat ≤ sizeLine ∧
  ∀ p, H p = none → Q (.ref p) (upd H p (.lst (List.replicate k.toNat xs).flatten))
theorem op_repR : OpR X (binaryOp .Mult) rRepR := by
  intro pins s σ H x y v u Q I rx ry h
  obtain ⟨l, k, xs, rfl, rfl, hH, h1, h2, hz, q⟩ := h
  cases rx
  obtain ⟨t, rfl⟩ := ry
  obtain ⟨z, its, n, r, e⟩ := hH.ok I.hok
  have hl := r.length
  have hlen : its.toArray.size * k.toNat ≤ sizeLine := by rw [List.size_toArray, ← hl]; exact hz
  have hcap : ¬ its.toArray.size * k.toNat > (2 ^ 63 - 1) / 8 := by
    have : (sizeLine : Nat) ≤ (2 ^ 63 - 1) / 8 := by decide
    omega
  have hfit : ¬ (!Builtin.List.listFitsIndex k) = true := by
    rw [fitsIndex_both h1 h2]
    exact Bool.false_ne_true
  have hlong : ¬ Builtin.List.listTooLong (its.toArray.size * k.toNat) = true := by
    rw [notLongL hlen]
    exact Bool.false_ne_true
  have hnew : List.foldl (fun x1 x2 => x1 ++ x2) #[] (List.replicate (if its.toArray.isEmpty = true then 0 else k.toNat) its.toArray) = (List.replicate k.toNat its).flatten.toArray := by
    have f0 : ∀ m : Nat, List.foldl (fun x1 x2 => x1 ++ x2) #[] (List.replicate m its.toArray) = (List.replicate m its).flatten.toArray := fun m => by
      have := foldl_rep its m []
      rw [List.nil_append] at this
      exact this
    rw [f0]
    cases its with
    | nil => simp
    | cons a r' => rw [if_neg (by simp)]
  refine wpAny_binaryOp_repeat_ref (T := "list") (U := "int") (by decide) ⟨_, e, rfl⟩ (fun s' => typeIs_int s' k t) noFill_list_mul F.fills_int_mul F.slot_int_rmul repeat_list F.slot_int_index.lookup
    (call_meets F.slot_int_rmul (typeIs_int s k t) F.entry_int_rmul (F.args_int_rmul_2 _ _) (int___rmul___int_list k t l its.toArray n)
      ⟨e, rfl, ⟨_, e, rfl⟩, call_meets F.slot_list_mul ⟨_, e, rfl⟩ F.entry_list_mul (F.args_list_mul_2 _ _) (AutoListH.list___mul___list_int_3 l its.toArray n k t hfit hcap hlong) ⟨e, ?_⟩⟩)
  rw [hnew]
  exact ⟨.ref _, _, I.lnew (t' := s.toks) (r.rep k.toNat) (by rw [PyProof.Rows.lm_len_rep_flat, Nat.mul_comm]; exact hz), rfl, q _ I.fresh⟩

/-! ### + - * // % ** -/
def oAdd : Reg → D → D → (Res → Prop) → Prop := fun _ d e k => match d, e with
  | .int i, .int j => k (.val (.int (i + j)))
  | .str a, .str b => a.length + b.length ≤ sizeLine ∧ k (.val (.str (a ++ b)))
  | .tup a, .tup b => a.length + b.length ≤ sizeLine ∧ k (.val (.tup (a ++ b)))
  | .lst a, .lst b => a.length + b.length ≤ sizeLine ∧ k (.fr (a ++ b))
  | _, _ => False
def rAdd3 (K : PySem.W.Frag) : R2 := fun x y H Q => rI0 (fun i j => .int (i + j)) x y H Q ∨ (∃ i j, x = .str i ∧ y = .str j ∧ i.length + j.length ≤ sizeLine ∧ Q (.str (i ++ j)) H) ∨ rCatA K x y H Q ∨ rCatR x y H Q
theorem op_add3 : OpR X (binaryOp .Add) (rAdd3 X.K) := op_add.or (op_add_str.or (op_catA.or op_catR))
theorem r_add3 : ROp X B (rAdd3 X.K) oAdd := by
  intro pn F H σ E G x y d e k Q S rx ry h hk
  unfold oAdd at h
  split at h
  · rw [rx.int, ry.int]
    exact .inl ⟨_, _, rfl, rfl, hk _ h _ F H S (Same.refl F) (.int _)⟩
  · rw [rx.str, ry.str]
    exact .inr (.inl ⟨_, _, rfl, rfl, h.1, hk _ h.2 _ F H S (Same.refl F) (.str _)⟩)
  · rename_i a b
    obtain ⟨p, xs, rfl, hs, ra⟩ := rx.tup S.w.sub
    obtain ⟨p2, ys, rfl, hs2, rb⟩ := ry.tup S.w.sub
    have rx' := rx.val (fun _ q => nomatch q)
    have ry' := ry.val (fun _ q => nomatch q)
    refine .inr (.inr (.inl ⟨p, p2, xs, ys, rfl, rfl, hs, hs2, by rw [← ra.length, ← rb.length]; exact h.1, fun e => ?_, fun _ e => ?_, fun _ _ q nq => ?_⟩))
    · have ea : a = [] := by cases a with | nil => rfl | cons _ _ => rw [e] at ra; cases ra
      subst ea
      exact hk _ h.2 _ F H S (Same.refl F) ry'
    · have eb : b = [] := by cases b with | nil => rfl | cons _ _ => rw [e] at rb; cases rb
      subst eb
      rw [List.append_nil] at h
      exact hk _ h.2 _ F H S (Same.refl F) rx'
    · obtain ⟨S2, s2⟩ := S.newF (o := .tup (xs ++ ys)) nq
      exact hk _ h.2 _ _ _ S2 s2 (.tup upd_same (RepL.mono s2 _ _ (ra.append rb)))
  · obtain ⟨p, xs, rfl, hs, ra⟩ := rx.lst S.w.sub
    obtain ⟨p2, ys, rfl, hs2, rb⟩ := ry.lst S.w.sub
    refine .inr (.inr (.inr ⟨p, p2, xs, ys, rfl, rfl, hs, hs2, by rw [← ra.length, ← rb.length]; exact h.1, fun q nq => ?_⟩))
    obtain ⟨f, no⟩ := S.newFre nq (ra.append rb)
    exact hk _ h.2 _ _ _ (S.newU nq) (Same.refl F) ⟨q, rfl, f, no⟩
  · exact h.elim
theorem le_add {a b : Expr} {ta tb : DE} {pos} (ha : LE X B a ta) (hb : LE X B b tb) : LE X B (.BinOp a .Add b pos) (dOp oAdd ta tb) := le_op op_add3 r_add3 ha hb

def oSub : Reg → D → D → (Res → Prop) → Prop := fun _ d e k => match d, e with
  | .int i, .int j => k (.val (.int (i - j)))
  | _, _ => False
/-- an operator of ints -/
theorem r_ii {C : Int → Int → Prop} {g : Int → Int → Int} {rd : Reg → D → D → (Res → Prop) → Prop} (h : ∀ G d e k, rd G d e k → ∃ i j, d = .int i ∧ e = .int j ∧ C i j ∧ k (.val (.int (g i j)))) : ROp X B (rI C fun i j => .int (g i j)) rd := by
  intro pn F H σ E G x y d e k Q S rx ry hr hk
  obtain ⟨i, j, rfl, rfl, hc, q⟩ := h _ _ _ _ hr
  exact ⟨i, j, rx.int, ry.int, hc, hk _ q _ F H S (Same.refl F) (.int _)⟩
theorem r_ii0 {g : Int → Int → Int} {rd : Reg → D → D → (Res → Prop) → Prop} (h : ∀ G d e k, rd G d e k → ∃ i j, d = .int i ∧ e = .int j ∧ k (.val (.int (g i j)))) : ROp X B (rI0 fun i j => .int (g i j)) rd := by
  intro pn F H σ E G x y d e k Q S rx ry hr hk
  obtain ⟨i, j, rfl, rfl, q⟩ := h _ _ _ _ hr
  exact ⟨i, j, rx.int, ry.int, hk _ q _ F H S (Same.refl F) (.int _)⟩
theorem r_ib0 {g : Int → Int → Bool} {rd : Reg → D → D → (Res → Prop) → Prop} (h : ∀ G d e k, rd G d e k → ∃ i j, d = .int i ∧ e = .int j ∧ k (.val (.bl (g i j)))) : ROp X B (rI0 fun i j => .bl (g i j)) rd := by
  intro pn F H σ E G x y d e k Q S rx ry hr hk
  obtain ⟨i, j, rfl, rfl, q⟩ := h _ _ _ _ hr
  exact ⟨i, j, rx.int, ry.int, hk _ q _ F H S (Same.refl F) (.bl _)⟩
theorem r_sub3 : ROp X B (rI0 fun i j => .int (i - j)) oSub := r_ii0 fun G d e k h => by
  unfold oSub at h
  split at h
  · exact ⟨_, _, rfl, rfl, h⟩
  · exact h.elim
theorem le_sub {a b : Expr} {ta tb : DE} {pos} (ha : LE X B a ta) (hb : LE X B b tb) : LE X B (.BinOp a .Sub b pos) (dOp oSub ta tb) := le_op op_sub r_sub3 ha hb

/-- a product's size: one factor within 2 ^ 64, or both together below a million bits -/
def MulOk (i j : Int) : Prop := CMul i j ∨ CMulW i j
theorem op_mulI : OpR X (binaryOp .Mult) (rI MulOk fun i j => .int (i * j)) := by
  intro pins s σ H x y v u Q I rx ry h
  obtain ⟨i, j, rfl, rfl, hc, q⟩ := h
  rcases hc with hc | hc
  · exact op_mul pins s σ H _ _ v u Q I rx ry ⟨i, j, rfl, rfl, hc, q⟩
  · exact op_mulW pins s σ H _ _ v u Q I rx ry ⟨i, j, rfl, rfl, hc, q⟩
/-- the built-in at count one hands the tuple itself back -/
theorem tup_times_one (l : Addr) (its : Array Value) (n : Nat) (dd : Option Addr) (sl : Array (Option Value)) (u : Tok) :
    Meets (Builtin.«tuple.__mul__» ⟨[Value.ref l, Value.int 1 u], []⟩) (fun _ R s =>
      s.heap.get? l = some ⟨.type "tuple", dd, .seq its n, sl⟩ ∧ R (.ok (.ret (Value.ref l))) s) := by
  refine .of_wp fun prog w A R s h => ?_
  obtain ⟨hp, g, d, tk, os⟩ := s
  obtain ⟨hl, h⟩ := h
  have f1 := AutoSeq1.idx_int
  wp_walk using wpAny_loadPart' hl
  exact ⟨_, rfl, h⟩
theorem tup_times_none (l : Addr) (its : Array Value) (n : Nat) (dd : Option Addr) (sl : Array (Option Value)) (u : Tok) (hn : its.isEmpty = false) :
    Meets (Builtin.«tuple.__mul__» ⟨[Value.ref l, Value.int 0 u], []⟩) (fun _ R s =>
      s.heap.get? l = some ⟨.type "tuple", dd, .seq its n, sl⟩ ∧
      R (.ok (.ret (Value.ref s.heap.objs.size))) { s with heap := s.heap.push { cls := Value.type "tuple", data := Data.seq #[] }, toks := s.toks }) := by
  refine .of_wp fun prog w A R s h => ?_
  obtain ⟨hp, g, d, tk, os⟩ := s
  obtain ⟨hl, h⟩ := h
  have f1 := AutoSeq1.idx_int
  wp_walk using wpAny_loadPart' hl
  exact ⟨_, rfl, h⟩
def rRep01 (K : PySem.W.Frag) : R2 := fun x y H Q => ∃ l k xs, x = .ref l ∧ y = .int k ∧ SqT K H l xs ∧ xs ≠ [] ∧ (k = 1 ∧ Q (.ref l) H ∨ k = 0 ∧ ∀ p, H p = none → Q (.ref p) (upd H p (.tup [])))
theorem op_rep01 : OpR X (binaryOp .Mult) (rRep01 X.K) := by
  intro ps s σ H x y v u Q I rx ry hc
  obtain ⟨l, k, xs, rfl, rfl, sq, ne, hc⟩ := hc
  cases rx
  obtain ⟨t, rfl⟩ := ry
  obtain ⟨its, rr, ⟨⟨cl, dd, dt, sl⟩, g, c1, n, c2⟩, -⟩ := I.tuple sq
  simp only at c1 c2
  subst c1 c2
  have nn : its.toArray.isEmpty = false := by
    cases its with
    | nil => cases rr; exact absurd rfl ne
    | cons a b => rfl
  rcases hc with ⟨rfl, q⟩ | ⟨rfl, q⟩
  · exact wpAny_binaryOp_repeat_ref (T := "tuple") (U := "int") (by decide) ⟨_, g, rfl⟩ (fun _ => typeIs_int _ _ _) noFill_tuple_mul F.fills_int_mul F.slot_int_rmul repeat_tuple F.slot_int_index.lookup
      (call_meets F.slot_int_rmul (typeIs_int _ _ _) F.entry_int_rmul (F.args_int_rmul_2 _ _) (int_rmul_tuple _ _ _ _ _ _ _)
        ⟨g, rfl, ⟨_, g, rfl⟩, call_meets F.slot_tuple_mul ⟨_, g, rfl⟩ F.entry_tuple_mul (F.args_tuple_mul_2 _ _) (tup_times_one _ _ _ _ _ _)
          ⟨g, .ref l, _, I, rfl, q⟩⟩)
  · exact wpAny_binaryOp_repeat_ref (T := "tuple") (U := "int") (by decide) ⟨_, g, rfl⟩ (fun _ => typeIs_int _ _ _) noFill_tuple_mul F.fills_int_mul F.slot_int_rmul repeat_tuple F.slot_int_index.lookup
      (call_meets F.slot_int_rmul (typeIs_int _ _ _) F.entry_int_rmul (F.args_int_rmul_2 _ _) (int_rmul_tuple _ _ _ _ _ _ _)
        ⟨g, rfl, ⟨_, g, rfl⟩, call_meets F.slot_tuple_mul ⟨_, g, rfl⟩ F.entry_tuple_mul (F.args_tuple_mul_2 _ _) (tup_times_none _ _ _ _ _ _ nn)
          ⟨g, .ref s.heap.objs.size, _, I.laid (t' := s.toks) (o := .tup []) (fun b ob q => Heap.get?_push_of_some _ q) (Nat.le_refl _) ⟨by decide, _, .nil, IsTup.new _ _⟩, rfl, q _ (I.hok.fresh (Nat.le_refl _))⟩⟩)
def oMul : Reg → D → D → (Res → Prop) → Prop := fun _ d e k => match d, e with
  | .int i, .int j => MulOk i j ∧ k (.val (.int (i * j)))
  | .lst a, .int j => -(2 ^ 63) ≤ j ∧ j < 2 ^ 63 ∧ a.length * j.toNat ≤ sizeLine ∧ k (.fr (List.replicate j.toNat a).flatten)
  | .tup a, .int j => a ≠ [] ∧ 0 ≤ j ∧ j ≤ 1000 ∧ a.length ≤ 1000 ∧ k (.val (.tup (List.replicate j.toNat a).flatten))
  | _, _ => False
def rMul3 (K : PySem.W.Frag) : R2 := fun x y H Q => rI MulOk (fun i j => .int (i * j)) x y H Q ∨ rRepR x y H Q ∨ rRepT K x y H Q ∨ rRep01 K x y H Q
theorem op_mul3 : OpR X (binaryOp .Mult) (rMul3 X.K) := op_mulI.or (op_repR.or (op_repT.or op_rep01))
theorem r_mul3 : ROp X B (rMul3 X.K) oMul := by
  intro pn F H σ E G x y d e k Q S rx ry h hk
  unfold oMul at h
  split at h
  · exact .inl ⟨_, _, rx.int, ry.int, h.1, hk _ h.2 _ F H S (Same.refl F) (.int _)⟩
  · obtain ⟨h1, h2, h3, h4⟩ := h
    obtain ⟨p, xs, rfl, hs, ra⟩ := rx.lst S.w.sub
    refine .inr (.inl ⟨p, _, xs, rfl, ry.int, hs, h1, h2, by rw [← ra.length]; exact h3, fun q nq => ?_⟩)
    obtain ⟨f, no⟩ := S.newFre nq (ra.rep _)
    exact hk _ h4 _ _ _ (S.newU nq) (Same.refl F) ⟨q, rfl, f, no⟩
  · rename_i a j
    obtain ⟨h0, h1, h2, h3, h4⟩ := h
    obtain ⟨p, xs, rfl, hs, ra⟩ := rx.tup S.w.sub
    have hne : xs ≠ [] := fun e => h0 (by rw [e] at ra; cases ra; rfl)
    rcases (by omega : j = 0 ∨ j = 1 ∨ 2 ≤ j) with rfl | rfl | h1
    · refine .inr (.inr (.inr ⟨p, _, xs, rfl, ry.int, hs, hne, .inr ⟨rfl, fun q nq => ?_⟩⟩))
      obtain ⟨S2, s2⟩ := S.newF nq
      exact hk _ h4 _ _ _ S2 s2 (.tup upd_same .nil)
    · rw [show (List.replicate (Int.toNat 1) a).flatten = a from by simp [List.replicate]] at h4
      exact .inr (.inr (.inr ⟨p, _, xs, rfl, ry.int, hs, hne, .inl ⟨rfl, hk _ h4 _ _ _ S (Same.refl F) (rx.val (fun _ q => nomatch q))⟩⟩))
    refine .inr (.inr (.inl ⟨p, _, xs, rfl, ry.int, hs, hne, h1, h2, by rw [← ra.length]; exact h3, fun q nq => ?_⟩))
    · obtain ⟨S2, s2⟩ := S.newF nq
      exact hk _ h4 _ _ _ S2 s2 (.tup upd_same (RepL.mono s2 _ _ (ra.rep _)))
  · exact h.elim
theorem le_mul {a b : Expr} {ta tb : DE} {pos} (ha : LE X B a ta) (hb : LE X B b tb) : LE X B (.BinOp a .Mult b pos) (dOp oMul ta tb) := le_op op_mul3 r_mul3 ha hb
def oFdiv : Reg → D → D → (Res → Prop) → Prop := fun _ d e k => match d, e with
  | .int i, .int j => CDivW i j ∧ k (.val (.int (i / j)))
  | _, _ => False
theorem r_fdiv3 : ROp X B (rI CDivW fun i j => .int (i / j)) oFdiv := r_ii fun G d e k h => by
  unfold oFdiv at h
  split at h
  · exact ⟨_, _, rfl, rfl, h.1, h.2⟩
  · exact h.elim
theorem le_fdiv {a b : Expr} {ta tb : DE} {pos} (ha : LE X B a ta) (hb : LE X B b tb) : LE X B (.BinOp a .FloorDiv b pos) (dOp oFdiv ta tb) := le_op op_fdivW r_fdiv3 ha hb
def oMod : Reg → D → D → (Res → Prop) → Prop := fun _ d e k => match d, e with
  | .int i, .int j => 0 < j ∧ k (.val (.int (i % j)))
  | _, _ => False
theorem r_mod3 : ROp X B (rI (fun _ j => 0 < j) fun i j => .int (i % j)) oMod := r_ii fun G d e k h => by
  unfold oMod at h
  split at h
  · exact ⟨_, _, rfl, rfl, h.1, h.2⟩
  · exact h.elim
theorem le_mod {a b : Expr} {ta tb : DE} {pos} (ha : LE X B a ta) (hb : LE X B b tb) : LE X B (.BinOp a .Mod b pos) (dOp oMod ta tb) := le_op op_mod r_mod3 ha hb
/-- .. by a divisor of any sign -/
def oModN : Reg → D → D → (Res → Prop) → Prop := fun _ d e k => match d, e with
  | .int i, .int j => j ≠ 0 ∧ k (.val (.int (i.fmod j)))
  | _, _ => False
def oPow : Reg → D → D → (Res → Prop) → Prop := fun _ d e k => match d, e with
  | .int i, .int j => CPow i j ∧ k (.val (.int (i ^ j.toNat)))
  | _, _ => False
theorem r_pow3 : ROp X B (rI CPow fun i j => .int (i ^ j.toNat)) oPow := r_ii fun G d e k h => by
  unfold oPow at h
  split at h
  · exact ⟨_, _, rfl, rfl, h.1, h.2⟩
  · exact h.elim
theorem le_pow {a b : Expr} {ta tb : DE} {pos} (ha : LE X B a ta) (hb : LE X B b tb) : LE X B (.BinOp a .Pow b pos) (dOp oPow ta tb) := le_op op_pow r_pow3 ha hb

/-! ### order -/
def oCmpI (p : Int → Int → Bool) : Reg → D → D → (Res → Prop) → Prop := fun _ d e k => match d, e with
  | .int i, .int j => k (.val (.bl (p i j)))
  | _, _ => False
theorem r_cmpI {p : Int → Int → Bool} : ROp X B (rI0 fun i j => .bl (p i j)) (oCmpI p) := r_ib0 fun G d e k h => by
  unfold oCmpI at h
  split at h
  · exact ⟨_, _, rfl, rfl, h⟩
  · exact h.elim
abbrev oLt := oCmpI fun i j => decide (i < j)
abbrev oLe := oCmpI fun i j => decide (i ≤ j)
abbrev oGt := oCmpI fun i j => decide (j < i)
/-! ### ==, in, is -/
def oEq : Reg → D → D → (Res → Prop) → Prop := fun _ d e k => d.sh = true ∧ e.sh = true ∧ k (.val (.bl (D.eqv d e)))
def oNe : Reg → D → D → (Res → Prop) → Prop := fun _ d e k => d.sh = true ∧ e.sh = true ∧ k (.val (.bl (!D.eqv d e)))
theorem r_eq3 : ROp X B (rEqD X.K) oEq := by
  intro pn F H σ E G x y d e k Q S rx ry ⟨h1, h2, h⟩ hk
  obtain ⟨a1, a2⟩ := sh_H S.w.sub h1 rx
  obtain ⟨b1, b2⟩ := sh_H S.w.sub h2 ry
  exact ⟨_, _, a1, b1, a2, b2, hk _ h _ F H S (Same.refl F) (.bl _)⟩
theorem r_ne3 : ROp X B (rNeD X.K) oNe := by
  intro pn F H σ E G x y d e k Q S rx ry ⟨h1, h2, h⟩ hk
  obtain ⟨a1, a2⟩ := sh_H S.w.sub h1 rx
  obtain ⟨b1, b2⟩ := sh_H S.w.sub h2 ry
  exact ⟨_, _, a1, b1, a2, b2, hk _ h _ F H S (Same.refl F) (.bl _)⟩
def rInT (K : PySem.W.Frag) (neg : Bool) : R2 := fun x y H Q => ∃ d ds, Dp K H x d ∧ Dp K H y (.tuple ds) ∧ SeqAt.shaped d = true ∧ SeqAt.shaped (.tuple ds) = true ∧ Q (.bl (if neg then !ds.any fun z => PyData.eqv z d else ds.any fun z => PyData.eqv z d)) H
theorem roomT {A : Around} {d : PyData} {ds : List PyData} (sd : SeqAt.shaped d = true) (hu : A.units + 65 < cLine) : A.units + 1 + min (PyData.depthAll ds) d.depth < cLine := by
  have h1 := SeqAt.depth_of_shaped sd
  have h2 : min (PyData.depthAll ds) d.depth ≤ d.depth := Nat.min_le_right _ _
  omega
theorem op_inT (hu : X.A.units + 65 < cLine) : OpR X (compareOp .In) (rInT X.K false) := by
  intro pins s σ H x y v u Q I rx ry h
  obtain ⟨d, ds, hd, he, sd, se, q⟩ := h
  obtain ⟨as, r1⟩ := Dp.reads I d x v hd rx
  obtain ⟨bs, r2⟩ := Dp.reads I (.tuple ds) y u he ry
  exact SeqAt.in_tuple_reads r2 r1 (SeqAt.canLay_of_shaped se) (SeqAt.canLay_of_shaped sd) (roomT sd hu) ⟨.bl _, H, I, rfl, q⟩
theorem op_notInT (hu : X.A.units + 65 < cLine) : OpR X (compareOp .NotIn) (rInT X.K true) := by
  intro pins s σ H x y v u Q I rx ry h
  obtain ⟨d, ds, hd, he, sd, se, q⟩ := h
  obtain ⟨as, r1⟩ := Dp.reads I d x v hd rx
  obtain ⟨bs, r2⟩ := Dp.reads I (.tuple ds) y u he ry
  exact SeqAt.notIn_tuple_reads r2 r1 (SeqAt.canLay_of_shaped se) (SeqAt.canLay_of_shaped sd) (roomT sd hu) ⟨.bl _, H, I, rfl, q⟩
def D.among (d : D) (ds : List D) : Bool := ds.any fun z => D.eqv z d
theorem any_py (d : D) (ds : List D) : ((pyL ds).any fun z => PyData.eqv z d.py) = d.among ds := by
  rw [pyL_map, List.any_map]; rfl
def oIn (neg : Bool) : Reg → D → D → (Res → Prop) → Prop := fun _ d e k => match e with
  | .lst ds => d.sh = true ∧ (D.lst ds).sh = true ∧ k (.val (.bl (if neg then !d.among ds else d.among ds)))
  | .tup ds => d.sh = true ∧ (D.tup ds).sh = true ∧ k (.val (.bl (if neg then !d.among ds else d.among ds)))
  | .str z => ∃ c : Nat, d = .str ⟨#[c]⟩ ∧ k (.val (.bl (if neg then !decide (c ∈ z.cps.toList) else decide (c ∈ z.cps.toList))))
  | .ktp ns => d.sh = true ∧ k (.val (.bl (if neg then !d.among (ns.map D.int) else d.among (ns.map D.int))))
  | _ => False
def rIn3 (K : PySem.W.Frag) : R2 := fun x y H Q => rInD K x y H Q ∨ rInT K false x y H Q ∨ ∃ (c : Nat) (z : Str), x = .str ⟨#[c]⟩ ∧ y = .str z ∧ Q (.bl (decide (c ∈ z.cps.toList))) H
def rNotIn3 (K : PySem.W.Frag) : R2 := fun x y H Q => rNotInD K x y H Q ∨ rInT K true x y H Q ∨ ∃ (c : Nat) (z : Str), x = .str ⟨#[c]⟩ ∧ y = .str z ∧ Q (.bl (!decide (c ∈ z.cps.toList))) H
theorem op_in3 (hu : X.A.units + 65 < cLine) : OpR X (compareOp .In) (rIn3 X.K) := (op_inD hu).or ((op_inT hu).or op_in_sign)
theorem op_notIn3 (hu : X.A.units + 65 < cLine) : OpR X (compareOp .NotIn) (rNotIn3 X.K) := (op_notInD hu).or ((op_notInT hu).or op_notIn_sign)
theorem r_in3 : ROp X B (rIn3 X.K) (oIn false) := by
  intro pn F H σ E G x y d e k Q S rx ry h hk
  unfold oIn at h
  split at h
  · obtain ⟨h1, h2, h⟩ := h
    obtain ⟨a1, a2⟩ := sh_H S.w.sub h1 rx
    obtain ⟨b1, b2⟩ := sh_H S.w.sub h2 ry
    refine .inl ⟨_, _, a1, b1, a2, b2, ?_⟩
    rw [any_py]
    exact hk _ h _ F H S (Same.refl F) (.bl _)
  · obtain ⟨h1, h2, h⟩ := h
    obtain ⟨a1, a2⟩ := sh_H S.w.sub h1 rx
    obtain ⟨b1, b2⟩ := sh_H S.w.sub h2 ry
    refine .inr (.inl ⟨_, _, a1, b1, a2, b2, ?_⟩)
    rw [any_py]
    exact hk _ h _ F H S (Same.refl F) (.bl _)
  · obtain ⟨c, rfl, h⟩ := h
    exact .inr (.inr ⟨c, _, rx.str, ry.str, hk _ h _ F H S (Same.refl F) (.bl _)⟩)
  · obtain ⟨h1, h⟩ := h
    obtain ⟨a1, a2⟩ := sh_H S.w.sub h1 rx
    obtain ⟨a, rfl, hs⟩ := ry.ktp S.w.sub
    obtain ⟨b1, b2⟩ := ktp_dp hs
    refine .inr (.inl ⟨_, _, a1, b1, a2, b2, ?_⟩)
    rw [any_py]
    exact hk _ h _ F H S (Same.refl F) (.bl _)
  · exact h.elim
theorem r_notIn3 : ROp X B (rNotIn3 X.K) (oIn true) := by
  intro pn F H σ E G x y d e k Q S rx ry h hk
  unfold oIn at h
  split at h
  · obtain ⟨h1, h2, h⟩ := h
    obtain ⟨a1, a2⟩ := sh_H S.w.sub h1 rx
    obtain ⟨b1, b2⟩ := sh_H S.w.sub h2 ry
    refine .inl ⟨_, _, a1, b1, a2, b2, ?_⟩
    rw [any_py]
    exact hk _ h _ F H S (Same.refl F) (.bl _)
  · obtain ⟨h1, h2, h⟩ := h
    obtain ⟨a1, a2⟩ := sh_H S.w.sub h1 rx
    obtain ⟨b1, b2⟩ := sh_H S.w.sub h2 ry
    refine .inr (.inl ⟨_, _, a1, b1, a2, b2, ?_⟩)
    rw [any_py]
    exact hk _ h _ F H S (Same.refl F) (.bl _)
  · obtain ⟨c, rfl, h⟩ := h
    exact .inr (.inr ⟨c, _, rx.str, ry.str, hk _ h _ F H S (Same.refl F) (.bl _)⟩)
  · obtain ⟨h1, h⟩ := h
    obtain ⟨a1, a2⟩ := sh_H S.w.sub h1 rx
    obtain ⟨a, rfl, hs⟩ := ry.ktp S.w.sub
    obtain ⟨b1, b2⟩ := ktp_dp hs
    refine .inr (.inl ⟨_, _, a1, b1, a2, b2, ?_⟩)
    rw [any_py]
    exact hk _ h _ F H S (Same.refl F) (.bl _)
  · exact h.elim
def D.isN : D → Bool
  | .non => true
  | _ => false
def oIs (neg : Bool) : Reg → D → D → (Res → Prop) → Prop := fun _ d e k => e.isN = true ∧ k (.val (.bl (if neg then !d.isN else d.isN)))
theorem isN_dec {K : PySem.W.Frag} {F H : Hp} {d : D} {v : V} (r : RepH K F H d v) : decide (v = .non) = d.isN := by
  rcases r with r | ⟨a, o, rfl, _, h2⟩
  · cases r <;> first | rfl | exact decide_eq_false (fun q => nomatch q)
  · cases d with
    | non => exact h2.elim
    | _ => exact decide_eq_false (fun q => nomatch q)
theorem isN_eq {d : D} (h : d.isN = true) : d = .non := by
  cases d <;> first | rfl | cases h
theorem r_is3 : ROp X B (fun x y H Q => y = .non ∧ Q (.bl (decide (x = .non))) H) (oIs false) := by
  intro pn F H σ E G x y d e k Q S rx ry ⟨h1, h⟩ hk
  rw [isN_eq h1] at ry
  refine ⟨ry.non, ?_⟩
  rw [isN_dec rx]
  exact hk _ h _ F H S (Same.refl F) (.bl _)
/-! ### -x -/
def uNeg : D → (Res → Prop) → Prop := fun d k => match d with
  | .int i => k (.val (.int (-i)))
  | _ => False
theorem le_neg {a : Expr} {ta : DE} {pos} (ha : LE X B a ta) : LE X B (.UnaryOp .USub a pos) (dUn uNeg ta) := le_un un_neg (fun pn F H σ E G x d k Q S rx h hk => by
  unfold uNeg at h
  split at h
  · exact ⟨_, rx.int, hk _ h _ F H S (Same.refl F) (.int _)⟩
  · exact h.elim) ha

/-! ### a[i] -/
def oIx : Reg → D → D → (Res → Prop) → Prop := fun G d e k => match d, e with
  | .lst ds, .int i => ∃ v, atI ds i = some v ∧ k (.val v)
  | .tup ds, .int i => ∃ v, atI ds i = some v ∧ k (.val v)
  | .str z, .int i => z.length ≤ sizeLine ∧ ∃ c, atI z.cps.toList i = some c ∧ k (.val (.str ⟨#[c]⟩))
  | .scr ns, .int i => ∃ v, atI ns i = some v ∧ k (.val (.int v))
  | .ref a, .int i => ∃ ds, lookL G a = some ds ∧ ∃ v, atI ds i = some v ∧ k (.val v)
  | _, _ => False
theorem lookup_mem {G : Reg} {a : Addr} {ds : List D} (h : G.lookup a = some ds) : (a, ds) ∈ G := by
  induction G with
  | nil => cases h
  | cons p r ih =>
    rw [List.lookup_cons] at h
    split at h
    · rename_i q
      have e : a = p.1 := by simpa using q
      cases h
      rw [e]
      exact List.mem_cons_self
    · exact List.mem_cons_of_mem _ (ih h)
theorem at_rep {K : PySem.W.Frag} {F : Hp} {ds : List D} {vs : List V} {i : Int} {d : D} (r : RepL K F ds vs) (h : atI ds i = some d) : ∃ v, atI vs i = some v ∧ Rep K F d v := by
  unfold atI at h ⊢
  rw [← r.length]
  cases q : ixN ds.length i with
  | none => rw [q] at h; cases h
  | some j =>
    rw [q] at h
    exact r.get (by simpa using h)
theorem r_ix3 : ROp X B (rIx X.K) oIx := by
  intro pn F H σ E G x y d e k Q S rx ry h hk
  unfold oIx at h
  split at h
  · obtain ⟨v, hv, h⟩ := h
    obtain ⟨p, xs, rfl, hs, ra⟩ := rx.lst S.w.sub
    obtain ⟨u, hu, ru⟩ := at_rep ra hv
    exact .inl ⟨p, xs, _, u, rfl, ry.int, .inl hs, hu, hk _ h _ F H S (Same.refl F) ru⟩
  · obtain ⟨v, hv, h⟩ := h
    obtain ⟨p, xs, rfl, hs, ra⟩ := rx.tup S.w.sub
    obtain ⟨u, hu, ru⟩ := at_rep ra hv
    exact .inr (.inl ⟨p, xs, _, u, rfl, ry.int, hs, hu, hk _ h _ F H S (Same.refl F) ru⟩)
  · obtain ⟨hz, c, hc, h⟩ := h
    exact .inr (.inr ⟨_, _, c, rx.str, ry.int, hz, hc, hk _ h _ F H S (Same.refl F) (.str _)⟩)
  · rename_i ns i
    obtain ⟨v, hv, h⟩ := h
    cases rx.val (fun _ q => nomatch q) with
    | scr hs =>
      have hv' : atI (ns.map V.int) i = some (.int v) := by
        unfold atI at hv ⊢
        rw [List.length_map]
        cases q : ixN ns.length i with
        | none => rw [q] at hv; cases hv
        | some j =>
          rw [q] at hv
          have hv2 : ns[j]? = some v := by simpa using hv
          simp [hv2]
      exact .inl ⟨_, _, _, _, rfl, ry.int, S.w.sub.seq hs, hv', hk _ h _ F H S (Same.refl F) (.int _)⟩
  · obtain ⟨ds, hl, v, hv, h⟩ := h
    obtain ⟨_, o, hs, ro⟩ := S.w.reg _ ds (lookup_mem (lookL_iff hl).1)
    obtain ⟨xs, rfl, ra⟩ := ro.lstOf (lookL_iff hl).2
    obtain ⟨u, hu, ru⟩ := at_rep ra hv
    cases rx.val (fun _ q => nomatch q)
    exact .inl ⟨_, xs, _, u, rfl, ry.int, SqL.of hs, hu, hk _ h _ F H S (Same.refl F) ru⟩
  · exact h.elim
theorem le_item {a b : Expr} {ta tb : DE} {pos} (ha : LE X B a ta) (hb : LE X B b tb) (hs : PlainIx b := by exact fun _ _ => rfl) : LE X B (.Subscript a b pos) (dOp oIx ta tb) := le_ix ix_seq r_ix3 ha hb hs

/-! ### a[lo:hi] -/
def cutD (ds : List D) (lo hi : Option Int) : List D := (ds.drop (HT.sIx ds.length 0 lo)).take (HT.sIx ds.length ds.length hi - HT.sIx ds.length 0 lo)
def oSl : D → Option Int → Option Int → (Res → Prop) → Prop := fun d lo hi k => match d with
  | .lst ds => k (.fr (cutD ds lo hi))
  | .tup ds => k (.val (.tup (cutD ds lo hi)))
  | _ => False
def rSl3 (K : PySem.W.Frag) : V → Option Int → Option Int → Hp → VK → Prop := fun x lo hi H Q => rSlA K x lo hi H Q ∨ rSlL K x lo hi H Q
theorem sl_3 : SlR X (rSl3 X.K) := sl_tupA.or sl_list
theorem r_sl3 : RSl3 X B (rSl3 X.K) oSl := by
  intro pn F H σ E G x d lo hi k Q S rx h hk
  unfold oSl at h
  split at h
  · rename_i ds
    obtain ⟨p, xs, rfl, hs, ra⟩ := rx.lst S.w.sub
    refine .inr ⟨p, xs, rfl, .inl hs, fun q nq => ?_⟩
    have rr : RepL X.K F (cutD ds lo hi) (cutV xs lo hi) := by
      unfold cutD cutV
      rw [ra.length]
      exact (ra.drop _).take _
    obtain ⟨f, no⟩ := S.newFre nq rr
    exact hk _ h _ _ _ (S.newU nq) (Same.refl F) ⟨q, rfl, f, no⟩
  · rename_i ds
    obtain ⟨p, xs, rfl, hs, ra⟩ := rx.tup S.w.sub
    have rx' := rx.val (fun _ q => nomatch q)
    have rr : RepL X.K F (cutD ds lo hi) (cutV xs lo hi) := by
      unfold cutD cutV
      rw [ra.length]
      exact (ra.drop _).take _
    refine .inl ⟨p, xs, rfl, hs, fun hw => ?_, fun _ q nq => ?_⟩
    · have e : cutD ds lo hi = ds := by
        unfold cutD
        rw [← ra.length] at hw
        rw [hw.1, hw.2, List.drop_zero, Nat.sub_zero, List.take_length]
      rw [e] at h
      exact hk _ h _ F H S (Same.refl F) rx'
    · obtain ⟨S2, s2⟩ := S.newF nq
      exact hk _ h _ _ _ S2 s2 (.tup upd_same (RepL.mono s2 _ _ rr))
  · exact h.elim
theorem le_cut {e : Expr} {lo hi : Option Expr} {te : DE} {tl th : DO} {p2 pos : Pos} (he : LE X B e te) (hl : LO X B lo tl) (hh : LO X B hi th) : LE X B (.Subscript e (.Slice lo hi none p2) pos) (dSl oSl te tl th) := le_slice sl_3 r_sl3 he hl hh
end
end L3

set_option Elab.async false
set_option maxRecDepth 100000
set_option maxHeartbeats 4000000
/-! L3, part h: built-ins over plain values; lists changed by their owner; the dice. -/
namespace L3
open PySem PySem.Spec PyProof.Rows L2
section
variable {X : Cx} {B : Base3}
theorem hl1 {K : PySem.W.Frag} {F H : Hp} {d : D} {vs : List V} (r : RepHL K F H [d] vs) : ∃ v, vs = [v] ∧ RepH K F H d v := by
  cases r with
  | cons a b => cases b; exact ⟨_, rfl, a⟩
theorem hl2 {K : PySem.W.Frag} {F H : Hp} {d e : D} {vs : List V} (r : RepHL K F H [d, e] vs) : ∃ v u, vs = [v, u] ∧ RepH K F H d v ∧ RepH K F H e u := by
  cases r with
  | cons a b =>
    obtain ⟨u, rfl, h⟩ := hl1 b
    exact ⟨_, u, rfl, a, h⟩

/-! ### len -/
def bLen : Reg → List D → (Res → Prop) → Prop := fun _ ds k => match ds with
  | [.lst xs] => k (.val (.int xs.length))
  | [.tup xs] => k (.val (.int xs.length))
  | [.str z] => z.length ≤ sizeLine ∧ k (.val (.int z.length))
  | [.scr ns] => k (.val (.int ns.length))
  | _ => False
def rLen3 (K : PySem.W.Frag) : List V → Hp → VK → Prop := fun xs H Q => (∃ p ys, xs = [.ref p] ∧ (SqL K H p ys ∨ SqT K H p ys) ∧ Q (.int ys.length) H) ∨ ∃ z, xs = [.str z] ∧ z.length ≤ sizeLine ∧ Q (.int z.length) H
theorem call_len3 : CallR X (.builtin "len") (rLen3 X.K) := call_len_seq.or call_len_str
theorem r_len3 : RCall X B (rLen3 X.K) bLen := by
  intro pn F H σ E G vs ds k Q S r h hk
  unfold bLen at h
  split at h
  · obtain ⟨v, rfl, rx⟩ := hl1 r
    obtain ⟨p, xs, rfl, hs, ra⟩ := rx.lst S.w.sub
    refine .inl ⟨p, xs, rfl, .inl (.inl hs), ?_⟩
    rw [← ra.length]
    exact hk _ h _ F H S (Same.refl F) (.int _)
  · obtain ⟨v, rfl, rx⟩ := hl1 r
    obtain ⟨p, xs, rfl, hs, ra⟩ := rx.tup S.w.sub
    refine .inl ⟨p, xs, rfl, .inr hs, ?_⟩
    rw [← ra.length]
    exact hk _ h _ F H S (Same.refl F) (.int _)
  · obtain ⟨v, rfl, rx⟩ := hl1 r
    rw [rx.str]
    exact .inr ⟨_, rfl, h.1, hk _ h.2 _ F H S (Same.refl F) (.int _)⟩
  · obtain ⟨v, rfl, rx⟩ := hl1 r
    cases rx.val (fun _ q => nomatch q) with
    | scr hs =>
      refine .inl ⟨_, _, rfl, .inl (S.w.sub.seq hs), ?_⟩
      rw [List.length_map]
      exact hk _ h _ F H S (Same.refl F) (.int _)
  · exact h.elim
theorem le_len {e : Expr} {ta : DA} {p pos : Pos} (hg : Gl X "len") (hm : X.mg "len" = none) (ha : LP X B [e] ta) (he : starEach [e] X.env = (false, eval e X.env) :: starEach [] X.env := by rfl) (hpl : (backTo pos (starEach [] X.env)).any (·.1) = false := by rfl) :
    LE X B (.Call (.Name "len" p) [e] [] pos) (dCB bLen ta) := le_callB call_len3 r_len3 hg hm PySem.boot_len ha (by decide) (by decide) he hpl

/-! ### of one int, of two -/
def bInt1 (g : Int → Int) : Reg → List D → (Res → Prop) → Prop := fun _ ds k => match ds with
  | [.int i] => k (.val (.int (g i)))
  | _ => False
def bAbs := bInt1 fun i => if i < 0 then -i else i
theorem le_abs {e : Expr} {ta : DA} {p pos : Pos} (hg : Gl X "abs") (hm : X.mg "abs" = none) (ha : LP X B [e] ta) (he : starEach [e] X.env = (false, eval e X.env) :: starEach [] X.env := by rfl) (hpl : (backTo pos (starEach [] X.env)).any (·.1) = false := by rfl) :
    LE X B (.Call (.Name "abs" p) [e] [] pos) (dCB bAbs ta) := le_callB call_abs (fun pn F H σ E G vs ds k Q S r h hk => by
  unfold bAbs bInt1 at h
  split at h
  · obtain ⟨v, rfl, rx⟩ := hl1 r
    rw [rx.int]
    exact ⟨_, rfl, hk _ h _ F H S (Same.refl F) (.int _)⟩
  · exact h.elim) hg hm (by decide +kernel) ha (by decide) (by decide) he hpl
def bIntOf : Reg → List D → (Res → Prop) → Prop := fun _ ds k => match ds with
  | [.int i] => k (.val (.int i))
  | [.bl b] => k (.val (.int (if b then 1 else 0)))
  | _ => False
theorem le_intOf {e : Expr} {ta : DA} {p pos : Pos} (hg : Gl X "int") (hm : X.mg "int" = none) (ha : LP X B [e] ta) (he : starEach [e] X.env = (false, eval e X.env) :: starEach [] X.env := by rfl) (hpl : (backTo pos (starEach [] X.env)).any (·.1) = false := by rfl) :
    LE X B (.Call (.Name "int" p) [e] [] pos) (dCB bIntOf ta) := le_callTy call_int1 (fun pn F H σ E G vs ds k Q S r h hk => by
  unfold bIntOf at h
  split at h
  · obtain ⟨v, rfl, rx⟩ := hl1 r
    rw [rx.int]
    exact .inl ⟨_, rfl, hk _ h _ F H S (Same.refl F) (.int _)⟩
  · obtain ⟨v, rfl, rx⟩ := hl1 r
    rw [rx.bl]
    exact .inr ⟨_, rfl, hk _ h _ F H S (Same.refl F) (.int _)⟩
  · exact h.elim) hg hm (by decide +kernel) ha (by decide) (by decide) he hpl
def bInt2 (g : Int → Int → Int) : Reg → List D → (Res → Prop) → Prop := fun _ ds k => match ds with
  | [.int i, .int j] => k (.val (.int (g i j)))
  | _ => False
def bMax := bInt2 fun i j => if j > i then j else i
def bMin := bInt2 fun i j => if j < i then j else i
theorem le_max2 {e e2 : Expr} {ta : DA} {p pos : Pos} (hc : X.calm = true) (hg : Gl X "max") (hm : X.mg "max" = none) (ha : LP X B [e, e2] ta) (he : starEach [e, e2] X.env = (false, eval e X.env) :: starEach [e2] X.env := by rfl) (hpl : (backTo pos (starEach [e2] X.env)).any (·.1) = false := by rfl) :
    LE X B (.Call (.Name "max" p) [e, e2] [] pos) (dCB bMax ta) := le_callB (call_max2 hc) (fun pn F H σ E G vs ds k Q S r h hk => by
  unfold bMax bInt2 at h
  split at h
  · obtain ⟨v, u, rfl, rx, ry⟩ := hl2 r
    rw [rx.int, ry.int]
    exact ⟨_, _, rfl, hk _ h _ F H S (Same.refl F) (.int _)⟩
  · exact h.elim) hg hm (by decide +kernel) ha (by decide) (by decide) he hpl
theorem le_min2 {e e2 : Expr} {ta : DA} {p pos : Pos} (hc : X.calm = true) (hg : Gl X "min") (hm : X.mg "min" = none) (ha : LP X B [e, e2] ta) (he : starEach [e, e2] X.env = (false, eval e X.env) :: starEach [e2] X.env := by rfl) (hpl : (backTo pos (starEach [e2] X.env)).any (·.1) = false := by rfl) :
    LE X B (.Call (.Name "min" p) [e, e2] [] pos) (dCB bMin ta) := le_callB (call_min2 hc) (fun pn F H σ E G vs ds k Q S r h hk => by
  unfold bMin bInt2 at h
  split at h
  · obtain ⟨v, u, rfl, rx, ry⟩ := hl2 r
    rw [rx.int, ry.int]
    exact ⟨_, _, rfl, hk _ h _ F H S (Same.refl F) (.int _)⟩
  · exact h.elim) hg hm (by decide +kernel) ha (by decide) (by decide) he hpl

/-! ### list, tuple, all, any, sum -/
def bList : Reg → List D → (Res → Prop) → Prop := fun _ ds k => match ds with
  | [.lst xs] => k (.fr xs)
  | [.tup xs] => k (.fr xs)
  | _ => False
def bTuple : Reg → List D → (Res → Prop) → Prop := fun _ ds k => match ds with
  | [.lst xs] => k (.val (.tup xs))
  | [.tup xs] => k (.val (.tup xs))
  | _ => False
theorem le_tuple {e : Expr} {ta : DA} {p pos : Pos} (hg : Gl X "tuple") (hm : X.mg "tuple" = none) (ha : LP X B [e] ta) (he : starEach [e] X.env = (false, eval e X.env) :: starEach [] X.env := by rfl) (hpl : (backTo pos (starEach [] X.env)).any (·.1) = false := by rfl) :
    LE X B (.Call (.Name "tuple" p) [e] [] pos) (dCB bTuple ta) := le_callTy call_tuple_of (fun pn F H σ E G vs ds k Q S r h hk => by
  unfold bTuple at h
  split at h
  · obtain ⟨v, rfl, rx⟩ := hl1 r
    obtain ⟨p, xs, rfl, hs, ra⟩ := rx.lst S.w.sub
    refine ⟨p, xs, rfl, .inl ⟨.inl hs, fun l nl => ?_⟩⟩
    obtain ⟨S2, s2⟩ := S.newF (o := .tup xs) nl
    exact hk _ h _ _ _ S2 s2 (.tup upd_same (RepL.mono s2 _ _ ra))
  · obtain ⟨v, rfl, rx⟩ := hl1 r
    have rx' := rx.val (fun _ q => nomatch q)
    obtain ⟨p, xs, rfl, hs, ra⟩ := rx.tup S.w.sub
    exact ⟨p, xs, rfl, .inr ⟨hs, hk _ h _ F H S (Same.refl F) rx'⟩⟩
  · exact h.elim) hg hm (by decide +kernel) ha (by decide) (by decide) he hpl
/-- the truth values of a list -/
def blsOf : List D → Option (List Bool)
  | [] => some []
  | .bl b :: r => (blsOf r).map (b :: ·)
  | _ :: _ => none
theorem blsOf_eq : ∀ {ds : List D} {bs : List Bool}, blsOf ds = some bs → ds = bs.map D.bl
  | [], _, h => by cases h; rfl
  | .bl b :: r, _, h => by
    cases q : blsOf r with
    | none => rw [blsOf, q] at h; cases h
    | some cs => rw [blsOf, q] at h; cases h; rw [blsOf_eq q]; rfl
  | .non :: _, _, h => by cases h
  | .int _ :: _, _, h => by cases h
  | .str _ :: _, _, h => by cases h
  | .ref _ :: _, _, h => by cases h
  | .ty _ :: _, _, h => by cases h
  | .tup _ :: _, _, h => by cases h
  | .lst _ :: _, _, h => by cases h
  | .scr _ :: _, _, h => by cases h
theorem blsOf_map : ∀ bs : List Bool, blsOf (bs.map D.bl) = some bs
  | [] => rfl
  | b :: r => by rw [List.map_cons, blsOf, blsOf_map r]; rfl
def intsOf : List D → Option (List Int)
  | [] => some []
  | .int b :: r => (intsOf r).map (b :: ·)
  | _ :: _ => none
theorem intsOf_map : ∀ bs : List Int, intsOf (bs.map D.int) = some bs
  | [] => rfl
  | b :: r => by rw [List.map_cons, intsOf, intsOf_map r]; rfl
def bBool (g : List Bool → Bool) : Reg → List D → (Res → Prop) → Prop := fun _ ds k => match ds with
  | [.lst xs] => ∃ bs, blsOf xs = some bs ∧ k (.val (.bl (g bs)))
  | _ => False
theorem r_bool {g : List Bool → Bool} : RCall X B (fun vs H Q => ∃ (a : Addr) (bs : List Bool), vs = [V.ref a] ∧ SqL X.K H a (bs.map V.bl) ∧ Q (.bl (g bs)) H) (bBool g) := by
  intro pn F H σ E G vs ds k Q S r h hk
  unfold bBool at h
  split at h
  · obtain ⟨bs, e, h⟩ := h
    obtain ⟨v, rfl, rx⟩ := hl1 r
    obtain ⟨p, xs, rfl, hs, ra⟩ := rx.lst S.w.sub
    rw [blsOf_eq e] at ra
    rw [ra.bls_of] at hs
    exact ⟨p, bs, rfl, .inl hs, hk _ h _ F H S (Same.refl F) (.bl _)⟩
  · exact h.elim
def bAll := bBool fun bs => bs.all id
def bAny := bBool fun bs => bs.any id
theorem le_all {e : Expr} {ta : DA} {p pos : Pos} (hc : X.calm = true) (hg : Gl X "all") (hm : X.mg "all" = none) (ha : LP X B [e] ta) (he : starEach [e] X.env = (false, eval e X.env) :: starEach [] X.env := by rfl) (hpl : (backTo pos (starEach [] X.env)).any (·.1) = false := by rfl) :
    LE X B (.Call (.Name "all" p) [e] [] pos) (dCB bAll ta) := le_callB (cr_all hc) r_bool hg hm (by decide +kernel) ha (by decide) (by decide) he hpl
def bSum : Reg → List D → (Res → Prop) → Prop := fun _ ds k => match ds with
  | [.lst xs] => ∃ bs, intsOf xs = some bs ∧ k (.val (.int bs.sum))
  | _ => False
/-! ### isinstance of a built-in class -/
def tyN : D → Option String
  | .non => some "NoneType"
  | .bl _ => some "bool"
  | .int _ => some "int"
  | .str _ => some "str"
  | .tup _ => some "tuple"
  | .lst _ => some "list"
  | _ => none
def isT (t n : String) : Bool := t == n || (t == "bool" && n == "int")
def knownT : List String := ["int", "bool", "str", "tuple", "list", "dict"]
theorem kit_known : ∀ t ∈ ["NoneType", "bool", "int", "str", "tuple", "list"], ∀ n ∈ knownT, kitB t n = some (isT t n) := by decide +kernel
def bIsi : Reg → List D → (Res → Prop) → Prop := fun _ ds k => match ds with
  | [d, .ty n] => ∃ t, tyN d = some t ∧ n ∈ knownT ∧ k (.val (.bl (isT t n)))
  | _ => False
theorem tyX_of {K : PySem.W.Frag} {F H : Hp} {d : D} {v : V} {t : String} (s : Same F H) (r : RepH K F H d v) (h : tyN d = some t) : TyX K H v (.type t) := by
  rcases r with r | ⟨a, o, rfl, h1, h2⟩
  · cases r with
    | non => cases h; exact .base .non
    | bl b => cases h; exact .base (.bl b)
    | int b => cases h; exact .base (.int b)
    | str b => cases h; exact .base (.str b)
    | ref a => cases h
    | ty a => cases h
    | scr a => cases h
    | obj _ _ _ _ => cases h
    | cls _ => cases h
    | dcK _ _ _ => cases h
    | dcT _ _ _ => cases h
    | ktp _ => cases h
    | tup hs ha =>
      cases h
      exact .base (.tup (s _ _ hs))
    | lst hs ha =>
      cases h
      rcases sameR s hs with hs | ⟨o, hs⟩
      · exact .base (.lst hs)
      · exact .base (.frz hs)
  · cases d with
    | lst ds =>
      obtain ⟨xs, rfl, _⟩ := h2
      cases h; exact .base (.lst h1)
    | dcT ks ds => cases h
    | dcK ks ds => cases h
    | _ => exact h2.elim
theorem tyN_mem {d : D} {t : String} (h : tyN d = some t) : t ∈ ["NoneType", "bool", "int", "str", "tuple", "list"] := by
  cases d <;> cases h <;> decide
theorem le_isi {e e2 : Expr} {ta : DA} {p pos : Pos} (hg : Gl X "isinstance") (hm : X.mg "isinstance" = none) (ha : LP X B [e, e2] ta) (he : starEach [e, e2] X.env = (false, eval e X.env) :: starEach [e2] X.env := by rfl) (hpl : (backTo pos (starEach [e2] X.env)).any (·.1) = false := by rfl) :
    LE X B (.Call (.Name "isinstance" p) [e, e2] [] pos) (dCB bIsi ta) := le_callB call_isi (fun pn F H σ E G vs ds k Q S r h hk => by
  unfold bIsi at h
  split at h
  · obtain ⟨t, ht, hn, h⟩ := h
    obtain ⟨v, u, rfl, rx, ry⟩ := hl2 r
    cases ry.val (fun _ q => nomatch q)
    exact ⟨v, _, .type t, .type _, _, rfl, .ty _, tyX_of S.w.sub rx ht, kit_ty (kit_known t (tyN_mem ht) _ hn), hk _ h _ F H S (Same.refl F) (.bl _)⟩
  · exact h.elim) hg hm (by decide +kernel) ha (by decide) (by decide) he hpl
theorem le_ty {x : Str} {n : String} {pos : Pos} (hg : Gl X x) (hm : X.mg x = none) (hv : bootBuiltins x = some (.type n)) (hn : x ≠ "__name__" := by decide) (hd : (x == ("__debug__" : Str)) = false := by decide) : LE X B (.Name x pos) (dC (.ty n)) :=
  le_c (v := .ty n) (pe_bltn hg hm hv rfl hn hd) fun _ => .ty n
end
end L3

set_option Elab.async false
set_option maxRecDepth 100000
set_option maxHeartbeats 4000000
/-! L3, part i: a[i] = v; a.append(v); a, b = x, y. -/
namespace L3
open PySem PySem.Spec PyProof.Rows L2
section
variable {X : Cx} {B : Base3}
/-- o[i] = v, o a register or an owned list -/
def dStore (te to ti : DE) : DSt := fun D E G => te E G fun v E1 G1 => ∃ d E2, v.ice E1 = some (d, E2) ∧ to E2 G1 fun o E3 G2 => ti E3 G2 fun i E4 G3 => ∃ k, i = .val (.int k) ∧
  match o with
  | .val (.ref a) => ∃ ds, lookL G3 a = some ds ∧ ∃ j, ixN ds.length k = some j ∧ D.nx E4 (regSet G3 a (ds.set j d))
  | .sl s => ∃ ds, E4[s]? = some (Sl3.own ds) ∧ ∃ j, ixN ds.length k = some j ∧ D.nx (E4.set s (Sl3.own (ds.set j d))) G3
  | _ => False
theorem ls_store {o i e : Expr} {to ti te : DE} {pos pos' : Pos} (he : LE X B e te) (ho : LE X B o to) (hi : LE X B i ti)
    (hs : swapsWithSole [.Subscript o i pos'] e pos.line X.env = pure false := by rfl) (hw : swappedStores [.Subscript o i pos'] e X.env = pure none := by rfl)
    (h1 : (assignEach [.Subscript o i pos'] X.env).map (·.2) = [assign (.Subscript o i pos') X.env] := by rfl)
    (ha : ∀ v, assign (.Subscript o i pos') X.env v = (do
      let ov ← holding [v] (eval o X.env)
      let iv ← holding [v, ov] (eval i X.env)
      standAt pos'
      holding [v, ov, iv] (setItem ov iv v)
      release [v, ov, iv] []) := by intro _; rfl) : LS X B (.Assign [.Subscript o i pos'] e pos) (dStore te to ti) :=
  ⟨ps_imp (ps_asg he.pe (pg_sub ho.pe hi.pe set_list ha) hs hw h1) fun D σ H ⟨pn, F, E, G, D3, S, h, ok⟩ => ⟨pn, F, E, G, _, S, h, fun r E1 G1 ⟨d, E2, hd, h1⟩ v F1 H1 S1 s1 r1 => by
    obtain ⟨F1', S1', s1', r1'⟩ := S1.ice r1 hd
    refine ⟨pn, F1', E2, G1, _, S1', h1, fun ro E3 G2 h2 ov F2 H2 S2 s2 r2 => ?_⟩
    refine ⟨pn, F2, E3, G2, _, S2, h2, fun ri E4 G3 h3 iv F3 H3 S3 s3 r3 => ?_⟩
    obtain ⟨k, e1, h3⟩ := h3
    subst e1
    cases r3
    have rd : Rep X.K F3 d v := Rep.mono (s2.trans s3) _ _ r1'
    have ss : Same F F3 := (s1.trans s1').trans (s2.trans s3)
    cases ro with
    | fr ds => exact h3.elim
    | frD ds => exact h3.elim
    | val z =>
      cases z with
      | ref a =>
        cases r2
        obtain ⟨ds, hl, j, hj, h4⟩ := h3
        have hm := lookup_mem (lookL_iff hl).1
        obtain ⟨_, o, hx, ro⟩ := S3.w.reg a ds hm
        obtain ⟨xs, rfl, rx⟩ := ro.lstOf (lookL_iff hl).2
        refine ⟨a, xs, k, j, rfl, rfl, hx, by rw [← rx.length]; exact hj, ?_⟩
        exact ok.nx _ _ h4 σ F3 _ (S3.regWrite hm (rx.set j rd)) ss
      | _ => exact h3.elim
    | sl s =>
      obtain ⟨ds, hl, j, hj, h4⟩ := h3
      obtain ⟨a, ha', f⟩ := S3.ownL s ds hl
      have r2' : σ[s]? = some (some ov) := r2
      rw [r2'] at ha'
      cases ha'
      obtain ⟨xs, hx, rx⟩ := f.ex
      refine ⟨a, xs, k, j, rfl, rfl, hx, by rw [← rx.length]; exact hj, ?_⟩
      exact ok.nx _ _ h4 σ F3 _ (S3.ownWrite hl r2' (rx.set j rd)) ss⟩⟩
/-- a.append(e), a a name whose list it owns -/
def dApp (i : Nat) (te : DE) : DE := fun E G k => (∃ ds, E[i]? = some (Sl3.own ds)) ∧ te E G fun r E1 G1 => ∃ d E2, r.ice E1 = some (d, E2) ∧ ∃ ds, E2[i]? = some (Sl3.own ds) ∧ ds.length < sizeLine ∧ k (.val .non) (E2.set i (Sl3.own (ds ++ [d]))) G1
theorem le_append {i : Nat} {o e : Expr} {te : DE} {apos cpos : Pos} (ho : PE X o (tVar i)) (he : LE X B e te)
    (hbase : attributeBase o "append" X.env (eval o X.env) = eval o X.env := by rfl)
    (hfew : ((backTo cpos (starEach (e :: []) X.env)).all (fun x => !x.1) && (backToKw cpos (keywordEach [] X.env)).all (fun x => x.1.isSome)
      && decide ((e :: []).length + ([] : List Keyword).length + (if ([] : List Keyword).isEmpty then 0 else 1) < 30)) = true := by rfl)
    (hline : (apos.endLine == cpos.line) = true := by rfl) (hs : starEach (e :: []) X.env = (false, eval e X.env) :: starEach [] X.env := by rfl) (hplain : (backTo cpos (starEach [] X.env)).any (·.1) = false := by rfl) :
    LE X B (.Call (.Attribute o "append" apos) [e] [] cpos) (dApp i te) :=
  ⟨pe_imp (pe_bm PySem.F.plainAttrs_list PySem.F.slot_list_append PySem.F.type_list_append mt_append ho (pa_cons he.pe pa_nil hs) hbase hfew hline hs hplain) fun σ H Q ⟨pn, F, E, G, k, S, ⟨⟨ds0, h0⟩, h⟩, hk⟩ => by
    obtain ⟨a, ha, f⟩ := S.ownL i ds0 h0
    obtain ⟨xs0, hx0, _⟩ := f.ex
    refine ⟨_, ha, .inl ⟨rfl, xs0, SqL.of hx0⟩, pn, F, E, G, _, S, h, fun r E1 G1 ⟨d, E2, hd, ds, hds, hz, h1⟩ v F1 H1 S1 s1 r1 => ?_⟩
    obtain ⟨F2, S2, s2, r2⟩ := S1.ice r1 hd
    obtain ⟨a', ha', f'⟩ := S2.ownL i ds hds
    rw [ha] at ha'
    cases ha'
    obtain ⟨xs, hx, rx⟩ := f'.ex
    refine ⟨a, xs, v, rfl, rfl, hx, by rw [← rx.length]; exact hz, ?_⟩
    exact hk _ _ _ h1 _ F2 _ (S2.ownWrite hds ha (rx.append (.cons r2 .nil))) (s1.trans s2) .non⟩

/-! ### a, b = x, y -/
def Res.fin (r : Res) (E : Env3) : Option (Res × Env3) := match r with
  | .val d => some (.val d, E)
  | .fr ds => some (.fr ds, E)
  | .frD d => some (.frD d, E)
  | .sl i => match E[i]? with
    | some (Sl3.val d) => some (.val d, E)
    | some (Sl3.own ds) => some (.val (.lst ds), E.set i (Sl3.val (.lst ds)))
    | some (Sl3.ownD d) => some (.val d, E.set i (Sl3.val d))
    | _ => none
/-- a free object's slot -/
def Res.frO : Res → Option Sl3
  | .fr ds => some (.own ds)
  | .frD d => some (.ownD d)
  | _ => none
theorem frO_put {r : Res} {s : Sl3} (h : r.frO = some s) (i : Nat) (E : Env3) : r.put i E = some (E.set i s) := by
  cases r <;> cases h <;> rfl
theorem St3.finR {K : PySem.W.Frag} {pn : Pend} {F H : Hp} {σ : L2.St} {E E' : Env3} {G : Reg} (S : St3 K B pn F H σ E G) {r r' : Res} {v : V} (hr : RepR K B pn F H σ E G r v) (h : r.fin E = some (r', E')) :
    ∃ F', St3 K B pn F' H σ E' G ∧ Same F F' ∧ ((∃ d, r' = .val d ∧ Rep K F' d v) ∨ ∃ s d a, r'.frO = some s ∧ s.ow = some d ∧ r' = r ∧ E' = E ∧ F' = F ∧ v = .ref a ∧ FreX K B pn F H G a d ∧ NoOwn σ E a) := by
  cases r with
  | val d => cases h; exact ⟨F, S, Same.refl F, .inl ⟨d, rfl, hr⟩⟩
  | fr ds =>
    cases h
    obtain ⟨a, rfl, f, no⟩ := hr
    exact ⟨F, S, Same.refl F, .inr ⟨_, _, a, rfl, rfl, rfl, rfl, rfl, rfl, f.x, no⟩⟩
  | frD d =>
    cases h
    obtain ⟨a, rfl, f, no⟩ := hr
    exact ⟨F, S, Same.refl F, .inr ⟨_, _, a, rfl, rfl, rfl, rfl, rfl, rfl, f, no⟩⟩
  | sl i =>
    have e : (Res.sl i).ice E = (match r' with | .val d => some (d, E') | _ => none) := by
      unfold Res.fin at h
      unfold Res.ice
      dsimp only at h ⊢
      cases q : E[i]? with
      | none => rw [q] at h; cases h
      | some s => rw [q] at h; cases s <;> cases h <;> rfl
    cases r' with
    | val d =>
      obtain ⟨F', S', s', r''⟩ := S.ice (r := .sl i) hr e
      exact ⟨F', S', s', .inl ⟨d, rfl, r''⟩⟩
    | fr ds =>
      unfold Res.fin at h
      dsimp only at h
      split at h <;> cases h
    | frD ds =>
      unfold Res.fin at h
      dsimp only at h
      split at h <;> cases h
    | sl j =>
      unfold Res.fin at h
      dsimp only at h
      split at h <;> cases h
def dPar (i j : Nat) (ta tb : DE) : DSt := fun D E G => ta E G fun x E1 G1 => ∃ x' E2, x.fin E1 = some (x', E2) ∧ tb E2 G1 fun y E3 G2 => ∃ y' E4, y.fin E3 = some (y', E4) ∧ i < E4.length ∧ j < E4.length ∧
  ∃ E5, x'.put i E4 = some E5 ∧ ∃ E6, y'.put j E5 = some E6 ∧ D.nx E6 G2
theorem ls_par {i j : Nat} {x y : Str} {a b : Expr} {ta tb : DE} {px py pt pos : Pos} {kt k2 pt2} (hc : X.calm = true) (hN : X.N.Nodup) (hi : X.N[i]? = some x) (hj : X.N[j]? = some y) (hij : i ≠ j)
    (hx : X.env.scope.names.lookup x = some .local) (hy : X.env.scope.names.lookup y = some .local) (ha : LE X B a ta) (hb : LE X B b tb)
    (hw : swappedStores [.Tuple [.Name x px, .Name y py] kt pt] (.Tuple [a, b] k2 pt2) X.env = pure (some [x, y]))
    (hs : swapsWithSole [.Tuple [.Name x px, .Name y py] kt pt] (.Tuple [a, b] k2 pt2) pos.line X.env = pure false := by rfl)
    (hs1 : starEach [a, b] X.env = (false, eval a X.env) :: starEach [b] X.env := by rfl) (hs2 : starEach [b] X.env = (false, eval b X.env) :: starEach [] X.env := by rfl) :
    LS X B (.Assign [.Tuple [.Name x px, .Name y py] kt pt] (.Tuple [a, b] k2 pt2) pos) (dPar i j ta tb) :=
  ⟨ps_imp (ps_par hc hN hi hj hij hx hy (pa_cons ha.pe (pa_cons hb.pe pa_nil hs2) hs1) hw hs) fun D σ H ⟨pn, F, E, G, D3, S, h, ok⟩ => by
    -- the last step: both are stored
    have last : ∀ {x' y' : Res} {v u : V} {E4 : Env3} {G2 : Reg} {F4 H4 : Hp}, St3 X.K B pn F4 H4 σ E4 G2 → Same F F4 →
        ((∃ d, x' = .val d ∧ Rep X.K F4 d v) ∨ ∃ s d a, x'.frO = some s ∧ s.ow = some d ∧ v = .ref a ∧ FreX X.K B pn F4 H4 G2 a d ∧ NoOwn σ E4 a) →
        ((∃ d, y' = .val d ∧ Rep X.K F4 d u) ∨ ∃ s d a, y'.frO = some s ∧ s.ow = some d ∧ u = .ref a ∧ FreX X.K B pn F4 H4 G2 a d ∧ NoOwn σ E4 a ∧ (x'.frO ≠ none → u ≠ v)) → i < E4.length → j < E4.length →
        (∃ E5, x'.put i E4 = some E5 ∧ ∃ E6, y'.put j E5 = some E6 ∧ D3.nx E6 G2) → D.nx ((σ.set i (some v)).set j (some u)) H4 := by
      intro x' y' v u E4 G2 F4 H4 S4 s4 hx' hy' hli hlj ⟨E5, e5, E6, e6, hn⟩
      have hli' : i < σ.length := by rw [← S4.len]; exact hli
      have hlj' : j < σ.length := by rw [← S4.len]; exact hlj
      have hlj2 : j < (σ.set i (some v)).length := by rw [List.length_set]; exact hlj'
      have S5 : St3 X.K B pn F4 H4 (σ.set i (some v)) E5 G2 := by
        rcases hx' with ⟨d, rfl, r⟩ | ⟨s, d, a, fo, ow, rfl, f, no⟩
        · cases e5; exact S4.setVal hli' r
        · rw [frO_put fo] at e5
          cases e5; exact S4.setOwnX hli' f ow no
      have S6 : St3 X.K B pn F4 H4 ((σ.set i (some v)).set j (some u)) E6 G2 := by
        rcases hy' with ⟨d, rfl, r⟩ | ⟨s, d, a, fo, ow, rfl, f, no, ne⟩
        · cases e6; exact S5.setVal hlj2 r
        · rw [frO_put fo] at e6
          cases e6
          refine S5.setOwnX hlj2 f ow fun k t g hk ht e => ?_
          rw [setσ_look hli'] at e
          by_cases q : i = k
          · rw [if_pos q] at e
            rcases hx' with ⟨d, rfl, r⟩ | ⟨s', d', a', fo', ow', rfl, f', no'⟩
            · cases e5
              subst q
              rw [List.getElem?_set_self hli] at hk
              cases hk
              cases ht
            · exact ne (by rw [fo']; exact fun z => nomatch z) (Option.some.inj (Option.some.inj e)).symm
          · rw [if_neg q] at e
            rcases hx' with ⟨d, rfl, r⟩ | ⟨s', d', a', fo', ow', rfl, f', no'⟩
            · cases e5
              rw [List.getElem?_set_ne q] at hk
              exact no k t g hk ht e
            · rw [frO_put fo'] at e5
              cases e5
              rw [List.getElem?_set_ne q] at hk
              exact no k t g hk ht e
      exact ok.nx E6 G2 hn _ F4 H4 S6 s4
    refine ⟨pn, F, E, G, _, S, h, fun rx E1 G1 ⟨x', E2, hx', h1⟩ v F1 H1 S1 s1 r1 => ?_⟩
    obtain ⟨F2, S2, s2, hx2⟩ := S1.finR r1 hx'
    rcases hx2 with ⟨d, rfl, r⟩ | ⟨s, d, a, fo, ow, e2, e3, e4, e5, f, no⟩
    · refine ⟨pn, F2, E2, G1, _, S2, h1, fun ry E3 G2 ⟨y', E4, hy', hli, hlj, hn⟩ u F3 H3 S3 s3 r3 => ?_⟩
      obtain ⟨F4, S4, s4, hy4⟩ := S3.finR r3 hy'
      refine ⟨_, _, rfl, last S4 (((s1.trans s2).trans s3).trans s4) (.inl ⟨d, rfl, Rep.mono (s3.trans s4) _ _ r⟩) ?_ hli hlj hn⟩
      rcases hy4 with ⟨d', e1, r⟩ | ⟨s', d', b', fo', ow', e2, e3, e4, e5, f', no'⟩
      · exact .inl ⟨d', e1, r⟩
      · subst e3 e4 e5
        exact .inr ⟨s', d', b', fo', ow', rfl, f', no', fun z => absurd rfl z⟩
    · subst e3 e4 e5
      obtain ⟨o, hx1, rxs⟩ := f.ex
      refine ⟨(a, o) :: pn, F2, E2, G1, _, S2.pendOn f.nF f.nB f.nG f.nP hx1 no rxs.dat.nt, h1, fun ry E3 G2 ⟨y', E4, hy', hli, hlj, hn⟩ u F3 H3 S3 s3 r3 => ?_⟩
      obtain ⟨F4, S4, s4, hy4⟩ := S3.finR r3 hy'
      obtain ⟨S5, hF, hB, hG, hP, hH, no4⟩ := S4.pendOff rxs.dat
      refine ⟨_, _, rfl, last S5 ((s1.trans s3).trans s4) (.inr ⟨s, d, a, fo, ow, rfl, ⟨hF, hB, hG, hP, o, hH, rxs.mono (s3.trans s4)⟩, no4⟩) ?_ hli hlj hn⟩
      rcases hy4 with ⟨d', e1, r⟩ | ⟨s', d', b', fo', ow', e2, e3, e4, e5, f', no'⟩
      · exact .inl ⟨d', e1, r⟩
      · subst e3 e4 e5
        refine .inr ⟨s', d', b', fo', ow', rfl, ⟨f'.nF, f'.nB, f'.nG, fun z => f'.nP (by rw [List.map_cons]; exact List.mem_cons_of_mem _ z), f'.ex⟩, no', fun _ e => f'.nP ?_⟩
        cases e
        rw [List.map_cons]
        exact List.mem_cons_self⟩
end
end L3

set_option Elab.async false
set_option maxRecDepth 100000
set_option maxHeartbeats 4000000
/-! L3, part j: short words for a generated derivation. -/
namespace L3
open PySem PySem.Spec PyProof.Rows L2
/-- a def of the module that keeps a promise over plain values -/
structure Cal3 (P : Program) (w : World) (K : PySem.W.Frag) (mg : Str → Option Value) (base : Heap) (x : Str) (k : Nat) (ps : List Str) (sp : DSp) : Prop where
  ex : ∃ (f : Addr) (fd : FuncData), FnOk P w K mg base (L2.CX P w) k f fd ps (LSp K sp) ∧ mg x = some (.ref f) ∧ PySem.W.keepIn K (.ref f) = true ∧ Binds K fd ps [] ∧ ∃ oc od osl, K.lookup f = some ⟨oc, od, .func fd, osl⟩
/-- what the head tells of a def -/
structure DefAt (K : PySem.W.Frag) (mg : Str → Option Value) (x : Str) (st : Stmt) : Prop where
  ex : ∃ (f : Addr) (oc : Value) (od an : Option Addr) (osl : Array (Option Value)) (kV doc pm cdv ct : Value), mg x = some (.ref f) ∧
    K.lookup f = some ⟨oc, od, .func (PySem.W.fnOf x x (defArgs st) (defBody st) (defScope st) .none kV doc pm an cdv ct), osl⟩ ∧ PySem.W.codeIn K cdv x = true ∧ PySem.W.keepIn K (.ref f) = true
theorem defAt_mk {K : PySem.W.Frag} {h : Heap} {mg : Str → Option Value} {x : Str} {st : Stmt} (X : K.In h) (G : h.Ns mainGlobals mg) {f : Addr} {oc : Value} {od an : Option Addr} {osl : Array (Option Value)} {kV doc pm cdv ct : Value}
    (a : PySem.W.nsIn K mainGlobals x = some (some (.ref f))) (l : K.lookup f = some ⟨oc, od, .func (PySem.W.fnOf x x (defArgs st) (defBody st) (defScope st) .none kV doc pm an cdv ct), osl⟩) (c : PySem.W.codeIn K cdv x = true) (k : PySem.W.keepIn K (.ref f) = true) : DefAt K mg x st :=
  ⟨f, oc, od, an, osl, kV, doc, pm, cdv, ct, PySem.W.mg_of X G a, l, c, k⟩
section
variable {P : Program} {w : World} {K : PySem.W.Frag} {mg : Str → Option Value} {base : Heap}
theorem cal3 {x : Str} {st : Stmt} {k : Nat} {ps N : List Str} {sp : DSp} (d : DefAt K mg x st)
    (hb : ∀ (kV doc pm : Value) (an : Option Addr) (cdv ct : Value) (us : List Value), us.length = ps.length → bindArgs (PySem.W.fnOf x x (defArgs st) (defBody st) (defScope st) .none kV doc pm an cdv ct) ⟨us, []⟩ = pure (ps.zip us))
    (S : FnScope N ps (defScope st)) (len : ∀ ds G q e, sp ds G q e → ds.length = ps.length)
    (body : ∀ (f : Addr) (cdv : Value) (A : Around) (outer : List Env) (s : Shared) (H : Hp) (E : XK) (B : Base3) (dw : Exc3 → Reg → Prop), Room k (A.deeper (envOfC x (defScope st) s.heap.objs.size f cdv)) →
      WOkL (cxOf (L2.CX P w) P w K mg base N x (defScope st) f cdv A outer s H E) B (fun x _ G => dw x G) →
      ∃ t : DSt, LSs (cxOf (L2.CX P w) P w K mg base N x (defScope st) f cdv A outer s H E) B (defBody st) t ∧ ∀ ds G q, sp ds G q dw → t { nx := fun _ G' => q (.val .non) G', rt := q } (start3 N ds) G) :
    Cal3 P w K mg base x (k + 1) ps sp := by
  obtain ⟨f, oc, od, an, osl, kV, doc, pm, cdv, ct, hm, l, c, kp⟩ := d.ex
  have F := fun_mk (st := st) l c kp
  exact ⟨f, _, ok3 F S len (fun cdv A outer s H E B dw hr wk => body f cdv A outer s H E B dw hr wk), hm, kp, F.binds hb, _, _, _, l⟩
end
section
variable {X : Cx} {B : Base3}
theorem le_callC {x : Str} {k j : Nat} {ps : List Str} {sp : DSp} {dw : DW} {ta : DA} {p pos : Pos} {e : Expr} {es : List Expr} (c : Cal3 X.prog X.w X.K X.mg X.base x k ps sp) (hr : Room j X.A) (hk : k ≤ j) (wk : WOk X B dw) (hg : Gl X x) (ha : LA X B (e :: es) ta)
    (hdb : (x == ("__debug__" : Str)) = false := by decide) (he : starEach (e :: es) X.env = (false, eval e X.env) :: starEach es X.env := by rfl) (hpl : (backTo pos (starEach es X.env)).any (·.1) = false := by rfl) :
    LE X B (.Call (.Name x p) (e :: es) [] pos) (dCall sp dw ta) := by
  obtain ⟨f, fd, Fn, hm, kp, hb, -⟩ := c.ex
  exact le_call Fn (hr.mono hk) wk hg hm kp hb ha hdb he hpl
theorem room65 {k : Nat} {A : Around} (r : Room k A) : A.units + 65 < cLine := by have := r.un; omega
variable {a b c : Expr} {ta tb tc : DE} {pos : Pos}
/-! comparisons, as values and as tests -/
theorem le_lt (ha : LE X B a ta) (hb : LE X B b tb) : LE X B (.Compare a [.Lt] [b] pos) (dOp oLt ta tb) := le_cmp op_lt r_cmpI ha hb (nomark _)
theorem le_gt (ha : LE X B a ta) (hb : LE X B b tb) : LE X B (.Compare a [.Gt] [b] pos) (dOp oGt ta tb) := le_cmp op_gt r_cmpI ha hb (nomark _)
theorem le_eq {k : Nat} (hr : Room k X.A) (ha : LE X B a ta) (hb : LE X B b tb) : LE X B (.Compare a [.Eq] [b] pos) (dOp oEq ta tb) := le_cmp (op_eqD hr.units) r_eq3 ha hb (nomark _)
theorem le_in {k : Nat} (hr : Room k X.A) (ha : LE X B a ta) (hb : LE X B b tb) (hm : behindInMarks .In b = false := by rfl) : LE X B (.Compare a [.In] [b] pos) (dOp (oIn false) ta tb) := le_cmp (op_in3 (room65 hr)) r_in3 ha hb hm
theorem lt_lt (ha : LE X B a ta) (hb : LE X B b tb) : LT X B (.Compare a [.Lt] [b] pos) (dTest (dOp oLt ta tb)) := lt_cmp op_lt r_cmpI ha hb (nomark _)
theorem lt_gt (ha : LE X B a ta) (hb : LE X B b tb) : LT X B (.Compare a [.Gt] [b] pos) (dTest (dOp oGt ta tb)) := lt_cmp op_gt r_cmpI ha hb (nomark _)
theorem lt_eq {k : Nat} (hr : Room k X.A) (ha : LE X B a ta) (hb : LE X B b tb) : LT X B (.Compare a [.Eq] [b] pos) (dTest (dOp oEq ta tb)) := lt_cmp (op_eqD hr.units) r_eq3 ha hb (nomark _)
theorem lt_ne {k : Nat} (hr : Room k X.A) (ha : LE X B a ta) (hb : LE X B b tb) : LT X B (.Compare a [.NotEq] [b] pos) (dTest (dOp oNe ta tb)) := lt_cmp (op_neD hr.units) r_ne3 ha hb (nomark _)
theorem lt_notIn {k : Nat} (hr : Room k X.A) (ha : LE X B a ta) (hb : LE X B b tb) (hm : behindInMarks .NotIn b = false := by rfl) : LT X B (.Compare a [.NotIn] [b] pos) (dTest (dOp (oIn true) ta tb)) := lt_cmp (op_notIn3 (room65 hr)) r_notIn3 ha hb hm
theorem lt_isN (ha : LE X B a ta) (hb : LE X B b tb) : LT X B (.Compare a [.Is] [b] pos) (dTest (dOp (oIs false) ta tb)) := lt_cmp op_isN r_is3 ha hb (nomark _)
/-- the name of an operator's rule, for chains -/
structure OpN (X : Cx) (B : Base3) (op : CmpOp) (rd : Reg → D → D → (Res → Prop) → Prop) : Prop where
  ex : ∃ r, OpR X (compareOp op) r ∧ ROp X B r rd
theorem on_lt : OpN X B .Lt oLt := ⟨_, op_lt, r_cmpI⟩
theorem on_le : OpN X B .LtE oLe := ⟨_, op_le, r_cmpI⟩
theorem le_ch {op op' : CmpOp} {rd rd' : Reg → D → D → (Res → Prop) → Prop} (o : OpN X B op rd) (o' : OpN X B op' rd') (ha : LE X B a ta) (hb : LE X B b tb) (hc : LE X B c tc) (hm : lastMarks [op, op'] [b, c] = false := by with_unfolding_all rfl) : LE X B (.Compare a [op, op'] [b, c] pos) (dChain rd rd' ta tb tc) := by
  obtain ⟨r, h1, h2⟩ := o.ex
  obtain ⟨r', h3, h4⟩ := o'.ex
  exact le_chain h1 h2 h3 h4 ha hb hc hm
theorem lt_ch {op op' : CmpOp} {rd rd' : Reg → D → D → (Res → Prop) → Prop} (o : OpN X B op rd) (o' : OpN X B op' rd') (ha : LE X B a ta) (hb : LE X B b tb) (hc : LE X B c tc) (hm : lastMarks [op, op'] [b, c] = false := by with_unfolding_all rfl) : LT X B (.Compare a [op, op'] [b, c] pos) (dTest (dChain rd rd' ta tb tc)) := by
  obtain ⟨r, h1, h2⟩ := o.ex
  obtain ⟨r', h3, h4⟩ := o'.ex
  exact lt_chain h1 h2 h3 h4 ha hb hc hm
theorem ip_subI : PIp X .Sub (rI0 fun i j => .int (i - j)) := ip_sub
def oAddI : Reg → D → D → (Res → Prop) → Prop := fun _ d e k => match d, e with
  | .int i, .int j => k (.val (.int (i + j)))
  | _, _ => False
/-- constants of the module -/
theorem le_gint {x : Str} {i : Int} {pos : Pos} (hg : Gl X x) (hm : ∃ t, X.mg x = some (.int i t)) (hd : (x == ("__debug__" : Str)) = false := by decide) : LE X B (.Name x pos) (dC (.int i)) := by
  obtain ⟨t, hm⟩ := hm
  exact le_c (v := .int i) (pe_glob hg hm ⟨_, rfl⟩ hd) fun _ => .int i
theorem le_gstr {x : Str} {i : Str} {pos : Pos} (hg : Gl X x) (hm : ∃ t, X.mg x = some (.str i t)) (hd : (x == ("__debug__" : Str)) = false := by decide) : LE X B (.Name x pos) (dC (.str i)) := by
  obtain ⟨t, hm⟩ := hm
  exact le_c (v := .str i) (pe_glob hg hm ⟨_, rfl⟩ hd) fun _ => .str i
/-- a tuple of ints of the module -/
structure TupAt (K : PySem.W.Frag) (mg : Str → Option Value) (x : Str) (ns : List Int) : Prop where
  ex : ∃ (a : Addr), mg x = some (.ref a) ∧ ∀ F, Rep K F (.ktp ns) (.ref a)
theorem le_gtup {x : Str} {ns : List Int} {pos : Pos} (hg : Gl X x) (hm : TupAt X.K X.mg x ns) (hd : (x == ("__debug__" : Str)) = false := by decide) : LE X B (.Name x pos) (dC (.ktp ns)) := by
  obtain ⟨a, hm, hr⟩ := hm.ex
  exact le_c (v := .ref a) (pe_glob hg hm rfl hd) hr
end
theorem tupAt_mk {K : PySem.W.Frag} {h : Heap} {mg : Str → Option Value} {x : Str} {ns : List Int} (X : K.In h) (G : h.Ns mainGlobals mg) {a : Addr} {dd : Option Addr} {its : List Value} {n : Nat} {sl : Array (Option Value)}
    (e : PySem.W.nsIn K mainGlobals x = some (some (.ref a))) (l : K.lookup a = some ⟨.type "tuple", dd, .seq its.toArray n, sl⟩) (hi : Vals (ns.map V.int) its) (hz : its.length ≤ sizeLine) : TupAt K mg x ns :=
  ⟨a, PySem.W.mg_of X G e, fun F => .ktp (.inr ⟨_, its.toArray, n, l, rfl, rfl, by simpa using hz, by simpa using hi⟩)⟩
end L3

set_option Elab.async false
set_option maxRecDepth 100000
set_option maxHeartbeats 4000000
/-! L3, part k: the readings, evaluated by simp. -/
namespace L3
open PySem PySem.Spec PyProof.Rows L2
section
variable {E : Env3} {G : Reg} {k : DK} {ta tb tc te to ti : DE} {t u : DT} {s s' : DSt} {Dn : Ends3} {i j : Nat} {tr : DA} {ka : List D → Env3 → Reg → Prop} {kb : Bool → Env3 → Reg → Prop} {rd rd' : Reg → D → D → (Res → Prop) → Prop}
@[simp] theorem start3_cons {x : Str} {N : List Str} {d : D} {ds : List D} : start3 (x :: N) (d :: ds) = Sl3.val d :: start3 N ds := by
  unfold start3; simp
@[simp] theorem start3_none {x : Str} {N : List Str} : start3 (x :: N) [] = Sl3.no :: start3 N [] := by
  unfold start3; simp [List.replicate_succ]
@[simp] theorem start3_nil : start3 [] [] = [] := rfl
@[simp] theorem dSeq_eq : dSeq s s' Dn E G = s { Dn with nx := s' Dn } E G := rfl
@[simp] theorem dNext_eq : dNext Dn E G = Dn.nx E G := rfl
@[simp] theorem dIfS_eq : dIfS t s s' Dn E G = t E G fun b E1 G1 => if b = true then s Dn E1 G1 else s' Dn E1 G1 := rfl
@[simp] theorem dDrop_eq : dDrop te Dn E G = te E G fun _ E1 G1 => Dn.nx E1 G1 := rfl
@[simp] theorem dRet_eq : dRet te Dn E G = te E G fun r E1 G1 => ∃ r', r.out E1 = some r' ∧ Dn.rt r' G1 := rfl
@[simp] theorem dRetN_eq : dRetN Dn E G = Dn.rt (.val .non) G := rfl
@[simp] theorem dBreak_eq : dBreak Dn E G = Dn.bk E G := rfl
@[simp] theorem dCont_eq : dCont Dn E G = Dn.ct E G := rfl
@[simp] theorem dNever_eq : dNever Dn E G = False := rfl
@[simp] theorem dSet_eq : dSet i te Dn E G = te E G fun r E1 G1 => i < E1.length ∧ ∃ E2, r.put i E1 = some E2 ∧ Dn.nx E2 G1 := rfl
@[simp] theorem dSetReg_eq : dSetReg i te Dn E G = te E G fun r E1 G1 => i < E1.length ∧ ∃ ds, r = .fr ds ∧ ∀ a, Dn.nx (E1.set i (Sl3.val (.ref a))) ((a, ds) :: G1) := rfl
@[simp] theorem dAug_eq : dAug i rd te Dn E G = ∃ d, E[i]? = some (Sl3.val d) ∧ te E G fun y E1 G1 => E1[i]? = some (Sl3.val d) ∧ ∃ e, y.get E1 = some e ∧ rd G1 d e fun r => ∃ z, r = .val z ∧ Dn.nx (E1.set i (Sl3.val z)) G1 := rfl
@[simp] theorem dStore_eq : dStore te to ti Dn E G = te E G fun v E1 G1 => ∃ d E2, v.ice E1 = some (d, E2) ∧ to E2 G1 fun o E3 G2 => ti E3 G2 fun i E4 G3 => ∃ k, i = .val (.int k) ∧
  match o with
  | .val (.ref a) => ∃ ds, lookL G3 a = some ds ∧ ∃ j, ixN ds.length k = some j ∧ Dn.nx E4 (regSet G3 a (ds.set j d))
  | .sl s => ∃ ds, E4[s]? = some (Sl3.own ds) ∧ ∃ j, ixN ds.length k = some j ∧ Dn.nx (E4.set s (Sl3.own (ds.set j d))) G3
  | _ => False := rfl
@[simp] theorem dPar_eq : dPar i j ta tb Dn E G = ta E G fun x E1 G1 => ∃ x' E2, x.fin E1 = some (x', E2) ∧ tb E2 G1 fun y E3 G2 => ∃ y' E4, y.fin E3 = some (y', E4) ∧ i < E4.length ∧ j < E4.length ∧
  ∃ E5, x'.put i E4 = some E5 ∧ ∃ E6, y'.put j E5 = some E6 ∧ Dn.nx E6 G2 := rfl
@[simp] theorem dAsg_eq {g : DG} : dAsg te g Dn E G = te E G fun r E1 G1 => ∃ d E2, r.ice E1 = some (d, E2) ∧ g d E2 G1 Dn.nx := rfl
@[simp] theorem dFor_eq {di : DI} {g : DG} : dFor di g s Dn E G = di E G fun ds E1 G1 => dForL g s ds Dn E1 G1 := rfl
@[simp] theorem dForL_nil {g : DG} : dForL g s [] Dn E G = Dn.nx E G := rfl
@[simp] theorem dWhile_eq : dWhile t s Dn E G = ∃ n, dWhN t s n Dn E G := rfl
@[simp] theorem dVar_eq : dVar i E G k = match E[i]? with
  | some (Sl3.val d) => k (.val d) E G
  | some (Sl3.own _) => k (.sl i) E G
  | some (Sl3.ownD _) => k (.sl i) E G
  | _ => False := rfl
@[simp] theorem dC_eq {d : D} : dC d E G k = k (.val d) E G := rfl
@[simp] theorem dOp_eq : dOp rd ta tb E G k = ta E G fun x E1 G1 => tb E1 G1 fun y E2 G2 => ∃ d, x.fz.get E2 = some d ∧ ∃ e, y.get E2 = some e ∧ rd G2 d e fun r => k r E2 G2 := rfl
@[simp] theorem dTest_eq : dTest te E G kb = te E G fun r E1 G1 => ∃ b, r = .val (.bl b) ∧ kb b E1 G1 := rfl
@[simp] theorem dNot_eq : dNot t E G kb = t E G fun b E1 G1 => kb (!b) E1 G1 := rfl
@[simp] theorem dAnd_eq : dAnd t u E G kb = t E G fun b E1 G1 => if b = true then u E1 G1 kb else kb false E1 G1 := rfl
@[simp] theorem dOr_eq : dOr t u E G kb = t E G fun b E1 G1 => if b = true then kb true E1 G1 else u E1 G1 kb := rfl
@[simp] theorem dAndV_eq : dAndV ta tb E G k = ta E G fun r E1 G1 => ∃ b, r = .val (.bl b) ∧ if b = true then tb E1 G1 k else k (.val (.bl false)) E1 G1 := rfl
@[simp] theorem dOrV_eq : dOrV ta tb E G k = ta E G fun r E1 G1 => ∃ b, r = .val (.bl b) ∧ if b = true then k (.val (.bl true)) E1 G1 else tb E1 G1 k := rfl
@[simp] theorem dNotV_eq : dNotV ta E G k = ta E G fun r E1 G1 => ∃ b, r = .val (.bl b) ∧ k (.val (.bl (!b))) E1 G1 := rfl
@[simp] theorem dIf_eq : dIf t ta tb E G k = t E G fun b E1 G1 => if b = true then ta E1 G1 k else tb E1 G1 k := rfl
@[simp] theorem dUn_eq {rd : D → (Res → Prop) → Prop} : dUn rd ta E G k = ta E G fun x E1 G1 => ∃ d, x.get E1 = some d ∧ rd d fun r => k r E1 G1 := rfl
@[simp] theorem dChain_eq : dChain rd rd' ta tb tc E G k = ta E G fun x E1 G1 => tb E1 G1 fun y E2 G2 =>
  ∃ d, x.fz.get E2 = some d ∧ ∃ e, y.fz.get E2 = some e ∧ rd G2 d e fun r => ∃ b, r = .val (.bl b) ∧
    if b = true then tc E2 G2 fun z E3 G3 => ∃ e', y.fz.get E3 = some e' ∧ ∃ f, z.get E3 = some f ∧ rd' G3 e' f fun r => k r E3 G3 else k (.val (.bl false)) E2 G2 := rfl
@[simp] theorem dNil_eq : dNil E G ka = ka [] E G := rfl
@[simp] theorem dCons_eq : dCons ta tr E G ka = ta E G fun x E1 G1 => ∃ d E2, x.ice E1 = some (d, E2) ∧ tr E2 G1 fun ds E3 G3 => ka (d :: ds) E3 G3 := rfl
@[simp] theorem dPCons_eq : dPCons ta tr E G ka = ta E G fun x E1 G1 => tr E1 G1 fun ds E3 G3 => ∃ d, x.fz.get E3 = some d ∧ ka (d :: ds) E3 G3 := rfl
@[simp] theorem dTup_eq : dTup tr E G k = tr E G fun ds E1 G1 => ds.length ≤ sizeLine ∧ k (.val (.tup ds)) E1 G1 := rfl
@[simp] theorem dLst_eq : dLst tr E G k = tr E G fun ds E1 G1 => ds.length ≤ sizeLine ∧ k (.fr ds) E1 G1 := rfl
@[simp] theorem dNoPart_eq {ko : Option Int → Env3 → Reg → Prop} : dNoPart E G ko = ko none E G := rfl
@[simp] theorem dPart_eq {ko : Option Int → Env3 → Reg → Prop} : dPart ta E G ko = ta E G fun r E1 G1 => ∃ i, r = .val (.int i) ∧ ko (some i) E1 G1 := rfl
@[simp] theorem dSl_eq {rd : D → Option Int → Option Int → (Res → Prop) → Prop} {tl th : DO} : dSl rd te tl th E G k = te E G fun x E1 G1 => tl E1 G1 fun lo E2 G2 => th E2 G2 fun hi E3 G3 =>
  ∃ d, x.fz.get E3 = some d ∧ rd d lo hi fun r => k r E3 G3 := rfl
@[simp] theorem dCB_eq {rd : Reg → List D → (Res → Prop) → Prop} : dCB rd tr E G k = tr E G fun ds E1 G1 => rd G1 ds fun r => k r E1 G1 := rfl
@[simp] theorem dCall_eq {sp : DSp} {dw : DW} : dCall sp dw tr E G k = tr E G fun ds E1 G1 => sp ds G1 (fun r G2 => k r E1 G2) (fun x G2 => dw x E1 G2) := rfl
@[simp] theorem dApp_eq : dApp i te E G k = ((∃ ds, E[i]? = some (Sl3.own ds)) ∧ te E G fun r E1 G1 => ∃ d E2, r.ice E1 = some (d, E2) ∧ ∃ ds, E2[i]? = some (Sl3.own ds) ∧ ds.length < sizeLine ∧ k (.val .non) (E2.set i (Sl3.own (ds ++ [d]))) G1) := rfl
@[simp] theorem dIter_eq {kl : List D → Env3 → Reg → Prop} : dIter te E G kl = te E G fun r E1 G1 => ∃ d E2, r.ice E1 = some (d, E2) ∧ ∃ ds, iterD d = some ds ∧ kl ds E2 G1 := rfl
@[simp] theorem dRng1_eq {kl : List D → Env3 → Reg → Prop} : dRng1 tr E G kl = tr E G fun ds E1 G1 => ∃ j : Int, ds = [.int j] ∧ -(2 ^ 62) ≤ j ∧ j < 2 ^ 62 ∧ kl (rangeD 0 j.toNat) E1 G1 := rfl
@[simp] theorem dRng2_eq {kl : List D → Env3 → Reg → Prop} : dRng2 tr E G kl = tr E G fun ds E1 G1 => ∃ i j : Int, ds = [.int i, .int j] ∧ (-(2 ^ 62) ≤ i ∧ i < 2 ^ 62 ∧ -(2 ^ 62) ≤ j ∧ j < 2 ^ 62) ∧ kl (rangeD i (j - i).toNat) E1 G1 := rfl
@[simp] theorem gNm_eq {d : D} {kk : Env3 → Reg → Prop} : gNm i d E G kk = (i < E.length ∧ kk (E.set i (Sl3.val d)) G) := rfl
@[simp] theorem gTp_eq {n : Nat} {gs : DGs} {d : D} {kk : Env3 → Reg → Prop} : gTp n gs d E G kk = ∃ ds, d = .tup ds ∧ ds.length = n ∧ gs ds E G kk := rfl
@[simp] theorem gsNil_eq {ds : List D} {kk : Env3 → Reg → Prop} : gsNil ds E G kk = (ds = [] ∧ kk E G) := rfl
@[simp] theorem gsCons_eq {g : DG} {gs : DGs} {ds : List D} {kk : Env3 → Reg → Prop} : gsCons g gs ds E G kk = ∃ d r, ds = d :: r ∧ g d E G fun E1 G1 => gs r E1 G1 kk := rfl
@[simp] theorem dYes_eq : dYes E G kb = kb true E G := rfl
@[simp] theorem dLc_eq {di : DI} {g : DG} {vs : List Nat} : dLc di g t te vs E G k = di E G fun ds E1 G1 => ds.length ≤ sizeLine ∧ dLcL g t te vs ds [] (wipe3 E1 vs) G1 fun acc E2 G2 => k (.fr acc) E2 G2 := rfl
@[simp] theorem dLcL_nil {g : DG} {vs : List Nat} {acc : List D} {kl : List D → Env3 → Reg → Prop} : dLcL g t te vs [] acc E G kl = kl acc E G := rfl
@[simp] theorem wipe3_nil : wipe3 E [] = E := rfl
@[simp] theorem wipe3_cons {v : Nat} {vs : List Nat} : wipe3 E (v :: vs) = (wipe3 E vs).set v Sl3.no := rfl
/-! what is given -/
variable {d e : D} {ds es : List D}
@[simp] theorem get_val : (Res.val d).get E = some d := rfl
@[simp] theorem get_fr : (Res.fr ds).get E = some (.lst ds) := rfl
@[simp] theorem get_sl : (Res.sl i).get E = match E[i]? with
    | some (Sl3.val d) => some d
    | some (Sl3.own ds) => some (.lst ds)
    | some (Sl3.ownD d) => some d
    | _ => none := rfl
@[simp] theorem fz_val : (Res.val d).fz = .val d := rfl
@[simp] theorem fz_fr : (Res.fr ds).fz = .val (.lst ds) := rfl
@[simp] theorem fz_sl : (Res.sl i).fz = .sl i := rfl
@[simp] theorem ice_val : (Res.val d).ice E = some (d, E) := rfl
@[simp] theorem ice_fr : (Res.fr ds).ice E = some (.lst ds, E) := rfl
@[simp] theorem ice_sl : (Res.sl i).ice E = match E[i]? with
    | some (Sl3.val d) => some (d, E)
    | some (Sl3.own ds) => some (.lst ds, E.set i (Sl3.val (.lst ds)))
    | some (Sl3.ownD d) => some (d, E.set i (Sl3.val d))
    | _ => none := rfl
@[simp] theorem out_val : (Res.val d).out E = some (.val d) := rfl
@[simp] theorem out_fr : (Res.fr ds).out E = some (.fr ds) := rfl
@[simp] theorem out_sl : (Res.sl i).out E = match E[i]? with
    | some (Sl3.val d) => some (.val d)
    | some (Sl3.own ds) => some (.fr ds)
    | some (Sl3.ownD d) => some (.frD d)
    | _ => none := rfl
@[simp] theorem put_val : (Res.val d).put i E = some (E.set i (Sl3.val d)) := rfl
@[simp] theorem put_fr : (Res.fr ds).put i E = some (E.set i (Sl3.own ds)) := rfl
@[simp] theorem put_sl : (Res.sl j).put i E = match E[j]? with
    | some (Sl3.val d) => some (E.set i (Sl3.val d))
    | some (Sl3.own ds) => some ((E.set j (Sl3.val (.lst ds))).set i (Sl3.val (.lst ds)))
    | some (Sl3.ownD d) => some ((E.set j (Sl3.val d)).set i (Sl3.val d))
    | _ => none := rfl
@[simp] theorem fin_val : (Res.val d).fin E = some (.val d, E) := rfl
@[simp] theorem fin_fr : (Res.fr ds).fin E = some (.fr ds, E) := rfl
@[simp] theorem fin_sl : (Res.sl i).fin E = match E[i]? with
    | some (Sl3.val d) => some (.val d, E)
    | some (Sl3.own ds) => some (.val (.lst ds), E.set i (Sl3.val (.lst ds)))
    | some (Sl3.ownD d) => some (.val d, E.set i (Sl3.val d))
    | _ => none := rfl
/-! operators -/
variable {kr : Res → Prop} {a b : Int} {x y : Str}
@[simp] theorem oAdd_ii : oAdd G (.int a) (.int b) kr = kr (.val (.int (a + b))) := rfl
@[simp] theorem oAdd_ss : oAdd G (.str x) (.str y) kr = (x.length + y.length ≤ sizeLine ∧ kr (.val (.str (x ++ y)))) := rfl
@[simp] theorem oAdd_tt : oAdd G (.tup ds) (.tup es) kr = (ds.length + es.length ≤ sizeLine ∧ kr (.val (.tup (ds ++ es)))) := rfl
@[simp] theorem oAdd_ll : oAdd G (.lst ds) (.lst es) kr = (ds.length + es.length ≤ sizeLine ∧ kr (.fr (ds ++ es))) := rfl
@[simp] theorem oAddI_ii : oAddI G (.int a) (.int b) kr = kr (.val (.int (a + b))) := rfl
@[simp] theorem oSub_ii : oSub G (.int a) (.int b) kr = kr (.val (.int (a - b))) := rfl
@[simp] theorem oMul_ii : oMul G (.int a) (.int b) kr = (MulOk a b ∧ kr (.val (.int (a * b)))) := rfl
@[simp] theorem oMul_li : oMul G (.lst ds) (.int b) kr = (-(2 ^ 63) ≤ b ∧ b < 2 ^ 63 ∧ ds.length * b.toNat ≤ sizeLine ∧ kr (.fr (List.replicate b.toNat ds).flatten)) := rfl
@[simp] theorem oFdiv_ii : oFdiv G (.int a) (.int b) kr = (CDivW a b ∧ kr (.val (.int (a / b)))) := rfl
@[simp] theorem oMod_ii : oMod G (.int a) (.int b) kr = (0 < b ∧ kr (.val (.int (a % b)))) := rfl
@[simp] theorem oModN_ii : oModN G (.int a) (.int b) kr = (b ≠ 0 ∧ kr (.val (.int (a.fmod b)))) := rfl
@[simp] theorem oPow_ii : oPow G (.int a) (.int b) kr = (CPow a b ∧ kr (.val (.int (a ^ b.toNat)))) := rfl
@[simp] theorem oCmpI_ii {p : Int → Int → Bool} : oCmpI p G (.int a) (.int b) kr = kr (.val (.bl (p a b))) := rfl
@[simp] theorem oEq_eq : oEq G d e kr = (d.sh = true ∧ e.sh = true ∧ kr (.val (.bl (D.eqv d e)))) := rfl
@[simp] theorem oNe_eq : oNe G d e kr = (d.sh = true ∧ e.sh = true ∧ kr (.val (.bl (!D.eqv d e)))) := rfl
@[simp] theorem oIn_l {n : Bool} : oIn n G d (.lst ds) kr = (d.sh = true ∧ (D.lst ds).sh = true ∧ kr (.val (.bl (if n then !d.among ds else d.among ds)))) := rfl
@[simp] theorem oIn_t {n : Bool} : oIn n G d (.tup ds) kr = (d.sh = true ∧ (D.tup ds).sh = true ∧ kr (.val (.bl (if n then !d.among ds else d.among ds)))) := rfl
@[simp] theorem oIs_eq {n : Bool} : oIs n G d e kr = (e.isN = true ∧ kr (.val (.bl (if n then !d.isN else d.isN)))) := rfl
@[simp] theorem isN_non : D.isN .non = true := rfl
@[simp] theorem isN_int : D.isN (.int a) = false := rfl
@[simp] theorem isN_tup : D.isN (.tup ds) = false := rfl
@[simp] theorem isN_lst : D.isN (.lst ds) = false := rfl
@[simp] theorem isN_str : D.isN (.str x) = false := rfl
@[simp] theorem isN_bl {b : Bool} : D.isN (.bl b) = false := rfl
@[simp] theorem uNeg_i : uNeg (.int a) kr = kr (.val (.int (-a))) := rfl
@[simp] theorem oIx_li : oIx G (.lst ds) (.int a) kr = ∃ v, atI ds a = some v ∧ kr (.val v) := rfl
@[simp] theorem oIx_ti : oIx G (.tup ds) (.int a) kr = ∃ v, atI ds a = some v ∧ kr (.val v) := rfl
@[simp] theorem oIx_sc {ns : List Int} : oIx G (.scr ns) (.int a) kr = ∃ v, atI ns a = some v ∧ kr (.val (.int v)) := rfl
@[simp] theorem oIx_ri {p : Addr} : oIx G (.ref p) (.int a) kr = ∃ ds, lookL G p = some ds ∧ ∃ v, atI ds a = some v ∧ kr (.val v) := rfl
@[simp] theorem oSl_l {lo hi : Option Int} : oSl (.lst ds) lo hi kr = kr (.fr (cutD ds lo hi)) := rfl
@[simp] theorem oSl_t {lo hi : Option Int} : oSl (.tup ds) lo hi kr = kr (.val (.tup (cutD ds lo hi))) := rfl
@[simp] theorem bLen_l : bLen G [.lst ds] kr = kr (.val (.int ds.length)) := rfl
@[simp] theorem bLen_t : bLen G [.tup ds] kr = kr (.val (.int ds.length)) := rfl
@[simp] theorem bLen_s : bLen G [.str x] kr = (x.length ≤ sizeLine ∧ kr (.val (.int x.length))) := rfl
@[simp] theorem bLen_c {ns : List Int} : bLen G [.scr ns] kr = kr (.val (.int ns.length)) := rfl
@[simp] theorem bAbs_i : bAbs G [.int a] kr = kr (.val (.int (if a < 0 then -a else a))) := rfl
@[simp] theorem bIntOf_i : bIntOf G [.int a] kr = kr (.val (.int a)) := rfl
@[simp] theorem bIntOf_b {b : Bool} : bIntOf G [.bl b] kr = kr (.val (.int (if b then 1 else 0))) := rfl
@[simp] theorem bMax_i : bMax G [.int a, .int b] kr = kr (.val (.int (if b > a then b else a))) := rfl
@[simp] theorem bMin_i : bMin G [.int a, .int b] kr = kr (.val (.int (if b < a then b else a))) := rfl
@[simp] theorem bList_l : bList G [.lst ds] kr = kr (.fr ds) := rfl
@[simp] theorem bList_t : bList G [.tup ds] kr = kr (.fr ds) := rfl
@[simp] theorem bTuple_l : bTuple G [.lst ds] kr = kr (.val (.tup ds)) := rfl
@[simp] theorem bTuple_t : bTuple G [.tup ds] kr = kr (.val (.tup ds)) := rfl
@[simp] theorem bAll_l : bAll G [.lst ds] kr = ∃ bs, blsOf ds = some bs ∧ kr (.val (.bl (bs.all id))) := rfl
@[simp] theorem bAny_l : bAny G [.lst ds] kr = ∃ bs, blsOf ds = some bs ∧ kr (.val (.bl (bs.any id))) := rfl
@[simp] theorem bSum_l : bSum G [.lst ds] kr = ∃ bs, intsOf ds = some bs ∧ kr (.val (.int bs.sum)) := rfl
@[simp] theorem bIsi_eq {n : String} : bIsi G [d, .ty n] kr = ∃ t, tyN d = some t ∧ n ∈ knownT ∧ kr (.val (.bl (isT t n))) := rfl
@[simp] theorem tyN_non : tyN .non = some "NoneType" := rfl
@[simp] theorem tyN_bl {b : Bool} : tyN (.bl b) = some "bool" := rfl
@[simp] theorem tyN_int : tyN (.int a) = some "int" := rfl
@[simp] theorem tyN_str : tyN (.str x) = some "str" := rfl
@[simp] theorem tyN_tup : tyN (.tup ds) = some "tuple" := rfl
@[simp] theorem tyN_lst : tyN (.lst ds) = some "list" := rfl
@[simp] theorem known1 : "int" ∈ knownT := by decide
@[simp] theorem known2 : "bool" ∈ knownT := by decide
@[simp] theorem known3 : "str" ∈ knownT := by decide
@[simp] theorem known4 : "tuple" ∈ knownT := by decide
@[simp] theorem known5 : "list" ∈ knownT := by decide
@[simp] theorem isT_def {t n : String} : isT t n = (t == n || (t == "bool" && n == "int")) := rfl
@[simp] theorem iterD_l : iterD (.lst ds) = some ds := rfl
@[simp] theorem iterD_t : iterD (.tup ds) = some ds := rfl
@[simp] theorem iterD_s : iterD (.str x) = some (strD x) := rfl
@[simp] theorem blsOf_m (bs : List Bool) : blsOf (bs.map D.bl) = some bs := blsOf_map bs
@[simp] theorem intsOf_m (bs : List Int) : intsOf (bs.map D.int) = some bs := intsOf_map bs
/-! places -/
@[simp] theorem at0 {α : Type} {a : α} {r : List α} : atI (a :: r) (0 : Int) = some a := by
  have : atI (a :: r) ((0 : Nat) : Int) = some a := atI_nat rfl
  simpa using this
@[simp] theorem at1 {α : Type} {a b : α} {r : List α} : atI (a :: b :: r) (1 : Int) = some b := by
  have : atI (a :: b :: r) ((1 : Nat) : Int) = some b := atI_nat rfl
  simpa using this
@[simp] theorem at2 {α : Type} {a b c : α} {r : List α} : atI (a :: b :: c :: r) (2 : Int) = some c := by
  have : atI (a :: b :: c :: r) ((2 : Nat) : Int) = some c := atI_nat rfl
  simpa using this
theorem ix_nat {n j : Nat} (h : j < n) : ixN n (j : Int) = some j := by
  unfold ixN
  rw [if_pos (by omega), if_pos (by omega)]
  simp
@[simp] theorem ix0 {n : Nat} : ixN (n + 1) (0 : Int) = some 0 := by
  have := ix_nat (n := n + 1) (j := 0) (by omega)
  simpa using this
@[simp] theorem ix1 {n : Nat} : ixN (n + 1 + 1) (1 : Int) = some 1 := by
  have := ix_nat (n := n + 1 + 1) (j := 1) (by omega)
  simpa using this
@[simp] theorem ix2 {n : Nat} : ixN (n + 1 + 1 + 1) (2 : Int) = some 2 := by
  have := ix_nat (n := n + 1 + 1 + 1) (j := 2) (by omega)
  simpa using this
@[simp] theorem regSet_head {p : Addr} {R : Reg} : regSet ((p, ds) :: R) p es = (p, es) :: R := by
  unfold regSet; simp
/-! == -/
@[simp] theorem sh_int : D.sh (.int a) = true := rfl
@[simp] theorem sh_bl {b : Bool} : D.sh (.bl b) = true := rfl
@[simp] theorem sh_non : D.sh .non = true := rfl
@[simp] theorem sh_tup : D.sh (.tup ds) = ds.all (shl (shl (shl (shl sh0)))) := rfl
@[simp] theorem sh_lst : D.sh (.lst ds) = ds.all (shl (shl (shl (shl sh0)))) := rfl
@[simp] theorem shl_int {p : D → Bool} : shl p (.int a) = true := rfl
@[simp] theorem shl_bl {p : D → Bool} {b : Bool} : shl p (.bl b) = true := rfl
@[simp] theorem shl_non {p : D → Bool} : shl p .non = true := rfl
@[simp] theorem shl_tup {p : D → Bool} : shl p (.tup ds) = ds.all p := rfl
@[simp] theorem shl_lst {p : D → Bool} : shl p (.lst ds) = ds.all p := rfl
@[simp] theorem sh0_int : sh0 (.int a) = true := rfl
@[simp] theorem all_shl_ints {p : D → Bool} (ns : List Int) : (ns.map D.int).all (shl p) = true := by
  rw [List.all_map, List.all_eq_true]; intro x _; rfl
@[simp] theorem eqv_int : D.eqv (.int a) (.int b) = decide (a = b) := by
  unfold D.eqv D.py PyData.eqv; exact Bool.beq_eq_decide_eq a b
@[simp] theorem eqv_bl {b c : Bool} : D.eqv (.bl b) (.bl c) = (b == c) := rfl
def eqvL : List D → List D → Bool
  | [], [] => true
  | x :: xs, y :: ys => D.eqv x y && eqvL xs ys
  | _, _ => false
theorem eqvL_eq : ∀ (xs ys : List D), PyData.eqvAll (pyL xs) (pyL ys) = eqvL xs ys
  | [], [] => rfl
  | [], _ :: _ => rfl
  | _ :: _, [] => rfl
  | x :: xs, y :: ys => by
    show (PyData.eqv x.py y.py && PyData.eqvAll (pyL xs) (pyL ys)) = _
    rw [eqvL_eq xs ys]; rfl
@[simp] theorem eqv_tup : D.eqv (.tup ds) (.tup es) = eqvL ds es := by
  unfold D.eqv D.py PyData.eqv; exact eqvL_eq ds es
@[simp] theorem eqv_lst : D.eqv (.lst ds) (.lst es) = eqvL ds es := by
  unfold D.eqv D.py PyData.eqv; exact eqvL_eq ds es
@[simp] theorem eqvL_nil : eqvL [] [] = true := rfl
@[simp] theorem eqvL_cons : eqvL (d :: ds) (e :: es) = (D.eqv d e && eqvL ds es) := rfl
@[simp] theorem eqvL_nc : eqvL [] (e :: es) = false := rfl
@[simp] theorem eqvL_cn : eqvL (d :: ds) [] = false := rfl
@[simp] theorem eqvL_ints : ∀ xs ys : List Int, eqvL (xs.map D.int) (ys.map D.int) = decide (xs = ys)
  | [], [] => rfl
  | [], _ :: _ => rfl
  | _ :: _, [] => rfl
  | x :: xs, y :: ys => by
    rw [List.map_cons, List.map_cons, eqvL, eqvL_ints xs ys, eqv_int]
    by_cases h : x = y
    · subst h; simp
    · simp [h]
@[simp] theorem eqvL_ints_nil {xs : List Int} : eqvL (xs.map D.int) [] = decide (xs = []) := eqvL_ints xs []
@[simp] theorem eqvL_nil_ints {xs : List Int} : eqvL [] (xs.map D.int) = decide ([] = xs) := eqvL_ints [] xs
end
theorem mulOk_left {i j : Int} (h1 : -(2 ^ 64) < i) (h2 : i < 2 ^ 64) : MulOk i j := .inl (.inl ⟨h1, h2⟩)
theorem mulOk_right {i j : Int} (h1 : -(2 ^ 64) < j) (h2 : j < 2 ^ 64) : MulOk i j := .inl (.inr ⟨h1, h2⟩)
end L3

set_option Elab.async false
set_option maxRecDepth 100000
set_option maxHeartbeats 4000000
set_option exponentiation.threshold 2000
/-! L3, part l: the end of a walk; loops by invariants; small steps for the plain reading. -/
namespace L3
open PySem PySem.Spec PyProof.Rows L2
/-! ### loops -/
theorem for_ind {g : DG} {tb : DSt} {Dn : Ends3} (I : List D → Env3 → Reg → Prop) (hend : ∀ E G, I [] E G → Dn.nx E G)
    (step : ∀ d ds E G (nx : Env3 → Reg → Prop), I (d :: ds) E G → (∀ E' G', I ds E' G' → nx E' G') → g d E G fun E1 G1 => tb { Dn with nx := nx, ct := nx, bk := Dn.nx } E1 G1) :
    ∀ ds E G, I ds E G → dForL g tb ds Dn E G
  | [], E, G, h => hend E G h
  | d :: ds, E, G, h => step d ds E G _ h fun E' G' h' => for_ind I hend step ds E' G' h'
theorem wh_ind {c : DT} {tb : DSt} {Dn : Ends3} (I : Nat → Env3 → Reg → Prop)
    (step : ∀ n E G (nx : Env3 → Reg → Prop), I n E G → (∀ E' G' m, n = m + 1 → I m E' G' → nx E' G') → c E G fun b E1 G1 => if b = true then tb { Dn with nx := nx, ct := nx, bk := Dn.nx } E1 G1 else Dn.nx E1 G1) :
    ∀ n E G, I n E G → dWhN c tb (n + 1) Dn E G
  | 0, E, G, h => step 0 E G _ h fun E' G' m e _ => by cases e
  | n + 1, E, G, h => step (n + 1) E G _ h fun E' G' m e h' => by cases e; exact wh_ind I step n E' G' h'
/-- a comprehension whose parts leave the registers as they are -/
theorem lc_pure {g : DG} {tt : DT} {te : DE} {vs : List Nat} {E : Env3} {G : Reg} (P : D → Prop) (f : D → Option D)
    (step : ∀ d (k1 : D → Env3 → Reg → Prop) (k2 : Env3 → Reg → Prop), P d → (∀ x Ew, f d = some x → wipe3 Ew vs = E → k1 x Ew G) → (∀ Ew, f d = none → wipe3 Ew vs = E → k2 Ew G) →
      g d E G fun E1 G1 => tt E1 G1 fun b E2 G2 => if b = true then te E2 G2 fun r E3 G3 => ∃ x E4, r.ice E3 = some (x, E4) ∧ k1 x E4 G3 else k2 E2 G2) :
    ∀ (ds acc : List D) (k : List D → Env3 → Reg → Prop), (∀ d ∈ ds, P d) → k (acc ++ ds.filterMap f) E G → dLcL g tt te vs ds acc E G k
  | [], acc, k, _, h => by simpa using h
  | d :: ds, acc, k, hp, h => step d _ _ (hp d List.mem_cons_self)
      (fun x Ew e w => by
        rw [w]
        refine lc_pure P f step ds _ k (fun z hz => hp z (List.mem_cons_of_mem _ hz)) ?_
        rw [List.filterMap_cons_some e] at h
        rw [List.append_assoc]
        exact h)
      fun Ew e w => by
        rw [w]
        refine lc_pure P f step ds _ k (fun z hz => hp z (List.mem_cons_of_mem _ hz)) ?_
        rw [List.filterMap_cons_none e] at h
        exact h
theorem lc_pure0 {g : DG} {tt : DT} {te : DE} {vs : List Nat} {E : Env3} {G : Reg} (P : D → Prop) (f : D → Option D)
    (step : ∀ d (k1 : D → Env3 → Reg → Prop) (k2 : Env3 → Reg → Prop), P d → (∀ x Ew, f d = some x → wipe3 Ew vs = E → k1 x Ew G) → (∀ Ew, f d = none → wipe3 Ew vs = E → k2 Ew G) →
      g d E G fun E1 G1 => tt E1 G1 fun b E2 G2 => if b = true then te E2 G2 fun r E3 G3 => ∃ x E4, r.ice E3 = some (x, E4) ∧ k1 x E4 G3 else k2 E2 G2)
    {ds : List D} {k : List D → Env3 → Reg → Prop} (hp : ∀ d ∈ ds, P d) (h : k (ds.filterMap f) E G) : dLcL g tt te vs ds [] E G k :=
  lc_pure P f step ds [] k hp h
/-- a comprehension whose parts move the registers, every item counted -/
theorem lc_reg {g : DG} {tt : DT} {te : DE} {vs : List Nat} {E : Env3} (P : D → Prop) (I : Reg → Prop) (R : D → Prop)
    (step : ∀ d G (k1 : D → Env3 → Reg → Prop) (k2 : Env3 → Reg → Prop), P d → I G → (∀ x Ew G', R x → I G' → wipe3 Ew vs = E → k1 x Ew G') → (∀ Ew G', I G' → wipe3 Ew vs = E → k2 Ew G') →
      g d E G fun E1 G1 => tt E1 G1 fun b E2 G2 => if b = true then te E2 G2 fun r E3 G3 => ∃ x E4, r.ice E3 = some (x, E4) ∧ k1 x E4 G3 else k2 E2 G2) :
    ∀ (ds acc : List D) (G : Reg) (k : List D → Env3 → Reg → Prop), (∀ d ∈ ds, P d) → I G → (∀ xs G', (∀ x ∈ xs, R x) → xs.length ≤ ds.length → I G' → k (acc ++ xs) E G') → dLcL g tt te vs ds acc E G k
  | [], acc, G, k, _, i, h => by simpa using h [] G (fun _ hm => by cases hm) (Nat.le_refl _) i
  | d :: ds, acc, G, k, hp, i, h => step d G _ _ (hp d List.mem_cons_self) i
      (fun x Ew G' r i' w => by
        rw [w]
        refine lc_reg P I R step ds _ G' k (fun z hz => hp z (List.mem_cons_of_mem _ hz)) i' fun xs G2 hx hl i2 => ?_
        rw [List.append_assoc]
        exact h (x :: xs) G2 (fun y hy => (List.mem_cons.mp hy).elim (fun e => by rw [e]; exact r) (hx y)) (by simp only [List.length_cons]; omega) i2)
      fun Ew G' i' w => by
        rw [w]
        exact lc_reg P I R step ds _ G' k (fun z hz => hp z (List.mem_cons_of_mem _ hz)) i' fun xs G2 hx hl i2 => h xs G2 hx (by simp only [List.length_cons]; omega) i2
/-! ### steps -/
/-- a goal that the step words leave alone -/
inductive Stop (p : Prop) : Prop
  | go (h : p)
  | no (h : False)
theorem Stop.of {p : Prop} : Stop p → p
  | .go h => h
  | .no h => h.elim
theorem lc_stop {g : DG} {tt : DT} {te : DE} {vs : List Nat} {ds acc : List D} {E : Env3} {G : Reg} {k : List D → Env3 → Reg → Prop} (h : Stop (dLcL g tt te vs ds acc E G k)) : dLcL g tt te vs ds acc E G k := h.of
theorem for_stop {g : DG} {tb : DSt} {ds : List D} {Dn : Ends3} {E : Env3} {G : Reg} (h : Stop (dForL g tb ds Dn E G)) : dForL g tb ds Dn E G := h.of
theorem ifD {p : Prop} [Decidable p] {A C : Prop} (h1 : p → A) (h2 : ¬ p → C) : if decide p = true then A else C := by
  by_cases h : p
  · rw [decide_eq_true h, if_pos rfl]; exact h1 h
  · rw [decide_eq_false h, if_neg Bool.false_ne_true]; exact h2 h
theorem ifB {b : Bool} {A C : Prop} (h1 : b = true → A) (h2 : b = false → C) : if b = true then A else C := by
  cases b
  · exact h2 rfl
  · exact h1 rfl
theorem ifE {a b : Int} {A C : Prop} (h1 : a = b → A) (h2 : a ≠ b → C) : if D.eqv (.int a) (.int b) = true then A else C := by
  rw [eqv_int]
  exact ifD h1 h2
theorem ifQ {d e : D} {p : Prop} [Decidable p] {A C : Prop} (hd : D.eqv d e = decide p) (h1 : p → A) (h2 : ¬ p → C) : if D.eqv d e = true then A else C := by
  rw [hd]
  exact ifD h1 h2
theorem ifNQ {d e : D} {p : Prop} [Decidable p] {A C : Prop} (hd : D.eqv d e = decide p) (h1 : ¬ p → A) (h2 : p → C) : if (!D.eqv d e) = true then A else C := by
  rw [hd]
  by_cases h : p
  · rw [decide_eq_true h]; exact h2 h
  · rw [decide_eq_false h]; exact h1 h
theorem ifT {A C : Prop} (h : A) : if true = true then A else C := h
theorem ifF {A C : Prop} (h : C) : if false = true then A else C := h
theorem look0 {a : Addr} {l : Int} {ds : List D} {R : Reg} : lookL ((a, D.int l :: ds) :: R) a = some (D.int l :: ds) := by simp [lookL, List.lookup, isL]
theorem mulC {i j : Int} (h : -(2 ^ 64) < i ∧ i < 2 ^ 64) : MulOk i j := mulOk_left h.1 h.2
theorem mulC' {i j : Int} (h : -(2 ^ 64) < j ∧ j < 2 ^ 64) : MulOk i j := mulOk_right h.1 h.2
theorem cpow (n : Int) (h : 0 ≤ n) (h2 : n ≤ 1000000) : CPow 10 n := ⟨h, h2, by decide⟩
theorem ltL {a b : Nat} (h : Nat.ble (a + 1) b = true) : a < b := Nat.le_of_ble_eq_true h
theorem regS {p : Addr} {R : Reg} {ds es : List D} : regSet ((p, ds) :: R) p es = (p, es) :: R := regSet_head
theorem atN {α : Type} {ds : List α} {r : Int} (h0 : 0 ≤ r) (h : r < (ds.length : Int)) : ∃ d, atI ds r = some d ∧ d ∈ ds := by
  obtain ⟨j, rfl⟩ := Int.eq_ofNat_of_zero_le h0
  have hj : j < ds.length := by exact_mod_cast h
  refine ⟨ds[j], ?_, List.getElem_mem hj⟩
  unfold atI
  rw [ix_nat hj]
  exact List.getElem?_eq_getElem hj
theorem fmap_all {α β : Type} {f : α → Option β} {g : α → β} : ∀ {ds : List α}, (∀ d ∈ ds, f d = some (g d)) → ds.filterMap f = ds.map g
  | [], _ => rfl
  | d :: ds, h => by rw [List.filterMap_cons_some (h d List.mem_cons_self), fmap_all fun z hz => h z (List.mem_cons_of_mem _ hz)]; rfl
theorem qT {q : Res → Reg → Prop} {G : Reg} {b : Bool} (hb : b = true) (h : q (.val (.bl true)) G) : q (.val (.bl b)) G := by rw [hb]; exact h
theorem qB {q : Res → Reg → Prop} {G : Reg} {b c : Bool} (h : q (.val (.bl c)) G) (hb : b = c) : q (.val (.bl b)) G := by rw [hb]; exact h
end L3

set_option Elab.async false
set_option maxRecDepth 100000
set_option maxHeartbeats 4000000
/-! L3, part m: slices, plainly. -/
namespace L3
open PySem PySem.Spec PyProof.Rows L2
theorem cut_to {ds : List D} (j : Nat) : cutD ds none (some (j : Int)) = ds.take j := by
  unfold cutD
  rw [HT.sIx_nat, HT.sIx_none, List.drop_zero, Nat.sub_zero]
  by_cases h : j ≤ ds.length
  · rw [Nat.min_eq_left h]
  · rw [Nat.min_eq_right (by omega), List.take_length, List.take_of_length_le (by omega)]
theorem rangeD_len (lo : Int) (n : Nat) : (rangeD lo n).length = n := by unfold rangeD; rw [List.length_map, List.length_range]
end L3

set_option Elab.async false
set_option maxRecDepth 100000
set_option maxHeartbeats 4000000
/-! L3, part n: instances of classes with slots: read, filled by __init__, made. -/
namespace L3
open PySem PySem.Spec PyProof.Rows L2
/-- the slot f of the class of that name is its i-th -/
structure SlotAt (K : PySem.W.Frag) (nm f : Str) (i : Nat) : Prop where
  ex : ∃ C p, ClsN K nm C ∧ SlX.SCls K C ∧ SlX.Slot1 K C f p i
theorem ClsN.eq {K : PySem.W.Frag} {nm : Str} {C C' : Addr} (h : ClsN K nm C) (h' : ClsN K nm C') : C = C' := by
  unfold ClsN at h h'
  rw [h] at h'
  cases h'
  rfl
section
variable {X : Cx} {B : Base3}
theorem RepH.obj {K : PySem.W.Frag} {F H : Hp} {nm : Str} {fs : List D} {v : V} (r : RepH K F H (.obj nm fs) v) (s : Same F H) : ∃ a C dx xs, v = .ref a ∧ ClsN K nm C ∧ SlX.Slt H a C dx (xs.map some) ∧ RepL K F fs xs := by
  rcases r with r | ⟨_, _, _, _, e⟩
  · cases r with
    | obj h1 h2 h3 h4 => exact ⟨_, _, _, _, rfl, h1, .inr ⟨s _ _ h2, s _ _ h3⟩, h4⟩
  · exact e.elim
/-- e.f, f a slot -/
def dAttr (tbl : List (Str × Nat)) (te : DE) : DE := fun E G k => te E G fun x E1 G1 => ∃ nm fs, x.get E1 = some (.obj nm fs) ∧ ∃ i, tbl.lookup nm = some i ∧ ∃ d, fs[i]? = some d ∧ k (.val d) E1 G1
theorem le_attr {e : Expr} {f : Str} {pos : Pos} {ta : DE} (tbl : List (Str × Nat)) (h : ∀ nm i, tbl.lookup nm = some i → SlotAt X.K nm f i) (he : LE X B e ta) (hb : attributeBase e f X.env (eval e X.env) = eval e X.env := by rfl) :
    LE X B (.Attribute e f pos) (dAttr tbl ta) :=
  ⟨pe_imp (SlX.pe_sl he.pe hb) fun σ H Q ⟨pn, F, E, G, k, S, ht, hk⟩ => ⟨pn, F, E, G, _, S, ht, fun x E1 G1 ⟨nm, fs, hx, i, hl, d, hd, h1⟩ v F1 H1 S1 s1 r1 => by
    obtain ⟨a, C, dx, xs, rfl, hC, hs, hf⟩ := (S1.getH r1 hx).obj S1.w.sub
    obtain ⟨C', p, hC', sc, sl⟩ := (h nm i hl).ex
    cases hC.eq hC'
    obtain ⟨u, hu, ru⟩ := hf.get hd
    exact ⟨a, C, dx, p, _, i, u, rfl, hs, sc, sl, by rw [List.getElem?_map, hu]; rfl, hk _ _ _ h1 u F1 H1 S1 s1 ru⟩⟩⟩
/-! ### self.f = e in __init__ -/
def putO (i : Nat) (d : D) (fs : List (Option D)) : List (Option D) := (fs ++ List.replicate (i + 1 - fs.length) none).set i (some d)
theorem putO_get {i j : Nat} {d e : D} {fs : List (Option D)} (h : (putO i d fs)[j]? = some (some e)) : (i = j ∧ e = d) ∨ (i ≠ j ∧ fs[j]? = some (some e)) := by
  unfold putO at h
  by_cases q : i = j
  · subst q
    rw [List.getElem?_set] at h
    simp only [if_true] at h
    split at h
    · cases h; exact .inl ⟨rfl, rfl⟩
    · cases h
  · rw [List.getElem?_set_ne q] at h
    refine .inr ⟨q, ?_⟩
    by_cases z : j < fs.length
    · rw [List.getElem?_append_left z] at h; exact h
    · rw [List.getElem?_append_right (by omega)] at h
      have := List.mem_of_getElem? h
      have := List.eq_of_mem_replicate this
      cases this
theorem RepO.put {K : PySem.W.Frag} {F : Hp} {fs : List (Option D)} {vs : List (Option V)} (h : RepO K F fs vs) (i : Nat) {d : D} {v : V} (r : Rep K F d v) : RepO K F (putO i d fs) (SlX.putS i v vs) := by
  refine ⟨?_, fun j e he => ?_⟩
  · unfold putO SlX.putS
    simp only [List.length_set, List.length_append, List.length_replicate, h.1]
  · rcases putO_get he with ⟨q, rfl⟩ | ⟨q, z⟩
    · subst q
      exact ⟨v, SlX.putS_get _ _ _, r⟩
    · obtain ⟨u, h1, h2⟩ := h.2 j e z
      exact ⟨u, (SlX.putS_ne (fun w => q w.symm)).mpr h1, h2⟩
/-- the pending entries at a and dx become these -/
def pnSet (a : Addr) (o : HO) (dx : Addr) (o' : HO) (pn : Pend) : Pend := pn.map fun p => if p.1 = a then (a, o) else if p.1 = dx then (dx, o') else p
theorem pnSet_nt {a : Addr} {C dx' : Addr} {vs : List (Option V)} {dx : Addr} {fs : List (Str × V)} {pn : Pend} (h : ∀ p ∈ pn, isTp p.2 = false) : ∀ p ∈ pnSet a (SlX.SlO a C dx' vs) dx (.xd fs) pn, isTp p.2 = false := fun p hp => by
  obtain ⟨q, hq, rfl⟩ := List.mem_map.mp hp
  split
  · rfl
  · split
    · rfl
    · exact h q hq
theorem pnSet_dom (a : Addr) (o : HO) (dx : Addr) (o' : HO) (pn : Pend) : (pnSet a o dx o' pn).map (·.1) = pn.map (·.1) := by
  unfold pnSet
  rw [List.map_map]
  refine List.map_congr_left fun p _ => ?_
  simp only [Function.comp]
  split
  · rename_i e; exact e.symm
  · split
    · rename_i e; exact e.symm
    · rfl
theorem St3.slotWrite {K : PySem.W.Frag} {pn : Pend} {F H : Hp} {σ : L2.St} {E : Env3} {G : Reg} (S : St3 K B pn F H σ E G) {nm : Str} {fs : List (Option D)} (h : E[0]? = some (Sl3.new nm fs)) (i : Nat) {d : D} {y : V} (r : Rep K F d y) :
    ∃ a C dx vs, σ[0]? = some (some (V.ref a)) ∧ ClsN K nm C ∧ SlX.Slt H a C dx vs ∧ ∃ pn', St3 K B pn' F (SlX.slH H a C dx (SlX.putS i y vs)) σ (E.set 0 (Sl3.new nm (putO i d fs))) G := by
  obtain ⟨a, C, dx, vs, ⟨ha, hσ⟩, hne, hC, hR, hP⟩ := S.news nm fs h
  have mA : ∃ o, (a, o) ∈ pn := by
    rcases hP with ⟨_, z, _⟩ | ⟨z, _⟩
    · exact ⟨_, z⟩
    · exact ⟨_, z⟩
  have mD : ∃ o, (dx, o) ∈ pn := by
    rcases hP with ⟨_, _, z⟩ | ⟨_, z⟩
    · exact ⟨_, z⟩
    · exact ⟨_, z⟩
  obtain ⟨oA, mA⟩ := mA
  obtain ⟨oD, mD⟩ := mD
  obtain ⟨a1, a2, a3, a4⟩ := S.pend a oA mA
  obtain ⟨d1, d2, d3, d4⟩ := S.pend dx oD mD
  have slt : SlX.Slt H a C dx vs := by
    rcases hP with ⟨z1, z, _⟩ | ⟨z, z2⟩
    · exact .inl ⟨(S.pend _ _ z).1, z1⟩
    · exact .inr ⟨(S.pend _ _ z).1, (S.pend _ _ z2).1⟩
  have dA : a ∈ pn.map (·.1) := List.mem_map.mpr ⟨_, mA, rfl⟩
  have dD : dx ∈ pn.map (·.1) := List.mem_map.mpr ⟨_, mD, rfl⟩
  have away : ∀ b, b ≠ a → b ≠ dx → SlX.slH H a C dx (SlX.putS i y vs) b = H b := fun b n1 n2 => SlX.slH_ne n1 n2
  have atA : SlX.slH H a C dx (SlX.putS i y vs) a = some (SlX.SlO a C dx (SlX.putS i y vs)) := by unfold SlX.slH; exact upd_same
  have atD : SlX.slH H a C dx (SlX.putS i y vs) dx = some (.xd []) := by unfold SlX.slH; rw [upd_ne hne, upd_same]
  have nofree : ∀ {b : Addr} {ds : D}, FreX K B pn F H G b ds → b ≠ a ∧ b ≠ dx := fun f => ⟨fun z => f.nP (by rw [z]; exact dA), fun z => f.nP (by rw [z]; exact dD)⟩
  refine ⟨a, C, dx, vs, hσ, hC, slt, pnSet a (SlX.SlO a C dx (SlX.putS i y vs)) dx (.xd []) pn, ⟨⟨fun b u hb => ?_, fun b es hb => ?_, S.w.nd⟩, S.keepF, fun b u hb hg => ?_, S.unfr, S.regs, S.regk, by rw [List.length_set]; exact S.len, fun j e hj => ?_, fun j s d hj ho => ?_, fun j k s t d e b h1 h2 o1 o2 => ?_, fun b o hb => ?_, ⟨by rw [pnSet_dom]; exact S.pnd.1, pnSet_nt S.pnd.2⟩, fun nm' fs' hj => ?_⟩⟩
  · rw [away b (ne_of_none hb a2) (ne_of_none hb d2)]; exact S.w.sub b u hb
  · obtain ⟨h1, xs, h2, h3⟩ := S.w.reg b es hb
    have hm : b ∈ G.map (·.1) := List.mem_map.mpr ⟨_, hb, rfl⟩
    exact ⟨h1, xs, by rw [away b (fun z => a4 (by rw [← z]; exact hm)) (fun z => d4 (by rw [← z]; exact hm))]; exact h2, h3⟩
  · rw [away b (ne_of_none hb a3) (ne_of_none hb d3)]; exact S.keepH b u hb hg
  · rcases set_look hj with ⟨_, z⟩ | ⟨_, z⟩
    · cases z
    · exact S.slot j e z
  · rcases set_look hj with ⟨_, z⟩ | ⟨_, z⟩
    · subst z; cases ho
    · obtain ⟨b, e1, f⟩ := S.own j s d z ho
      obtain ⟨xs, e2, r2⟩ := f.ex
      obtain ⟨n1, n2⟩ := nofree f
      exact ⟨b, e1, ⟨f.nF, f.nB, f.nG, by rw [pnSet_dom]; exact f.nP, xs, by rw [away b n1 n2]; exact e2, r2⟩⟩
  · rcases set_look h1 with ⟨_, z⟩ | ⟨_, z⟩
    · subst z; cases o1
    rcases set_look h2 with ⟨_, z'⟩ | ⟨_, z'⟩
    · subst z'; cases o2
    exact S.ownd j k s t d e b z z' o1 o2
  · unfold pnSet at hb
    obtain ⟨p, hp, e⟩ := List.mem_map.mp hb
    by_cases q1 : p.1 = a
    · rw [if_pos q1] at e
      cases e
      exact ⟨atA, a2, a3, a4⟩
    · rw [if_neg q1] at e
      by_cases q2 : p.1 = dx
      · rw [if_pos q2] at e
        cases e
        exact ⟨atD, d2, d3, d4⟩
      · rw [if_neg q2] at e
        obtain ⟨p1, p2⟩ := p
        cases e
        obtain ⟨x1, x2, x3, x4⟩ := S.pend _ _ hp
        exact ⟨by rw [away _ q1 q2]; exact x1, x2, x3, x4⟩
  · rcases set_look hj with ⟨_, z⟩ | ⟨ne, z⟩
    · cases z
      refine ⟨a, C, dx, _, ⟨ha, hσ⟩, hne, hC, hR.put i r, .inr ⟨?_, ?_⟩⟩
      · exact List.mem_map.mpr ⟨_, mA, by simp⟩
      · exact List.mem_map.mpr ⟨_, mD, by simp [hne]⟩
    · exact absurd rfl ne
def dSetA (tbl : List (Str × Nat)) (te : DE) : DSt := fun D E G => te E G fun r E1 G1 => ∃ d E2, r.ice E1 = some (d, E2) ∧ ∃ nm fs, E2[0]? = some (Sl3.new nm fs) ∧ ∃ i, tbl.lookup nm = some i ∧ D.nx (E2.set 0 (Sl3.new nm (putO i d fs))) G1
theorem ls_attr {o value : Expr} {f : Str} {pos pos' : Pos} {tv : DE} (tbl : List (Str × Nat)) (h : ∀ nm i, tbl.lookup nm = some i → SlotAt X.K nm f i) (ho : PE X o (tVar 0)) (hv : LE X B value tv)
    (hs : swapsWith value (some (.Attribute o f pos')) pos.line X.env = pure false := by rfl) : LS X B (.Assign [.Attribute o f pos'] value pos) (dSetA tbl tv) :=
  ⟨ps_imp (SlX.ps_sl ho hv.pe hs) fun D σ H ⟨pn, F, E, G, D3, S, ht, ok⟩ => ⟨pn, F, E, G, _, S, ht, fun r E1 G1 ⟨d, E2, hi, nm, fs, h0, i, hl, h1⟩ y F1 H1 S1 s1 r1 => by
    obtain ⟨F2, S2, s2, ry⟩ := S1.ice r1 hi
    obtain ⟨a, C, dx, vs, hσ, hC, slt, pn', S3⟩ := S2.slotWrite h0 i ry
    obtain ⟨C', p, hC', sc, sl⟩ := (h nm i hl).ex
    cases hC.eq hC'
    exact ⟨_, hσ, a, C, dx, p, vs, i, rfl, slt, sc, sl, ok.nx _ _ h1 σ F2 _ S3 (s1.trans s2)⟩⟩⟩
end
end L3

set_option Elab.async false
set_option maxRecDepth 100000
set_option maxHeartbeats 4000000
/-! L3, part o: an instance is made: the promise of its __init__. -/
namespace L3
open PySem PySem.Spec PyProof.Rows L2
/-- a promise of __init__: of the arguments behind self; the slots, filled -/
abbrev DSpI := List D → Reg → (List D → Reg → Prop) → (Exc3 → Reg → Prop) → Prop
def LSpI (K : PySem.W.Frag) (nm : Str) (sp : DSpI) : Sp := fun vs H Q E => ∃ (H0 F : Hp) (G : Reg) (a C dx : Addr) (rest : List V) (ds : List D) (k : List D → Reg → Prop) (kx : Exc3 → Reg → Prop),
  vs = V.ref a :: rest ∧ (H0 a = none ∧ H0 dx = none ∧ dx ≠ a ∧ H = upd (upd H0 dx (.own a)) a (.ins C dx []) ∧ ClsN K nm C) ∧ Wld K F H0 G ∧ RepL K F ds rest ∧ sp ds G k kx ∧
  (∀ fs G', k fs G' → ∀ (F' H' : Hp) (dx' : Addr) (xs : List V), After K F H0 G F' H' G' → (F' a = none ∧ a ∉ G'.map (·.1) ∧ H' a = some (SlX.SlO a C dx' (xs.map some))) → (H0 dx' = none ∧ F' dx' = none ∧ dx' ∉ G'.map (·.1) ∧ dx' ≠ a ∧ H' dx' = some (.xd [])) → RepL K F' fs xs → Q .non H') ∧
  (∀ x G', kx x G' → ∀ cls dd F' H', After K F H0 G F' H' G' → RepX K F' x cls dd → E cls dd H')
/-- the frame of __init__ as it begins -/
def startI (nm : Str) (N : List Str) (ds : List D) : Env3 := (start3 N (.non :: ds)).set 0 (Sl3.new nm [])
section
variable {P : Program} {w : World} {K : PySem.W.Frag} {mg : Str → Option Value} {base : Heap}
theorem noOwn_at {B : Base3} {pn : Pend} {F H : Hp} {σ : L2.St} {E : Env3} {G : Reg} (S : St3 K B pn F H σ E G) {a : Addr} (h : H a = none) : NoOwn σ E a := fun i s d hi ho e => by
  obtain ⟨b, e1, f⟩ := S.own i s d hi ho
  rw [e] at e1
  cases e1
  obtain ⟨xs, q, _⟩ := f.ex
  rw [h] at q; cases q
theorem notReg_at {F H : Hp} {G : Reg} (w : Wld K F H G) {a : Addr} (h : H a = none) : a ∉ G.map (·.1) := fun hm => by
  obtain ⟨o, q⟩ := w.regH hm
  rw [h] at q; cases q
theorem startI_st {N : List Str} {nm : Str} {F H0 : Hp} {G : Reg} {ds : List D} {rest : List V} {a C dx : Addr} (hN : 0 < N.length) (wl : Wld K F H0 G) (r : RepL K F ds rest) (ha : H0 a = none) (hd : H0 dx = none) (hne : dx ≠ a) (hC : ClsN K nm C) :
    St3 K ⟨F, H0, G.map (·.1), a⟩ [(a, .ins C dx []), (dx, .own a)] F (upd (upd H0 dx (.own a)) a (.ins C dx [])) (L2.start N (V.ref a :: rest)) (startI nm N ds) G := by
  have S0 : St3 K ⟨F, H0, G.map (·.1), a⟩ [] F H0 (L2.start N (V.ref a :: rest)) (start3 N (.ref a :: ds)) G := by
    have := start_st (N := N) wl (RepL.cons (.ref a) r)
    exact ⟨this.w, this.keepF, this.keepH, this.unfr, this.regs, this.regk, this.len, this.slot, fun i s d h ho => by
      obtain ⟨b, e, f⟩ := this.own i s d h ho
      exact ⟨b, e, ⟨f.nF, f.nB, f.nG, f.nP, f.ex⟩⟩, this.ownd, this.pend, this.pnd, fun nm fs h => by
      obtain ⟨b, C, dx, vs, h1, h2, h3, h4, h5⟩ := this.news nm fs h
      rcases h5 with ⟨_, z, _⟩ | ⟨z, _⟩ <;> cases z⟩
  have no : ∀ b, NoOwn (L2.start N (V.ref a :: rest)) (start3 N (.ref a :: ds)) b := fun b i s d h ho => by
    unfold start3 at h
    by_cases q : i < (D.ref a :: ds).length
    · rw [List.getElem?_append_left (by simpa using q), List.getElem?_map, List.getElem?_eq_getElem q] at h
      cases h
      cases ho
    · rw [List.getElem?_append_right (by simpa using Nat.le_of_not_lt q)] at h
      have := List.eq_of_mem_replicate (List.mem_of_getElem? h)
      subst this
      cases ho
  have fA := wl.fNone ha
  have fD := wl.fNone hd
  have gA := notReg_at wl ha
  have gD := notReg_at wl hd
  have S1 := (S0.newU (o := .own a) hd).pendOn fD hd gD (by simp) upd_same (no dx)
  have ha1 : upd H0 dx (.own a) a = none := by rw [upd_ne hne.symm]; exact ha
  have S2 := (S1.newU (o := .ins C dx []) ha1).pendOn fA ha gA (by simp; exact fun z => hne z.symm) upd_same (no a)
  have e0 : (start3 N (.ref a :: ds)).set 0 (Sl3.new nm []) = startI nm N ds := by
    unfold startI start3
    rfl
  rw [← e0]
  have hσ : (L2.start N (V.ref a :: rest))[0]? = some (some (V.ref a)) := by unfold L2.start; rfl
  refine ⟨S2.w, S2.keepF, S2.keepH, S2.unfr, S2.regs, S2.regk, by rw [List.length_set]; exact S2.len, fun j e hj => ?_, fun j s d hj ho => ?_, fun j k s t d e b h1 h2 o1 o2 => ?_, S2.pend, S2.pnd, fun nm' fs' hj => ?_⟩
  · rcases set_look hj with ⟨_, z⟩ | ⟨_, z⟩
    · cases z
    · exact S2.slot j e z
  · rcases set_look hj with ⟨_, z⟩ | ⟨_, z⟩
    · subst z; cases ho
    · exact S2.own j s d z ho
  · rcases set_look h1 with ⟨_, z⟩ | ⟨_, z⟩
    · subst z; cases o1
    rcases set_look h2 with ⟨_, z'⟩ | ⟨_, z'⟩
    · subst z'; cases o2
    exact S2.ownd j k s t d e b z z' o1 o2
  · rcases set_look hj with ⟨_, z⟩ | ⟨ne, z⟩
    · cases z
      exact ⟨a, C, dx, [], ⟨rfl, hσ⟩, hne, hC, ⟨rfl, fun i d h => by simp at h⟩, .inl ⟨rfl, by simp, by simp⟩⟩
    · exact absurd rfl ne
theorem RepO.full {F : Hp} : ∀ {gs : List D} {vs : List (Option V)}, RepO K F (gs.map some) vs → ∃ xs, vs = xs.map some ∧ RepL K F gs xs
  | [], vs, h => by
    have := h.1
    cases vs with
    | nil => exact ⟨[], rfl, .nil⟩
    | cons _ _ => simp at this
  | g :: gs, [], h => by have := h.1; simp at this
  | g :: gs, v :: vs, h => by
    obtain ⟨u, h1, h2⟩ := h.2 0 g rfl
    have h1' : v = some u := by simpa using h1
    obtain ⟨xs, e, r⟩ := RepO.full (gs := gs) (vs := vs) ⟨by have := h.1; simpa using this, fun i d hi => h.2 (i + 1) d (by simpa using hi)⟩
    exact ⟨u :: xs, by rw [h1', e]; rfl, .cons h2 r⟩
/-- THE RULE for an __init__ -/
theorem okI3 {x qual nm : Str} {st : Stmt} {f : Addr} {fd : FuncData} {N ps : List Str} {k : Nat} {sp : DSpI} (F : Fun K x qual st f fd) (S : FnScope N ps (defScope st)) (hN : 0 < N.length) (len : ∀ ds G q e, sp ds G q e → ds.length + 1 = ps.length)
    (body : ∀ (cdv : Value) (A : Around) (outer : List Env) (s : Shared) (H : Hp) (E : XK) (B : Base3) (dw : Exc3 → Reg → Prop), Room k (A.deeper (envOfC qual (defScope st) s.heap.objs.size f cdv)) →
      WOkL (cxOf (L2.CX P w) P w K mg base N qual (defScope st) f cdv A outer s H E) B (fun x _ G => dw x G) →
      ∃ t : DSt, LSs (cxOf (L2.CX P w) P w K mg base N qual (defScope st) f cdv A outer s H E) B (defBody st) t ∧ ∀ ds G q, sp ds G q dw → t { nx := fun E' G' => ∃ gs : List D, E'[0]? = some (Sl3.new nm (gs.map some)) ∧ gs ≠ [] ∧ q gs G', rt := fun _ _ => False } (startI nm N ds) G) :
    FnOk P w K mg base (L2.CX P w) (k + 1) f fd ps (LSpI K nm sp) := by
  refine F.okX S (fun vs H Q E h => ?_) (fun cdv A outer s H vs Q E hr h => ?_)
  · obtain ⟨H0, F, G, a, C, dx, rest, ds, q, e, rfl, _, _, r, h, _⟩ := h
    rw [List.length_cons, ← r.length]
    exact len _ _ _ _ h
  · obtain ⟨H0, F, G, a, C, dx, rest, ds, q, e, rfl, ⟨ha, hd, hne, rfl, hC⟩, wl, r, h, hq, he⟩ := h
    have aft : ∀ {F' H' : Hp} {G' : Reg} {pn : Pend} {σ : L2.St} {E : Env3}, St3 K ⟨F, H0, G.map (·.1), a⟩ pn F' H' σ E G' → After K F H0 G F' H' G' := fun S => ⟨S.w, S.keepF, S.keepH, S.unfr, S.regs, S.regk⟩
    have wk : WOkL (cxOf (L2.CX P w) P w K mg base N qual (defScope st) f cdv A outer s (upd (upd H0 dx (.own a)) a (.ins C dx [])) E) ⟨F, H0, G.map (·.1), a⟩ (fun x _ G => e x G) :=
      ⟨⟨fun cls d H => E cls d H, takes_of rfl rfl rfl rfl, fun pn F' H' σ E' G' x cls dd S' rx hx => he x G' hx cls dd F' H' (aft S') rx⟩, fun d hd o u e => by
        have hd : H0 d = none := hd
        have e : upd (upd H0 dx (.own a)) a (.ins C dx []) d = some (.frz o u) := e
        unfold upd at e
        split at e
        · cases e
        · split at e
          · cases e
          · rw [hd] at e; cases e⟩
    obtain ⟨t, hb, ht⟩ := body cdv A outer s (upd (upd H0 dx (.own a)) a (.ins C dx [])) E ⟨F, H0, G.map (·.1), a⟩ e hr wk
    refine ⟨_, hb.pss, ⟨_, F, startI nm N ds, G, _, startI_st hN wl r ha hd hne hC, ht ds G q h, ⟨fun E' G' h' σ' F' H' S' _ => ?_, fun _ _ z => z.elim, fun _ _ z => z.elim, fun _ _ z => z.elim⟩⟩⟩
    obtain ⟨gs, h0, hg, hk⟩ := h'
    obtain ⟨a', C', dx', vs, ⟨rfl, _⟩, hne', hC', hR, hP⟩ := S'.news nm _ h0
    obtain ⟨xs, rfl, rx⟩ := hR.full
    cases hC.eq hC'
    have fin : H' a' = some (SlX.SlO a' C dx' (xs.map some)) ∧ H' dx' = some (.xd []) ∧ (F' dx' = none ∧ H0 dx' = none ∧ dx' ∉ G'.map (·.1)) ∧ (F' a' = none ∧ a' ∉ G'.map (·.1)) → _ := fun ⟨h1, h2, ⟨h3, h4, h5⟩, h6, h7⟩ => hq gs G' hk F' H' dx' xs (aft S') ⟨h6, h7, h1⟩ ⟨h4, h3, h5, hne', h2⟩ rx
    rcases hP with ⟨z, _, _⟩ | ⟨z1, z2⟩
    · have : xs = [] := by simpa using z
      subst this
      cases rx
      exact absurd rfl hg
    · obtain ⟨b1, b2, b3, b4⟩ := S'.pend _ _ z1
      obtain ⟨c1, c2, c3, c4⟩ := S'.pend _ _ z2
      exact fin ⟨b1, c1, ⟨c2, c3, c4⟩, b2, b4⟩
/-- a class whose instances are made by such an __init__ -/
structure New3 (P : Program) (w : World) (K : PySem.W.Frag) (mg : Str → Option Value) (base : Heap) (nm : Str) (k : Nat) (sp : DSpI) : Prop where
  ex : ∃ (C f : Addr) (fd : FuncData) (ps : List Str), ClsN K nm C ∧ Mk K C f ∧ mg nm = some (.ref C) ∧ Binds K fd ps [] ∧ FnOk P w K mg base (L2.CX P w) k f fd ps (LSpI K nm sp)
end
section
variable {X : Cx} {B : Base3}
def dMake (nm : Str) (sp : DSpI) (ta : DA) : DE := fun E G k => ta E G fun ds E1 G1 => sp ds G1 (fun fs G2 => k (.val (.obj nm fs)) E1 G2) (fun _ _ => False)
theorem passF : Passes (L2.CX X.prog X.w) X (fun _ _ _ => False) := fun _ _ _ _ _ _ _ ⟨_, _, _, _, _, _, _, _, _, _, _, _, z⟩ => z.elim
theorem le_make {nm : Str} {k j : Nat} {sp : DSpI} {ta : DA} {p pos : Pos} {e : Expr} {es : List Expr} (n : New3 X.prog X.w X.K X.mg X.base nm k sp) (hr : Room j X.A) (hk : k + 1 ≤ j) (hg : Gl X nm) (ha : LA X B (e :: es) ta)
    (hdb : (nm == ("__debug__" : Str)) = false := by decide) (he : starEach (e :: es) X.env = (false, eval e X.env) :: starEach es X.env := by rfl) (hpl : (backTo pos (starEach es X.env)).any (·.1) = false := by rfl) :
    LE X B (.Call (.Name nm p) (e :: es) [] pos) (dMake nm sp ta) := by
  obtain ⟨C, f, fd, ps, hC, M, hm, hb, Fn⟩ := n.ex
  refine ⟨pe_imp (pe_make M Fn (hr.mono hk) hg hm hb .nil passF ha.pa hdb he hpl) fun σ H Q ⟨pn, F, E, G, k, S, ht, hk⟩ => ⟨pn, F, E, G, _, S, ht, fun ds E1 G1 h1 vs F1 H1 S1 s1 r1 x dx nx ndx ne => ?_⟩⟩
  refine ⟨H1, F1, G1, x, C, dx, vs, ds, _, _, by rw [List.append_nil], ⟨nx, ndx, ne, rfl, hC⟩, S1.w, r1, h1, fun fs G' h2 F2 H2 dx' xs A ⟨a1, a2, a3⟩ ⟨b0, b1, b2, b3, b4⟩ r2 => ⟨rfl, ?_⟩, fun _ _ z => z.elim⟩
  have S2 := S1.wldAfter A
  have dom : ∀ {b : Addr}, H1 b = none → b ∉ pn.map (·.1) := fun h hm => by
    obtain ⟨q, hq, rfl⟩ := List.mem_map.mp hm
    have := (S1.pend q.1 q.2 hq).1
    rw [h] at this; cases this
  have noo : ∀ {b : Addr}, H1 b = none → NoOwn σ E1 b := fun h => noOwn_at S1 h
  obtain ⟨S3, s3⟩ := S2.freezeAt b1 (S1.baseNone b0) b2 (dom b0) (noo b0) b4
  have a1' : upd F2 dx' (.xd []) x = none := by rw [upd_ne b3.symm]; exact a1
  obtain ⟨S4, s4⟩ := S3.freezeAt a1' (S1.baseNone nx) a2 (dom nx) (noo nx) a3
  refine hk _ _ _ h2 _ _ _ S4 (((s1.trans A.keepF).trans s3).trans s4) ?_
  exact .obj hC upd_same (s4 _ _ upd_same) (RepL.mono (s3.trans s4) _ _ r2)
end
end L3

set_option Elab.async false
set_option maxRecDepth 100000
set_option maxHeartbeats 4000000
/-! L3, part p: properties, methods, isinstance of instances. -/
namespace L3
open PySem PySem.Spec PyProof.Rows L2
section
variable {P : Program} {w : World} {K : PySem.W.Frag} {mg : Str → Option Value} {base : Heap}
/-- a method of the class of that name -/
structure Meth3 (P : Program) (w : World) (K : PySem.W.Frag) (mg : Str → Option Value) (base : Heap) (nm m : Str) (k : Nat) (sp : DSp) : Prop where
  ex : ∃ (C g : Addr) (fd : FuncData) (ps : List Str), ClsN K nm C ∧ SlX.SCls K C ∧ Meth K C m g ∧ FnOk P w K mg base (L2.CX P w) k g fd ps (LSp K sp) ∧ Binds K fd ps []
/-- isinstance of an instance of n1 and the class n2 -/
structure Isi3 (K : PySem.W.Frag) (n1 n2 : Str) (b : Bool) : Prop where
  ex : ∃ C1 C2, ClsN K n1 C1 ∧ ClsN K n2 C2 ∧ SlX.SCls K C1 ∧ SlX.SIsi K C1 ∧ PySem.W.kitOne K (.ref C1) (.ref C2) = some b
end
section
variable {X : Cx} {B : Base3}
theorem RepH.obj' {K : PySem.W.Frag} {F H : Hp} {nm : Str} {fs : List D} {v : V} (r : RepH K F H (.obj nm fs) v) (s : Same F H) : ∃ (a C dx : Addr) (xs : List V), v = .ref a ∧ ClsN K nm C ∧ SlX.Slt H a C dx (xs.map some) ∧ Rep K F (.obj nm fs) (.ref a) := by
  rcases r with r | ⟨_, _, _, _, e⟩
  · cases r with
    | obj h1 h2 h3 h4 => exact ⟨_, _, _, _, rfl, h1, .inr ⟨s _ _ h2, s _ _ h3⟩, .obj h1 h2 h3 h4⟩
  · exact e.elim
theorem le_cls {nm : Str} {pos : Pos} (hg : Gl X nm) (hm : ∃ C, ClsN X.K nm C ∧ X.mg nm = some (.ref C)) (hd : (nm == ("__debug__" : Str)) = false := by decide) : LE X B (.Name nm pos) (dC (.cls nm)) := by
  obtain ⟨C, hC, hm⟩ := hm
  exact le_c (v := .ref C) (pe_glob hg hm rfl hd) fun _ => .cls hC
def dMeth (nm : Str) (sp : DSp) (to : DE) (ta : DA) : DE := fun E G k => to E G fun x E1 G1 => ∃ fs, x.get E1 = some (.obj nm fs) ∧ ta E1 G1 fun ds E2 G2 => sp (.obj nm fs :: ds) G2 (fun r G3 => k r E2 G3) (fun _ _ => False)
end
end L3

set_option Elab.async false
set_option maxRecDepth 100000
set_option maxHeartbeats 4000000
/-! L3, part q: zip and enumerate. -/
namespace L3
open PySem PySem.Spec PyProof.Rows L2
section
variable {X : Cx} {B : Base3} {K : PySem.W.Frag}
end
end L3

set_option Elab.async false
set_option maxRecDepth 100000
set_option maxHeartbeats 4000000
/-! L3, part r: starred items, texts of numbers, f-strings, join. -/
namespace L3
open PySem PySem.Spec PyProof.Rows L2
section
variable {X : Cx} {B : Base3}
/-! ### str -/
def bStr : Reg → List D → (Res → Prop) → Prop := fun _ ds k => match ds with
  | [.int i] => i.natAbs.log2 < 1920 ∧ k (.val (.str (toString i)))
  | [.str x] => k (.val (.str x))
  | _ => False
theorem le_strOf {e : Expr} {ta : DA} {p pos : Pos} (hg : Gl X "str") (hm : X.mg "str" = none) (ha : LP X B [e] ta) (he : starEach [e] X.env = (false, eval e X.env) :: starEach [] X.env := by rfl) (hpl : (backTo pos (starEach [] X.env)).any (·.1) = false := by rfl) :
    LE X B (.Call (.Name "str" p) [e] [] pos) (dCB bStr ta) :=
  le_callTy (r := fun xs H Q => (∃ i : Int, xs = [.int i] ∧ i.natAbs.log2 < 1920 ∧ Q (.str (toString i)) H) ∨ ∃ a, xs = [.str a] ∧ Q (.str a) H)
    (fun pins s σ H xs us Q I r h => h.elim (fun h => call_str_int pins s σ H xs us Q I r h) fun h => SkE.call_str_str pins s σ H xs us Q I r h) (fun pn F H σ E G vs ds k Q S r h hk => by
  unfold bStr at h
  split at h
  · obtain ⟨v, rfl, rx⟩ := hl1 r
    rw [rx.int]
    exact .inl ⟨_, rfl, h.1, hk _ h.2 _ F H S (Same.refl F) (.str _)⟩
  · obtain ⟨v, rfl, rx⟩ := hl1 r
    have rv := rx.val (fun _ q => nomatch q)
    cases rv
    exact .inr ⟨_, rfl, hk _ h _ F H S (Same.refl F) (.str _)⟩
  · exact h.elim) hg hm (by decide +kernel) ha (by decide) (by decide) he hpl
/-! ### f-strings -/
def uFmt : D → (Res → Prop) → Prop := fun d k => match d with
  | .str y => y.length ≤ sizeLine ∧ k (.val (.str y))
  | .int i => i.natAbs.log2 < 1920 ∧ k (.val (.str (toString i)))
  | _ => False
theorem le_fmt {e : Expr} {te : DE} {pos : Pos} (he : LE X B e te) : LE X B (.FormattedValue e (-1) none pos) (dUn uFmt te) :=
  ⟨pe_imp (pe_fmt he.pe) fun σ H Q ⟨pn, F, E, G, k, S, ht, hk⟩ => ⟨pn, F, E, G, _, S, ht, fun x E1 G1 ⟨d, hd, h1⟩ v F1 H1 S1 s1 r1 => by
    have rx := S1.getH r1 hd
    unfold uFmt at h1
    split at h1
    · have rv := rx.val (fun _ q => nomatch q)
      cases rv
      exact .inl ⟨_, rfl, h1.1, hk _ _ _ h1.2 _ F1 H1 S1 s1 (.str _)⟩
    · rw [rx.int]
      exact .inr ⟨_, rfl, h1.1, hk _ _ _ h1.2 _ F1 H1 S1 s1 (.str _)⟩
    · exact h1.elim⟩⟩
inductive LJ (X : Cx) (B : Base3) : List Expr → List DE → Prop where
  | nil : LJ X B [] []
  | cons {e : Expr} {t : DE} {es : List Expr} {ts : List DE} (h : LE X B e t) (r : LJ X B es ts) : LJ X B (e :: es) (t :: ts)
def dJs : List DE → Str → Env3 → Reg → (Str → Env3 → Reg → Prop) → Prop
  | [], acc, E, G, k => k acc E G
  | t :: ts, acc, E, G, k => t E G fun r E1 G1 => ∃ y : Str, r = .val (.str y) ∧ (acc ++ y).length ≤ sizeLine ∧ dJs ts (acc ++ y) E1 G1 k
def dFstr (ts : List DE) : DE := fun E G k => dJs ts Str.empty E G fun out E1 G1 => k (.val (.str out)) E1 G1
theorem LJ.pj {es : List Expr} {ts : List DE} : LJ X B es ts → PJ X es (ts.map (Lift X.K B))
  | .nil => .nil
  | .cons h r => .cons h.pe r.pj
theorem dJs_lift : ∀ (ts : List DE) (acc : Str) (σ : L2.St) (H : Hp) (Q : Str → Hp → Prop) (pn : Pend) (F : Hp) (E : Env3) (G : Reg) (k : Str → Env3 → Reg → Prop), St3 X.K B pn F H σ E G → dJs ts acc E G k →
    (∀ out E' G', k out E' G' → ∀ F' H', St3 X.K B pn F' H' σ E' G' → Same F F' → Q out H') → tJs (ts.map (Lift X.K B)) acc σ H Q
  | [], acc, σ, H, Q, pn, F, E, G, k, S, h, hk => hk _ _ _ h F H S (Same.refl F)
  | t :: ts, acc, σ, H, Q, pn, F, E, G, k, S, h, hk => ⟨pn, F, E, G, _, S, h, fun r E1 G1 ⟨y, e, hl, h1⟩ v F1 H1 S1 s1 r1 => by
    subst e
    have r1 : Rep X.K F1 (.str y) v := r1
    cases r1
    exact ⟨y, rfl, hl, dJs_lift ts _ σ H1 Q pn F1 E1 G1 k S1 h1 fun out E' G' q F' H' S' s' => hk out E' G' q F' H' S' (s1.trans s')⟩⟩
theorem le_fstr {v1 v2 : Expr} {rest : List Expr} {ts : List DE} {pos : Pos} (h : LJ X B (v1 :: v2 :: rest) ts) : LE X B (.JoinedStr (v1 :: v2 :: rest) pos) (dFstr ts) :=
  ⟨pe_imp (pe_joined h.pj) fun σ H Q ⟨pn, F, E, G, k, S, ht, hk⟩ => dJs_lift ts _ σ H _ pn F E G _ S ht fun out E' G' q F' H' S' s' => hk _ _ _ q _ F' H' S' s' (.str out)⟩
theorem le_fstr1 {e : Expr} {te : DE} {pos : Pos} (he : LE X B e te) : LE X B (.JoinedStr [e] pos) te := ⟨pe_joined1 he.pe⟩
end
end L3

set_option Elab.async false
set_option maxRecDepth 100000
set_option maxHeartbeats 4000000
/-! L3, part s: join and split. -/
namespace L3
open PySem PySem.Spec PyProof.Rows L2
section
variable {X : Cx} {B : Base3}
def strsOf : List D → Option (List Str)
  | [] => some []
  | .str x :: ds => (strsOf ds).map (x :: ·)
  | _ :: _ => none
theorem strsOf_map : ∀ xs : List Str, strsOf (xs.map D.str) = some xs
  | [] => rfl
  | x :: xs => by rw [List.map_cons, strsOf, strsOf_map xs]; rfl
theorem strsOf_eq : ∀ {ds : List D} {ys : List Str}, strsOf ds = some ys → ds = ys.map D.str
  | [], _, h => by cases h; rfl
  | .str x :: ds, ys, h => by
    unfold strsOf at h
    cases e : strsOf ds with
    | none => rw [e] at h; cases h
    | some zs => rw [e] at h; cases h; rw [strsOf_eq e]; rfl
  | .non :: _, _, h => by cases h
  | .bl _ :: _, _, h => by cases h
  | .int _ :: _, _, h => by cases h
  | .ref _ :: _, _, h => by cases h
  | .ty _ :: _, _, h => by cases h
  | .tup _ :: _, _, h => by cases h
  | .lst _ :: _, _, h => by cases h
  | .scr _ :: _, _, h => by cases h
  | .obj _ _ :: _, _, h => by cases h
  | .cls _ :: _, _, h => by cases h
  | .dcK _ _ :: _, _, h => by cases h
  | .dcT _ _ :: _, _, h => by cases h
theorem repl_strs {K : PySem.W.Frag} {F : Hp} : ∀ {ys : List Str} {vs : List V}, RepL K F (ys.map D.str) vs → vs = ys.map V.str
  | [], _, h => by cases h; rfl
  | y :: ys, _, h => by
    cases h with
    | cons h1 h2 => cases h1; rw [repl_strs h2]; rfl
theorem strs_repl {K : PySem.W.Frag} {F : Hp} : ∀ ys : List Str, RepL K F (ys.map D.str) (ys.map V.str)
  | [] => .nil
  | y :: ys => .cons (.str y) (strs_repl ys)
def textsD : D → Option (List Str)
  | .tup ds => strsOf ds
  | .lst ds => strsOf ds
  | _ => none
def dJoin (to te : DE) : DE := fun E G k => to E G fun x E1 G1 => ∃ a, x = .val (.str a) ∧ te E1 G1 fun y E2 G2 => ∃ d, y.get E2 = some d ∧ ∃ ys, textsD d = some ys ∧ (ys.map (·.length)).sum + ys.length * a.length ≤ 16777216 ∧ k (.val (.str (Txt.join a ys))) E2 G2
theorem le_join {o e : Expr} {to te : DE} {apos pos : Pos} (ho : LE X B o to) (he : LE X B e te) (hs : starEach [e] X.env = [(false, eval e X.env)] := by rfl) (hbase : attributeBase o "join" X.env (eval o X.env) = eval o X.env := by rfl) (hline : (apos.endLine == pos.line) = true := by rfl) :
    LE X B (.Call (.Attribute o "join" apos) [e] [] pos) (dJoin to te) :=
  ⟨pe_imp (pe_join ho.pe he.pe hs hbase hline) fun σ H Q ⟨pn, F, E, G, k, S, ht, hk⟩ => ⟨pn, F, E, G, _, S, ht, fun x E1 G1 ⟨a, ex, h1⟩ v F1 H1 S1 s1 r1 => by
    subst ex
    have r1 : Rep X.K F1 (.str a) v := r1
    cases r1
    refine ⟨⟨a, rfl⟩, pn, F1, E1, G1, _, S1, h1, fun y E2 G2 ⟨d, hd, ys, hy, hz, h2⟩ u F2 H2 S2 s2 r2 => ?_⟩
    have rx := S2.getH r2 hd
    unfold textsD at hy
    split at hy
    · obtain ⟨p, xs, rfl, hs, ra⟩ := rx.tup S2.w.sub
      rw [strsOf_eq hy] at ra
      rw [repl_strs ra] at hs
      exact ⟨a, p, ys, rfl, rfl, .inr hs, hz, hk _ _ _ h2 _ F2 H2 S2 (s1.trans s2) (.str _)⟩
    · obtain ⟨p, xs, rfl, hs, ra⟩ := rx.lst S2.w.sub
      rw [strsOf_eq hy] at ra
      rw [repl_strs ra] at hs
      exact ⟨a, p, ys, rfl, rfl, .inl (.inl hs), hz, hk _ _ _ h2 _ F2 H2 S2 (s1.trans s2) (.str _)⟩
    · cases hy⟩⟩
def dSplit (to te : DE) : DE := fun E G k => to E G fun x E1 G1 => ∃ a, x = .val (.str a) ∧ te E1 G1 fun y E2 G2 => ∃ b, y = .val (.str b) ∧ (b.length == 0) = false ∧ a.length + 2 ≤ sizeLine ∧ k (.fr ((Txt.split a b).map D.str)) E2 G2
theorem le_split {o e : Expr} {to te : DE} {apos pos : Pos} (ho : LE X B o to) (he : LE X B e te) (hs : starEach [e] X.env = [(false, eval e X.env)] := by rfl) (hbase : attributeBase o "split" X.env (eval o X.env) = eval o X.env := by rfl) (hline : (apos.endLine == pos.line) = true := by rfl) :
    LE X B (.Call (.Attribute o "split" apos) [e] [] pos) (dSplit to te) :=
  ⟨pe_imp (pe_split ho.pe he.pe hs hbase hline) fun σ H Q ⟨pn, F, E, G, k, S, ht, hk⟩ => ⟨pn, F, E, G, _, S, ht, fun x E1 G1 ⟨a, ex, h1⟩ v F1 H1 S1 s1 r1 => by
    subst ex
    have r1 : Rep X.K F1 (.str a) v := r1
    cases r1
    refine ⟨⟨a, rfl⟩, pn, F1, E1, G1, _, S1, h1, fun y E2 G2 ⟨b, ey, hb, hz, h2⟩ u F2 H2 S2 s2 r2 => ?_⟩
    subst ey
    have r2 : Rep X.K F2 (.str b) u := r2
    cases r2
    refine ⟨a, b, rfl, rfl, hb, hz, fun p np => ?_⟩
    obtain ⟨f, no⟩ := S2.newFre np (strs_repl (Txt.split a b))
    exact hk _ _ _ h2 _ _ _ (S2.newU np) (s1.trans s2) ⟨p, rfl, f, no⟩⟩⟩
end
end L3

set_option Elab.async false
set_option maxRecDepth 100000
set_option maxHeartbeats 4000000
/-! L3, part t: what the head tells of a class with slots. -/
namespace L3
open PySem PySem.Spec PyProof.Rows L2
/-- a def in the class of that name -/
structure MethAt (K : PySem.W.Frag) (nm m qual : Str) (st : Stmt) : Prop where
  ex : ∃ (C f : Addr) (oc : Value) (od an : Option Addr) (osl : Array (Option Value)) (kV doc pm cdv ct : Value), ClsN K nm C ∧ PySem.W.findIn K (.ref C) m = some (some (.ref f)) ∧ PySem.W.isFn K (.ref f) = true ∧
    K.lookup f = some ⟨oc, od, .func (PySem.W.fnOf m qual (defArgs st) (defBody st) (defScope st) .none kV doc pm an cdv ct), osl⟩ ∧ PySem.W.codeIn K cdv qual = true ∧ PySem.W.keepIn K (.ref f) = true
structure MakeAt (K : PySem.W.Frag) (mg : Str → Option Value) (nm : Str) : Prop where
  ex : ∃ C : Addr, ClsN K nm C ∧ PySem.W.makesIn K C = true ∧ PySem.W.keepIn K (.ref C) = true ∧ mg nm = some (.ref C)
structure SClsN (K : PySem.W.Frag) (nm : Str) : Prop where
  ex : ∃ C, ClsN K nm C ∧ SlX.SCls K C
section
variable {P : Program} {w : World} {K : PySem.W.Frag} {mg : Str → Option Value} {base : Heap}
theorem new3 {nm qual : Str} {st : Stmt} {k : Nat} {ps N : List Str} {sp : DSpI} (c : MakeAt K mg nm) (d : MethAt K nm "__init__" qual st)
    (hb : ∀ (kV doc pm : Value) (an : Option Addr) (cdv ct : Value) (us : List Value), us.length = ps.length → bindArgs (PySem.W.fnOf "__init__" qual (defArgs st) (defBody st) (defScope st) .none kV doc pm an cdv ct) ⟨us, []⟩ = pure (ps.zip us))
    (S : FnScope N ps (defScope st)) (hN : 0 < N.length) (len : ∀ ds G q e, sp ds G q e → ds.length + 1 = ps.length)
    (body : ∀ (f : Addr) (cdv : Value) (A : Around) (outer : List Env) (s : Shared) (H : Hp) (E : XK) (B : Base3) (dw : Exc3 → Reg → Prop), Room k (A.deeper (envOfC qual (defScope st) s.heap.objs.size f cdv)) →
      WOkL (cxOf (L2.CX P w) P w K mg base N qual (defScope st) f cdv A outer s H E) B (fun x _ G => dw x G) →
      ∃ t : DSt, LSs (cxOf (L2.CX P w) P w K mg base N qual (defScope st) f cdv A outer s H E) B (defBody st) t ∧ ∀ ds G q, sp ds G q dw → t { nx := fun E' G' => ∃ gs : List D, E'[0]? = some (Sl3.new nm (gs.map some)) ∧ gs ≠ [] ∧ q gs G', rt := fun _ _ => False } (startI nm N ds) G) :
    New3 P w K mg base nm (k + 1) sp := by
  obtain ⟨C, hC, mk, kc, hm⟩ := c.ex
  obtain ⟨C', f, oc, od, an, osl, kV, doc, pm, cdv, ct, hC', fi, fn, l, cd, kp⟩ := d.ex
  cases hC.eq hC'
  have F := fun_mk (st := st) l cd kp
  exact ⟨C, f, _, ps, hC, ⟨mk, fi, fn, kc⟩, hm, F.binds hb, okI3 F S hN len fun cdv A outer s H E B dw hr wk => body f cdv A outer s H E B dw hr wk⟩
theorem meth3 {nm m qual : Str} {st : Stmt} {k : Nat} {ps N : List Str} {sp : DSp} (c : SClsN K nm) (d : MethAt K nm m qual st)
    (hb : ∀ (kV doc pm : Value) (an : Option Addr) (cdv ct : Value) (us : List Value), us.length = ps.length → bindArgs (PySem.W.fnOf m qual (defArgs st) (defBody st) (defScope st) .none kV doc pm an cdv ct) ⟨us, []⟩ = pure (ps.zip us))
    (S : FnScope N ps (defScope st)) (len : ∀ ds G q e, sp ds G q e → ds.length = ps.length)
    (body : ∀ (f : Addr) (cdv : Value) (A : Around) (outer : List Env) (s : Shared) (H : Hp) (E : XK) (B : Base3) (dw : Exc3 → Reg → Prop), Room k (A.deeper (envOfC qual (defScope st) s.heap.objs.size f cdv)) →
      WOkL (cxOf (L2.CX P w) P w K mg base N qual (defScope st) f cdv A outer s H E) B (fun x _ G => dw x G) →
      ∃ t : DSt, LSs (cxOf (L2.CX P w) P w K mg base N qual (defScope st) f cdv A outer s H E) B (defBody st) t ∧ ∀ ds G q, sp ds G q dw → t { nx := fun _ G' => q (.val .non) G', rt := q } (start3 N ds) G) :
    Meth3 P w K mg base nm m (k + 1) sp := by
  obtain ⟨C, hC, sc⟩ := c.ex
  obtain ⟨C', f, oc, od, an, osl, kV, doc, pm, cdv, ct, hC', fi, fn, l, cd, kp⟩ := d.ex
  cases hC.eq hC'
  have F := fun_mk (st := st) l cd kp
  exact ⟨C, f, _, ps, hC, sc, ⟨fi, fn, kp⟩, ok3 F S len (fun cdv A outer s H E B dw hr wk => body f cdv A outer s H E B dw hr wk), F.binds hb⟩
theorem tbl_nil {f : Str} : ∀ (nm : Str) (i : Nat), List.lookup nm ([] : List (Str × Nat)) = some i → SlotAt K nm f i := fun _ _ h => by cases h
theorem tbl_cons {n f : Str} {j : Nat} {r : List (Str × Nat)} (s : SlotAt K n f j) (h : ∀ (nm : Str) (i : Nat), List.lookup nm r = some i → SlotAt K nm f i) : ∀ (nm : Str) (i : Nat), List.lookup nm ((n, j) :: r) = some i → SlotAt K nm f i := fun nm i e => by
  rw [List.lookup_cons] at e
  by_cases q : (nm == n) = true
  · rw [q] at e
    cases e
    rw [LawfulBEq.eq_of_beq q]
    exact s
  · rw [Bool.not_eq_true] at q
    rw [q] at e
    exact h nm i e
theorem isi_nil : ∀ (n1 n2 : Str) (b : Bool), List.lookup (n1, n2) ([] : List ((Str × Str) × Bool)) = some b → Isi3 K n1 n2 b := fun _ _ _ h => by cases h
theorem isi_cons {m1 m2 : Str} {c : Bool} {r : List ((Str × Str) × Bool)} (s : Isi3 K m1 m2 c) (h : ∀ (n1 n2 : Str) (b : Bool), List.lookup (n1, n2) r = some b → Isi3 K n1 n2 b) : ∀ (n1 n2 : Str) (b : Bool), List.lookup (n1, n2) (((m1, m2), c) :: r) = some b → Isi3 K n1 n2 b := fun n1 n2 b e => by
  rw [List.lookup_cons] at e
  by_cases q : ((n1, n2) == (m1, m2)) = true
  · rw [q] at e
    cases e
    have := LawfulBEq.eq_of_beq q
    cases this
    exact s
  · rw [Bool.not_eq_true] at q
    rw [q] at e
    exact h n1 n2 b e
/-! ### from what k_is finds -/
theorem scls_mk {nm : Str} {C : Addr} (a : PySem.W.nsIn K mainGlobals nm = some (some (.ref C))) (pg : PySem.W.plainGet K C Str.empty = true) (ic : PySem.W.isClsIn K C = true) (po : PySem.W.plainOver K C = true)
    (sa : PySem.W.findIn K (.ref C) "__setattr__" = some (some (.builtin "object.__setattr__"))) : SClsN K nm := ⟨C, a, ⟨pg, ic, po, sa⟩⟩
theorem slot_mk {nm f : Str} {C p : Addr} {i : Nat} (c : SClsN K nm) (a : PySem.W.nsIn K mainGlobals nm = some (some (.ref C))) (at_ : PySem.W.findIn K (.ref C) f = some (some (.ref p)))
    (get : PySem.W.specialIn K (.ref p) "__get__" = some (some (.builtin "member_descriptor.__get__"))) (tk : PySem.W.takesIn K (.ref p) = some true) (ty : PySem.W.typeIn K (.ref p) = some (.type "member_descriptor")) (ix : PySem.W.slotIn K p C = some i) (lt : i < 1000) : SlotAt K nm f i := by
  obtain ⟨C', h, sc⟩ := c.ex
  cases ClsN.eq a h
  exact ⟨C, p, a, sc, ⟨at_, get, tk, ty, ix, lt⟩⟩
theorem make_mk {h : Heap} {nm : Str} {C : Addr} (X : K.In h) (G : h.Ns mainGlobals mg) (a : PySem.W.nsIn K mainGlobals nm = some (some (.ref C))) (mk : PySem.W.makesIn K C = true) (kc : PySem.W.keepIn K (.ref C) = true) : MakeAt K mg nm := ⟨C, a, mk, kc, PySem.W.mg_of X G a⟩
theorem cls_mk {h : Heap} {nm : Str} {C : Addr} (X : K.In h) (G : h.Ns mainGlobals mg) (a : PySem.W.nsIn K mainGlobals nm = some (some (.ref C))) : ∃ C, ClsN K nm C ∧ mg nm = some (.ref C) := ⟨C, a, PySem.W.mg_of X G a⟩
theorem isi_mk {n1 n2 : Str} {C1 C2 : Addr} {b : Bool} (c : SClsN K n1) (a1 : PySem.W.nsIn K mainGlobals n1 = some (some (.ref C1))) (a2 : PySem.W.nsIn K mainGlobals n2 = some (some (.ref C2)))
    (ca : PySem.W.findIn K (.ref C1) "__class__" = some (some (.builtin "object.__class__"))) (cn : PySem.W.specialIn K (.builtin "object.__class__") "__get__" = some (some (.builtin "getset_descriptor.__get__"))) (ct : PySem.W.takesIn K (.builtin "object.__class__") = some true) (cm : PySem.W.mroIn K C1 (.type "object") = some true)
    (k : PySem.W.kitOne K (.ref C1) (.ref C2) = some b) : Isi3 K n1 n2 b := by
  obtain ⟨C', h, sc⟩ := c.ex
  cases ClsN.eq a1 h
  exact ⟨C1, C2, a1, a2, sc, ⟨ca, cn, ct, cm⟩, k⟩
theorem methAt_mk {nm m qual : Str} {st : Stmt} {C f : Addr} {oc : Value} {od an : Option Addr} {osl : Array (Option Value)} {kV doc pm cdv ct : Value} (a : PySem.W.nsIn K mainGlobals nm = some (some (.ref C))) (fi : PySem.W.findIn K (.ref C) m = some (some (.ref f))) (fn : PySem.W.isFn K (.ref f) = true)
    (l : K.lookup f = some ⟨oc, od, .func (PySem.W.fnOf m qual (defArgs st) (defBody st) (defScope st) .none kV doc pm an cdv ct), osl⟩) (cd : PySem.W.codeIn K cdv qual = true) (kp : PySem.W.keepIn K (.ref f) = true) : MethAt K nm m qual st :=
  ⟨C, f, oc, od, an, osl, kV, doc, pm, cdv, ct, a, fi, fn, l, cd, kp⟩
end
end L3

set_option Elab.async false
set_option maxRecDepth 100000
set_option maxHeartbeats 4000000
/-! L3, part u: the least, the greatest of a list of ints; sorted. -/
namespace L3
open PySem PySem.Spec PyProof.Rows L2
section
variable {X : Cx} {B : Base3}
end
end L3

set_option Elab.async false
set_option maxRecDepth 100000
set_option maxHeartbeats 4000000
/-! L3, part v: t[::-1] of a tuple. -/
namespace L3
open PySem PySem.Spec PyProof.Rows L2 HT
section
variable {prog : Program} {w : World} {A : Around} {E : Value → Shared → Prop} {s : Shared}
end
section
variable {X : Cx}
end
end L3

set_option Elab.async false
set_option maxRecDepth 100000
set_option maxHeartbeats 4000000
/-! L3, part w: enumerate of a tuple. -/
namespace L3
open PySem PySem.Spec PyProof.Rows L2
section
variable {X : Cx} {B : Base3} {K : PySem.W.Frag}
end
end L3

set_option Elab.async false
set_option maxRecDepth 100000
set_option maxHeartbeats 4000000
/-! L3, part x: list(range(..)), tuple(range(..)); another name of a def. -/
namespace L3
open PySem PySem.Spec PyProof.Rows L2
section
variable {X : Cx} {B : Base3}
end
end L3

set_option Elab.async false
set_option maxRecDepth 100000
set_option maxHeartbeats 4000000
/-! L3, part y: zip of any number of lists and tuples: walked, as a value under a name; repr of plain things. -/
namespace L3
open PySem PySem.Spec PyProof.Rows L2
section
variable {K : PySem.W.Frag} {F : Hp}
theorem RepLs.length : ∀ {dss : List (List D)} {css : List ZN.CS}, RepLs K F dss css → dss.length = css.length
  | _, _, .nil => rfl
  | _, _, .cons _ _ t => congrArg (· + 1) (RepLs.length t)
theorem RepLs.sq : ∀ {dss : List (List D)} {css : List ZN.CS}, RepLs K F dss css → ∀ c ∈ css, ZN.SqK K c.k F c.a c.xs
  | _, _, .nil => fun c h => (nomatch h)
  | _, _, .cons h1 _ t => fun c h => by
    rcases List.mem_cons.mp h with e | h
    · rw [e]; exact h1
    · exact RepLs.sq t c h
end
section
variable {X : Cx} {B : Base3} {K : PySem.W.Frag}
end
end L3

set_option Elab.async false
set_option maxRecDepth 100000
set_option maxHeartbeats 4000000
/-! XS: an own exception over a built-in one whose __init__ says super().__init__(text) and then self.f = v: made, and raised. -/
namespace XS
open PySem PySem.W PySem.Calls PyProof.Rows PySem.HandSPX Builtin Builtin.ObjectAttr
/-- what is known of the built-in class B, whose __new__ is L's -/
structure EBX (B L newId initId : String) (bm : List Value) : Prop where
  ends : newId.endsWith ".__new__" = true
  owner : newId.dropRight 8 = L
  entry : entryFor table newId = some Builtin.«BaseException.__new__»
  canon : Manifest.canonical newId = Manifest.canonical "BaseException.__new__"
  quiet : newId.startsWith "lifetime." = false
  newSplit : splitId newId = some (L, "__new__")
  newKind : builtinKind newId = some .builtinFn
  newRow : Manifest.signature? newId = some ⟨.any, L, L, .cls, [⟨"args", .varPos, false⟩, ⟨"kwargs", .varKw, false⟩]⟩
  starL : (L != "*") = true
  hasL : bm.contains (.type L) = true
  noAttr : bm.contains (.type "AttributeError") = false
  noName : bm.contains (.type "NameError") = false
  init : Slot B "__init__" initId
  initEntry : entryFor table initId = some Builtin.«BaseException.__init__»
  initKind : builtinKind initId = some .slot
  initRow : Manifest.signature? initId = some ⟨.positional, "*", B, .self, [⟨"args", .varPos, false⟩]⟩
  noStar : (B != "*") = true
structure EBE (B newId initId : String) (bm : List Value) : Prop where
  ex : ∃ L, EBX B L newId initId bm
theorem EBE.of {B newId initId : String} {bm : List Value} (F : ExcBaseFacts B newId initId bm) : EBE B newId initId bm :=
  ⟨B, F.ends, F.owner, F.entry, F.canon, F.quiet, F.newSplit, F.newKind, F.newRow, F.noStar, F.hasB, F.noAttr, F.noName, F.init, F.initEntry, F.initKind, F.initRow, F.noStar⟩
/-- what is known of the built-in class B -/
structure BaseX (B i newId : String) (bmB : List Value) : Prop where
  kf : KxsFacts B i
  fb : EBE B newId i bmB
  sf : StoreFacts B bmB "object.__setattr__" "object"
/-! ### such a class is called: the __new__ that stands with L, then the own __init__ -/
section
variable {M : Model} {prog : Program} {w : World} {A : Around} {E : Value → Shared → Prop} {R : Result → Shared → Prop} {hp : Heap} {gs : Array GenState} {dr : Drawn} {tk : Nat} {os : OsState}
variable {nm q : Str} {C N : Addr} {bs bm bmB : List Value} {hdct : Bool} {sn : List Str} {sub : List Value} {ab : Bool} {col : Option Bool} {dd : Option Addr} {k0 k1 k2 k3 k5 : Option Value} {B L newId i : String}
abbrev Alt (bm bmB : List Value) : Prop := ∀ X : String, bm.contains (.type X) = bmB.contains (.type X)
theorem Alt.has {bm bmB : List Value} (z : Alt bm bmB) {x : Value} {X : String} {b : Bool} (e : bmB.contains (.type X) = b) (n : (Value.type X == x) = false) : (x :: bm).contains (.type X) = b := by
  rw [List.contains_cons, n, z, e, Bool.false_or]
theorem check_newX (Z : EBX B L newId i bmB) (z : Alt bm bmB) {xs : List Value} {Q : Unit → Shared → Prop}
    (o : hp.get? C = some (excClassObj nm q C N bs bm hdct sn sub ab col dd k0 k1 k2 k3 k5 newId)) (k : Q () ⟨hp, gs, dr, tk, os⟩) : wpAny M A (checkBuiltinCall newId ⟨.ref C :: xs, []⟩) Q E ⟨hp, gs, dr, tk, os⟩ := by
  have e1 := z.has (x := .ref C) Z.hasL rfl; have e2 := Z.starL
  simp only [checkBuiltinCall, Z.newKind, Z.newRow, Z.newSplit]
  repeat (first | (refine wpAny_isSubtype_exc o ?_; rw [e1]) | refine wpAny_loadPart_at o ?_ | refine wpAny_madeBy_exc o ?_ | refine wpAny_staticBase_exc o ?_ | simp only [bne_self_eq_false, Bool.false_eq_true, if_false] | wp_step)
  exact k
theorem newX (Z : EBX B L newId i bmB) (z : Alt bm bmB) {xs : List Value} (o : hp.get? C = some (excClassObj nm q C N bs bm hdct sn sub ab col dd k0 k1 k2 k3 k5 newId)) (fit : xs.length ≤ sizeLine)
    (k : R (.ok (.ret (.ref (hp.objs.size + 1)))) ⟨(hp.push (kdv_tup xs)).push (excO C hp.objs.size), gs, dr, tk, os⟩) : codeAny (model prog w) A (.builtin newId ⟨.ref C :: xs, []⟩) R ⟨hp, gs, dr, tk, os⟩ := by
  have e0 := Z.ends; have e1 := z.has (x := .ref C) Z.hasL rfl; have e2 := z.has (x := .ref C) Z.noAttr rfl; have e3 := z.has (x := .ref C) Z.noName rfl
  have hrest := fit
  refine PySem.codeAny_builtinAt Z.entry ?_
  unfold Builtin.«BaseException.__new__»; refine PySem.wpAt_bind ?_
  show PySem.wpAt _ _ _ (PySem.stack >>= _) _ _ _
  refine PySem.wpAt_bind (PySem.wpAt_stack fun pa be => PySem.wpAt_of_wpAny ?_)
  wp_walk
  refine PySem.wpAt_of_wpAny ?_
  rw [Z.owner]
  repeat (first | with_reducible refine wpAny_loadPart_at o ?_ | with_reducible refine wpAny_madeHere_exc Z.canon o ?_ | (with_reducible refine wpAny_isSubtype_exc o ?_; first | rw [e1] | rw [e2] | rw [e3]) | wp_step)
  show R _ _
  rw [Heap.size_push]; exact k
theorem type_callX (Z : EBX B L newId i bmB) (z : Alt bm bmB) {xs : List Value} {fI : Addr} {Q : Fin → Shared → Prop} (o : hp.get? C = some (excClassObj nm q C N bs bm hdct sn sub ab col dd k0 k1 k2 k3 k5 newId))
    (li : PySem.W.Looks (model prog w) hp (typeLookup (.ref C) "__init__") (some (.ref fI))) (lb : ∀ y, PySem.W.Looks (model prog w) hp (bindSpecial (.ref fI) y) (.ref fI, [y])) (fit : xs.length ≤ sizeLine)
    (k : codeAny (model prog w) A (.call (.ref fI) ⟨.ref (hp.objs.size + 1) :: xs, []⟩) (fun r s' => match r with | .error e => E e s' | .ok (.ret v) => v = .none ∧ Q (.done (.ret (.ref (hp.objs.size + 1)))) s' | .ok _ => False)
      ⟨(hp.push (kdv_tup xs)).push (excO C hp.objs.size), gs, dr, tk, os⟩) : wpAny (model prog w) A (Builtin.«type.__call__» ⟨.ref C :: xs, []⟩) Q E ⟨hp, gs, dr, tk, os⟩ := by
  repeat (first | with_reducible refine wpAny_madeBy_exc o ?_ | with_reducible refine wpAny_loadPart_at o ?_ | wp_step)
  refine codeAny_call_builtin_code (Code.quiet_builtin _ Z.quiet) (check_newX Z z o (newX Z z o fit ?_))
  show wpAny _ _ _ _ _ _
  have up : ∀ b u, hp.get? b = some u → ((hp.push (kdv_tup xs)).push (excO C hp.objs.size)).get? b = some u := fun b u e => Heap.get?_push_of_some _ (Heap.get?_push_of_some _ e)
  have o2 := up _ _ o; have j1 := li.keeps up; have j2 := (lb (.ref (hp.objs.size + 1))).keeps up
  have there : ((hp.push (kdv_tup xs)).push (excO C hp.objs.size)).get? (hp.objs.size + 1) = some (excO C hp.objs.size) := by heap_get
  have self : (Value.ref C :: bm).contains (.ref C) = true := by rw [List.contains_cons, beq_self_eq_true, Bool.true_or]
  unfold isInstance
  repeat (first | (with_reducible refine wpAny_isSubtype_exc o2 ?_; rw [self]) | with_reducible refine wpAny_loadPart_at there ?_ | wp_step)
  show wpAny _ _ (typeLookup (.ref C) _) _ _ _
  refine j1.at (wpAny_holding (wpAny_bind (j2.at ?_)))
  refine wpAny_bind (wpAny_call (codeAny_mono k fun r s' y => ?_))
  match r, y with
  | .error e, y => exact y
  | .ok (.ret v), y =>
    obtain ⟨e, y⟩ := y
    cases e
    first
      | exact wpAny_pure (wpAny_pure y)
      | (wp_walk; exact y)
theorem callX (Z : EBX B L newId i bmB) (z : Alt bm bmB) {xs : List Value} {fI : Addr} (o : hp.get? C = some (excClassObj nm q C N bs bm hdct sn sub ab col dd k0 k1 k2 k3 k5 newId))
    (li : PySem.W.Looks (model prog w) hp (typeLookup (.ref C) "__init__") (some (.ref fI))) (lb : ∀ y, PySem.W.Looks (model prog w) hp (bindSpecial (.ref fI) y) (.ref fI, [y])) (fit : xs.length ≤ sizeLine)
    (k : codeAny (model prog w) (A.under (.builtin "type.__call__" ⟨.ref C :: xs, []⟩)) (.call (.ref fI) ⟨.ref (hp.objs.size + 1) :: xs, []⟩) (PySem.W.InitBack (hp.objs.size + 1) R) ⟨(hp.push (kdv_tup xs)).push (excO C hp.objs.size), gs, dr, tk, os⟩) :
    codeAny (model prog w) A (.call (.ref C) ⟨xs, []⟩) R ⟨hp, gs, dr, tk, os⟩ := by
  have g1 := tc_bind (.ref C); have g2 := tc_lookup
  have ty : (⟨hp, gs, dr, tk, os⟩ : Shared).TypeIs (.ref C) "type" := ⟨_, o, rfl⟩
  refine codeAny_of_tree (show wpAny _ _ (callAny (.ref C) _) _ _ _ from ?_)
  repeat (any_goals (first | with_reducible refine wpAny_loadPart_at o ?_ | assumption | wp_step))
  refine ⟨rfl, codeAny_call_builtin_at (Code.quiet_builtin _ (by decide +kernel)) entry_typeCall (wpAny_check_type_call_sub o (type_callX Z z o li lb fit (codeAny_mono k fun r s' y => ?_)))⟩
  match r, y with
  | .error e, y => exact y
  | .ok (.ret v), y => exact y
theorem check_boundX (Z : EBX B L newId i bmB) {e : Addr} {oe : Obj} {xs : List Value} {Q : Unit → Shared → Prop} (o : hp.get? C = some (excClassObj nm q C N bs bm hdct sn sub ab col dd k0 k1 k2 k3 k5 newId)) (he : hp.get? e = some oe) (hc : oe.cls = .ref C)
    (k : Q () ⟨hp, gs, dr, tk, os⟩) : wpAny M A (checkBoundCall i ⟨.ref e :: xs, []⟩) Q E ⟨hp, gs, dr, tk, os⟩ := by
  have st := Z.noStar
  simp only [checkBoundCall, Z.initRow, Z.initKind]
  repeat (first | with_reducible refine wpAny_loadPart_at o ?_ | (with_reducible refine wpAny_loadPart_at he ?_; rw [hc]) | wp_step)
  refine wpAny_onRaise ?_
  have free : ∀ (a b : String) (n : Nat), Bind.check ⟨.positional, "*", B, .self, [⟨"args", .varPos, false⟩]⟩ a b n (List.map (fun y => y.fst) ({ pos := Value.ref e :: xs } : Args).kw) = pure () := fun a b n => check_star_args _ _ _ _ _ _
  rw [free]
  exact wpAny_pure k
end
/-- the body of such an __init__ -/
def supBody (m sN vN f : Str) (j : Nat) (p0 p1 p2 p3 p4 p5 q1 q2 q3 q4 : Pos) : List Stmt :=
  [.Expr (.Call (.Attribute (.Call (.Name "super" p0) [] [] p1) "__init__" p2) [.Constant (.str m) j p3] [] p4) p5,
   .Assign [.Attribute (.Name sN q1) f q2] (.Name vN q3) q4]
/-- how the call super().__init__(text) is read in that def's frame -/
def SupEv (qual : Str) (scope : Scope) (cda cc : Addr) (m : Str) (j : Nat) (p0 p1 p2 p3 p4 : Pos) : Prop := ∀ L fI : Addr, ∃ pl : Sem Bool,
  eval (.Call (.Attribute (.Call (.Name "super" p0) [] [] p1) "__init__" p2) [.Constant (.str m) j p3] [] p4) (ksEnv qual scope L fI (.ref cda) cc) = (do
      let ov ← attributeBase (.Call (.Name "super" p0) [] [] p1) "__init__" (ksEnv qual scope L fI (.ref cda) cc) (eval (.Call (.Name "super" p0) [] [] p1) (ksEnv qual scope L fI (.ref cda) cc))
      standAt p2.atName
      let (f, first) ← holding [ov] (getMethod ov "__init__" pl)
      callWith p4 f first (backTo p4 (starEach [.Constant (.str m) j p3] (ksEnv qual scope L fI (.ref cda) cc))) [])
/-- what the written part says of the class at C, its __init__ at fI -/
structure SupTxt (prog : Program) (K : Frag) (B i newId : String) (bmB : List Value) (C fI : Addr) (f : Str) : Prop where
  bx : BaseX B i newId bmB
  cls : excInitIn K C bmB newId = true
  hd : ∃ cd, clsIn K C = some cd ∧ cd.hasDict = true
  over : excOver K C bmB = true
  sa : findIn K (.ref C) "__setattr__" = some (some (.builtin "object.__setattr__"))
  noF : findIn K (.ref C) f = some none
  tk : takerIn K C f = some none
  iC : findIn K (.ref C) "__init__" = some (some (.ref fI))
  tC : typeIn K (.ref fI) = some (.type "function")
  kC : keepIn K (.ref C) = true
  exC : subIn K (.ref C) (.type "BaseException") = some true
  tyC : typeIn K (.ref C) = some (.type "type")
  sup : ks_superIn K C C "__init__" = some (some (.builtin i))
  subB : subIn K (.ref C) (.type B) = some true
  mroC : mroIn K C (.ref C) = some true
  opq : nsIn K cStatics "thirdparty.any" = some none
  fn : ∃ (oc : Value) (od : Option Addr) (qual : Str) (params : Arguments) (scope : Scope) (doc pm : Value) (an : Option Addr) (cda : Addr) (ct : Value) (osl : Array (Option Value)) (cc : Addr) (m sN vN : Str) (j : Nat) (p0 p1 p2 p3 p4 p5 q1 q2 q3 q4 : Pos),
    K.lookup fI = some ⟨oc, od, .func (ksFn "__init__" qual params (supBody m sN vN f j p0 p1 p2 p3 p4 p5 q1 q2 q3 q4) scope .none .none doc pm an (.ref cda) ct cc), osl⟩ ∧ codeIn K (.ref cda) qual = true ∧
    (∀ u v : Value, bindArgs (ksFn "__init__" qual params (supBody m sN vN f j p0 p1 p2 p3 p4 p5 q1 q2 q3 q4) scope .none .none doc pm an (.ref cda) ct cc) ⟨[u, v], []⟩ = pure [(sN, u), (vN, v)]) ∧
    (params.posonlyargs ++ params.args).head?.map (·.arg) = some sN ∧ sN ≠ vN ∧ scope.kind = .function ∧ scope.isCoroutine = false ∧ scope.isGenerator = false ∧ (∀ x ∈ scope.names, x.2 ≠ .cell) ∧
    scope.names.lookup sN = some .local ∧ scope.names.lookup vN = some .local ∧ scope.names.lookup ("super" : Str) = some .globalImplicit ∧ scope.names.lookup ("__class__" : Str) = some .free ∧
    (sN == ("__debug__" : Str)) = false ∧ (vN == ("__debug__" : Str)) = false ∧
    (∃ cl cld csl, K.lookup cc = some ⟨cl, cld, .cell (some (.ref C)), csl⟩) ∧
    (∃ ccl cdd vs ccs file tf, K.lookup cda = some ⟨ccl, cdd, .fields vs, ccs⟩ ∧ vs[2]? = some (.str file tf) ∧ ((prog.main.file : Str) == file) = true) ∧ SupEv qual scope cda cc m j p0 p1 p2 p3 p4
  htop : (prog.main.scope.names.lookup ("super" : Str)).isSome = false
/-- what __init__ leaves of a fresh exception at x -/
structure InitEnd (h h' : Heap) (x C dx : Addr) (f : Str) (v : Value) : Prop where
  keep : ∀ b o, b ≠ x → h.get? b = some o → h'.get? b = some o
  obj : ∃ t1 : Addr, h'.get? x = some { cls := .ref C, dict := some dx, data := .fields #[.ref t1, .none, .none, .none, .bool false, .none] }
  dbig : h.objs.size ≤ dx
  dne : dx ≠ x
  ns : h'.Ns1 dx (fun y => if y = f then some v else none)
section
variable {prog : Program} {w : World} {A : Around} {E : Value → Shared → Prop} {R : Result → Shared → Prop} {K : Frag} {C fI : Addr} {B i newId : String} {bmB : List Value} {f : Str}
variable {h : Heap} {g : Array GenState} {d : Drawn} {t : Nat} {os : OsState}
/-- the call of the bound built-in __init__ -/
theorem call_mw (T : SupTxt prog K B i newId bmB C fI f) {u e t0 : Addr} {rest : List Value} {Q : Value → Shared → Prop} (X : K.In h) (he : h.get? e = some (excO C t0)) (hu : h.get? u = some (kxs_mw i e)) (hrest : rest.length ≤ sizeLine)
    (hq : ∀ h' t1, (∀ b o, b ≠ e → h.get? b = some o → h'.get? b = some o) → h'.get? e = some (excO C t1) → Q .none ⟨h', g, d, t, os⟩) :
    wpAny (model prog w) A (call (.ref u) rest) Q E ⟨h, g, d, t, os⟩ := by
  obtain ⟨nm, N', qn, bs, bm, hdct, sn, sub, ab, col, dd, k0, k1, k2, k3, k5, hC, hT⟩ := excInit_of X T.cls
  refine wpAny_call (codeAny_of_tree ?_)
  show wpAny _ A.in1 (callAny (.ref u) ⟨rest, []⟩) _ _ _
  simp only [callAny]
  refine wpAny_bind (wpAny_load hu ?_)
  simp only [kxs_mw, show (Value.type "method-wrapper" == Value.type "method" || Value.type "method-wrapper" == Value.type "builtin_function_or_method" || Value.type "method-wrapper" == Value.type "method-wrapper") = true by decide, if_true]
  refine KFB.if_so (by decide) ?_
  refine wpAny_bind (check_boundX T.bx.fb.ex.choose_spec hC he rfl ?_)
  refine wpAny_bind (wpAny_pure (wpAny_pure ?_))
  refine ⟨plainId_quiet T.bx.fb.ex.choose_spec.init.plain _, codeAny_builtin T.bx.fb.ex.choose_spec.initEntry ?_⟩
  exact exc_init_tree (cls := .ref C) (t0 := t0) (dv := none) (c2 := .none) (c3 := .none) (b4 := .bool false) he hrest fun h' a b _ => hq h' _ a b
/-- self.f = v on a fresh exception -/
theorem osa_sup (T : SupTxt prog K B i newId bmB C fI f) {tk : Tok} {v : Value} {x : Addr} {fv : Array Value}
    (X : K.In h) (hx : h.get? x = some { cls := .ref C, data := .fields fv })
    (hq : ∀ h' tk' dx, (∀ b o, b ≠ x → h.get? b = some o → h'.get? b = some o) → h.objs.size ≤ dx → dx ≠ x → h'.get? x = some { cls := .ref C, dict := some dx, data := .fields fv } →
      h'.Ns1 dx (fun y => if y = f then some v else none) → R (.ok (.ret .none)) ⟨h', g, d, tk', os⟩) :
    codeAny (model prog w) A (.call (.builtin "object.__setattr__") ⟨[.ref x, .str f tk, v], []⟩) R ⟨h, g, d, t, os⟩ := by
  have I : W.InstAt h x { cls := .ref C, data := .fields fv } C none := ⟨hx, rfl, rfl, trivial⟩
  have hxs : x ≠ h.objs.size := Nat.ne_of_lt (Heap.lt_size hx)
  obtain ⟨cd, hcd, hh⟩ := T.hd
  refine osa_openX T.bx.sf X I T.over T.tk fun b => ?_
  have hcls : W.Looks (model prog w) h (classData C) cd := W.looks_clsIn X hcd
  obtain ⟨nm, bs, mro, ns, qn, hd, sn, sb, ab, col, del⟩ := cd
  dsimp only at hh
  subst hh
  dsimp only
  unfold storeInOwnDict Builtin.ObjectAttr.ownDictForStores
  repeat (first | with_reducible refine HandSPX.store_in_new ?_ ?_ | with_reducible refine wpAny_loadPart_at hx ?_ | with_reducible refine hcls.at ?_ | wp_step)
  · exact ⟨_, #[], _, (Heap.get?_update_ne _ _ _ _ hxs.symm).trans (Heap.get?_push_at rfl rfl), rfl, fun e he => absurd he (by simp), fun _ => rfl⟩
  · intro h' tk' hn' hs
    have hx₁ : (h.push { cls := .type "dict", data := .dict #[] }).get? x = some { cls := .ref C, data := .fields fv } := Heap.get?_push_of_some _ hx
    refine hq h' tk' h.objs.size (fun b o hb ho => ?_) (Nat.le_refl _) hxs.symm ?_ hn'
    · exact (hs.2 b (Nat.ne_of_lt (Heap.lt_size ho))).trans ((Heap.get?_update_ne _ _ _ _ hb).trans (Heap.get?_push_of_some _ ho))
    · exact (hs.2 x hxs).trans (Heap.get?_update_self _ hx₁ rfl)
end
section
variable {prog : Program} {w : World} {A : Around} {E : Value → Shared → Prop} {R : Result → Shared → Prop} {s : Shared} {K : Frag} {C fI : Addr} {B i newId : String} {bmB : List Value} {f : Str} {mg mb : Str → Option Value}
theorem sup_init (T : SupTxt prog K B i newId bmB C fI f) {x t0 : Addr} {v : Value} (X : K.In s.heap) (G : s.heap.Ns mainGlobals mg) (hms : mg "super" = none) (Gb : s.heap.Ns builtinsNs mb) (hbs : mb "super" = some (.type "super")) (hlim : s.heap.NoLimit)
    (hx : s.heap.get? x = some (excO C t0)) (hnx : K.lookup x = none) (hroom : A.depth < recursionLimit)
    (hq : ∀ h' tk dx, InitEnd s.heap h' x C dx f v → R (.ok (.ret .none)) { s with heap := h', toks := tk }) :
    codeAny (model prog w) A (.call (.ref fI) ⟨[.ref x, v], []⟩) R s := by
  obtain ⟨oc, od, qual, params, scope, doc, pm, an, cda, ct, osl, cc, m, sN, vN, j, p0, p1, p2, p3, p4, p5, q1, q2, q3, q4, ho, hcd, hbind, hpar, hne, hk, hco, hgen, hcell, hsN, hvN, hsu, hcl, hd1, hd2, ⟨cl, cld, csl, hcc⟩, ⟨ccl, cdd, vs, ccs, file, tf, hcda, hvs, hfile⟩, hev⟩ := T.fn
  obtain ⟨cd, hcd2, hhd⟩ := T.hd
  refine ks_codeAny_call_defAt (fd := ksFn "__init__" qual params (supBody m sN vN f j p0 p1 p2 p3 p4 p5 q1 q2 q3 q4) scope .none .none doc pm an (.ref cda) ct cc) (body := supBody m sN vN f j p0 p1 p2 p3 p4 p5 q1 q2 q3 q4) (binds := [(sN, .ref x), (vN, v)]) hroom (X _ _ ho) rfl hlim (codeRec_of X hcd) rfl (BindsTo.of_eq (hbind _ _)) hcell ?hloc (fun h₁ hns kp => ?_) hco hgen hk
  case hloc =>
    intro y hy
    rcases List.mem_cons.mp hy with e | hy
    · rw [e]; exact hsN
    · rcases List.mem_cons.mp hy with e | hy
      · rw [e]; exact hvN
      · cases hy
  have xlt : x < s.heap.objs.size := Heap.lt_size hx
  have hx₁ := kp _ _ hx
  have X₁ : K.In h₁ := X.keeps kp
  have hxC : x ≠ C := fun z => by
    unfold clsIn at hcd2
    split at hcd2
    · rename_i c' d' cd' sl' ho'
      rw [← z, hnx] at ho'
      cases ho'
    · cases hcd2
  obtain ⟨oD, hD1, hD2⟩ : ∃ oD, h₁.get? C = some oD ∧ oD.data = .cls cd := by
    unfold clsIn at hcd2
    split at hcd2
    · rename_i c' d' cd' sl' ho'
      cases hcd2
      exact ⟨_, X₁ _ _ ho', rfl⟩
    · cases hcd2
  obtain ⟨ar, har, hars⟩ := Option.map_eq_some_iff.mp hpar
  have lk1 : ([(sN, Value.ref x), (vN, v)] : List (Str × Value)).reverse.lookup sN = some (.ref x) := by
    have q : (sN == vN) = false := by simpa using hne
    simp [List.lookup, q]
  have lk2 : ([(sN, Value.ref x), (vN, v)] : List (Str × Value)).reverse.lookup vN = some v := by simp [List.lookup]
  show _root_.PySem.wpAt (model prog w) (A.deeper (ksEnv qual scope s.heap.objs.size fI (.ref cda) cc)) (.func _ (ksEnv qual scope s.heap.objs.size fI (.ref cda) cc)) (execs (supBody m sN vN f j p0 p1 p2 p3 p4 p5 q1 q2 q3 q4) (ksEnv qual scope s.heap.objs.size fI (.ref cda) cc)) _ _ _
  obtain ⟨pl, hev⟩ := hev s.heap.objs.size fI
  refine ks_wpAt_execs_cons (ks_wpAt_Expr_any (ks_wpAt_MethodCall (pl := pl) ?_ hev) (by unfold interactive; rw [show (ksEnv qual scope s.heap.objs.size fI (.ref cda) cc).scope.kind = .function from hk]; rfl))
  refine ks_wpAt_super_base hsu hcl (by decide) rfl (X₁ _ _ ho) rfl har rfl (X₁ _ _ hcda) rfl hvs hfile T.htop ?_
  refine ks_loadName_global hk hsu (loadGlobal_builtin (env := ksEnv qual scope s.heap.objs.size fI (.ref cda) cc) (G.keeps kp) hms (Gb.keeps kp) hbs ⟨rfl, ?_⟩)
  refine wpAny_loadName_free hk hcl rfl ⟨_, X₁ _ _ hcc, rfl⟩ ?_
  refine wpAny_loadName_local hk (by rw [hars]; exact hsN) hns (by rw [hars]; exact lk1) ?_
  refine ks_wpAny_isType_cls hD1 hD2 ⟨rfl, ?_⟩
  refine ks_wpAny_call_super hD1 hD2 hx₁ rfl (fun c e => nomatch e) (looks_mroIn X₁ T.mroC) (fun h₂ e₂ k₂ => ?_)
  have X₂ : K.In h₂ := X₁.keeps k₂
  have hsup := T.sup
  unfold ks_superIn at hsup
  rw [hcd2] at hsup
  have hx₂ := k₂ _ _ hx₁
  have hI : W.Looks (model prog w) h₂ (isInstance (.ref x) (.type B)) true := (show W.InstAt h₂ x (excO C t0) C none from ⟨hx₂, rfl, rfl, trivial⟩).type.andThen (looks_subIn X₂ T.subB)
  refine kxs_getMethod T.bx.kf e₂ (looks_opaque X₂ T.opq) (l₀ := cd.mro) (fun A Q E s k q => wpAny_bind ((looks_clsIn X₂ hcd2) A _ E s k (wpAny_pure q))) rfl X₂ hsup hI hxC (by decide) ?_
  refine kxs_callWith (i := i) (x := x) rfl ?_
  refine evalArgs_plain ?_
  show wpAny _ _ (spliced ((false, eval (.Constant (.str m) j p3) (ksEnv qual scope s.heap.objs.size fI (.ref cda) cc)) :: backTo p4 (starEach [] (ksEnv qual scope s.heap.objs.size fI (.ref cda) cc)))) _ _ _
  refine Calls.spliced_cons (wpAny_Constant_str ?_)
  refine Calls.spliced_nil ?_
  have k₃ : ∀ b o, h₂.get? b = some o → (h₂.push (kxs_mw i x)).get? b = some o := fun b o e => Heap.get?_push_of_some _ e
  refine ⟨Heap.get?_push_size _ rfl, ?_⟩
  refine call_mw T (X₂.keeps k₃) (k₃ _ _ hx₂) (Heap.get?_push_size _ rfl) (by show 1 ≤ sizeLine; rw [sizeLine_eq]; omega) fun h₄ t1 k₄ hx₄ => ?_
  have xL : s.heap.objs.size ≠ x := Nat.ne_of_gt xlt
  have k14 : ∀ b o, b ≠ x → h₁.get? b = some o → h₄.get? b = some o := fun b o hb e => k₄ b o hb (k₃ _ _ (k₂ _ _ e))
  have hn₄ : h₄.Ns s.heap.objs.size (fun y => ([(sN, Value.ref x), (vN, v)] : List (Str × Value)).reverse.lookup y) := hns.at fun o e => k14 _ o xL e
  have X₄ : K.In h₄ := fun b o e => k14 b o (fun z => by rw [z, hnx] at e; cases e) (X₁ b o e)
  refine ks_wpAt_execs_cons (ks_wpAt_Assign_Attr ?_)
  refine wpAt_of_wpAny ?_
  refine wpAny_Name (wpAny_loadName_local hk hvN hn₄ lk2 ?_) hd2
  refine wpAny_Name (wpAny_loadName_local hk hsN hn₄ lk1 ?_) hd1
  refine set_plain (od := none) X₄ ⟨hx₄, rfl, rfl, trivial⟩ T.sa ?_
  refine osa_sup T X₄ hx₄ fun h₅ tk dx k₅ dn dne hx₅ hn₅ => ?_
  refine wpAt_of_wpAny (wpAny_execs_nil ?_)
  exact hq h₅ tk dx ⟨fun b o hb e => k₅ b o hb (k14 b o hb (kp b o e)), ⟨t1, hx₅⟩, Nat.le_of_lt (Nat.lt_of_lt_of_le hn₄.lt dn), dne, hn₅⟩
/-- a made exception -/
structure OwnMade (h h' : Heap) (e C d : Addr) (f : Str) (v : Value) : Prop where
  keep : ∀ b o, h.get? b = some o → h'.get? b = some o
  new : h.objs.size ≤ e
  obj : ∃ oe vs, h'.get? e = some oe ∧ oe.cls = .ref C ∧ oe.dict = some d ∧ oe.data = .fields vs ∧ vs[1]? = some .none
  dbig : h.objs.size ≤ d
  dne : d ≠ e
  ns : h'.Ns1 d (fun y => if y = f then some v else none)
theorem sup_made (T : SupTxt prog K B i newId bmB C fI f) {v : Value} (X : K.In s.heap) (G : s.heap.Ns mainGlobals mg) (hms : mg "super" = none) (Gb : s.heap.Ns builtinsNs mb) (hbs : mb "super" = some (.type "super")) (hlim : s.heap.NoLimit)
    (hroom : A.depth + 1 < recursionLimit)
    (hq : ∀ h' tk e d, OwnMade s.heap h' e C d f v → R (.ok (.ret (.ref e))) { s with heap := h', toks := tk }) :
    codeAny (model prog w) A (.call (.ref C) ⟨[v], []⟩) R s := by
  obtain ⟨nm, N', qn, bs, bm, hdct, sn, sub, ab, col, dd, k0, k1, k2, k3, k5, hC, hT⟩ := excInit_of X T.cls
  obtain ⟨hp, g, dr, tk, os⟩ := s
  have k : ∀ b o, hp.get? b = some o → ((hp.push (kdv_tup [v])).push (excO C hp.objs.size)).get? b = some o := fun b o e => Heap.get?_push_of_some _ (Heap.get?_push_of_some _ e)
  have hget : ((hp.push (kdv_tup [v])).push (excO C hp.objs.size)).get? (hp.objs.size + 1) = some (excO C hp.objs.size) := by heap_get
  have hnx : K.lookup (hp.objs.size + 1) = none := by
    cases e : K.lookup (hp.objs.size + 1) with
    | none => rfl
    | some o =>
      have z : hp.get? (hp.objs.size + 1) = some o := X _ _ e
      exact absurd (Nat.lt_of_succ_lt (Heap.lt_size z)) (Nat.lt_irrefl _)
  refine callX T.bx.fb.ex.choose_spec hT hC (looks_findIn X T.iC) (fun self => bind_fn X self T.tC) (by show 1 ≤ sizeLine; rw [sizeLine_eq]; omega) ?_
  refine sup_init (mg := mg) (mb := mb) (s := ⟨(hp.push (kdv_tup [v])).push (excO C hp.objs.size), g, dr, tk, os⟩) T (X.keeps k) (G.keeps k) hms (Gb.keeps k) hbs (hlim.keeps k) hget hnx ?_ fun h' tk' dx ⟨k', hx, dn, dne, hns⟩ => ?_
  · show A.depth + 1 < recursionLimit
    exact hroom
  · have old : ∀ b o, hp.get? b = some o → h'.get? b = some o := fun b o e => k' b o (Nat.ne_of_lt (Nat.lt_succ_of_lt (Heap.lt_size e))) (k b o e)
    have z : hp.objs.size + 1 + 1 ≤ dx := by
      first
        | (simpa only [Heap.size_push] using dn)
        | exact dn
        | (have q := dn; rw [Heap.size_push, Heap.size_push] at q; exact q)
    obtain ⟨t1, hx⟩ := hx
    exact ⟨rfl, hq h' tk' (hp.objs.size + 1) dx ⟨old, Nat.le_succ _, ⟨_, _, hx, rfl, rfl, rfl, rfl⟩, Nat.le_trans (Nat.le_trans (Nat.le_succ _) (Nat.le_succ _)) z, dne, hns⟩⟩
end
end XS
namespace XS
open PySem PySem.Spec PyProof.Rows L2
theorem relO_one {v : V} {v' : Value} (r : RelV v v') (f g : Str) : RelO (List.lookup g [(f, v)]) (if g = f then some v' else none) := by
  by_cases hw : g = f
  · subst hw
    rw [if_pos rfl]
    have q : List.lookup g [(g, v)] = some v := by simp [List.lookup]
    rw [q]
    exact r
  · rw [if_neg hw]
    have qw : (g == f) = false := by simpa using hw
    have q2 : List.lookup g [(f, v)] = none := by simp [List.lookup, qw]
    rw [q2]
    trivial
section
variable {X : Cx} {C fI : Addr} {B i newId : String} {bmB : List Value} {f : Str}
/-- x(e) -/
def tMkS (C : Addr) (f : Str) (ta : TA) : L2.St → Hp → XK → Prop := fun σ H Q => ta σ H fun vs H1 => ∃ v, vs = [v] ∧ ∀ d, H1 d = none → Q (.ref C) (some d) (upd H1 d (.xd [(f, v)]))
theorem pmk_sup {x : Str} {a : Expr} {ta : TA} {p pos : Pos} {k : Nat} (T : SupTxt X.prog X.K B i newId bmB C fI f) (gC : X.mg x = some (.ref C)) (hms : X.mg "super" = none) (hr : Room k X.A) (ha : PA X [a] ta) (hg : Gl X x) (hdb : (x == ("__debug__" : Str)) = false := by decide)
    (he : starEach (a :: []) X.env = (false, eval a X.env) :: starEach [] X.env := by rfl) (hpl : (backTo pos (starEach [] X.env)).any (·.1) = false := by rfl) :
    PMk X (.Call (.Name x p) [a] [] pos) (tMkS C f ta) := by
  intro pins s σ H Q I h
  refine wpAny_Call_Name_kw (ld_glob I hg gC ?_ hdb)
  refine PySem.W.callWith_K (h₀ := X.base) I.ok.mod.kin T.kC (thn (ha.run pos pins s σ H _ I h) fun us s1 hh => ?_) he hpl
  obtain ⟨vs, H1, I1, r1, v, ev, q1⟩ := hh
  subst ev
  refine ⟨I1.kIn, ?_⟩
  cases r1 with
  | cons rv rn =>
    rename_i v' us'
    cases rn
    show wpAny _ _ (call (.ref C) [v']) _ _ _
    have hlim := I1.nolimit
    obtain ⟨mb, b1, b2⟩ := I1.mod.blt
    have G1 : s1.heap.Ns mainGlobals X.mg := I1.mod.glob.keeps I1.bk
    have Gb : s1.heap.Ns builtinsNs mb := b1.keeps I1.bk
    have hbs : mb "super" = some (.type "super") := (b2 "super" (by decide)).trans (by first | boot_by_name | rfl | kernel_rfl)
    obtain ⟨hp, g, dr, tk, os⟩ := s1
    refine wpAny_call (sup_made (s := ⟨hp, g, dr, tk, os⟩) T I1.kIn G1 hms Gb hbs hlim (by have := hr.dp; omega) fun h' tk' e d M => ?_)
    show MkP X pins σ Q (.ref e) ⟨h', g, dr, tk', os⟩
    obtain ⟨oe, fv, hoe, hc, hd, hdat, h1⟩ := M.obj
    have hns := M.ns
    obtain ⟨G', g1, g2⟩ := restrict h' fun b => decide (b ≠ e)
    have gk : ∀ b, b ≠ e → G'.get? b = h'.get? b := fun b hb => g1 b (decide_eq_true hb)
    have ge : G'.get? e = none := g2 e (by simp)
    have old : ∀ b o, hp.get? b = some o → G'.get? b = some o := fun b o q => (gk b (Nat.ne_of_lt (Nat.lt_of_lt_of_le (Heap.lt_size q) M.new))).trans (M.keep b o q)
    have ob : ObjOk X.prog X.w (upd H1 d (.xd [(f, v)])) G' d (.xd [(f, v)]) :=
      ⟨_, hns.at (fun o q => (gk d M.dne).trans q), fun g => relO_one rv f g⟩
    have J : Inv X pins σ (upd H1 d (.xd [(f, v)])) ⟨G', g, dr, tk', os⟩ := I1.laid (t' := tk') old M.dbig ob
    refine ⟨e, oe, fv, ⟨G', g, dr, tk', os⟩, _, .ref C, some d, rfl, J, fun b o q => ?_, ge, hoe, ⟨hc, hd⟩, hdat, h1, ?_, rfl, I1.bare, raises_own T.exC T.tyC, q1 d (I1.hok.fresh M.dbig)⟩
    · by_cases hb : b = e
      · have q' : G'.get? b = some o := q
        rw [hb, ge] at q'; cases q'
      · exact (gk b hb).symm.trans q
    · rw [upd_ne (Ne.symm M.dne)]
      exact I1.hok.fresh M.new
end
end XS

set_option Elab.async false
set_option maxRecDepth 100000
set_option maxHeartbeats 4000000
/-! XT: try with several except clauses, each with or without a name. -/
namespace XT
open PySem PySem.Spec PyProof.Rows L2
/-- a clause: the class, the slot of its name, what its suite makes -/
abbrev Cl := Value × Option Nat × (Addr → Value → Option Addr → TS)
def wMix (K : PySem.W.Frag) (Wout : WX) (D : Ends) : List Cl → WX
  | [] => Wout
  | (c, none, ts) :: r => fun cls d σ H => ∃ b, PySem.W.exmOne K cls c = some b ∧ (b = true → ∀ a, H a = none → ts a cls d D σ H) ∧ (b = false → wMix K Wout D r cls d σ H)
  | (c, some i, ts) :: r => fun cls d σ H => ∃ b, PySem.W.exmOne K cls c = some b ∧
      (b = true → ∀ a, H a = none → ts a cls d { nx := fun σ' H' => D.nx (σ'.set i none) H', rt := D.rt, bk := fun σ' H' => D.bk (σ'.set i none) H', ct := fun σ' H' => D.ct (σ'.set i none) H' } (σ.set i (some (.ref a))) H) ∧ (b = false → wMix K Wout D r cls d σ H)
inductive HdsMix (X : Cx) : List ExceptHandler → List Cl → Prop
  | nil : HdsMix X [] []
  | cons {x : Str} {c : Value} {ts : Addr → Value → Option Addr → TS} {b₀ : Stmt} {suite : List Stmt} {np pos' : Pos} {hds : List ExceptHandler} {l : List Cl} (hc : Names X x c)
      (hsu : ∀ (a : Addr) (oe : Obj) (cls : Value) (d : Option Addr) (pn : List (Addr × Obj)), Zc cls d oe → (∃ vs, oe.data = .fields vs) → PSs (X.suite a ((a, oe) :: pn)) (b₀ :: suite) (ts a cls d)) (r : HdsMix X hds l) :
      HdsMix X (.ExceptHandler (some (.Name x np)) none (b₀ :: suite) pos' :: hds) ((c, none, ts) :: l)
  | as {x n : Str} {c : Value} {i : Nat} {ts : Addr → Value → Option Addr → TS} {b₀ : Stmt} {suite : List Stmt} {np pos' : Pos} {hds : List ExceptHandler} {l : List Cl} (hc : Names X x c) (hN : X.N.Nodup) (hi : X.N[i]? = some n) (hln : X.env.kindOf n = some .local)
      (hsu : ∀ (a : Addr) (oe : Obj) (cls : Value) (d : Option Addr) (pn : List (Addr × Obj)), Zc cls d oe → (∃ vs, oe.data = .fields vs) → PSs (X.suite a ((a, oe) :: pn)) (b₀ :: suite) (ts a cls d)) (r : HdsMix X hds l) :
      HdsMix X (.ExceptHandler (some (.Name x np)) (some n) (b₀ :: suite) pos' :: hds) ((c, some i, ts) :: l)
section
variable {X : Cx} {body : List Stmt} {h₀ : ExceptHandler} {hds : List ExceptHandler} {l : List Cl} {pos : Pos} {tb : WX → TS} {Wout : WX}
theorem ps_try_mix (hs : X.stack = X.env :: X.outer) (hf : X.env.frame = some X.env.locals) (tk : Takes X Wout)
    (hb : ∀ (W : WX) (pn : List (Addr × Obj)) (xe : Value → Shared → Prop), Takes (X.tr pn xe) W → PassesOwn (model X.prog X.w) X.A X.env xe → PSs (X.tr pn xe) body (tb W))
    (hh : HdsMix X (h₀ :: hds) l) : PS X (.Try body (h₀ :: hds) [] [] pos) (fun D σ H => tb (wMix X.K Wout D l) D σ H) := by
  refine ⟨fun pins s σ H D I h => ?_⟩
  have ok := I.ok
  have hfr : X.A.frames = some (X.env :: X.outer) := by rw [ok.frames, hs]
  refine wpAny_Try_except ?_
  refine wpAny_mono ((hb (wMix X.K Wout D l) (X.pn ++ pins) (fun e s₁ => wpAny (model X.prog X.w) X.A (noteFrame e X.env) (fun _ s₂ => wpAny (model X.prog X.w) X.A (setFlight e none) (fun _ s₃ =>
    wpAny (model X.prog X.w) X.A (handleBy e X.env (h₀ :: hds)) (SP X pins D) X.xe s₃) X.xe s₂) X.xe s₁) (fun u s' xx => ?_) PassesOwn.looking).run [] s σ H D (I.toTry _) h) (fun f s1 hsp => ?_) (fun e s1 he => he)
  · obtain ⟨a, B, sI, pins', σ', H', cls, d, rfl, J', nb, up, sky, na, os, ag, w⟩ := xx
    have J : Inv X pins σ' H' sI := J'.ofTry ok
    have sky' : Sky B (X.env :: X.outer) a (Zc cls d) X.env.locals s'.heap := by rw [← hs]; exact sky
    show wpAny (model X.prog X.w) X.A (noteFrame (.ref a) X.env) _ _ _
    refine Sky.land Zc.steady hfr hf sky' fun h3 fl3 up3 => ?_
    have J3 : Inv X pins σ' H' { s' with heap := h3 } := J.landed nb fl3.1 (up.trans up3) os ag
    obtain ⟨oe3, vs3, he3, hz3, hd3⟩ := fl3.there
    have notFr : ∀ {h : Heap} {o : Obj} {vs : Array Value}, h.FunFrames B (X.env :: X.outer) → h.get? a = some o → o.data = .fields vs → a ∉ frs (X.env :: X.outer) := fun {h o vs} ff e dd hm => by
      obtain ⟨_, o', e', hnf⟩ := ff.mem hm
      rw [e] at e'; cases e'
      exact hnf _ dd
    have nfr := notFr fl3.2.2.1 he3 hd3
    have nL : a ≠ X.env.locals := fun z => nfr (List.mem_filterMap.mpr ⟨X.env, List.mem_cons_self, by rw [hf, z]⟩)
    have nF : a ∉ X.fs := fun hm => by
      obtain ⟨e, he, q⟩ := List.mem_filterMap.mp hm
      exact nfr (List.mem_filterMap.mpr ⟨e, List.mem_cons_of_mem _ he, q⟩)
    have S3 := J3.suite he3 hd3 na nL nF
    have test : ∀ {x : Str} {c : Value} {np : Pos}, Names X x c → ∀ {Q : Value → Shared → Prop} {E : Value → Shared → Prop}, Q c { s' with heap := h3 } → wpAny (model X.prog X.w) (X.A.mark (some (.ref a))) (eval (.Name x np) X.env) Q E { s' with heap := h3 } := fun {x c np} hc {Q E} q => by
      obtain ⟨hg, hdbg, hm | ⟨hm, hv, hnn⟩⟩ := hc
      · exact ld_glob (X := X.suite a ((a, oe3) :: (X.pn ++ pins))) S3 hg hm q hdbg
      · exact ld_blt (X := X.suite a ((a, oe3) :: (X.pn ++ pins))) S3 hg hm hv q hnn hdbg
    have LT : ∀ {c : Value}, PySem.W.Looks (model X.prog X.w) h3 (typeOf (.ref a)) cls := fun {c} A Q E s k q => wpAny_typeOf_ref (k _ _ he3) (by rw [hz3.1]; exact q)
    have go : ∀ {hds' : List ExceptHandler} {l' : List Cl}, HdsMix X hds' l' → wMix X.K Wout D l' cls d σ' H' →
        wpAny (model X.prog X.w) X.A (handleBy (.ref a) X.env hds') (SP X pins D) X.xe { s' with heap := h3 } := by
      intro hds' l' hk
      induction hk with
      | nil =>
        intro w
        refine wpAny_handleBy_nil ?_
        obtain ⟨k1, k2, k3, oe, vs, T, oT, ts', he, hz, hd, h1, hr⟩ := id fl3
        unfold PySem.passOn
        refine wpAny_bind (wpAny_field he hd h1 ?_)
        rw [if_neg (show ¬ ((Value.ref T == Value.none) = true) from by simp)]
        have fin : wpAny (model X.prog X.w) X.A (setFlight (.ref a) X.env.frame) (fun _ s4 => wpAny (model X.prog X.w) X.A (throw (.ref a) : Sem Flow) (SP X pins D) X.xe s4) X.xe { s' with heap := h3 } := by
          rw [hf]
          refine HandSPX.setFlight_upZ fl3 fun h4 hh4 up4 => wpAny_throw (tk _ _ ?_)
          exact ⟨a, B, sI, pins, σ', H', cls, d, rfl, J, nb, (up.trans up3).trans up4, .inr (.inr (by rw [hs]; exact hh4)), na, os, ag, w⟩
        first
          | exact wpAny_bind (wpAny_pure (wpAny_bind fin))
          | exact wpAny_bind fin
      | @cons x c ts b₀ suite np pos' hds2 l2 hc hsu r ih =>
        intro w
        obtain ⟨b, hb1, hyes, hno⟩ := w
        refine wpAny_handleBy_cons (codeAny_handlers_test ?_) (by intro q; cases q)
        have LM := PySem.W.exm_one (M := model X.prog X.w) (J3.kIn) (LT (c := c)) hb1
        refine test hc (LM.here ?_)
        cases b with
        | true =>
          refine codeAny_handlers_suite ?_
          refine HandSPX.lands_againZ fl3 fun h4 fl4 up4 => ?_
          have J4 : Inv X pins σ' H' { s' with heap := h4 } := J.landed nb fl4.1 ((up.trans up3).trans up4) os ag
          obtain ⟨oe4, vs4, he4, hz4, hd4⟩ := fl4.there
          have S4 := J4.suite he4 hd4 na nL nF
          refine wpAny_mono ((hsu a oe4 cls d (X.pn ++ pins) hz4 ⟨_, hd4⟩).run [] _ _ H' _ S4 (hyes rfl a na)) (fun f s6 hsp => ?_) (fun _ _ z => False.elim z)
          cases f with
          | next =>
            obtain ⟨σ6, H6, S6, q6⟩ := hsp
            exact ⟨_, _, S6.unsuite ok, q6⟩
          | brk =>
            obtain ⟨σ6, H6, S6, q6⟩ := hsp
            exact ⟨_, _, S6.unsuite ok, q6⟩
          | cont =>
            obtain ⟨σ6, H6, S6, q6⟩ := hsp
            exact ⟨_, _, S6.unsuite ok, q6⟩
          | ret u =>
            obtain ⟨v6, σ6, H6, S6, r6, q6⟩ := hsp
            exact ⟨_, _, _, S6.unsuite ok, r6, q6⟩
        | false =>
          show wpAny _ X.A (handleBy (.ref a) X.env hds2) _ _ _
          exact ih (hno rfl)
      | @as x n c i ts b₀ suite np pos' hds2 l2 hc hN hi hln hsu r ih =>
        intro w
        obtain ⟨b, hb1, hyes, hno⟩ := w
        have hloc : Loc X.env.scope n := .inl hln
        refine wpAny_handleBy_cons (codeAny_handlers_test ?_) (by intro q; cases q)
        have LM := PySem.W.exm_one (M := model X.prog X.w) (J3.kIn) (LT (c := c)) hb1
        refine test hc (LM.here ?_)
        cases b with
        | true =>
          refine codeAny_handlers_suite_as ?_
          refine HandSPX.lands_againZ fl3 fun h4 fl4 up4 => ?_
          have J4 : Inv X pins σ' H' { s' with heap := h4 } := J.landed nb fl4.1 ((up.trans up3).trans up4) os ag
          obtain ⟨oe4, vs4, he4, hz4, hd4⟩ := fl4.there
          have S4 := J4.suite he4 hd4 na nL nF
          refine store_ok (X := X.suite a ((a, oe4) :: (X.pn ++ pins))) (v := .ref a) S4 hN hi hloc rfl (fun s5 S5 => ?_) (.inr hln)
          refine wpAny_mono ((hsu a oe4 cls d (X.pn ++ pins) hz4 ⟨_, hd4⟩).run [] s5 _ H' _ S5 (hyes rfl a na)) (fun f s6 hsp => ?_) (fun _ _ z => False.elim z)
          have end_ : ∀ {σ6 : L2.St} {H6 : Hp} {Q : Shared → Prop}, Inv (X.suite a ((a, oe4) :: (X.pn ++ pins))) [] σ6 H6 s6 → (∀ s7, Inv X pins (σ6.set i none) H6 s7 → Q s7) →
              wpAny (model X.prog X.w) X.A (do bindName X.env n .none; unbindBehindTheSuite X.env n pos') (fun _ s7 => Q s7) X.xe s6 := fun {σ6 H6 Q} S6 hq => gone_ok (S6.unsuite ok) hN hi hln hq
          cases f with
          | next =>
            obtain ⟨σ6, H6, S6, q6⟩ := hsp
            exact end_ S6 fun s7 J7 => ⟨_, _, J7, q6⟩
          | brk =>
            obtain ⟨σ6, H6, S6, q6⟩ := hsp
            exact end_ S6 fun s7 J7 => ⟨_, _, J7, q6⟩
          | cont =>
            obtain ⟨σ6, H6, S6, q6⟩ := hsp
            exact end_ S6 fun s7 J7 => ⟨_, _, J7, q6⟩
          | ret u =>
            obtain ⟨v6, σ6, H6, S6, r6, q6⟩ := hsp
            exact end_ S6 fun s7 J7 => ⟨_, _, _, J7, r6, q6⟩
        | false =>
          show wpAny _ X.A (handleBy (.ref a) X.env hds2) _ _ _
          exact ih (hno rfl)
    exact go hh w
  · cases f with
    | next =>
      obtain ⟨σ', H', J', q⟩ := hsp
      exact wpAny_execs_nil ⟨σ', H', J'.ofTry ok, q⟩
    | brk =>
      obtain ⟨σ', H', J', q⟩ := hsp
      exact ⟨σ', H', J'.ofTry ok, q⟩
    | cont =>
      obtain ⟨σ', H', J', q⟩ := hsp
      exact ⟨σ', H', J'.ofTry ok, q⟩
    | ret u =>
      obtain ⟨v, σ', H', J', r, q⟩ := hsp
      exact ⟨v, σ', H', J'.ofTry ok, r, q⟩
end
end XT

set_option Elab.async false
set_option maxRecDepth 100000
set_option maxHeartbeats 4000000
/-! L3, part z: exceptions: raise, try, methods and new instances that may raise. -/
namespace L3
open PySem PySem.Spec PyProof.Rows L2
/-! ### a wider base -/
section
variable {K : PySem.W.Frag} {B : Base3} {pn pn0 : Pend} {F F0 H H0 : Hp} {σ σ0 : L2.St} {E E0 : Env3} {G G0 : Reg}
theorem St3.inB (S : St3 K B pn F H σ E G) : St3 K { B with F := F } pn F H σ E G :=
  ⟨S.w, Same.refl F, S.keepH, fun a o h ht n => n, S.regs, S.regk, S.len, S.slot, fun i s d h ho => by obtain ⟨a, e, f⟩ := S.own i s d h ho; exact ⟨a, e, f.nF, f.nB, f.nG, f.nP, f.ex⟩, S.ownd, S.pend, S.pnd, S.news⟩
theorem St3.ofB (S0 : St3 K B pn0 F0 H0 σ0 E0 G0) (S : St3 K { B with F := F0 } pn F H σ E G) : St3 K B pn F H σ E G ∧ Same F0 F :=
  ⟨⟨S.w, S0.keepF.trans S.keepF, S.keepH, fun a o h ht n => S.unfr a o h ht (S0.unfr a o h ht n), S.regs, S.regk, S.len, S.slot, fun i s d h ho => by obtain ⟨a, e, f⟩ := S.own i s d h ho; exact ⟨a, e, f.nF, f.nB, f.nG, f.nP, f.ex⟩, S.ownd, S.pend, S.pnd, S.news⟩, S.keepF⟩
end
/-! ### raise -/
/-- the class x of the text, without own __init__ -/
structure Own0 (K : PySem.W.Frag) (mg : Str → Option Value) (x : Str) : Prop where
  ex : ∃ (C : Addr) (B newId initId : String) (bmB : List Value), ClsN K x C ∧ mg x = some (.ref C) ∧ ExcBaseFacts B newId initId bmB ∧ PySem.W.excIn K C bmB newId = true ∧ PySem.W.keepIn K (.ref C) = true ∧
    PySem.W.subIn K (.ref C) (.type "BaseException") = some true ∧ PySem.W.typeIn K (.ref C) = some (.type "type")
/-- the class x of the text, whose __init__ keeps its argument as f -/
structure Own1 (prog : Program) (K : PySem.W.Frag) (mg : Str → Option Value) (x f : Str) : Prop where
  ex : ∃ (C fI : Addr) (B i newId : String) (bmB : List Value), ClsN K x C ∧ mg x = some (.ref C) ∧ mg "super" = none ∧ XS.SupTxt prog K B i newId bmB C fI f
def dRaise (dw : DW) (nm : Str) : DSt := fun _ E G => dw (nm, none) E G
def dRaise1 (dw : DW) (nm f : Str) (ta : DA) : DSt := fun _ E G => ta E G fun ds E1 G1 => ∃ d, ds = [d] ∧ dw (nm, some (f, d)) E1 G1
section
variable {X : Cx} {B : Base3}
theorem ls_raise {dw : DW} {x m : Str} {j : Nat} {p p2 pos pos2 : Pos} (hc : X.calm = true) (o : Own0 X.K X.mg x) (wk : WOk X B dw) (hg : Gl X x) (hdb : (x == ("__debug__" : Str)) = false := by decide) :
    LS X B (.Raise (some (.Call (.Name x p) [.Constant (.str m) j p2] [] pos)) none pos2) (dRaise dw x) := by
  obtain ⟨C, Bn, newId, initId, bmB, hC, gC, F, q, kC, e1, e2⟩ := o.ex
  obtain ⟨W, tk, hW⟩ := wk
  exact ⟨ps_imp (ps_raise hc tk (pmk_own F q gC kC (raises_own e1 e2) hg hdb)) fun D σ H ⟨pn, F, E, G, D3, S, h, ok⟩ => hW pn F H σ E G (x, none) (.ref C) none S ⟨⟨C, hC, rfl⟩, trivial⟩ h⟩
theorem ls_raise1 {dw : DW} {x f : Str} {a : Expr} {ta : DA} {k : Nat} {p pos pos2 : Pos} (hc : X.calm = true) (o : Own1 X.prog X.K X.mg x f) (hr : Room k X.A) (wk : WOk X B dw) (ha : LA X B [a] ta) (hg : Gl X x) (hdb : (x == ("__debug__" : Str)) = false := by decide)
    (he : starEach (a :: []) X.env = (false, eval a X.env) :: starEach [] X.env := by rfl) (hpl : (backTo pos (starEach [] X.env)).any (·.1) = false := by rfl) :
    LS X B (.Raise (some (.Call (.Name x p) [a] [] pos)) none pos2) (dRaise1 dw x f ta) := by
  obtain ⟨C, fI, Bn, i, newId, bmB, hC, gC, ms, T⟩ := o.ex
  obtain ⟨W, tk, hW⟩ := wk
  refine ⟨ps_imp (ps_raise hc tk (XS.pmk_sup (ta := LiftA X.K B ta) T gC ms hr ha.pa hg hdb he hpl)) fun D σ H ⟨pn, F, E, G, D3, S, h, ok⟩ => ?_⟩
  refine ⟨pn, F, E, G, _, S, h, fun ds E1 G1 ⟨d, e, h1⟩ vs F1 H1 S1 s1 r1 => ?_⟩
  subst e
  cases r1 with
  | @cons _ _ v _ r1 r2 =>
    cases r2
    refine ⟨v, rfl, fun dd hd => ?_⟩
    obtain ⟨S2, s2⟩ := S1.newF (o := .xd [(f, v)]) hd
    exact hW pn _ _ σ E1 G1 (x, some (f, d)) (.ref C) (some dd) S2 ⟨⟨C, hC, rfl⟩, dd, v, rfl, upd_same, Rep.mono s2 _ _ r1⟩ h1
end
end L3

set_option Elab.async false
set_option maxRecDepth 100000
set_option maxHeartbeats 4000000
/-! L3, part z2: try with except clauses; the field of a caught exception. -/
namespace L3
open PySem PySem.Spec PyProof.Rows L2
/-- a clause: the class's name, the slot of the clause's name, what its suite makes of the exception -/
abbrev Cl3 := Str × Option Nat × (Addr → Exc3 → DSt)
def hRd (em : List ((Str × Str) × Bool)) (out : DW) (D : Ends3) : List Cl3 → DW
  | [] => out
  | (c, none, ts) :: r => fun x E G => ∃ b, em.lookup (x.1, c) = some b ∧ if b = true then ∀ a, ts a x D E G else hRd em out D r x E G
  | (c, some i, ts) :: r => fun x E G => ∃ b, em.lookup (x.1, c) = some b ∧ if b = true then i < E.length ∧ ∀ a, ts a x { nx := fun E' G' => D.nx (E'.set i Sl3.no) G', rt := D.rt, bk := fun E' G' => D.bk (E'.set i Sl3.no) G', ct := fun E' G' => D.ct (E'.set i Sl3.no) G' } (E.set i (Sl3.val (.ref a))) G
      else hRd em out D r x E G
def dTry (em : List ((Str × Str) × Bool)) (out : DW) (tb : DW → DSt) (hs : List Cl3) : DSt := fun D E G => tb (hRd em out D hs) D E G
/-- which clause takes which class -/
def EmT (K : PySem.W.Frag) (em : List ((Str × Str) × Bool)) : Prop := ∀ n1 n2 b, em.lookup (n1, n2) = some b → ∀ C1 C2, ClsN K n1 C1 → ClsN K n2 C2 → PySem.W.exmOne K (.ref C1) (.ref C2) = some b
structure Em3 (K : PySem.W.Frag) (n1 n2 : Str) (b : Bool) : Prop where
  ex : ∃ C1 C2, ClsN K n1 C1 ∧ ClsN K n2 C2 ∧ PySem.W.exmOne K (.ref C1) (.ref C2) = some b
theorem emT_nil {K : PySem.W.Frag} : EmT K [] := fun _ _ _ h => by cases h
theorem emT_cons {K : PySem.W.Frag} {n1 n2 : Str} {b : Bool} {em : List ((Str × Str) × Bool)} (h : Em3 K n1 n2 b) (t : EmT K em) : EmT K (((n1, n2), b) :: em) := fun m1 m2 c hl D1 D2 h1 h2 => by
  by_cases q : (m1, m2) = (n1, n2)
  · cases q
    have : c = b := by simpa [List.lookup] using hl.symm
    subst this
    obtain ⟨C1, C2, g1, g2, e⟩ := h.ex
    cases h1.eq g1
    cases h2.eq g2
    exact e
  · rw [List.lookup_cons, show ((m1, m2) == (n1, n2)) = false from beq_eq_false_iff_ne.mpr q] at hl
    exact t _ _ _ hl _ _ h1 h2
/-- a name goes -/
theorem St3.dropSlot {K : PySem.W.Frag} {B : Base3} {pn : Pend} {F H : Hp} {σ : L2.St} {E : Env3} {G : Reg} (S : St3 K B pn F H σ E G) (i : Nat) : St3 K B pn F H (σ.set i none) (E.set i Sl3.no) G := by
  have S2 := S.forget i
  have go : ∀ {j : Nat} {s : Sl3}, s ≠ Sl3.no → (E.set i Sl3.no)[j]? = some s → (σ.set i none)[j]? = σ[j]? := fun {j s} hs h => by
    rcases set_look h with ⟨q, z⟩ | ⟨ne, z⟩
    · exact absurd z hs
    · exact List.getElem?_set_ne ne
  exact ⟨S2.w, S2.keepF, S2.keepH, S2.unfr, S2.regs, S2.regk, by rw [List.length_set, List.length_set]; exact S.len,
    fun j d h => by rw [go (s := Sl3.val d) (fun q => nomatch q) h]; exact S2.slot j d h, fun j s d h ho => by rw [go (s := s) (fun q => by subst q; cases ho) h]; exact S2.own j s d h ho,
    fun j k s t d e a h1 h2 o1 o2 h3 h4 => S2.ownd j k s t d e a h1 h2 o1 o2 (by rw [← go (s := s) (fun q => by subst q; cases o1) h1]; exact h3) (by rw [← go (s := t) (fun q => by subst q; cases o2) h2]; exact h4), S2.pend, S2.pnd,
    fun nm fs h => by rw [go (s := Sl3.new nm fs) (fun q => nomatch q) h]; exact S2.news nm fs h⟩
section
variable {X : Cx} {B : Base3}
/-- what a suite makes, among abstract heaps -/
def tsL (K : PySem.W.Frag) (B : Base3) (ts : Addr → Exc3 → DSt) : Addr → Value → Option Addr → TS := fun a cls d D σ H => ∃ pn F E G D3 x, St3 K B pn F H σ E G ∧ RepX K F x cls d ∧ ts a x D3 E G ∧ EndsOk K B F D3 D
theorem EndsOk.inB {K : PySem.W.Frag} {pn0 : Pend} {F H : Hp} {σ : L2.St} {E : Env3} {G : Reg} (S0 : St3 K B pn0 F H σ E G) {D3 : Ends3} {D : Ends} (h : EndsOk K B F D3 D) : EndsOk K { B with F := F } F D3 D :=
  ⟨fun E' G' q σ' F' H' S s => h.nx E' G' q σ' F' H' (S0.ofB S).1 s, fun r G' q v F' H' σ' E' S s rr => h.rt r G' q v F' H' σ' E' (S0.ofB S).1 s (by
      cases r with
      | val d => exact rr
      | fr ds => obtain ⟨a, e, f⟩ := rr; exact ⟨a, e, f.nF, f.nB, f.nG, f.nP, f.ex⟩
      | frD ds => obtain ⟨a, e, f⟩ := rr; exact ⟨a, e, f.nF, f.nB, f.nG, f.nP, f.ex⟩
      | sl i => exact rr),
    fun E' G' q σ' F' H' S s => h.bk E' G' q σ' F' H' (S0.ofB S).1 s, fun E' G' q σ' F' H' S s => h.ct E' G' q σ' F' H' (S0.ofB S).1 s⟩
/-- the clauses -/
inductive Hds3 (X : Cx) (B : Base3) : List ExceptHandler → List Cl3 → Prop
  | nil : Hds3 X B [] []
  | cons {x : Str} {ts : Addr → Exc3 → DSt} {b₀ : Stmt} {suite : List Stmt} {np pos' : Pos} {hds : List ExceptHandler} {l : List Cl3} (hc : ∃ C, ClsN X.K x C ∧ X.mg x = some (.ref C)) (hg : Gl X x) (hdb : (x == ("__debug__" : Str)) = false)
      (hsu : ∀ (a : Addr) (oe : Obj) (x : Exc3) (cls : Value) (d : Option Addr) (pn : List (Addr × Obj)) (B' : Base3), Zc cls d oe → (∃ vs, oe.data = .fields vs) → RepX X.K B'.F x cls d → LSs (X.suite a ((a, oe) :: pn)) B' (b₀ :: suite) (ts a x)) (r : Hds3 X B hds l) :
      Hds3 X B (.ExceptHandler (some (.Name x np)) none (b₀ :: suite) pos' :: hds) ((x, none, ts) :: l)
  | as {x n : Str} {i : Nat} {ts : Addr → Exc3 → DSt} {b₀ : Stmt} {suite : List Stmt} {np pos' : Pos} {hds : List ExceptHandler} {l : List Cl3} (hc : ∃ C, ClsN X.K x C ∧ X.mg x = some (.ref C)) (hg : Gl X x) (hdb : (x == ("__debug__" : Str)) = false)
      (hN : X.N.Nodup) (hi : X.N[i]? = some n) (hln : X.env.kindOf n = some .local)
      (hsu : ∀ (a : Addr) (oe : Obj) (x : Exc3) (cls : Value) (d : Option Addr) (pn : List (Addr × Obj)) (B' : Base3), Zc cls d oe → (∃ vs, oe.data = .fields vs) → RepX X.K B'.F x cls d → LSs (X.suite a ((a, oe) :: pn)) B' (b₀ :: suite) (ts a x)) (r : Hds3 X B hds l) :
      Hds3 X B (.ExceptHandler (some (.Name x np)) (some n) (b₀ :: suite) pos' :: hds) ((x, some i, ts) :: l)
/-- the clauses, as the hand layer's -/
inductive Cls3 (K : PySem.W.Frag) (B : Base3) : List Cl3 → List XT.Cl → Prop
  | nil : Cls3 K B [] []
  | cons {x : Str} {C : Addr} {o : Option Nat} {ts : Addr → Exc3 → DSt} {l : List Cl3} {m : List XT.Cl} : ClsN K x C → Cls3 K B l m → Cls3 K B ((x, o, ts) :: l) ((.ref C, o, tsL K B ts) :: m)
theorem Hds3.mix {hds : List ExceptHandler} {l : List Cl3} (h : Hds3 X B hds l) : ∃ m, XT.HdsMix X hds m ∧ Cls3 X.K B l m := by
  induction h with
  | nil => exact ⟨[], .nil, .nil⟩
  | @cons x ts b₀ suite np pos' hds l hc hg hdb hsu r ih =>
    obtain ⟨m, h1, h2⟩ := ih
    obtain ⟨C, hC, hm⟩ := hc
    refine ⟨(.ref C, none, tsL X.K B ts) :: m, .cons ⟨hg, hdb, .inl hm⟩ (fun a oe cls d pn hz hf => ?_) h1, .cons hC h2⟩
    refine ⟨fun pins s σ H D I ⟨pn', F, E, G, D3, x', S, hx, ht, ok⟩ => ?_⟩
    exact (hsu a oe x' cls d pn { B with F := F } hz hf hx).pss.run pins s σ H D I ⟨pn', F, E, G, D3, S.inB, ht, ok.inB S⟩
  | @as x n i ts b₀ suite np pos' hds l hc hg hdb hN hi hln hsu r ih =>
    obtain ⟨m, h1, h2⟩ := ih
    obtain ⟨C, hC, hm⟩ := hc
    refine ⟨(.ref C, some i, tsL X.K B ts) :: m, .as ⟨hg, hdb, .inl hm⟩ hN hi hln (fun a oe cls d pn hz hf => ?_) h1, .cons hC h2⟩
    refine ⟨fun pins s σ H D I ⟨pn', F, E, G, D3, x', S, hx, ht, ok⟩ => ?_⟩
    exact (hsu a oe x' cls d pn { B with F := F } hz hf hx).pss.run pins s σ H D I ⟨pn', F, E, G, D3, S.inB, ht, ok.inB S⟩
/-- an exception's reading, through the clauses -/
theorem hRd_ok {K : PySem.W.Frag} {em : List ((Str × Str) × Bool)} (hem : EmT K em) {out : DW} {Wout : WX} (hout : ∀ pn F H σ E G x cls dd, St3 K B pn F H σ E G → RepX K F x cls dd → out x E G → Wout cls dd σ H) {D3 : Ends3} {D : Ends} :
    ∀ {l : List Cl3} {m : List XT.Cl}, Cls3 K B l m → ∀ {pn : Pend} {F H : Hp} {σ : L2.St} {E : Env3} {G : Reg} {x : Exc3} {cls : Value} {dd : Option Addr}, St3 K B pn F H σ E G → RepX K F x cls dd → EndsOk K B F D3 D → hRd em out D3 l x E G → XT.wMix K Wout D m cls dd σ H
  | _, _, .nil, pn, F, H, σ, E, G, x, cls, dd, S, rx, ok, h => hout _ _ _ _ _ _ _ _ _ S rx h
  | _, _, .cons (o := none) (ts := ts) hC r, pn, F, H, σ, E, G, x, cls, dd, S, rx, ok, h => by
    obtain ⟨b, hl, h⟩ := h
    obtain ⟨⟨C1, hC1, rfl⟩, _⟩ := id rx
    refine ⟨b, hem _ _ _ hl _ _ hC1 hC, fun hb a _ => ?_, fun hb => ?_⟩
    · rw [if_pos hb] at h
      exact ⟨pn, F, E, G, D3, x, S, rx, h a, ok⟩
    · rw [if_neg (by rw [hb]; exact Bool.false_ne_true)] at h
      exact hRd_ok hem hout r S rx ok h
  | _, _, .cons (o := some i) (ts := ts) hC r, pn, F, H, σ, E, G, x, cls, dd, S, rx, ok, h => by
    obtain ⟨b, hl, h⟩ := h
    obtain ⟨⟨C1, hC1, rfl⟩, _⟩ := id rx
    refine ⟨b, hem _ _ _ hl _ _ hC1 hC, fun hb a _ => ?_, fun hb => ?_⟩
    · rw [if_pos hb] at h
      obtain ⟨hi, h⟩ := h
      have hi' : i < σ.length := by rw [← S.len]; exact hi
      refine ⟨pn, F, E.set i (.val (.ref a)), G, _, x, S.setVal hi' (.ref a), rx, h a, ⟨fun E' G' q σ' F' H' S' s => ?_, fun r G' q v F' H' σ' E' S' s rr => ok.rt r G' q v F' H' σ' E' S' s rr, fun E' G' q σ' F' H' S' s => ?_, fun E' G' q σ' F' H' S' s => ?_⟩⟩
      · exact ok.nx _ _ q _ _ _ (S'.dropSlot i) s
      · exact ok.bk _ _ q _ _ _ (S'.dropSlot i) s
      · exact ok.ct _ _ q _ _ _ (S'.dropSlot i) s
    · rw [if_neg (by rw [hb]; exact Bool.false_ne_true)] at h
      exact hRd_ok hem hout r S rx ok h
/-- THE RULE for a try with except clauses -/
theorem ls_try {em : List ((Str × Str) × Bool)} {out : DW} {tb : DW → DSt} {body : List Stmt} {h₀ : ExceptHandler} {hds : List ExceptHandler} {l : List Cl3} {pos : Pos} (hem : EmT X.K em) (hs : X.stack = X.env :: X.outer) (hf : X.env.frame = some X.env.locals) (wk : WOk X B out)
    (hb : ∀ (B' : Base3) (pn : List (Addr × Obj)) (xe : Value → Shared → Prop) (dw : DW), PassesOwn (model X.prog X.w) X.A X.env xe → WOk (X.tr pn xe) B' dw → LSs (X.tr pn xe) B' body (tb dw)) (hh : Hds3 X B (h₀ :: hds) l) :
    LS X B (.Try body (h₀ :: hds) [] [] pos) (dTry em out tb l) := by
  obtain ⟨W, tk, hW⟩ := wk
  obtain ⟨m, hm1, hm2⟩ := hh.mix
  refine ⟨ps_imp (XT.ps_try_mix hs hf tk (tb := fun W D σ H => ∃ pn F E G D3 dw, St3 X.K B pn F H σ E G ∧ tb dw D3 E G ∧ EndsOk X.K B F D3 D ∧ (∀ pn' F' H' σ' E' G' x cls dd, St3 X.K { B with F := F } pn' F' H' σ' E' G' → RepX X.K F' x cls dd → dw x E' G' → W cls dd σ' H')) (fun W pn xe tk' hp => ?_) hm1) fun D σ H ⟨pn, F, E, G, D3, S, h, ok⟩ => ?_⟩
  · refine ⟨fun pins s σ H D I ⟨pn', F, E, G, D3, dw, S, ht, ok, hw⟩ => ?_⟩
    exact (hb { B with F := F } pn xe dw hp ⟨W, tk', hw⟩).pss.run pins s σ H D I ⟨pn', F, E, G, D3, S.inB, ht, ok.inB S⟩
  · refine ⟨pn, F, E, G, D3, _, S, h, ok, fun pn' F' H' σ' E' G' x cls dd S' rx hx => ?_⟩
    obtain ⟨S'', s⟩ := S.ofB S'
    exact hRd_ok hem hW hm2 S'' rx (ok.mono s) hx
/-- the field of the caught exception -/
def dXf (xt : List (Str × Str)) (a : Addr) (x : Exc3) (f : Str) (te : DE) : DE := fun E G k => (x.1, f) ∈ xt ∧ te E G fun r E1 G1 => r.get E1 = some (.ref a) ∧ ∃ d, x.2 = some (f, d) ∧ k (.val d) E1 G1
def XfT (K : PySem.W.Frag) (xt : List (Str × Str)) : Prop := ∀ p ∈ xt, ∀ C, ClsN K p.1 C → XfC K C ∧ PySem.W.findIn K (.ref C) p.2 = some none
structure Xf3 (K : PySem.W.Frag) (n f : Str) : Prop where
  ex : ∃ C, ClsN K n C ∧ XfC K C ∧ PySem.W.findIn K (.ref C) f = some none
theorem xfT_nil {K : PySem.W.Frag} : XfT K [] := fun _ h => by cases h
theorem xfT_cons {K : PySem.W.Frag} {n f : Str} {xt : List (Str × Str)} (h : Xf3 K n f) (t : XfT K xt) : XfT K ((n, f) :: xt) := fun p hp C hC => by
  rcases List.mem_cons.mp hp with e | hp
  · subst e
    obtain ⟨C1, g1, g2⟩ := h.ex
    cases hC.eq g1
    exact g2
  · exact t p hp C hC
theorem le_xf {xt : List (Str × Str)} (hxt : XfT X.K xt) {a : Addr} {oe : Obj} {x : Exc3} {cls : Value} {d : Option Addr} {pn : List (Addr × Obj)} {e : Expr} {te : DE} {f : Str} {pos : Pos} (hz : Zc cls d oe) (hf : ∃ vs, oe.data = .fields vs) (hx : RepX X.K B.F x cls d)
    (he : LE (X.suite a ((a, oe) :: pn)) B e te) (hb : attributeBase e f X.env (eval e X.env) = eval e X.env := by rfl) :
    LE (X.suite a ((a, oe) :: pn)) B (.Attribute e f pos) (dXf xt a x f te) := by
  obtain ⟨⟨C, hC, rfl⟩, h2⟩ := hx
  by_cases hm : (x.1, f) ∈ xt
  · obtain ⟨T, hno⟩ := hxt _ hm C hC
    refine ⟨pe_imp (pe_xf T hno hz hf he.pe hb) fun σ H Q ⟨pn', F, E, G, k, S, ⟨_, ht⟩, hk⟩ => ⟨pn', F, E, G, _, S, ht, fun r E1 G1 ⟨h1, dd, h3, h4⟩ v F1 H1 S1 s1 r1 => ?_⟩⟩
    rw [h3] at h2
    obtain ⟨b, u, e1, e2, e3⟩ := h2
    have rv : RepH X.K F1 H1 (.ref a) v := S1.getH r1 h1
    have rv2 := rv.val (fun _ q => nomatch q)
    cases rv2
    refine ⟨rfl, rfl, b, _, u, e1, S1.w.sub _ _ (S1.keepF _ _ e2), ?_, hk _ _ _ h4 u F1 H1 S1 s1 (Rep.mono S1.keepF _ _ e3)⟩
    simp [List.lookup]
  · exact ⟨pe_imp (t := fun _ _ _ => False) ⟨fun _ _ _ _ _ _ z => z.elim⟩ fun σ H Q ⟨pn', F, E, G, k, S, ⟨z, _⟩, hk⟩ => hm z⟩
end
end L3

set_option Elab.async false
set_option maxRecDepth 100000
set_option maxHeartbeats 4000000
/-! XL: a lambda handed to a def, its table told outright: the heap behind the making is the one ahead of it, or that with one more code object. -/
namespace XL
open PySem PySem.Spec PyProof.Rows L2 LamX
/-- the heap behind the making; c': the lambda's code object -/
inductive Grown (H : Hp) (P : Addr) (q : Str) (ps : Array Value) (c' : Addr) : Hp → Prop
  | same : H c' = some (CodeO c' q) → Grown H P q ps c' H
  | more {ms : Array Value} : H c' = none → TriplesOk (ps ++ ms).toList → (∀ (pos : Pos) (cv : Value), codeAmong pos (ps ++ ms).toList = some cv → codeAmong pos ps.toList = some cv ∨ cv = .ref c') → Grown H P q ps c' (upd (upd H P (.tbl (ps ++ ms))) c' (CodeO c' q))
theorem Grown.code {H H1 : Hp} {P c' : Addr} {q : Str} {ps : Array Value} (g : Grown H P q ps c' H1) : H1 c' = some (CodeO c' q) := by
  cases g with
  | same h => exact h
  | more _ _ _ => exact upd_same
section
variable {X : Cx} {pins : List (Addr × Obj)} {σ : L2.St} {H : Hp} {s : Shared}
end
section
variable {X : Cx}
end
end XL

set_option Elab.async false
set_option maxRecDepth 100000
set_option maxHeartbeats 4000000
/-! XG: promises of defs that are called where no repr is under way (A.guards = []); the end of a law's row over such a promise, with tables of code objects. -/
namespace XG
open PySem PySem.Spec PyProof.Rows L2 LamX
/-- FnOk, where no repr is under way -/
structure FnG (P : Program) (w : World) (K : PySem.W.Frag) (mg : Str → Option Value) (base : Heap) (CX : CXT) (k : Nat) (f : Addr) (fd : FuncData) (ps : List Str) (sp : Sp) : Prop where
  len : ∀ vs H Q E, sp vs H Q E → vs.length = ps.length
  run : ∀ (A : Around) (outer : List Env) (s : Shared) (H : Hp) (args : Args) (us : List Value) (vs : List V) (Q : VK) (E : XK), A.guards = some [] → Room k A → Env0 P w K mg base A outer s H → BindsTo s fd args (ps.zip us) → Vals vs us → sp vs H Q E →
    codeAny (model P w) A (.call (.ref f) args) (CR CX outer P w H s Q E) s
theorem FnG.of {P : Program} {w : World} {K : PySem.W.Frag} {mg : Str → Option Value} {base : Heap} {CX : CXT} {k : Nat} {f : Addr} {fd : FuncData} {ps : List Str} {sp : Sp} (F : FnOk P w K mg base CX k f fd ps sp) : FnG P w K mg base CX k f fd ps sp :=
  ⟨F.len, fun A outer s H args us vs Q E _ hr e0 hb r h => F.run A outer s H args us vs Q E hr e0 hb r h⟩
section
variable {X : Cx} {CX : CXT} {k : Nat} {f : Addr} {fd : FuncData} {ps : List Str} {sp : Sp} {E : L2.St → XK} {x : Str} {p pos : Pos} {e : Expr} {es : List Expr} {t : TA}
/-- its call -/
theorem pe_callG (F : FnG X.prog X.w X.K X.mg X.base CX k f fd ps sp) (hgd : X.A.guards = some []) (hr : Room k X.A) (hg : Gl X x) (hm : X.mg x = some (.ref f)) (hk : PySem.W.keepIn X.K (.ref f) = true) (hb : Binds X.K fd ps []) (hx : ∀ σ, PassesAt CX X σ (E σ))
    (ha : PA X (e :: es) t) (hdb : (x == ("__debug__" : Str)) = false := by decide) (he : starEach (e :: es) X.env = (false, eval e X.env) :: starEach es X.env := by rfl) (hpl : (backTo pos (starEach es X.env)).any (·.1) = false := by rfl) :
    PE X (.Call (.Name x p) (e :: es) [] pos) (tCallS sp E t) := by
  refine ⟨fun pins s σ H Q I h => wpAny_Call_Name_kw (ld_glob I hg hm (PySem.W.callWith_K (h₀ := X.base) I.ok.mod.kin hk (thn (ha.run pos pins s σ H _ I h) fun us s1 ⟨vs, H1, J, r, q⟩ => ⟨J.kIn, ?_⟩) he hpl) hdb)⟩
  have lu : us.length = ps.length := r.length.symm.trans (F.len _ _ _ _ q)
  have b := hb s1 us J.kIn (by rw [List.append_nil]; exact lu)
  rw [List.append_nil] at b
  refine wpAny_call (codeAny_mono (F.run X.A X.stack s1 H1 ⟨us, []⟩ us vs Q (E σ) hgd hr J.env0 b r q) fun res s2 hq => ?_)
  rcases res with err | (_ | _ | _ | u)
  · exact hx σ pins H1 s1 err s2 J hq
  · exact False.elim hq
  · exact False.elim hq
  · exact False.elim hq
  · exact J.after hq
end
/-! ### the end -/
/-- what the law's call begins with: its script, the tables of code objects -/
def H₀ (K : PySem.W.Frag) (a : Addr) (vs : List Value) (ns : List Int) (ts : List Addr) : Hp := fun b =>
  if b ∈ ts then some (.tbl #[]) else if b = a ∧ K.lookup a = none then some (.frz { cls := .type "list", data := .seq vs.toArray } (.lst (ns.map V.int))) else none
section
variable {P : Program} {w : World} {K : PySem.W.Frag} {mg mb : Str → Option Value} {CX : CXT} {k : Nat} {fa a : Addr} {cs : List (Addr × Addr)} {fd : FuncData} {x : Str} {sp : Sp} {s₁ : Shared} {vs : List Value} {ns : List Int}
theorem law_end (KX : K.In s₁.heap) (hns : s₁.heap.Ns mainGlobals mg) (hb : s₁.heap.Ns builtinsNs mb) (hbb : ∀ x : Str, x ≠ "__name__" → mb x = bootBuiltins x) (hlim : s₁.heap.NoLimit) (hg : s₁.gens = #[])
    (hT : ∀ p ∈ cs, s₁.heap.get? p.2 = some { cls := .none, data := .fields #[] }) (nT : ∀ p ∈ cs, K.lookup p.2 = none) (C : ∀ p ∈ cs, PySem.W.CodeHd s₁.heap p.1 p.2)
    (hbm : ∃ (bm : Addr) (ob : Obj), mg "__builtins__" = some (.ref bm) ∧ bm ≠ builtinsNs ∧ s₁.heap.get? bm = some ob ∧ ob.cls = .type "module" ∧ ob.dict = some builtinsNs ∧ ob.data = .plain)
    (ha : s₁.heap.get? a = some { cls := .type "list", data := .seq vs.toArray }) (hi : IntsAre vs ns) (hl : ns.length ≤ sizeLine) (hr : Room k callerA)
    (F : ∀ base : Heap, K.In base → base.Ns mainGlobals mg → (∀ p ∈ cs, TabB base mg p.1 p.2) → FnG P w K mg base CX k fa fd [x] sp) (hbind : ∀ (s : Shared) (u : Value), BindsTo s fd ⟨[u], []⟩ [(x, u)])
    (hsp : ∀ H : Hp, (∀ p ∈ cs, H p.2 = some (.tbl #[])) → SqL K H a (ns.map V.int) → sp [.ref a] H (fun v _ => v = .bl true) fun _ _ _ => False)
    (hCX : ∀ H e s', CX [] H s₁ (fun _ _ _ => False) e s' → False) :
    codeAny (model P w) callerA (.call (.ref fa) ⟨[.ref a], []⟩) (fun r s' => r = .ok (.ret (.bool true)) ∧ OldK s₁.heap s'.heap ∧ s'.os = s₁.os ∧ AllBare s'.gens) s₁ := by
  have mem : ∀ {p}, p ∈ cs → p.2 ∈ cs.map (·.2) := fun hp => List.mem_map.mpr ⟨_, hp, rfl⟩
  have tab : ∀ b, b ∈ cs.map (·.2) → s₁.heap.get? b = some { cls := .none, data := .fields #[] } := fun b hb => by
    obtain ⟨p, hp, e⟩ := List.mem_map.mp hb
    exact e ▸ hT p hp
  have na : a ∉ cs.map (·.2) := fun z => by
    have q := ha.symm.trans (tab a z)
    exact nomatch (congrArg Obj.data (Option.some.inj q) : Data.seq vs.toArray _ = Data.fields #[])
  have len : (ns.map V.int).length ≤ sizeLine := by rw [List.length_map]; exact hl
  have rv := vals_ints hi
  -- the three ways of H₀
  have way : ∀ b, (b ∈ cs.map (·.2) ∧ H₀ K a vs ns (cs.map (·.2)) b = some (.tbl #[])) ∨ (b = a ∧ K.lookup a = none ∧ H₀ K a vs ns (cs.map (·.2)) b = some (.frz { cls := .type "list", data := .seq vs.toArray } (.lst (ns.map V.int)))) ∨ (b ∉ cs.map (·.2) ∧ H₀ K a vs ns (cs.map (·.2)) b = none) := fun b => by
    unfold H₀
    by_cases h1 : b ∈ cs.map (·.2)
    · exact .inl ⟨h1, if_pos h1⟩
    · by_cases h2 : b = a ∧ K.lookup a = none
      · exact .inr (.inl ⟨h2.1, h2.2, by rw [if_neg h1, if_pos h2]⟩)
      · exact .inr (.inr ⟨h1, by rw [if_neg h1, if_neg h2]⟩)
  generalize hH : H₀ K a vs ns (cs.map (·.2)) = H at way
  have atT : ∀ p ∈ cs, H p.2 = some (.tbl #[]) := fun p hp => by
    rcases way p.2 with ⟨_, h⟩ | ⟨e, _, _⟩ | ⟨h, _⟩
    · exact h
    · exact absurd (e ▸ mem hp) na
    · exact absurd (mem hp) h
  -- what is neither a list nor an empty record is not tracked
  have free : ∀ {b : Addr} {o : Obj}, s₁.heap.get? b = some o → (∀ vs n, o.data ≠ .seq vs n) → o.data ≠ .fields #[] → H b = none := fun {b o} e h1 h2 => by
    rcases way b with ⟨hb, _⟩ | ⟨hb, _, _⟩ | ⟨_, h⟩
    · have := e.symm.trans (tab b hb)
      cases this
      exact (h2 rfl).elim
    · rw [hb, ha] at e
      cases e
      exact (h1 _ _ rfl).elim
    · exact h
  have stay : ∀ {b : Addr} {o : Obj}, s₁.heap.get? b = some o → H b = none → (hidT s₁.heap H).get? b = some o := fun e n => hidT_get e n
  have nsB : ∀ {b : Addr} {m : Str → Option Value}, s₁.heap.Ns b m → (hidT s₁.heap H).Ns b m := fun {b m} ⟨o, es, ep, e, d, r⟩ =>
    ⟨o, es, ep, stay e (free e (fun _ _ z => nomatch d.symm.trans z) fun z => nomatch d.symm.trans z), d, r⟩
  have kB : K.In (hidT s₁.heap H) := fun b o e => stay (KX b o e) (by
    rcases way b with ⟨hb, _⟩ | ⟨hb, hk, _⟩ | ⟨_, h⟩
    · obtain ⟨p, hp, ep⟩ := List.mem_map.mp hb
      have z := nT p hp
      rw [ep, e] at z
      cases z
    · rw [hb, hk] at e
      cases e
    · exact h)
  have hok : HOk P w H s₁.heap := fun b u e => by
    rcases way b with ⟨hb, h⟩ | ⟨hb, _, h⟩ | ⟨_, h⟩
    · rw [h] at e
      cases e
      exact tab b hb
    · rw [h] at e
      cases e
      rw [hb]
      exact ⟨ha, len, vs, _, rv, ha⟩
    · rw [h] at e
      cases e
  have script : SqL K H a (ns.map V.int) := by
    rcases way a with ⟨hb, _⟩ | ⟨_, _, h⟩ | ⟨hb, h⟩
    · exact absurd hb na
    · exact .inl (.inr ⟨_, h⟩)
    · cases hk : K.lookup a with
      | none =>
        rw [← hH] at h
        unfold H₀ at h
        rw [if_neg hb, if_pos ⟨rfl, hk⟩] at h
        cases h
      | some o =>
        have e := (KX a o hk).symm.trans ha
        cases e
        exact .inr ⟨_, vs.toArray, _, hk, rfl, rfl, rfl, by rw [List.size_toArray, hi.length]; exact hl, by simpa using rv⟩
  have M : L2.Mod K mg (hidT s₁.heap H) := ⟨kB, nsB hns, ⟨mb, nsB hb, hbb⟩, let ⟨mc, h1, h2⟩ := hlim; ⟨mc, nsB h1, h2⟩⟩
  have TB : ∀ p ∈ cs, TabB (hidT s₁.heap H) mg p.1 p.2 := fun p hp => by
    obtain ⟨o, es, ep, eG, dG, _⟩ := id hns
    refine ⟨?_, ?_, fun z => by rw [z, hT p hp] at eG; cases eG; cases dG⟩
    · obtain ⟨o, us, file, tf, flags, tg, inF, text, tt, e1, r1, r2, r3, rest⟩ := C p hp
      exact ⟨o, us, file, tf, flags, tg, inF, text, tt, stay e1 (free e1 (fun _ _ z => nomatch r2.symm.trans z) fun z => by rw [r2] at z; cases z; simp at r3), r1, r2, r3, rest⟩
    · obtain ⟨bm, ob, b1, b2, b3, b4, b5, b6⟩ := hbm
      refine ⟨bm, ob, b1, b2, fun q => ?_, fun q => ?_, stay b3 (free b3 (fun _ _ z => nomatch b6.symm.trans z) fun z => nomatch b6.symm.trans z), b4, b5, b6⟩
      · rw [q, eG] at b3
        cases b3
        exact nomatch dG.symm.trans b6
      · rw [q, hT p hp] at b3
        cases b3
        cases b6
  have e0 : Env0 P w K mg (hidT s₁.heap H) callerA [] s₁ H := ⟨rfl, M, fun b o e => of_hidT e, Nat.le_of_eq (hidT_size _ _), trivial, fun b hb => absurd (show b ∈ ([] : List Addr) from hb) (by simp), hok, .of_eq hg⟩
  refine codeAny_mono ((F _ kB (nsB hns) TB).run callerA [] s₁ H ⟨[.ref a], []⟩ [.ref a] [.ref a] _ _ rfl hr e0 (hbind s₁ (.ref a)) (.cons rfl .nil) (hsp H atT script)) fun res s' h => ?_
  rcases res with err | (_ | _ | _ | u)
  · exact (hCX H err s' h).elim
  · exact False.elim h
  · exact False.elim h
  · exact False.elim h
  obtain ⟨v, H', os, bare, un, hok', r', q⟩ := h
  obtain rfl : v = .bl true := q
  obtain rfl : u = Value.bool true := r'
  have kept : ∀ b o, b ∉ cs.map (·.2) → s₁.heap.get? b = some o → s'.heap.get? b = some o := fun b o nb e => by
    rcases way b with ⟨hb, _⟩ | ⟨_, _, h⟩ | ⟨_, h⟩
    · exact absurd hb nb
    · have e1 := (hok b _ h).1
      have e2 := (hok' b _ (un.frzs b _ _ h)).1
      exact (Option.some.inj (e.symm.trans e1)) ▸ e2
    · exact un.keep b o e h (by intro z; exact absurd (show b ∈ ([] : List Addr) from z) (by simp)) (by simp)
  have grown : ∀ p ∈ cs, ∃ more : Array Value, s'.heap.get? p.2 = some { cls := .none, data := .fields more } := fun p hp => by
    obtain ⟨more, z⟩ := un.tbls p.2 #[] (atT p hp)
    exact ⟨_, hok' p.2 _ z⟩
  refine ⟨rfl, ⟨fun b o e => ?_, fun b o e => ?_⟩, os, bare⟩
  · by_cases hb : b ∈ cs.map (·.2)
    · obtain ⟨p, hp, rfl⟩ := List.mem_map.mp hb
      obtain ⟨more, hm⟩ := grown p hp
      cases e.symm.trans (hT p hp)
      exact .inr (.inl ⟨((C p hp).tab (hT p hp)).isCodeTable, rfl, #[], more, rfl, by rw [Array.empty_append]; exact hm⟩)
    · exact .inl (kept b o hb e)
  · by_cases hb : b ∈ cs.map (·.2)
    · obtain ⟨p, hp, rfl⟩ := List.mem_map.mp hb
      obtain ⟨more, hm⟩ := grown p hp
      exact ⟨_, hm⟩
    · exact ⟨o, kept b o hb e⟩
end
end XG

set_option Elab.async false
set_option maxRecDepth 100000
set_option maxHeartbeats 4000000
/-! L3, part g2: defs called where no repr is under way; repr of nested data; exceptions' words; lambdas. -/
namespace L3
open PySem PySem.Spec PyProof.Rows L2
/-! ### repr of nested data -/
def rReprG (K : PySem.W.Frag) : List V → Hp → VK → Prop := fun xs H Q => (∃ v d, xs = [v] ∧ Dp K H v d ∧ d.depth ≤ 64 ∧ d.showable = true ∧ d.hasDict = false ∧ d.shown.length ≤ sizeLine ∧ Q (.str d.shown) H) ∨ ∃ a, xs = [.ref a] ∧ Rd H a (.dK []) ∧ Q (.str "{}") H
section
variable {X : Cx} {B : Base3}
theorem call_reprG (hgd : X.A.guards = some []) (hu : X.A.units + 200 < cLine) : CallR X (.builtin "repr") (rReprG X.K) := by
  intro pins s σ H xs us Q I r h
  rcases h with ⟨v, d, e, hd, hdep, hs, hno, hz, q⟩ | ⟨a, e, hr, q⟩
  rotate_left
  · subst e
    obtain ⟨u, rfl, ru⟩ := vals1 r
    obtain rfl : u = Value.ref a := ru
    obtain ⟨_, hsys, vs, hkv, o, es, ep, e1, e2, e3, _, e4, _⟩ := hr.ok I.hok
    cases hkv
    have e5 : es.toList = [] := List.length_eq_zero_iff.mp e4.length
    have rd : Reads s.heap (.ref a) (.dict []) ([a] ++ []) := .dict (as := []) (bs := []) (kvs := []) e1 e2.1 e3 (by rw [e5]; exact .nil) (by rw [e5]; exact .nil)
    have hsh : (PyData.dict []).shown = "{}" := by decide +kernel
    exact repr_of_reads' rd rfl (fun _ hm => by
      rw [List.append_nil, List.mem_singleton] at hm
      rw [hm] at hsys
      rw [beq_self_eq_true] at hsys
      cases hsys) hgd (by simp only [PyData.depth, PyData.depthKv]; omega) (fun _ _ e => e) (fun h' u' tk k => ⟨.str "{}", H, I.kept k, ⟨_, by rw [hsh]⟩, q⟩) (by rw [hsh, sizeLine_eq]; decide +kernel)
  subst e
  obtain ⟨u, rfl, ru⟩ := vals1 r
  obtain ⟨as, rd⟩ := Dp.reads I d v u hd ru
  have fin : ∀ h' u' tk, (∀ b o, s.heap.get? b = some o → h'.get? b = some o) → EP X pins σ Q (.str d.shown u') { s with heap := h', toks := tk } := fun h' u' tk k => ⟨.str d.shown, H, I.kept k, ⟨_, rfl⟩, q⟩
  cases rd with
  | none => exact PySem.P.repr_of_none ⟨.str _, H, I.tok _, ⟨_, rfl⟩, q⟩
  | bool b => exact PySem.P.repr_of_bool ⟨.str _, H, I.tok _, ⟨_, rfl⟩, q⟩
  | int i t => exact PySem.P.repr_of_int (of_decide_eq_true hs) ⟨.str _, H, I.tok _, ⟨_, rfl⟩, q⟩
  | str x t => exact PySem.P.repr_of_str ⟨.str _, H, I.tok _, ⟨_, rfl⟩, q⟩ hz
  | list h1 h2 h3 h4 => exact repr_of_reads' (.list h1 h2 h3 h4) hs (PyData.noDict_hsm hno) hgd (by omega) (fun _ _ e => e) fin hz
  | tuple h1 h2 h3 h4 => exact repr_of_reads' (.tuple h1 h2 h3 h4) hs (PyData.noDict_hsm hno) hgd (by omega) (fun _ _ e => e) fin hz
  | dict h1 h2 h3 h4 h5 => cases hno
/-- repr of plain data -/
def isE : D → Bool
  | .dcK [] [] => true
  | _ => false
/-- the text of a value -/
def rpr (d : D) : Option Str := if isE d then some "{}" else if d.shC && d.py.showable && Nat.ble d.py.shown.length 100000 then some d.py.shown else none
def bReprG : Reg → List D → (Res → Prop) → Prop := fun _ ds k => match ds with
  | [d] => ∃ s, rpr d = some s ∧ k (.val (.str s))
  | _ => False
theorem isE_of {d : D} (h : isE d = true) : d = .dcK [] [] := by
  unfold isE at h
  split at h
  · rfl
  · cases h
theorem rpr_reads {K : PySem.W.Frag} {F H : Hp} {d : D} {v : V} {x : Str} {Q : VK} (sub : Same F H) (h : rpr d = some x) (rx : RepH K F H d v) (hq : Q (.str x) H) : rReprG K [v] H Q := by
  unfold rpr at h
  split at h
  · rename_i he
    rw [isE_of he] at rx
    obtain ⟨a, ob, xs, rfl, h1, h2, h3⟩ := rx.dck sub
    cases h3
    cases Option.some.inj h
    exact .inr ⟨_, rfl, .inr ⟨ob, h1⟩, hq⟩
  · split at h
    · rename_i h1
      rw [Bool.and_eq_true, Bool.and_eq_true] at h1
      obtain ⟨d1, d2⟩ := sh_H sub (shC_of h1.1.1) rx
      cases Option.some.inj h
      exact .inl ⟨v, _, rfl, d1, SeqAt.depth_of_shaped d2, h1.1.2, PyData.hasDict_of_canLay _ (SeqAt.canLay_of_shaped d2), Nat.le_trans (Nat.le_of_ble_eq_true h1.2) (by rw [sizeLine_eq]; decide), hq⟩
    · cases h
theorem le_reprG {j : Nat} {e : Expr} {ta : DA} {p pos : Pos} (hgd : X.A.guards = some []) (hr : Room j X.A) (hg : Gl X "repr") (hm : X.mg "repr" = none) (ha : LP X B [e] ta) (he : starEach [e] X.env = (false, eval e X.env) :: starEach [] X.env := by rfl) (hpl : (backTo pos (starEach [] X.env)).any (·.1) = false := by rfl) :
    LE X B (.Call (.Name "repr" p) [e] [] pos) (dCB bReprG ta) := le_callB (call_reprG hgd (by have := hr.un; omega)) (fun pn F H σ E G vs ds k Q S r h hk => by
  unfold bReprG at h
  split at h
  · obtain ⟨v, rfl, rx⟩ := hl1 r
    obtain ⟨x, h1, h4⟩ := h
    exact rpr_reads S.w.sub h1 rx (hk _ h4 _ F H S (Same.refl F) (.str _))
  · exact h.elim) hg hm (by decide +kernel) ha (by decide) (by decide) he hpl
end
end L3

set_option Elab.async false
set_option maxRecDepth 100000
set_option maxHeartbeats 4000000
/-! L3, part g3: defs called where no repr is under way. -/
namespace L3
open PySem PySem.Spec PyProof.Rows L2 LamX
structure CalG (P : Program) (w : World) (K : PySem.W.Frag) (mg : Str → Option Value) (base : Heap) (x : Str) (k : Nat) (ps : List Str) (sp : DSp) : Prop where
  ex : ∃ (f : Addr) (fd : FuncData), XG.FnG P w K mg base (L2.CX P w) k f fd ps (LSp K sp) ∧ mg x = some (.ref f) ∧ PySem.W.keepIn K (.ref f) = true ∧ Binds K fd ps [] ∧ ∃ oc od osl, K.lookup f = some ⟨oc, od, .func fd, osl⟩
/-- what the head tells of a def whose code object stands at c -/
structure DefAtC (K : PySem.W.Frag) (mg : Str → Option Value) (x : Str) (st : Stmt) (c : Addr) : Prop where
  ex : ∃ (f : Addr) (oc : Value) (od an : Option Addr) (osl : Array (Option Value)) (kV doc pm ct : Value), mg x = some (.ref f) ∧
    K.lookup f = some ⟨oc, od, .func (PySem.W.fnOf x x (defArgs st) (defBody st) (defScope st) .none kV doc pm an (.ref c) ct), osl⟩ ∧ PySem.W.codeIn K (.ref c) x = true ∧ PySem.W.keepIn K (.ref f) = true
theorem DefAtC.plain {K : PySem.W.Frag} {mg : Str → Option Value} {x : Str} {st : Stmt} {c : Addr} (d : DefAtC K mg x st c) : DefAt K mg x st := by
  obtain ⟨f, oc, od, an, osl, kV, doc, pm, ct, h⟩ := d.ex
  exact ⟨f, oc, od, an, osl, kV, doc, pm, .ref c, ct, h⟩
theorem defAtC_mk {K : PySem.W.Frag} {h : Heap} {mg : Str → Option Value} {x : Str} {st : Stmt} (X : K.In h) (G : h.Ns mainGlobals mg) {f c : Addr} {oc : Value} {od an : Option Addr} {osl : Array (Option Value)} {kV doc pm ct : Value}
    (a : PySem.W.nsIn K mainGlobals x = some (some (.ref f))) (l : K.lookup f = some ⟨oc, od, .func (PySem.W.fnOf x x (defArgs st) (defBody st) (defScope st) .none kV doc pm an (.ref c) ct), osl⟩) (cd : PySem.W.codeIn K (.ref c) x = true) (k : PySem.W.keepIn K (.ref f) = true) : DefAtC K mg x st c :=
  ⟨f, oc, od, an, osl, kV, doc, pm, ct, PySem.W.mg_of X G a, l, cd, k⟩
section
variable {P : Program} {w : World} {K : PySem.W.Frag} {mg : Str → Option Value} {base : Heap}
theorem Cal3.g {x : Str} {k : Nat} {ps : List Str} {sp : DSp} (c : Cal3 P w K mg base x k ps sp) : CalG P w K mg base x k ps sp := by
  obtain ⟨f, fd, F, r⟩ := c.ex
  exact ⟨f, fd, XG.FnG.of F, r⟩
/-- the promise of a def, from its body, at the very place where it is called -/
theorem okG {x : Str} {st : Stmt} {f : Addr} {fd : FuncData} {N ps : List Str} {k : Nat} {sp : DSp} {cdv : Value} (F : L2.Fun K x x st f fd) (hcd : ∃ oc od kV doc pm an ct osl, fd = PySem.W.fnOf x x (defArgs st) (defBody st) (defScope st) .none kV doc pm an cdv ct ∧ K.lookup f = some ⟨oc, od, .func fd, osl⟩ ∧ PySem.W.codeIn K cdv x = true)
    (S : FnScope N ps (defScope st)) (len : ∀ ds G q e, sp ds G q e → ds.length = ps.length)
    (body : ∀ (A : Around) (outer : List Env) (s : Shared) (H : Hp) (E : XK) (B : Base3) (dw : Exc3 → Reg → Prop), (A.deeper (envOfC x (defScope st) s.heap.objs.size f cdv)).guards = some [] → Room k (A.deeper (envOfC x (defScope st) s.heap.objs.size f cdv)) →
      WOkL (cxOf (L2.CX P w) P w K mg base N x (defScope st) f cdv A outer s H E) B (fun x _ G => dw x G) →
      ∃ t : DSt, LSs (cxOf (L2.CX P w) P w K mg base N x (defScope st) f cdv A outer s H E) B (defBody st) t ∧ ∀ ds G q, sp ds G q dw → t { nx := fun _ G' => q (.val .non) G', rt := q } (start3 N ds) G) :
    XG.FnG P w K mg base (L2.CX P w) (k + 1) f fd ps (LSp K sp) := by
  obtain ⟨oc, od, kV, doc, pm, an, ct, osl, e, lk, hc⟩ := hcd
  subst e
  have hl : ∀ vs H Q E, LSp K sp vs H Q E → vs.length = ps.length := fun vs H Q E h => by
    obtain ⟨F, G, ds, q, e, _, r, h, _⟩ := h
    exact r.length.symm.trans (len _ _ _ _ h)
  refine ⟨hl, fun A outer s H args us vs Q E hgd hr e0 hb r h => run_ofS lk hc S hr e0 hb r (hl _ _ _ _ h) fun hr' => ?_⟩
  obtain ⟨F, G, ds, q, e, wl, rl, h, hq, he⟩ := h
  have wk : WOkL (cxOf (L2.CX P w) P w K mg base N x (defScope st) f cdv A outer s H E) ⟨F, H, G.map (·.1), 0⟩ (fun x _ G => e x G) :=
    ⟨⟨fun cls d H => E cls d H, takes_of rfl rfl rfl rfl, fun pn F' H' σ E' G' x cls dd S' rx hx => he x G' hx cls dd F' H' S'.afterB rx⟩, lk_self⟩
  obtain ⟨t, ht, hs⟩ := body A outer s H E ⟨F, H, G.map (·.1), 0⟩ e hgd hr' wk
  refine ⟨_, ht.pss, ⟨[], F, start3 N ds, G, _, start_st wl rl, hs ds G q h, ⟨fun E' G' h' σ' F' H' S' _ => hq _ _ h' _ F' H' S'.afterB .non, fun r' G' h' v F' H' σ' E' S' _ rr => hq _ _ h' v F' H' S'.afterB ?_, fun _ _ z => z.elim, fun _ _ z => z.elim⟩⟩⟩
  cases r' with
  | val d => exact rr
  | fr es =>
    obtain ⟨a, rfl, f⟩ := rr
    obtain ⟨xs, h1, h2⟩ := f.ex
    exact ⟨a, xs, rfl, f.nF, f.nB, f.nG, h1, h2⟩
  | frD d =>
    obtain ⟨a, rfl, f⟩ := rr
    obtain ⟨o, h1, h2⟩ := f.ex
    exact ⟨a, o, rfl, f.nF, f.nB, f.nG, h1, h2⟩
  | sl i => exact rr.elim
theorem calG {x : Str} {st : Stmt} {c : Addr} {k : Nat} {ps N : List Str} {sp : DSp} (d : DefAtC K mg x st c)
    (hb : ∀ (kV doc pm : Value) (an : Option Addr) (cdv ct : Value) (us : List Value), us.length = ps.length → bindArgs (PySem.W.fnOf x x (defArgs st) (defBody st) (defScope st) .none kV doc pm an cdv ct) ⟨us, []⟩ = pure (ps.zip us))
    (S : FnScope N ps (defScope st)) (len : ∀ ds G q e, sp ds G q e → ds.length = ps.length)
    (body : ∀ (f : Addr) (A : Around) (outer : List Env) (s : Shared) (H : Hp) (E : XK) (B : Base3) (dw : Exc3 → Reg → Prop), (A.deeper (envOfC x (defScope st) s.heap.objs.size f (.ref c))).guards = some [] → Room k (A.deeper (envOfC x (defScope st) s.heap.objs.size f (.ref c))) →
      WOkL (cxOf (L2.CX P w) P w K mg base N x (defScope st) f (.ref c) A outer s H E) B (fun x _ G => dw x G) →
      ∃ t : DSt, LSs (cxOf (L2.CX P w) P w K mg base N x (defScope st) f (.ref c) A outer s H E) B (defBody st) t ∧ ∀ ds G q, sp ds G q dw → t { nx := fun _ G' => q (.val .non) G', rt := q } (start3 N ds) G) :
    CalG P w K mg base x (k + 1) ps sp := by
  obtain ⟨f, oc, od, an, osl, kV, doc, pm, ct, hm, l, cd, kp⟩ := d.ex
  have F := fun_mk (st := st) l cd kp
  exact ⟨f, _, okG F ⟨_, _, _, _, _, _, _, _, rfl, l, cd⟩ S len (fun A outer s H E B dw hgd hr wk => body f A outer s H E B dw hgd hr wk), hm, kp, F.binds hb, _, _, _, l⟩
end
section
variable {X : Cx} {B : Base3}
theorem le_callG {x : Str} {k j : Nat} {ps : List Str} {sp : DSp} {dw : DW} {ta : DA} {p pos : Pos} {e : Expr} {es : List Expr} (c : CalG X.prog X.w X.K X.mg X.base x k ps sp) (hgd : X.A.guards = some []) (hr : Room j X.A) (hk : k ≤ j) (wk : WOk X B dw) (hg : Gl X x) (ha : LA X B (e :: es) ta)
    (hdb : (x == ("__debug__" : Str)) = false := by decide) (he : starEach (e :: es) X.env = (false, eval e X.env) :: starEach es X.env := by rfl) (hpl : (backTo pos (starEach es X.env)).any (·.1) = false := by rfl) :
    LE X B (.Call (.Name x p) (e :: es) [] pos) (dCall sp dw ta) := by
  obtain ⟨f, fd, Fn, hm, kp, hb, -⟩ := c.ex
  obtain ⟨W, tk, hW⟩ := wk
  refine ⟨pe_imp (XG.pe_callG Fn hgd (hr.mono hk) hg hm kp hb (fun σ => passAt tk σ) ha.pa hdb he hpl) fun σ H Q ⟨pn, F, E, G, k, S, ht, hk⟩ => ⟨pn, F, E, G, _, S, ht, fun ds E1 G1 h1 vs F1 H1 S1 s1 r1 => ?_⟩⟩
  refine ⟨F1, G1, ds, _, _, S1.w, r1, h1, fun r G' h2 v F2 H2 A r2 => ?_, fun x G' h2 cls dd F2 H2 A r2 => ?_⟩
  · exact hk _ _ _ h2 v F2 H2 (S1.wldAfter A) (s1.trans A.keepF) (S1.retR r2)
  · exact hW pn F2 H2 σ E1 G' x cls dd (S1.wldAfter A) r2 h2
end
end L3

set_option Elab.async false
set_option maxRecDepth 100000
set_option maxHeartbeats 4000000
/-! L3, lambdas: a def that tells the word of the error of a call; a lambda handed to it. -/
namespace L3
open PySem PySem.Spec PyProof.Rows L2 LamX
/-- a constant that such a def answers with -/
inductive WC where
  | s (x : Str) | b (b : Bool)
def WC.c : WC → Const
  | .s y => .str y
  | .b q => .bool q
def WC.d : WC → D
  | .s y => .str y
  | .b q => .bl q
def WC.v : WC → V
  | .s y => .str y
  | .b q => .bl q
theorem pe_wc {X : Cx} {w : WC} {j : Nat} {pos : Pos} : PE X (.Constant w.c j pos) (tC w.v) := by
  cases w with
  | s x => exact pe_str
  | b b => exact pe_bl
theorem WC.rep {K : PySem.W.Frag} {F : Hp} (w : WC) : Rep K F w.d w.v := by
  cases w with
  | s x => exact .str x
  | b b => exact .bl b
/-- a clause: except cls: return res | except cls as e: return res + repr(e.fld) -/
structure WCl where
  cls : Str
  res : WC
  fld : Option Str
theorem After.refl {K : PySem.W.Frag} {F H : Hp} {G : Reg} (w : Wld K F H G) : After K F H G F H G := ⟨w, Same.refl F, fun _ _ h _ => h, fun _ _ _ _ n => n, fun _ h => .inl h, fun _ h => h⟩
/-! ### the clauses -/
section
variable {X : Cx}
/-- the clauses of the text -/
inductive WHds (X : Cx) : List ExceptHandler → List WCl → Prop
  | nil : WHds X [] []
  | cons {x : Str} {w : WC} {j : Nat} {np p1 p2 pos' : Pos} {hds : List ExceptHandler} {l : List WCl} (hc : ∃ C, ClsN X.K x C ∧ X.mg x = some (.ref C)) (hg : Gl X x) (hdb : (x == ("__debug__" : Str)) = false) (r : WHds X hds l) :
      WHds X (.ExceptHandler (some (.Name x np)) none [.Return (some (.Constant w.c j p1)) p2] pos' :: hds) (⟨x, w, none⟩ :: l)
  | as {x n f w : Str} {i j : Nat} {np p1 p2 p3 p4 p5 p6 p7 pos' : Pos} {hds : List ExceptHandler} {l : List WCl} (hc : ∃ C, ClsN X.K x C ∧ X.mg x = some (.ref C)) (hg : Gl X x) (hdb : (x == ("__debug__" : Str)) = false)
      (hN : X.N.Nodup) (hi : X.N[i]? = some n) (hln : X.env.kindOf n = some .local) (hvis : Vis X.env.scope n) (hn1 : (n == ("__debug__" : Str)) = false) (hn2 : (n == ("__classdict__" : Str)) = false) (xf : Xf3 X.K x f) (hrg : Gl X "repr") (hrm : X.mg "repr" = none)
      (hst : starEach [.Attribute (.Name n p5) f p6] X.env = [(false, eval (.Attribute (.Name n p5) f p6) X.env)]) (hab : attributeBase (.Name n p5) f X.env (eval (.Name n p5) X.env) = eval (.Name n p5) X.env) (hpl : (backTo p7 (starEach [] X.env)).any (·.1) = false) (r : WHds X hds l) :
      WHds X (.ExceptHandler (some (.Name x np)) (some n) [.Return (some (.BinOp (.Constant (.str w) j p1) .Add (.Call (.Name "repr" p4) [.Attribute (.Name n p5) f p6] [] p7) p3)) p2] pos' :: hds) (⟨x, .s w, some f⟩ :: l)
def rAddS : R2 := fun x y H Q => ∃ i j, x = .str i ∧ y = .str j ∧ i.length + j.length ≤ sizeLine ∧ Q (.str (i ++ j)) H
/-- the clauses, read -/
inductive WRel (K : PySem.W.Frag) (n : Nat) : List WCl → List XT.Cl → Prop
  | nil : WRel K n [] []
  | cons {x : Str} {w : WC} {C : Addr} {l : List WCl} {m : List XT.Cl} : ClsN K x C → WRel K n l m → WRel K n (⟨x, w, none⟩ :: l) ((.ref C, none, fun _ _ _ => tRet (tC w.v)) :: m)
  | as {x w f : Str} {C : Addr} {i : Nat} {l : List WCl} {m : List XT.Cl} : ClsN K x C → i < n → WRel K n l m →
      WRel K n (⟨x, .s w, some f⟩ :: l) ((.ref C, some i, fun a cls d => tRet (tOp rAddS (tC (.str w)) (tCB (rReprG K) (tCons (tXf a cls d C f (tVar i)) tNil)))) :: m)
theorem WHds.mix (hgd : X.A.guards = some []) (hu : X.A.units + 200 < cLine) {hds : List ExceptHandler} {l : List WCl} (h : WHds X hds l) : ∃ m, XT.HdsMix X hds m ∧ WRel X.K X.N.length l m := by
  induction h with
  | nil => exact ⟨[], .nil, .nil⟩
  | cons hc hg hdb r ih =>
    obtain ⟨m, h1, h2⟩ := ih
    obtain ⟨C, hC, hm⟩ := hc
    exact ⟨_, .cons ⟨hg, hdb, .inl hm⟩ (fun a oe cls d pn hz hf => pss_one (ps_ret pe_wc)) h1, .cons hC h2⟩
  | @as x n f w i j np p1 p2 p3 p4 p5 p6 p7 pos' hds l hc hg hdb hN hi hln hvis hn1 hn2 xf hrg hrm hst hab hpl r ih =>
    obtain ⟨m, h1, h2⟩ := ih
    obtain ⟨C, hC, hm⟩ := hc
    obtain ⟨C', hC', T, hno⟩ := xf.ex
    cases hC.eq hC'
    refine ⟨_, .as ⟨hg, hdb, .inl hm⟩ hN hi hln (fun a oe cls d pn hz hf => ?_) h1, .as hC (lt_of_look hi) h2⟩
    refine pss_one (ps_ret (pe_op (r := rAddS) op_add_str pe_str ?_))
    exact pe_callB (X := X.suite a ((a, oe) :: pn)) (call_reprG (X := X.suite a ((a, oe) :: pn)) hgd hu) hrg hrm (by decide +kernel) (pa_cons (pe_xf T hno hz hf (pe_var (X := X.suite a ((a, oe) :: pn)) hi hvis hn1 hn2) hab) pa_nil hst) (by decide) (by decide) hst hpl
end
end L3

set_option Elab.async false
set_option maxRecDepth 100000
set_option maxHeartbeats 4000000
/-! L3, lambdas: the def of words keeps its promise; a lambda handed to it. -/
namespace L3
open PySem PySem.Spec PyProof.Rows L2 LamX
section
variable {X : Cx}
end
end L3

set_option Elab.async false
set_option maxRecDepth 100000
set_option maxHeartbeats 4000000
/-! L3, lambdas: THE RULE for x(lambda: body). -/
namespace L3
open PySem PySem.Spec PyProof.Rows L2 LamX
theorem reg_uniq : ∀ {G : Reg} {b : Addr} {x y : List D}, (G.map (·.1)).Nodup → (b, x) ∈ G → (b, y) ∈ G → x = y
  | [], _, _, _, _, h, _ => nomatch h
  | p :: r, b, x, y, nd, h1, h2 => by
    rw [List.map_cons] at nd
    obtain ⟨n1, n2⟩ := List.nodup_cons.mp nd
    have out : ∀ {z}, (b, z) ∈ r → p.1 ≠ b := fun hz e => n1 (by rw [e]; exact List.mem_map.mpr ⟨_, hz, rfl⟩)
    rcases List.mem_cons.mp h1 with e1 | h1
    · rcases List.mem_cons.mp h2 with e2 | h2
      · rw [← e1] at e2
        cases e2
        rfl
      · exact absurd (by rw [← e1]) (out h2)
    · rcases List.mem_cons.mp h2 with e2 | h2
      · exact absurd (by rw [← e2]) (out h1)
      · exact reg_uniq n2 h1 h2
/-- what a lambda sees of the slots -/
def vals3 (E : Env3) : Env3 := E.map fun s => match s with
  | .val d => .val d
  | _ => .no
section
variable {K : PySem.W.Frag} {B : Base3} {pn : Pend} {F H : Hp} {σ : L2.St} {E : Env3} {G : Reg}
theorem vals3_some {i : Nat} {s : Sl3} (h : (vals3 E)[i]? = some s) : (∃ d, s = .val d ∧ E[i]? = some (.val d)) ∨ s = .no := by
  unfold vals3 at h
  rw [List.getElem?_map] at h
  cases q : E[i]? with
  | none => rw [q] at h; cases h
  | some t =>
    rw [q] at h
    cases t with
    | val d => exact .inl ⟨d, (Option.some.inj h).symm, rfl⟩
    | no => exact .inr (Option.some.inj h).symm
    | own ds => exact .inr (Option.some.inj h).symm
    | ownD ds => exact .inr (Option.some.inj h).symm
    | new nm fs => exact .inr (Option.some.inj h).symm
/-- the plain slots, as a frame of its own -/
theorem St3.fresh (S : St3 K B pn F H σ E G) : St3 K ⟨F, H, G.map (·.1), 0⟩ [] F H σ (vals3 E) G :=
  ⟨S.w, Same.refl F, fun _ _ h _ => h, fun _ _ _ _ n => n, fun _ h => .inl h, fun _ h => h, by unfold vals3; rw [List.length_map]; exact S.len,
    fun i d h => (by
      rcases vals3_some h with ⟨d', e, q⟩ | e
      · cases e; exact S.slot i _ q
      · cases e),
    fun i s d h ho => (by rcases vals3_some h with ⟨d', e, q⟩ | e <;> subst e <;> cases ho),
    fun i j s t d e a h _ ho => (by rcases vals3_some h with ⟨d', e, q⟩ | e <;> subst e <;> cases ho),
    fun a o h => (nomatch h), ⟨List.nodup_nil, fun p h => nomatch h⟩,
    fun nm fs h => (by rcases vals3_some h with ⟨d', e, q⟩ | e <;> cases e)⟩
/-- a register of another kind is written -/
theorem St3.regKeep (S : St3 K B pn F H σ E G) {ds : List D} {a : Addr} {o : HO} (h : (a, ds) ∈ G) (r : RegO K F a o ds) : St3 K B pn F (upd H a o) σ E G := by
  obtain ⟨nF, o0, ea, _⟩ := S.w.reg a ds h
  have ha : a ∈ G.map (·.1) := List.mem_map.mpr ⟨_, h, rfl⟩
  have uniq : ∀ {b : Addr} {es : List D}, (b, es) ∈ G → b = a → es = ds := fun {b es} hb e => by
    subst e
    exact reg_uniq S.w.nd hb h
  refine ⟨⟨fun b u hb => ?_, fun b fs hb => ?_, S.w.nd⟩, S.keepF, fun b u hb hg => ?_, S.unfr, S.regs, S.regk, S.len, S.slot, fun j s d hj ho => ?_, S.ownd, fun b zs hb => ?_, S.pnd, S.news⟩
  · rw [upd_ne (ne_of_none hb nF)]
    exact S.w.sub b u hb
  · obtain ⟨h1, zs, h2, h3⟩ := S.w.reg b fs hb
    by_cases q : b = a
    · rw [uniq hb q, q]
      exact ⟨nF, o, upd_same, r⟩
    · exact ⟨h1, zs, by rw [upd_ne q]; exact h2, h3⟩
  · rcases S.regs a ha with z | z
    · rw [upd_ne (fun q => hg (by rw [q]; exact z))]
      exact S.keepH b u hb hg
    · rw [upd_ne (ne_of_none hb z)]
      exact S.keepH b u hb hg
  · obtain ⟨b, e1, g⟩ := S.own j s d hj ho
    obtain ⟨zs, e2, r2⟩ := g.ex
    exact ⟨b, e1, ⟨g.nF, g.nB, g.nG, g.nP, zs, by rw [upd_ne fun q => g.nG (by rw [q]; exact ha)]; exact e2, r2⟩⟩
  · obtain ⟨h1, h2, h3, h4⟩ := S.pend b zs hb
    exact ⟨by rw [upd_ne fun q => h4 (by rw [q]; exact ha)]; exact h1, h2, h3, h4⟩
/-- behind the making of a lambda -/
theorem St3.grown (S : St3 K B pn F H σ E G) {P c' : Addr} {q : Str} {ps : Array Value} {H1 : Hp} (h : (P, encT q) ∈ G) (hps : H P = some (.tbl ps)) (codes : ∀ (pos : Pos) (cv : Value), codeAmong pos ps.toList = some cv → ∃ c, cv = .ref c ∧ F c = some (CodeO c q)) (g : XL.Grown H P q ps c' H1) :
    ∃ F1, St3 K B pn F1 H1 σ E G ∧ Same F F1 := by
  cases g with
  | same _ => exact ⟨F, S, Same.refl F⟩
  | @more ms n tri cod =>
    obtain ⟨S1, s1⟩ := S.newF (o := CodeO c' q) n
    have ne : P ≠ c' := fun z => by rw [z, n] at hps; cases hps
    have S2 := S1.regKeep (o := .tbl (ps ++ ms)) h (.tbl tri fun pos cv hcv => by
      rcases cod pos cv hcv with z | z
      · obtain ⟨c, e1, e2⟩ := codes pos cv z
        exact ⟨c, e1, s1 _ _ e2⟩
      · exact ⟨c', z, upd_same⟩)
    refine ⟨_, ?_, s1⟩
    have e : upd (upd H c' (CodeO c' q)) P (.tbl (ps ++ ms)) = upd (upd H P (.tbl (ps ++ ms))) c' (CodeO c' q) := by
      funext b
      unfold upd
      by_cases h1 : b = P
      · subst h1; rw [if_pos rfl, if_neg ne, if_pos rfl]
      · rw [if_neg h1]
        by_cases h2 : b = c'
        · rw [if_pos h2, if_pos h2]
        · rw [if_neg h2, if_neg h2, if_neg h1]
    rw [← e]
    exact S2
end
section
variable {X : Cx} {B : Base3}
end
end L3

set_option Elab.async false
set_option maxRecDepth 100000
set_option maxHeartbeats 4000000
/-! L3: the end of a law's row whose defs are called where no repr is under way, with the tables of code objects. -/
namespace L3
open PySem PySem.Spec PyProof.Rows L2 LamX
/-- what the law's end is told of its tables and of its promise -/
structure EndG (l : PySem.W.OpenLaw) (q : Program) (w : World) (K : PySem.W.Frag) (k n : Nat) (x : Str) (mg : Str → Option Value) (fa : Addr) : Prop where
  ex : ∃ (fd : FuncData) (ts : List (Str × Addr × Addr × Str)) (sp : DSp), (∀ t ∈ ts, PySem.W.tabIn K t.1 = some (t.2.1, t.2.2.1) ∧ (∃ d, (recsOf q).find? (fun e => e.name == t.1) = some d) ∧ K.lookup t.2.2.1 = none) ∧ (ts.map (·.2.2.1)).Nodup ∧
    (∀ (s : Shared) (u : Value), BindsTo s fd ⟨[u], []⟩ [(x, u)]) ∧ (∀ base : Heap, K.In base → base.Ns mainGlobals mg → (∀ t ∈ ts, TabB base mg t.2.1 t.2.2.1) → XG.FnG l.prog w K mg base (L2.CX l.prog w) k fa fd [x] (LSp K sp)) ∧
    ∀ ns : List Int, ns.length ≤ n → sp [.scr ns] (ts.map fun t => (t.2.2.1, encT t.2.2.2)) (fun r _ => r = .val (.bl true)) fun _ _ => False
theorem walk3G {l : PySem.W.OpenLaw} {n k : Nat} {q : Program} {loose : List Str} {XP : (Str → Option Value) → Heap → Prop} {YP : World → Heap → Prop} {d : DefRec} {K : Params → PySem.W.Frag} {x : Str}
    (hn : l.most = some n) (hn2 : n ≤ sizeLine) (hdf : d.params.defaults = []) (hr : Room k callerA)
    (hY : ∀ (w : World) (h : Heap), YP w h → (K w.params).In h)
    (F : ∀ (w : World) (mg : Str → Option Value) (fa : Addr) (h : Heap), (K w.params).In h → h.Ns mainGlobals mg → mg d.name = some (.ref fa) → EndG l q w (K w.params) k n x mg fa) :
    PySem.W.WalkO q loose XP YP l.row.toRowW d [] (fun f vs => PySem.call f vs) := by
  refine Att.attach_callB hn hdf fun w s₀ s₁ mg mb fa o pm cd doc a vs ns G Y ho hd hcd hmg hobj hints hlen hbits hg => ?_
  have KX := hY w _ Y
  obtain ⟨fd, ts, sp, hts, nd, hb, hF, holds⟩ := (F w mg fa _ KX G.T.g hmg).ex
  have tab : ∀ t ∈ ts, PySem.W.CodeHd s₁.heap t.2.1 t.2.2.1 ∧ s₁.heap.get? t.2.2.1 = some { cls := .none, data := .fields #[] } := fun t ht => by
    obtain ⟨h1, ⟨d', h2⟩, _⟩ := hts t ht
    exact PySem.W.tab_of G.T KX h2 h1
  have mem : ∀ {p : Addr × Addr}, p ∈ ts.map (fun t => (t.2.1, t.2.2.1)) → ∃ t ∈ ts, p = (t.2.1, t.2.2.1) := fun hp => by
    obtain ⟨t, h1, h2⟩ := List.mem_map.mp hp
    exact ⟨t, h1, h2.symm⟩
  refine XG.law_end (cs := ts.map fun t => (t.2.1, t.2.2.1)) (sp := LSp (K w.params) sp) KX G.T.g G.T.b G.T.builtins G.T.nolimit hg (fun p hp => ?_) (fun p hp => ?_) (fun p hp => ?_) G.T.bmain hobj hints (Nat.le_trans hlen hn2) hr
    (fun base h1 h2 h3 => hF base h1 h2 fun t ht => h3 (t.2.1, t.2.2.1) (List.mem_map.mpr ⟨t, ht, rfl⟩)) hb (fun H hH hS => ?_) (fun H e s' z => ?_)
  · obtain ⟨t, ht, rfl⟩ := mem hp
    exact (tab t ht).2
  · obtain ⟨t, ht, rfl⟩ := mem hp
    exact (hts t ht).2.2
  · obtain ⟨t, ht, rfl⟩ := mem hp
    exact (tab t ht).1
  · -- the heap ahead of the call: all but the tables frozen
    refine ⟨fun b => if b ∈ ts.map (·.2.2.1) then none else H b, ts.map fun t => (t.2.2.1, encT t.2.2.2), [.scr ns], _, _, ⟨fun b o h => ?_, fun b es h => ?_, ?_⟩, .cons (.scr ?_) .nil, holds ns hlen, fun r G' e v F' H' A rv => ?_, fun _ _ z => z.elim⟩
    · by_cases hb : b ∈ ts.map (·.2.2.1)
      · have z : (none : Option HO) = some o := (if_pos hb).symm.trans h
        cases z
      · exact (if_neg hb).symm.trans h
    · obtain ⟨t, ht, e⟩ := List.mem_map.mp h
      cases e
      have hb : t.2.2.1 ∈ ts.map (·.2.2.1) := List.mem_map.mpr ⟨t, ht, rfl⟩
      exact ⟨if_pos hb, _, hH (t.2.1, t.2.2.1) (List.mem_map.mpr ⟨t, ht, rfl⟩), .tbl (ps := #[]) True.intro fun pos cv hc => by
        have z : codeAmong pos [] = some cv := hc
        simp [codeAmong] at z⟩
    · rw [List.map_map]
      exact nd
    · have na : a ∉ ts.map (·.2.2.1) := fun hm => by
        obtain ⟨t, ht, e⟩ := List.mem_map.mp hm
        have z := (tab t ht).2
        rw [e, hobj] at z
        exact nomatch (congrArg Obj.data (Option.some.inj z) : Data.seq vs.toArray _ = Data.fields #[])
      rcases hS with (h | ⟨ob, h⟩) | h
      · exact .inl (.inl ((if_neg na).trans h))
      · exact .inl (.inr ⟨ob, (if_neg na).trans h⟩)
      · exact .inr h
    · subst e
      have rv : Rep (K w.params) F' (.bl true) v := rv
      cases rv
      rfl
  · obtain ⟨_, _, _, _, _, _, _, _, _, _, _, _, z⟩ := z
    simp at z
end L3

set_option Elab.async false
set_option maxRecDepth 100000
set_option maxHeartbeats 4000000
/-! L3: isinstance of any plain value and any class; dicts as constants. -/
namespace L3
open PySem PySem.Spec PyProof.Rows L2
/-! ### isinstance -/
def tyA : D → Option String
  | .non => some "NoneType"
  | .bl _ => some "bool"
  | .int _ => some "int"
  | .str _ => some "str"
  | .tup _ => some "tuple"
  | .lst _ => some "list"
  | .dcK _ _ => some "dict"
  | .dcT _ _ => some "dict"
  | _ => none
def tysA : List String := ["NoneType", "bool", "int", "str", "tuple", "list", "dict"]
theorem kit_knownA : ∀ t ∈ tysA, ∀ n ∈ knownT, kitB t n = some (isT t n) := by decide +kernel
theorem tyA_mem {d : D} {t : String} (h : tyA d = some t) : t ∈ tysA := by
  cases d <;> first | (cases h; done) | (cases h; decide)
/-- what isinstance asks of a value; a locked dict with tuple keys too -/
def TyA (K : PySem.W.Frag) (H : Hp) (v : V) (t : Value) : Prop := TyX K H v t ∨ (∃ a ob kvs, v = .ref a ∧ H a = some (.frz ob (.dT kvs))) ∧ t = .type "dict"
theorem tyXA_of {K : PySem.W.Frag} {F H : Hp} {d : D} {v : V} {t : String} (s : Same F H) (r : RepH K F H d v) (h : tyA d = some t) : TyA K H v (.type t) := by
  cases d with
  | dcK ks ds =>
    cases h
    obtain ⟨a, ob, xs, rfl, h1, _⟩ := r.dck s
    exact .inl (.fDict h1)
  | dcT ks ds =>
    cases h
    obtain ⟨a, ob, xs, rfl, h1, _⟩ := r.dct s
    exact .inr ⟨⟨a, ob, _, rfl, h1⟩, rfl⟩
  | _ => exact .inl (tyX_of s r h)
/-- isinstance(x, c), one class -/
def rIsiF (K : PySem.W.Frag) : List V → Hp → VK → Prop := fun xs H Q => ∃ (a : Addr) (ob : Obj) (kvs : List (List Key × V)) (c : V) (u : Value) (b : Bool), xs = [.ref a, c] ∧ ClsV c u ∧ H a = some (.frz ob (.dT kvs)) ∧ PySem.W.kitOne K (.type "dict") u = some b ∧ Q (.bl b) H
theorem call_isiF {X : Cx} : CallR X (.builtin "isinstance") (rIsiF X.K) := by
  intro pins s σ H xs us Q I r h
  obtain ⟨a, ob, kvs, c, u, b, rfl, k, ea, e, q⟩ := h
  obtain ⟨u1, u2, rfl, r1, r2⟩ := vals2 r
  have e2 := k.eq r2
  subst e2
  cases (show u1 = Value.ref a from r1)
  obtain ⟨_, _, _, ys, _, o, es, ep, h1, h2, _⟩ := (show ObjOk X.prog X.w H s.heap a (.frz ob (.dT kvs)) from I.hok a _ ea)
  exact PySem.W.kia_one PySem.W.kitx_dict I.kIn ⟨o, h1, h2.1⟩ e (fun z => nomatch z) fun tk => ⟨.bl b, H, I.tok tk, rfl, q⟩
/-- a class that no built-in value is of -/
structure IsiO (K : PySem.W.Frag) (n : Str) : Prop where
  ex : ∃ C, ClsN K n C ∧ ∀ t ∈ tysA, PySem.W.kitOne K (.type t) (.ref C) = some false
/-- an instance of n is of no built-in class but object -/
structure IsiT (K : PySem.W.Frag) (n : Str) : Prop where
  ex : ∃ C, ClsN K n C ∧ SlX.SCls K C ∧ SlX.SIsi K C ∧ ∀ t ∈ knownT, PySem.W.kitOne K (.ref C) (.type t) = some false
/-- own: the classes of the text with instances of slots; tbl: which of their instances are of which of the text's classes -/
def bIsiA (own cls : List Str) (tbl : List ((Str × Str) × Bool)) : Reg → List D → (Res → Prop) → Prop := fun _ ds k => match ds with
  | [.obj n1 _, .cls n2] => ∃ b, tbl.lookup (n1, n2) = some b ∧ k (.val (.bl b))
  | [.obj n1 _, .ty n] => n1 ∈ own ∧ n ∈ knownT ∧ k (.val (.bl false))
  | [d, .cls n] => (tyA d).isSome = true ∧ n ∈ cls ∧ k (.val (.bl false))
  | [d, .ty n] => ∃ t, tyA d = some t ∧ n ∈ knownT ∧ k (.val (.bl (isT t n)))
  | _ => False
section
variable {X : Cx} {B : Base3}
theorem call_isiA {own cls : List Str} {tbl : List ((Str × Str) × Bool)} (h1 : ∀ n ∈ own, IsiT X.K n) (h2 : ∀ n ∈ cls, IsiO X.K n) (h3 : ∀ n1 n2 b, tbl.lookup (n1, n2) = some b → Isi3 X.K n1 n2 b) :
    ∃ r, CallR X (.builtin "isinstance") r ∧ RCall X B r (bIsiA own cls tbl) := by
  refine ⟨fun xs H Q => (rIsi X.K xs H Q ∨ rIsiF X.K xs H Q) ∨ ∃ u, SlX.rIsiSl X.K u xs H Q, fun pins s σ H xs us Q I r h => h.elim (fun h => h.elim (fun h => call_isi pins s σ H xs us Q I r h) fun h => call_isiF pins s σ H xs us Q I r h) fun ⟨u, h⟩ => SlX.call_isiSl u pins s σ H xs us Q I r h, fun pn F H σ E G vs ds k Q S r h hk => ?_⟩
  unfold bIsiA at h
  split at h
  · obtain ⟨b, hl, h⟩ := h
    obtain ⟨v, u, rfl, rx, ry⟩ := hl2 r
    obtain ⟨a, C', dx, xs, rfl, hC', hs, _⟩ := rx.obj' S.w.sub
    cases ry.val (fun _ q => nomatch q) with
    | cls hC2 =>
      obtain ⟨C1, C2, g1, g2, g3, g4, g5⟩ := (h3 _ _ b hl).ex
      cases hC'.eq g1
      cases hC2.eq g2
      exact .inr ⟨.ref _, a, _, dx, _, _, b, rfl, rfl, fun w hw => hw, hs, g3, g4, g5, hk _ h _ F H S (Same.refl F) (.bl _)⟩
  · obtain ⟨ho, hn, h⟩ := h
    obtain ⟨v, u, rfl, rx, ry⟩ := hl2 r
    obtain ⟨a, C', dx, xs, rfl, hC', hs, _⟩ := rx.obj' S.w.sub
    cases ry.val (fun _ q => nomatch q) with
    | ty _ =>
      obtain ⟨C1, g1, g2, g3, g4⟩ := (h1 _ ho).ex
      cases hC'.eq g1
      exact .inr ⟨.type _, a, _, dx, _, _, false, rfl, rfl, fun w hw => hw, hs, g2, g3, g4 _ hn, hk _ h _ F H S (Same.refl F) (.bl _)⟩
  · obtain ⟨ht, hn, h⟩ := h
    obtain ⟨v, u, rfl, rx, ry⟩ := hl2 r
    obtain ⟨t, ht⟩ := Option.isSome_iff_exists.mp ht
    cases ry.val (fun _ q => nomatch q) with
    | @cls C2 _ hC2 =>
      obtain ⟨C1, g1, g2⟩ := (h2 _ hn).ex
      cases hC2.eq g1
      rcases tyXA_of S.w.sub rx ht with ty | ⟨⟨a, ob, kvs, rfl, ea⟩, et⟩
      · exact .inl (.inl ⟨_, .ref C2, _, .ref C2, false, rfl, .own C2, ty, g2 t (tyA_mem ht), hk _ h _ F H S (Same.refl F) (.bl _)⟩)
      · cases et
        exact .inl (.inr ⟨a, ob, kvs, .ref C2, .ref C2, false, rfl, .own C2, ea, g2 _ (tyA_mem ht), hk _ h _ F H S (Same.refl F) (.bl _)⟩)
  · obtain ⟨t, ht, hn, h⟩ := h
    obtain ⟨v, u, rfl, rx, ry⟩ := hl2 r
    cases ry.val (fun _ q => nomatch q) with
    | ty _ =>
      rcases tyXA_of S.w.sub rx ht with ty | ⟨⟨a, ob, kvs, rfl, ea⟩, et⟩
      · exact .inl (.inl ⟨_, .ty _, _, .type _, _, rfl, .ty _, ty, kit_ty (kit_knownA t (tyA_mem ht) _ hn), hk _ h _ F H S (Same.refl F) (.bl _)⟩)
      · cases et
        exact .inl (.inr ⟨a, ob, kvs, .ty _, .type _, _, rfl, .ty _, ea, kit_ty (kit_knownA _ (tyA_mem ht) _ hn), hk _ h _ F H S (Same.refl F) (.bl _)⟩)
  · exact h.elim
theorem le_isiA {e e2 : Expr} {ta : DA} {p pos : Pos} (own cls : List Str) (tbl : List ((Str × Str) × Bool)) (h1 : ∀ n ∈ own, IsiT X.K n) (h2 : ∀ n ∈ cls, IsiO X.K n) (h3 : ∀ n1 n2 b, tbl.lookup (n1, n2) = some b → Isi3 X.K n1 n2 b) (hg : Gl X "isinstance") (hm : X.mg "isinstance" = none) (ha : LP X B [e, e2] ta) (he : starEach [e, e2] X.env = (false, eval e X.env) :: starEach [e2] X.env := by rfl) (hpl : (backTo pos (starEach [e2] X.env)).any (·.1) = false := by rfl) :
    LE X B (.Call (.Name "isinstance" p) [e, e2] [] pos) (dCB (bIsiA own cls tbl) ta) := by
  obtain ⟨r, hc, hr⟩ := call_isiA (B := B) h1 h2 h3
  exact le_callB hc hr hg hm (by decide +kernel) ha (by decide) (by decide) he hpl
theorem all_nil {P : Str → Prop} : ∀ n ∈ ([] : List Str), P n := fun _ h => nomatch h
theorem all_cons {P : Str → Prop} {x : Str} {l : List Str} (h : P x) (t : ∀ n ∈ l, P n) : ∀ n ∈ x :: l, P n := fun n hn => by
  rcases List.mem_cons.mp hn with e | hn
  · rw [e]; exact h
  · exact t n hn
/-! ### dicts as constants -/
/-- a value just made is locked -/
def tLk (t : TE) : TE := fun σ H Q => t σ H fun v H1 => ∃ a u, v = .ref a ∧ H1 a = some u ∧ Mut (some u) ∧ ∀ od, Q v (upd H1 a (.frz od u))
theorem pe_lk {e : Expr} {t : TE} (h : PE X e t) : PE X e (tLk t) := by
  refine ⟨fun pins s σ H Q I hw => ?_⟩
  refine thn (h.run pins s σ _ _ I hw) fun v s1 ⟨x, H1, I1, r, a, u, e1, e2, mu, q⟩ => ?_
  subst e1
  obtain ⟨od, I2⟩ := I1.lock e2 mu
  exact ⟨.ref a, _, I2, r, q od⟩
theorem upd_upd {H : Hp} {p : Addr} {o u : HO} : upd (upd H p o) p u = upd H p u := by
  funext z
  unfold upd
  by_cases h : z = p
  · rw [if_pos h, if_pos h]
  · rw [if_neg h, if_neg h, if_neg h]
end
end L3

set_option Elab.async false
set_option maxRecDepth 100000
set_option maxHeartbeats 4000000
/-! L4: readings that are reckoned: for each plain reading a function, and that it tells the reading. -/
namespace L3
open PySem PySem.Spec PyProof.Rows L2
inductive CR (α : Type) where
  | ok (a : α) (E : Env3) | ex (x : Exc3) (E : Env3) | no
inductive CF where
  | nx (E : Env3) | rt (r : Res) | bk (E : Env3) | ct (E : Env3) | ex (x : Exc3) (E : Env3) | no
/-- what a def gives: a value, an exception, or nothing that is known -/
inductive C1 where
  | ok (r : Res) | ex (x : Exc3) | no
abbrev CE := Env3 → CR Res
abbrev CT := Env3 → CR Bool
abbrev CA := Env3 → CR (List D)
abbrev CP := Env3 → CR (Option Int)
abbrev CS := Env3 → CF
@[inline] def CR.bind {α β : Type} (c : CR α) (f : α → Env3 → CR β) : CR β := match c with
  | .ok a E => f a E
  | .ex x E => .ex x E
  | .no => .no
def CR.sat {α : Type} (dw : DW) (G : Reg) (c : CR α) (k : α → Env3 → Reg → Prop) : Prop := match c with
  | .ok a E => k a E G
  | .ex x E => dw x E G
  | .no => False
def CF.sat (dw : DW) (G : Reg) (c : CF) (D : Ends3) : Prop := match c with
  | .nx E => D.nx E G
  | .rt r => D.rt r G
  | .bk E => D.bk E G
  | .ct E => D.ct E G
  | .ex x E => dw x E G
  | .no => False
def SE (dw : DW) (G : Reg) (t : DE) (c : CE) : Prop := ∀ E k, (c E).sat dw G k → t E G k
def ST (dw : DW) (G : Reg) (t : DT) (c : CT) : Prop := ∀ E k, (c E).sat dw G k → t E G k
def SA (dw : DW) (G : Reg) (t : DA) (c : CA) : Prop := ∀ E k, (c E).sat dw G k → t E G k
def SP (dw : DW) (G : Reg) (t : DO) (c : CP) : Prop := ∀ E k, (c E).sat dw G k → t E G k
def SI (dw : DW) (G : Reg) (t : DI) (c : CA) : Prop := ∀ E k, (c E).sat dw G k → t E G k
def SS (dw : DW) (G : Reg) (t : DSt) (c : CS) : Prop := ∀ D E, (c E).sat dw G D → t D E G
theorem CR.sat_bind {α β : Type} {dw : DW} {G : Reg} {c : CR α} {f : α → Env3 → CR β} {k : β → Env3 → Reg → Prop} (h : (c.bind f).sat dw G k) : c.sat dw G fun a E1 G1 => (f a E1).sat dw G1 k := by
  cases c with
  | ok a E => exact h
  | ex x E => exact h
  | no => exact h
theorem CR.sat_mono {α : Type} {dw : DW} {G : Reg} {c : CR α} {k k' : α → Env3 → Reg → Prop} (h : c.sat dw G k) (hk : ∀ a E, k a E G → k' a E G) : c.sat dw G k' := by
  cases c with
  | ok a E => exact hk a E h
  | ex x E => exact h
  | no => exact h
section
variable {dw : DW} {G : Reg}
/-- first one reading, then what depends on it -/
theorem SE.then {t : DE} {c : CE} (s : SE dw G t c) {α : Type} {f : Res → Env3 → CR α} {E : Env3} {k : α → Env3 → Reg → Prop} {k' : DK} (h : ((c E).bind f).sat dw G k) (hk : ∀ r E1, (f r E1).sat dw G k → k' r E1 G) : t E G k' :=
  s E k' (CR.sat_mono (CR.sat_bind h) fun r E1 h1 => hk r E1 h1)
theorem SA.then {t : DA} {c : CA} (s : SA dw G t c) {α : Type} {f : List D → Env3 → CR α} {E : Env3} {k : α → Env3 → Reg → Prop} {k' : List D → Env3 → Reg → Prop} (h : ((c E).bind f).sat dw G k) (hk : ∀ r E1, (f r E1).sat dw G k → k' r E1 G) : t E G k' :=
  s E k' (CR.sat_mono (CR.sat_bind h) fun r E1 h1 => hk r E1 h1)
theorem SI.then {t : DI} {c : CA} (s : SI dw G t c) {α : Type} {f : List D → Env3 → CR α} {E : Env3} {k : α → Env3 → Reg → Prop} {k' : List D → Env3 → Reg → Prop} (h : ((c E).bind f).sat dw G k) (hk : ∀ r E1, (f r E1).sat dw G k → k' r E1 G) : t E G k' :=
  s E k' (CR.sat_mono (CR.sat_bind h) fun r E1 h1 => hk r E1 h1)
theorem ST.then {t : DT} {c : CT} (s : ST dw G t c) {α : Type} {f : Bool → Env3 → CR α} {E : Env3} {k : α → Env3 → Reg → Prop} {k' : Bool → Env3 → Reg → Prop} (h : ((c E).bind f).sat dw G k) (hk : ∀ r E1, (f r E1).sat dw G k → k' r E1 G) : t E G k' :=
  s E k' (CR.sat_mono (CR.sat_bind h) fun r E1 h1 => hk r E1 h1)
theorem SP.then {t : DO} {c : CP} (s : SP dw G t c) {α : Type} {f : Option Int → Env3 → CR α} {E : Env3} {k : α → Env3 → Reg → Prop} {k' : Option Int → Env3 → Reg → Prop} (h : ((c E).bind f).sat dw G k) (hk : ∀ r E1, (f r E1).sat dw G k → k' r E1 G) : t E G k' :=
  s E k' (CR.sat_mono (CR.sat_bind h) fun r E1 h1 => hk r E1 h1)
/-- an answer that may lack -/
def CR.of {α : Type} (o : Option α) (E : Env3) : CR α := match o with
  | some a => .ok a E
  | none => .no
def cC (d : D) : CE := fun E => .ok (.val d) E
def isI : Res → Option Int
  | .val (.int i) => some i
  | _ => none
def C1.at (c : C1) (E : Env3) : CR Res := match c with
  | .ok r => .ok r E
  | .ex x => .ex x E
  | .no => .no
end
end L3

set_option Elab.async false
set_option maxRecDepth 100000
set_option maxHeartbeats 4000000
/-! L4, part b: the operators and built-ins, reckoned. -/
namespace L3
open PySem PySem.Spec PyProof.Rows L2
end L3

set_option Elab.async false
set_option maxRecDepth 100000
set_option maxHeartbeats 4000000
/-! L4, part c: statements, loops, comprehensions, defs, reckoned. -/
namespace L3
open PySem PySem.Spec PyProof.Rows L2
section
variable {dw : DW} {G : Reg}
instance (n : Nat) : Decidable (ZN.N234 n) := by unfold ZN.N234; infer_instance
/-- a reading that leaves slot i as it is -/
def Keeps (i : Nat) (c : CE) : Prop := ∀ E d, E[i]? = some (Sl3.val d) → match c E with
  | .ok _ E1 => E1[i]? = some (Sl3.val d)
  | _ => True
/-! what keeps the plain slots -/
def KA {α : Type} (c : Env3 → CR α) : Prop := ∀ (E E1 : Env3) (a : α) (i : Nat) (d : D), c E = .ok a E1 → E[i]? = some (Sl3.val d) → E1[i]? = some (Sl3.val d)
theorem KA.at {a : CE} (h : KA a) (i : Nat) : Keeps i a := fun E d e => by
  cases q : a E with
  | ok r E1 => exact h E E1 r i d q e
  | ex x E1 => exact True.intro
  | no => exact True.intro
theorem kOk {α : Type} {a : α} : KA fun E => CR.ok a E := fun E E1 b i d h e => by cases h; exact e
theorem kC {d : D} : KA (cC d) := kOk
end
end L3

set_option Elab.async false
set_option maxRecDepth 100000
set_option maxHeartbeats 4000000
/-! L4, part d: isinstance, repr, ranges as lists, lambdas, reckoned. -/
namespace L3
open PySem PySem.Spec PyProof.Rows L2
section
variable {dw : DW} {G : Reg}
/-! ### what a statement's reckoning shows -/
def isTru : CF → Bool
  | .rt (.val (.bl true)) => true
  | _ => false
theorem tru_of {c : CF} (h : isTru c = true) : c = .rt (.val (.bl true)) := by
  unfold isTru at h
  split at h
  · rfl
  · cases h
theorem SS.tru {t : DSt} {c : CS} (s : SS dw G t c) {E : Env3} {Dn : Ends3} (h : isTru (c E) = true) (hk : Dn.rt (.val (.bl true)) G) : t Dn E G := s Dn E (by rw [tru_of h]; exact hk)
end
end L3
namespace L3
open PySem PySem.Spec PyProof.Rows L2
/-! ### tables of code objects that a promise wants -/
def HP : List (Addr × Str) → Reg → Prop
  | [], _ => True
  | p :: r, G => (p.1, encT p.2) ∈ G ∧ HP r G
end L3

set_option Elab.async false
set_option maxRecDepth 100000
set_option maxHeartbeats 4000000
/-! L5, the end's facts: exceptions' classes, isinstance, defs where no repr is under way. -/
namespace L3
open PySem PySem.Spec PyProof.Rows L2
section
variable {K : PySem.W.Frag} {mg : Str → Option Value}
theorem own0_mk {h : Heap} {x : Str} {C : Addr} {B newId initId : String} {bmB : List Value} (X : K.In h) (G : h.Ns mainGlobals mg) (a : PySem.W.nsIn K mainGlobals x = some (some (.ref C))) (F : ExcBaseFacts B newId initId bmB) (e : PySem.W.excIn K C bmB newId = true) (k : PySem.W.keepIn K (.ref C) = true)
    (s : PySem.W.subIn K (.ref C) (.type "BaseException") = some true) (t : PySem.W.typeIn K (.ref C) = some (.type "type")) : Own0 K mg x := ⟨C, B, newId, initId, bmB, a, PySem.W.mg_of X G a, F, e, k, s, t⟩
theorem em3_mk {n1 n2 : Str} {C1 C2 : Addr} {b : Bool} (a1 : PySem.W.nsIn K mainGlobals n1 = some (some (.ref C1))) (a2 : PySem.W.nsIn K mainGlobals n2 = some (some (.ref C2))) (e : PySem.W.exmOne K (.ref C1) (.ref C2) = some b) : Em3 K n1 n2 b := ⟨C1, C2, a1, a2, e⟩
theorem isiO_mk {n : Str} {C : Addr} (a : PySem.W.nsIn K mainGlobals n = some (some (.ref C))) (e : ∀ t ∈ tysA, PySem.W.kitOne K (.type t) (.ref C) = some false) : IsiO K n := ⟨C, a, e⟩
theorem isiT_mk {n : Str} {C : Addr} (c : SClsN K n) (a : PySem.W.nsIn K mainGlobals n = some (some (.ref C))) (ca : PySem.W.findIn K (.ref C) "__class__" = some (some (.builtin "object.__class__"))) (cn : PySem.W.specialIn K (.builtin "object.__class__") "__get__" = some (some (.builtin "getset_descriptor.__get__"))) (ct : PySem.W.takesIn K (.builtin "object.__class__") = some true) (cm : PySem.W.mroIn K C (.type "object") = some true)
    (e : ∀ t ∈ knownT, PySem.W.kitOne K (.ref C) (.type t) = some false) : IsiT K n := by
  obtain ⟨C', h, sc⟩ := c.ex
  cases ClsN.eq a h
  exact ⟨C, a, sc, ⟨ca, cn, ct, cm⟩, e⟩
theorem xf3_mk {n f : Str} {C : Addr} (a : PySem.W.nsIn K mainGlobals n = some (some (.ref C))) (ga : PySem.W.findIn K (.ref C) "__getattribute__" = some (some (.builtin "BaseException.__getattribute__"))) (gg : PySem.W.findIn K (.ref C) "__getattr__" = some none) (ex : PySem.W.subIn K (.ref C) (.type "BaseException") = some true) (hd : PySem.W.hasDictIn K C = true)
    (no : PySem.W.findIn K (.ref C) f = some none) : Xf3 K n f := ⟨C, a, ⟨ga, gg, ex, hd⟩, no⟩
theorem ok_atG {P : Program} {w : World} {base : Heap} {x : Str} {f : Addr} {k : Nat} {ps : List Str} {sp : DSp} {oc : Value} {od : Option Addr} {fd : FuncData} {osl : Array (Option Value)} (c : CalG P w K mg base x k ps sp) (hm : mg x = some (.ref f)) (l : K.lookup f = some ⟨oc, od, .func fd, osl⟩) : XG.FnG P w K mg base (L2.CX P w) k f fd ps (LSp K sp) := by
  obtain ⟨f', fd', F, hm', -, -, oc', od', osl', l'⟩ := c.ex
  cases hm.symm.trans hm'
  cases l.symm.trans l'
  exact F
end
end L3

set_option Elab.async false
set_option maxRecDepth 100000
set_option maxHeartbeats 4000000
/-! L5: calls without arguments, one of two readings, slots forgotten. -/
namespace L3
open PySem PySem.Spec PyProof.Rows L2
section
variable {X : Cx} {B : Base3}
end
section
open LamX
variable {X : Cx} {B : Base3}
end
theorem own1_mk {P : Program} {K : PySem.W.Frag} {h : Heap} {mg : Str → Option Value} {x f : Str} {C fI : Addr} {B i newId : String} {bmB : List Value} (X : K.In h) (G : h.Ns mainGlobals mg) (a : PySem.W.nsIn K mainGlobals x = some (some (.ref C))) (n : PySem.W.nsIn K mainGlobals "super" = some none)
    (T : XS.SupTxt P K B i newId bmB C fI f) : Own1 P K mg x f := ⟨C, fI, B, i, newId, bmB, a, PySem.W.mg_of X G a, PySem.W.mg_none_of X G n, T⟩
end L3

set_option Elab.async false
set_option maxRecDepth 100000
set_option maxHeartbeats 4000000
/-! L6: tools for what is reckoned of values that are not written. -/
namespace L3
open PySem PySem.Spec PyProof.Rows L2
theorem HP.cons {ps : List (Addr × Str)} {G : Reg} {p : Addr × List D} (h : HP ps G) : HP ps (p :: G) := by
  induction ps with
  | nil => trivial
  | cons a r ih => exact ⟨List.mem_cons_of_mem _ h.1, ih h.2⟩
theorem HP.self : ∀ {ps qs : List (Addr × Str)}, (∀ p ∈ ps, p ∈ qs) → HP ps (qs.map fun p => (p.1, encT p.2))
  | [], _, _ => trivial
  | p :: r, qs, h => ⟨List.mem_map.mpr ⟨p, h p List.mem_cons_self, rfl⟩, HP.self fun x hx => h x (List.mem_cons_of_mem _ hx)⟩
mutual
def D.beq : D → D → Bool
  | .non, .non => true
  | .bl a, .bl b => decide (a = b)
  | .int a, .int b => decide (a = b)
  | .str a, .str b => decide (a = b)
  | .ref a, .ref b => decide (a = b)
  | .ty a, .ty b => decide (a = b)
  | .tup a, .tup b => D.beqL a b
  | .lst a, .lst b => D.beqL a b
  | .scr a, .scr b => decide (a = b)
  | .obj n a, .obj m b => decide (n = m) && D.beqL a b
  | .cls a, .cls b => decide (a = b)
  | .tag a, .tag b => decide (a = b)
  | _, _ => false
def D.beqL : List D → List D → Bool
  | [], [] => true
  | a :: r, b :: s => D.beq a b && D.beqL r s
  | _, _ => false
end
/-- it gives that very value -/
def C1.gives (c : C1) (d : D) : Bool := match c with
  | .ok (.val e) => D.beq e d
  | _ => false
theorem spots_le {m n : Int} (h0 : 1 ≤ m) (hn : True) : 0 ≤ (if (if n < m then n else m) > 1 then (if n < m then n else m) else 1) ∧ (if (if n < m then n else m) > 1 then (if n < m then n else m) else 1) ≤ m := by
  by_cases h1 : n < m
  · simp only [if_pos h1]
    split <;> omega
  · simp only [if_neg h1]
    split <;> omega
section
variable {X : Cx} {B : Base3}
end
end L3

set_option Elab.async false
set_option maxRecDepth 100000
set_option maxHeartbeats 4000000
/-! ZE: a dict is no text: == of both. -/
namespace PySem.SeqAt
open PySem Builtin
variable {A : Around} {s : Shared}
end PySem.SeqAt
namespace L3
open PySem PySem.Spec PyProof.Rows L2
section
variable {X : Cx} {B : Base3}
def isDc : D → Bool
  | .dcK _ _ => true
  | _ => false
end
end L3

set_option Elab.async false
set_option maxRecDepth 100000
set_option maxHeartbeats 4000000
/-! LQ: words of errors, told for reckoned calls -/
namespace L3
open PySem PySem.Spec PyProof.Rows L2
theorem sh_ss (ss : List Str) (h : (ss.all strOkC) = true) : D.sh (.lst (ss.map D.str)) = true := by
  refine shC_of (List.all_eq_true.mpr fun x hx => ?_)
  obtain ⟨s, hs, rfl⟩ := List.mem_map.mp hx
  exact List.all_eq_true.mp h s hs
end L3

set_option Elab.async false
set_option maxRecDepth 100000
set_option maxHeartbeats 4000000
/-! GN: next(generator expression, a default): what stands before the first yield. -/
namespace GN
open PySem PySem.Spec PyProof.Rows L2
section
variable {prog : Program} {w : World} {A : Around} {elt target iter c : Expr} {scope : Scope} {pos : Pos} {I : Addr} {cenv : Env} {St : Nat → Shared → Prop} {Done : Shared → Prop} {Out : Value → Shared → Prop}
end
/-- the place of the first pair whose sides differ -/
def fd : List (Int × Int) → Option Nat
  | [] => none
  | p :: ps => if p.1 = p.2 then (fd ps).map (· + 1) else some 0
section
variable {prog : Program} {w : World} {scope : Scope} {xa xb xc : Str} {cenv : Env} {K0 : Shared} {e it C l : Addr} {items : Array Value} {ps : List (Int × Int)}
end
end GN

set_option Elab.async false
set_option maxRecDepth 100000
set_option maxHeartbeats 4000000
/-! GN2: next((a + 1 for a, (b, c) in enumerate(pairs) if b != c), None) over the layer's heap. -/
namespace GN
open PySem PySem.Spec PyProof.Rows L2 GxR
section
variable {X : Cx} {c P : Addr} {xa xb xc : Str} {scope : Scope} {e : Expr} {ta : TA} {k : Nat} {pn pe p1 p2 p3 p4 p5 q1 q2 q3 q4 q5 q6 gpos epos pos cp : Pos} {k1 k2 j1 j2 : Nat}
end
end GN

set_option Elab.async false
set_option maxRecDepth 100000
set_option maxHeartbeats 4000000
/-! L10: next((a + 1 for a, (b, c) in enumerate(pairs) if b != c), None), read over plain values. -/
namespace L3
open PySem PySem.Spec PyProof.Rows L2 LamX
section
variable {K : PySem.W.Frag} {F : Hp}
end
section
variable {X : Cx} {B : Base3}
end
end L3

set_option Elab.async false
set_option maxRecDepth 100000
set_option maxHeartbeats 4000000
/-! ZL: list(zip(..)) of lists and tuples. -/
namespace ZN
open PySem PySem.Spec PyProof.Rows L2
section
variable {prog : Program} {w : World} {A : Around} {E : Value → Shared → Prop} {s : Shared}
/-- a zip with all behind it, at the i-th turn; S: the list that is filled -/
def ZLst (S z TI TO : Nat) (cs : List Src) (i : Nat) (h : Heap) : Prop := IsTup h TI (cs.map fun c => .ref c.it) ∧ (∀ c ∈ cs, ItAt c.k h c.it c.a i) ∧
  ((IsZip h z TI TO .none ∧ ∃ ys : List Value, ys.length = cs.length ∧ IsTup h TO ys) ∨ ∃ (T : Nat) (f : Bool) (oT : Obj), IsZipHeld h z TI TO T f ∧ h.get? T = some oT ∧ T ≠ S ∧ T ≠ z ∧ T ∉ cs.map Src.it) ∧ ∃ o, h.get? TO = some o
theorem ZLst.frame {S z TI TO : Nat} {cs : List Src} {i : Nat} {h h' : Heap} (st : ZLst S z TI TO cs i h) (a1 : TI ≠ S) (a2 : TO ≠ S) (a3 : z ≠ S) (a4 : ∀ c ∈ cs, c.it ≠ S) (k : ∀ b o, b ≠ S → h.get? b = some o → h'.get? b = some o) : ZLst S z TI TO cs i h' := by
  obtain ⟨b1, b2, b3, oO, b4⟩ := st
  refine ⟨k _ _ a1 b1, fun c hc => (b2 c hc).over fun o e => k _ o (a4 c hc) e, ?_, oO, k _ _ a2 b4⟩
  rcases b3 with ⟨c1, ys, c2, c3⟩ | ⟨T, f, oT, c1, c2, c3, c4, c5⟩
  · exact .inl ⟨k _ _ a3 c1, ys, c2, k _ _ a2 c3⟩
  · exact .inr ⟨T, f, oT, k _ _ a3 c1, k _ _ c3 c2, c3, c4, c5⟩
/-- what has been handed out so far, each in a tuple of its own -/
def Rows (n0 : Nat) (S : Nat) (ts : List Nat) (rows : List (List Value)) (h : Heap) : Prop := ts.Nodup ∧ ts.length ≤ rows.length ∧ ∀ (j : Nat) (t : Nat), ts[j]? = some t → n0 ≤ t ∧ t ≠ S ∧ ∃ vs, rows[j]? = some vs ∧ IsTup h t vs
/-- what stands ahead of list(zip(..)) -/
structure Ahead (z TI TO n0 : Nat) (cs : List Src) (xs : Src → Array Value) (rows : List (List Value)) (h : Heap) : Prop where
  D : Apart z TI TO cs
  ne : cs ≠ []
  n : cs.length < 1000
  nz : n0 ≤ z
  nI : n0 ≤ TI
  nO : n0 ≤ TO
  ni : ∀ c ∈ cs, n0 ≤ c.it
  lo : ∀ c ∈ cs, c.a < n0
  sq : ∀ c ∈ cs, SqAt c.k h c.a (xs c)
  row : ∀ (i : Nat) (vs : List Value), rows[i]? = some vs → cs.map (fun c => (xs c)[i]?) = vs.map some
  last : ∃ c ∈ cs, (xs c)[rows.length]? = none
  hz : rows.length ≤ sizeLine
  zip : IsZip h z TI TO .none
  ti : IsTup h TI (cs.map fun c => .ref c.it)
  to : ∃ ys : List Value, ys.length = cs.length ∧ IsTup h TO ys
  it : ∀ c ∈ cs, ItAt c.k h c.it c.a 0
theorem Ahead.keep {z TI TO n0 : Nat} {cs : List Src} {xs : Src → Array Value} {rows : List (List Value)} {h h' : Heap} (a : Ahead z TI TO n0 cs xs rows h) (k : ∀ b o, h.get? b = some o → h'.get? b = some o) : Ahead z TI TO n0 cs xs rows h' :=
  ⟨a.D, a.ne, a.n, a.nz, a.nI, a.nO, a.ni, a.lo, fun c hc => (a.sq c hc).over fun o e => k _ o e, a.row, a.last, a.hz, k _ _ a.zip, k _ _ a.ti, let ⟨ys, e, q⟩ := a.to; ⟨ys, e, k _ _ q⟩, fun c hc => (a.it c hc).over fun o e => k _ o e⟩
theorem Ahead.st {S z TI TO n0 : Nat} {cs : List Src} {xs : Src → Array Value} {rows : List (List Value)} {h : Heap} (a : Ahead z TI TO n0 cs xs rows h) : ZLst S z TI TO cs 0 h :=
  ⟨a.ti, a.it, .inl ⟨a.zip, a.to⟩, let ⟨ys, _, q⟩ := a.to; ⟨_, q⟩⟩
end
end ZN

set_option Elab.async false
set_option maxRecDepth 100000
set_option maxHeartbeats 4000000
/-! ZL2: list(zip(..)) over the layer's heap. -/
namespace ZN
open PySem PySem.Spec PyProof.Rows L2
section
variable {X : Cx} {pins : List (Addr × Obj)} {σ : L2.St} {H H' : Hp} {s : Shared}
end
section
variable {X : Cx} {p p2 pos pos2 : Pos} {e : Expr} {es : List Expr} {ta : TA}
end
end ZN

set_option Elab.async false
set_option maxRecDepth 100000
set_option maxHeartbeats 4000000
/-! L11: list(zip(..)) over plain values. -/
namespace L3
open PySem PySem.Spec PyProof.Rows L2
section
inductive RepT (K : PySem.W.Frag) (F : Hp) : List (List D) → List (List V) → Prop
  | nil : RepT K F [] []
  | cons {d : List D} {r : List V} {ds : List (List D)} {rs : List (List V)} : RepL K F d r → RepT K F ds rs → RepT K F (d :: ds) (r :: rs)
theorem RepT.mono {K : PySem.W.Frag} {F F' : Hp} (e : Same F F') : ∀ {ds : List (List D)} {rs : List (List V)}, RepT K F ds rs → RepT K F' ds rs
  | _, _, .nil => .nil
  | _, _, .cons h t => .cons (RepL.mono e _ _ h) (RepT.mono e t)
theorem RepT.of {K : PySem.W.Frag} {F : Hp} : ∀ {ds : List (List D)} {rs : List (List V)}, ds.length = rs.length → (∀ (i : Nat) d r, ds[i]? = some d → rs[i]? = some r → RepL K F d r) → RepT K F ds rs
  | [], [], _, _ => .nil
  | [], _ :: _, h, _ => by cases h
  | _ :: _, [], h, _ => by cases h
  | d :: ds, r :: rs, h, g => .cons (g 0 d r rfl rfl) (RepT.of (by simpa using h) fun i d r h1 h2 => g (i + 1) d r (by simpa using h1) (by simpa using h2))
variable {K : PySem.W.Frag} {B : Base3} {pn : Pend} {σ : L2.St} {E : Env3} {G : Reg}
end
section
variable {X : Cx} {B : Base3} {K : PySem.W.Frag}
end
end L3

set_option Elab.async false
set_option maxRecDepth 100000
set_option maxHeartbeats 4000000
/-! L7: try with except clauses, reckoned. -/
namespace L3
open PySem PySem.Spec PyProof.Rows L2
section
variable {a : Addr} {x : Exc3} {o : Option Nat}
def hC (d : D) : Exc3 → Option Res := fun _ => some (.val d)
def hF (xt : List (Str × Str)) (f : Str) : Exc3 → Option Res := fun x => match x.2 with
  | some (g, d) => if f = g ∧ xt.contains (x.1, f) = true then some (.val d) else none
  | none => none
end
/-- repr in a suite -/
theorem le_reprS {X : Cx} {B : Base3} {e : Expr} {ta : DA} {p pos : Pos} (hgd : X.A.guards = some []) (hu : X.A.units + 200 < cLine) (hg : Gl X "repr") (hm : X.mg "repr" = none) (ha : LP X B [e] ta) (he : starEach [e] X.env = (false, eval e X.env) :: starEach [] X.env := by rfl) (hpl : (backTo pos (starEach [] X.env)).any (·.1) = false := by rfl) :
    LE X B (.Call (.Name "repr" p) [e] [] pos) (dCB bReprG ta) := le_callB (call_reprG hgd hu) (fun pn F H σ E G vs ds k Q S r h hk => by
  unfold bReprG at h
  split at h
  · obtain ⟨v, rfl, rx⟩ := hl1 r
    obtain ⟨x, h1, h4⟩ := h
    exact rpr_reads S.w.sub h1 rx (hk _ h4 _ F H S (Same.refl F) (.str _))
  · exact h.elim) hg hm (by decide +kernel) ha (by decide) (by decide) he hpl
end L3

set_option Elab.async false
set_option maxRecDepth 100000
set_option maxHeartbeats 4000000
/-! L8: extend, pop, divmod. -/
namespace L3
open PySem PySem.Spec PyProof.Rows L2
section
variable {X : Cx} {B : Base3}
end
/-! ### reckoned -/
section
variable {dw : DW} {G : Reg}
end
end L3

set_option Elab.async false
set_option maxRecDepth 100000
set_option maxHeartbeats 4000000
/-! L9: comprehensions with two fors. -/
namespace L3
open PySem PySem.Spec PyProof.Rows L2
def NoAt (vs : List Nat) (E : Env3) : Prop := ∀ i ∈ vs, ∀ s, E[i]? = some s → s = Sl3.no
theorem noAt_wipe (E : Env3) (vs : List Nat) : NoAt vs (wipe3 E vs) := fun i hi s hs => by
  cases s with
  | no => rfl
  | val d => exact absurd hi (wipe3_val hs).2
  | own d => exact absurd hi (wipe3_own hs).2
  | ownD d => exact absurd hi (wipe3_ow hs rfl).2
  | new nm fs => exact absurd hi (wipe3_some (s := Sl3.new nm fs) (fun q => nomatch q) hs).2
theorem wipe3_out (E : Env3) : ∀ (vs : List Nat) {j : Nat}, j ∉ vs → (wipe3 E vs)[j]? = E[j]?
  | [], j, _ => rfl
  | v :: r, j, hm => by
    have h1 : j ≠ v := fun e => hm (by rw [e]; exact List.mem_cons_self)
    have h2 : j ∉ r := fun h => hm (List.mem_cons_of_mem _ h)
    show ((wipe3 E r).set v Sl3.no)[j]? = _
    rw [List.getElem?_set_ne (Ne.symm h1)]
    exact wipe3_out E r h2
theorem wipe3_noAt {E : Env3} {vs : List Nat} (h : NoAt vs E) : wipe3 E vs = E := by
  apply List.ext_getElem?
  intro j
  by_cases hm : j ∈ vs
  · cases q : E[j]? with
    | none =>
      apply List.getElem?_eq_none
      rw [wipe3_length]
      exact List.getElem?_eq_none_iff.mp q
    | some s =>
      have e := h j hm s q
      subst e
      have hj := lt_of_look q
      cases q3 : (wipe3 E vs)[j]? with
      | none =>
        have := List.getElem?_eq_none_iff.mp q3
        rw [wipe3_length] at this
        omega
      | some t => rw [noAt_wipe E vs j hm t q3]
  · exact wipe3_out E vs hm
theorem wipe_wipe {σ : L2.St} {vs vs1 : List Nat} (h : ∀ i ∈ vs1, i ∈ vs) : wipe (wipe σ vs1) vs = wipe σ vs := by
  apply List.ext_getElem?
  intro j
  rw [wipe_get, wipe_get, wipe_get]
  by_cases q : j ∈ vs
  · rw [if_pos q, if_pos q]
    by_cases q1 : j ∈ vs1
    · rw [if_pos q1]; cases σ[j]? <;> rfl
    · rw [if_neg q1]
  · rw [if_neg q, if_neg q, if_neg fun z => q (h j z)]
section
variable {K : PySem.W.Frag} {B : Base3}
theorem St3.wipeBoth {pn : Pend} {F H : Hp} {σ : L2.St} {E : Env3} {G : Reg} (S : St3 K B pn F H σ E G) (vs : List Nat) : St3 K B pn F H (wipe σ vs) (wipe3 E vs) G := S.wipeS vs (wipe_length σ vs) fun i hi => wipe_out' hi
end
section
variable {X : Cx} {B : Base3}
end
/-! ### reckoned -/
section
variable {dw : DW} {G : Reg}
end
end L3

set_option Elab.async false
set_option maxRecDepth 100000
set_option maxHeartbeats 4000000
/-! L12: == of two instances by their own __eq__; range with three arguments. -/
namespace L3
open PySem PySem.Spec PyProof.Rows L2
section
variable {X : Cx} {B : Base3}
theorem notFirst_self (K : PySem.W.Frag) (C : Addr) : PySem.W.notFirst K C (.ref C) = true := by
  unfold PySem.W.notFirst
  rw [Bool.or_eq_true]
  exact .inl (by simp)
end
section
variable {X : Cx} {B : Base3} {K : PySem.W.Frag}
end
section
variable {X : Cx} {B : Base3}
end
end L3

set_option Elab.async false
set_option maxRecDepth 100000
set_option maxHeartbeats 4000000
/-! L13: a list of our own is lent to a call: for its length the list stands as a register. -/
namespace L3
open PySem PySem.Spec PyProof.Rows L2
section
variable {X : Cx} {B : Base3}
end
section
variable {K : PySem.W.Frag} {B : Base3} {pn : Pend} {F H : Hp} {σ : L2.St} {E : Env3} {G : Reg}
theorem St3.back {b : Addr} {ds : List D} (S : St3 K B pn F H σ E (G ++ [(b, ds)])) {i : Nat} (hl : isL ds = true) (hi : E[i]? = some (Sl3.val (.ref b))) (nB : B.H b = none) (nG : b ∉ B.G) :
    St3 K B pn F H σ (E.set i (.own ds)) G := by
  have mG : ∀ a, a ∈ (G ++ [(b, ds)]).map (·.1) ↔ a ∈ G.map (·.1) ∨ a = b := fun a => by
    rw [List.map_append, List.mem_append]; simp
  have nd := S.w.nd
  rw [List.map_append, List.nodup_append] at nd
  have bG : b ∉ G.map (·.1) := fun h => nd.2.2 b h b (by simp) rfl
  obtain ⟨nF, o, ho, ro⟩ := S.w.reg b ds (List.mem_append.mpr (.inr (List.mem_singleton.mpr rfl)))
  obtain ⟨xs, rfl, rx⟩ := ro.lstOf hl
  obtain ⟨v, hv, rv⟩ := S.slot i _ hi
  cases rv
  have nP : b ∉ pn.map (·.1) := fun h => by
    obtain ⟨p, hp, rfl⟩ := List.mem_map.mp h
    exact (S.pend p.1 p.2 hp).2.2.2 ((mG _).mpr (.inr rfl))
  have fb : Fre K B pn F H G b ds := ⟨nF, nB, bG, nP, xs, ho, rx⟩
  have oth : ∀ (j : Nat) (t : Sl3) (d : D), E[j]? = some t → t.ow = some d → ∃ a, σ[j]? = some (some (V.ref a)) ∧ a ≠ b ∧ FreX K B pn F H G a d := fun j t d q ho => by
    obtain ⟨a, ha, g⟩ := S.own j t d q ho
    exact ⟨a, ha, fun z => g.nG ((mG a).mpr (.inr z)), ⟨g.nF, g.nB, fun z => g.nG ((mG a).mpr (.inl z)), g.nP, g.ex⟩⟩
  refine ⟨⟨S.w.sub, fun a es h => S.w.reg a es (List.mem_append.mpr (.inl h)), nd.1⟩, S.keepF, S.keepH, S.unfr, fun a h => S.regs a ((mG a).mpr (.inl h)), fun a h => ?_, by rw [List.length_set]; exact S.len, fun j d h => ?_, fun j t d h ho => ?_, fun j k t u d e a h1 h2 o1 o2 h3 h4 => ?_, fun a o h => ?_, S.pnd, fun nm fs h => ?_⟩
  · rcases (mG a).mp (S.regk a h) with z | rfl
    · exact z
    · exact absurd h nG
  · rcases set_look h with ⟨_, q⟩ | ⟨_, q⟩
    · cases q
    · exact S.slot j d q
  · rcases set_look h with ⟨rfl, q⟩ | ⟨_, q⟩
    · subst q; cases ho; exact ⟨b, hv, fb.x⟩
    · obtain ⟨a, ha, _, g⟩ := oth j t d q ho
      exact ⟨a, ha, g⟩
  · rcases set_look h1 with ⟨rfl, q⟩ | ⟨_, q1⟩
    · rcases set_look h2 with ⟨rfl, _⟩ | ⟨_, q2⟩
      · rfl
      · obtain ⟨c, hc, nc, _⟩ := oth k u e q2 o2
        rw [hv] at h3; cases h3
        rw [hc] at h4; cases h4
        exact absurd rfl nc
    · rcases set_look h2 with ⟨rfl, q⟩ | ⟨_, q2⟩
      · obtain ⟨c, hc, nc, _⟩ := oth j t d q1 o1
        rw [hv] at h4; cases h4
        rw [hc] at h3; cases h3
        exact absurd rfl nc
      · exact S.ownd j k t u d e a q1 q2 o1 o2 h3 h4
  · obtain ⟨h1, h2, h3, h4⟩ := S.pend a o h
    exact ⟨h1, h2, h3, fun z => h4 ((mG a).mpr (.inl z))⟩
  · rcases set_look h with ⟨_, q⟩ | ⟨_, q⟩
    · cases q
    · exact S.news nm fs q
end
/-- a call under a narrower promise -/
theorem Cal3.weak {P : Program} {w : World} {K : PySem.W.Frag} {mg : Str → Option Value} {base : Heap} {x : Str} {k : Nat} {ps : List Str} {sp sp' : DSp} (c : Cal3 P w K mg base x k ps sp) (h : ∀ ds G q e, sp' ds G q e → sp ds G q e) : Cal3 P w K mg base x k ps sp' := by
  obtain ⟨f, fd, F, r⟩ := c.ex
  exact ⟨f, fd, F.imp fun vs H Q E ⟨F0, G, ds, k, kx, h1, h2, h3, h4, h5⟩ => ⟨F0, G, ds, k, kx, h1, h2, h ds G k kx h3, h4, h5⟩, r⟩
end L3

set_option Elab.async false
set_option maxRecDepth 100000
set_option maxHeartbeats 4000000
/-! L14: a, b, c = x, [..], z with a list of our own in the midst; a fresh list handed on as a register. -/
namespace L3
open PySem PySem.Spec PyProof.Rows L2
section
variable {X : Cx} {B : Base3}
end
section
variable {X : Cx}
end
end L3

set_option Elab.async false
set_option maxRecDepth 100000
set_option maxHeartbeats 4000000
/-! L15: pop at a place; len(set(xs)) of a fresh list of ints, all unlike. -/
namespace L3
open PySem PySem.Spec PyProof.Rows L2
section
variable {X : Cx} {B : Base3}
end
end L3

set_option Elab.async false
set_option maxRecDepth 100000
set_option maxHeartbeats 4000000
/-! L21: str(x), x an instance whose class has a __str__ of its own. -/
namespace L3
open PySem PySem.Spec PyProof.Rows L2
section
variable {X : Cx} {B : Base3}
def rStrOwn (C : Addr) (sp : Sp) (E : XK) : List V → Hp → VK → Prop := fun xs H Q => ∃ a dx vs, xs = [V.ref a] ∧ SlX.Slt H a C dx vs ∧ sp [.ref a] H (fun z H' => ∃ y, z = .str y ∧ Q z H') E
theorem call_strOwn {CX : CXT} {C g : Addr} {n : Nat} {sp : Sp} {E : XK} (hs : PySem.W.findIn X.K (.ref C) "__str__" = some (some (.ref g))) (hf : PySem.W.isFn X.K (.ref g) = true) (F : FnR X.prog X.w X.K X.mg X.base CX n g sp) (hr : Room (n + 2) X.A) (hx : Passes CX X E) : CallR X (.type "str") (rStrOwn C sp E) := by
  intro pins s σ H xs us Q I r h
  obtain ⟨a, dx, vs, rfl, hsl, q⟩ := h
  obtain ⟨u, rfl, ru⟩ := r.one
  cases (show u = Value.ref a from ru)
  obtain ⟨sl, od, _, J, _⟩ := SlX.slt_inst I hsl
  have hr2 : Room n X.A.in1.in1 := (show Room (n + 1) X.A.in1 from Room.in1 hr).in1
  refine PySem.W.kso_call hr2.units0 I.kIn J hs hf (wpAny_mono (wpAny_call (SlX.run_at (us := [.ref a]) (ws := [.ref a]) F hr2 I.env0.in1.in1 hx I (.cons rfl .nil) q)) (fun w s' z => ?_) fun _ _ x => x)
  obtain ⟨z', H', I', rz, y, ey, qz⟩ := z
  subst ey
  obtain ⟨t, e⟩ := (show ∃ t, w = Value.str y t from rz)
  cases e
  exact ⟨.str y, H', I', ⟨t, rfl⟩, qz⟩
def dStrO (nm : Str) (sp : DSp) (ta : DA) : DE := fun E G k => ta E G fun ds E1 G1 => ∃ fs, ds = [.obj nm fs] ∧ sp [.obj nm fs] G1 (fun r G2 => ∃ y, r = .val (.str y) ∧ k r E1 G2) (fun _ _ => False)
theorem le_strO {nm : Str} {k j : Nat} {sp : DSp} {e : Expr} {ta : DA} {p0 pos : Pos} (p : Meth3 X.prog X.w X.K X.mg X.base nm "__str__" k sp) (hr : Room j X.A) (hk : k + 2 ≤ j) (hg : Gl X "str") (hm : X.mg "str" = none) (ha : LP X B [e] ta)
    (he : starEach [e] X.env = (false, eval e X.env) :: starEach [] X.env := by rfl) (hpl : (backTo pos (starEach [] X.env)).any (·.1) = false := by rfl) : LE X B (.Call (.Name "str" p0) [e] [] pos) (dStrO nm sp ta) := by
  obtain ⟨C, g, fd, ps, hC, sc, M, Fn, hbd⟩ := p.ex
  refine ⟨pe_imp (pe_callTy (call_strOwn (E := fun _ _ _ => False) M.at_ M.fn (Fn.raw hbd .nil) (hr.mono hk) passF) hg hm rfl ha.pa (by decide) (by decide) he hpl) fun σ H Q ⟨pn, F, E, G, k', S, ht, hk'⟩ => ⟨pn, F, E, G, _, S, ht, fun ds E1 G1 ⟨fs, ed, h1⟩ vs F1 H1 S1 s1 r1 => ?_⟩⟩
  subst ed
  cases r1 with
  | cons r rr =>
    cases rr
    obtain ⟨a1, C1, dx, xs, rfl, hC1, hs1, ra⟩ := r.obj' S1.w.sub
    cases hC.eq hC1
    refine ⟨a1, dx, _, rfl, hs1, F1, G1, [.obj nm fs], _, _, S1.w, .cons ra .nil, h1, fun r' G' ⟨y, er, h3⟩ v F3 H3 A r3 => ?_, fun _ _ z => z.elim⟩
    subst er
    have r4 := S1.retR r3
    cases r4
    exact ⟨y, rfl, hk' _ _ _ h3 _ F3 H3 (S1.wldAfter A) (s1.trans A.keepF) (.str y)⟩
end
end L3

set_option Elab.async false
set_option maxRecDepth 100000
set_option maxHeartbeats 4000000
/-! L22: x != y of two instances whose class has an __eq__ of its own and no __ne__. -/
namespace L3
open PySem PySem.Spec PyProof.Rows L2
section
variable {prog : Program} {w : World} {A : Around} {E : Value → Shared → Prop} {s : Shared} {K : PySem.W.Frag} {x C L f : Addr} {h₀ : Heap} {m : Str → Option Value} {ox : Obj} {od : Option Obj} {b tb : Value}
theorem ifBound_B {M : Model} {name : Str} {id : String} {args : List Value} {Q : Option Value → Shared → Prop} (X : K.In s.heap) (I : PySem.W.InstAt s.heap x ox C od) (hs : PySem.W.findIn K (.ref C) name = some (some (.builtin id)))
    (hb : ∀ self, bindSpecial (.builtin id) self = pure (.builtin id, [self])) (h : wpAny M A (call (.builtin id) (.ref x :: args)) (fun v => Q (some v)) E s) : wpAny M A (callSpecialIfBound? (.ref x) name args) Q E s := by
  simp only [callSpecialIfBound?, bindSpecialIfBound?]
  refine wpAny_holding (wpAny_bind (wpAny_bind (wpAny_bind (I.type.here ((PySem.W.looks_findIn X hs).here ?_)))))
  refine wpAny_bind (wpAny_askSetting (wpAny_ite ?_))
  have fin : wpAny M A (call (.builtin id) ([.ref x] ++ args) >>= fun v => pure (some v)) Q E s := wpAny_bind (wpAny_mono h (fun v s' h' => wpAny_pure h') fun _ _ h' => h')
  split
  · exact wpAny_bind ((PySem.W.Looks.of_pure (hb _)).here (wpAny_pure (by exact fin)))
  · exact wpAny_tryCatch (wpAny_bind ((PySem.W.Looks.of_pure (hb _)).here (wpAny_pure (by exact fin))))
open Builtin in
/-- what __ne__ of object answers, by the own __eq__ -/
theorem ne_obj {Q : Value → Shared → Prop} (hu : A.in1.units < cLine) (X : K.In s.heap) (I : PySem.W.InstAt s.heap x ox C od) (hm : PySem.W.mroIn K C (.type "object") = some true) (he : PySem.W.findIn K (.ref C) "__eq__" = some (some (.ref f))) (hf : PySem.W.isFn K (.ref f) = true)
    (h : wpAny (model prog w) A.in1 (call (.ref f) [.ref x, b]) (fun v s' => ∃ c, v = .bool c ∧ Q (.bool (!c)) s') E s) : wpAny (model prog w) A (call (.builtin "object.__ne__") [.ref x, b]) Q E s := by
  refine wpAny_call (codeAny_call_builtin PySem.F.cmp_object.ne.plain PySem.F.entry_object_ne (PySem.W.check_slot (i := "object.__ne__") (owner := "object") (n := "__ne__") PySem.F.cmpKind_ne PySem.F.cmpSplit_ne (I.type.andThen (PySem.W.looks_mroIn X hm)) (PySem.F.args_object_ne_2 _ _) ?_))
  unfold Builtin.«object.__ne__»
  refine wpAny_bind (m := slotArgs "__ne__" 1 _) (wpAny_pure ?_)
  refine wpAny_bind (m := cRoomFor _ _) (wpAny_cRoomFor hu ?_)
  refine wpAny_bind (m := callSpecialIfBound? (.ref x) (Str.ofString "__eq__") _) (PySem.W.ifBound_K X I he hf (wpAny_mono h (fun v s' ⟨c, e, hq⟩ => ?_) fun _ _ y => y))
  subst e
  exact wpAny_bind (wpAny_pure (wpAny_pure hq))
theorem ne_K {Q : Value → Shared → Prop} (hu0 : A.units < cLine) (hu : A.in1.units < cLine) (F : Fr h₀ L s.heap m) (X₀ : K.In h₀) (I : PySem.W.InstAt s.heap x ox C od) (hb : PySem.W.Looks (model prog w) s.heap (typeOf b) tb) (hn : PySem.W.notFirst K C tb = true)
    (hs : PySem.W.findIn K (.ref C) "__ne__" = some (some (.builtin "object.__ne__"))) (hm : PySem.W.mroIn K C (.type "object") = some true) (he : PySem.W.findIn K (.ref C) "__eq__" = some (some (.ref f))) (hf : PySem.W.isFn K (.ref f) = true)
    (h : wpAny (model prog w) A.in1 (call (.ref f) [.ref x, b]) (fun v s' => ∃ c, v = .bool c ∧ Q (.bool (!c)) s') E s) : wpAny (model prog w) A (richCompare .NotEq (.ref x) b) Q E s := by
  have X := X₀.keeps F.keep
  have one : wpAny (model prog w) A (tryCompare (.ref x) "__ne__" b) (fun r s' => ∃ v, r = some v ∧ Q v s') E s := by
    unfold tryCompare
    refine wpAny_bind (ifBound_B X I hs (fun self => PySem.F.cmp_object.ne.bind self) (ne_obj (Q := fun v s' => ∃ c, v = .bool c ∧ Q v s') hu X I hm he hf (wpAny_mono h (fun v s' ⟨c, e, hq⟩ => ⟨c, e, _, rfl, hq⟩) fun _ _ y => y) |> fun z => wpAny_mono z (fun v s' ⟨c, e, hq⟩ => ?_) fun _ _ y => y))
    subst e
    exact wpAny_pure ⟨_, rfl, hq⟩
  unfold richCompare
  simp only [oneThing_ref]
  refine wpAny_holding (wpAny_bind (wpAny_cRoomFor hu0 ?_))
  refine wpAny_bind (I.type.here (wpAny_bind (hb.here ?_)))
  split
  · rename_i q
    have e : PySem.W.subIn K tb (.ref C) = some false := by
      rcases Bool.or_eq_true_iff.mp hn with e | e
      · rw [beq_iff_eq.mp e] at q; simp at q
      · exact beq_iff_eq.mp e
    refine wpAny_bind ((PySem.W.looks_subIn X e).here ?_)
    simp only [Bool.false_eq_true, if_false]
    refine wpAny_bind (wpAny_mono one (fun r s' z => ?_) fun _ _ e => e)
    obtain ⟨v, rfl, hq⟩ := z
    exact wpAny_pure hq
  · refine wpAny_bind (wpAny_pure ?_)
    simp only [Bool.false_eq_true, if_false]
    refine wpAny_bind (wpAny_mono one (fun r s' z => ?_) fun _ _ e => e)
    obtain ⟨v, rfl, hq⟩ := z
    exact wpAny_pure hq
end
section
variable {X : Cx} {B : Base3}
def rNeOwn (K : PySem.W.Frag) (C : Addr) (sp : Sp) (E : XK) : R2 := fun x y H Q => ∃ a dx vs b C' dy ws, x = .ref a ∧ y = .ref b ∧ SlX.Slt H a C dx vs ∧ SlX.Slt H b C' dy ws ∧ PySem.W.notFirst K C (.ref C') = true ∧ sp [x, y] H (fun z H' => ∃ c, z = .bl c ∧ Q (.bl (!c)) H') E
theorem op_neOwn {CX : CXT} {C g : Addr} {n : Nat} {sp : Sp} {E : XK} (hne : PySem.W.findIn X.K (.ref C) "__ne__" = some (some (.builtin "object.__ne__"))) (hm : PySem.W.mroIn X.K C (.type "object") = some true) (hs : PySem.W.findIn X.K (.ref C) "__eq__" = some (some (.ref g))) (hf : PySem.W.isFn X.K (.ref g) = true)
    (F : FnR X.prog X.w X.K X.mg X.base CX n g sp) (hr : Room (n + 1) X.A) (hx : Passes CX X E) : OpR X (compareOp .NotEq) (rNeOwn X.K C sp E) := by
  intro pins s σ H x y v u Q I rx ry h
  obtain ⟨a, dx, vs, b, C', dy, ws, rfl, rfl, ha, hb, hn, q⟩ := h
  cases (show v = Value.ref a from rx)
  cases (show u = Value.ref b from ry)
  obtain ⟨sl, od, _, J, _⟩ := SlX.slt_inst I ha
  obtain ⟨sl', od', _, J', _⟩ := SlX.slt_inst I hb
  obtain ⟨m, hF⟩ := I.fr
  have hr1 : Room n X.A.in1 := Room.in1 hr
  refine (show wpAny _ _ (richCompare .NotEq (.ref a) (.ref b)) _ _ _ from ne_K (tb := .ref C') hr.units0 hr1.units0 hF I.ok.mod.kin J J'.type hn hne hm hs hf ?_)
  refine wpAny_mono (wpAny_call (SlX.run_at (us := [.ref a, .ref b]) (ws := [.ref a, .ref b]) F hr1 I.env0.in1 hx I (.cons rfl (.cons rfl .nil)) q)) (fun w s' z => ?_) fun _ _ x => x
  obtain ⟨z', H', I', rz, c, ec, qz⟩ := z
  subst ec
  cases (show w = Value.bool c from rz)
  exact ⟨c, rfl, .bl (!c), H', I', rfl, qz⟩
structure Ne3 (K : PySem.W.Frag) (nm : Str) : Prop where
  ex : ∃ C, ClsN K nm C ∧ PySem.W.findIn K (.ref C) "__ne__" = some (some (.builtin "object.__ne__")) ∧ PySem.W.mroIn K C (.type "object") = some true
def dNeO (nm : Str) (sp : DSp) (ta tb : DE) : DE := fun E G k => ta E G fun x E1 G1 => tb E1 G1 fun y E2 G2 =>
  ∃ fs, x.fz.get E2 = some (.obj nm fs) ∧ ∃ gs, y.get E2 = some (.obj nm gs) ∧ sp [.obj nm fs, .obj nm gs] G2 (fun r G3 => ∃ c, r = .val (.bl c) ∧ k (.val (.bl (!c))) E2 G3) (fun _ _ => False)
theorem neO_core {nm : Str} {sp : DSp} {ta tb : DE} {C : Addr} (hC : ClsN X.K nm C) {σ : L2.St} {H : Hp} {Q : VK} (h : Lift X.K B (dNeO nm sp ta tb) σ H Q) :
    tOp (rNeOwn X.K C (fun vs H Q E => LSp X.K sp (vs ++ []) H Q E) (fun _ _ _ => False)) (Lift X.K B ta) (Lift X.K B tb) σ H Q := by
  obtain ⟨pn, F, E, G, k, S, ht, hk⟩ := h
  refine ⟨pn, F, E, G, _, S, ht, fun x E1 G1 h1 v F1 H1 S1 s1 r1 => ?_⟩
  obtain ⟨F1', S1', s1', r1'⟩ := S1.fz r1
  refine ⟨pn, F1', E1, G1, _, S1', h1, fun y E2 G2 ⟨fs, hx, gs, hy, h2⟩ u F2 H2 S2 s2 r2 => ?_⟩
  obtain ⟨a1, C1, dx, xs, rfl, hC1, hs1, ra⟩ := (S2.getH (r1'.onward s2) hx).obj' S2.w.sub
  obtain ⟨b1, C2, dy, ys, rfl, hC2, hs2, rb⟩ := (S2.getH r2 hy).obj' S2.w.sub
  cases hC.eq hC1
  cases hC.eq hC2
  refine ⟨a1, dx, _, b1, _, dy, _, rfl, rfl, hs1, hs2, notFirst_self _ _, F2, G2, [.obj nm fs, .obj nm gs], _, _, S2.w, .cons ra (.cons rb .nil), h2, fun r' G' ⟨c, er, h3⟩ v F3 H3 A r3 => ?_, fun _ _ z => z.elim⟩
  subst er
  have r4 := S2.retR r3
  cases r4
  exact ⟨c, rfl, hk _ _ _ h3 _ F3 H3 (S2.wldAfter A) (((s1.trans s1').trans s2).trans A.keepF) (.bl _)⟩
theorem lt_neO {nm : Str} {k j : Nat} {sp : DSp} {a b : Expr} {ta tb : DE} {pos : Pos} (p : Meth3 X.prog X.w X.K X.mg X.base nm "__eq__" k sp) (q : Ne3 X.K nm) (hr : Room j X.A) (hk : k + 1 ≤ j) (ha : LE X B a ta) (hb : LE X B b tb) : LT X B (.Compare a [.NotEq] [b] pos) (dTest (dNeO nm sp ta tb)) := by
  obtain ⟨C, g, fd, ps, hC, sc, M, Fn, hbd⟩ := p.ex
  obtain ⟨C', hC', hne, hm⟩ := q.ex
  cases hC.eq hC'
  refine ⟨pt_imp (pt_cmpR (op_neOwn (E := fun _ _ _ => False) hne hm M.at_ M.fn (Fn.raw hbd .nil) (hr.mono hk) passF) ha.pe hb.pe (nomark _)) fun σ H Q ⟨pn, F, E, G, k', S, ht, hk'⟩ => ?_⟩
  refine neO_core (Q := fun x H' => ∃ k, x = .bl k ∧ Q k H') hC ⟨pn, F, E, G, _, S, ht, fun r E1 G1 ⟨b, e1, h1⟩ v F1 H1 S1 s1 r1 => ?_⟩
  subst e1
  cases r1
  exact ⟨b, rfl, hk' _ _ _ h1 F1 H1 S1 s1⟩
end
theorem ne3_mk {K : PySem.W.Frag} {nm : Str} {C : Addr} (a : PySem.W.nsIn K mainGlobals nm = some (some (.ref C))) (hne : PySem.W.findIn K (.ref C) "__ne__" = some (some (.builtin "object.__ne__"))) (cm : PySem.W.mroIn K C (.type "object") = some true) : Ne3 K nm := ⟨C, a, hne, cm⟩
end L3

set_option Elab.async false
set_option maxRecDepth 100000
set_option maxHeartbeats 4000000
/-! ZC3: a comprehension with three fors, by one rule for a loop over any body. -/
namespace ZC
open PySem PySem.Spec L2
open PyProof.Rows hiding St
abbrev Fz : Value → Shared → Prop := fun _ _ => False
abbrev WP {α : Type} (p : Program) (w : World) (A : Around) (m : Sem α) (Q : α → Shared → Prop) (s : Shared) : Prop := wpAny (model p w) A m Q Fz s
theorem up {α : Type} {p : Program} {w : World} {A : Around} {m : Sem α} {Q Q' : α → Shared → Prop} {E : Value → Shared → Prop} {s : Shared} (h : WP p w A m Q s) (k : ∀ a s, Q a s → Q' a s) : wpAny (model p w) A m Q' E s := thnF h k
abbrev tests (ifs : List Expr) (env : Env) : Sem Bool := forIn ifs true fun c r => if r = true then do let ok ← isTrue c env (eval c env); pure (ForInStep.yield ok) else pure (ForInStep.yield r)
section
variable {p : Program} {w : World} {A : Around} {e t0 i0 t1 i1 t2 i2 elt : Expr} {f0 f1 f2 : List Expr} {scope : Scope} {pos : Pos} {it acc : Value} {env : Env} {s : Shared}
/-- one turn of a loop over any body -/
def TurnW (p : Program) (w : World) (A : Around) (t : Expr) (fs : List Expr) (it : Value) (env : Env) (B : (Shared → Prop) → Shared → Prop) (Out Nx : Shared → Prop) (s : Shared) : Prop :=
  WP p w A (pyNext it) (fun r s1 => match r with
    | none => Out s1
    | some v => WP p w A (letOwnedTupleGo t it v) (fun _ s2 => WP p w A (assign t env v) (fun _ s3 => WP p w A (tests fs env) (fun ok s4 => if ok = true then B Nx s4 else Nx s4) s3) s2) s1) s
def e3 (elt t0 i0 : Expr) (f0 : List Expr) (t1 i1 : Expr) (f1 : List Expr) (t2 i2 : Expr) (f2 : List Expr) (scope : Scope) (pos : Pos) : Expr := .ListComp elt [⟨t0, i0, f0, 0⟩, ⟨t1, i1, f1, 0⟩, ⟨t2, i2, f2, 0⟩] scope pos
/-- the body that starts the next loop -/
def BMid (p : Program) (w : World) (A : Around) (e : Expr) (d : Nat) (i : Expr) (acc : Value) (env : Env) (Q : Shared → Prop) (s : Shared) : Prop :=
  WP p w A (eval i env) (fun x s1 => WP p w A (pyIter x) (fun it s2 => codeAny (model p w) A (.compStart e d it acc env) (fun r s3 => match r with | .ok _ => Q s3 | .error _ => False) s2) s1) s
/-- the body that appends -/
def BIn (p : Program) (w : World) (A : Around) (elt : Expr) (acc : Value) (env : Env) (Q : Shared → Prop) (s : Shared) : Prop :=
  WP p w A (eval elt env) (fun x s1 => WP p w A (call (.builtin "list.append") [acc, x]) (fun _ s2 => Q s2) s1) s
theorem turn0 {R : Result → Shared → Prop} {I : Nat → Shared → Prop} {n : Nat} (hs : ∀ x, foldedSetIterable i1 env x = pure x)
    (h : TurnW p w A t0 f0 it env (BMid p w A (e3 elt t0 i0 f0 t1 i1 f1 t2 i2 f2 scope pos) 1 i1 acc env) (fun s => R (.ok .next) s) (fun s => ∃ m, m < n ∧ I m s) s) :
    wpAny (model p w) A (compTurn (e3 elt t0 i0 f0 t1 i1 f1 t2 i2 f2 scope pos) 0 it acc env) (fun fin s' => match fin with | .done f => R (.ok f) s' | .again c' => c' = .compLoop (e3 elt t0 i0 f0 t1 i1 f1 t2 i2 f2 scope pos) 0 it acc env ∧ ∃ m, m < n ∧ I m s') (notedBy (model p w) A env fun e s' => R (.error e) s') s := by
  show wpAny (model p w) A (standAt i0.pos >>= _) _ _ s
  refine wpAny_bind (wpAny_standAt (wpAny_bind (up h fun r s1 h1 => ?_)))
  cases r with
  | none => exact wpAny_pure h1
  | some v =>
    refine wpAny_bind (up h1 fun _ s2 h2 => wpAny_bind (up h2 fun _ s3 h3 => wpAny_bind (up h3 fun ok s4 h4 => ?_)))
    cases ok with
    | false => exact wpAny_pure ⟨rfl, h4⟩
    | true =>
      refine wpAny_bind (up h4 fun x s5 h5 => wpAny_bind (wpAny_standAt (wpAny_bind (wpAny_of_eq (hs x) (wpAny_bind (wpAny_holding (up h5 fun it1 s6 h6 => wpAny_bind (wpAny_runOwn ?_))))))))
      rw [Around.mark_none]
      refine codeAny_mono h6 fun r s' hr => ?_
      cases r with
      | ok f =>
        first
          | exact wpAny_pure ⟨rfl, hr⟩
          | exact wpAny_bind (wpAny_pure (wpAny_pure ⟨rfl, hr⟩))
      | error e => exact hr.elim
theorem turn1 {R : Result → Shared → Prop} {I : Nat → Shared → Prop} {n : Nat} (hs : ∀ x, foldedSetIterable i2 env x = pure x)
    (h : TurnW p w A t1 f1 it env (BMid p w A (e3 elt t0 i0 f0 t1 i1 f1 t2 i2 f2 scope pos) 2 i2 acc env) (fun s => R (.ok .next) s) (fun s => ∃ m, m < n ∧ I m s) s) :
    wpAny (model p w) A (compTurn (e3 elt t0 i0 f0 t1 i1 f1 t2 i2 f2 scope pos) 1 it acc env) (fun fin s' => match fin with | .done f => R (.ok f) s' | .again c' => c' = .compLoop (e3 elt t0 i0 f0 t1 i1 f1 t2 i2 f2 scope pos) 1 it acc env ∧ ∃ m, m < n ∧ I m s') (notedBy (model p w) A env fun e s' => R (.error e) s') s := by
  show wpAny (model p w) A (standAt i1.pos >>= _) _ _ s
  refine wpAny_bind (wpAny_standAt (wpAny_bind (up h fun r s1 h1 => ?_)))
  cases r with
  | none => exact wpAny_pure h1
  | some v =>
    refine wpAny_bind (up h1 fun _ s2 h2 => wpAny_bind (up h2 fun _ s3 h3 => wpAny_bind (up h3 fun ok s4 h4 => ?_)))
    cases ok with
    | false => exact wpAny_pure ⟨rfl, h4⟩
    | true =>
      refine wpAny_bind (up h4 fun x s5 h5 => wpAny_bind (wpAny_standAt (wpAny_bind (wpAny_of_eq (hs x) (wpAny_bind (wpAny_holding (up h5 fun it1 s6 h6 => wpAny_bind (wpAny_runOwn ?_))))))))
      rw [Around.mark_none]
      refine codeAny_mono h6 fun r s' hr => ?_
      cases r with
      | ok f =>
        first
          | exact wpAny_pure ⟨rfl, hr⟩
          | exact wpAny_bind (wpAny_pure (wpAny_pure ⟨rfl, hr⟩))
      | error e => exact hr.elim
theorem turn2 {R : Result → Shared → Prop} {I : Nat → Shared → Prop} {n : Nat}
    (h : TurnW p w A t2 f2 it env (BIn p w A elt acc env) (fun s => R (.ok .next) s) (fun s => ∃ m, m < n ∧ I m s) s) :
    wpAny (model p w) A (compTurn (e3 elt t0 i0 f0 t1 i1 f1 t2 i2 f2 scope pos) 2 it acc env) (fun fin s' => match fin with | .done f => R (.ok f) s' | .again c' => c' = .compLoop (e3 elt t0 i0 f0 t1 i1 f1 t2 i2 f2 scope pos) 2 it acc env ∧ ∃ m, m < n ∧ I m s') (notedBy (model p w) A env fun e s' => R (.error e) s') s := by
  show wpAny (model p w) A (standAt i2.pos >>= _) _ _ s
  refine wpAny_bind (wpAny_standAt (wpAny_bind (up h fun r s1 h1 => ?_)))
  cases r with
  | none => exact wpAny_pure h1
  | some v =>
    refine wpAny_bind (up h1 fun _ s2 h2 => wpAny_bind (up h2 fun _ s3 h3 => wpAny_bind (up h3 fun ok s4 h4 => ?_)))
    cases ok with
    | false => exact wpAny_pure ⟨rfl, h4⟩
    | true => exact wpAny_bind (wpAny_bind (up h4 fun x s5 h5 => wpAny_bind (up h5 fun _ s6 h6 => wpAny_pure (wpAny_pure ⟨rfl, h6⟩))))
/-- the loops, each over its body -/
theorem loop0 {R : Result → Shared → Prop} (hs : ∀ x, foldedSetIterable i1 env x = pure x) (I : Nat → Shared → Prop)
    (h : ∀ n s, I n s → TurnW p w A t0 f0 it env (BMid p w A (e3 elt t0 i0 f0 t1 i1 f1 t2 i2 f2 scope pos) 1 i1 acc env) (fun s => R (.ok .next) s) (fun s => ∃ m, m < n ∧ I m s) s) (n : Nat) (hI : I n s) :
    codeAny (model p w) A (.compLoop (e3 elt t0 i0 f0 t1 i1 f1 t2 i2 f2 scope pos) 0 it acc env) R s :=
  codeAny_loop rfl I (fun n s hI => (show wpAny (model p w) A ((compTurn (e3 elt t0 i0 f0 t1 i1 f1 t2 i2 f2 scope pos) 0 it acc env).onRaise (fun x => do noteFrame x env; theTreesLotGoes x)) _ _ s from wpAny_noted (turn0 hs (h n s hI)))) n hI
theorem loop1 {R : Result → Shared → Prop} (hs : ∀ x, foldedSetIterable i2 env x = pure x) (I : Nat → Shared → Prop)
    (h : ∀ n s, I n s → TurnW p w A t1 f1 it env (BMid p w A (e3 elt t0 i0 f0 t1 i1 f1 t2 i2 f2 scope pos) 2 i2 acc env) (fun s => R (.ok .next) s) (fun s => ∃ m, m < n ∧ I m s) s) (n : Nat) (hI : I n s) :
    codeAny (model p w) A (.compLoop (e3 elt t0 i0 f0 t1 i1 f1 t2 i2 f2 scope pos) 1 it acc env) R s :=
  codeAny_loop rfl I (fun n s hI => (show wpAny (model p w) A ((compTurn (e3 elt t0 i0 f0 t1 i1 f1 t2 i2 f2 scope pos) 1 it acc env).onRaise (fun x => do noteFrame x env; theTreesLotGoes x)) _ _ s from wpAny_noted (turn1 hs (h n s hI)))) n hI
theorem loop2 {R : Result → Shared → Prop} (I : Nat → Shared → Prop)
    (h : ∀ n s, I n s → TurnW p w A t2 f2 it env (BIn p w A elt acc env) (fun s => R (.ok .next) s) (fun s => ∃ m, m < n ∧ I m s) s) (n : Nat) (hI : I n s) :
    codeAny (model p w) A (.compLoop (e3 elt t0 i0 f0 t1 i1 f1 t2 i2 f2 scope pos) 2 it acc env) R s :=
  codeAny_loop rfl I (fun n s hI => (show wpAny (model p w) A ((compTurn (e3 elt t0 i0 f0 t1 i1 f1 t2 i2 f2 scope pos) 2 it acc env).onRaise (fun x => do noteFrame x env; theTreesLotGoes x)) _ _ s from wpAny_noted (turn2 (h n s hI)))) n hI
/-- an inner loop's start, at the second and at the third clause -/
theorem start1 {R : Result → Shared → Prop} (h0 : codeAny (model p w) A (.compLoop (e3 elt t0 i0 f0 t1 i1 f1 t2 i2 f2 scope pos) 1 it acc env) R s)
    (h : wpAny (model p w) A (pyIter it) (fun it' s' => codeAny (model p w) A (.compLoop (e3 elt t0 i0 f0 t1 i1 f1 t2 i2 f2 scope pos) 1 it' acc env) R s') (notedBy (model p w) A env fun x s' => R (.error x) s') s) :
    codeAny (model p w) A (.compStart (e3 elt t0 i0 f0 t1 i1 f1 t2 i2 f2 scope pos) 1 it acc env) R s := by
  refine codeAny_of_tree (show wpAny (model p w) _ ((compStart (e3 elt t0 i0 f0 t1 i1 f1 t2 i2 f2 scope pos) 1 it acc env).onRaise (fun x => do noteFrame x env; standAt theWindowsPlace)) _ _ s from wpAny_notedAt ?_)
  unfold compStart
  refine (show wpAny (model p w) _ (ask >>= _) _ _ s from wpAny_bind (wpAny_askSetting (wpAny_ite ?_)))
  split
  · first
      | exact wpAny_pure (And.intro rfl h0)
      | exact wpAny_bind (wpAny_pure (wpAny_pure (And.intro rfl h0)))
  · refine wpAny_bind (wpAny_rule (show wpAny (model p w) _ (standAt i1.pos >>= _) _ _ s from wpAny_bind (wpAny_standAt (wpAny_bind (wpAny_mono h (fun it' s' h' => wpAny_pure (And.intro rfl h')) fun _ _ x => x)))))
theorem start2 {R : Result → Shared → Prop} (h0 : codeAny (model p w) A (.compLoop (e3 elt t0 i0 f0 t1 i1 f1 t2 i2 f2 scope pos) 2 it acc env) R s)
    (h : wpAny (model p w) A (pyIter it) (fun it' s' => codeAny (model p w) A (.compLoop (e3 elt t0 i0 f0 t1 i1 f1 t2 i2 f2 scope pos) 2 it' acc env) R s') (notedBy (model p w) A env fun x s' => R (.error x) s') s) :
    codeAny (model p w) A (.compStart (e3 elt t0 i0 f0 t1 i1 f1 t2 i2 f2 scope pos) 2 it acc env) R s := by
  refine codeAny_of_tree (show wpAny (model p w) _ ((compStart (e3 elt t0 i0 f0 t1 i1 f1 t2 i2 f2 scope pos) 2 it acc env).onRaise (fun x => do noteFrame x env; standAt theWindowsPlace)) _ _ s from wpAny_notedAt ?_)
  unfold compStart
  refine (show wpAny (model p w) _ (ask >>= _) _ _ s from wpAny_bind (wpAny_askSetting (wpAny_ite ?_)))
  split
  · first
      | exact wpAny_pure (And.intro rfl h0)
      | exact wpAny_bind (wpAny_pure (wpAny_pure (And.intro rfl h0)))
  · refine wpAny_bind (wpAny_rule (show wpAny (model p w) _ (standAt i2.pos >>= _) _ _ s from wpAny_bind (wpAny_standAt (wpAny_bind (wpAny_mono h (fun it' s' h' => wpAny_pure (And.intro rfl h')) fun _ _ x => x)))))
end
abbrev TB := St → Hp → (Hp → Prop) → Prop
/-- a body that leaves the slots outside vs as they were -/
def PBd (Y : Cx) (vs : List Nat) (B : (Shared → Prop) → Shared → Prop) (t : TB) : Prop := ∀ (pins : List (Addr × Obj)) (s : Shared) (σ : St) (H : Hp) (Nx : Hp → Prop) (Q : Shared → Prop), Inv Y pins σ H s → t σ H Nx →
  (∀ σ' H' s', Inv Y pins σ' H' s' → σ.length = σ'.length → (∀ (j : Nat) v, j ∉ vs → σ[j]? = some (some v) → σ'[j]? = some (some v)) → Nx H' → Q s') → B Q s
def tApp (te : TE) (D : Addr) : TB := fun σ H Nx => te σ H fun y H1 => ∃ acc, H1 D = some (.lst acc) ∧ acc.length < sizeLine ∧ Nx (upd H1 D (.lst (acc ++ [y])))
/-- a loop over a body -/
def tTurns (J : It) (g : TG) (tt : TT) (b : TB) (vs : List Nat) (σ : St) (H : Hp) (Nx : Hp → Prop) : Prop := ∃ W : Nat → Nat → Hp → Prop, (∃ m, W 0 m H) ∧ ∀ i m H, W i m H →
  (J.stop i H ∧ Nx H) ∨ (J.go i H ∧ ∃ Nx1 : Hp → Prop, (∀ H', Nx1 H' → ∃ m', m' < m ∧ W (i + 1) m' H') ∧ ∀ x H', J.yld i H x H' → g x (wipe σ vs) H' fun σ2 H2 => wipe σ2 vs = wipe σ vs ∧ tt σ2 H2 fun ok H3 => if ok = true then b σ2 H3 Nx1 else Nx1 H3)
def tFor (wi : TI) (g : TG) (tt : TT) (b : TB) (vs : List Nat) : TB := fun σ H Nx => wi σ H fun J H1 => tTurns J g tt b vs σ H1 Nx
section
variable {Y : Cx} {elt tg : Expr} {te : TE} {D : Addr} {g : TG} {tt : TT} {fs : List Expr} {b : TB} {B : (Shared → Prop) → Shared → Prop} {vs vb : List Nat}
theorem pe_run (hx : Y.xe = Fz) (he : PE Y elt te) {pins : List (Addr × Obj)} {s : Shared} {σ : St} {H : Hp} {Q : VK} (I : Inv Y pins σ H s) (h : te σ H Q) : ∀ {k : Value → Shared → Prop}, (∀ v s', (∃ x H', Inv Y pins σ H' s' ∧ RelV x v ∧ Q x H') → k v s') → WP Y.prog Y.w Y.A (eval elt Y.env) k s := fun {k} hk =>
  wpAny_mono (he.run pins s σ H Q I h) (fun v s' z => hk v s' z) fun v s' z => by rw [hx] at z; exact z
theorem bd_in (hx : Y.xe = Fz) (he : PE Y elt te) : PBd Y vb (BIn Y.prog Y.w Y.A elt (.ref D) Y.env) (tApp te D) := fun pins s σ H Nx Q I h k =>
  pe_run hx he I h fun v s1 ⟨x, H1, I1, r1, acc, hD, hz, nx⟩ => app_ok I1 hD hz r1 fun s2 I2 => k σ _ s2 I2 rfl (fun _ _ _ e => e) nx
/-- the turns of a loop, by what they leave -/
theorem turns (hx : Y.xe = Fz) (hc : Y.calm = true) (pg : PG Y tg g) (pt : PTs Y fs tt) (hb : PBd Y vb B b) (hv : ∀ i ∈ vb, i ∈ vs) {J : It} {fp : List Addr} {it : Addr} {tn : Nat → Heap → Prop} {pins : List (Addr × Obj)} {σ : St} {NxO : Hp → Prop} {Out : Shared → Prop} {W : Nat → Nat → Hp → Prop}
    (T : Turn Y.prog Y.w Y.K tg J fp it tn) (stat : ∀ σ' H' s', Inv Y pins σ' H' s' → (∀ b ∈ fp, H' b = none) → ∀ b ∈ fp, FpOk Y pins H' b)
    (step : ∀ i m H, W i m H → (J.stop i H ∧ NxO H) ∨ (J.go i H ∧ ∃ Nx1 : Hp → Prop, (∀ H', Nx1 H' → ∃ m', m' < m ∧ W (i + 1) m' H') ∧ ∀ x H', J.yld i H x H' → g x (wipe σ vs) H' fun σ2 H2 => wipe σ2 vs = wipe σ vs ∧ tt σ2 H2 fun ok H3 => if ok = true then b σ2 H3 Nx1 else Nx1 H3))
    (out : ∀ s' H', Inv Y pins (wipe σ vs) H' s' → NxO H' → Out s') (n : Nat) (s : Shared) : (∃ i H', Inv Y pins (wipe σ vs) H' s ∧ tn i s.heap ∧ (∀ b ∈ fp, H' b = none) ∧ W i n H') →
    TurnW Y.prog Y.w Y.A tg fs (.ref it) Y.env B Out (fun s => ∃ m, m < n ∧ ∃ i H', Inv Y pins (wipe σ vs) H' s ∧ tn i s.heap ∧ (∀ b ∈ fp, H' b = none) ∧ W i m H') s := by
  rintro ⟨i, H1, I1, t1, n1, w1⟩
  rcases step i n H1 w1 with ⟨st, nx⟩ | ⟨go, Nx1, hN, body⟩
  · refine up (T.done Y rfl rfl rfl hc i pins s _ H1 Fz I1 (stat _ _ _ I1 n1) t1 st) ?_
    rintro r s2 ⟨rfl, I2⟩
    exact out s2 H1 I2 nx
  · refine up (T.item Y rfl rfl rfl hc i pins s _ H1 Fz I1 (stat _ _ _ I1 n1) t1 go) ?_
    rintro r s2 ⟨u, rfl, h2⟩
    refine up h2 fun _ s3 ⟨x, H3, I3, r3, y3, t3, n3⟩ => ?_
    have P3 := I3.pinned (stat _ _ _ I3 n3) (T.obj _ _ t3)
    have gw := wpAny_mono (pg.run _ s3 _ H3 x u _ P3 r3 (body x H3 y3)) (fun _ _ z => z) (fun v s' (z : Y.xe v s') => show Fz v s' by rw [hx] at z; exact z)
    refine up gw fun _ s4 ⟨σ4, H4, I4, hw, q4⟩ => ?_
    have tw := wpAny_mono (pt.run _ s4 σ4 H4 _ I4 q4) (fun _ _ z => z) (fun v s' (z : Y.xe v s') => show Fz v s' by rw [hx] at z; exact z)
    have len : (wipe σ vs).length = σ4.length := by rw [← hw, wipe_length]
    have again : ∀ {σ5 : St} {H5 : Hp} {s5 : Shared}, Inv Y (pins ++ pinsAt fp s3.heap) σ5 H5 s5 → (wipe σ vs).length = σ5.length → (∀ (j : Nat) v, (wipe σ vs)[j]? = some (some v) → σ5[j]? = some (some v)) → Nx1 H5 → ∃ m, m < n ∧ ∃ i H', Inv Y pins (wipe σ vs) H' s5 ∧ tn i s5.heap ∧ (∀ b ∈ fp, H' b = none) ∧ W i m H' := by
      intro σ5 H5 s5 I5 l5 k5 nx5
      obtain ⟨m', lt, w'⟩ := hN H5 nx5
      have held : ∀ a ∈ fp, ∀ o, s3.heap.get? a = some o → s5.heap.get? a = some o ∧ H5 a = none := fun a ha o eo => by
        have z := I5.pin (a, o) (List.mem_append_right _ (List.mem_append_right _ (mem_pinsAt ha eo)))
        exact ⟨z.1, z.2.1⟩
      refine ⟨m', lt, i + 1, H5, I5.unpinned.weak l5 k5, T.keep _ _ _ t3 fun a ha o eo => (held a ha o eo).1, fun a ha => ?_, w'⟩
      obtain ⟨o, eo, _⟩ := T.obj _ _ t3 a ha
      exact (held a ha o eo).2
    have k4 : ∀ (j : Nat) v, (wipe σ vs)[j]? = some (some v) → σ4[j]? = some (some v) ∧ j ∉ vs := fun j v z => wipe_some (by rw [hw]; exact z)
    refine up tw fun ok s5 ⟨H5, I5, q5⟩ => ?_
    cases ok with
    | false => exact again I5 len (fun j v z => (k4 j v z).1) (by simpa using q5)
    | true =>
      rw [if_pos rfl] at q5 ⊢
      exact hb _ s5 σ4 H5 Nx1 _ I5 q5 fun σ' H' s' I' l' kp nx' => again I' (len.trans l') (fun j v z => kp j v (fun m => (k4 j v z).2 (hv j m)) (k4 j v z).1) nx'
/-- an inner loop is a body -/
theorem bd_for {e i : Expr} {d : Nat} {wi : TI} {acc : Value} (hx : Y.xe = Fz) (hc : Y.calm = true) (hi : PI Y tg i wi) (pg : PG Y tg g) (pt : PTs Y fs tt) (hb : PBd Y vb B b) (hv : ∀ i ∈ vb, i ∈ vs)
    (hl : ∀ {R : Result → Shared → Prop} {it : Value} (I : Nat → Shared → Prop), (∀ n s, I n s → TurnW Y.prog Y.w Y.A tg fs it Y.env B (fun s => R (.ok .next) s) (fun s => ∃ m, m < n ∧ I m s) s) → ∀ n s, I n s → codeAny (model Y.prog Y.w) Y.A (.compLoop e d it acc Y.env) R s)
    (hs : ∀ {R : Result → Shared → Prop} {it : Value} {s : Shared}, codeAny (model Y.prog Y.w) Y.A (.compLoop e d it acc Y.env) R s → wpAny (model Y.prog Y.w) Y.A (pyIter it) (fun it' s' => codeAny (model Y.prog Y.w) Y.A (.compLoop e d it' acc Y.env) R s') (notedBy (model Y.prog Y.w) Y.A Y.env fun x s' => R (.error x) s') s → codeAny (model Y.prog Y.w) Y.A (.compStart e d it acc Y.env) R s) :
    PBd Y vs (BMid Y.prog Y.w Y.A e d i acc Y.env) (tFor wi g tt b vs) := by
  intro pins s σ H Nx Q I h k
  refine wpAny_mono (hi.run pins s σ H _ I h) (fun x s1 hx1 => wpAny_mono hx1 (fun itv s2 h2 => ?_) fun v s' z => ?_) fun v s' z => ?_
  · obtain ⟨it, fp, tn, J, H2, rfl, I2, T, t2, f2, W, ⟨m0, w0⟩, step⟩ := h2
    have run : codeAny (model Y.prog Y.w) Y.A (.compLoop e d (.ref it) acc Y.env) (fun r s3 => match r with | .ok _ => Q s3 | .error _ => False) s2 := by
      refine hl _ (fun n s hI => turns (Out := Q) hx hc pg pt hb hv T (fun σ' H' s' I' nn a ha => ⟨nn a ha, (f2 a ha).2⟩) step (fun s' H' I' nx => k (wipe σ vs) H' s' I' (wipe_length σ vs).symm (fun j v hj z => by rw [wipe_out hj]; exact z) nx) n s hI) m0 s2 ⟨0, H2, I2.weak (wipe_length σ vs) (fun j v z => (wipe_some z).1), t2, fun a ha => (f2 a ha).1, w0⟩
    exact hs run (T.self Y.A 0 _ _ _ t2 run)
  · rw [hx] at z; exact z
  · rw [hx] at z; exact z
end
section
variable {X : Cx} {elt t0 i0 t1 i1 t2 i2 : Expr} {f0 f1 f2 : List Expr} {scope : Scope} {own : List (Str × Nat)} {vs1 vs2 : List Nat} {pos : Pos} {w0 w1 w2 : TI} {g0 g1 g2 : TG} {c0 c1 c2 : TT} {te : TE}
/-- the block's three loops -/
theorem three {Y : Cx} {vs : List Nat} {D it : Addr} {J : It} {fp : List Addr} {tn : Nat → Heap → Prop} {σ : St} {H : Hp} {NxO : Hp → Prop} {R : Result → Shared → Prop} {s : Shared} (yx : Y.xe = Fz) (yc : Y.calm = true) (hv1 : ∀ i ∈ vs1, i ∈ vs) (hv2 : ∀ i ∈ vs2, i ∈ vs1)
    (a0 : PG Y t0 g0) (a1 : PTs Y f0 c0) (a2 : PI Y t1 i1 w1) (a3 : PG Y t1 g1) (a4 : PTs Y f1 c1) (a5 : PI Y t2 i2 w2) (a6 : PG Y t2 g2) (a7 : PTs Y f2 c2) (a8 : PE Y elt te) (hs1 : ∀ x, foldedSetIterable i1 Y.env x = pure x) (hs2 : ∀ x, foldedSetIterable i2 Y.env x = pure x)
    (T : Turn Y.prog Y.w Y.K t0 J fp it tn) (stat : ∀ σ' H' s', Inv Y [] σ' H' s' → (∀ b ∈ fp, H' b = none) → ∀ b ∈ fp, FpOk Y [] H' b) (q : tTurns J g0 c0 (tFor w1 g1 c1 (tFor w2 g2 c2 (tApp te D) vs2) vs1) vs σ H NxO)
    (I : Inv Y [] (wipe σ vs) H s) (ht : tn 0 s.heap) (hn : ∀ b ∈ fp, H b = none) (out : ∀ s' H', Inv Y [] (wipe σ vs) H' s' → NxO H' → R (.ok .next) s') :
    codeAny (model Y.prog Y.w) Y.A (.compLoop (e3 elt t0 i0 f0 t1 i1 f1 t2 i2 f2 scope pos) 0 (.ref it) (.ref D) Y.env) R s := by
  obtain ⟨W, ⟨m0, ww⟩, step⟩ := q
  have body2 : PBd Y [] (BIn Y.prog Y.w Y.A elt (.ref D) Y.env) (tApp te D) := bd_in yx a8
  have body1 : PBd Y vs2 (BMid Y.prog Y.w Y.A (e3 elt t0 i0 f0 t1 i1 f1 t2 i2 f2 scope pos) 2 i2 (.ref D) Y.env) (tFor w2 g2 c2 (tApp te D) vs2) := bd_for yx yc a5 a6 a7 body2 (fun i hi => nomatch hi) (fun I hI n s hn => loop2 I hI n hn) (fun p q => start2 p q)
  have body0 : PBd Y vs1 (BMid Y.prog Y.w Y.A (e3 elt t0 i0 f0 t1 i1 f1 t2 i2 f2 scope pos) 1 i1 (.ref D) Y.env) (tFor w1 g1 c1 (tFor w2 g2 c2 (tApp te D) vs2) vs1) := bd_for yx yc a2 a3 a4 body1 hv2 (fun I hI n s hn => loop1 hs2 I hI n hn) (fun p q => start1 p q)
  exact loop0 hs1 (fun n s' => ∃ i H', Inv Y [] (wipe σ vs) H' s' ∧ tn i s'.heap ∧ (∀ b ∈ fp, H' b = none) ∧ W i n H') (fun n s hI => turns yx yc a0 a1 body0 hv1 T stat step out n s hI) m0 ⟨0, H, I, ht, hn, ww⟩
/-- what is asked of a part of the block -/
abbrev InBlk (X : Cx) (scope : Scope) (f : Cx → Prop) : Prop := ∀ (s : Shared) (H : Hp) (C : Addr) (cl : List (Str × Addr)) (fp : List Addr), f (X.blk s H scope (compEnvC scope cl C X.env) fp)
end
end ZC

set_option Elab.async false
set_option maxRecDepth 100000
set_option maxHeartbeats 4000000
/-! ZD: {k: v for t in i if ..}, keys of tuples too. -/
namespace ZC
open PySem PySem.Spec L2
open PyProof.Rows hiding St
/-- a new dict of the kind that is wanted -/
inductive Dc0 : HO → Prop
  | k : Dc0 (.dK [])
  | t : Dc0 (.dT [])
section
variable {X : Cx} {pins : List (Addr × Obj)} {σ : St} {H H' : Hp} {s : Shared} {a : Addr} {y v : V} {u r : Value} {E : Value → Shared → Prop}
theorem set_dict {Q : Unit → Shared → Prop} (hu : X.A.units + 1 < cLine) (I : Inv X pins σ H s) (g : DPut H a y v H') (ry : RelV y u) (rv : RelV v r) (h : ∀ s', Inv X pins σ H' s' → Q () s') :
    wpAny (model X.prog X.w) X.A (dictSet a u r) Q E s := by
  rcases g with ⟨kvs, k, e, ey, l, eH⟩ | ⟨kvs, k, b, e, ey, eb, l, eH⟩
  · subst ey eH
    exact d_dictSet I e l ry rv h
  · subst ey eH
    obtain rfl : u = Value.ref b := ry
    obtain ⟨z, nm, xs, rel, dd⟩ := dt_of I.hok e
    have room : xs.length ≤ sizeLine := by rw [← Paired.length rel]; exact z
    have len : (putK kvs k v).length ≤ sizeLine := by have := length_putK kvs k v; omega
    refine wpAny_dictSet_heap (hsz := room) (show X.A.units < cLine from Nat.lt_of_succ_lt hu) (key_of I.hok eb) dd fun hp dd' same => h _ ?_
    obtain ⟨q, es, ep, hq, c2, c3, c4, _, c5⟩ := dd'
    have kept : KT (upd H a (.dT (putK kvs k v))) (putK kvs k v) _ := (rel.put k eb rv).keeps fun c ys ec => by rw [upd_ne (ne_of ec e (fun z => nomatch z))]; exact ec
    exact d_write I (by rw [e]; exact True.intro) same ⟨q, hq⟩ ⟨len, nm, _, kept, q, es, ep, hq, c2, c3, c4, c5⟩
end
def e1 (kx vx t0 i0 : Expr) (f0 : List Expr) (scope : Scope) (pos : Pos) : Expr := .DictComp kx vx [⟨t0, i0, f0, 0⟩] scope pos
/-- the body that stores -/
def BPut (p : Program) (w : World) (A : Around) (kx vx : Expr) (D : Addr) (env : Env) (Q : Shared → Prop) (s : Shared) : Prop :=
  WP p w A (eval kx env) (fun k s1 => WP p w A (eval vx env) (fun v s2 => WP p w A (dictSet D k v) (fun _ s3 => Q s3) s2) s1) s
def tPut (tk tv : TE) (D : Addr) : TB := fun σ H Nx => tk σ H fun y H1 => tv σ H1 fun z H2 => ∃ H3, DPut H2 D y z H3 ∧ Nx H3
theorem bd_put {Y : Cx} {kx vx : Expr} {tk tv : TE} {D : Addr} {vb : List Nat} (hu : Y.A.units + 1 < cLine) (hx : Y.xe = Fz) (hk : PE Y kx tk) (hv : PE Y vx tv) : PBd Y vb (BPut Y.prog Y.w Y.A kx vx D Y.env) (tPut tk tv D) := fun pins s σ H Nx Q I h kn =>
  pe_run hx hk I h fun k s1 ⟨y, H1, I1, r1, h1⟩ => pe_run hx hv I1 h1 fun v s2 ⟨z, H2, I2, r2, H3, g, nx⟩ => set_dict hu I2 g r1 r2 fun s3 I3 => kn σ H3 s3 I3 rfl (fun _ _ _ e => e) nx
section
variable {p : Program} {w : World} {A : Around} {kx vx t0 i0 : Expr} {f0 : List Expr} {scope : Scope} {pos : Pos} {it : Value} {D : Addr} {env : Env} {s : Shared}
theorem loopD {R : Result → Shared → Prop} (I : Nat → Shared → Prop) (h : ∀ n s, I n s → TurnW p w A t0 f0 it env (BPut p w A kx vx D env) (fun s => R (.ok .next) s) (fun s => ∃ m, m < n ∧ I m s) s) (n : Nat) (hI : I n s) :
    codeAny (model p w) A (.compLoop (e1 kx vx t0 i0 f0 scope pos) 0 it (.ref D) env) R s := by
  refine compLoop_anyD I (fun n s hI => up (h n s hI) fun r s1 h1 => ?_) n hI
  cases r with
  | none => exact h1
  | some v =>
    refine up h1 fun _ s2 h2 => up h2 fun _ s3 h3 => up h3 fun ok s4 h4 => ?_
    cases ok with
    | false => exact h4
    | true => exact up h4 fun k s5 h5 => up h5 fun v s6 h6 => up h6 fun _ s7 h7 => h7
end
section
variable {X : Cx} {kx vx t0 i0 : Expr} {f0 : List Expr} {scope : Scope} {own : List (Str × Nat)} {pos : Pos} {w0 : TI} {g0 : TG} {c0 : TT} {tk tv : TE} {O : HO}
def tDcU (O : HO) (w0 : TI) (g0 : TG) (c0 : TT) (tk tv : TE) (vs : List Nat) : TE := fun σ H Q => w0 σ H fun J H1 => ∀ D, H1 D = none → tTurns J g0 c0 (tPut tk tv D) vs σ (upd H1 D O) fun H2 => Q (.ref D) H2
theorem pe_dcU (h0 : Dc0 O) (hu : X.A.units + 1 < cLine) (hc : X.calm = true) (hN : X.N.Nodup) (hi : PI X t0 i0 w0) (ok : BlkOk X.N X.env.scope scope own)
    (hg0 : InBlk X scope fun Y => PG Y t0 g0) (ht0 : InBlk X scope fun Y => PTs Y f0 c0) (hk : InBlk X scope fun Y => PE Y kx tk) (hv : InBlk X scope fun Y => PE Y vx tv)
    (hs0 : ∀ x, foldedSetIterable i0 X.env x = pure x := by intro _; rfl) : PE X (e1 kx vx t0 i0 f0 scope pos) (tDcU O w0 g0 c0 tk tv (own.map (·.2))) := by
  refine ⟨fun pins s σ H Q I h => ?_⟩
  have known : ∀ y ∈ scope.names, y.2 = .free → ∃ c, X.env.cells.lookup y.1 = some c := fun y hy q => by
    rcases ok.free y hy q with k | k
    · exact I.ok.has _ (.inl k)
    · exact I.ok.has _ (.inr k)
  unfold e1
  rw [arm_eval_DictComp]
  refine wpAny_comprehension_free (use := none) rfl hs0 (closure_ok known) ok.kind (fun y hy q => by rw [ok.uniq y hy, q]) (thn (hi.run pins s σ H _ I h) fun xv sa hx => thn hx fun itv sb hb => ?_)
  obtain ⟨it, fp, tn, J, Hb, rfl, Ib, T, tb, fb, q⟩ := hb
  refine wpAny_newObj_type (newEnv_comp ?_)
  generalize eD : sb.heap.objs.size = D
  have nD : Hb D = none := Ib.hok.fresh (Nat.le_of_eq eD)
  have q := q D nD
  generalize hsc : ({ sb with heap := sb.heap.push { cls := .type "dict", data := .dict #[] } } : Shared) = sc
  have hph : sc.heap = sb.heap.push { cls := .type "dict", data := .dict #[] } := by rw [← hsc]
  have Ic : Inv X pins σ (upd Hb D O) sc := by
    rw [← hsc]
    refine Ib.laid (t' := sb.toks) (fun b o e => Heap.get?_push_of_some _ e) (Nat.le_of_eq eD) ?_
    rw [← eD]
    cases h0 with
    | k => exact dk_empty sb.heap Ib.big
    | t => exact dt_empty sb.heap Ib.big
  have fc : ∀ b ∈ fp, FpOk X pins (upd Hb D O) b ∧ b < sc.heap.objs.size := fun b hb => by
    obtain ⟨o, eo, _⟩ := T.obj _ _ tb b hb
    have lt := Heap.lt_size eo
    refine ⟨⟨?_, (fb b hb).2⟩, by rw [hph, Heap.size_push]; exact Nat.lt_succ_of_lt lt⟩
    rw [upd_ne (by rw [← eD]; exact Nat.ne_of_lt lt)]
    exact (fb b hb).1
  have tc : tn 0 sc.heap := T.keep _ _ _ tb fun b _ o eo => by rw [hph]; exact Heap.get?_push_of_some _ eo
  have Id := block_start Ic ok hN fc
  have y := fun {f : Cx → Prop} (z : InBlk X scope f) => z sc (upd Hb D O) sc.heap.objs.size (cellsFrom (sc.heap.objs.size + 1) scope.names (cloFrom X.env.cells scope.names [])) fp
  have a0 := y hg0
  have a1 := y ht0
  have a2 := y hk
  have a3 := y hv
  clear y
  have nfp : ∀ b ∈ fp, (upd Hb D O) b = none := fun b hb => (fc b hb).1.1
  show codeAny _ _ (.compStart (e1 kx vx t0 i0 f0 scope pos) 0 (.ref it) (.ref D) (compEnvC scope (cellsFrom (sc.heap.objs.size + 1) scope.names (cloFrom X.env.cells scope.names [])) sc.heap.objs.size X.env)) (compPost (model X.prog X.w) X.A X.xe none (EP X pins σ Q) (.ref D) sc.heap.objs.size) { sc with heap := pushCells (sc.heap.push { cls := .type "dict", data := .dict #[] }) scope.names }
  generalize hce : compEnvC scope (cellsFrom (sc.heap.objs.size + 1) scope.names (cloFrom X.env.cells scope.names [])) sc.heap.objs.size X.env = ce at Id a0 a1 a2 a3 ⊢
  have eL : ce.locals = sc.heap.objs.size := by subst hce; rfl
  generalize hHc : upd Hb D O = Hc at Ic Id a0 a1 a2 a3 q nfp fc
  generalize hsd : ({ sc with heap := pushCells (sc.heap.push { cls := .type "dict", data := .dict #[] }) scope.names } : Shared) = sd at Id ⊢
  have td : tn 0 sd.heap := T.keep _ _ _ tc fun b _ o eo => by rw [← hsd]; exact pushCells_keeps _ _ _ _ (Heap.get?_push_of_some _ eo)
  have run : codeAny (model X.prog X.w) X.A (.compLoop (e1 kx vx t0 i0 f0 scope pos) 0 (.ref it) (.ref D) ce) (compPost (model X.prog X.w) X.A X.xe none (EP X pins σ Q) (.ref D) sc.heap.objs.size) sd := by
    obtain ⟨W, ⟨m0, ww⟩, step⟩ := q
    refine loopD (fun n s' => ∃ i H', Inv (X.blk sc Hc scope ce fp) [] (wipe σ (own.map (·.2))) H' s' ∧ tn i s'.heap ∧ (∀ b ∈ fp, H' b = none) ∧ W i n H')
      (fun n s hI => turns (Y := X.blk sc Hc scope ce fp) (vb := []) rfl hc a0 a1 (bd_put hu rfl a2 a3) (fun i hi => nomatch hi) T (fun σ' H' s' I' nn b hb => ⟨nn b hb, (I'.ok.exf b hb).1, I'.ok.exfs b hb, .inl hb, fun x c z => (I'.ok.exf b hb).2 x c z, fun p hp => absurd (show p ∈ ([] : List (Addr × Obj)) ++ [] from hp) (by simp)⟩) step (fun s' H' I' qq => ?_) n s hI) m0 ⟨0, Hc, Id, td, nfp, ww⟩
    have J7 : Inv X pins σ H' s' := Ic.call' (ch := fp) I'.os I'.base I'.hok I'.bare fun b hb => ⟨(fc b hb).1.2.2.2.1, (fc b hb).1.2.1, (fc b hb).1.2.2.2.2.1, (fc b hb).1.2.2.2.2.2⟩
    have free : H' sc.heap.objs.size = none := by
      have z : H' ce.locals = none := I'.free
      rw [eL] at z
      exact z
    obtain ⟨m, ns, _⟩ := I'.loc
    have ns : s'.heap.Ns ce.locals m := ns
    rw [eL] at ns
    obtain ⟨k0, k1, k2, k3, k4, k5⟩ := Ic.fpOk (Nat.le_refl _) free
    exact ⟨m, ns, fun h' sb => ⟨.ref D, H', J7.turned (t' := s'.toks) (fun b o hb z => (sb.2 b hb).trans z) k0 k1 k3 k4 k5, rfl, qq⟩⟩
  exact codeAny_compStart_dict run (T.self X.A 0 _ _ _ td run)
end
end ZC

set_option Elab.async false
set_option maxRecDepth 100000
set_option maxHeartbeats 4000000
/-! L19: comprehensions with three fors. -/
namespace L3
open PySem PySem.Spec PyProof.Rows L2
section
variable {K : PySem.W.Frag} {B : Base3}
end
section
variable {X : Cx} {B : Base3}
end
end L3

set_option Elab.async false
set_option maxRecDepth 100000
set_option maxHeartbeats 4000000
/-! L24: a, b = x, [..] where a name is lent to a comprehension. -/
namespace L3
open PySem PySem.Spec PyProof.Rows L2
section
variable {X : Cx} {B : Base3}
end
end L3

set_option Elab.async false
/-! L25: a statement that the reckoning does not cover. -/
namespace L3
open PySem PySem.Spec PyProof.Rows L2
end L3

set_option Elab.async false
set_option maxRecDepth 100000
set_option maxHeartbeats 4000000
/-! GE: next((a for a, b in enumerate(a list of ints) if b != 0), None). -/
namespace GN
open PySem PySem.Spec PyProof.Rows L2 GxR
/-- the place of the first one that is not 0 -/
def nz : List Int → Option Nat
  | [] => none
  | p :: ps => if p = 0 then (nz ps).map (· + 1) else some 0
section
variable {prog : Program} {w : World} {scope : Scope} {xa xb : Str} {cenv : Env} {K0 : Shared} {e it C l : Addr} {items : Array Value} {ps : List Int}
end
section
variable {X : Cx} {c P : Addr} {xa xb : Str} {scope : Scope} {e : Expr} {ta : TA} {k : Nat} {pn pe p1 p2 p5 q1 q4 q5 q6 gpos epos pos cp : Pos} {k1 j1 j2 : Nat}
end
end GN

set_option Elab.async false
set_option maxRecDepth 100000
set_option maxHeartbeats 4000000
/-! L26: next((a for a, b in enumerate(row) if b != 0), None), read over plain values. -/
namespace L3
open PySem PySem.Spec PyProof.Rows L2 LamX
section
variable {X : Cx} {B : Base3}
end
end L3

set_option Elab.async false
set_option maxRecDepth 100000
set_option maxHeartbeats 4000000
/-! ZS: sorted and min of lists of tuples of ints, of any length. -/
namespace L2
open PySem PySem.Spec PyProof.Rows PySem.W
def encZ (b : V × List Int) : PyData := .tuple (b.2.map .int)
section
variable {X : Cx} {pins : List (Addr × Obj)} {σ : St} {H : Hp} {s : Shared}
end
section
variable {X : Cx}
end
section
variable {X : Cx}
end
end L2

set_option Elab.async false
set_option maxRecDepth 100000
set_option maxHeartbeats 4000000
/-! L27: the greatest of a tuple of ints. -/
namespace L3
open PySem PySem.Spec PyProof.Rows L2
section
variable {X : Cx}
end
end L3

set_option Elab.async false
set_option maxRecDepth 100000
set_option maxHeartbeats 4000000
/-! L28: xs == ys, two lists of instances whose class has an __eq__ of its own, pairwise equal. -/
namespace L3
open PySem PySem.Spec PyProof.Rows L2
section
variable {K : PySem.W.Frag} {B : Base3} {pn : Pend} {F H H' : Hp} {σ : L2.St} {E : Env3} {G : Reg}
end
section
variable {X : Cx} {n : Nat} {D : Eqv}
end
section
variable {X : Cx} {B : Base3}
end
end L3

set_option Elab.async false
set_option maxRecDepth 100000
set_option maxHeartbeats 4000000
/-! L20: found[i] += e, found a list that its name owns, of whole numbers. -/
namespace L3
open PySem PySem.Spec PyProof.Rows L2
end L3

set_option Elab.async false
set_option maxRecDepth 100000
set_option maxHeartbeats 4000000
/-! L29: dicts read: d[k], k in d, len(d), d.get(k, x). -/
namespace L3
open PySem PySem.Spec PyProof.Rows L2
/-! ### keys -/
def keyK : D → Option Key
  | .int i => some (.inl i)
  | .str x => some (.inr x)
  | _ => none
def keysK : List D → Option (List Key)
  | [] => some []
  | d :: ds => match keyK d, keysK ds with
    | some a, some r => some (a :: r)
    | _, _ => none
def kD : Key → D
  | .inl i => .int i
  | .inr x => .str x
def lkD {κ : Type} [DecidableEq κ] (ks : List κ) (ds : List D) (k : κ) : Option D := ((ks.zip ds).find? fun p => decide (p.1 = k)).map (·.2)
/-- what the dict d holds at the key e -/
def lookD (d e : D) : Option (Option D) := match d, e with
  | .dcT ks ds, .tup es => (keysK es).map (lkD ks ds)
  | .dcK ks ds, .int i => some (lkD ks ds (.inl i))
  | .dcK ks ds, .str x => some (lkD ks ds (.inr x))
  | _, _ => none
section
variable {K : PySem.W.Frag} {F H : Hp}
theorem keyK_rep {d : D} {v : V} {k : Key} (r : Rep K F d v) (h : keyK d = some k) : v = kV k := by
  cases d with
  | int i => cases h; cases r; rfl
  | str x => cases h; cases r; rfl
  | _ => cases h
theorem keysK_rep : ∀ {ds : List D} {vs : List V} {ks : List Key}, RepL K F ds vs → keysK ds = some ks → vs = ks.map kV
  | _, _, _, .nil, h => by cases h; rfl
  | d :: ds, v :: vs, ks, .cons r t, h => by
    unfold keysK at h
    split at h
    · rename_i a b h1 h2
      cases h
      rw [keyK_rep r h1, keysK_rep t h2, List.map_cons]
    · cases h
theorem kD_rep (k : Key) : Rep K F (kD k) (kV k) := by
  cases k with
  | inl i => exact .int i
  | inr x => exact .str x
theorem kDs_rep : ∀ ks : List Key, RepL K F (ks.map kD) (ks.map kV)
  | [] => .nil
  | k :: ks => .cons (kD_rep k) (kDs_rep ks)
theorem lk_rep {κ : Type} [DecidableEq κ] : ∀ {ks : List κ} {ds : List D} {xs : List V} (k : κ), RepL K F ds xs → (∀ d, lkD ks ds k = some d → ∃ v, valV (ks.zip xs) k = some v ∧ Rep K F d v) ∧ (lkD ks ds k = none → valV (ks.zip xs) k = none)
  | [], _, _, _, _ => ⟨fun _ h => by simp [lkD] at h, fun _ => by rw [List.zip_nil_left]; rfl⟩
  | _ :: _, _, _, _, .nil => ⟨fun _ h => by simp [lkD] at h, fun _ => rfl⟩
  | a :: ks, d :: ds, v :: vs, k, .cons r t => by
    have ih := lk_rep (ks := ks) k t
    unfold lkD at ih ⊢
    rw [List.zip_cons_cons, List.zip_cons_cons]
    by_cases e : a = k
    · rw [valV_pos (p := (a, v)) e, List.find?_cons_of_pos (by simp [e])]
      exact ⟨fun d' h => by cases h; exact ⟨_, rfl, r⟩, fun h => by cases h⟩
    · rw [valV_neg (p := (a, v)) e, List.find?_cons_of_neg (by simp [e])]
      exact ih
/-- a reading of a dict -/
theorem dget_of (s : Same F H) {d e : D} {x y : V} {o : Option D} (rx : RepH K F H d x) (ry : RepH K F H e y) (h : lookD d e = some o) :
    ∃ a r, x = .ref a ∧ DGet H a y r ∧ (∀ d', o = some d' → ∃ v, r = some v ∧ Rep K F d' v) ∧ (o = none → r = none) := by
  unfold lookD at h
  split at h
  · obtain ⟨q, hq, rfl⟩ := Option.map_eq_some_iff.mp h
    obtain ⟨a, ob, xs, rfl, e1, hl, ra⟩ := rx.dct s
    obtain ⟨b, ys, rfl, e2, rb⟩ := ry.tupX s
    obtain ⟨h1, h2⟩ := lk_rep (ks := _) q ra
    rw [keysK_rep rb hq] at e2
    exact ⟨a, _, rfl, .inr ⟨_, q, b, .inr ⟨ob, e1⟩, rfl, e2, rfl⟩, h1, h2⟩
  · cases h
    obtain ⟨a, ob, xs, rfl, e1, hl, ra⟩ := rx.dck s
    obtain ⟨h1, h2⟩ := lk_rep (κ := Key) (ks := _) (Sum.inl _) ra
    exact ⟨a, _, rfl, .inl ⟨_, .inl _, .inr ⟨ob, e1⟩, ry.int, rfl⟩, h1, h2⟩
  · cases h
    obtain ⟨a, ob, xs, rfl, e1, hl, ra⟩ := rx.dck s
    obtain ⟨h1, h2⟩ := lk_rep (κ := Key) (ks := _) (Sum.inr _) ra
    exact ⟨a, _, rfl, .inl ⟨_, .inr _, .inr ⟨ob, e1⟩, ry.str, rfl⟩, h1, h2⟩
  · cases h
end
section
variable {X : Cx} {B : Base3}
/-! ### d[k] -/
def rDIx : R2 := fun x y H Q => ∃ a v, x = .ref a ∧ DGet H a y (some v) ∧ Q v H
theorem ix_dict (hu : X.A.units + 1 < cLine) : IxR X rDIx := by
  intro value slice pins s σ H x y v u Q I rx ry h hs
  obtain ⟨a, z, rfl, g, q⟩ := h
  obtain rfl : v = Value.ref a := rx
  have hT := dict_typeIs I g
  unfold subscriptTail
  refine wpAny_bind ?_
  rw [getitemInPython_of_ne hT.not_modules]
  refine wpAny_bind (wpAny_specialOf hT PySem.F.slot_dict_getitem.lookup ?_)
  have fin : wpAny (model X.prog X.w) X.A (subscripted slice false (.ref a) u) (fun r s₃ => wpAny (model X.prog X.w) X.A (letTemporaryGo value (.ref a) r >>= fun _ => pure r) (EP X pins σ Q) X.xe s₃) X.xe s := by
    rw [hs]
    exact wpAny_operating (wpAny_mono (d_getItem hu I g ry fun w' s3 I3 rw' => (show EP X pins σ Q w' s3 from ⟨z, H, I3, rw', q⟩)) (fun r s₃ h₃ => wpAny_bind (wpAny_letTemporaryGo (wpAny_pure h₃))) fun _ _ x => x)
  first
    | exact wpAny_pure (wpAny_bind fin)
    | exact wpAny_bind (wpAny_pure (wpAny_bind fin))
    | exact wpAny_bind fin
def oIxU : Reg → D → D → (Res → Prop) → Prop := fun G d e k => match d with
  | .dcT ks ds => ∃ v, lookD (.dcT ks ds) e = some (some v) ∧ k (.val v)
  | .dcK ks ds => ∃ v, lookD (.dcK ks ds) e = some (some v) ∧ k (.val v)
  | d => oIx G d e k
theorem r_ixU : ROp X B (fun x y H Q => rIx X.K x y H Q ∨ rDIx x y H Q) oIxU := by
  intro pn F H σ E G x y d e k Q S rx ry h hk
  unfold oIxU at h
  split at h
  · obtain ⟨v, hv, h⟩ := h
    obtain ⟨a, r, rfl, g, h1, _⟩ := dget_of S.w.sub rx ry hv
    obtain ⟨u, rfl, ru⟩ := h1 _ rfl
    exact .inr ⟨a, u, rfl, g, hk _ h _ F H S (Same.refl F) ru⟩
  · obtain ⟨v, hv, h⟩ := h
    obtain ⟨a, r, rfl, g, h1, _⟩ := dget_of S.w.sub rx ry hv
    obtain ⟨u, rfl, ru⟩ := h1 _ rfl
    exact .inr ⟨a, u, rfl, g, hk _ h _ F H S (Same.refl F) ru⟩
  · exact .inl (r_ix3 pn F H σ E G x y _ e k Q S rx ry h hk)
theorem le_itemU {a b : Expr} {ta tb : DE} {pos} (hu : X.A.units + 1 < cLine) (ha : LE X B a ta) (hb : LE X B b tb) (hs : PlainIx b := by exact fun _ _ => rfl) : LE X B (.Subscript a b pos) (dOp oIxU ta tb) := le_ix (ix_seq.or (ix_dict hu)) r_ixU ha hb hs
/-! ### k in d -/
def rDIn (neg : Bool) : R2 := fun x y H Q => ∃ a o, y = .ref a ∧ DGet H a x o ∧ Q (.bl (if neg then !o.isSome else o.isSome)) H
theorem op_din (hu : X.A.units + 1 < cLine) : OpR X (compareOp .In) (rDIn false) := by
  intro pins s σ H x y v u Q I rx ry h
  obtain ⟨a, o, rfl, g, q⟩ := h
  obtain rfl : u = Value.ref a := ry
  exact d_in hu I g rx fun s3 I3 => ⟨.bl o.isSome, H, I3, rfl, q⟩
theorem OpR.or2 {f : Value → Value → Sem Value} {r r' : R2} (h : OpR X f r) (h' : OpR X f r') : OpR X f (fun x y H Q => r x y H Q ∨ r' x y H Q) := fun pins s σ H x y v u Q I rx ry q => q.elim (h pins s σ H x y v u Q I rx ry) (h' pins s σ H x y v u Q I rx ry)
def oInU (neg : Bool) : Reg → D → D → (Res → Prop) → Prop := fun G e d k => match d with
  | .dcT ks ds => ∃ o, lookD (.dcT ks ds) e = some o ∧ k (.val (.bl (if neg then !o.isSome else o.isSome)))
  | .dcK ks ds => ∃ o, lookD (.dcK ks ds) e = some o ∧ k (.val (.bl (if neg then !o.isSome else o.isSome)))
  | d => oIn neg G e d k
theorem isSome_of {o : Option D} {r : Option V} {K : PySem.W.Frag} {F : Hp} (h1 : ∀ d', o = some d' → ∃ v, r = some v ∧ Rep K F d' v) (h2 : o = none → r = none) : r.isSome = o.isSome := by
  cases o with
  | none => rw [h2 rfl]; rfl
  | some d => obtain ⟨v, e, _⟩ := h1 d rfl; rw [e]; rfl
theorem r_inU {neg : Bool} {r0 : R2} (h0 : ROp X B r0 (oIn neg)) : ROp X B (fun x y H Q => r0 x y H Q ∨ rDIn neg x y H Q) (oInU neg) := by
  intro pn F H σ E G x y d e k Q S rx ry h hk
  unfold oInU at h
  split at h
  · obtain ⟨o, hv, h⟩ := h
    obtain ⟨a, r, rfl, g, h1, h2⟩ := dget_of S.w.sub ry rx hv
    rw [← isSome_of h1 h2] at h
    exact .inr ⟨a, r, rfl, g, hk _ h _ F H S (Same.refl F) (.bl _)⟩
  · obtain ⟨o, hv, h⟩ := h
    obtain ⟨a, r, rfl, g, h1, h2⟩ := dget_of S.w.sub ry rx hv
    rw [← isSome_of h1 h2] at h
    exact .inr ⟨a, r, rfl, g, hk _ h _ F H S (Same.refl F) (.bl _)⟩
  · exact .inl (h0 pn F H σ E G x y d _ k Q S rx ry h hk)

theorem room1 {k : Nat} {A : Around} (r : Room k A) : A.units + 1 < cLine := by have := room65 r; omega
section
variable {a b : Expr} {ta tb : DE} {pos : Pos}
theorem le_inU {k : Nat} (hr : Room k X.A) (ha : LE X B a ta) (hb : LE X B b tb) (hm : behindInMarks .In b = false := by rfl) : LE X B (.Compare a [.In] [b] pos) (dOp (oInU false) ta tb) := le_cmp (OpR.or2 (op_in3 (room65 hr)) (op_din (room1 hr))) (r_inU r_in3) ha hb hm
end
/-! ### len(d) -/
def rLenD : List V → Hp → VK → Prop := fun xs H Q => ∃ (p : Addr) (n : Nat), xs = [V.ref p] ∧ ((∃ kvs : List (List Key × V), Rd H p (.dT kvs) ∧ n = kvs.length) ∨ ∃ kvs : List (Key × V), Rd H p (.dK kvs) ∧ n = kvs.length) ∧ Q (.int ((n : Nat) : Int)) H
theorem call_lenD : CallR X (.builtin "len") rLenD := by
  intro pins s σ H xs us Q I r h
  obtain ⟨p, n, rfl, hp, q⟩ := h
  obtain ⟨u, rfl, rx⟩ := vals1 r
  obtain rfl : u = .ref p := rx
  rcases hp with ⟨kvs, hp, rfl⟩ | ⟨kvs, hp, rfl⟩
  · obtain ⟨z, hd, ys, rel, dd⟩ := dt_rd I.hok hp
    have hl : kvs.length = ys.length := Paired.length rel
    refine call_len_dictH hd dd (by rw [← hl]; rw [sizeLine_eq] at z; omega) ?_
    rw [← hl]
    exact ⟨.int ((kvs.length : Nat) : Int), H, I.tok _, ⟨_, rfl⟩, q⟩
  · exact d_len I hp fun t s' I' => ⟨.int ((kvs.length : Nat) : Int), H, I', ⟨_, rfl⟩, q⟩
def bLenU : Reg → List D → (Res → Prop) → Prop := fun G ds k => match ds with
  | [.dcT ks _] => k (.val (.int ks.length))
  | [.dcK ks _] => k (.val (.int ks.length))
  | ds => bLen G ds k
theorem zip_len {κ : Type} {ks : List κ} {xs : List V} (h : ks.length = xs.length) : (ks.zip xs).length = ks.length := by
  rw [List.length_zip, h, Nat.min_self]
theorem r_lenU : RCall X B (fun xs H Q => rLen3 X.K xs H Q ∨ rLenD xs H Q) bLenU := by
  intro pn F H σ E G vs ds k Q S r h hk
  unfold bLenU at h
  split at h
  · obtain ⟨v, rfl, rx⟩ := hl1 r
    obtain ⟨a, ob, xs, rfl, e1, hl, ra⟩ := rx.dct S.w.sub
    exact .inr ⟨a, _, rfl, .inl ⟨_, .inr ⟨ob, e1⟩, (zip_len hl).symm⟩, hk _ h _ F H S (Same.refl F) (.int _)⟩
  · obtain ⟨v, rfl, rx⟩ := hl1 r
    obtain ⟨a, ob, xs, rfl, e1, hl, ra⟩ := rx.dck S.w.sub
    exact .inr ⟨a, _, rfl, .inr ⟨_, .inr ⟨ob, e1⟩, (zip_len hl).symm⟩, hk _ h _ F H S (Same.refl F) (.int _)⟩
  · exact .inl (r_len3 pn F H σ E G vs ds k Q S r h hk)
theorem le_lenU {e : Expr} {ta : DA} {p pos : Pos} (hg : Gl X "len") (hm : X.mg "len" = none) (ha : LP X B [e] ta) (he : starEach [e] X.env = (false, eval e X.env) :: starEach [] X.env := by rfl) (hpl : (backTo pos (starEach [] X.env)).any (·.1) = false := by rfl) :
    LE X B (.Call (.Name "len" p) [e] [] pos) (dCB bLenU ta) := le_callB (call_len3.or call_lenD) r_lenU hg hm PySem.boot_len ha (by decide) (by decide) he hpl
end
end L3

set_option Elab.async false
set_option maxRecDepth 100000
set_option maxHeartbeats 4000000
/-! L30: dicts written: d[k] = v, d[k] op= v, d a dict that its name owns. -/
namespace L3
open PySem PySem.Spec PyProof.Rows L2
/-- the heap behind a[y] = v, a locked before and after -/
def DPutL (H : Hp) (a : Addr) (y v : V) (Q : Hp → Prop) : Prop :=
  (∃ ob kvs k, H a = some (.frz ob (.dK kvs)) ∧ y = kV k ∧ kvs.length < sizeLine ∧ ∀ od, Q (upd H a (.frz od (.dK (putK kvs k v))))) ∨
  ∃ ob kvs k b, H a = some (.frz ob (.dT kvs)) ∧ y = .ref b ∧ H b = some (.tup (k.map kV)) ∧ kvs.length < sizeLine ∧ ∀ od, Q (upd H a (.frz od (.dT (putK kvs k v))))
section
variable {X : Cx} {pins : List (Addr × Obj)} {σ : L2.St} {H : Hp} {s : Shared} {a : Addr} {y v : V} {u r : Value} {A : Around} {E : Value → Shared → Prop}
theorem d_putL {P : Hp → Prop} {Q : Unit → Shared → Prop} (hu : A.units + 1 < cLine) (I : Inv X pins σ H s) (hn : ∀ o' u', X.H_0 a ≠ some (.frz o' u')) (g : DPutL H a y v P) (ry : RelV y u) (rv : RelV v r)
    (h : ∀ H' s', Inv X pins σ H' s' → P H' → Q () s') : wpAny (model X.prog X.w) A (setItem (.ref a) u r) Q E s := by
  rcases g with ⟨ob, kvs, k, e, ey, l, hq⟩ | ⟨ob, kvs, k, b, e, ey, eb, l, hq⟩
  · have I1 := I.unlock e hn
    refine d_setItem hu I1 (.inl ⟨kvs, k, upd_same, ey, l, rfl⟩) ry rv fun s' I2 => ?_
    obtain ⟨od, I3⟩ := I2.lock upd_same trivial
    rw [upd_upd, upd_upd] at I3
    exact h _ _ I3 (hq od)
  · have I1 := I.unlock e hn
    have ne : b ≠ a := fun z => by rw [z, e] at eb; cases eb
    refine d_setItem hu I1 (.inr ⟨kvs, k, b, upd_same, ey, by rw [upd_ne ne]; exact eb, l, rfl⟩) ry rv fun s' I2 => ?_
    obtain ⟨od, I3⟩ := I2.lock upd_same trivial
    rw [upd_upd, upd_upd] at I3
    exact h _ _ I3 (hq od)
end
def sDPutL (X : Cx) (td ty tv : TE) : TS := fun D σ H => tv σ H fun v H1 => td σ H1 fun x H2 => ty σ H2 fun y H3 => ∃ a, x = .ref a ∧ (∀ o' u', X.H_0 a ≠ some (.frz o' u')) ∧ DPutL H3 a y v fun H4 => D.nx σ H4
section
variable {X : Cx} {o i e value : Expr} {pos pos' tpos : Pos} {td ty tv : TE}
theorem ps_dputL (hu : X.A.units + 1 < cLine) (ho : PE X o td) (hi : PE X i ty) (hv : PE X value tv) (hs : swapsWith value (some (.Subscript o i pos')) pos.line X.env = pure false) :
    PS X (.Assign [.Subscript o i pos'] value pos) (sDPutL X td ty tv) := by
  refine ⟨fun pins s σ H D I h => ?_⟩
  refine wpAny_Assign_Subscript (thn (hv.run pins s σ H _ I h) fun r s1 ⟨v, H1, I1, rv, q1⟩ => thn (ho.run pins s1 σ H1 _ I1 q1) fun u s2 ⟨x, H2, I2, rx, q2⟩ => thn (hi.run pins s2 σ H2 _ I2 q2) fun iv s3 ⟨y, H3, I3, ry, a, ex, hn, g⟩ => ?_) hs
  subst ex
  obtain rfl : u = Value.ref a := rx
  exact d_putL hu I3 hn g ry rv fun H4 s4 I4 q => ⟨σ, H4, I4, q⟩
end
/-! ### of plain values -/
def putks {κ : Type} [DecidableEq κ] (ks : List κ) (k : κ) : List κ := if k ∈ ks then ks else ks ++ [k]
def putds {κ α : Type} [DecidableEq κ] (ks : List κ) (ds : List α) (k : κ) (d : α) : List α := if k ∈ ks then List.zipWith (fun a x => if a = k then d else x) ks ds else ds ++ [d]
def setD (d e v : D) : Option D := match d, e with
  | .dcT ks ds, .tup es => (keysK es).map fun q => .dcT (putks ks q) (putds ks ds q v)
  | .dcK ks ds, .int i => some (.dcK (putks ks (.inl i)) (putds ks ds (.inl i) v))
  | .dcK ks ds, .str x => some (.dcK (putks ks (.inr x)) (putds ks ds (.inr x) v))
  | _, _ => none
def lenD : D → Nat
  | .dcT ks _ => ks.length
  | .dcK ks _ => ks.length
  | _ => 0
section
variable {K : PySem.W.Frag} {F H : Hp}
theorem zip_any {κ : Type} [DecidableEq κ] : ∀ {ks : List κ} {xs : List V} (k : κ), ks.length = xs.length → ((ks.zip xs).any fun kv => decide (kv.1 = k)) = decide (k ∈ ks)
  | [], [], _, _ => rfl
  | a :: ks, x :: xs, k, h => by
    rw [List.zip_cons_cons, List.any_cons, zip_any k (by simpa using h)]
    by_cases e : a = k
    · subst e; simp
    · have e' : k ≠ a := fun z => e z.symm
      simp [e, e']
theorem zip_repl {κ : Type} [DecidableEq κ] : ∀ {ks : List κ} {xs : List V} (k : κ) (v : V), ks.length = xs.length → (ks.zip xs).map (fun kv => if kv.1 = k then (kv.1, v) else kv) = ks.zip (List.zipWith (fun a x => if a = k then v else x) ks xs)
  | [], [], _, _, _ => rfl
  | a :: ks, x :: xs, k, v, h => by
    rw [List.zip_cons_cons, List.map_cons, zip_repl k v (by simpa using h), List.zipWith_cons_cons, List.zip_cons_cons]
    by_cases e : a = k
    · rw [if_pos e, if_pos e]
    · rw [if_neg e, if_neg e]
theorem zip_put {κ : Type} [DecidableEq κ] {ks : List κ} {xs : List V} (k : κ) (v : V) (h : ks.length = xs.length) : putK (ks.zip xs) k v = (putks ks k).zip (putds ks xs k v) := by
  unfold putK putks putds
  rw [zip_any k h]
  by_cases e : k ∈ ks
  · rw [if_pos (by simpa using e), if_pos e, if_pos e, zip_repl k v h]
  · rw [if_neg (by simpa using e), if_neg e, if_neg e, List.zip_append h]
    rfl
theorem putds_len {κ α : Type} [DecidableEq κ] {ks : List κ} {xs : List α} (k : κ) (v : α) (h : ks.length = xs.length) : (putks ks k).length = (putds ks xs k v).length := by
  unfold putks putds
  by_cases e : k ∈ ks
  · rw [if_pos e, if_pos e, List.length_zipWith, h, Nat.min_self]
  · rw [if_neg e, if_neg e, List.length_append, List.length_append, h]; rfl
theorem zipW_rep {κ : Type} [DecidableEq κ] (k : κ) {d : D} {v : V} (r : Rep K F d v) : ∀ {ks : List κ} {ds : List D} {xs : List V}, RepL K F ds xs → RepL K F (List.zipWith (fun a x => if a = k then d else x) ks ds) (List.zipWith (fun a x => if a = k then v else x) ks xs)
  | [], _, _, _ => .nil
  | _ :: _, _, _, .nil => .nil
  | a :: ks, _, _, .cons h t => by
    rw [List.zipWith_cons_cons, List.zipWith_cons_cons]
    refine .cons ?_ (zipW_rep k r t)
    by_cases e : a = k
    · rw [if_pos e, if_pos e]; exact r
    · rw [if_neg e, if_neg e]; exact h
theorem putds_rep {κ : Type} [DecidableEq κ] {ks : List κ} {ds : List D} {xs : List V} (k : κ) {d : D} {v : V} (ra : RepL K F ds xs) (r : Rep K F d v) : RepL K F (putds ks ds k d) (putds ks xs k v) := by
  unfold putds
  by_cases e : k ∈ ks
  · rw [if_pos e, if_pos e]; exact zipW_rep k r ra
  · rw [if_neg e, if_neg e]; exact ra.append (.cons r .nil)
/-- a store into a dict, as the heap sees it -/
theorem dput_of {d e z d' : D} {a : Addr} {o : HO} {y v : V} {P : Hp → Prop} (s : Same F H) (ea : H a = some o) (rd : RepB K F d o) (ry : RepH K F H e y) (rv : Rep K F z v) (h : setD d e z = some d') (hl : lenD d < sizeLine)
    (hq : ∀ o', RepB K F d' o' → P (upd H a o')) : DPutL H a y v P := by
  unfold setD at h
  split at h
  · rename_i ks ds es
    obtain ⟨q, hk, rfl⟩ := Option.map_eq_some_iff.mp h
    obtain ⟨ob, xs, rfl, hl2, ra⟩ := rd
    obtain ⟨b, ys, rfl, e2, rb⟩ := ry.tupX s
    rw [keysK_rep rb hk] at e2
    refine .inr ⟨ob, _, q, b, ea, rfl, e2, by rw [zip_len hl2]; exact hl, fun od => ?_⟩
    rw [zip_put q v hl2]
    exact hq _ ⟨od, _, rfl, putds_len q v hl2, putds_rep q ra rv⟩
  · rename_i ks ds i
    cases h
    obtain ⟨ob, xs, rfl, hl2, ra⟩ := rd
    refine .inl ⟨ob, _, .inl i, ea, ry.int, by rw [zip_len hl2]; exact hl, fun od => ?_⟩
    rw [zip_put _ v hl2]
    exact hq _ ⟨od, _, rfl, putds_len _ v hl2, putds_rep _ ra rv⟩
  · rename_i ks ds x
    cases h
    obtain ⟨ob, xs, rfl, hl2, ra⟩ := rd
    refine .inl ⟨ob, _, .inr x, ea, ry.str, by rw [zip_len hl2]; exact hl, fun od => ?_⟩
    rw [zip_put _ v hl2]
    exact hq _ ⟨od, _, rfl, putds_len _ v hl2, putds_rep _ ra rv⟩
  · cases h
end
section
variable {X : Cx} {B : Base3}
/-- d[k] = e, d in slot s -/
def dPutD (s : Nat) (te ti : DE) : DSt := fun D E G => te E G fun v E1 G1 => ∃ z E2, v.ice E1 = some (z, E2) ∧ (∃ d0, E2[s]? = some (Sl3.ownD d0)) ∧ ti E2 G1 fun i E3 G2 => ∃ y, i = .val y ∧ ∃ d, E3[s]? = some (Sl3.ownD d) ∧ lenD d < sizeLine ∧
  ∃ d', setD d y z = some d' ∧ D.nx (E3.set s (Sl3.ownD d')) G2
theorem ls_putD {n s : Nat} {o i e : Expr} {ti te : DE} {pos pos' : Pos} (hr : Room n X.A) (lk : Lk X B) (ho : PE X o (tVar s)) (he : LE X B e te) (hi : LE X B i ti) (hs : swapsWith e (some (.Subscript o i pos')) pos.line X.env = pure false := by rfl) :
    LS X B (.Assign [.Subscript o i pos'] e pos) (dPutD s te ti) :=
  ⟨ps_imp (ps_dputL (room1 hr) ho hi.pe he.pe hs) fun D σ H ⟨pn, F, E, G, D3, S, h, ok⟩ => ⟨pn, F, E, G, _, S, h, fun r E1 G1 ⟨z, E2, hz, ⟨d0, h0⟩, h1⟩ v F1 H1 S1 s1 r1 => by
    obtain ⟨F1', S1', s1', r1'⟩ := S1.ice r1 hz
    obtain ⟨p, hp0, f0⟩ := S1'.own s _ _ h0 rfl
    refine ⟨_, hp0, pn, F1', E2, G1, _, S1', h1, fun ri E3 G2 ⟨y, e1, d, hd, hl, d', hset, hn⟩ iv F2 H2 S2 s2 r2 => ?_⟩
    subst e1
    obtain ⟨p', hp1, f1⟩ := S2.own s _ _ hd rfl
    rw [hp0] at hp1
    cases hp1
    obtain ⟨ob, hx, rx⟩ := f1.ex
    refine ⟨p, rfl, fun o' u' => lk p f1.nB o' u', dput_of S2.w.sub hx rx (.inl r2) (Rep.mono s2 _ _ r1') hset hl fun o' rb => ?_⟩
    exact ok.nx _ _ hn σ F2 _ (S2.ownWriteX hd rfl hp0 rfl rb) ((s1.trans s1').trans s2)⟩⟩
/-- a store, into a list or a dict -/
def dStoreU (s : Nat) (te ti : DE) : DSt := fun D E G => match E[s]? with
  | some (Sl3.ownD _) => dPutD s te ti D E G
  | _ => dStore te (dVar s) ti D E G
theorem LS.or {st : Stmt} {t u v : DSt} (h : LS X B st t) (h' : LS X B st u) (e : ∀ D E G, v D E G → t D E G ∨ u D E G) : LS X B st v :=
  ⟨⟨fun pins s σ H D I ⟨pn, F, E, G, D3, S, q, ok⟩ => (e _ _ _ q).elim (fun q => h.ps.run pins s σ H D I ⟨pn, F, E, G, D3, S, q, ok⟩) fun q => h'.ps.run pins s σ H D I ⟨pn, F, E, G, D3, S, q, ok⟩⟩⟩
theorem ls_storeU {n s : Nat} {x : Str} {p : Pos} {i e : Expr} {ti te : DE} {pos pos' : Pos} (hr : Room n X.A) (lk : Lk X B) (ho : PE X (.Name x p) (tVar s)) (he : LE X B e te) (hi : LE X B i ti) (hs : swapsWith e (some (.Subscript (.Name x p) i pos')) pos.line X.env = pure false := by rfl)
    (hs' : swapsWithSole [.Subscript (.Name x p) i pos'] e pos.line X.env = pure false := by rfl) (hw : swappedStores [.Subscript (.Name x p) i pos'] e X.env = pure none := by rfl)
    (h1 : (assignEach [.Subscript (.Name x p) i pos'] X.env).map (·.2) = [assign (.Subscript (.Name x p) i pos') X.env] := by rfl)
    (ha : ∀ v, assign (.Subscript (.Name x p) i pos') X.env v = (do
      let ov ← holding [v] (eval (.Name x p) X.env)
      let iv ← holding [v, ov] (eval i X.env)
      standAt pos'
      holding [v, ov, iv] (setItem ov iv v)
      release [v, ov, iv] []) := by intro _; rfl) : LS X B (.Assign [.Subscript (.Name x p) i pos'] e pos) (dStoreU s te ti) :=
  LS.or (ls_putD hr lk ho he hi hs) (ls_store he (le_pv ho) hi hs' hw h1 ha) fun D E G h => by
    unfold dStoreU at h
    split at h
    · exact .inl h
    · exact .inr h
end
end L3

set_option Elab.async false
set_option maxRecDepth 100000
set_option maxHeartbeats 4000000
/-! L31: dicts walked: keys, values, pairs. -/
namespace L3
open PySem PySem.Spec PyProof.Rows L2
section
variable {X : Cx} {pins : List (Addr × Obj)} {σ : L2.St} {H : Hp} {s : Shared} {d : Addr} {o : Obj}
end
section
variable {P : Program} {w : World} {K : PySem.W.Frag} {tg : Expr} {d : Addr} {o : Obj} {es : Array DictEntry} {ep : Nat}
end
section
variable {X : Cx} {tg e : Expr} {td : TE} {apos cpos : Pos}
end
/-! ### of plain values -/
def kTD (k : List Key) : D := .tup (k.map kD)
def iterDU (d : D) : Option (List D) := match d with
  | .dcT ks _ => some (ks.map kTD)
  | .dcK ks _ => some (ks.map kD)
  | d => iterD d
section
variable {X : Cx} {B : Base3} {K : PySem.W.Frag}
theorem zipKV_get {κ : Type} {ks : List κ} {xs : List V} {i : Nat} {k : κ} {v : V} (h : (ks.zip xs)[i]? = some (k, v)) : ks[i]? = some k ∧ xs[i]? = some v := by
  rw [List.getElem?_zip_eq_some] at h
  exact h
theorem lt_ks {κ : Type} {ks : List κ} {xs : List V} {i : Nat} (hl : ks.length = xs.length) (h : i < ks.length) : i < (ks.zip xs).length := by rw [zip_len hl]; exact h
variable {F0 : Hp} {a : Addr} {ob : Obj} {xs : List V} {ds : List D}
theorem wk_keysT {ks : List (List Key)} (e : F0 a = some (.frz ob (.dT (ks.zip xs)))) (hl : ks.length = xs.length) : Wk K B (Itkt a ob (ks.zip xs)) (ks.map kTD) F0 := by
  refine ⟨fun pn F H σ E G i S s h => ⟨S.w.sub _ _ (s _ _ e), lt_ks hl (by simpa using h)⟩, fun pn F H σ E G i x H' S s hi h => ?_, fun pn F H σ E G i S s h => ⟨S.w.sub _ _ (s _ _ e), by rw [zip_len hl]; simpa using h⟩⟩
  obtain ⟨rfl, k, v, q, h1, rfl, h2⟩ := h
  obtain ⟨h3, _⟩ := zipKV_get h1
  obtain ⟨F', S', s', e'⟩ := S.seeTup h2
  exact ⟨F', S', s', kTD k, by rw [List.getElem?_map, h3]; rfl, .tup e' (kDs_rep k)⟩
theorem wk_keysK {ks : List Key} (e : F0 a = some (.frz ob (.dK (ks.zip xs)))) (hl : ks.length = xs.length) : Wk K B (Itk a ob (ks.zip xs)) (ks.map kD) F0 := by
  refine ⟨fun pn F H σ E G i S s h => ⟨S.w.sub _ _ (s _ _ e), lt_ks hl (by simpa using h)⟩, fun pn F H σ E G i x H' S s hi h => ?_, fun pn F H σ E G i S s h => ⟨S.w.sub _ _ (s _ _ e), by rw [zip_len hl]; simpa using h⟩⟩
  obtain ⟨rfl, k, v, h1, rfl⟩ := h
  obtain ⟨h3, _⟩ := zipKV_get h1
  exact ⟨F, S, Same.refl F, kD k, by rw [List.getElem?_map, h3]; rfl, kD_rep k⟩
def dIterU (te : DE) : DI := fun E G k => te E G fun r E1 G1 => ∃ d E2, r.ice E1 = some (d, E2) ∧ ∃ ds, iterDU d = some ds ∧ k ds E2 G1
/-- a list, a tuple, a text, a dict's keys -/
def iSeqU (K : PySem.W.Frag) (tl : TE) : TI := fun σ H R => tl σ H fun x H1 => ((∃ a xs, x = .ref a ∧ SqL K H1 a xs ∧ R (Itl K a) H1) ∨ (∃ a xs, x = .ref a ∧ SqT K H1 a xs ∧ R (Itt K a) H1) ∨ ∃ z, x = .str z ∧ R (Its z) H1) ∨
  ∃ d o, x = .ref d ∧ ((∃ kvs, H1 d = some (.frz o (.dK kvs)) ∧ R (Itk d o kvs) H1) ∨ ∃ kvs, H1 d = some (.frz o (.dT kvs)) ∧ R (Itkt d o kvs) H1)
theorem pi_seqU {tg l : Expr} {tl : TE} (hl : PE X l tl) : PI X tg l (iSeqU X.K tl) := by
  refine ⟨fun pins s σ H R I h => ?_⟩
  refine thn (hl.run pins s σ H _ I h) fun v s1 ⟨x, H1, I1, r1, q1⟩ => ?_
  rcases q1 with (⟨a, xs, e, hq, q⟩ | ⟨a, xs, e, hq, q⟩ | ⟨z, e, q⟩) | ⟨d, o, ex, q⟩
  · subst e
    cases r1
    obtain ⟨its, rv, p, hz⟩ := I1.list hq
    refine wpAny_pyIter_list p.isList ?_
    refine ⟨s1.heap.objs.size, [s1.heap.objs.size], _, _, H1, rfl, I1.kept (t' := s1.toks) fun b o e => Heap.get?_push_of_some _ e, turn_list a _, ⟨_, Heap.get?_push_size _ rfl, rfl, rfl⟩, fun b hb => ?_, q⟩
    have e : b = s1.heap.objs.size := by simpa using hb
    subst e
    exact I1.fpOk (Nat.le_refl _) (I1.hok.fresh (Nat.le_refl _))
  · subst e
    cases r1
    obtain ⟨its, rv, p, hz⟩ := I1.tuple hq
    refine wpAny_pyIter_tuple (show s1.heap.IsTuple a its.toArray from p) ?_
    refine ⟨s1.heap.objs.size, [s1.heap.objs.size], _, _, H1, rfl, I1.kept (t' := s1.toks) fun b o e => Heap.get?_push_of_some _ e, turn_tuple a _, ⟨_, Heap.get?_push_size _ rfl, rfl, rfl⟩, fun b hb => ?_, q⟩
    have e : b = s1.heap.objs.size := by simpa using hb
    subst e
    exact I1.fpOk (Nat.le_refl _) (I1.hok.fresh (Nat.le_refl _))
  · subst e
    obtain ⟨t, rfl⟩ := r1
    cases ha : z.cps.all (· < 128)
    · exact wpAny_pyIter_wide ha (pi_one (tk := s1.toks) I1 _ (turn_str _ z t "str_iterator" (.inr rfl)) ⟨_, Heap.get?_push_size _ rfl, rfl, rfl⟩ q)
    · exact wpAny_pyIter_ascii ha (pi_one (tk := s1.toks) I1 _ (turn_str _ z t "str_ascii_iterator" (.inl rfl)) ⟨_, Heap.get?_push_size _ rfl, rfl, rfl⟩ q)
  · subst ex
    obtain rfl : v = Value.ref d := r1
    rcases q with ⟨kvs, hd, q⟩ | ⟨kvs, hd, q⟩
    · obtain ⟨hs, hgd, hx, es, ep, vs, hdt, hsz, kv, hm⟩ := I1.frzK hd
      refine iter_keys hs hgd hx hdt (pi_one (tk := s1.toks) I1 _ (turn_keys _ hdt) ⟨_, Heap.get?_push_size _ rfl, rfl, ?_⟩ q)
      rw [hsz] <;> rfl
    · obtain ⟨hs, hgd, hx, es, ep, hdt, hsz, ent⟩ := I1.frzT hd
      refine iter_keys hs hgd hx hdt (pi_one (tk := s1.toks) I1 _ (turn_keysT _ hdt) ⟨_, Heap.get?_push_size _ rfl, rfl, ?_⟩ q)
      rw [hsz] <;> rfl
theorem li_seqU {tg l : Expr} {te : DE} (hl : LE X B l te) : LI X B tg l (dIterU te) :=
  ⟨pi_imp (pi_seqU hl.pe) fun σ H R ⟨pn, F, E, G, k, S, h, hk⟩ => ⟨pn, F, E, G, _, S, h, fun r E1 G1 ⟨d, E2, hd, ds, hi, h1⟩ v F1 H1 S1 s1 r1 => by
    obtain ⟨F2, S2, s2, r2⟩ := S1.ice r1 hd
    cases r2 with
    | lst hs ha => cases hi; exact .inl (.inl ⟨_, _, rfl, S2.w.sub.seq (.inl hs), hk _ _ _ h1 _ F2 H1 S2 (s1.trans s2) (wk_list (.inl hs) ha)⟩)
    | tup hs ha => cases hi; exact .inl (.inr (.inl ⟨_, _, rfl, SqT.of (S2.w.sub _ _ hs), hk _ _ _ h1 _ F2 H1 S2 (s1.trans s2) (wk_tup (SqT.of hs) ha)⟩))
    | scr hs => cases hi; exact .inl (.inl ⟨_, _, rfl, S2.w.sub.seq hs, hk _ _ _ h1 _ F2 H1 S2 (s1.trans s2) (wk_list hs (RepL.ints _))⟩)
    | str x => cases hi; exact .inl (.inr (.inr ⟨_, rfl, hk _ _ _ h1 _ F2 H1 S2 (s1.trans s2) wk_str⟩))
    | dcT e hl ha => cases hi; exact .inr ⟨_, _, rfl, .inr ⟨_, S2.w.sub _ _ e, hk _ _ _ h1 _ F2 H1 S2 (s1.trans s2) (wk_keysT e hl)⟩⟩
    | dcK e hl ha => cases hi; exact .inr ⟨_, _, rfl, .inl ⟨_, S2.w.sub _ _ e, hk _ _ _ h1 _ F2 H1 S2 (s1.trans s2) (wk_keysK e hl)⟩⟩
    | _ => cases hi⟩⟩
end
end L3

set_option Elab.async false
set_option maxRecDepth 100000
set_option maxHeartbeats 4000000
/-! L32: {k: v for t in i if ..}. -/
namespace L3
open PySem PySem.Spec PyProof.Rows L2
/-- a dict that is not locked -/
def RepU (K : PySem.W.Frag) (F : Hp) : D → HO → Prop
  | .dcT ks ds, o => ∃ xs, o = .dT (ks.zip xs) ∧ ks.length = xs.length ∧ RepL K F ds xs
  | .dcK ks ds, o => ∃ xs, o = .dK (ks.zip xs) ∧ ks.length = xs.length ∧ RepL K F ds xs
  | _, _ => False
theorem RepU.mono {K : PySem.W.Frag} {F F' : Hp} (s : Same F F') {d : D} {o : HO} (h : RepU K F d o) : RepU K F' d o := by
  cases d with
  | dcT ks ds => obtain ⟨xs, e, l, r⟩ := h; exact ⟨xs, e, l, RepL.mono s _ _ r⟩
  | dcK ks ds => obtain ⟨xs, e, l, r⟩ := h; exact ⟨xs, e, l, RepL.mono s _ _ r⟩
  | _ => exact h.elim
theorem RepU.dat {K : PySem.W.Frag} {F : Hp} {d : D} {o : HO} (h : RepU K F d o) : Dat o := by
  cases d with
  | dcT ks ds => obtain ⟨xs, rfl, _⟩ := h; exact .dTu
  | dcK ks ds => obtain ⟨xs, rfl, _⟩ := h; exact .dKu
  | _ => exact h.elim
theorem RepU.mut {K : PySem.W.Frag} {F : Hp} {d : D} {o : HO} (h : RepU K F d o) : Mut (some o) := by
  cases d with
  | dcT ks ds => obtain ⟨xs, rfl, _⟩ := h; trivial
  | dcK ks ds => obtain ⟨xs, rfl, _⟩ := h; trivial
  | _ => exact h.elim
theorem RepU.lock {K : PySem.W.Frag} {F : Hp} {d : D} {o : HO} (h : RepU K F d o) (od : Obj) : RepB K F d (.frz od o) := by
  cases d with
  | dcT ks ds => obtain ⟨xs, rfl, l, r⟩ := h; exact ⟨od, xs, rfl, l, r⟩
  | dcK ks ds => obtain ⟨xs, rfl, l, r⟩ := h; exact ⟨od, xs, rfl, l, r⟩
  | _ => exact h.elim
section
variable {K : PySem.W.Frag} {B : Base3} {pn : Pend} {F H : Hp} {σ : L2.St} {E : Env3} {G : Reg}
/-- what is pending is written -/
theorem St3.pendPut {a : Addr} {o o' : HO} (S : St3 K B ((a, o) :: pn) F H σ E G) (hd : Dat o) (hd' : Dat o') : St3 K B ((a, o') :: pn) F (upd H a o') σ E G := by
  obtain ⟨S0, hF, hB, hG, hP, hH, no⟩ := S.pendOff hd
  have other : ∀ {b : Addr} {u : HO}, b ≠ a → H b = some u → upd H a o' b = some u := fun ne e => by rw [upd_ne ne]; exact e
  refine St3.pendOn (o := o') ⟨⟨fun b u hb => ?_, fun b fs hb => ?_, S0.w.nd⟩, S0.keepF, fun b u hb hg => ?_, S0.unfr, S0.regs, S0.regk, S0.len, S0.slot, fun j s d hj ho => ?_, S0.ownd, fun b u hb => ?_, S0.pnd, S0.news⟩ hF hB hG hP upd_same no hd'.nt
  · exact other (ne_of_none hb hF) (S0.w.sub b u hb)
  · obtain ⟨h1, zs, h2, h3⟩ := S0.w.reg b fs hb
    exact ⟨h1, zs, other (fun z => hG (List.mem_map.mpr ⟨(b, fs), hb, z⟩)) h2, h3⟩
  · exact other (ne_of_none hb hB) (S0.keepH b u hb hg)
  · obtain ⟨b, e1, g⟩ := S0.own j s d hj ho
    obtain ⟨zs, e2, r2⟩ := g.ex
    exact ⟨b, e1, ⟨g.nF, g.nB, g.nG, g.nP, zs, other (fun q => no j s d hj ho (by rw [← q]; exact e1)) e2, r2⟩⟩
  · obtain ⟨h1, h2, h3, h4⟩ := S0.pend b u hb
    exact ⟨other (fun z => hP (List.mem_map.mpr ⟨(b, u), hb, z⟩)) h1, h2, h3, h4⟩
/-- a store into a dict that is not locked -/
theorem dputU_of {d e z d' : D} {a : Addr} {o : HO} {y v : V} (s : Same F H) (ea : H a = some o) (rd : RepU K F d o) (ry : RepH K F H e y) (rv : Rep K F z v) (h : setD d e z = some d') (hl : lenD d < sizeLine) :
    ∃ o', RepU K F d' o' ∧ DPut H a y v (upd H a o') := by
  unfold setD at h
  split at h
  · obtain ⟨q, hk, rfl⟩ := Option.map_eq_some_iff.mp h
    obtain ⟨xs, rfl, hl2, ra⟩ := rd
    obtain ⟨b, ys, rfl, e2, rb⟩ := ry.tupX s
    rw [keysK_rep rb hk] at e2
    refine ⟨_, ⟨_, rfl, putds_len q v hl2, putds_rep q ra rv⟩, .inr ⟨_, q, b, ea, rfl, e2, by rw [zip_len hl2]; exact hl, ?_⟩⟩
    rw [zip_put q v hl2]
  · cases h
    obtain ⟨xs, rfl, hl2, ra⟩ := rd
    refine ⟨_, ⟨_, rfl, putds_len _ v hl2, putds_rep _ ra rv⟩, .inl ⟨_, .inl _, ea, ry.int, by rw [zip_len hl2]; exact hl, ?_⟩⟩
    rw [zip_put _ v hl2]
  · cases h
    obtain ⟨xs, rfl, hl2, ra⟩ := rd
    refine ⟨_, ⟨_, rfl, putds_len _ v hl2, putds_rep _ ra rv⟩, .inl ⟨_, .inr _, ea, ry.str, by rw [zip_len hl2]; exact hl, ?_⟩⟩
    rw [zip_put _ v hl2]
  · cases h
end
abbrev DBd := D → Env3 → Reg → (D → Env3 → Reg → Prop) → Prop
def dPutB (tk tv : DE) : DBd := fun acc E G k => tk E G fun rk E1 G1 => ∃ y, rk = .val y ∧ tv E1 G1 fun r E2 G2 => ∃ x E3, r.ice E2 = some (x, E3) ∧ lenD acc < sizeLine ∧ ∃ acc', setD acc y x = some acc' ∧ k acc' E3 G2
def dTurnsD (g : DG) (tt : DT) (b : DBd) (vs : List Nat) : List D → DBd
  | [], acc, E, G, k => k acc E G
  | d :: ds, acc, E, G, k => g d E G fun E1 G1 => tt E1 G1 fun ok E2 G2 => if ok = true then b acc E2 G2 fun acc' E3 G3 => dTurnsD g tt b vs ds acc' (wipe3 E3 vs) G3 k else dTurnsD g tt b vs ds acc (wipe3 E2 vs) G2 k
/-- d0: {} of the kind that is wanted -/
def dDc (d0 : D) (di : DI) (g : DG) (tt : DT) (tk tv : DE) (vs : List Nat) : DE := fun E G k => di E G fun ds E1 G1 => dTurnsD g tt (dPutB tk tv) vs ds d0 (wipe3 E1 vs) G1 fun acc E2 G2 => k (.frD acc) E2 G2
inductive Dc00 : D → HO → Prop
  | t : Dc00 (.dcT [] []) (.dT [])
  | k : Dc00 (.dcK [] []) (.dK [])
section
variable {K : PySem.W.Frag} {B : Base3}
theorem turnsD {g : DG} {tt : DT} {tk tv : DE} {vs : List Nat} {J : It} {ds : List D} {A : Addr} {pn : Pend} {F H : Hp} {σ : L2.St} {E : Env3} {G : Reg} {acc : D} {o : HO} {Nx : Hp → Prop} {kk : D → Env3 → Reg → Prop}
    (wk : Wk K B J ds F) (S : St3 K B ((A, o) :: pn) F H (wipe σ vs) E G) (hw : NoAt vs E) (r : RepU K F acc o) (h : dTurnsD g tt (dPutB tk tv) vs ds acc E G kk)
    (k : ∀ acc' E' G' F' H' o', St3 K B ((A, o') :: pn) F' H' (wipe σ vs) E' G' → NoAt vs E' → Same F F' → RepU K F' acc' o' → kk acc' E' G' → Nx H') :
    ZC.tTurns J (LiftG K B vs g) (LiftT K B tt) (ZC.tPut (Lift K B tk) (Lift K B tv) A) vs σ H Nx := by
  refine ⟨fun i m H' => ∃ F' E' G' acc o, St3 K B ((A, o) :: pn) F' H' (wipe σ vs) E' G' ∧ NoAt vs E' ∧ Same F F' ∧ RepU K F' acc o ∧ m = ds.length - i ∧ i ≤ ds.length ∧ dTurnsD g tt (dPutB tk tv) vs (ds.drop i) acc E' G' kk, ⟨ds.length, F, E, G, acc, o, S, hw, Same.refl F, r, rfl, Nat.zero_le _, h⟩, ?_⟩
  rintro i m H2 ⟨F2, E2, G2, acc2, o2, S2, hw2, s2, r2, rfl, hi, h2⟩
  by_cases lt : i < ds.length
  · refine .inr ⟨wk.go _ F2 H2 _ E2 G2 i S2 s2 lt, fun H' => ∃ F' E' G' acc o, St3 K B ((A, o) :: pn) F' H' (wipe σ vs) E' G' ∧ NoAt vs E' ∧ Same F F' ∧ RepU K F' acc o ∧ dTurnsD g tt (dPutB tk tv) vs (ds.drop (i + 1)) acc E' G' kk, fun H' ⟨F', E', G', acc', o', S', w', s', r', h'⟩ => ⟨ds.length - (i + 1), by omega, F', E', G', acc', o', S', w', s', r', rfl, lt, h'⟩, fun x H' y => ?_⟩
    obtain ⟨F3, S3, s3, d, hd, rd⟩ := wk.yld _ F2 H2 _ E2 G2 i x H' S2 s2 lt y
    rw [List.drop_eq_getElem_cons lt] at h2
    have ed : ds[i] = d := by
      rw [List.getElem?_eq_getElem lt] at hd
      exact Option.some.inj hd
    rw [ed] at h2
    refine ⟨_, F3, E2, G2, _, d, S3, rd, h2, fun E4 G4 h4 σ4 F4 H4 S4 s4 w4 => ?_⟩
    have e4 : wipe σ4 vs = wipe σ vs := by rw [w4, wipe_wipe fun i h => h]
    refine ⟨e4, _, F4, E4, G4, _, S4, h4, fun ok E5 G5 h5 F5 H5 S5 s5 => ?_⟩
    have s25 : Same F2 F5 := (s3.trans s4).trans s5
    cases ok with
    | false =>
      have q := S5.wipeBoth vs
      rw [e4] at q
      exact ⟨F5, _, G5, acc2, o2, q, noAt_wipe _ _, s2.trans s25, r2.mono s25, h5⟩
    | true =>
      refine ⟨_, F5, E5, G5, _, S5, h5, fun rk E6 G6 ⟨yk, ek, h6⟩ ky F6 H6 S6 s6 r6 => ?_⟩
      subst ek
      refine ⟨_, F6, E6, G6, _, S6, h6, fun rr E7 G7 ⟨x7, E8, hx, hl, acc', hset, h7⟩ v F7 H7 S7 s7 r7 => ?_⟩
      obtain ⟨F8, S8, s8, r8⟩ := S7.ice r7 hx
      have s28 : Same F2 F8 := ((s25.trans s6).trans s7).trans s8
      have ra := r2.mono s28
      obtain ⟨_, _, _, _, _, hA, _⟩ := S8.pendOff ra.dat
      obtain ⟨o', ro, g'⟩ := dputU_of S8.w.sub hA ra (.inl (Rep.mono (s7.trans s8) _ _ r6)) r8 hset hl
      refine ⟨_, g', ?_⟩
      have q := (S8.pendPut ra.dat ro.dat).wipeBoth vs
      rw [e4] at q
      exact ⟨F8, _, G7, acc', o', q, noAt_wipe _ _, s2.trans s28, ro, h7⟩
  · have e : i = ds.length := by omega
    subst e
    rw [List.drop_length] at h2
    exact .inl ⟨wk.stop _ F2 H2 _ E2 G2 _ S2 s2 (Nat.le_refl _), k _ _ _ F2 H2 o2 S2 hw2 s2 r2 h2⟩
theorem dc3 {d0 : D} {O : HO} (h0 : Dc00 d0 O) {di : DI} {g : DG} {tt : DT} {tk tv : DE} {vs : List Nat} {σ : L2.St} {H : Hp} {Q : VK} (h : Lift K B (dDc d0 di g tt tk tv vs) σ H Q) :
    tLk (ZC.tDcU O (LiftI K B di) (LiftG K B vs g) (LiftT K B tt) (Lift K B tk) (Lift K B tv) vs) σ H Q := by
  obtain ⟨pn, F, E, G, k, S, h, hk⟩ := h
  refine ⟨pn, F, E, G, _, S, h, fun ds E1 G1 h1 J F1 H1 S1 s1 wk A nA => ?_⟩
  have r0 : RepU K F1 d0 O := by
    cases h0 with
    | t => exact ⟨[], rfl, rfl, .nil⟩
    | k => exact ⟨[], rfl, rfl, .nil⟩
  have f0 := S1.newFre (xs := []) (ds := []) nA .nil
  have S1' : St3 K B ((A, O) :: pn) F1 (upd H1 A O) (wipe σ vs) (wipe3 E1 vs) G1 := ((S1.newU nA).pendOn f0.1.nF f0.1.nB f0.1.nG f0.1.nP upd_same f0.2 r0.dat.nt).wipeBoth vs
  refine turnsD wk S1' (noAt_wipe _ _) r0 h1 fun acc E2 G2 F2 H2 o2 S2 hw2 s2 ra h2 => ?_
  obtain ⟨_, _, _, _, _, hA, _⟩ := S2.pendOff ra.dat
  refine ⟨A, o2, rfl, hA, ra.mut, fun od => ?_⟩
  obtain ⟨S3, hF, hB, hG, hP, hH, no⟩ := (S2.pendPut ra.dat (ra.lock od).dat).pendOff (ra.lock od).dat
  have S4 : St3 K B pn F2 (upd H2 A (.frz od o2)) σ E2 G2 := by
    have q := S3.wipeS (σ' := σ) vs (wipe_length σ vs).symm (fun i hi => (wipe_out' hi).symm)
    rw [wipe3_noAt hw2] at q
    exact q
  refine hk _ _ _ h2 _ F2 _ S4 (s1.trans s2) ⟨A, rfl, ⟨hF, hB, hG, hP, _, hH, ra.lock od⟩, fun j t g hj ht e => ?_⟩
  by_cases hm : j ∈ vs
  · have z := hw2 j hm _ hj
    subst z
    cases ht
  · exact no j t g hj ht (by rw [wipe_out' hm]; exact e)
end
section
variable {X : Cx} {B : Base3}
theorem le_dc {d0 : D} {O : HO} (h0 : Dc00 d0 O) {n : Nat} {kx vx t0 i0 : Expr} {f0 : List Expr} {scope : Scope} {own : List (Str × Nat)} {pos : Pos} {di : DI} {g : DG} {tt : DT} {tk tv : DE} (hr : Room n X.A) (hc : X.calm = true) (hN : X.N.Nodup) (hi : LI X B t0 i0 di) (ok : BlkOk X.N X.env.scope scope own)
    (hg : ZC.InBlk X scope fun Y => LG Y B (own.map (·.2)) t0 g) (ht : ZC.InBlk X scope fun Y => LiftTs Y B f0 tt) (hk : ZC.InBlk X scope fun Y => LE Y B kx tk) (hv : ZC.InBlk X scope fun Y => LE Y B vx tv)
    (hs : ∀ x, foldedSetIterable i0 X.env x = pure x := by intro _; rfl) :
    LE X B (.DictComp kx vx [⟨t0, i0, f0, 0⟩] scope pos) (dDc d0 di g tt tk tv (own.map (·.2))) :=
  ⟨pe_imp (pe_lk (ZC.pe_dcU (O := O) (by cases h0 with | t => exact .t | k => exact .k) (room1 hr) hc hN hi.pi ok (fun s H C cl fp => (hg s H C cl fp).pg) (fun s H C cl fp => (show PTs _ f0 (LiftT X.K B tt) from ht s H C cl fp)) (fun s H C cl fp => (hk s H C cl fp).pe) (fun s H C cl fp => (hv s H C cl fp).pe) hs)) fun σ H Q h => dc3 h0 h⟩
end
end L3

set_option Elab.async false
set_option maxRecDepth 100000
set_option maxHeartbeats 4000000
/-! L44: a call of a local name that holds a def of the text (told by its name as .cls). -/
namespace L3
open PySem PySem.Spec PyProof.Rows L2
section
variable {X : Cx} {CX : CXT} {k i : Nat} {f : Addr} {fd : FuncData} {ps : List Str} {sp : Sp} {E : L2.St → XK} {x : Str} {e : Expr} {es : List Expr} {t : TA} {p pos : Pos}
end
section
variable {X : Cx} {B : Base3}
end
end L3

set_option Elab.async false
set_option maxRecDepth 100000
set_option maxHeartbeats 4000000
/-! L53: classmethods: C.m(..), C a class of the text; cls(..), cls a local name that holds a class. -/
namespace L3
open PySem PySem.Spec PyProof.Rows L2
/-- what the head tells of a classmethod -/
structure ClmAt (K : PySem.W.Frag) (nm m qual : Str) (st : Stmt) : Prop where
  ex : ∃ (C p f : Addr) (oc : Value) (od an : Option Addr) (osl : Array (Option Value)) (kV doc pm cdv ct : Value), ClsN K nm C ∧ ClX.CRead K C (.type "type") ∧ ClX.CMet K C (.type "type") m p f ∧
    K.lookup f = some ⟨oc, od, .func (PySem.W.fnOf m qual (defArgs st) (defBody st) (defScope st) .none kV doc pm an cdv ct), osl⟩ ∧ PySem.W.codeIn K cdv qual = true ∧ PySem.W.keepIn K (.ref f) = true
theorem clmAt_mk {K : PySem.W.Frag} {nm m qual : Str} {st : Stmt} {C p f : Addr} {rest : List Value} {oc : Value} {od an : Option Addr} {osl : Array (Option Value)} {kV doc pm cdv ct : Value} (a : PySem.W.nsIn K mainGlobals nm = some (some (.ref C)))
    (rd : PySem.W.readsIn K C (.type "type") = true) (ga : PySem.W.specialIn K (.ref C) "__getattribute__" = some (some (.builtin "type.__getattribute__")))
    (fc : PySem.W.findCls K (.ref C) (.type "type") m = some (.get (.builtin "classmethod.__get__") (.ref p) .none (.ref C))) (rc : PySem.W.recIn K p "classmethod" = some (.ref f :: rest)) (fi : PySem.W.fnIn K f = true)
    (l : K.lookup f = some ⟨oc, od, .func (PySem.W.fnOf m qual (defArgs st) (defBody st) (defScope st) .none kV doc pm an cdv ct), osl⟩) (cd : PySem.W.codeIn K cdv qual = true) (kp : PySem.W.keepIn K (.ref f) = true) : ClmAt K nm m qual st :=
  ⟨C, p, f, oc, od, an, osl, kV, doc, pm, cdv, ct, a, ⟨rd, ga⟩, ⟨fc, ⟨rest, rc⟩, fi⟩, l, cd, kp⟩
section
variable {P : Program} {w : World} {K : PySem.W.Frag} {mg : Str → Option Value} {base : Heap}
/-- a classmethod of the class of that name; the class itself is its first argument -/
structure CMeth3 (P : Program) (w : World) (K : PySem.W.Frag) (mg : Str → Option Value) (base : Heap) (nm m : Str) (k : Nat) (sp : DSp) : Prop where
  ex : ∃ (C p g : Addr) (fd : FuncData) (ps : List Str), ClsN K nm C ∧ ClX.CRead K C (.type "type") ∧ ClX.CMet K C (.type "type") m p g ∧ FnOk P w K mg base (L2.CX P w) k g fd ps (LSp K sp) ∧ Binds K fd ps []
theorem cmeth3 {nm m qual : Str} {st : Stmt} {k : Nat} {ps N : List Str} {sp : DSp} (d : ClmAt K nm m qual st)
    (hb : ∀ (kV doc pm : Value) (an : Option Addr) (cdv ct : Value) (us : List Value), us.length = ps.length → bindArgs (PySem.W.fnOf m qual (defArgs st) (defBody st) (defScope st) .none kV doc pm an cdv ct) ⟨us, []⟩ = pure (ps.zip us))
    (S : FnScope N ps (defScope st)) (len : ∀ ds G q e, sp ds G q e → ds.length = ps.length)
    (body : ∀ (f : Addr) (cdv : Value) (A : Around) (outer : List Env) (s : Shared) (H : Hp) (E : XK) (B : Base3) (dw : Exc3 → Reg → Prop), Room k (A.deeper (envOfC qual (defScope st) s.heap.objs.size f cdv)) →
      WOkL (cxOf (L2.CX P w) P w K mg base N qual (defScope st) f cdv A outer s H E) B (fun x _ G => dw x G) →
      ∃ t : DSt, LSs (cxOf (L2.CX P w) P w K mg base N qual (defScope st) f cdv A outer s H E) B (defBody st) t ∧ ∀ ds G q, sp ds G q dw → t { nx := fun _ G' => q (.val .non) G', rt := q } (start3 N ds) G) :
    CMeth3 P w K mg base nm m (k + 1) sp := by
  obtain ⟨C, p, f, oc, od, an, osl, kV, doc, pm, cdv, ct, hC, r, c, l, cd, kp⟩ := d.ex
  have F := fun_mk (st := st) l cd kp
  exact ⟨C, p, f, _, ps, hC, r, c, ok3 F S len (fun cdv A outer s H E B dw hr wk => body f cdv A outer s H E B dw hr wk), F.binds hb⟩
end
def dCMeth (nm : Str) (sp : DSp) (dw : DW) (to : DE) (ta : DA) : DE := fun E G k => to E G fun x E1 G1 => x.get E1 = some (.cls nm) ∧ ta E1 G1 fun ds E2 G2 => sp (.cls nm :: ds) G2 (fun r G3 => k r E2 G3) (fun x G3 => dw x E2 G3)
def dMakeV (nm : Str) (i : Nat) (sp : DSpI) (dw : DW) (ta : DA) : DE := fun E G k => E[i]? = some (.val (.cls nm)) ∧ ta E G fun ds E1 G1 => sp ds G1 (fun fs G2 => k (.val (.obj nm fs)) E1 G2) (fun x G2 => dw x E1 G2)
section
variable {X : Cx} {B : Base3}
theorem le_cmeth {nm m : Str} {k j : Nat} {sp : DSp} {dw : DW} {o e : Expr} {es : List Expr} {to : DE} {ta : DA} {pos apos : Pos} {pl : Sem Bool} (p : CMeth3 X.prog X.w X.K X.mg X.base nm m k sp) (hr : Room j X.A) (hk : k ≤ j) (wk : WOkF X B dw) (ho : LE X B o to) (ha : LA X B (e :: es) ta)
    (hst : starEach (e :: es) X.env = (false, eval e X.env) :: starEach es X.env := by rfl) (hpl : (backTo pos (starEach es X.env)).any (·.1) = false := by rfl)
    (ht : eval (.Call (.Attribute o m apos) (e :: es) [] pos) X.env = (do
      let ov ← eval o X.env
      standAt apos.atName
      let (f, first) ← holding [ov] (getMethod ov m pl)
      callWith pos f first (backTo pos (starEach (e :: es) X.env)) (backToKw pos (keywordEach [] X.env))) := by rfl) :
    LE X B (.Call (.Attribute o m apos) (e :: es) [] pos) (dCMeth nm sp dw to ta) := by
  obtain ⟨C, pp, g, fd, ps, hC, r, M, Fn, hb⟩ := p.ex
  obtain ⟨W, tk, hW⟩ := wk
  refine ⟨pe_imp (ClX.pe_cmeth (E := W) ho.pe r M (Fn.raw hb .nil) (hr.mono hk) (passes_call tk fun _ _ _ _ z => z) ha.pa hst hpl ht) fun σ H Q ⟨pn, F, E, G, k, S, ht, hk⟩ => ⟨pn, F, E, G, _, S, ht, fun x E1 G1 ⟨hx, h1⟩ v F1 H1 S1 s1 r1 => ?_⟩⟩
  have ev : v = .ref C := by
    have r2 := (S1.getH r1 hx).val (fun _ q => nomatch q)
    cases r2 with
    | cls h => rw [hC.eq h]
  refine ⟨ev, pn, F1, E1, G1, _, S1, h1, fun ds E2 G2 h2 vs F2 H2 S2 s2 r2 => ?_⟩
  refine ⟨F2, G2, .cls nm :: ds, _, _, S2.w, by rw [List.append_nil]; exact .cons (.cls hC) r2, h2, fun r' G' h3 v F3 H3 A r3 => ?_, fun x G' h3 cls dd F3 H3 A r3 => ?_⟩
  · exact hk _ _ _ h3 v F3 H3 (S2.wldAfter A) ((s1.trans s2).trans A.keepF) (S2.retR r3)
  · exact hW pn F3 H3 σ E2 G' x cls dd (S2.wldAfter A) r3 h3
end
section
def tMakeV (i : Nat) (C : Addr) (sp : Sp) (dvs : List V) (E : XK) (t : TA) : TE := fun σ H Q => σ[i]? = some (some (.ref C)) ∧ tMake C sp dvs E t σ H Q
variable {X : Cx} {CX : CXT} {k i : Nat} {f C : Addr} {fd : FuncData} {ps : List Str} {ds : List Value} {dvs : List V} {sp : Sp} {E : XK} {x : Str} {e : Expr} {es : List Expr} {t : TA} {p pos : Pos}
theorem pe_makeV (M : Mk X.K C f) (F : FnOk X.prog X.w X.K X.mg X.base CX k f fd ps sp) (hr : Room (k + 1) X.A) (hb : Binds X.K fd ps ds) (hdv : Vals dvs ds) (hx : Passes CX X E) (hN : X.N[i]? = some x) (hv : Vis X.env.scope x) (ha : PA X (e :: es) t)
    (hd : (x == ("__debug__" : Str)) = false := by decide) (hcd : (x == ("__classdict__" : Str)) = false := by decide)
    (he : starEach (e :: es) X.env = (false, eval e X.env) :: starEach es X.env := by rfl) (hpl : (backTo pos (starEach es X.env)).any (·.1) = false := by rfl) : PE X (.Call (.Name x p) (e :: es) [] pos) (tMakeV i C sp dvs E t) := by
  refine ⟨fun pins s σ H Q I h => ?_⟩
  obtain ⟨hs, h⟩ := h
  refine wpAny_Call_Name_kw (thn ((pe_var (pos := p) (i := i) hN hv hd hcd).run pins s σ H (fun v H1 => v = .ref C ∧ H1 = H) I ⟨.ref C, hs, rfl, rfl⟩) fun u s1 ⟨v, H1, I1, r1, ev, eH⟩ => ?_)
  subst ev
  rw [eH] at I1
  cases r1
  refine PySem.W.callWith_K (h₀ := X.base) I.ok.mod.kin M.kp (thn (ha.run pos pins s1 σ H _ I1 h) fun us s2 ⟨vs, H2, I2, r, q⟩ => ⟨I2.kIn, ?_⟩) he hpl
  exact run_make M F hr hb hdv hx I2 r q
end
section
variable {X : Cx} {B : Base3}
theorem le_makeV {x nm : Str} (i : Nat) {k j : Nat} {sp : DSpI} {dw : DW} {ta : DA} {p pos : Pos} {e : Expr} {es : List Expr} (n : New3 X.prog X.w X.K X.mg X.base nm k sp) (hr : Room j X.A) (hk : k + 1 ≤ j) (wk : WOkF X B dw) (ha : LA X B (e :: es) ta)
    (hN : X.N[i]? = some x := by rfl) (hv : Vis X.env.scope x := by first | exact Or.inl rfl | exact Or.inr (Or.inl rfl) | exact Or.inr (Or.inr rfl)) (hd : (x == ("__debug__" : Str)) = false := by decide) (hcd : (x == ("__classdict__" : Str)) = false := by decide)
    (he : starEach (e :: es) X.env = (false, eval e X.env) :: starEach es X.env := by rfl) (hpl : (backTo pos (starEach es X.env)).any (·.1) = false := by rfl) :
    LE X B (.Call (.Name x p) (e :: es) [] pos) (dMakeV nm i sp dw ta) := by
  obtain ⟨C, f, fd, ps, hC, M, hm, hb, Fn⟩ := n.ex
  obtain ⟨W, tk, hW⟩ := wk
  refine ⟨pe_imp (pe_makeV (E := W) (i := i) M Fn (hr.mono hk) hb .nil (passes_call tk fun _ _ _ _ z => z) hN hv ha.pa hd hcd he hpl) fun σ H Q ⟨pn, F, E, G, k, S, ⟨hs, ht⟩, hk⟩ => ?_⟩
  obtain ⟨v, hσ, rv⟩ := S.slot i _ hs
  have ev : v = .ref C := by
    cases rv with
    | cls h => rw [hC.eq h]
  subst ev
  refine ⟨hσ, pn, F, E, G, _, S, ht, fun ds E1 G1 h1 vs F1 H1 S1 s1 r1 x dx nx ndx ne => ?_⟩
  refine ⟨H1, F1, G1, x, C, dx, vs, ds, _, _, by rw [List.append_nil], ⟨nx, ndx, ne, rfl, hC⟩, S1.w, r1, h1, fun fs G' h2 F2 H2 dx' xs A ⟨a1, a2, a3⟩ ⟨b0, b1, b2, b3, b4⟩ r2 => ⟨rfl, ?_⟩, fun x' G' h2 cls dd F2 H2 A r2 => hW pn F2 H2 σ E1 G' x' cls dd (S1.wldAfter A) r2 h2⟩
  have S2 := S1.wldAfter A
  have dom : ∀ {b : Addr}, H1 b = none → b ∉ pn.map (·.1) := fun h hm => by
    obtain ⟨q, hq, rfl⟩ := List.mem_map.mp hm
    have := (S1.pend q.1 q.2 hq).1
    rw [h] at this; cases this
  have noo : ∀ {b : Addr}, H1 b = none → NoOwn σ E1 b := fun h => noOwn_at S1 h
  obtain ⟨S3, s3⟩ := S2.freezeAt b1 (S1.baseNone b0) b2 (dom b0) (noo b0) b4
  have a1' : upd F2 dx' (.xd []) x = none := by rw [upd_ne b3.symm]; exact a1
  obtain ⟨S4, s4⟩ := S3.freezeAt a1' (S1.baseNone nx) a2 (dom nx) (noo nx) a3
  refine hk _ _ _ h2 _ _ _ S4 (((s1.trans A.keepF).trans s3).trans s4) ?_
  exact .obj hC upd_same (s4 _ _ upd_same) (RepL.mono (s3.trans s4) _ _ r2)
end
/-! ### reckoned -/
section
variable {dw : DW} {G : Reg}
end
end L3

set_option Elab.async false
set_option maxRecDepth 100000
set_option maxHeartbeats 4000000
/-! L54: x.partition(y); int(text). -/
namespace L3
open PySem PySem.Spec PyProof.Rows L2
section
variable {X : Cx} {B : Base3}
def bIntS : Reg → List D → (Res → Prop) → Prop := fun _ ds k => match ds with
  | [.str a] => ∃ n, PySem.intText? a = some n ∧ a.length ≤ 640 ∧ k (.val (.int n))
  | _ => False
theorem le_intStr {e : Expr} {ta : DA} {p pos : Pos} (hg : Gl X "int") (hm : X.mg "int" = none) (ha : LP X B [e] ta) (he : starEach [e] X.env = (false, eval e X.env) :: starEach [] X.env := by rfl) (hpl : (backTo pos (starEach [] X.env)).any (·.1) = false := by rfl) :
    LE X B (.Call (.Name "int" p) [e] [] pos) (dCB bIntS ta) := le_callTy call_int_str (fun pn F H σ E G vs ds k Q S r h hk => by
  unfold bIntS at h
  split at h
  · obtain ⟨n, h1, h2, h⟩ := h
    obtain ⟨v, rfl, rx⟩ := hl1 r
    have rx := rx.val (fun _ q => nomatch q)
    cases rx
    exact ⟨_, n, rfl, h1, h2, hk _ h _ F H S (Same.refl F) (.int _)⟩
  · exact h.elim) hg hm (by decide +kernel) ha (by decide) (by decide) he hpl
def oSlS : D → Option Int → Option Int → (Res → Prop) → Prop := fun d lo hi k => match d with
  | .str z => z.length ≤ sizeLine ∧ k (.val (.str (cutS z lo hi)))
  | _ => False
theorem r_slS : RSl3 X B rSlS oSlS := by
  intro pn F H σ E G x d lo hi k Q S rx h hk
  unfold oSlS at h
  split at h
  · obtain ⟨hz, h⟩ := h
    have rx := rx.val (fun _ q => nomatch q)
    cases rx
    exact ⟨_, rfl, hz, hk _ h _ F H S (Same.refl F) (.str _)⟩
  · exact h.elim
theorem le_cutS {e : Expr} {lo hi : Option Expr} {te : DE} {tl th : DO} {p2 pos : Pos} (he : LE X B e te) (hl : LO X B lo tl) (hh : LO X B hi th) : LE X B (.Subscript e (.Slice lo hi none p2) pos) (dSl oSlS te tl th) := le_slice sl_str r_slS he hl hh
end
end L3

set_option Elab.async false
set_option maxRecDepth 100000
set_option maxHeartbeats 4000000
/-! L38: len(x), y in x, x an instance whose class has a __len__ and a __contains__ of its own. -/
namespace L3
open PySem PySem.Spec PyProof.Rows L2
section
variable {X : Cx} {B : Base3}
end
end L3

set_option Elab.async false
set_option maxRecDepth 100000
set_option maxHeartbeats 4000000
/-! L39: x != t, x an instance whose class has an __eq__ of its own and no __ne__, t a tuple. -/
namespace L3
open PySem PySem.Spec PyProof.Rows L2
section
variable {X : Cx} {B : Base3}
end
end L3

set_option Elab.async false
set_option maxRecDepth 100000
set_option maxHeartbeats 4000000
/-! L55: x == y, x an instance whose class has an __eq__ of its own, y a tuple, a list or a text. -/
namespace L3
open PySem PySem.Spec PyProof.Rows L2
section
variable {X : Cx} {B : Base3}
end
end L3

set_option Elab.async false
set_option maxRecDepth 100000
set_option maxHeartbeats 4000000
/-! L56: C.m(..) of a classmethod inside a try. -/
namespace L3
open PySem PySem.Spec PyProof.Rows L2
theorem rm200 {j : Nat} {A : Around} {v : Option Value} (hr : Room j A) : (A.mark v).units + 200 < cLine := by have := hr.un; show A.units + 200 < cLine; omega
section
variable {X : Cx} {pins : List (Addr × Obj)} {σ : L2.St} {H : Hp} {s : Shared} {C p g q : Addr} {mc : Value} {m : Str} {CX : CXT} {k : Nat} {sp : Sp} {Q : VK} {us : List Value} {vs : List V}
theorem run_cmS {E : XK} (F : FnR X.prog X.w X.K X.mg X.base CX k g sp) (hr : Room k X.A) (hx : PassesAt CX X σ E) (I : Inv X ((q, PySem.W.methodObj (.ref g) (.ref C)) :: pins) σ H s)
    (r : Vals vs us) (h : sp (.ref C :: vs) H Q E) : wpAny (model X.prog X.w) X.A (call (.ref q) us) (EP X pins σ Q) X.xe s := by
  have z : wpAny (model X.prog X.w) X.A (call (.ref q) us) (EP X ((q, PySem.W.methodObj (.ref g) (.ref C)) :: pins) σ Q) X.xe s := by
    refine wpAny_call (PySem.W.method_call (ClX.pin_at I) (codeAny_mono (F X.A X.stack s H (.ref C :: us) (.ref C :: vs) Q E hr I.env0 (.cons rfl r) h) fun r s' hq => ?_))
    cases r with
    | error e => exact hx _ H s e s' I hq
    | ok fl =>
      cases fl with
      | ret u => exact I.after hq
      | next => exact False.elim hq
      | brk => exact False.elim hq
      | cont => exact False.elim hq
  exact thn z fun _ _ y => ClX.unpinE y
def tCMethS (C : Addr) (sp : Sp) (E : L2.St → XK) (ta : TE) (t : TA) : TE := fun σ H Q => ta σ H fun x H1 => x = .ref C ∧ t σ H1 fun vs H2 => sp (.ref C :: vs) H2 Q (E σ)
theorem pe_cmethS {E : L2.St → XK} {o e : Expr} {es : List Expr} {pos apos : Pos} {ta : TE} {t : TA} {pl : Sem Bool} (he : PE X o ta) (r : ClX.CRead X.K C mc) (c : ClX.CMet X.K C mc m p g) (F : FnR X.prog X.w X.K X.mg X.base CX k g sp) (hr : Room k X.A) (hx : ∀ σ, PassesAt CX X σ (E σ)) (ha : PA X (e :: es) t)
    (hst : starEach (e :: es) X.env = (false, eval e X.env) :: starEach es X.env := by rfl) (hpl : (backTo pos (starEach es X.env)).any (·.1) = false := by rfl)
    (ht : eval (.Call (.Attribute o m apos) (e :: es) [] pos) X.env = (do
      let ov ← eval o X.env
      standAt apos.atName
      let (f, first) ← holding [ov] (getMethod ov m pl)
      callWith pos f first (backTo pos (starEach (e :: es) X.env)) (backToKw pos (keywordEach [] X.env))) := by rfl) :
    PE X (.Call (.Attribute o m apos) (e :: es) [] pos) (tCMethS C sp E ta t) := by
  refine ⟨fun pins s σ H Q I h => ?_⟩
  refine PySem.W.methodCall_KW (pl := pl) (thn (he.run pins s σ H _ I h) fun u s1 ⟨x, H1, I1, rx, ex, q⟩ => ?_) ht
  subst ex
  obtain rfl : u = Value.ref C := rx
  refine ClX.getmethcm_ok I1 r c fun s2 I2 => ?_
  refine ClX.callwith_cm I2 (ClX.base_none I1 (Nat.le_refl _)) c.fi (thn (ha.run pos _ s2 σ H1 _ I2 q) fun us s3 ⟨vs, H2, I3, rv, q2⟩ => ⟨⟨ClX.pin_at I3, I3.kIn⟩, ?_⟩) hst hpl
  exact run_cmS F hr (hx σ) I3 rv q2
end
section
variable {X : Cx} {B : Base3}
theorem le_cmethS {nm m : Str} {k j : Nat} {sp : DSp} {dw : DW} {o e : Expr} {es : List Expr} {to : DE} {ta : DA} {pos apos : Pos} {pl : Sem Bool} (p : CMeth3 X.prog X.w X.K X.mg X.base nm m k sp) (hr : Room j X.A) (hk : k ≤ j) (wk : WOk X B dw) (ho : LE X B o to) (ha : LA X B (e :: es) ta)
    (hst : starEach (e :: es) X.env = (false, eval e X.env) :: starEach es X.env := by rfl) (hpl : (backTo pos (starEach es X.env)).any (·.1) = false := by rfl)
    (ht : eval (.Call (.Attribute o m apos) (e :: es) [] pos) X.env = (do
      let ov ← eval o X.env
      standAt apos.atName
      let (f, first) ← holding [ov] (getMethod ov m pl)
      callWith pos f first (backTo pos (starEach (e :: es) X.env)) (backToKw pos (keywordEach [] X.env))) := by rfl) :
    LE X B (.Call (.Attribute o m apos) (e :: es) [] pos) (dCMeth nm sp dw to ta) := by
  obtain ⟨C, pp, g, fd, ps, hC, r, M, Fn, hb⟩ := p.ex
  obtain ⟨W, tk, hW⟩ := wk
  refine ⟨pe_imp (pe_cmethS ho.pe r M (Fn.raw hb .nil) (hr.mono hk) (fun σ => passAt tk σ) ha.pa hst hpl ht) fun σ H Q ⟨pn, F, E, G, k, S, ht, hk⟩ => ⟨pn, F, E, G, _, S, ht, fun x E1 G1 ⟨hx, h1⟩ v F1 H1 S1 s1 r1 => ?_⟩⟩
  have ev : v = .ref C := by
    have r2 := (S1.getH r1 hx).val (fun _ q => nomatch q)
    cases r2 with
    | cls h => rw [hC.eq h]
  refine ⟨ev, pn, F1, E1, G1, _, S1, h1, fun ds E2 G2 h2 vs F2 H2 S2 s2 r2 => ?_⟩
  refine ⟨F2, G2, .cls nm :: ds, _, _, S2.w, by rw [List.append_nil]; exact .cons (.cls hC) r2, h2, fun r' G' h3 v F3 H3 A r3 => ?_, fun x G' h3 cls dd F3 H3 A r3 => ?_⟩
  · exact hk _ _ _ h3 v F3 H3 (S2.wldAfter A) ((s1.trans s2).trans A.keepF) (S2.retR r3)
  · exact hW pn F3 H3 σ E2 G' x cls dd (S2.wldAfter A) r3 h3
end
end L3

set_option Elab.async false
set_option maxRecDepth 100000
set_option maxHeartbeats 4000000
/-! XU: SupTxt from facts of the written part, one by one. -/
namespace XS
open PySem PySem.W PySem.Calls PyProof.Rows PySem.HandSPX Builtin Builtin.ObjectAttr
/-- what the scope of such an __init__ must be -/
def supOk (scope : Scope) (sN vN : Str) : Bool :=
  !decide (sN = vN) && decide (scope.kind = .function) && !scope.isCoroutine && !scope.isGenerator && scope.names.all (fun x => !decide (x.2 = .cell)) &&
  decide (scope.names.lookup sN = some .local) && decide (scope.names.lookup vN = some .local) && decide (scope.names.lookup ("super" : Str) = some .globalImplicit) && decide (scope.names.lookup ("__class__" : Str) = some .free) &&
  !(sN == ("__debug__" : Str)) && !(vN == ("__debug__" : Str))
structure SupRest (prog : Program) (qual sN vN m : Str) (params : Arguments) (scope : Scope) (f : Str) (j : Nat) (p0 p1 p2 p3 p4 p5 q1 q2 q3 q4 : Pos) (cda cc : Addr) (doc pm ct : Value) (an : Option Addr) (file : Str) : Prop where
  bind : ∀ u v : Value, bindArgs (ksFn "__init__" qual params (supBody m sN vN f j p0 p1 p2 p3 p4 p5 q1 q2 q3 q4) scope .none .none doc pm an (.ref cda) ct cc) ⟨[u, v], []⟩ = pure [(sN, u), (vN, v)]
  head : (params.posonlyargs ++ params.args).head?.map (·.arg) = some sN
  ok : supOk scope sN vN = true
  file : ((prog.main.file : Str) == file) = true
  ev : SupEv qual scope cda cc m j p0 p1 p2 p3 p4
  top : (prog.main.scope.names.lookup ("super" : Str)).isSome = false
theorem supRest_by {prog : Program} {qual sN vN m : Str} {params : Arguments} {scope : Scope} {f : Str} {j : Nat} {p0 p1 p2 p3 p4 p5 q1 q2 q3 q4 : Pos} {cda cc : Addr} {doc pm ct : Value} {an : Option Addr} {file : Str}
    (hf : ((prog.main.file : Str) == file) = true)
    (hb : ∀ u v : Value, bindArgs (ksFn "__init__" qual params (supBody m sN vN f j p0 p1 p2 p3 p4 p5 q1 q2 q3 q4) scope .none .none doc pm an (.ref cda) ct cc) ⟨[u, v], []⟩ = pure [(sN, u), (vN, v)])
    (hh : (params.posonlyargs ++ params.args).head?.map (·.arg) = some sN) (hs : supOk scope sN vN = true) (ht : (prog.main.scope.names.lookup ("super" : Str)).isSome = false) (he : SupEv qual scope cda cc m j p0 p1 p2 p3 p4) :
    SupRest prog qual sN vN m params scope f j p0 p1 p2 p3 p4 p5 q1 q2 q3 q4 cda cc doc pm ct an file := ⟨hb, hh, hs, hf, he, ht⟩
theorem sup_mk {prog : Program} {K : Frag} {B i newId : String} {bmB : List Value} {C fI : Addr} {f : Str} {oc doc pm ct : Value} {od an : Option Addr} {osl : Array (Option Value)} {params : Arguments} {scope : Scope} {m sN vN qual : Str} {j : Nat} {p0 p1 p2 p3 p4 p5 q1 q2 q3 q4 : Pos} {cda cc : Addr}
    {cl ccl : Value} {cld cdd : Option Addr} {csl ccs : Array (Option Value)} {vs : Array Value} {file : Str} {tf : Tok}
    (bx : BaseX B i newId bmB) (opq : nsIn K cStatics "thirdparty.any" = some none)
    (y1 : excInitIn K C bmB newId = true) (y2 : hasDictIn K C = true) (y3 : excOver K C bmB = true) (y4 : findIn K (.ref C) "__setattr__" = some (some (.builtin "object.__setattr__"))) (y5 : findIn K (.ref C) f = some none) (y6 : takerIn K C f = some none)
    (y7 : findIn K (.ref C) "__init__" = some (some (.ref fI))) (y8 : typeIn K (.ref fI) = some (.type "function")) (y9 : keepIn K (.ref C) = true) (y10 : subIn K (.ref C) (.type "BaseException") = some true) (y11 : typeIn K (.ref C) = some (.type "type"))
    (y12 : ks_superIn K C C "__init__" = some (some (.builtin i))) (y13 : subIn K (.ref C) (.type B) = some true) (y14 : mroIn K C (.ref C) = some true)
    (y15 : K.lookup fI = some ⟨oc, od, .func (ksFn "__init__" qual params (supBody m sN vN f j p0 p1 p2 p3 p4 p5 q1 q2 q3 q4) scope .none .none doc pm an (.ref cda) ct cc), osl⟩)
    (y16 : codeIn K (.ref cda) qual = true) (y17 : K.lookup cc = some ⟨cl, cld, .cell (some (.ref C)), csl⟩) (y18 : K.lookup cda = some ⟨ccl, cdd, .fields vs, ccs⟩) (y19 : (vs[2]? : Option Value) = some (.str file tf))
    (y20 : SupRest prog qual sN vN m params scope f j p0 p1 p2 p3 p4 p5 q1 q2 q3 q4 cda cc doc pm ct an file) : SupTxt prog K B i newId bmB C fI f := by
  obtain ⟨hb, hh, hs, hf, he, ht⟩ := y20
  unfold supOk at hs
  simp only [Bool.and_eq_true, Bool.not_eq_true', decide_eq_true_eq, decide_eq_false_iff_not, List.all_eq_true] at hs
  obtain ⟨⟨⟨⟨⟨⟨⟨⟨⟨⟨s1, s2⟩, s3⟩, s4⟩, s5⟩, s6⟩, s7⟩, s8⟩, s9⟩, s10⟩, s11⟩ := hs
  refine ⟨bx, y1, ?_, y3, y4, y5, y6, y7, y8, y9, y10, y11, y12, y13, y14, opq, ?_, ht⟩
  · unfold hasDictIn at y2
    cases e : clsIn K C with
    | none => rw [e] at y2; cases y2
    | some cd => rw [e] at y2; exact ⟨cd, rfl, y2⟩
  · exact ⟨oc, od, qual, params, scope, doc, pm, an, cda, ct, osl, cc, m, sN, vN, j, p0, p1, p2, p3, p4, p5, q1, q2, q3, q4, y15, y16, hb, hh, s1, s2, s3, s4, s5, s6, s7, s8, s9, s10, s11, ⟨cl, cld, csl, y17⟩, ⟨ccl, cdd, vs, ccs, file, tf, y18, y19, hf⟩, he⟩
end XS

set_option Elab.async false
set_option maxRecDepth 100000
set_option maxHeartbeats 4000000
/-! K09: reckoned defs (printed by gen5.py) -/
namespace K09
open PySem PySem.Spec PyProof.Rows L2 L3
end K09

set_option Elab.async false
set_option maxRecDepth 100000
set_option maxHeartbeats 4000000
set_option exponentiation.threshold 2000
/-! LD: the dice of all laws, over plain values. -/
namespace LD
open PySem PySem.Spec PyProof.Rows L2 L3
/-- the dice stand at a; R: the other registers -/
def Dice (a : Addr) (R G : Reg) : Prop := ∃ l m c : Int, G = (a, [D.int l, D.int m, D.int c]) :: R
def BIG : Int := 2 ^ 600
def sp__law_dice : DSp := fun ds G q _ => ∃ (ns : List Int) (i : Nat), ds = [.scr ns, .int (i : Int)] ∧ ∀ l m c : Int, q (.fr [D.int l, D.int m, D.int c]) G
def sp__law_roll : DSp := fun ds G q _ => ∃ (a : Addr) (R : Reg) (t : Int), ds = [.ref a, .int t] ∧ Dice a R G ∧ 0 < t ∧ t < BIG ∧ ∀ (r : Int) G', 0 ≤ r → r < t → Dice a R G' → q (.val (.int r)) G'
def sp__law_pick : DSp := fun ds G q _ => ∃ (a : Addr) (R : Reg) (es : List D), ds = [.ref a, .lst es] ∧ Dice a R G ∧ es ≠ [] ∧ es.length ≤ 1000 ∧ ∀ d G', d ∈ es → Dice a R G' → q (.val d) G'
theorem len__law_dice : ∀ ds G q e, sp__law_dice ds G q e → ds.length = 2 := fun ds G q e ⟨_, _, h, _⟩ => by rw [h]; rfl
theorem len__law_roll : ∀ ds G q e, sp__law_roll ds G q e → ds.length = 2 := fun ds G q e ⟨_, _, _, h, _⟩ => by rw [h]; rfl
theorem len__law_pick : ∀ ds G q e, sp__law_pick ds G q e → ds.length = 2 := fun ds G q e ⟨_, _, _, h, _⟩ => by rw [h]; rfl
def t__law_dice (dw : Exc3 → Reg → Prop) : DSt :=
  (dSeq (dSet 2 (dIf (dTest (dOp oLt (dVar 1) (dCB bLen (dPCons (dVar 0) dNil)))) (dCB bIntOf (dPCons (dOp oIx (dVar 0) (dVar 1)) dNil)) (dOp oAdd (dOp oMul (dC (.int 83)) (dVar 1)) (dC (.int 29)))))
    (dSeq (dSet 3 (dOp oMod (dCB bMax (dPCons (dC (.int 0)) (dPCons (dOp oSub (dCB bAbs (dPCons (dVar 2) dNil)) (dOp oPow (dC (.int 10)) (dC (.int 16)))) dNil))) (dOp oMul (dOp oPow (dC (.int 10)) (dC (.int 60))) (dOp oPow (dC (.int 10)) (dC (.int 60))))))
    (dRet (dLst (dCons (dVar 3) (dCons (dOp oAdd (dOp oAdd (dOp oAdd (dOp oMul (dOp oMod (dCB bAbs (dPCons (dVar 2) dNil)) (dC (.int 1152921504606846899))) (dC (.int 47))) (dOp oMul (dC (.int 839)) (dVar 1))) (dOp oMul (dC (.int 41)) (dCB bIntOf (dPCons (dOp oLt (dVar 2) (dC (.int 0))) dNil)))) (dC (.int 7))) (dCons (dC (.int 0)) dNil)))))))
def t__law_roll (dw : Exc3 → Reg → Prop) : DSt :=
  (dSeq (dIfS (dTest (dOp oGt (dOp oIx (dVar 0) (dC (.int 0))) (dC (.int 0)))) (dSeq (dSet 2 (dOp oMod (dCB bIntOf (dPCons (dOp oIx (dVar 0) (dC (.int 0))) dNil)) (dVar 1)))
    (dSeq (dStore (dOp oFdiv (dOp oIx (dVar 0) (dC (.int 0))) (dVar 1)) (dVar 0) (dC (.int 0)))
    (dRet (dVar 2)))) dNext)
    (dSeq (dStore (dOp oAdd (dOp oIx (dVar 0) (dC (.int 2))) (dC (.int 1))) (dVar 0) (dC (.int 2)))
    (dSeq (dSet 3 (dOp oMod (dCB bIntOf (dPCons (dOp oAdd (dOp oIx (dVar 0) (dC (.int 1))) (dOp oMul (dC (.int 32452867)) (dOp oIx (dVar 0) (dC (.int 2))))) dNil)) (dC (.int 2305843009213693907))))
    (dSeq (dSet 4 (dOp oAdd (dOp oMul (dOp oMod (dCB bIntOf (dPCons (dOp oAdd (dOp oMul (dVar 3) (dVar 3)) (dOp oMul (dC (.int 97)) (dOp oIx (dVar 0) (dC (.int 2))))) dNil)) (dC (.int 2305843009213693921))) (dC (.int 6700417))) (dVar 3)))
    (dRet (dOp oMod (dCB bIntOf (dPCons (dOp oFdiv (dVar 4) (dC (.int 65536))) dNil)) (dVar 1)))))))
def t__law_pick (dw : Exc3 → Reg → Prop) : DSt :=
  (dRet (dOp oIx (dVar 1) (dCall sp__law_roll (fun x _ G => dw x G) (dCons (dVar 0) (dCons (dCB bLen (dPCons (dVar 1) dNil)) dNil)))))
theorem pow1060 : MulOk (10 ^ (60 : Int).toNat) (10 ^ (60 : Int).toNat) := .inr (by unfold CMulW; decide +kernel)
theorem div_ok {l t : Int} (h : 0 < t) (h2 : t < BIG) : CDivW l t := wide_div h (b := 600) (by unfold BIG at h2; omega) (by decide) (by decide)
local macro_rules | `(tactic| walk_at "ev") => `(tactic| repeat (first | refine ⟨_, rfl, ?_⟩ | refine ⟨_, _, rfl, ?_⟩ | refine ⟨_, look0, ?_⟩ | refine ⟨_, at0, ?_⟩ | refine ⟨_, at1, ?_⟩ | refine ⟨_, at2, ?_⟩ | refine ⟨by decide, ?_⟩ | refine ⟨ltL rfl, ?_⟩ | refine ⟨mulC (by decide), ?_⟩ | refine ⟨mulC' (by decide), ?_⟩ | refine ⟨_, _, _, rfl, ?_⟩ | refine ⟨_, ix0, ?_⟩ | refine ⟨_, ix1, ?_⟩ | refine ⟨_, ix2, ?_⟩ | refine ⟨cpow _ (by decide) (by decide), ?_⟩ | refine ⟨pow1060, ?_⟩))
theorem p__law_roll (N : List Str) (hN : N.length = 5) : ∀ ds G q dw, sp__law_roll ds G q dw → t__law_roll dw { nx := fun _ G' => q (.val .non) G', rt := q } (start3 N ds) G := by
  intro ds G q dw h
  obtain ⟨a, R, t, rfl, ⟨l, m, c, rfl⟩, ht, hb, h⟩ := h
  unfold t__law_roll start3
  rw [hN]
  walk_at "ev"
  refine ifD (fun h1 => ?_) (fun h1 => ?_)
  · walk_at "ev"
    refine ⟨ht, ?_⟩
    walk_at "ev"
    refine ⟨div_ok ht hb, ?_⟩
    walk_at "ev"
    rw [regS]
    walk_at "ev"
    exact h _ _ (Int.emod_nonneg _ (by omega)) (Int.emod_lt_of_pos _ ht) ⟨_, _, _, rfl⟩
  · walk_at "ev"
    rw [regS]
    walk_at "ev"
    refine ⟨mulC ⟨?_, ?_⟩, ?_⟩
    · have := Int.emod_nonneg (m + 32452867 * (c + 1)) (b := 2305843009213693907) (by omega); omega
    · have := Int.emod_lt_of_pos (m + 32452867 * (c + 1)) (b := 2305843009213693907) (by omega); omega
    walk_at "ev"
    refine ⟨div_ok (by decide) (by decide), ?_⟩
    walk_at "ev"
    refine ⟨ht, ?_⟩
    walk_at "ev"
    exact h _ _ (Int.emod_nonneg _ (by omega)) (Int.emod_lt_of_pos _ ht) ⟨_, _, _, rfl⟩
theorem len_big {α : Type} {es : List α} (h : es.length ≤ 1000) : (es.length : Int) < BIG := by unfold BIG; omega
theorem p__law_pick (N : List Str) (hN : N.length = 2) : ∀ ds G q dw, sp__law_pick ds G q dw → t__law_pick dw { nx := fun _ G' => q (.val .non) G', rt := q } (start3 N ds) G := by
  intro ds G q dw h
  obtain ⟨a, R, es, rfl, hd, hne, hle, h⟩ := h
  unfold t__law_pick start3
  rw [hN]
  walk_at "ev"
  refine ⟨a, R, (es.length : Int), rfl, hd, by have := List.length_pos_iff.2 hne; omega, len_big hle, fun r G' h0 h1 hd' => ?_⟩
  obtain ⟨d, e, hm⟩ := atN h0 h1
  walk_at "ev"
  refine ⟨d, e, ?_⟩
  walk_at "ev"
  exact h d G' hm hd'
theorem p__law_dice (N : List Str) (hN : N.length = 4) : ∀ ds G q dw, sp__law_dice ds G q dw → t__law_dice dw { nx := fun _ G' => q (.val .non) G', rt := q } (start3 N ds) G := by
  intro ds G q dw h
  obtain ⟨ns, i, rfl, h⟩ := h
  unfold t__law_dice start3
  rw [hN]
  walk_at "ev"
  refine ifD (fun h1 => ?_) (fun h1 => ?_)
  · obtain ⟨v, e, _⟩ := atN (ds := ns) (Int.natCast_nonneg i) h1
    walk_at "ev"
    refine ⟨v, e, ?_⟩
    walk_at "ev"
    exact h _ _ _
  · walk_at "ev"
    exact h _ _ _
theorem small_big {x : Int} (h : x ≤ 1000000) : x < BIG := by unfold BIG; omega
end LD

set_option Elab.async false
set_option maxRecDepth 100000
set_option maxHeartbeats 4000000
/-! LN: whole numbers, primes, letters, points of the program: what they answer where nothing is refused. -/
namespace LN
open PySem PySem.Spec PyProof.Rows L2 L3
local macro_rules | `(tactic| walk_at "ev") => `(tactic| repeat (first | refine ⟨_, rfl, ?_⟩ | refine ⟨_, _, rfl, ?_⟩ | refine ⟨rfl, ?_⟩ | refine And.intro (by assumption) ?_ | refine ⟨by decide, ?_⟩ | refine ⟨ltL rfl, ?_⟩ | refine ⟨_, at0, ?_⟩ | refine ⟨_, at1, ?_⟩ | refine ⟨_, at2, ?_⟩ | refine ⟨_, _, _, rfl, ?_⟩))
def primes : List Int := [2, 3, 5, 7, 11, 13, 17, 19, 23, 29, 31]
/-- the primes of the program -/
def Pr (p : Int) : Prop := p ∈ primes
/-- a point, as a value -/
def pt (ws : List Int) : D := .tup (ws.map D.int)
theorem sh_pt (ws : List Int) : (pt ws).sh = true := by unfold pt; rw [sh_tup]; exact all_shl_ints ws
theorem eqv_pt (xs ys : List Int) : D.eqv (pt xs) (pt ys) = decide (xs = ys) := by unfold pt; rw [eqv_tup, eqvL_ints]
theorem sh_ints (ws : List Int) : (D.lst (ws.map D.int)).sh = true := by rw [sh_lst]; exact all_shl_ints ws
theorem eqv_ints (xs ys : List Int) : D.eqv (.lst (xs.map D.int)) (.lst (ys.map D.int)) = decide (xs = ys) := by rw [eqv_lst, eqvL_ints]
theorem among_pts (y : List Int) : ∀ xs : List (List Int), D.among (pt y) (xs.map pt) = decide (y ∈ xs)
  | [] => rfl
  | x :: xs => by
    have := among_pts y xs
    unfold D.among at this ⊢
    rw [List.map_cons, List.any_cons, eqv_pt, this]
    by_cases h : x = y
    · simp [h]
    · have h' : ¬ y = x := fun e => h e.symm
      by_cases h2 : y ∈ xs <;> simp [h, h', h2]
def Pt (p : Int) (ws : List Int) : Prop := ws.length ≤ 60 ∧ ∀ x ∈ ws, -1 ≤ x ∧ x < p
def Lim (v : Int) : Prop := -(10 ^ 60) < v ∧ v < 10 ^ 60
theorem Pr.le {p : Int} (h : Pr p) : 2 ≤ p ∧ p ≤ 31 := by
  unfold Pr primes at h
  simp only [List.mem_cons, List.not_mem_nil, or_false] at h
  omega
abbrev tru (q : Res → Reg → Prop) (G : Reg) : Prop := q (.val (.bl true)) G
def sp_is_whole : DSp := fun ds G q _ => ∃ v : Int, ds = [.int v] ∧ tru q G
def sp_is_integer : DSp := fun ds G q _ => ∃ v : Int, ds = [.int v] ∧ Lim v ∧ tru q G
def sp_is_prime : DSp := fun ds G q _ => ∃ v : Int, ds = [.int v] ∧ Pr v ∧ tru q G
def sp_require_prime : DSp := fun ds G q _ => ∃ v : Int, ds = [.int v] ∧ Pr v ∧ q (.val .non) G
def sp_is_letter : DSp := fun ds G q _ => ∃ p v : Int, ds = [.int p, .int v] ∧ Pr p ∧ -1 ≤ v ∧ v < p ∧ tru q G
def sp_are_letters : DSp := fun ds G q _ => ∃ (p : Int) (ws : List Int), ds = [.int p, pt ws] ∧ Pr p ∧ Pt p ws ∧ tru q G
def sp_is_point : DSp := fun ds G q _ => ∃ (p : Int) (ws : List Int), ds = [.int p, pt ws] ∧ Pr p ∧ Pt p ws ∧ tru q G
def sp_require_point : DSp := fun ds G q _ => ∃ (p : Int) (ws : List Int), ds = [.int p, pt ws] ∧ Pr p ∧ Pt p ws ∧ q (.val .non) G
theorem len_is_whole : ∀ ds G q e, sp_is_whole ds G q e → ds.length = 1 := fun ds G q e ⟨_, h, _⟩ => by rw [h]; rfl
theorem len_is_integer : ∀ ds G q e, sp_is_integer ds G q e → ds.length = 1 := fun ds G q e ⟨_, h, _⟩ => by rw [h]; rfl
theorem len_is_prime : ∀ ds G q e, sp_is_prime ds G q e → ds.length = 1 := fun ds G q e ⟨_, h, _⟩ => by rw [h]; rfl
theorem len_require_prime : ∀ ds G q e, sp_require_prime ds G q e → ds.length = 1 := fun ds G q e ⟨_, h, _⟩ => by rw [h]; rfl
theorem len_is_letter : ∀ ds G q e, sp_is_letter ds G q e → ds.length = 2 := fun ds G q e ⟨_, _, h, _⟩ => by rw [h]; rfl
theorem len_are_letters : ∀ ds G q e, sp_are_letters ds G q e → ds.length = 2 := fun ds G q e ⟨_, _, h, _⟩ => by rw [h]; rfl
theorem len_require_point : ∀ ds G q e, sp_require_point ds G q e → ds.length = 2 := fun ds G q e ⟨_, _, h, _⟩ => by rw [h]; rfl
def t_is_whole (dw : Exc3 → Reg → Prop) : DSt :=
  (dRet (dAndV (dCB bIsi (dPCons (dVar 0) (dPCons (dC (.ty "int")) dNil))) (dNotV (dCB bIsi (dPCons (dVar 0) (dPCons (dC (.ty "bool")) dNil))))))
def t_is_integer (dw : Exc3 → Reg → Prop) : DSt :=
  (dRet (dAndV (dCall sp_is_whole (fun x _ G => dw x G) (dCons (dVar 0) dNil)) (dChain oLt oLt (dUn uNeg (dC (.int (1000000000000000000000000000000000000000000000000000000000000)))) (dVar 0) (dC (.int (1000000000000000000000000000000000000000000000000000000000000))))))
def t_is_prime (dw : Exc3 → Reg → Prop) : DSt :=
  (dRet (dAndV (dCall sp_is_whole (fun x _ G => dw x G) (dCons (dVar 0) dNil)) (dOp (oIn false) (dVar 0) (dC (.ktp [2, 3, 5, 7, 11, 13, 17, 19, 23, 29, 31])))))
def t_require_prime (dw : Exc3 → Reg → Prop) : DSt :=
  (dIfS (dNot (dTest (dCall sp_is_prime (fun x _ G => dw x G) (dCons (dVar 0) dNil)))) dNever dNext)
def t_is_letter (dw : Exc3 → Reg → Prop) : DSt :=
  (dRet (dAndV (dCall sp_is_integer (fun x _ G => dw x G) (dCons (dVar 1) dNil)) (dChain oLe oLt (dC (.int (-1))) (dVar 1) (dVar 0))))
def t_are_letters (dw : Exc3 → Reg → Prop) : DSt :=
  (dSeq (dIfS (dOr (dNot (dTest (dCB bIsi (dPCons (dVar 1) (dPCons (dC (.ty "tuple")) dNil))))) (dTest (dOp oGt (dCB bLen (dPCons (dVar 1) dNil)) (dC (.int (60)))))) (dRet (dC (.bl false))) dNext)
    (dRet (dCB bAll (dPCons (dLc (dIter (dVar 1)) (gNm 2) dYes (dCall sp_is_letter dw0 (dCons (dVar 0) (dCons (dVar 2) dNil))) [2]) dNil))))
def t_require_point (dw : Exc3 → Reg → Prop) : DSt :=
  (dIfS (dNot (dTest (dCall sp_is_point (fun x _ G => dw x G) (dCons (dVar 0) (dCons (dVar 1) dNil))))) dNever dNext)
theorem eqv_mem {v : Int} : ∀ ns : List Int, v ∈ ns → ((ns.map D.int).any fun z => D.eqv z (.int v)) = true
  | [], h => by cases h
  | n :: ns, h => by
    rw [List.map_cons, List.any_cons, eqv_int]
    rcases List.mem_cons.mp h with e | e
    · rw [e, decide_eq_true rfl]; rfl
    · rw [eqv_mem ns e, Bool.or_true]
theorem p_is_whole (N : List Str) (hN : N.length = 1) : ∀ ds G q dw, sp_is_whole ds G q dw → t_is_whole dw { nx := fun _ G' => q (.val .non) G', rt := q } (start3 N ds) G := by
  intro ds G q dw h
  unfold t_is_whole start3
  rw [hN]
  obtain ⟨v, rfl, h⟩ := h
  walk_at "ev"
  exact h
theorem p_is_integer (N : List Str) (hN : N.length = 1) : ∀ ds G q dw, sp_is_integer ds G q dw → t_is_integer dw { nx := fun _ G' => q (.val .non) G', rt := q } (start3 N ds) G := by
  intro ds G q dw h
  unfold t_is_integer start3
  rw [hN]
  obtain ⟨v, rfl, l, h⟩ := h
  walk_at "ev"
  refine ifD (fun _ => ?_) (fun z => absurd l.1 z)
  walk_at "ev"
  exact qT (q := q) (decide_eq_true l.2) h
theorem p_is_prime (N : List Str) (hN : N.length = 1) : ∀ ds G q dw, sp_is_prime ds G q dw → t_is_prime dw { nx := fun _ G' => q (.val .non) G', rt := q } (start3 N ds) G := by
  intro ds G q dw h
  unfold t_is_prime start3
  rw [hN]
  obtain ⟨v, rfl, l, h⟩ := h
  walk_at "ev"
  exact qT (q := q) (eqv_mem primes l) h
theorem p_require_prime (N : List Str) (hN : N.length = 1) : ∀ ds G q dw, sp_require_prime ds G q dw → t_require_prime dw { nx := fun _ G' => q (.val .non) G', rt := q } (start3 N ds) G := by
  intro ds G q dw h
  unfold t_require_prime start3
  rw [hN]
  obtain ⟨v, rfl, l, h⟩ := h
  walk_at "ev"
  exact h
theorem p_is_letter (N : List Str) (hN : N.length = 2) : ∀ ds G q dw, sp_is_letter ds G q dw → t_is_letter dw { nx := fun _ G' => q (.val .non) G', rt := q } (start3 N ds) G := by
  intro ds G q dw h
  unfold t_is_letter start3
  rw [hN]
  obtain ⟨p, v, rfl, hp, l1, l2, h⟩ := h
  walk_at "ev"
  refine ⟨by have := hp.le; unfold Lim; omega, ?_⟩
  walk_at "ev"
  refine ifD (fun _ => ?_) (fun z => absurd l1 z)
  walk_at "ev"
  exact qT (q := q) (decide_eq_true l2) h
theorem all_tru {α : Type} (xs : List α) : (xs.map fun _ => true).all id = true := by simp
theorem blsT {α : Type} : ∀ xs : List α, blsOf (xs.map fun _ => D.bl true) = some (xs.map fun _ => true) := fun xs => by
  have := blsOf_map (xs.map fun _ => true)
  rw [List.map_map] at this
  exact this
theorem p_are_letters (N : List Str) (hN : N.length = 3) : ∀ ds G q dw, sp_are_letters ds G q dw → t_are_letters dw { nx := fun _ G' => q (.val .non) G', rt := q } (start3 N ds) G := by
  intro ds G q dw h
  unfold t_are_letters start3
  rw [hN]
  obtain ⟨p, ws, rfl, hp, l, h⟩ := h
  walk_at "ev"
  refine ifD (fun z => ?_) (fun _ => ?_)
  · have := l.1; rw [List.length_map] at z; omega
  walk_at "ev"
  refine ⟨by rw [List.length_map, sizeLine_eq]; have := l.1; omega, ?_⟩
  refine lc_pure (E := [.val (.int p), .val (pt ws), .no]) (fun d => ∃ x ∈ ws, d = D.int x) (fun _ => some (.bl true)) (fun d k1 k2 hd h1 h2 => ?_) _ _ _ (fun d hd => ?_) ?_
  · obtain ⟨x, hx, rfl⟩ := hd
    walk_at "ev"
    refine ⟨(l.2 x hx).1, (l.2 x hx).2, ?_⟩
    walk_at "ev"
    exact h1 _ _ rfl rfl
  · obtain ⟨x, hx, e⟩ := List.mem_map.mp hd
    exact ⟨x, hx, e.symm⟩
  · rw [fmap_all (g := fun _ => D.bl true) (fun _ _ => rfl)]
    walk_at "ev"
    refine ⟨_, blsT _, ?_⟩
    walk_at "ev"
    exact qT (q := q) (all_tru _) h
theorem p_require_point (N : List Str) (hN : N.length = 2) : ∀ ds G q dw, sp_require_point ds G q dw → t_require_point dw { nx := fun _ G' => q (.val .non) G', rt := q } (start3 N ds) G := by
  intro ds G q dw h
  unfold t_require_point start3
  rw [hN]
  obtain ⟨p, ws, rfl, hp, l, h⟩ := h
  walk_at "ev"
  exact h
end LN

set_option Elab.async false
set_option maxRecDepth 100000
set_option maxHeartbeats 4000000
/-! LR: the text of a tuple or list of ints. -/
namespace LR
open PySem PySem.Spec PyProof.Rows L2 L3
open LN (pt)
theorem ok_of (s : String) : strOkC (Str.ofString s) = true := by
  rw [PySem.Str.ofString_eq_toList]
  refine List.all_eq_true.mpr fun c hc => ?_
  have hc : c ∈ s.toList.map Char.toNat := by simpa using hc
  obtain ⟨x, _, rfl⟩ := List.mem_map.mp hc
  refine Nat.blt_eq.mpr ?_
  have := x.valid
  rcases this with h | h
  · show x.val.toNat < _
    omega
  · show x.val.toNat < _
    omega
theorem ok_app {a b : Str} (h1 : strOkC a = true) (h2 : strOkC b = true) : strOkC (a ++ b) = true := by
  unfold strOkC at *
  rw [PySem.Str.cps_append, Array.toList_append, List.all_append, h1, h2]; rfl
theorem ok_join {s : Str} (hs : strOkC s = true) : ∀ {ts : List Str}, (∀ t ∈ ts, strOkC t = true) → strOkC (Str.join s ts) = true
  | [], _ => rfl
  | [x], h => h x List.mem_cons_self
  | x :: y :: r, h => ok_app (ok_app (h x List.mem_cons_self) hs) (ok_join hs fun t ht => h t (List.mem_cons_of_mem _ ht))
theorem shownAll_ints : ∀ ns : List Int, PyData.shownAll (pyL (ns.map D.int)) = ns.map fun n => (Str.ofString (toString n) : Str)
  | [] => by simp only [List.map_nil, pyL, PyData.shownAll]
  | n :: ns => by
    simp only [List.map_cons, pyL, PyData.shownAll]
    rw [shownAll_ints ns]
    simp only [D.py, PyData.shown]
theorem showableAll_ints : ∀ {ns : List Int}, (∀ n ∈ ns, -(2 ^ 200) < n ∧ n < 2 ^ 200) → PyData.showableAll (pyL (ns.map D.int)) = true
  | [], _ => by simp only [List.map_nil, pyL, PyData.showableAll]
  | n :: ns, h => by
    have h1 := h n List.mem_cons_self
    simp only [List.map_cons, pyL, PyData.showableAll, D.py, PyData.showable]
    rw [showableAll_ints fun x hx => h x (List.mem_cons_of_mem _ hx), Bool.and_true]
    refine decide_eq_true ?_
    by_cases z : n.natAbs = 0
    · rw [z]; decide
    · exact Nat.lt_of_lt_of_le ((Nat.log2_lt z).mpr (show n.natAbs < 2 ^ 200 by omega)) (by decide)
theorem piled_le {k : Nat} : ∀ {ts : List Str}, (∀ t ∈ ts, t.length ≤ k) → piled ts ≤ ts.length * (k + 2)
  | [], _ => Nat.zero_le _
  | t :: r, h => by
    rw [piled_cons, List.length_cons, Nat.add_mul]
    have := piled_le fun x hx => h x (List.mem_cons_of_mem _ hx)
    have := h t List.mem_cons_self
    omega
theorem rpr_ints {ns : List Int} (hl : ns.length ≤ 2000) (hn : ∀ n ∈ ns, -(10 ^ 30) < n ∧ n < 10 ^ 30) : ∃ s, rpr (pt ns) = some s ∧ strOkC s = true := by
  have e0 : isE (pt ns) = false := rfl
  have e1 : (pt ns).shC = true := by
    show (ns.map D.int).all _ = true
    refine List.all_eq_true.mpr fun x hx => ?_
    obtain ⟨n, _, rfl⟩ := List.mem_map.mp hx
    rfl
  have e2 : (pt ns).py.showable = true := by
    show PyData.showable (.tuple (pyL (ns.map D.int))) = true
    simp only [PyData.showable]
    exact showableAll_ints fun n h => by have := hn n h; omega
  have e3 : (pt ns).py.shown = tupleText (ns.map fun n => (Str.ofString (toString n) : Str)) := by
    show PyData.shown (.tuple (pyL (ns.map D.int))) = _
    simp only [PyData.shown]
    rw [shownAll_ints]
  have e4 : (tupleText (ns.map fun n => (Str.ofString (toString n) : Str))).length ≤ 100000 := by
    have h1 : ∀ t ∈ ns.map (fun n => (Str.ofString (toString n) : Str)), t.length ≤ 31 := fun t ht => by
      obtain ⟨n, h, rfl⟩ := List.mem_map.mp ht
      rw [PySem.ofString_length]
      have := hn n h
      exact int_text_length_le10 (k := 30) (by decide) (by omega)
    have h2 := piled_le h1
    rw [List.length_map] at h2
    unfold tupleText
    rw [strLen_append, strLen_append]
    have h3 : (Str.join ", " (ns.map fun n => (Str.ofString (toString n) : Str))).length ≤ piled (ns.map fun n => (Str.ofString (toString n) : Str)) := by
      by_cases z : ns.map (fun n => (Str.ofString (toString n) : Str)) = []
      · rw [z]; exact Nat.zero_le _
      · have := join_length_add _ z; omega
    have h4 : (((if (ns.map fun n => (Str.ofString (toString n) : Str)).length == 1 then ",)" else ")" : String) : Str)).length ≤ 2 := by split <;> decide
    have h5 : ((("(" : String) : Str)).length = 1 := rfl
    omega
  refine ⟨tupleText (ns.map fun n => (Str.ofString (toString n) : Str)), ?_, ?_⟩
  · unfold rpr
    rw [e0, e1, e2, e3, Nat.ble_eq_true_of_le e4]; rfl
  · unfold tupleText
    refine ok_app (ok_app (ok_of _) (ok_join (ok_of _) fun t ht => ?_)) (ok_of _)
    obtain ⟨n, _, rfl⟩ := List.mem_map.mp ht
    exact ok_of _
end LR

set_option Elab.async false
set_option maxRecDepth 100000
set_option maxHeartbeats 4000000
set_option exponentiation.threshold 2000
/-! LP: points near others; points drawn. -/
namespace LP
open PySem PySem.Spec PyProof.Rows L2 L3 LD LN
local macro_rules | `(tactic| walk_at "ev") => `(tactic| repeat (first | refine ⟨_, rfl, ?_⟩ | refine ⟨_, _, rfl, ?_⟩ | refine ⟨rfl, ?_⟩ | refine And.intro (by assumption) ?_ | refine ⟨by decide, ?_⟩ | refine ⟨ltL rfl, ?_⟩ | refine ⟨_, at0, ?_⟩ | refine ⟨_, at1, ?_⟩ | refine ⟨_, at2, ?_⟩ | refine ifT ?_ | refine ifF ?_))

/-- the size of the first j letters once the noughts at their end are off -/
def nz (ws : List Int) : Nat → Nat
  | 0 => 0
  | k + 1 => if ws.getD k 1 = 0 then nz ws k else k + 1
def second (ws : List Int) : Option (List Int) :=
  if nz ws ws.length < 2 ∨ ws.getD (nz ws ws.length - 1) 0 ≠ -1 then none else some (ws.take (nz ws ws.length - 2))
def nears (ws : List Int) : List (List Int) := if ws = [] then [] else ws.dropLast :: (second ws).toList
def sp__law_letter : DSp := fun ds G q _ => ∃ (a : Addr) (R : Reg) (p : Int), ds = [.ref a, .int p] ∧ Dice a R G ∧ Pr p ∧ ∀ (v : Int) G', -1 ≤ v → v < p → Dice a R G' → q (.val (.int v)) G'
def sp__law_point_drawn : DSp := fun ds G q _ => ∃ (a : Addr) (R : Reg) (p m : Int), ds = [.ref a, .int p, .int m] ∧ Dice a R G ∧ Pr p ∧ 0 ≤ m ∧ m ≤ 60 ∧ ∀ (ws : List Int) G', (ws.length : Int) ≤ m → Pt p ws → Dice a R G' → q (.val (pt ws)) G'
theorem len__law_letter : ∀ ds G q e, sp__law_letter ds G q e → ds.length = 2 := fun ds G q e ⟨_, _, _, h, _⟩ => by rw [h]; rfl
theorem len__law_point_drawn : ∀ ds G q e, sp__law_point_drawn ds G q e → ds.length = 3 := fun ds G q e ⟨_, _, _, _, h, _⟩ => by rw [h]; rfl
def t__law_letter (dw : Exc3 → Reg → Prop) : DSt :=
  (dSeq (dSet 2 (dCall sp__law_roll (fun x _ G => dw x G) (dCons (dVar 0) (dCons (dC (.int 5)) dNil))))
    (dRet (dIf (dTest (dOp oLt (dVar 2) (dC (.int 2)))) (dUn uNeg (dC (.int 1))) (dIf (dTest (dOp oEq (dVar 2) (dC (.int 2)))) (dC (.int 0)) (dCall sp__law_roll (fun x _ G => dw x G) (dCons (dVar 0) (dCons (dVar 1) dNil)))))))
def t__law_point_drawn (dw : Exc3 → Reg → Prop) : DSt :=
  (dSeq (dSet 3 (dCB bMax (dPCons (dCall sp__law_roll (fun x _ G => dw x G) (dCons (dVar 0) (dCons (dOp oAdd (dVar 2) (dC (.int 1))) dNil))) (dPCons (dCall sp__law_roll (fun x _ G => dw x G) (dCons (dVar 0) (dCons (dOp oAdd (dVar 2) (dC (.int 1))) dNil))) dNil))))
    (dRet (dCB bTuple (dPCons (dLc (dRng1 (dCons (dVar 3) dNil)) (gNm 4) dYes (dCall sp__law_letter dw0 (dCons (dVar 0) (dCons (dVar 1) dNil))) [4]) dNil))))
theorem nz_le (ws : List Int) : ∀ k, nz ws k ≤ k
  | 0 => Nat.le_refl 0
  | k + 1 => by
    unfold nz
    split
    · exact Nat.le_succ_of_le (nz_le ws k)
    · exact Nat.le_refl _
theorem p__law_letter (N : List Str) (hN : N.length = 3) : ∀ ds G q dw, sp__law_letter ds G q dw → t__law_letter dw { nx := fun _ G' => q (.val .non) G', rt := q } (start3 N ds) G := by
  intro ds G q dw h
  unfold t__law_letter start3
  rw [hN]
  obtain ⟨a, R, p, rfl, d, hp, h⟩ := h
  have hl := hp.le
  walk_at "ev"
  refine ⟨a, R, _, rfl, d, by decide, small_big (by decide), fun r G' r0 r1 d' => ?_⟩
  walk_at "ev"
  refine ifD (fun _ => ?_) (fun _ => ?_)
  · walk_at "ev"
    exact h _ _ (by omega) (by omega) d'
  · walk_at "ev"
    refine ifE (fun _ => ?_) (fun _ => ?_)
    · walk_at "ev"
      exact h _ _ (by omega) (by omega) d'
    · walk_at "ev"
      refine ⟨a, R, _, rfl, d', by omega, small_big (by omega), fun r2 G2 r20 r21 d2 => ?_⟩
      walk_at "ev"
      exact h _ _ (by omega) (by omega) d2
theorem ints_of : ∀ (xs : List D) (p : Int), (∀ x ∈ xs, ∃ v, x = D.int v ∧ -1 ≤ v ∧ v < p) → ∃ ws : List Int, xs = ws.map D.int ∧ ∀ w ∈ ws, -1 ≤ w ∧ w < p
  | [], _, _ => ⟨[], rfl, fun _ h => by cases h⟩
  | x :: xs, p, h => by
    obtain ⟨v, rfl, hv⟩ := h x List.mem_cons_self
    obtain ⟨ws, rfl, hw⟩ := ints_of xs p fun z hz => h z (List.mem_cons_of_mem _ hz)
    exact ⟨v :: ws, rfl, fun w hm => (List.mem_cons.mp hm).elim (fun e => by rw [e]; exact hv) (hw w)⟩
theorem p__law_point_drawn (N : List Str) (hN : N.length = 5) : ∀ ds G q dw, sp__law_point_drawn ds G q dw → t__law_point_drawn dw { nx := fun _ G' => q (.val .non) G', rt := q } (start3 N ds) G := by
  intro ds G q dw h
  unfold t__law_point_drawn start3
  rw [hN]
  obtain ⟨a, R, p, m, rfl, d, hp, m0, m1, h⟩ := h
  have hl := hp.le
  walk_at "ev"
  refine ⟨a, R, _, rfl, d, by omega, small_big (by omega), fun r1 G1 r10 r11 d1 => ?_⟩
  walk_at "ev"
  refine ⟨a, R, _, rfl, d1, by omega, small_big (by omega), fun r2 G2 r20 r21 d2 => ?_⟩
  walk_at "ev"
  have hM : 0 ≤ (if r2 > r1 then r2 else r1) ∧ (if r2 > r1 then r2 else r1) ≤ m := by split <;> omega
  refine ⟨Int.le_trans (by decide) hM.1, Int.lt_of_le_of_lt hM.2 (by omega), ?_⟩
  have hL : (rangeD 0 (if r2 > r1 then r2 else r1).toNat).length ≤ 60 := by rw [rangeD_len]; omega
  refine ⟨Nat.le_trans hL (by decide), ?_⟩
  refine lc_reg (fun _ => True) (Dice a R) (fun x => ∃ v, x = D.int v ∧ -1 ≤ v ∧ v < p) (fun x G k1 k2 _ hd h1 h2 => ?_) _ _ _ _ (fun _ _ => trivial) d2 (fun xs G' hx hl2 d3 => ?_)
  · walk_at "ev"
    refine ⟨a, R, p, rfl, hd, hp, fun v G' v0 v1 d' => ?_⟩
    walk_at "ev"
    exact h1 _ _ _ ⟨v, rfl, v0, v1⟩ d' rfl
  · obtain ⟨ws, rfl, hw⟩ := ints_of xs p hx
    walk_at "ev"
    rw [List.length_map, rangeD_len] at hl2
    have hl3 : ws.length ≤ (if r2 > r1 then r2 else r1).toNat := hl2
    exact h ws _ (by omega) ⟨by omega, hw⟩ d3
end LP

set_option maxHeartbeats 4000000
/-! LO: plain: words, the orders of both coordinates told backwards, degrees, rows of residues by their entries. -/
namespace LO
/-- a word: nothing, the turn alone, or a last letter above 0 -/
def Wd (ws : List Int) : Prop := ws = [] ∨ ws = [-1] ∨ ∃ l, ws.getLast? = some l ∧ 0 < l
theorem Wd.tail {l : Int} {ws : List Int} (h : Wd (l :: ws)) : Wd ws := by
  rcases h with h | h | ⟨m, e, h⟩
  · cases h
  · cases h; exact .inl rfl
  · cases ws with
    | nil => exact .inl rfl
    | cons w ws =>
      rw [List.getLast?_cons_cons] at e
      exact .inr (.inr ⟨m, e, h⟩)
theorem Wd.drop {ws : List Int} : ∀ (pre : List Int), Wd (pre ++ ws) → Wd ws
  | [], h => h
  | _ :: pre, h => Wd.drop pre (Wd.tail h)
theorem Wd.dropN {ws : List Int} (h : Wd ws) (n : Nat) : Wd (ws.drop n) := Wd.drop (ws.take n) (by rw [List.take_append_drop]; exact h)
def addO : Option Nat → Option Nat → Option Nat
  | some a, some b => some (a + b)
  | _, _ => none
def stepO (l : Int) (s : Option Nat × Option Nat) : Option Nat × Option Nat :=
  if l = -1 then (addO s.1 s.2, s.1) else if l = 0 then (s.1, addO s.1 s.2) else (s.1, s.1)
/-- the orders of both coordinates at a word -/
def ord2 : List Int → Option Nat × Option Nat
  | [] => (some 1, none)
  | l :: ws => stepO l (ord2 ws)
theorem addO_some {a b : Option Nat} (h1 : a.isSome) (h2 : b.isSome) : (addO a b).isSome := by
  cases a <;> cases b <;> simp_all [addO]
/-- where a letter stands ahead, the first order is there -/
theorem ord_both : ∀ {ws : List Int}, ws ≠ [] → ws ≠ [-1] → Wd ws → (ord2 ws).1.isSome ∧ (ord2 ws).2.isSome
  | [], h, _, _ => absurd rfl h
  | l :: ws, _, h2, h3 => by
    by_cases e : ws = []
    · subst e
      rcases h3 with z | z | ⟨m, e, h⟩
      · cases z
      · exact absurd z h2
      · have : l = m := by simpa using e
        subst this
        simp only [ord2, stepO]
        rw [if_neg (by omega), if_neg (by omega)]
        exact ⟨rfl, rfl⟩
    · by_cases e2 : ws = [-1]
      · subst e2
        rcases h3 with z | z | ⟨m, e, h⟩
        · cases z
        · cases z
        · have : -1 = m := by simpa using e
          omega
      · obtain ⟨i1, i2⟩ := ord_both e e2 h3.tail
        simp only [ord2, stepO]
        have := addO_some i1 i2
        split
        · exact ⟨this, i1⟩
        · split
          · exact ⟨i1, this⟩
          · exact ⟨i1, i1⟩
theorem ord_first {l : Int} {ws : List Int} (h : Wd (l :: ws)) : (ord2 ws).1.isSome := by
  by_cases e : ws = []
  · subst e; rfl
  · by_cases e2 : ws = [-1]
    · subst e2
      rcases h with z | z | ⟨m, e, h⟩
      · cases z
      · cases z
      · have : -1 = m := by simpa using e
        omega
    · exact (ord_both e e2 h.tail).1
theorem addO_pos {a b : Option Nat} (h1 : ∀ n, a = some n → 1 ≤ n) : ∀ n, addO a b = some n → 1 ≤ n := by
  intro n h
  cases a with
  | none => cases h
  | some x => cases b with
    | none => cases h
    | some y =>
      have := h1 x rfl
      simp only [addO, Option.some.injEq] at h
      omega
theorem ord_pos : ∀ ws : List Int, (∀ n, (ord2 ws).1 = some n → 1 ≤ n) ∧ ∀ n, (ord2 ws).2 = some n → 1 ≤ n
  | [] => ⟨fun n h => by cases h; decide, fun n h => by cases h⟩
  | l :: ws => by
    obtain ⟨h1, h2⟩ := ord_pos ws
    simp only [ord2, stepO]
    split
    · exact ⟨addO_pos h1, h1⟩
    · split
      · exact ⟨h1, addO_pos h1⟩
      · exact ⟨h1, h1⟩
/-- the count: the lesser one -/
def mn : Option Nat × Option Nat → Nat
  | (some a, some b) => if b < a then b else a
  | (some a, none) => a
  | (none, some b) => b
  | _ => 0
/-! ### rows of residues -/
abbrev co (xs : List Int) (i : Nat) : Int := xs.getD i 0
def Cf (p : Int) (xs : List Int) : Prop := ∀ i, 0 ≤ co xs i ∧ co xs i < p
def Ord (xs : List Int) : Option Nat → Prop
  | none => ∀ i, co xs i = 0
  | some n => co xs n ≠ 0 ∧ ∀ i, i < n → co xs i = 0
theorem co_out {xs : List Int} {i : Nat} (h : xs.length ≤ i) : co xs i = 0 := by
  unfold co
  rw [List.getD_eq_getElem?_getD, List.getElem?_eq_none h]; rfl
theorem co_in {xs : List Int} {i : Nat} (h : i < xs.length) : co xs i = xs[i] := by
  unfold co
  rw [List.getD_eq_getElem?_getD, List.getElem?_eq_getElem h]; rfl
theorem Ord.lt {xs : List Int} {n : Nat} (h : Ord xs (some n)) : n < xs.length := by
  rcases Nat.lt_or_ge n xs.length with z | z
  · exact z
  · exact absurd (co_out z) h.1
theorem Ord.congr {xs ys : List Int} (h : ∀ i, co ys i = co xs i) : ∀ {o : Option Nat}, Ord xs o → Ord ys o
  | none, z => fun i => (h i).trans (z i)
  | some n, z => ⟨by rw [h]; exact z.1, fun i hi => (h i).trans (z.2 i hi)⟩
theorem Ord.uniq {xs : List Int} : ∀ {o o' : Option Nat}, Ord xs o → Ord xs o' → o = o'
  | none, none, _, _ => rfl
  | none, some n, a, b => absurd (a n) b.1
  | some n, none, a, b => absurd (b n) a.1
  | some n, some m, a, b => by
    rcases Nat.lt_trichotomy n m with z | z | z
    · exact absurd (b.2 n z) a.1
    · rw [z]
    · exact absurd (a.2 m z) b.1
theorem co_set {xs : List Int} {j : Nat} {v : Int} (h : j < xs.length) (i : Nat) : co (xs.set j v) i = if i = j then v else co xs i := by
  unfold co
  rw [List.getD_eq_getElem?_getD, List.getD_eq_getElem?_getD, List.getElem?_set]
  by_cases e : i = j
  · subst e
    rw [if_pos rfl, if_pos h, if_pos rfl]; rfl
  · rw [if_neg (fun z => e z.symm), if_neg e]
theorem co_rep (n i : Nat) : co (List.replicate n 0) i = 0 := by
  unfold co
  rw [List.getD_eq_getElem?_getD, List.getElem?_replicate]
  split <;> rfl
def prs : List Nat := [2, 3, 5, 7, 11, 13, 17, 19, 23, 29, 31]
theorem noZeroN : ∀ p ∈ prs, ∀ x, x < p → ∀ y, y < p → x ≠ 0 → y ≠ 0 → x * y % p ≠ 0 := by decide +kernel
/-- no zero divisors -/
theorem noZero {p x y : Int} (hp : p ∈ ([2, 3, 5, 7, 11, 13, 17, 19, 23, 29, 31] : List Int)) (x0 : 0 ≤ x) (x1 : x < p) (y0 : 0 ≤ y) (y1 : y < p) (hx : x ≠ 0) (hy : y ≠ 0) : x * y % p ≠ 0 := by
  obtain ⟨a, rfl⟩ := Int.eq_ofNat_of_zero_le x0
  obtain ⟨b, rfl⟩ := Int.eq_ofNat_of_zero_le y0
  have h0 : 0 ≤ p := by omega
  obtain ⟨n, rfl⟩ := Int.eq_ofNat_of_zero_le h0
  have hn : n ∈ prs := by
    unfold prs
    simp only [List.mem_cons, List.not_mem_nil, or_false] at hp ⊢
    omega
  have := noZeroN n hn a (by omega) b (by omega) (by omega) (by omega)
  intro z
  apply this
  have e : ((a * b % n : Nat) : Int) = ((0 : Nat) : Int) := by
    rw [Int.natCast_emod, Int.natCast_mul]; exact z
  exact_mod_cast e
/-- what stands in the product's row while it is made: rows below i are done, in row i the entries below j -/
structure Mid (p : Int) (xs ys : List Int) (i j : Nat) (zs : List Int) : Prop where
  len : zs.length = xs.length + ys.length - 1
  cf : Cf p zs
  low : ∀ ox oy, Ord xs ox → Ord ys oy → match ox, oy with
    | some a, some b => (∀ k, k < a + b → co zs k = 0) ∧ co zs (a + b) = if i > a ∨ (i = a ∧ j > b) then co xs a * co ys b % p else 0
    | _, _ => ∀ k, co zs k = 0
theorem Mid.start {p : Int} {xs ys : List Int} (hp : 0 < p) : Mid p xs ys 0 0 (List.replicate (xs.length + ys.length - 1) 0) := by
  refine ⟨List.length_replicate, fun i => by rw [co_rep]; omega, fun ox oy hx hy => ?_⟩
  cases ox <;> cases oy <;> simp only
  · exact fun k => co_rep _ _
  · exact fun k => co_rep _ _
  · exact fun k => co_rep _ _
  · refine ⟨fun k _ => co_rep _ _, ?_⟩
    rw [if_neg (by omega)]
    exact co_rep _ _
theorem Mid.row {p : Int} {xs ys zs : List Int} {i : Nat} (h : Mid p xs ys i ys.length zs) : Mid p xs ys (i + 1) 0 zs := by
  refine ⟨h.len, h.cf, fun ox oy hx hy => ?_⟩
  have q := h.low ox oy hx hy
  cases ox with
  | none => exact q
  | some a =>
    cases oy with
    | none => exact q
    | some b =>
      refine ⟨q.1, ?_⟩
      have lt := hy.lt
      have q2 : co zs (a + b) = if i > a ∨ (i = a ∧ ys.length > b) then co xs a * co ys b % p else 0 := q.2
      show co zs (a + b) = if i + 1 > a ∨ (i + 1 = a ∧ 0 > b) then co xs a * co ys b % p else 0
      rw [q2]
      by_cases z : i > a ∨ (i = a ∧ ys.length > b)
      · rw [if_pos z, if_pos (by omega)]
      · rw [if_neg z, if_neg (by omega)]
theorem Mid.step {p : Int} {xs ys zs : List Int} {i j : Nat} (hp : 0 < p) (h : Mid p xs ys i j zs) (hi : i < xs.length) (hj : j < ys.length) :
    Mid p xs ys i (j + 1) (zs.set (i + j) ((co zs (i + j) + co xs i * co ys j) % p)) := by
  have hl : i + j < zs.length := by rw [h.len]; omega
  have hset : ∀ k, co (zs.set (i + j) ((co zs (i + j) + co xs i * co ys j) % p)) k = if k = i + j then (co zs (i + j) + co xs i * co ys j) % p else co zs k := co_set hl
  have same : co xs i * co ys j = 0 → ∀ k, co (zs.set (i + j) ((co zs (i + j) + co xs i * co ys j) % p)) k = co zs k := fun e k => by
    rw [hset, e, Int.add_zero, Int.emod_eq_of_lt (h.cf _).1 (h.cf _).2]
    split
    · rename_i z; rw [z]
    · rfl
  refine ⟨by rw [List.length_set]; exact h.len, fun k => ?_, fun ox oy hx hy => ?_⟩
  · rw [hset]
    split
    · exact ⟨Int.emod_nonneg _ (by omega), Int.emod_lt_of_pos _ hp⟩
    · exact h.cf k
  · have q := h.low ox oy hx hy
    cases ox with
    | none =>
      have z : co xs i * co ys j = 0 := by rw [hx i, Int.zero_mul]
      exact fun k => (same z k).trans (q k)
    | some a =>
      cases oy with
      | none =>
        have z : co xs i * co ys j = 0 := by rw [hy j, Int.mul_zero]
        exact fun k => (same z k).trans (q k)
      | some b =>
        have q1 : ∀ k, k < a + b → co zs k = 0 := q.1
        have q2 : co zs (a + b) = if i > a ∨ (i = a ∧ j > b) then co xs a * co ys b % p else 0 := q.2
        show (∀ k, k < a + b → _ = 0) ∧ _ = if i > a ∨ (i = a ∧ j + 1 > b) then co xs a * co ys b % p else 0
        by_cases c1 : i < a ∨ j < b
        · have z : co xs i * co ys j = 0 := by
            rcases c1 with c | c
            · rw [hx.2 i c, Int.zero_mul]
            · rw [hy.2 j c, Int.mul_zero]
          refine ⟨fun k hk => (same z k).trans (q1 k hk), ?_⟩
          rw [same z, q2]
          by_cases w : i > a ∨ (i = a ∧ j > b)
          · rw [if_pos w, if_pos (by omega)]
          · rw [if_neg w, if_neg (by omega)]
        · by_cases c2 : i = a ∧ j = b
          · obtain ⟨rfl, rfl⟩ := c2
            refine ⟨fun k hk => ?_, ?_⟩
            · rw [hset, if_neg (by omega)]; exact q1 k hk
            · rw [hset, if_pos rfl, q2, if_neg (by omega), if_pos (by omega), Int.zero_add]
          · refine ⟨fun k hk => ?_, ?_⟩
            · rw [hset, if_neg (by omega)]; exact q1 k hk
            · rw [hset, if_neg (by omega), q2]
              by_cases w : i > a ∨ (i = a ∧ j > b)
              · rw [if_pos w, if_pos (by omega)]
              · rw [if_neg w, if_neg (by omega)]
theorem Mid.fin {p : Int} {xs ys zs : List Int} (hp : p ∈ ([2, 3, 5, 7, 11, 13, 17, 19, 23, 29, 31] : List Int)) (cx : Cf p xs) (cy : Cf p ys) (h : Mid p xs ys xs.length 0 zs) {ox oy : Option Nat} (hx : Ord xs ox) (hy : Ord ys oy) : Ord zs (addO ox oy) := by
  have q := h.low ox oy hx hy
  cases ox with
  | none => exact q
  | some a =>
    cases oy with
    | none => exact q
    | some b =>
      have q2 : co zs (a + b) = if xs.length > a ∨ (xs.length = a ∧ 0 > b) then co xs a * co ys b % p else 0 := q.2
      rw [if_pos (.inl hx.lt)] at q2
      exact ⟨by rw [q2]; exact noZero hp (cx a).1 (cx a).2 (cy b).1 (cy b).2 hx.1 hy.1, q.1⟩
end LO

set_option Elab.async false
set_option maxRecDepth 100000
set_option maxHeartbeats 4000000
set_option exponentiation.threshold 2000
/-! LB: branches and their orders; words drawn. -/
namespace LB
open PySem PySem.Spec PyProof.Rows L2 L3 LD LN LP LO
local macro_rules | `(tactic| walk_at "ev") => `(tactic| repeat (first | refine lc_stop ?_ | refine for_stop ?_ | refine ⟨_, rfl, ?_⟩ | refine ⟨_, _, rfl, ?_⟩ | refine ⟨rfl, ?_⟩ | refine And.intro (by assumption) ?_ | refine ⟨by decide, ?_⟩ | refine ⟨ltL rfl, ?_⟩ | refine ⟨_, at0, ?_⟩ | refine ⟨_, at1, ?_⟩ | refine ⟨_, at2, ?_⟩ | refine ifT ?_ | refine ifF ?_ | refine ⟨_, _, _, rfl, ?_⟩ | refine ⟨⟨_, rfl⟩, ?_⟩))
local macro_rules | `(tactic| walk_at "eva") => `(tactic| repeat (first | refine ⟨_, rfl, ?_⟩ | refine ⟨_, _, rfl, ?_⟩ | refine ⟨rfl, ?_⟩ | refine And.intro (by assumption) ?_ | refine ⟨by decide, ?_⟩ | refine ⟨ltL rfl, ?_⟩ | refine ⟨_, at0, ?_⟩ | refine ⟨_, at1, ?_⟩ | refine ⟨_, at2, ?_⟩ | refine ifT ?_ | refine ifF ?_ | refine ⟨_, _, _, rfl, ?_⟩ | refine ⟨⟨_, rfl⟩, ?_⟩))
theorem at_last {α : Type} {xs : List α} {x : α} (h : xs.getLast? = some x) : atI xs (-1) = some x := by
  have hp : 0 < xs.length := by
    cases xs with
    | nil => cases h
    | cons a b => simp
  unfold atI ixN
  rw [if_neg (by decide), if_pos (by omega), List.getLast?_eq_getElem?] at *
  show xs[((-1 : Int) + xs.length).toNat]? = _
  rw [show ((-1 : Int) + xs.length).toNat = xs.length - 1 by omega]
  exact h
/-- a branch, as a value -/
def br (p : Int) (ws : List Int) (s : Str) : D := .obj "Branch" [.int p, .str s, pt ws]
def oD : Option Nat → D
  | none => .non
  | some a => .int (a : Nat)
/-! ### promises -/
def sp_ends_as_word : DSp := fun ds G q _ => ∃ ws : List Int, ds = [pt ws] ∧ Wd ws ∧ tru q G
def sp_letters_text : DSp := fun ds G q _ => ∃ (p : Int) (ws : List Int), ds = [pt ws] ∧ Pr p ∧ Pt p ws ∧ ∀ s : Str, s.length ≤ 1000 → q (.val (.str s)) G
def sp_Branch_init : DSpI := fun ds G q _ => ∃ (p : Int) (ws : List Int), ds = [.int p, pt ws] ∧ Pr p ∧ Pt p ws ∧ Wd ws ∧ ∀ s : Str, q [.int p, .str s, pt ws] G
theorem len_ends_as_word : ∀ ds G q e, sp_ends_as_word ds G q e → ds.length = 1 := fun ds G q e ⟨_, h, _⟩ => by rw [h]; rfl
theorem len_letters_text : ∀ ds G q e, sp_letters_text ds G q e → ds.length = 1 := fun ds G q e ⟨_, _, h, _⟩ => by rw [h]; rfl
theorem len_Branch_init : ∀ ds G q e, sp_Branch_init ds G q e → ds.length + 1 = 3 := fun ds G q e ⟨_, _, h, _⟩ => by rw [h]; rfl
/-! ### readings (as gen.py prints them) -/
def t_ends_as_word (dw : Exc3 → Reg → Prop) : DSt :=
  (dRet (dOrV (dOp (oIn false) (dVar 0) (dTup (dCons (dTup dNil) (dCons (dTup (dCons (dC (.int (-1))) dNil)) dNil)))) (dOp oGt (dOp oIx (dVar 0) (dUn uNeg (dC (.int 1)))) (dC (.int 0)))))
def t_letters_text (dw : Exc3 → Reg → Prop) : DSt :=
  (dSeq (dIfS (dTest (dOp oEq (dVar 0) (dTup dNil))) (dRet (dC (.str "."))) dNext)
    (dRet (dJoin (dC (.str " ")) (dLc (dIter (dVar 0)) (gNm 1) dYes (dIf (dTest (dOp oEq (dVar 1) (dC (.int (-1))))) (dC (.str "t")) (dCB bStr (dPCons (dVar 1) dNil))) [1]))))
def t_Branch_init (dw : Exc3 → Reg → Prop) : DSt :=
  (dSeq (dDrop (dCall sp_require_prime (fun x _ G => dw x G) (dCons (dVar 1) dNil)))
    (dSeq (dIfS (dOr (dNot (dTest (dCall sp_are_letters (fun x _ G => dw x G) (dCons (dVar 1) (dCons (dVar 2) dNil))))) (dNot (dTest (dCall sp_ends_as_word (fun x _ G => dw x G) (dCons (dVar 2) dNil))))) dNever dNext)
    (dSeq (dSetA [("Branch", 0)] (dVar 1))
    (dSeq (dSetA [("Branch", 2)] (dVar 2))
    (dSetA [("Branch", 1)] (dFstr [(dUn uFmt (dCall sp_letters_text (fun x _ G => dw x G) (dCons (dVar 2) dNil))), (dC (.str " over ")), (dUn uFmt (dVar 1))]))))))
/-! ### the walks -/
theorem p_ends_as_word (N : List Str) (hN : N.length = 1) : ∀ ds G q dw, sp_ends_as_word ds G q dw → t_ends_as_word dw { nx := fun _ G' => q (.val .non) G', rt := q } (start3 N ds) G := by
  intro ds G q dw h
  unfold t_ends_as_word start3
  rw [hN]
  obtain ⟨ws, rfl, hw, h⟩ := h
  walk_at "ev"
  refine ⟨sh_pt _, rfl, ?_⟩
  walk_at "ev"
  have e := among_pts ws [[], [-1]]
  refine ifB (fun _ => ?_) (fun z => ?_)
  · walk_at "ev"
    exact h
  · have z2 : D.among (pt ws) ([[], [-1]].map pt) = false := z
    rw [e] at z2
    have z3 := of_decide_eq_false z2
    rcases hw with rfl | rfl | ⟨l, e2, hl⟩
    · simp at z3
    · simp at z3
    · walk_at "ev"
      refine ⟨.int l, at_last (by rw [List.getLast?_map, e2]; rfl), ?_⟩
      walk_at "ev"
      exact qT (q := q) (decide_eq_true hl) h
theorem txt2 : ∀ n : Nat, n < 32 → (Str.ofString (toString (n : Int))).length ≤ 2 := by decide +kernel
theorem p_letters_text (N : List Str) (hN : N.length = 2) : ∀ ds G q dw, sp_letters_text ds G q dw → t_letters_text dw { nx := fun _ G' => q (.val .non) G', rt := q } (start3 N ds) G := by
  intro ds G q dw h
  unfold t_letters_text start3
  rw [hN]
  obtain ⟨p, ws, rfl, hp, hw, h⟩ := h
  have hl := hp.le
  walk_at "ev"
  refine ⟨sh_pt _, rfl, ?_⟩
  walk_at "ev"
  refine ifQ (eqv_pt ws []) (fun e => ?_) (fun e => ?_)
  · walk_at "ev"
    exact h _ (by decide)
  · walk_at "ev"
    refine ⟨by rw [List.length_map, sizeLine_eq]; have := hw.1; omega, ?_⟩
    refine lc_pure0 (fun d => ∃ x ∈ ws, d = D.int x) (fun d => match d with | .int x => some (.str (if x = -1 then "t" else toString x)) | _ => none) (fun d k1 k2 hd h1 h2 => ?_) (fun d hd => ?_) ?_
    · obtain ⟨x, hx, rfl⟩ := hd
      have hx2 := hw.2 x hx
      walk_at "ev"
      refine ifE (fun z => ?_) (fun z => ?_)
      · walk_at "ev"
        exact h1 _ _ (by show some (D.str (if x = -1 then _ else _)) = _; rw [if_pos z]) rfl
      · walk_at "ev"
        refine ⟨?_, ?_⟩
        · have : x.natAbs < 31 := by omega
          exact Nat.lt_of_le_of_lt (Nat.log2_le_self _) (by omega)
        walk_at "ev"
        exact h1 _ _ (by show some (D.str (if x = -1 then _ else _)) = _; rw [if_neg z]) rfl
    · obtain ⟨x, hx, e⟩ := List.mem_map.mp hd
      exact ⟨x, hx, e.symm⟩
    · have em : (ws.map D.int).filterMap (fun d => match d with | .int x => some (D.str (if x = -1 then "t" else toString x)) | _ => none) = (ws.map fun x => (if x = -1 then "t" else toString x : Str)).map D.str := by
        rw [List.filterMap_map, List.map_map]
        rw [show ((fun d => match d with | D.int x => some (D.str (if x = -1 then "t" else toString x)) | _ => none) ∘ D.int) = some ∘ (D.str ∘ fun x => (if x = -1 then "t" else toString x : Str)) from rfl, List.filterMap_eq_map]
      rw [em]
      have hsum : ∀ l : List Int, (∀ x ∈ l, -1 ≤ x ∧ x < p) → ((l.map fun x => (if x = -1 then "t" else toString x : Str)).map (·.length)).sum ≤ 2 * l.length := by
        intro l
        induction l with
        | nil => intro _; exact Nat.le_refl _
        | cons x l ih =>
          intro hm
          have h3 := ih fun z hz => hm z (List.mem_cons_of_mem _ hz)
          have h4 := hm x List.mem_cons_self
          have h5 : (if x = -1 then "t" else toString x : Str).length ≤ 2 := by
            split
            · decide
            · rename_i z
              obtain ⟨n, rfl⟩ := Int.eq_ofNat_of_zero_le (show 0 ≤ x by omega)
              exact txt2 n (by omega)
          simp only [List.map_cons, List.sum_cons, List.length_cons] at h3 ⊢
          omega
      have hs := hsum ws hw.2
      have h6 := hw.1
      walk_at "ev"
      refine ⟨_, strsOf_map _, ?_⟩
      have e1 : (Str.ofString " ").length = 1 := by decide
      refine ⟨?_, ?_⟩
      · rw [e1, List.length_map]; omega
      walk_at "ev"
      refine h _ ?_
      unfold PySem.Txt.join
      rw [StrLaws.glued_eq_join]
      refine Nat.le_trans (StrLaws.join_length_le _ _) ?_
      rw [e1, List.length_map]; omega
theorem p_Branch_init (N : List Str) (hN : N.length = 3) : ∀ ds G q dw, sp_Branch_init ds G q dw → t_Branch_init dw { nx := fun E' G' => ∃ gs : List D, E'[0]? = some (Sl3.new "Branch" (gs.map some)) ∧ gs ≠ [] ∧ q gs G', rt := fun _ _ => False } (startI "Branch" N ds) G := by
  intro ds G q dw h
  unfold t_Branch_init startI start3
  rw [hN]
  obtain ⟨p, ws, rfl, hp, hw, hwd, h⟩ := h
  have hl := hp.le
  walk_at "ev"
  refine ⟨p, ws, rfl, hp, hw, fun s hs => ?_⟩
  walk_at "ev"
  have e0 : Str.empty.length = 0 := rfl
  have e1 : (Str.ofString " over ").length = 6 := by decide
  refine ⟨by rw [sizeLine_eq]; omega, ?_⟩
  walk_at "ev"
  refine ⟨by rw [Str.length_append, sizeLine_eq]; omega, ?_⟩
  walk_at "ev"
  refine ⟨by rw [Str.length_append, Str.length_append, sizeLine_eq]; omega, ?_⟩
  walk_at "ev"
  have hlog : p.natAbs.log2 < 1920 := Nat.lt_of_le_of_lt (Nat.log2_le_self _) (by omega)
  refine ⟨hlog, ?_⟩
  walk_at "ev"
  have e2 : (Str.ofString (toString p)).length ≤ 2 := by
    obtain ⟨n, rfl⟩ := Int.eq_ofNat_of_zero_le (show 0 ≤ p by omega)
    exact txt2 n (by omega)
  refine ⟨by rw [Str.length_append, Str.length_append, Str.length_append, sizeLine_eq]; omega, ?_⟩
  walk_at "ev"
  exact ⟨[.int p, .str _, pt ws], rfl, by simp, h _⟩
end LB

set_option Elab.async false
set_option maxRecDepth 100000
set_option maxHeartbeats 4000000
set_option exponentiation.threshold 2000
/-! LC: the counts of branches. -/
namespace LC
open PySem PySem.Spec PyProof.Rows L2 L3 LD LN LP LO LB
local macro_rules | `(tactic| walk_at "ev") => `(tactic| repeat (first | refine lc_stop ?_ | refine for_stop ?_ | refine ⟨_, rfl, ?_⟩ | refine ⟨_, _, rfl, ?_⟩ | refine ⟨rfl, ?_⟩ | refine And.intro (by assumption) ?_ | refine ⟨by decide, ?_⟩ | refine ⟨ltL rfl, ?_⟩ | refine ⟨_, at0, ?_⟩ | refine ⟨_, at1, ?_⟩ | refine ⟨_, at2, ?_⟩ | refine ifT ?_ | refine ifF ?_ | refine ⟨_, _, _, rfl, ?_⟩ | refine ⟨⟨_, rfl⟩, ?_⟩))
local macro_rules | `(tactic| walk_at "eva") => `(tactic| repeat (first | refine ⟨_, rfl, ?_⟩ | refine ⟨_, _, rfl, ?_⟩ | refine ⟨rfl, ?_⟩ | refine And.intro (by assumption) ?_ | refine ⟨by decide, ?_⟩ | refine ⟨ltL rfl, ?_⟩ | refine ⟨_, at0, ?_⟩ | refine ⟨_, at1, ?_⟩ | refine ⟨_, at2, ?_⟩ | refine ifT ?_ | refine ifF ?_ | refine ⟨_, _, _, rfl, ?_⟩ | refine ⟨⟨_, rfl⟩, ?_⟩))
/-! ### plain -/
/-- the count at a height -/
def cnt (ws : List Int) (i : Nat) : Nat := mn (ord2 (ws.drop i))
theorem first_mn {l : Int} {ws : List Int} (h : Wd (l :: ws)) : ∃ a, (ord2 ws).1 = some a ∧ mn (ord2 (l :: ws)) = a ∧ mn (ord2 ws) ≤ a := by
  have h1 := ord_first h
  have h2 := ord_pos ws
  cases e : ord2 ws with
  | mk o1 o2 =>
    rw [e] at h1 h2
    cases o1 with
    | none => cases h1
    | some a =>
      refine ⟨a, rfl, ?_, ?_⟩
      · rw [ord2, e]
        unfold stepO
        cases o2 with
        | none =>
          split
          · rfl
          · split
            · rfl
            · show (if a < a then a else a) = a
              rw [if_neg (Nat.lt_irrefl a)]
        | some b =>
          have hb : 1 ≤ b := h2.2 b rfl
          split
          · show (if a < a + b then a else a + b) = a
            rw [if_pos (by omega)]
          · split
            · show (if a + b < a then a + b else a) = a
              rw [if_neg (by omega)]
            · show (if a < a then a else a) = a
              rw [if_neg (Nat.lt_irrefl a)]
      · cases o2 with
        | none => exact Nat.le_refl a
        | some b =>
          show (if b < a then b else a) ≤ a
          split <;> omega
/-! ### second points below -/
theorem getD_any {ws : List Int} {k : Nat} (h : k < ws.length) (d e : Int) : ws.getD k d = ws.getD k e := by
  rw [List.getD_eq_getElem?_getD, List.getD_eq_getElem?_getD, List.getElem?_eq_getElem h]; rfl
theorem nz_zero {ws : List Int} : ∀ k j, nz ws k ≤ j → j < k → ws.getD j 1 = 0
  | 0, j, _, h => absurd h (Nat.not_lt_zero j)
  | k + 1, j, h1, h2 => by
    unfold nz at h1
    split at h1
    · rename_i e
      by_cases hj : j = k
      · rw [hj]; exact e
      · exact nz_zero k j h1 (by omega)
    · omega
theorem nz_of {ws : List Int} {j : Nat} : ∀ k, j < k → ws.getD j 1 ≠ 0 → (∀ i, j < i → i < k → ws.getD i 1 = 0) → nz ws k = j + 1
  | 0, h, _, _ => absurd h (Nat.not_lt_zero j)
  | k + 1, h, h1, h2 => by
    unfold nz
    by_cases hj : j = k
    · rw [if_neg (by rw [← hj]; exact h1), hj]
    · rw [if_pos (h2 k (by omega) (by omega))]
      exact nz_of k (by omega) h1 fun i a b => h2 i a (by omega)
theorem second_iff (ws ys : List Int) : second ws = some ys ↔ ∃ k, k + 1 < ws.length ∧ ws.getD (k + 1) 0 = -1 ∧ (∀ i, k + 1 < i → i < ws.length → ws.getD i 1 = 0) ∧ ys = ws.take k := by
  unfold second
  have hle := nz_le ws ws.length
  constructor
  · intro h
    split at h
    · cases h
    · rename_i hn
      have h1 : 2 ≤ nz ws ws.length := by
        by_cases z : nz ws ws.length < 2
        · exact absurd (.inl z) hn
        · omega
      obtain ⟨k, hk⟩ : ∃ k, nz ws ws.length = k + 1 + 1 := ⟨nz ws ws.length - 2, by omega⟩
      rw [hk] at h hn hle
      have h2 : ws.getD (k + 1) 0 = -1 := by
        by_cases z : ws.getD (k + 1) 0 = -1
        · exact z
        · exact absurd (.inr z) hn
      exact ⟨k, by omega, h2, fun i a b => nz_zero ws.length i (by omega) b, (Option.some.inj h).symm⟩
  · rintro ⟨k, h1, h2, h3, rfl⟩
    have hk : nz ws ws.length = k + 1 + 1 := nz_of ws.length h1 (by rw [getD_any h1 1 0, h2]; decide) h3
    rw [hk, if_neg (by rw [show k + 1 + 1 - 1 = k + 1 by omega]; exact fun z => z.elim (by omega) fun z => z h2)]
    rfl
/-! ### words with letters 0 and 1 -/
def fl (ws : List Int) : List Int := ws.map fun l => if 1 < l then 1 else l
/-! ### tall -/
def tall (ws : List Int) (h : Nat) : Bool := decide (1 < cnt ws h) || (second (ws.take h)).isSome
def tl (ws : List Int) : List Nat := (List.range (ws.length + 1)).filter (tall ws)
def tw (ws : List Int) : Nat := (tl ws).foldr (fun h m => if m < h + 1 then h + 1 else m) 0
end LC

set_option Elab.async false
set_option maxRecDepth 100000
set_option maxHeartbeats 4000000
set_option exponentiation.threshold 2000
/-! LC2: the counts of branches, walked. -/
namespace LC
open PySem PySem.Spec PyProof.Rows L2 L3 LD LN LP LO LB
local macro_rules | `(tactic| walk_at "ev") => `(tactic| repeat (first | refine lc_stop ?_ | refine for_stop ?_ | refine ⟨_, rfl, ?_⟩ | refine ⟨_, _, rfl, ?_⟩ | refine ⟨rfl, ?_⟩ | refine And.intro (by assumption) ?_ | refine ⟨by decide, ?_⟩ | refine ⟨ltL rfl, ?_⟩ | refine ⟨_, at0, ?_⟩ | refine ⟨_, at1, ?_⟩ | refine ⟨_, at2, ?_⟩ | refine ifT ?_ | refine ifF ?_ | refine ⟨_, _, _, rfl, ?_⟩ | refine ⟨⟨_, rfl⟩, ?_⟩))
local macro_rules | `(tactic| walk_at "eva") => `(tactic| repeat (first | refine ⟨_, rfl, ?_⟩ | refine ⟨_, _, rfl, ?_⟩ | refine ⟨rfl, ?_⟩ | refine And.intro (by assumption) ?_ | refine ⟨by decide, ?_⟩ | refine ⟨ltL rfl, ?_⟩ | refine ⟨_, at0, ?_⟩ | refine ⟨_, at1, ?_⟩ | refine ⟨_, at2, ?_⟩ | refine ifT ?_ | refine ifF ?_ | refine ⟨_, _, _, rfl, ?_⟩ | refine ⟨⟨_, rfl⟩, ?_⟩))
end LC

set_option Elab.async false
set_option maxRecDepth 100000
set_option maxHeartbeats 4000000
/-! LE2: plain: points near one another along a branch; counts as divisions with remainders. -/
namespace LE2
open LN LP LO LB LC
def flat (ws : List Int) (n : Nat) : List Int := (ws ++ List.replicate n 0).take n
theorem flat_len (ws : List Int) (n : Nat) : (flat ws n).length = n := by
  unfold flat
  rw [List.length_take, List.length_append, List.length_replicate]; omega
theorem flat_getD {ws : List Int} {n i : Nat} (h : i < n) (d : Int) : (flat ws n).getD i d = ws.getD i 0 := by
  unfold flat
  rw [List.getD_eq_getElem?_getD, List.getD_eq_getElem?_getD, List.getElem?_take, if_pos h, List.getElem?_append]
  split
  · rename_i z
    rw [List.getElem?_eq_getElem z]; rfl
  · rename_i z
    rw [List.getElem?_replicate, if_pos (by omega), List.getElem?_eq_none (by omega)]; rfl
theorem flat_take {ws : List Int} {n h : Nat} (hh : h ≤ n) : (flat ws n).take h = flat ws h := by
  apply List.ext_getElem
  · rw [List.length_take, flat_len, flat_len]; omega
  · intro i h1 h2
    rw [flat_len] at h2
    have e1 := flat_getD (ws := ws) (n := n) (i := i) (by omega) 0
    have e2 := flat_getD (ws := ws) (n := h) (i := i) h2 0
    rw [List.getD_eq_getElem?_getD, List.getElem?_eq_getElem (by rw [flat_len]; omega)] at e1
    rw [List.getD_eq_getElem?_getD, List.getElem?_eq_getElem (by rw [flat_len]; exact h2)] at e2
    rw [List.getElem_take]
    exact e1.trans e2.symm
/-- o is near h along the branch -/
def NC (ws : List Int) (h o : Nat) : Prop := o = h + 1 ∨ (h + 1 < o ∧ ws.getD (h + 1) 0 = -1 ∧ ∀ i, h + 1 < i → i < o → ws.getD i 0 = 0)
theorem near_iff {ws : List Int} {h o : Nat} (ho : h < o) : flat ws h ∈ nears (flat ws o) ↔ NC ws h o := by
  have ne : flat ws o ≠ [] := fun e => by
    have := congrArg List.length e
    rw [flat_len] at this
    have : o = 0 := this
    omega
  unfold nears
  rw [if_neg ne, List.mem_cons, Option.mem_toList, second_iff, flat_len]
  have dl : (flat ws o).dropLast = flat ws (o - 1) := by
    rw [List.dropLast_eq_take, flat_len, flat_take (by omega)]
  rw [dl]
  constructor
  · rintro (e | ⟨k, h1, h2, h3, e⟩)
    · have := congrArg List.length e
      rw [flat_len, flat_len] at this
      exact .inl (by omega)
    · have := congrArg List.length e
      rw [flat_len, List.length_take, flat_len] at this
      have ek : k = h := by omega
      subst ek
      rw [flat_getD h1] at h2
      exact .inr ⟨h1, h2, fun i a b => by have := h3 i a b; rw [flat_getD b] at this; exact this⟩
  · rintro (e | ⟨h1, h2, h3⟩)
    · exact .inl (by rw [e]; rfl)
    · exact .inr ⟨h, h1, by rw [flat_getD h1]; exact h2, fun i a b => by rw [flat_getD b]; exact h3 i a b, (flat_take (by omega)).symm⟩
theorem NC.down {ws : List Int} {h o o' : Nat} (n : NC ws h o) (h1 : h + 1 ≤ o') (h2 : o' ≤ o) : NC ws h o' := by
  rcases n with e | ⟨a, b, c⟩
  · exact .inl (by omega)
  · by_cases z : o' = h + 1
    · exact .inl z
    · exact .inr ⟨by omega, b, fun i x y => c i x (by omega)⟩
def nearTo (ws : List Int) (h o : Nat) : Bool := decide (flat ws h ∈ nears (flat ws o))
theorem nearTo_iff {ws : List Int} {h o : Nat} (ho : h < o) : nearTo ws h o = true ↔ NC ws h o := by
  unfold nearTo
  rw [decide_eq_true_iff]
  exact near_iff ho
/-- the heights near h, up to m -/
def spots (ws : List Int) (h m : Nat) : List Nat := ((List.range (m - h)).map fun i => h + 1 + i).filter (nearTo ws h)
/-- what is closed downwards is a beginning -/
theorem filter_down (P : Nat → Bool) (hd : ∀ i j, i ≤ j → P j = true → P i = true) : ∀ n, ∃ k, k ≤ n ∧ (List.range n).filter P = List.range k ∧ (∀ i, i < k → P i = true) ∧ ∀ i, k ≤ i → i < n → P i = false
  | 0 => ⟨0, Nat.le_refl 0, rfl, fun i h => absurd h (Nat.not_lt_zero i), fun i _ h => absurd h (Nat.not_lt_zero i)⟩
  | n + 1 => by
    obtain ⟨k, h1, h2, h3, h4⟩ := filter_down P hd n
    rw [List.range_succ, List.filter_append, h2]
    cases e : P n with
    | true =>
      have kn : k = n := by
        rcases Nat.lt_or_ge k n with z | z
        · have := hd k n h1 e
          rw [h4 k (Nat.le_refl k) z] at this
          cases this
        · omega
      subst kn
      refine ⟨k + 1, Nat.le_refl _, ?_, fun i hi => ?_, fun i a b => by omega⟩
      · rw [List.range_succ, List.filter_cons_of_pos (by rw [e])]; rfl
      · by_cases z : i = k
        · rw [z]; exact e
        · exact h3 i (by omega)
    | false =>
      refine ⟨k, by omega, ?_, h3, fun i a b => ?_⟩
      · rw [List.filter_cons_of_neg (by rw [e]; exact Bool.false_ne_true), List.filter_nil, List.append_nil]
      · by_cases z : i = n
        · rw [z]; exact e
        · exact h4 i a (by omega)
theorem spots_is (ws : List Int) (h m : Nat) (hm : h < m) : ∃ k, 1 ≤ k ∧ k ≤ m - h ∧ spots ws h m = (List.range k).map (fun i => h + 1 + i) ∧ (∀ i, i < k → NC ws h (h + 1 + i)) ∧ ∀ i, k ≤ i → i < m - h → ¬ NC ws h (h + 1 + i) := by
  obtain ⟨k, h1, h2, h3, h4⟩ := filter_down (fun i => nearTo ws h (h + 1 + i)) (fun i j hij hj => (nearTo_iff (by omega)).2 (((nearTo_iff (by omega)).1 hj).down (by omega) (by omega))) (m - h)
  refine ⟨k, ?_, h1, ?_, fun i hi => (nearTo_iff (by omega)).1 (h3 i hi), fun i a b c => ?_⟩
  · rcases Nat.lt_or_ge 0 k with z | z
    · exact z
    · have := h4 0 z (by omega)
      rw [show nearTo ws h (h + 1 + 0) = true from (nearTo_iff (by omega)).2 (.inl rfl)] at this
      cases this
  · unfold spots
    rw [List.filter_map]
    show List.map _ (List.filter (fun i => nearTo ws h (h + 1 + i)) (List.range (m - h))) = _
    rw [h2]
  · have := h4 i a b
    rw [(nearTo_iff (by omega)).2 c] at this
    cases this
theorem drop_cons' {ws : List Int} {i : Nat} (h : i < ws.length) : ws.drop i = ws.getD i 0 :: ws.drop (i + 1) := by
  rw [List.drop_eq_getElem_cons h, List.getD_eq_getElem?_getD, List.getElem?_eq_getElem h]; rfl
/-- at a word that begins with a letter that is not 0, the second order is the count -/
theorem head_nonzero {l : Int} {t : List Int} (hw : Wd (l :: t)) (h1 : l :: t ≠ [-1]) (h0 : l ≠ 0) : ∃ a b, ord2 (l :: t) = (some a, some b) ∧ b ≤ a ∧ mn (ord2 (l :: t)) = b ∧ 1 ≤ b := by
  obtain ⟨s1, s2⟩ := ord_both (List.cons_ne_nil l t) h1 hw
  have hp := ord_pos (l :: t)
  have hf := ord_first hw
  cases e : ord2 t with
  | mk o1 o2 =>
    rw [e] at hf
    cases o1 with
    | none => cases hf
    | some x =>
      rw [ord2, e] at s1 s2 hp ⊢
      unfold stepO at s1 s2 hp ⊢
      by_cases z : l = -1
      · rw [if_pos z] at s1 s2 hp ⊢
        cases o2 with
        | none => cases s1
        | some y =>
          refine ⟨x + y, x, rfl, by omega, ?_, hp.2 x rfl⟩
          show (if x < x + y then x else x + y) = x
          split <;> omega
      · rw [if_neg z, if_neg h0] at s1 s2 hp ⊢
        exact ⟨x, x, rfl, Nat.le_refl x, by show (if x < x then x else x) = x; split <;> rfl, hp.2 x rfl⟩
theorem sum_rep (k a b : Nat) (f : Nat → Nat) (h1 : ∀ j, j < k → f j = a) (h2 : f k = b) : ((List.range (k + 1)).map fun j => ((f j : Nat) : Int)).sum = ((k * a + b : Nat) : Int) := by
  have e : ((List.range k).map fun j => ((f j : Nat) : Int)).sum = ((k * a : Nat) : Int) := by
    induction k generalizing b with
    | zero => simp
    | succ k ih =>
      rw [List.range_succ, List.map_append, List.sum_append, ih (f k) (fun j hj => h1 j (by omega)) rfl]
      show _ + ([((f k : Nat) : Int)] : List Int).sum = _
      rw [h1 k (by omega), Nat.succ_mul]
      simp
  rw [List.range_succ, List.map_append, List.sum_append, e]
  show _ + ([((f k : Nat) : Int)] : List Int).sum = _
  rw [h2]
  simp
/-- the counts at the points near a height: all alike but the last one; their sum is the count -/
theorem place {ws : List Int} (hw : Wd ws) (hn : ws ≠ [-1]) {h : Nat} (ht : (-1 : Int) ∈ ws.drop h) : ∃ k, 1 ≤ k ∧ h + k ≤ ws.length ∧ spots ws h (ws.length + 1) = (List.range k).map (fun i => h + 1 + i) ∧
    (∀ j, j + 1 < k → cnt ws (h + 1 + j) = cnt ws (h + 1)) ∧ ((List.range k).map fun j => ((cnt ws (h + 1 + j) : Nat) : Int)).sum = ((cnt ws h : Nat) : Int) := by
  have hl : h < ws.length := by
    rcases Nat.lt_or_ge h ws.length with z | z
    · exact z
    · rw [List.drop_eq_nil_of_le z] at ht; cases ht
  have hlast : ∃ l, ws.getLast? = some l ∧ 0 < l := by
    rcases hw with z | z | z
    · rw [z] at hl; exact absurd hl (Nat.not_lt_zero h)
    · exact absurd z hn
    · exact z
  obtain ⟨l, hl1, hl2⟩ := hlast
  rw [List.getLast?_eq_getElem?] at hl1
  have hlD : ws.getD (ws.length - 1) 0 = l := by rw [List.getD_eq_getElem?_getD, hl1]; rfl
  -- not the last letter alone
  have hl3 : h + 1 < ws.length := by
    rcases Nat.lt_or_ge (h + 1) ws.length with z | z
    · exact z
    · rw [drop_cons' hl, List.drop_eq_nil_of_le z] at ht
      have e : ws.getD h 0 = -1 := (List.mem_singleton.1 ht).symm
      rw [show ws.length - 1 = h by omega] at hlD
      omega
  have neD : ∀ i, i < ws.length → ws.drop i ≠ [-1] := fun i hi e => by
    have := congrArg List.getLast? e
    rw [List.getLast?_drop, if_neg (by omega), List.getLast?_eq_getElem?, hl1] at this
    have : l = -1 := by simpa using this
    omega
  obtain ⟨k, k1, k2, e, n1, n2⟩ := spots_is ws h (ws.length + 1) (by omega)
  obtain ⟨c, c1, c2, _⟩ := first_mn (l := ws.getD h 0) (ws := ws.drop (h + 1)) (by rw [← drop_cons' hl]; exact hw.dropN h)
  rw [← drop_cons' hl] at c2
  have ch : cnt ws h = c := c2
  by_cases turn : ws.getD (h + 1) 0 = -1
  · -- k ≥ 2
    have k3 : 2 ≤ k := by
      rcases Nat.lt_or_ge 1 k with z | z
      · exact z
      · exact absurd (.inr ⟨by omega, turn, fun i a b => by omega⟩) (n2 1 z (by omega))
    obtain ⟨m, rfl⟩ : ∃ m, k = m + 2 := ⟨k - 2, by omega⟩
    have zeros : ∀ i, h + 1 < i → i < h + 1 + (m + 1) → ws.getD i 0 = 0 := fun i a b => by
      rcases n1 (m + 1) (by omega) with z | ⟨_, _, z⟩
      · omega
      · exact z i a b
    have hP : h + 1 + (m + 1) ≤ ws.length - 1 := by
      rcases Nat.lt_or_ge (ws.length - 1) (h + 1 + (m + 1)) with z | z
      · have lz : h + 1 < ws.length - 1 := by
          rcases Nat.lt_or_ge (h + 1) (ws.length - 1) with y | y
          · exact y
          · rw [show ws.length - 1 = h + 1 by omega] at hlD; omega
        have := zeros (ws.length - 1) lz z
        omega
      · exact z
    have hPl : h + 1 + (m + 1) < ws.length := by omega
    have nz : ws.getD (h + 1 + (m + 1)) 0 ≠ 0 := fun z => by
      refine n2 (m + 2) (Nat.le_refl _) (by omega) (.inr ⟨by omega, turn, fun i a b => ?_⟩)
      by_cases y : i = h + 1 + (m + 1)
      · rw [y]; exact z
      · exact zeros i a (by omega)
    obtain ⟨a, b, o1, o2, o3, o4⟩ := head_nonzero (l := ws.getD (h + 1 + (m + 1)) 0) (t := ws.drop (h + 1 + (m + 1) + 1)) (by rw [← drop_cons' hPl]; exact hw.dropN _) (by rw [← drop_cons' hPl]; exact neD _ hPl) nz
    rw [← drop_cons' hPl] at o1 o3
    have zd : ∀ d, d ≤ m → ord2 (ws.drop (h + 1 + (m + 1) - d)) = (some a, some (b + d * a)) := by
      intro d
      induction d with
      | zero => intro _; rw [Nat.zero_mul]; exact o1
      | succ d ih =>
        intro hd
        have ih := ih (by omega)
        have lt : h + 1 + (m + 1) - (d + 1) < ws.length := by omega
        rw [drop_cons' lt, zeros _ (by omega) (by omega), show h + 1 + (m + 1) - (d + 1) + 1 = h + 1 + (m + 1) - d by omega, ord2, ih]
        unfold stepO
        rw [if_neg (by decide), if_pos rfl]
        show (some a, some (a + (b + d * a))) = _
        rw [Nat.succ_mul]
        congr 2
        omega
    have e1 : ord2 (ws.drop (h + 1)) = (some (a + (b + m * a)), some a) := by
      have := zd m (Nat.le_refl m)
      rw [show h + 1 + (m + 1) - m = h + 1 + 1 by omega] at this
      rw [drop_cons' hl3, turn, ord2, this]
      unfold stepO
      rw [if_pos rfl]; rfl
    have f0 : cnt ws (h + 1) = a := by
      show mn (ord2 (ws.drop (h + 1))) = a
      rw [e1]
      show (if a < a + (b + m * a) then a else a + (b + m * a)) = a
      rw [if_pos (by omega)]
    have f1 : ∀ j, j < m + 1 → cnt ws (h + 1 + j) = a := fun j hj => by
      by_cases z : j = 0
      · rw [z]; exact f0
      · have := zd (m + 1 - j) (by omega)
        rw [show h + 1 + (m + 1) - (m + 1 - j) = h + 1 + j by omega] at this
        show mn (ord2 (ws.drop (h + 1 + j))) = a
        rw [this]
        obtain ⟨d, hd⟩ : ∃ d, m + 1 - j = d + 1 := ⟨m - j, by omega⟩
        rw [hd, Nat.succ_mul]
        show (if b + (d * a + a) < a then b + (d * a + a) else a) = a
        rw [if_neg (by omega)]
    have f2 : cnt ws (h + 1 + (m + 1)) = b := o3
    refine ⟨m + 2, by omega, by omega, e, fun j hj => by rw [f1 j (by omega), f0], ?_⟩
    rw [sum_rep (m + 1) a b (fun j => cnt ws (h + 1 + j)) f1 f2, ch]
    have : c = a + (b + m * a) := by rw [e1] at c1; exact (Option.some.inj c1).symm
    rw [this, Nat.succ_mul]
    congr 1
    omega
  · -- no turn: one point
    have k3 : k = 1 := by
      rcases Nat.lt_or_ge 1 k with z | z
      · rcases n1 1 z with y | ⟨_, y, _⟩
        · omega
        · exact absurd y turn
      · omega
    subst k3
    refine ⟨1, Nat.le_refl 1, by omega, e, fun j hj => by omega, ?_⟩
    show ([((cnt ws (h + 1 + 0) : Nat) : Int)] : List Int).sum = _
    rw [List.sum_cons, List.sum_nil, Int.add_zero, ch]
    congr 1
    show mn (ord2 (ws.drop (h + 1))) = c
    obtain ⟨a, a1, a2, _⟩ := first_mn (l := ws.getD (h + 1) 0) (ws := ws.drop (h + 1 + 1)) (by rw [← drop_cons' hl3]; exact hw.dropN _)
    rw [← drop_cons' hl3] at a2
    rw [a2]
    rw [drop_cons' hl3, ord2] at c1
    unfold stepO at c1
    rw [if_neg turn] at c1
    have : (ord2 (ws.drop (h + 1 + 1))).1 = some c := by
      split at c1 <;> exact c1
    rw [a1] at this
    exact Option.some.inj this
end LE2

set_option Elab.async false
set_option maxRecDepth 100000
set_option maxHeartbeats 4000000
set_option exponentiation.threshold 2000
/-! LF: points on branches, near points. -/
namespace LF
open PySem PySem.Spec PyProof.Rows L2 L3 LD LN LP LO LB LC LE2
local macro_rules | `(tactic| walk_at "ev") => `(tactic| repeat (first | refine lc_stop ?_ | refine for_stop ?_ | refine ⟨_, rfl, ?_⟩ | refine ⟨_, _, rfl, ?_⟩ | refine ⟨rfl, ?_⟩ | refine And.intro (by assumption) ?_ | refine ⟨by decide, ?_⟩ | refine ⟨ltL rfl, ?_⟩ | refine ⟨_, at0, ?_⟩ | refine ⟨_, at1, ?_⟩ | refine ⟨_, at2, ?_⟩ | refine ifT ?_ | refine ifF ?_ | refine ⟨_, _, _, rfl, ?_⟩ | refine ⟨⟨_, rfl⟩, ?_⟩ | refine ⟨_, _, _, _, rfl, ?_⟩))
end LF

set_option Elab.async false
set_option maxRecDepth 100000
set_option maxHeartbeats 4000000
/-! LT: where two branches part; touches, as plain sums. -/
namespace LT
open PySem PySem.Spec PyProof.Rows L2 L3 LD LN LP LO LB LC LE2 LF
/-- the letter at a height -/
abbrev at0 (a : List Int) (i : Nat) : Int := a.getD i 0
/-- h is the height of the last shared point -/
structure Prt (a b : List Int) (h : Nat) : Prop where
  lt : h < max a.length b.length
  ne : at0 a h ≠ at0 b h
  eq : ∀ j, j < h → at0 a j = at0 b j
theorem Prt.symm {a b : List Int} {h : Nat} (x : Prt a b h) : Prt b a h := ⟨by have := x.lt; omega, Ne.symm x.ne, fun j hj => (x.eq j hj).symm⟩
theorem Prt.uniq {a b : List Int} {h k : Nat} (x : Prt a b h) (y : Prt a b k) : h = k := by
  rcases Nat.lt_trichotomy h k with z | z | z
  · exact absurd (y.eq h z) x.ne
  · exact z
  · exact absurd (x.eq k z) y.ne
theorem least {p : Nat → Prop} : ∀ n, (∃ i, i < n ∧ p i) → ∃ i, i < n ∧ p i ∧ ∀ j, j < i → ¬ p j
  | 0, ⟨i, h, _⟩ => absurd h (Nat.not_lt_zero i)
  | n + 1, ⟨i, h, q⟩ => by
    by_cases z : ∃ i, i < n ∧ p i
    · obtain ⟨j, h1, h2, h3⟩ := least n z
      exact ⟨j, by omega, h2, h3⟩
    · have : i = n := by
        by_cases w : i < n
        · exact absurd ⟨i, w, q⟩ z
        · omega
      subst this
      exact ⟨i, by omega, q, fun j hj hp => z ⟨j, hj, hp⟩⟩
noncomputable def dif (a b : List Int) : Nat := open Classical in if h : ∃ k, Prt a b k then Classical.choose h else 0
/-- pairs of counts, triples with points -/
noncomputable def prs (a b : List Int) : List D := (List.range (dif a b + 1)).map fun i => .tup [.int ((cnt a i : Nat) : Int), .int ((cnt b i : Nat) : Int)]
/-! ### promises -/
def sp_Branch_eq : DSp := fun ds G q _ => ∃ (p : Int) (a b : List Int) (s t : Str), ds = [br p a s, br p b t] ∧ q (.val (.bl (decide (a = b)))) G
structure Two (a b : List Int) : Prop where
  la : a.length ≤ 60
  lb : b.length ≤ 60
  wa : Wd a
  wb : Wd b
theorem Two.symm {a b : List Int} (h : Two a b) : Two b a := ⟨h.lb, h.la, h.wb, h.wa⟩
theorem len_Branch_eq : ∀ ds G q e, sp_Branch_eq ds G q e → ds.length = 2 := fun ds G q e ⟨_, _, _, _, _, h, _⟩ => by rw [h]; rfl
end LT

set_option Elab.async false
/-! RS: plain: power series of whole numbers, as functions; sums, products, powers, a series put into another. -/
namespace RS
abbrev S := Nat → Int
def sm : Nat → (Nat → Int) → Int
  | 0, _ => 0
  | n + 1, f => sm n f + f n
theorem sm_congr : ∀ {n : Nat} {f g : Nat → Int}, (∀ i, i < n → f i = g i) → sm n f = sm n g
  | 0, _, _, _ => rfl
  | n + 1, f, g, h => by rw [sm, sm, sm_congr fun i hi => h i (by omega), h n (by omega)]
theorem sm_zero : ∀ {n : Nat} {f : Nat → Int}, (∀ i, i < n → f i = 0) → sm n f = 0
  | 0, _, _ => rfl
  | n + 1, f, h => by rw [sm, sm_zero fun i hi => h i (by omega), h n (by omega)]; rfl
theorem sm_add : ∀ (n : Nat) (f g : Nat → Int), sm n (fun i => f i + g i) = sm n f + sm n g
  | 0, _, _ => rfl
  | n + 1, f, g => by rw [sm, sm, sm, sm_add n]; omega
theorem sm_mul : ∀ (n : Nat) (c : Int) (f : Nat → Int), sm n (fun i => c * f i) = c * sm n f
  | 0, c, _ => by rw [sm, sm, Int.mul_zero]
  | n + 1, c, f => by rw [sm, sm, sm_mul n, Int.mul_add]
theorem sm_mulr (n : Nat) (c : Int) (f : Nat → Int) : sm n (fun i => f i * c) = sm n f * c := by
  rw [Int.mul_comm, ← sm_mul]
  exact sm_congr fun i _ => Int.mul_comm _ _
theorem sm_front : ∀ (n : Nat) (f : Nat → Int), sm (n + 1) f = f 0 + sm n (fun i => f (i + 1))
  | 0, f => by rw [sm, sm, sm]; omega
  | n + 1, f => by rw [sm, sm_front n f, sm]; omega
theorem sm_rev : ∀ (n : Nat) (f : Nat → Int), sm (n + 1) (fun i => f (n - i)) = sm (n + 1) f
  | 0, f => rfl
  | n + 1, f => by
    rw [sm_front (n + 1) fun i => f (n + 1 - i)]
    have : sm (n + 1) (fun i => f (n + 1 - (i + 1))) = sm (n + 1) (fun i => f (n - i)) := sm_congr fun i _ => by rw [show n + 1 - (i + 1) = n - i by omega]
    rw [this, sm_rev n f]
    show f (n + 1) + sm (n + 1) f = sm (n + 1) f + f (n + 1)
    omega
/-- pairs below a line, by their sum or by the first one -/
theorem sm_tri : ∀ (n : Nat) (F : Nat → Nat → Int), sm (n + 1) (fun i => sm (i + 1) (fun j => F j (i - j))) = sm (n + 1) (fun j => sm (n - j + 1) (fun k => F j k))
  | 0, F => rfl
  | n + 1, F => by
    rw [sm, sm_tri n F]
    show _ + (sm (n + 1) (fun j => F j (n + 1 - j)) + F (n + 1) (n + 1 - (n + 1))) = sm (n + 1) (fun j => sm (n + 1 - j + 1) (fun k => F j k)) + sm (n + 1 - (n + 1) + 1) (fun k => F (n + 1) k)
    have e : sm (n + 1) (fun j => sm (n + 1 - j + 1) (fun k => F j k)) = sm (n + 1) (fun j => sm (n - j + 1) (fun k => F j k)) + sm (n + 1) (fun j => F j (n + 1 - j)) := by
      rw [← sm_add]
      refine sm_congr fun j hj => ?_
      rw [show n + 1 - j + 1 = (n - j + 1) + 1 by omega, sm, show n - j + 1 = n + 1 - j by omega]
    rw [e, Nat.sub_self]
    show _ = _ + (0 + F (n + 1) 0)
    omega
/-- sums and products -/
def add (f g : S) : S := fun n => f n + g n
def mul (f g : S) : S := fun n => sm (n + 1) fun i => f i * g (n - i)
def one : S := fun n => if n = 0 then 1 else 0
def sc (c : Int) (f : S) : S := fun n => c * f n
def pow (f : S) : Nat → S
  | 0 => one
  | n + 1 => mul (pow f n) f
theorem mul_comm (f g : S) : mul f g = mul g f := funext fun n => by
  show sm (n + 1) (fun i => f i * g (n - i)) = sm (n + 1) (fun i => g i * f (n - i))
  rw [← sm_rev n (fun i => g i * f (n - i))]
  exact sm_congr fun i hi => by rw [show n - (n - i) = i by omega, Int.mul_comm]
theorem mul_add (f g h : S) : mul f (add g h) = add (mul f g) (mul f h) := funext fun n => by
  show sm (n + 1) (fun i => f i * (g (n - i) + h (n - i))) = _
  rw [sm_congr (g := fun i => f i * g (n - i) + f i * h (n - i)) fun i _ => Int.mul_add _ _ _, sm_add]; rfl
theorem add_mul (f g h : S) : mul (add f g) h = add (mul f h) (mul g h) := by rw [mul_comm, mul_add, mul_comm h f, mul_comm h g]
theorem mul_assoc (f g h : S) : mul (mul f g) h = mul f (mul g h) := funext fun n => by
  show sm (n + 1) (fun i => sm (i + 1) (fun j => f j * g (i - j)) * h (n - i)) = sm (n + 1) (fun j => f j * sm (n - j + 1) (fun k => g k * h (n - j - k)))
  have e1 : sm (n + 1) (fun i => sm (i + 1) (fun j => f j * g (i - j)) * h (n - i)) = sm (n + 1) (fun i => sm (i + 1) (fun j => f j * (g (i - j) * h (n - j - (i - j))))) := sm_congr fun i hi => by
    rw [← sm_mulr]
    exact sm_congr fun j hj => by rw [show n - j - (i - j) = n - i by omega, Int.mul_assoc]
  rw [e1, sm_tri n fun j k => f j * (g k * h (n - j - k))]
  exact sm_congr fun j _ => sm_mul _ _ _
theorem mul_one (f : S) : mul f one = f := funext fun n => by
  show sm (n + 1) (fun i => f i * one (n - i)) = f n
  rw [sm, sm_zero (n := n) fun i hi => by show f i * (if n - i = 0 then 1 else 0) = 0; rw [if_neg (by omega), Int.mul_zero]]
  show 0 + f n * (if n - n = 0 then 1 else 0) = f n
  rw [if_pos (Nat.sub_self n), Int.mul_one, Int.zero_add]
/-- f with g in the place of t -/
def comp (f g : S) : S := fun n => sm (n + 1) fun i => f i * pow g i n
end RS

set_option Elab.async false
/-! RT: plain: rows of residues as lists, cut of zeros at the end; their entries as series. -/
namespace RS
def co (xs : List Int) : S := fun i => xs.getD i 0
theorem co_nil (i : Nat) : co [] i = 0 := by unfold co; rw [List.getD_eq_getElem?_getD]; rfl
theorem co_s (x : Int) (xs : List Int) (i : Nat) : co (x :: xs) (i + 1) = co xs i := rfl
theorem co_out {xs : List Int} {i : Nat} (h : xs.length ≤ i) : co xs i = 0 := by
  unfold co
  rw [List.getD_eq_getElem?_getD, List.getElem?_eq_none h]; rfl
theorem co_in {xs : List Int} {i : Nat} (h : i < xs.length) : co xs i = xs[i] := by
  unfold co
  rw [List.getD_eq_getElem?_getD, List.getElem?_eq_getElem h]; rfl
def trimL : List Int → List Int
  | [] => []
  | x :: xs => if trimL xs = [] ∧ x = 0 then [] else x :: trimL xs
theorem trim_len : ∀ xs : List Int, (trimL xs).length ≤ xs.length
  | [] => Nat.le_refl _
  | x :: xs => by
    have := trim_len xs
    unfold trimL
    split
    · exact Nat.zero_le _
    · rw [List.length_cons, List.length_cons]; omega
theorem co_trim : ∀ (xs : List Int) (i : Nat), co (trimL xs) i = co xs i
  | [], _ => rfl
  | x :: xs, i => by
    have ih := co_trim xs
    unfold trimL
    split
    · rename_i h
      rw [co_nil]
      cases i with
      | zero => exact h.2.symm
      | succ i => rw [co_s, ← ih, h.1, co_nil]
    · cases i with
      | zero => rfl
      | succ i => rw [co_s, co_s, ih]
theorem trim_nil : ∀ {xs : List Int}, (∀ i, co xs i = 0) → trimL xs = []
  | [], _ => rfl
  | x :: xs, h => by
    unfold trimL
    rw [if_pos ⟨trim_nil fun i => h (i + 1), h 0⟩]
theorem trim_mem : ∀ {xs : List Int} {x : Int}, x ∈ trimL xs → x ∈ xs
  | [], _, h => h
  | y :: xs, x, h => by
    unfold trimL at h
    split at h
    · cases h
    · rcases List.mem_cons.mp h with rfl | h
      · exact List.mem_cons_self
      · exact List.mem_cons_of_mem _ (trim_mem h)
/-- what a loop from the end cuts -/
theorem trim_take : ∀ {xs : List Int} {k : Nat}, k ≤ xs.length → (∀ i, k ≤ i → co xs i = 0) → (k = 0 ∨ co xs (k - 1) ≠ 0) → xs.take k = trimL xs
  | [], k, hk, _, _ => by rw [List.take_nil]; rfl
  | x :: xs, 0, _, h, _ => (trim_nil fun i => h i (Nat.zero_le i)).symm
  | x :: xs, k + 1, hk, h, h1 => by
    have h1 : co (x :: xs) k ≠ 0 := by
      rcases h1 with z | z
      · exact absurd z (Nat.succ_ne_zero k)
      · exact z
    have ih : xs.take k = trimL xs := trim_take (by rw [List.length_cons] at hk; omega) (fun i hi => h (i + 1) (by omega)) (by
      cases k with
      | zero => exact .inl rfl
      | succ k => exact .inr h1)
    unfold trimL
    rw [List.take_succ_cons, ih]
    by_cases z : trimL xs = [] ∧ x = 0
    · exfalso
      cases k with
      | zero => exact h1 z.2
      | succ k =>
        rw [co_s, ← co_trim, z.1, co_nil] at h1
        exact h1 rfl
    · rw [if_neg z]
/-- the first n entries of a series, as residues -/
def mk (p : Int) (n : Nat) (f : S) : List Int := (List.range n).map fun i => f i % p
/-- two series that are alike modulo p -/
def Eqm (p : Int) (f g : S) : Prop := ∀ n, f n % p = g n % p
theorem Eqm.refl {p : Int} (f : S) : Eqm p f f := fun _ => rfl
theorem Eqm.symm {p : Int} {f g : S} (h : Eqm p f g) : Eqm p g f := fun n => (h n).symm
theorem Eqm.trans {p : Int} {f g h : S} (h1 : Eqm p f g) (h2 : Eqm p g h) : Eqm p f h := fun n => (h1 n).trans (h2 n)
theorem sm_mod {p : Int} : ∀ {n : Nat} {f g : Nat → Int}, (∀ i, i < n → f i % p = g i % p) → sm n f % p = sm n g % p
  | 0, _, _, _ => rfl
  | n + 1, f, g, h => by
    rw [sm, sm, Int.add_emod, sm_mod fun i hi => h i (by omega), h n (by omega), ← Int.add_emod]
theorem Eqm.add {p : Int} {f g f' g' : S} (h1 : Eqm p f f') (h2 : Eqm p g g') : Eqm p (RS.add f g) (RS.add f' g') := fun n => by
  show (f n + g n) % p = (f' n + g' n) % p
  rw [Int.add_emod, h1 n, h2 n, ← Int.add_emod]
theorem Eqm.mul {p : Int} {f g f' g' : S} (h1 : Eqm p f f') (h2 : Eqm p g g') : Eqm p (RS.mul f g) (RS.mul f' g') := fun n =>
  sm_mod fun i _ => by rw [Int.mul_emod, h1 i, h2 (n - i), ← Int.mul_emod]
theorem Eqm.pow {p : Int} {f f' : S} (h : Eqm p f f') : ∀ n, Eqm p (RS.pow f n) (RS.pow f' n)
  | 0 => Eqm.refl _
  | n + 1 => (Eqm.pow h n).mul h
theorem Eqm.comp {p : Int} {f g f' g' : S} (h1 : Eqm p f f') (h2 : Eqm p g g') : Eqm p (RS.comp f g) (RS.comp f' g') := fun n =>
  sm_mod fun i _ => by rw [Int.mul_emod, h1 i, Eqm.pow h2 i n, ← Int.mul_emod]
end RS

set_option Elab.async false
set_option maxRecDepth 100000
set_option maxHeartbeats 4000000
/-! K09: promises -/
namespace K09
open PySem PySem.Spec PyProof.Rows L2 L3 LD LN LP
open LB (br)
/-- the text of a letter, of a word, of a branch -/
def sgn (x : Int) : Str := if x = -1 then "t" else toString x
def txt (ws : List Int) : Str := if ws = [] then "." else Txt.join " " (ws.map sgn)
def bt (p : Int) (ws : List Int) : Str := Str.empty ++ txt ws ++ " over " ++ Str.ofString (toString p)
/-- texts read -/
def vals (p : Int) : List Int := (List.range p.toNat).map (fun (k : Nat) => (k : Int)) ++ [-1]
def knw (p : Int) (x : Str) : Option Int := (vals p).find? fun v => decide (sgn v = x)
def lin (p : Int) (s : Str) : Option (List Int) := if s = "." then some [] else
  if (Txt.split s " ").length ≤ 60 ∧ (Txt.split s " ").all (fun x => (knw p x).isSome) = true then some ((Txt.split s " ").filterMap (knw p)) else none
def linD (p : Int) (d : D) : Option (List Int) := match d with
  | .str s => lin p s
  | _ => none
def optD : Option (List Int) → D
  | none => .non
  | some xs => pt xs
def OkS (s : Str) : Prop := strOkC s = true ∧ s.length ≤ 400
def OkV (d : D) : Prop := (∃ s, d = .str s ∧ OkS s) ∨ d = .non ∨ (∃ i, d = .int i) ∨ (∃ xs, d = .tup xs)
/-- words, bare points, points -/
def wdb (ws : List Int) : Bool := ws == [] || ws == [-1] || (match ws.getLast? with
  | some l => decide (0 < l)
  | none => false)
abbrev bare (ws : List Int) : List Int := RS.trimL ws
def ptb (p : Int) (ws : List Int) : Bool := decide (ws.length ≤ 60) && ws.all fun x => decide (-1 ≤ x) && decide (x < p)
def res (q : Res → Reg → Prop) (G : Reg) : Option (List Int) → Prop
  | some xs => q (.val (pt xs)) G
  | none => q (.fr [.int 0]) G
def exP : Exc3 := ("ParseError", some ("index", .int 0))
def exW : Exc3 := ("InvalidWord", none)
def exO : Exc3 := ("InvalidOperation", none)
def sp_ends_as_word : DSp := fun ds G q _ => ∃ ws : List Int, ds = [pt ws] ∧ q (.val (.bl (wdb ws))) G
def sp_letters_text : DSp := fun ds G q _ => ∃ ws : List Int, ds = [pt ws] ∧ Pt 100 ws ∧ q (.val (.str (txt ws))) G
def sp__law_wd_text : DSp := fun ds G q _ => ∃ ws : List Int, ds = [pt ws] ∧ ws.length ≤ 1000 ∧ (∀ x ∈ ws, -1 ≤ x ∧ x < 100) ∧ q (.val (.str (txt ws))) G
def sp_letters_in : DSp := fun ds G q _ => ∃ (p : Int) (d : D), ds = [.int p, d] ∧ Pr p ∧ OkV d ∧ q (.val (optD (linD p d))) G
def sp_without_zeros : DSp := fun ds G q _ => ∃ ws : List Int, ds = [pt ws] ∧ ws.length ≤ 60 ∧ q (.val (pt (bare ws))) G
def sp__law_wd_bare : DSp := sp_without_zeros
def sp_Branch_eq : DSp := fun ds G q _ => ∃ (p : Int) (ws : List Int) (s : Str), ds = [br p ws s, br p ws s] ∧ q (.val (.bl true)) G
def sp_Branch_str : DSp := fun ds G q _ => ∃ (p : Int) (ws : List Int) (s : Str), ds = [br p ws s] ∧ s.length ≤ 1010 ∧ q (.val (.str s)) G
def sp__law_wd_is_point : DSp := fun ds G q _ => ∃ (p : Int) (ws : List Int), ds = [.int p, pt ws] ∧ Pr p ∧ ws.length ≤ 1000 ∧ q (.val (.bl (ptb p ws))) G
def sp__law_wd_is_word : DSp := fun ds G q _ => ∃ (p : Int) (ws : List Int), ds = [.int p, pt ws] ∧ Pr p ∧ ws.length ≤ 1000 ∧ q (.val (.bl (ptb p ws && wdb ws))) G
def sp__law_own_read : DSp := fun ds G q _ => ∃ (p : Int) (s : Str), ds = [.int p, .str s] ∧ Pr p ∧ OkS s ∧ res q G (lin p s)
def sp__law_bent : DSp := fun ds G q _ => ∃ (a : Addr) (R : Reg) (s : Str), ds = [.ref a, .str s] ∧ Dice a R G ∧ strOkC s = true ∧ s.length ≤ 190 ∧ ∀ (t : Str) G', OkS t → Dice a R G' → q (.val (.str t)) G'
def sp_read_point : DSp := fun ds G q e => ∃ (p : Int) (d : D), ds = [.int p, d] ∧ Pr p ∧ OkV d ∧ match linD p d with
  | some xs => q (.val (pt xs)) G
  | none => e exP G
def sp_require_point : DSp := fun ds G q _ => ∃ (p : Int) (ws : List Int), ds = [.int p, pt ws] ∧ Pr p ∧ Pt p ws ∧ q (.val .non) G
def sp_require_prime_point : DSp := sp_require_point
def sp_Branch_init : DSpI := fun ds G q e => ∃ (p : Int) (ws : List Int), ds = [.int p, pt ws] ∧ Pr p ∧ Pt p ws ∧ if wdb ws = true then q [.int p, .str (bt p ws), pt ws] G else e exW G
def sp__law_read : DSp := fun ds G q _ => ∃ (p : Int) (d : D), ds = [.int p, d] ∧ Pr p ∧ OkV d ∧ res q G (linD p d)
def sp_point_text : DSp := fun ds G q _ => ∃ (p : Int) (ws : List Int), ds = [.int p, pt ws] ∧ Pr p ∧ Pt p ws ∧ q (.val (.str (txt ws))) G
def sp_word_through : DSp := fun ds G q e => ∃ (p : Int) (ws : List Int), ds = [.int p, pt ws] ∧ Pr p ∧ Pt p ws ∧ if wdb (bare ws) = true then q (.val (pt (bare ws))) G else e exO G
def sp_Branch_read : DSp := fun ds G q e => ∃ (p : Int) (d : D), ds = [.cls "Branch", .int p, d] ∧ Pr p ∧ OkV d ∧ match linD p d with
  | some ws => if wdb ws = true then q (.val (br p ws (bt p ws))) G else e exW G
  | none => e exP G
def sp__law_through : DSp := fun ds G q _ => ∃ (p : Int) (ws : List Int), ds = [.int p, pt ws] ∧ Pr p ∧ Pt p ws ∧ q (.val (if wdb (bare ws) = true then pt (bare ws) else .str "none")) G
def brW (p : Int) : Option (List Int) → D
  | some ws => if wdb ws = true then br p ws (bt p ws) else .str "word"
  | none => .str "parse 0"
def sp__law_branch : DSp := fun ds G q _ => ∃ (p : Int) (d : D), ds = [.int p, d] ∧ Pr p ∧ OkV d ∧ q (.val (brW p (linD p d))) G
def sp__law_right : DSp := fun ds G q _ => ∃ (a : Addr) (R : Reg), ds = [.ref a] ∧ Dice a R G ∧ ∀ G', Dice a R G' → q (.val (.bl true)) G'
def sp_law : DSp := fun ds G q _ => ∃ ns : List Int, ds = [.scr ns] ∧ ns.length ≤ 63 ∧ ∀ G', q (.val (.bl true)) G'
theorem len_ends_as_word : ∀ ds G q e, sp_ends_as_word ds G q e → ds.length = 1 := fun ds G q e ⟨_, h, _⟩ => by rw [h]; rfl
theorem len_letters_text : ∀ ds G q e, sp_letters_text ds G q e → ds.length = 1 := fun ds G q e ⟨_, h, _⟩ => by rw [h]; rfl
theorem len__law_wd_text : ∀ ds G q e, sp__law_wd_text ds G q e → ds.length = 1 := fun ds G q e ⟨_, h, _⟩ => by rw [h]; rfl
theorem len_letters_in : ∀ ds G q e, sp_letters_in ds G q e → ds.length = 2 := fun ds G q e ⟨_, _, h, _⟩ => by rw [h]; rfl
theorem len_without_zeros : ∀ ds G q e, sp_without_zeros ds G q e → ds.length = 1 := fun ds G q e ⟨_, h, _⟩ => by rw [h]; rfl
theorem len__law_wd_bare : ∀ ds G q e, sp__law_wd_bare ds G q e → ds.length = 1 := len_without_zeros
theorem len_Branch_eq : ∀ ds G q e, sp_Branch_eq ds G q e → ds.length = 2 := fun ds G q e ⟨_, _, _, h, _⟩ => by rw [h]; rfl
theorem len_Branch_str : ∀ ds G q e, sp_Branch_str ds G q e → ds.length = 1 := fun ds G q e ⟨_, _, _, h, _⟩ => by rw [h]; rfl
theorem len__law_wd_is_point : ∀ ds G q e, sp__law_wd_is_point ds G q e → ds.length = 2 := fun ds G q e ⟨_, _, h, _⟩ => by rw [h]; rfl
theorem len__law_wd_is_word : ∀ ds G q e, sp__law_wd_is_word ds G q e → ds.length = 2 := fun ds G q e ⟨_, _, h, _⟩ => by rw [h]; rfl
theorem len__law_own_read : ∀ ds G q e, sp__law_own_read ds G q e → ds.length = 2 := fun ds G q e ⟨_, _, h, _⟩ => by rw [h]; rfl
theorem len__law_bent : ∀ ds G q e, sp__law_bent ds G q e → ds.length = 2 := fun ds G q e ⟨_, _, _, h, _⟩ => by rw [h]; rfl
theorem len_read_point : ∀ ds G q e, sp_read_point ds G q e → ds.length = 2 := fun ds G q e ⟨_, _, h, _⟩ => by rw [h]; rfl
theorem len_require_point : ∀ ds G q e, sp_require_point ds G q e → ds.length = 2 := fun ds G q e ⟨_, _, h, _⟩ => by rw [h]; rfl
theorem len_require_prime_point : ∀ ds G q e, sp_require_prime_point ds G q e → ds.length = 2 := len_require_point
theorem len_Branch_init : ∀ ds G q e, sp_Branch_init ds G q e → ds.length + 1 = 3 := fun ds G q e ⟨_, _, h, _⟩ => by rw [h]; rfl
theorem len__law_read : ∀ ds G q e, sp__law_read ds G q e → ds.length = 2 := fun ds G q e ⟨_, _, h, _⟩ => by rw [h]; rfl
theorem len_point_text : ∀ ds G q e, sp_point_text ds G q e → ds.length = 2 := fun ds G q e ⟨_, _, h, _⟩ => by rw [h]; rfl
theorem len_word_through : ∀ ds G q e, sp_word_through ds G q e → ds.length = 2 := fun ds G q e ⟨_, _, h, _⟩ => by rw [h]; rfl
theorem len_Branch_read : ∀ ds G q e, sp_Branch_read ds G q e → ds.length = 3 := fun ds G q e ⟨_, _, h, _⟩ => by rw [h]; rfl
theorem len__law_through : ∀ ds G q e, sp__law_through ds G q e → ds.length = 2 := fun ds G q e ⟨_, _, h, _⟩ => by rw [h]; rfl
theorem len__law_branch : ∀ ds G q e, sp__law_branch ds G q e → ds.length = 2 := fun ds G q e ⟨_, _, h, _⟩ => by rw [h]; rfl
theorem len__law_right : ∀ ds G q e, sp__law_right ds G q e → ds.length = 1 := fun ds G q e ⟨_, _, h, _⟩ => by rw [h]; rfl
theorem len_law : ∀ ds G q e, sp_law ds G q e → ds.length = 1 := fun ds G q e ⟨_, h, _⟩ => by rw [h]; rfl
theorem law_holds : ∀ ns : List Int, ns.length ≤ 63 → sp_law [.scr ns] [] (fun r _ => r = .val (.bl true)) fun _ _ => False := fun ns hn => ⟨ns, rfl, hn, fun _ => rfl⟩
end K09

set_option Elab.async false
set_option maxRecDepth 100000
set_option maxHeartbeats 4000000
/-! K09: the plain readings (printed by gen5.py) -/
namespace K09
open PySem PySem.Spec PyProof.Rows L2 L3 LD LN LP
def t_ends_as_word (dw : Exc3 → Reg → Prop) : DSt :=
  (dRet (dOrV (dOp (oIn false) (dVar 0) (dTup (dCons (dTup dNil) (dCons (dTup (dCons (dC (.int (-1))) dNil)) dNil)))) (dOp oGt (dOp oIx (dVar 0) (dUn uNeg (dC (.int (1))))) (dC (.int (0))))))
def t_letters_text (dw : Exc3 → Reg → Prop) : DSt :=
  (dSeq (dIfS (dTest (dOp oEq (dVar 0) (dTup dNil))) (dRet (dC (.str "."))) dNext)
    (dRet (dJoin (dC (.str " ")) (dLc (dIter (dVar 0)) (gNm 1) dYes (dIf (dTest (dOp oEq (dVar 1) (dC (.int (-1))))) (dC (.str "t")) (dCB bStr (dPCons (dVar 1) dNil))) [1]))))
def t_letters_in (dw : Exc3 → Reg → Prop) : DSt :=
  (dSeq (dIfS (dNot (dTest (dCB (bIsiA ["Branch"] ["Branch"] [(("Branch", "Branch"), true)]) (dPCons (dVar 1) (dPCons (dC (.ty "str")) dNil))))) (dRet (dC .non)) dNext)
    (dSeq (dIfS (dTest (dOp oEq (dVar 1) (dC (.str ".")))) (dRet (dTup dNil)) dNext)
    (dSeq (dSet 2 (dDc (.dcK [] []) (dRng1 (dCons (dVar 0) dNil)) (gNm 4) dYes (dCB bStr (dPCons (dVar 4) dNil)) (dVar 4) [4]))
    (dSeq (dStoreU 2 (dC (.int (-1))) (dC (.str "t")))
    (dSeq (dSet 3 (dSplit (dVar 1) (dC (.str " "))))
    (dSeq (dIfS (dOr (dTest (dOp oGt (dCB bLenU (dPCons (dVar 3) dNil)) (dC (.int (60))))) (dNot (dTest (dCB bAll (dPCons (dLc (dIterU (dVar 3)) (gNm 5) dYes (dOp (oInU false) (dVar 5) (dVar 2)) [5]) dNil))))) (dRet (dC .non)) dNext)
    (dRet (dCB bTuple (dPCons (dLc (dIterU (dVar 3)) (gNm 5) dYes (dOp oIxU (dVar 2) (dVar 5)) [5]) dNil)))))))))
def t_without_zeros (dw : Exc3 → Reg → Prop) : DSt :=
  (dSeq (dSet 1 (dCB bLen (dPCons (dVar 0) dNil)))
    (dSeq (dWhile (dAnd (dTest (dOp oGt (dVar 1) (dC (.int (0))))) (dTest (dOp oEq (dOp oIx (dVar 0) (dOp oSub (dVar 1) (dC (.int (1))))) (dC (.int (0)))))) (dAug 1 oSub (dC (.int (1)))))
    (dRet (dSl oSl (dVar 0) dNoPart (dPart (dVar 1))))))
def t_Branch_eq (dw : Exc3 → Reg → Prop) : DSt :=
  (dSeq (dIfS (dNot (dTest (dCB (bIsiA ["Branch"] ["Branch"] [(("Branch", "Branch"), true)]) (dPCons (dVar 1) (dPCons (dC (.cls "Branch")) dNil))))) (dRet (dC (.bl false))) dNext)
    (dRet (dAndV (dOp oEq (dAttr [("Branch", 0)] (dVar 0)) (dAttr [("Branch", 0)] (dVar 1))) (dOp oEq (dAttr [("Branch", 2)] (dVar 0)) (dAttr [("Branch", 2)] (dVar 1))))))
def t_Branch_str (dw : Exc3 → Reg → Prop) : DSt :=
  (dRet (dUn uFmt (dAttr [("Branch", 1)] (dVar 0))))
def t__law_wd_is_point (dw : Exc3 → Reg → Prop) : DSt :=
  (dSeq (dIfS (dOr (dNot (dTest (dCB (bIsiA ["Branch"] ["Branch"] [(("Branch", "Branch"), true)]) (dPCons (dVar 1) (dPCons (dC (.ty "tuple")) dNil))))) (dTest (dOp oGt (dCB bLen (dPCons (dVar 1) dNil)) (dC (.int (60)))))) (dRet (dC (.bl false))) dNext)
    (dSeq (dSet 2 (dLc (dIter (dVar 1)) (gNm 3) (dOr (dNot (dTest (dCB (bIsiA ["Branch"] ["Branch"] [(("Branch", "Branch"), true)]) (dPCons (dVar 3) (dPCons (dC (.ty "int")) dNil))))) (dOr (dTest (dCB (bIsiA ["Branch"] ["Branch"] [(("Branch", "Branch"), true)]) (dPCons (dVar 3) (dPCons (dC (.ty "bool")) dNil)))) (dNot (dTest (dChain oLe oLt (dUn uNeg (dC (.int (1)))) (dVar 3) (dVar 0)))))) (dVar 3) [3]))
    (dRet (dOp oEq (dVar 2) (dLst dNil)))))
def t__law_wd_text (dw : Exc3 → Reg → Prop) : DSt :=
  (dSeq (dSet 1 (dLc (dIter (dVar 0)) (gNm 2) dYes (dIf (dTest (dOp oEq (dVar 2) (dUn uNeg (dC (.int (1)))))) (dC (.str "t")) (dCB bStr (dPCons (dVar 2) dNil))) [2]))
    (dRet (dIf (dTest (dOp oNe (dVar 1) (dLst dNil))) (dJoin (dC (.str " ")) (dVar 1)) (dC (.str ".")))))
def t__law_wd_bare (dw : Exc3 → Reg → Prop) : DSt :=
  (dSeq (dSet 1 (dCB bLen (dPCons (dVar 0) dNil)))
    (dSeq (dWhile (dAnd (dTest (dOp oGt (dVar 1) (dC (.int (0))))) (dTest (dOp oEq (dOp oIx (dVar 0) (dOp oSub (dVar 1) (dC (.int (1))))) (dC (.int (0)))))) (dSet 1 (dOp oSub (dVar 1) (dC (.int (1))))))
    (dRet (dCB bTuple (dPCons (dSl oSl (dVar 0) dNoPart (dPart (dVar 1))) dNil)))))
def t__law_wd_is_word (dw : Exc3 → Reg → Prop) : DSt :=
  (dRet (dAndV (dCall sp__law_wd_is_point (fun x _ G => dw x G) (dCons (dVar 0) (dCons (dVar 1) dNil))) (dOrV (dOp (oIn false) (dVar 1) (dLst (dCons (dTup dNil) (dCons (dTup (dCons (dUn uNeg (dC (.int (1)))) dNil)) dNil)))) (dOp oGt (dOp oIx (dVar 1) (dUn uNeg (dC (.int (1))))) (dC (.int (0)))))))
def t__law_own_read (dw : Exc3 → Reg → Prop) : DSt :=
  (dSeq (dIfS (dTest (dOp oEq (dVar 1) (dC (.str ".")))) (dRet (dTup dNil)) dNext)
    (dSeq (dSet 2 (dLst dNil))
    (dSeq (dFor (dIter (dSplit (dVar 1) (dC (.str " ")))) (gNm 3) (dSeq (dIfS (dOr (dAnd (dTest (dOp oNe (dVar 3) (dC (.str "t")))) (dTest (dOp oNe (dLc (dIter (dVar 3)) (gNm 5) (dTest (dOp (oIn true) (dVar 5) (dC (.str "0123456789")))) (dVar 5) [5]) (dLst dNil)))) (dNot (dTest (dChain oLe oLe (dC (.int (1))) (dCB bLen (dPCons (dVar 3) dNil)) (dC (.int (2))))))) (dRet (dLst (dCons (dC (.int (0))) dNil))) dNext)
    (dDrop (dApp 2 (dIf (dTest (dOp oEq (dVar 3) (dC (.str "t")))) (dUn uNeg (dC (.int (1)))) (dCB bIntS (dPCons (dVar 3) dNil)))))))
    (dSeq (dSet 4 (dAndV (dOp oEq (dCall sp__law_wd_text (fun x _ G => dw x G) (dCons (dCB bTuple (dPCons (dVar 2) dNil)) dNil)) (dVar 1)) (dCall sp__law_wd_is_point (fun x _ G => dw x G) (dCons (dVar 0) (dCons (dCB bTuple (dPCons (dVar 2) dNil)) dNil)))))
    (dRet (dIf (dTest (dVar 4)) (dCB bTuple (dPCons (dVar 2) dNil)) (dLst (dCons (dC (.int (0))) dNil))))))))
def t__law_bent (dw : Exc3 → Reg → Prop) : DSt :=
  (dSeq (dPar 2 3 (dCall sp__law_roll (fun x _ G => dw x G) (dCons (dVar 0) (dCons (dOp oAdd (dCB bLen (dPCons (dVar 1) dNil)) (dC (.int (1)))) dNil))) (dOp oIx (dC (.str "t 0123.")) (dCall sp__law_roll (fun x _ G => dw x G) (dCons (dVar 0) (dCons (dC (.int (7))) dNil)))))
    (dRet (dOp oAdd (dSl oSlS (dVar 1) dNoPart (dPart (dVar 2))) (dOp oIx (dLst (dCons (dOp oAdd (dVar 3) (dSl oSlS (dVar 1) (dPart (dVar 2)) dNoPart)) (dCons (dSl oSlS (dVar 1) (dPart (dOp oAdd (dVar 2) (dC (.int (1))))) dNoPart) (dCons (dOp oAdd (dVar 3) (dSl oSlS (dVar 1) (dPart (dOp oAdd (dVar 2) (dC (.int (1))))) dNoPart)) dNil)))) (dCall sp__law_roll (fun x _ G => dw x G) (dCons (dVar 0) (dCons (dC (.int (3))) dNil)))))))
def t_read_point (dw : Exc3 → Reg → Prop) : DSt :=
  (dSeq (dDrop (dCall sp_require_prime (fun x _ G => dw x G) (dCons (dVar 0) dNil)))
    (dSeq (dSet 2 (dCall sp_letters_in (fun x _ G => dw x G) (dCons (dVar 0) (dCons (dVar 1) dNil))))
    (dSeq (dIfS (dTest (dOp (oIs false) (dVar 2) (dC .non))) (dRaise1 (fun x _ G => dw x G) "ParseError" "index" (dCons (dC (.int (0))) dNil)) dNext)
    (dRet (dVar 2)))))
def t_require_point (dw : Exc3 → Reg → Prop) : DSt :=
  (dIfS (dNot (dTest (dCall sp_are_letters (fun x _ G => dw x G) (dCons (dVar 0) (dCons (dVar 1) dNil))))) dNever dNext)
def t_Branch_init (dw : Exc3 → Reg → Prop) : DSt :=
  (dSeq (dDrop (dCall sp_require_prime (fun x _ G => dw x G) (dCons (dVar 1) dNil)))
    (dSeq (dIfS (dOr (dNot (dTest (dCall sp_are_letters (fun x _ G => dw x G) (dCons (dVar 1) (dCons (dVar 2) dNil))))) (dNot (dTest (dCall sp_ends_as_word (fun x _ G => dw x G) (dCons (dVar 2) dNil))))) (dRaise (fun x _ G => dw x G) "InvalidWord") dNext)
    (dSeq (dSetA [("Branch", 0)] (dVar 1))
    (dSeq (dSetA [("Branch", 2)] (dVar 2))
    (dSetA [("Branch", 1)] (dFstr [(dUn uFmt (dCall sp_letters_text (fun x _ G => dw x G) (dCons (dVar 2) dNil))), (dC (.str " over ")), (dUn uFmt (dVar 1))]))))))
def t__law_read (dw : Exc3 → Reg → Prop) : DSt :=
  (dTry [(("InvalidOperation", "ParseError"), false), (("InvalidPoint", "ParseError"), false), (("InvalidPrime", "ParseError"), false), (("InvalidWord", "ParseError"), false), (("ParseError", "ParseError"), true)] (fun x _ G => dw x G) (fun dw2 => (dRet (dCall sp_read_point dw2 (dCons (dVar 0) (dCons (dVar 1) dNil))))) [("ParseError", some 2, fun a x => (dRet (dLst (dCons (dXf [("ParseError", "index")] a x "index" (dVar 2)) dNil))))])
def t_require_prime_point (dw : Exc3 → Reg → Prop) : DSt :=
  (dSeq (dDrop (dCall sp_require_prime (fun x _ G => dw x G) (dCons (dVar 0) dNil)))
    (dDrop (dCall sp_require_point (fun x _ G => dw x G) (dCons (dVar 0) (dCons (dVar 1) dNil)))))
def t_point_text (dw : Exc3 → Reg → Prop) : DSt :=
  (dSeq (dDrop (dCall sp_require_prime_point (fun x _ G => dw x G) (dCons (dVar 0) (dCons (dVar 1) dNil))))
    (dRet (dCall sp_letters_text (fun x _ G => dw x G) (dCons (dVar 1) dNil))))
def t_word_through (dw : Exc3 → Reg → Prop) : DSt :=
  (dSeq (dDrop (dCall sp_require_prime_point (fun x _ G => dw x G) (dCons (dVar 0) (dCons (dVar 1) dNil))))
    (dSeq (dSet 2 (dCall sp_without_zeros (fun x _ G => dw x G) (dCons (dVar 1) dNil)))
    (dSeq (dIfS (dNot (dTest (dCall sp_ends_as_word (fun x _ G => dw x G) (dCons (dVar 2) dNil)))) (dRaise (fun x _ G => dw x G) "InvalidOperation") dNext)
    (dRet (dVar 2)))))
def t_Branch_read (dw : Exc3 → Reg → Prop) : DSt :=
  (dRet (dMakeV "Branch" 0 sp_Branch_init (fun x _ G => dw x G) (dCons (dVar 1) (dCons (dCall sp_read_point (fun x _ G => dw x G) (dCons (dVar 1) (dCons (dVar 2) dNil))) dNil))))
def t__law_through (dw : Exc3 → Reg → Prop) : DSt :=
  (dTry [(("InvalidOperation", "InvalidOperation"), true), (("InvalidPoint", "InvalidOperation"), false), (("InvalidPrime", "InvalidOperation"), false), (("InvalidWord", "InvalidOperation"), false), (("ParseError", "InvalidOperation"), false)] (fun x _ G => dw x G) (fun dw2 => (dRet (dCall sp_word_through dw2 (dCons (dVar 0) (dCons (dVar 1) dNil))))) [("InvalidOperation", none, fun a x => (dRet (dC (.str "none"))))])
def t__law_branch (dw : Exc3 → Reg → Prop) : DSt :=
  (dTry [(("InvalidOperation", "ParseError"), false), (("InvalidOperation", "InvalidWord"), false), (("InvalidPoint", "ParseError"), false), (("InvalidPoint", "InvalidWord"), false), (("InvalidPrime", "ParseError"), false), (("InvalidPrime", "InvalidWord"), false), (("InvalidWord", "ParseError"), false), (("InvalidWord", "InvalidWord"), true), (("ParseError", "ParseError"), true), (("ParseError", "InvalidWord"), false)] (fun x _ G => dw x G) (fun dw2 => (dRet (dCMeth "Branch" sp_Branch_read dw2 (dC (.cls "Branch")) (dCons (dVar 0) (dCons (dVar 1) dNil))))) [("ParseError", some 2, fun a x => (dRet (dOp oAdd (dC (.str "parse ")) (dCB bReprG (dPCons (dXf [("ParseError", "index")] a x "index" (dVar 2)) dNil))))), ("InvalidWord", none, fun a x => (dRet (dC (.str "word"))))])
def t__law_right (dw : Exc3 → Reg → Prop) : DSt :=
  (dSeq (dSet 1 (dCall sp__law_pick (fun x _ G => dw x G) (dCons (dVar 0) (dCons (dLst (dCons (dC (.int (2))) (dCons (dC (.int (3))) (dCons (dC (.int (5))) (dCons (dC (.int (11))) (dCons (dC (.int (13))) (dCons (dC (.int (31))) dNil))))))) dNil))))
    (dSeq (dSet 2 (dCall sp__law_point_drawn (fun x _ G => dw x G) (dCons (dVar 0) (dCons (dVar 1) (dCons (dCall sp__law_pick (fun x _ G => dw x G) (dCons (dVar 0) (dCons (dLst (dCons (dC (.int (2))) (dCons (dC (.int (6))) (dCons (dC (.int (60))) dNil)))) dNil))) dNil)))))
    (dSeq (dPar 3 4 (dCall sp__law_wd_text (fun x _ G => dw x G) (dCons (dVar 2) dNil)) (dCall sp__law_wd_bare (fun x _ G => dw x G) (dCons (dVar 2) dNil)))
    (dSeq (dIfS (dOr (dTest (dOp oNe (dCall sp_point_text (fun x _ G => dw x G) (dCons (dVar 1) (dCons (dVar 2) dNil))) (dVar 3))) (dTest (dOp oNe (dCall sp__law_read (fun x _ G => dw x G) (dCons (dVar 1) (dCons (dVar 3) dNil))) (dVar 2)))) (dRet (dC (.bl false))) dNext)
    (dSeq (dSet 5 (dIf (dTest (dCall sp__law_wd_is_word (fun x _ G => dw x G) (dCons (dVar 1) (dCons (dVar 4) dNil)))) (dVar 4) (dC (.str "none"))))
    (dSeq (dIfS (dTest (dOp oNe (dCall sp__law_through (fun x _ G => dw x G) (dCons (dVar 1) (dCons (dVar 2) dNil))) (dVar 5))) (dRet (dC (.bl false))) dNext)
    (dSeq (dFor (dRng1 (dCons (dC (.int (5))) dNil)) (gNm 6) (dSeq (dSet 7 (dCall sp__law_bent (fun x _ G => dw x G) (dCons (dVar 0) (dCons (dVar 3) dNil))))
    (dSeq (dIfS (dTest (dOp oNe (dCB bReprG (dPCons (dCall sp__law_read (fun x _ G => dw x G) (dCons (dVar 1) (dCons (dVar 7) dNil))) dNil)) (dCB bReprG (dPCons (dCall sp__law_own_read (fun x _ G => dw x G) (dCons (dVar 1) (dCons (dVar 7) dNil))) dNil)))) (dRet (dC (.bl false))) dNext)
    (dSeq (dPar 8 9 (dCall sp__law_branch (fun x _ G => dw x G) (dCons (dVar 1) (dCons (dVar 7) dNil))) (dCall sp__law_own_read (fun x _ G => dw x G) (dCons (dVar 1) (dCons (dVar 7) dNil))))
    (dSeq (dIfS (dAnd (dTest (dCB (bIsiA ["Branch"] ["Branch"] [(("Branch", "Branch"), true)]) (dPCons (dVar 9) (dPCons (dC (.ty "list")) dNil)))) (dTest (dOp oNe (dVar 8) (dC (.str "parse 0"))))) (dRet (dC (.bl false))) dNext)
    (dSeq (dSet 10 (dAndV (dCB (bIsiA ["Branch"] ["Branch"] [(("Branch", "Branch"), true)]) (dPCons (dVar 9) (dPCons (dC (.ty "tuple")) dNil))) (dCall sp__law_wd_is_word (fun x _ G => dw x G) (dCons (dVar 1) (dCons (dVar 9) dNil)))))
    (dIfS (dOr (dAnd (dTest (dVar 10)) (dTest (dNeO "Branch" sp_Branch_eq (dVar 8) (dMake "Branch" sp_Branch_init (dCons (dVar 1) (dCons (dVar 9) dNil)))))) (dAnd (dTest (dCB (bIsiA ["Branch"] ["Branch"] [(("Branch", "Branch"), true)]) (dPCons (dVar 9) (dPCons (dC (.ty "tuple")) dNil)))) (dAnd (dNot (dTest (dVar 10))) (dTest (dOp oNe (dVar 8) (dC (.str "word"))))))) (dRet (dC (.bl false))) dNext)))))))
    (dSeq (dSet 11 (dCall sp__law_pick (fun x _ G => dw x G) (dCons (dVar 0) (dCons (dLst (dCons (dC .non) (dCons (dC (.int (0))) (dCons (dTup dNil) (dCons (dTup (dCons (dC (.int (0))) (dCons (dC (.int (1))) dNil))) (dCons (dC (.str "")) (dCons (dC (.str " ")) (dCons (dC (.str "0  1")) (dCons (dC (.str "0 1 ")) (dCons (dC (.str "T")) (dCons (dC (.str "t1")) (dCons (dC (.str "01")) (dCons (dC (.str "-1")) (dCons (dC (.str "1,2")) (dCons (dC (.str "0 t .")) dNil))))))))))))))) dNil))))
    (dRet (dAndV (dOp oEq (dCall sp__law_read (fun x _ G => dw x G) (dCons (dVar 1) (dCons (dVar 11) dNil))) (dLst (dCons (dC (.int (0))) dNil))) (dOp oEq (dCall sp__law_branch (fun x _ G => dw x G) (dCons (dVar 1) (dCons (dVar 11) dNil))) (dC (.str "parse 0")))))))))))))
def t_law (dw : Exc3 → Reg → Prop) : DSt :=
  (dSeq (dFor (dRng1 (dCons (dCB bMax (dPCons (dC (.int (1))) (dPCons (dCB bMin (dPCons (dC (.int (4))) (dPCons (dCB bLen (dPCons (dVar 0) dNil)) dNil))) dNil))) dNil)) (gNm 1) (dSeq (dSetReg 2 (dCall sp__law_dice (fun x _ G => dw x G) (dCons (dVar 0) (dCons (dVar 1) dNil))))
    (dFor (dRng1 (dCons (dC (.int (2))) dNil)) (gNm 3) (dIfS (dNot (dTest (dCall sp__law_right (fun x _ G => dw x G) (dCons (dVar 2) dNil)))) (dRet (dC (.bl false))) dNext))))
    (dSeq (dSet 4 (dLst (dCons (dCall sp_point_text (fun x _ G => dw x G) (dCons (dC (.int (11))) (dCons (dTup (dCons (dC (.int (10))) (dCons (dUn uNeg (dC (.int (1)))) dNil))) dNil))) (dCons (dCall sp_read_point (fun x _ G => dw x G) (dCons (dC (.int (3))) (dCons (dC (.str "t t 0")) dNil))) (dCons (dCall sp_word_through (fun x _ G => dw x G) (dCons (dC (.int (3))) (dCons (dTup (dCons (dC (.int (1))) (dCons (dC (.int (2))) (dCons (dC (.int (0))) (dCons (dC (.int (0))) dNil))))) dNil))) (dCons (dCall sp_word_through (fun x _ G => dw x G) (dCons (dC (.int (3))) (dCons (dTup (dCons (dUn uNeg (dC (.int (1)))) (dCons (dC (.int (0))) dNil))) dNil))) dNil))))))
    (dSeq (dIfS (dOr (dTest (dOp oNe (dVar 4) (dLst (dCons (dC (.str "10 t")) (dCons (dTup (dCons (dUn uNeg (dC (.int (1)))) (dCons (dUn uNeg (dC (.int (1)))) (dCons (dC (.int (0))) dNil)))) (dCons (dTup (dCons (dC (.int (1))) (dCons (dC (.int (2))) dNil))) (dCons (dTup (dCons (dUn uNeg (dC (.int (1)))) dNil)) dNil))))))) (dTest (dOp oNe (dCall sp__law_through (fun x _ G => dw x G) (dCons (dC (.int (3))) (dCons (dTup (dCons (dC (.int (1))) (dCons (dUn uNeg (dC (.int (1)))) (dCons (dC (.int (0))) dNil)))) dNil))) (dC (.str "none"))))) (dRet (dC (.bl false))) dNext)
    (dRet (dAndV (dOp oEq (dCall sp__law_read (fun x _ G => dw x G) (dCons (dC (.int (3))) (dCons (dC (.str "0 3")) dNil))) (dLst (dCons (dC (.int (0))) dNil))) (dAndV (dOp oEq (dCall sp__law_branch (fun x _ G => dw x G) (dCons (dC (.int (3))) (dCons (dC (.str "0 t")) dNil))) (dC (.str "word"))) (dOp oEq (dStrO "Branch" sp_Branch_str (dPCons (dCMeth "Branch" sp_Branch_read (fun x _ G => dw x G) (dC (.cls "Branch")) (dCons (dC (.int (3))) (dCons (dC (.str ".")) dNil))) dNil)) (dC (.str ". over 3")))))))))
end K09

set_option Elab.async false
set_option maxRecDepth 100000
set_option maxHeartbeats 4000000
/-! K09: texts of points, plainly -/
namespace K09
open PySem PySem.Spec PyProof.Rows L2 L3 LD LN LP
open TL (spl joinL tl)
theorem spl_back : ∀ (l acc : List Nat), spl [32] 0 acc l ≠ [] ∧ joinL [32] (spl [32] 0 acc l) = acc ++ l
  | [], acc => by
    rw [TL.spl_nil]
    exact ⟨by simp, by rw [List.append_nil]; rfl⟩
  | c :: r, acc => by
    by_cases h : c = 32
    · subst h
      rw [TL.spl_hit (show TL.pre [32] (32 :: r) = true from rfl)]
      obtain ⟨h1, h2⟩ := spl_back r []
      refine ⟨by simp, ?_⟩
      show joinL [32] (acc :: spl [32] 0 [] r) = _
      cases hs : spl [32] 0 [] r with
      | nil => exact absurd hs h1
      | cons q t =>
        rw [hs] at h2
        show acc ++ ([32] ++ joinL [32] (q :: t)) = _
        rw [h2]; rfl
    · rw [TL.spl_miss (TL.pre_of_head [] r h)]
      obtain ⟨h1, h2⟩ := spl_back r (acc ++ [c])
      exact ⟨h1, by rw [h2, List.append_assoc]; rfl⟩
theorem spl_mem : ∀ (l acc : List Nat), ∀ p ∈ spl [32] 0 acc l, (∀ c ∈ p, c ∈ acc ∨ c ∈ l) ∧ p.length ≤ acc.length + l.length
  | [], acc => by
    rw [TL.spl_nil]
    intro p hp
    rw [List.mem_singleton.mp hp]
    exact ⟨fun c hc => .inl hc, by simp⟩
  | c :: r, acc => by
    by_cases h : c = 32
    · subst h
      rw [TL.spl_hit (show TL.pre [32] (32 :: r) = true from rfl)]
      intro p hp
      rcases List.mem_cons.mp hp with rfl | hp
      · exact ⟨fun c hc => .inl hc, by rw [List.length_cons]; omega⟩
      · obtain ⟨h1, h2⟩ := spl_mem r [] p hp
        exact ⟨fun c hc => .inr (List.mem_cons_of_mem _ ((h1 c hc).resolve_left (fun z => nomatch z))), by rw [List.length_cons]; rw [List.length_nil] at h2; omega⟩
    · rw [TL.spl_miss (TL.pre_of_head [] r h)]
      intro p hp
      obtain ⟨h1, h2⟩ := spl_mem r (acc ++ [c]) p hp
      refine ⟨fun d hd => ?_, by rw [List.length_append, List.length_singleton] at h2; rw [List.length_cons]; omega⟩
      rcases h1 d hd with z | z
      · rcases List.mem_append.mp z with z | z
        · exact .inl z
        · rw [List.mem_singleton.mp z]; exact .inr List.mem_cons_self
      · exact .inr (List.mem_cons_of_mem _ z)
theorem spl_many : ∀ (l acc : List Nat), (spl [32] 0 acc l).length ≤ l.length + 1
  | [], acc => by rw [TL.spl_nil]; simp
  | c :: r, acc => by
    by_cases h : c = 32
    · subst h
      rw [TL.spl_hit (show TL.pre [32] (32 :: r) = true from rfl)]
      have := spl_many r []
      show (spl [32] 0 [] r).length + 1 ≤ _
      rw [List.length_cons]; omega
    · rw [TL.spl_miss (TL.pre_of_head [] r h)]
      have := spl_many r (acc ++ [c])
      rw [List.length_cons]; omega
theorem ey : tl (" " : Str) = 32 :: [] := by decide
theorem tls (s : Str) : (Txt.split s " ").map tl = spl [32] 0 [] (tl s) := by
  rw [TL.split_spl s " " (by rw [ey]; simp) (TL.kind_ok (by decide +kernel)), ey]
theorem split_ne (s : Str) : Txt.split s " " ≠ [] := fun e => by
  have := tls s
  rw [e] at this
  exact (spl_back (tl s) []).1 this.symm
theorem join_back (s : Str) : Txt.join " " (Txt.split s " ") = s := by
  rw [TL.join_eq]
  refine TL.ext_tl ?_
  rw [TL.tl_join, tls, ey, (spl_back (tl s) []).2]; rfl
theorem split_many (s : Str) : (Txt.split s " ").length ≤ s.length + 1 := by
  have := congrArg List.length (tls s)
  rw [List.length_map] at this
  rw [this, TL.len_tl]
  exact spl_many _ _
theorem split_part (s x : Str) (hx : x ∈ Txt.split s " ") : (∀ c ∈ tl x, c ∈ tl s) ∧ x.length ≤ s.length := by
  have : tl x ∈ spl [32] 0 [] (tl s) := by rw [← tls]; exact List.mem_map_of_mem hx
  obtain ⟨h1, h2⟩ := spl_mem _ _ _ this
  refine ⟨fun c hc => (h1 c hc).resolve_left (fun z => nomatch z), ?_⟩
  rw [List.length_nil, ← TL.len_tl, ← TL.len_tl] at h2; omega
theorem split_ok {s x : Str} (h : strOkC s = true) (hx : x ∈ Txt.split s " ") : strOkC x = true := by
  refine List.all_eq_true.mpr fun c hc => ?_
  exact List.all_eq_true.mp h c ((split_part s x hx).1 c hc)
def figs : Str := "0123456789"
def sok (x : Str) : Bool := (decide (x = "t") || x.cps.toList.all fun c => decide (c ∈ figs.cps.toList)) && (decide (1 ≤ x.length) && decide (x.length ≤ 2))
def sval (x : Str) : Int := if x = "t" then -1 else (PySem.intText? x).getD 0
def chk (x : Str) : Bool := match PySem.intText? x with
  | some v => decide (0 ≤ v) && decide (v < 100)
  | none => false
theorem chk1 : figs.cps.toList.all (fun a => chk ⟨#[a]⟩) = true := by decide +kernel
theorem chk2 : figs.cps.toList.all (fun a => figs.cps.toList.all fun b => chk ⟨#[a, b]⟩) = true := by decide +kernel
theorem sok_val {x : Str} (h : sok x = true) (ht : x ≠ "t") : ∃ v, PySem.intText? x = some v ∧ 0 ≤ v ∧ v < 100 := by
  unfold sok at h
  rw [decide_eq_false ht, Bool.false_or, Bool.and_eq_true, Bool.and_eq_true] at h
  obtain ⟨h1, h2, h3⟩ := h
  have h2 := of_decide_eq_true h2
  have h3 := of_decide_eq_true h3
  have hc : chk x = true := by
    rw [TL.len_tl] at h2 h3
    have e : x = ⟨(tl x).toArray⟩ := (TL.mk_tl x).symm
    have h1 : ∀ c ∈ tl x, c ∈ figs.cps.toList := fun c hc => of_decide_eq_true (List.all_eq_true.mp h1 c hc)
    rw [e]
    generalize tl x = l at h1 h2 h3
    match l, h1, h2, h3 with
    | [a], h1, _, _ => exact List.all_eq_true.mp chk1 a (h1 a List.mem_cons_self)
    | [a, b], h1, _, _ => exact List.all_eq_true.mp (List.all_eq_true.mp chk2 a (h1 a List.mem_cons_self)) b (h1 b (List.mem_cons_of_mem _ List.mem_cons_self))
  unfold chk at hc
  split at hc
  · rename_i v hv
    rw [Bool.and_eq_true] at hc
    exact ⟨v, hv, of_decide_eq_true hc.1, of_decide_eq_true hc.2⟩
  · cases hc
theorem sval_lim {x : Str} (h : sok x = true) : -1 ≤ sval x ∧ sval x < 100 := by
  unfold sval
  split
  · decide
  · rename_i ht
    obtain ⟨v, hv, h0, h1⟩ := sok_val h ht
    rw [hv]
    show -1 ≤ v ∧ v < 100
    omega
theorem sgn_nat : ∀ n : Nat, n < 101 → strOkC (sgn ((n : Int) - 1)) = true ∧ (sgn ((n : Int) - 1)).length ≤ 2 ∧ 32 ∉ tl (sgn ((n : Int) - 1)) := by decide +kernel
theorem sgn_ok {v : Int} (h0 : -1 ≤ v) (h1 : v < 100) : strOkC (sgn v) = true ∧ (sgn v).length ≤ 2 ∧ 32 ∉ tl (sgn v) := by
  have := sgn_nat (v + 1).toNat (by omega)
  rw [show (((v + 1).toNat : Nat) : Int) - 1 = v by omega] at this
  exact this
theorem sok_nat : ∀ n : Nat, n < 33 → sok (sgn ((n : Int) - 1)) = true ∧ sval (sgn ((n : Int) - 1)) = (n : Int) - 1 := by decide +kernel
theorem sok_sgn {v : Int} (h0 : -1 ≤ v) (h1 : v < 32) : sok (sgn v) = true ∧ sval (sgn v) = v := by
  have := sok_nat (v + 1).toNat (by omega)
  rw [show (((v + 1).toNat : Nat) : Int) - 1 = v by omega] at this
  exact this
theorem knw_all : ∀ p ∈ LN.primes, ∀ v ∈ vals p, knw p (sgn v) = some v := by decide +kernel
theorem vals_iff {p v : Int} : v ∈ vals p ↔ -1 ≤ v ∧ (v < p ∨ v = -1) := by
  unfold vals
  rw [List.mem_append, List.mem_map, List.mem_singleton]
  constructor
  · rintro (⟨k, hk, rfl⟩ | rfl)
    · have := List.mem_range.mp hk
      omega
    · omega
  · rintro ⟨h0, h1⟩
    by_cases z : v = -1
    · exact .inr z
    · exact .inl ⟨v.toNat, List.mem_range.mpr (by omega), by omega⟩
theorem knw_some {p v : Int} {x : Str} (h : knw p x = some v) : v ∈ vals p ∧ sgn v = x := by
  unfold knw at h
  exact ⟨List.mem_of_find?_eq_some h, of_decide_eq_true (List.find?_some (p := fun v => decide (sgn v = x)) h)⟩
def own (p : Int) (s : Str) : Option (List Int) := if s = "." then some [] else
  if (Txt.split s " ").all sok = true then (if txt ((Txt.split s " ").map sval) = s ∧ ptb p ((Txt.split s " ").map sval) = true then some ((Txt.split s " ").map sval) else none) else none
theorem ptb_iff {p : Int} {ws : List Int} : ptb p ws = true ↔ Pt p ws := by
  unfold ptb Pt
  rw [Bool.and_eq_true, decide_eq_true_iff, List.all_eq_true]
  constructor
  · rintro ⟨h1, h2⟩
    exact ⟨h1, fun x hx => by have := h2 x hx; rw [Bool.and_eq_true, decide_eq_true_iff, decide_eq_true_iff] at this; exact this⟩
  · rintro ⟨h1, h2⟩
    exact ⟨h1, fun x hx => by rw [Bool.and_eq_true, decide_eq_true_iff, decide_eq_true_iff]; exact h2 x hx⟩
theorem map_of {p : Int} : ∀ (ps : List Str), (ps.all fun x => (knw p x).isSome) = true → ps = (ps.filterMap (knw p)).map sgn ∧ ∀ v ∈ ps.filterMap (knw p), v ∈ vals p
  | [], _ => ⟨rfl, fun v hv => nomatch hv⟩
  | x :: ps, h => by
    rw [List.all_cons, Bool.and_eq_true] at h
    obtain ⟨v, hv⟩ := Option.isSome_iff_exists.mp h.1
    obtain ⟨h1, h2⟩ := map_of ps h.2
    obtain ⟨k1, k2⟩ := knw_some hv
    rw [List.filterMap_cons_some hv]
    refine ⟨?_, fun w hw => ?_⟩
    · rw [List.map_cons, ← h1, k2]
    · rcases List.mem_cons.mp hw with rfl | hw
      · exact k1
      · exact h2 w hw
theorem back_of {p : Int} (hp : Pr p) : ∀ (xs : List Int), (∀ v ∈ xs, v ∈ vals p) → ((xs.map sgn).all fun x => (knw p x).isSome) = true ∧ (xs.map sgn).filterMap (knw p) = xs
  | [], _ => ⟨rfl, rfl⟩
  | v :: xs, h => by
    obtain ⟨h1, h2⟩ := back_of hp xs fun w hw => h w (List.mem_cons_of_mem _ hw)
    have k := knw_all p hp v (h v List.mem_cons_self)
    rw [List.map_cons, List.all_cons, k, h1, List.filterMap_cons_some k, h2]
    exact ⟨rfl, rfl⟩
theorem vals_lt {p v : Int} (hp : Pr p) (h : v ∈ vals p) : -1 ≤ v ∧ v < 32 ∧ v < p := by
  have := hp.le
  have := vals_iff.mp h
  omega
theorem own_back {p : Int} (hp : Pr p) : ∀ (xs : List Int), (∀ v ∈ xs, v ∈ vals p) → (xs.map sgn).all sok = true ∧ (xs.map sgn).map sval = xs
  | [], _ => ⟨rfl, rfl⟩
  | v :: xs, h => by
    obtain ⟨h1, h2⟩ := own_back hp xs fun w hw => h w (List.mem_cons_of_mem _ hw)
    have l := vals_lt hp (h v List.mem_cons_self)
    have k := sok_sgn l.1 l.2.1
    rw [List.map_cons, List.all_cons, k.1, h1, List.map_cons, k.2, h2]
    exact ⟨rfl, rfl⟩
theorem txt_split {xs : List Int} (hx : xs ≠ []) (h : ∀ v ∈ xs, -1 ≤ v ∧ v < 100) : Txt.split (txt xs) " " = xs.map sgn := by
  unfold txt
  rw [if_neg hx]
  refine TL.split_join ey (by decide +kernel) (fun e => hx (List.map_eq_nil_iff.mp e)) fun q hq => ?_
  obtain ⟨v, hv, rfl⟩ := List.mem_map.mp hq
  exact (sgn_ok (h v hv).1 (h v hv).2).2.2
/-- THE PLAIN LAW: both ways to read a text answer alike -/
theorem own_lin {p : Int} (hp : Pr p) (s : Str) : own p s = lin p s := by
  unfold own lin
  by_cases hs : s = "."
  · rw [if_pos hs, if_pos hs]
  rw [if_neg hs, if_neg hs]
  have hne := split_ne s
  have hj := join_back s
  generalize hps : Txt.split s " " = ps at hne hj
  by_cases h : ps.length ≤ 60 ∧ (ps.all fun x => (knw p x).isSome) = true
  · rw [if_pos h]
    obtain ⟨h1, h2⟩ := map_of ps h.2
    generalize ps.filterMap (knw p) = xs at h1 h2
    obtain ⟨k1, k2⟩ := own_back hp xs h2
    subst h1
    rw [if_pos k1, k2]
    have hx : xs ≠ [] := fun e => hne (by rw [e]; rfl)
    refine if_pos ⟨?_, ?_⟩
    · unfold txt
      rw [if_neg hx]; exact hj
    · rw [ptb_iff]
      refine ⟨by have := h.1; rw [List.length_map] at this; exact this, fun v hv => ?_⟩
      have := vals_lt hp (h2 v hv)
      omega
  · rw [if_neg h]
    by_cases k : ps.all sok = true
    · rw [if_pos k]
      refine if_neg fun ⟨h1, h2⟩ => h ?_
      have h2 := ptb_iff.mp h2
      have hx : ps.map sval ≠ [] := fun e => hne (List.map_eq_nil_iff.mp e)
      have hv : ∀ v ∈ ps.map sval, v ∈ vals p := fun v hv => vals_iff.mpr (by have := h2.2 v hv; omega)
      have e := txt_split hx fun v hv => by have := h2.2 v hv; have := hp.le; omega
      rw [h1, hps] at e
      have := (back_of hp _ hv).1
      rw [← e] at this
      refine ⟨?_, this⟩
      have := h2.1
      rw [List.length_map] at this; exact this
    · rw [if_neg k]
theorem lin_pt {p : Int} (hp : Pr p) {s : Str} {xs : List Int} (h : lin p s = some xs) : Pt p xs := by
  unfold lin at h
  split at h
  · cases h
    exact ⟨by decide, fun x hx => nomatch hx⟩
  · split at h
    · rename_i hs hc
      cases h
      obtain ⟨h1, h2⟩ := map_of _ hc.2
      refine ⟨?_, fun v hv => by have := vals_lt hp (h2 v hv); omega⟩
      have := congrArg List.length h1
      rw [List.length_map] at this
      omega
    · cases h
theorem lin_txt {p : Int} (hp : Pr p) {xs : List Int} (h : Pt p xs) : lin p (txt xs) = some xs := by
  by_cases hx : xs = []
  · subst hx
    exact if_pos rfl
  · have hv : ∀ v ∈ xs, v ∈ vals p := fun v hv => vals_iff.mpr (by have := h.2 v hv; omega)
    have hb := back_of hp xs hv
    have e := txt_split hx fun v hv => by have := h.2 v hv; have := hp.le; omega
    have hd : txt xs ≠ "." := fun z => by
      rw [z] at e
      have e2 : Txt.split ("." : Str) " " = [("." : Str)] := by
        have := TL.split_join ey (by decide +kernel) (parts := [("." : Str)]) (by simp) (fun q hq => by rw [List.mem_singleton.mp hq]; decide)
        exact this
      rw [e2] at e
      rw [← e] at hb
      have := hb.1
      rw [List.all_cons, Bool.and_eq_true] at this
      have h0 : ∀ p ∈ LN.primes, (knw p ".").isSome = false := by decide +kernel
      rw [h0 p hp] at this
      exact absurd this.1 (by decide)
    unfold lin
    rw [if_neg hd, e, if_pos ⟨by rw [List.length_map]; exact h.1, hb.1⟩, hb.2]
end K09

set_option maxRecDepth 100000
set_option maxHeartbeats 4000000
/-! LG0: plain facts: Euclid with remainders of the divisor's sign, generators. -/
namespace LG
theorem fm_pos {a b : Int} (h : 0 < b) : 0 ≤ a.fmod b ∧ a.fmod b < b := ⟨Int.fmod_nonneg_of_pos a h, Int.fmod_lt_of_pos a h⟩
theorem fm_neg {a b : Int} (h : b < 0) : b < a.fmod b ∧ a.fmod b ≤ 0 := by
  have e := Int.neg_fmod_neg (-a) (-b)
  rw [Int.neg_neg, Int.neg_neg] at e
  have := fm_pos (a := -a) (b := -b) (by omega)
  omega
theorem fm_lt {a b : Int} (h : b ≠ 0) : (a.fmod b).natAbs < b.natAbs := by
  rcases Int.lt_or_gt_of_ne h with z | z
  · have := fm_neg (a := a) z; omega
  · have := fm_pos (a := a) z; omega
/-- the common divisor by repeated remainders -/
def eu (a b : Int) : Int := if h : b = 0 then a else eu b (a.fmod b)
termination_by b.natAbs
decreasing_by exact fm_lt h
theorem eu0 (a : Int) : eu a 0 = a := by unfold eu; rw [dif_pos rfl]
theorem eu1 {a b : Int} (h : b ≠ 0) : eu a b = eu b (a.fmod b) := by rw [eu, dif_neg h]
theorem eu_gcd : ∀ (n : Nat) (a b : Int), b.natAbs ≤ n → 0 ≤ a → 0 ≤ b → eu a b = (Int.gcd a b : Int)
  | 0, a, b, hn, ha, hb => by
    have : b = 0 := by omega
    subst this
    rw [eu0, Int.gcd_zero_right]; omega
  | n + 1, a, b, hn, ha, hb => by
    by_cases h : b = 0
    · subst h
      rw [eu0, Int.gcd_zero_right]; omega
    · have q := fm_pos (a := a) (b := b) (by omega)
      rw [eu1 h, eu_gcd n b _ (by omega) hb q.1, Int.gcd_comm a b, Int.fmod_def, Int.gcd_sub_mul_left_right]
theorem eu_eq {a b : Int} (ha : 0 ≤ a) (hb : 0 ≤ b) : eu a b = (Int.gcd a b : Int) := eu_gcd _ a b (Nat.le_refl _) ha hb
theorem eu_pos {a b : Int} (ha : 0 < a) (hb : 0 ≤ b) : 0 < eu a b := by
  rw [eu_eq (by omega) hb]
  have : 0 < Int.gcd a b := Int.gcd_pos_of_ne_zero_left b (by omega)
  omega
/-! ### generators -/
/-- one more generator y: the divisor so far d, the bound w for y * d -/
def stp (p : Int × Int) (y : Int) : Option (Int × Int) := if eu p.1 y < p.1 ∧ p.2 < y * p.1 then some (eu p.1 y, y * p.1) else none
def run : Int × Int → List Int → Option (Int × Int)
  | p, [] => some p
  | p, y :: ys => match stp p y with
    | some p' => run p' ys
    | none => none
def fin1 : Option (Int × Int) → Bool
  | some p => decide (p.1 = 1)
  | none => false
def genI : List Int → Bool
  | [] => false
  | [x] => decide (x = 1)
  | x :: y :: r => decide (2 ≤ x) && decide (x < y) && fin1 (run (x, x * x) (y :: r))
theorem genI2 (x y : Int) (r : List Int) : genI (x :: y :: r) = (decide (2 ≤ x) && decide (x < y) && fin1 (run (x, x * x) (y :: r))) := rfl
theorem run_cons (p : Int × Int) (y : Int) (ys : List Int) : run p (y :: ys) = match stp p y with
    | some p' => run p' ys
    | none => none := rfl
/-- the look at one place: the divisor before, the generator, those behind -/
def look (d v : Int) (ys : List Int) : Bool := decide (eu d v < d) && fin1 (run (eu d v, v * d) ys)
end LG

set_option Elab.async false
set_option maxRecDepth 100000
set_option maxHeartbeats 4000000
set_option exponentiation.threshold 2000
/-! LG: generators judged by the program: what is_integer, common_of, commons_in, are_orders answer on anything. -/
namespace LG
open PySem PySem.Spec PyProof.Rows L2 L3 LD
open LN (pt sh_pt eqv_pt sh_ints eqv_ints)
local macro_rules | `(tactic| walk_at "ev") => `(tactic| repeat (first | refine lc_stop ?_ | refine for_stop ?_ | refine ⟨_, rfl, ?_⟩ | refine ⟨_, _, rfl, ?_⟩ | refine ⟨rfl, ?_⟩ | refine And.intro (by assumption) ?_ | refine ⟨by decide, ?_⟩ | refine ⟨ltL rfl, ?_⟩ | refine ⟨_, at0, ?_⟩ | refine ⟨_, at1, ?_⟩ | refine ⟨_, at2, ?_⟩ | refine ifT ?_ | refine ifF ?_ | refine ⟨_, _, _, rfl, ?_⟩ | refine ⟨⟨_, rfl⟩, ?_⟩ | refine ⟨_, _, _, _, rfl, ?_⟩))
local macro_rules | `(tactic| walk_at "evn") => `(tactic| repeat (first | refine lc_stop ?_ | refine for_stop ?_ | refine ⟨_, rfl, ?_⟩ | refine ⟨_, _, rfl, ?_⟩ | refine ⟨rfl, ?_⟩ | refine And.intro (by assumption) ?_ | refine ⟨_, at0, ?_⟩ | refine ⟨_, at1, ?_⟩ | refine ⟨_, at2, ?_⟩ | refine ifT ?_ | refine ifF ?_ | refine ⟨_, _, _, rfl, ?_⟩ | refine ⟨⟨_, rfl⟩, ?_⟩ | refine ⟨_, _, _, _, rfl, ?_⟩))
/-- of a class that isinstance knows -/
def Kn (d : D) : Prop := ∃ t, tyN d = some t
def isI : D → Bool
  | .int _ => true
  | _ => false
def isN60 : D → Bool
  | .int i => decide (-(10 ^ 60) < i) && decide (i < 10 ^ 60)
  | _ => false
/-- the generators of some branch -/
def gen : D → Bool
  | .tup ds => ds.all isN60 && (match intsOf ds with
    | some ns => genI ns
    | none => false)
  | _ => false
def Lim (i : Int) : Prop := -(10 ^ 60) < i ∧ i < 10 ^ 60
theorem ifND {p : Prop} [Decidable p] {A C : Prop} (h1 : ¬ p → A) (h2 : p → C) : if (!decide p) = true then A else C := by
  by_cases h : p
  · rw [decide_eq_true h]; exact h2 h
  · rw [decide_eq_false h]; exact h1 h
theorem ifNB {b : Bool} {A C : Prop} (h1 : b = false → A) (h2 : b = true → C) : if (!b) = true then A else C := by
  cases b
  · exact h1 rfl
  · exact h2 rfl
/-! ### promises -/
def sp_is_whole : DSp := fun ds G q _ => ∃ d, ds = [d] ∧ Kn d ∧ q (.val (.bl (isI d))) G
def sp_is_integer : DSp := fun ds G q _ => ∃ d, ds = [d] ∧ Kn d ∧ q (.val (.bl (isN60 d))) G
theorem len_is_whole : ∀ ds G q e, sp_is_whole ds G q e → ds.length = 1 := fun ds G q e ⟨_, h, _⟩ => by rw [h]; rfl
theorem len_is_integer : ∀ ds G q e, sp_is_integer ds G q e → ds.length = 1 := fun ds G q e ⟨_, h, _⟩ => by rw [h]; rfl
def t_is_whole (dw : Exc3 → Reg → Prop) : DSt :=
  (dRet (dAndV (dCB bIsi (dPCons (dVar 0) (dPCons (dC (.ty "int")) dNil))) (dNotV (dCB bIsi (dPCons (dVar 0) (dPCons (dC (.ty "bool")) dNil))))))
def t_is_integer (dw : Exc3 → Reg → Prop) : DSt :=
  (dRet (dAndV (dCall sp_is_whole (fun x _ G => dw x G) (dCons (dVar 0) dNil)) (dChain oLt oLt (dUn uNeg (dC (.int (1000000000000000000000000000000000000000000000000000000000000)))) (dVar 0) (dC (.int (1000000000000000000000000000000000000000000000000000000000000))))))
theorem p_is_whole (N : List Str) (hN : N.length = 1) : ∀ ds G q dw, sp_is_whole ds G q dw → t_is_whole dw { nx := fun _ G' => q (.val .non) G', rt := q } (start3 N ds) G := by
  intro ds G q dw h
  unfold t_is_whole start3
  rw [hN]
  obtain ⟨d, rfl, ⟨t, ht⟩, h⟩ := h
  cases d <;> first
    | (exfalso; cases ht; done)
    | (walk_at "ev"; exact h)
theorem p_is_integer (N : List Str) (hN : N.length = 1) : ∀ ds G q dw, sp_is_integer ds G q dw → t_is_integer dw { nx := fun _ G' => q (.val .non) G', rt := q } (start3 N ds) G := by
  intro ds G q dw h
  unfold t_is_integer start3
  rw [hN]
  obtain ⟨d, rfl, hk, h⟩ := h
  cases d with
  | int i =>
    walk_at "ev"
    refine ifD (fun h1 => ?_) (fun h1 => ?_)
    · walk_at "ev"
      refine qB (q := q) h ?_
      show _ = (decide (-(10 ^ 60) < i) && decide (i < 10 ^ 60))
      rw [decide_eq_true (p := -(10 ^ 60) < i) h1]; rfl
    · walk_at "ev"
      refine qB (q := q) h ?_
      show _ = (decide (-(10 ^ 60) < i) && decide (i < 10 ^ 60))
      rw [decide_eq_false (p := -(10 ^ 60) < i) h1]; rfl
  | _ => first
    | (exfalso; obtain ⟨t, ht⟩ := hk; cases ht; done)
    | (walk_at "ev"; exact h)
end LG

set_option Elab.async false
set_option maxRecDepth 100000
set_option maxHeartbeats 4000000
set_option exponentiation.threshold 2000
/-! LG2: generators judged by the laws. -/
namespace LG
open PySem PySem.Spec PyProof.Rows L2 L3 LD
open LN (pt sh_pt eqv_pt sh_ints eqv_ints)
local macro_rules | `(tactic| walk_at "ev") => `(tactic| repeat (first | refine lc_stop ?_ | refine for_stop ?_ | refine ⟨_, rfl, ?_⟩ | refine ⟨_, _, rfl, ?_⟩ | refine ⟨rfl, ?_⟩ | refine And.intro (by assumption) ?_ | refine ⟨by decide, ?_⟩ | refine ⟨ltL rfl, ?_⟩ | refine ⟨_, at0, ?_⟩ | refine ⟨_, at1, ?_⟩ | refine ⟨_, at2, ?_⟩ | refine ifT ?_ | refine ifF ?_ | refine ⟨_, _, _, rfl, ?_⟩ | refine ⟨⟨_, rfl⟩, ?_⟩ | refine ⟨_, _, _, _, rfl, ?_⟩))
theorem eqvL_nil_dec (xs : List D) : D.eqv (.lst xs) (.lst []) = decide (xs = []) := by
  rw [eqv_lst]
  cases xs <;> rfl
end LG

set_option Elab.async false
set_option maxRecDepth 100000
set_option maxHeartbeats 4000000
set_option exponentiation.threshold 2000
/-! LG3: generators drawn by the laws; the last gap. -/
namespace LG
open PySem PySem.Spec PyProof.Rows L2 L3 LD
open LN (pt sh_pt eqv_pt sh_ints eqv_ints)
local macro_rules | `(tactic| walk_at "ev") => `(tactic| repeat (first | refine lc_stop ?_ | refine for_stop ?_ | refine ⟨_, rfl, ?_⟩ | refine ⟨_, _, rfl, ?_⟩ | refine ⟨rfl, ?_⟩ | refine And.intro (by assumption) ?_ | refine ⟨by decide, ?_⟩ | refine ⟨ltL rfl, ?_⟩ | refine ⟨_, at0, ?_⟩ | refine ⟨_, at1, ?_⟩ | refine ⟨_, at2, ?_⟩ | refine ifT ?_ | refine ifF ?_ | refine ⟨_, _, _, rfl, ?_⟩ | refine ⟨⟨_, rfl⟩, ?_⟩ | refine ⟨_, _, _, _, rfl, ?_⟩))
end LG

set_option Elab.async false
set_option maxRecDepth 100000
set_option maxHeartbeats 4000000
/-! LH0: papers of orders, as plain integers: number = c0 * x + sums of m * g with 0 ≤ m < s, in one way. -/
namespace LG
/-! ### inverses -/
def iv (a m : Int) : Int := match (List.range m.toNat).find? (fun (r : Nat) => decide ((a * (r : Int)) % m = 1)) with
  | some r => (r : Int)
  | none => 0
theorem bez : ∀ (n : Nat) (a b : Int), b.natAbs ≤ n → 0 ≤ a → 0 ≤ b → Int.gcd a b = 1 → ∃ u v : Int, a * u + b * v = 1
  | 0, a, b, h, ha, hb, hg => by
    have : b = 0 := by omega
    subst this
    rw [Int.gcd_zero] at hg
    exact ⟨1, 0, by omega⟩
  | n + 1, a, b, h, ha, hb, hg => by
    by_cases z : b = 0
    · subst z
      rw [Int.gcd_zero] at hg
      exact ⟨1, 0, by omega⟩
    · have h1 := Int.emod_nonneg a z
      have h2 := Int.emod_lt_of_pos a (show 0 < b by omega)
      obtain ⟨u, v, e⟩ := bez n b (a % b) (by omega) hb h1 (by rw [Int.gcd_comm, show a % b = a + b * (-(a / b)) by rw [Int.mul_neg]; have := Int.mul_ediv_add_emod a b; omega, Int.gcd_add_mul_left_left]; exact hg)
      have h3 := Int.mul_ediv_add_emod a b
      refine ⟨v, u - (a / b) * v, ?_⟩
      have h4 : a % b = a - b * (a / b) := by omega
      rw [h4, Int.sub_mul] at e
      rw [Int.mul_sub, ← Int.mul_assoc]
      omega
theorem iv_spec {a m : Int} (hm : 2 ≤ m) (ha : 0 ≤ a) (hg : Int.gcd a m = 1) : 0 ≤ iv a m ∧ iv a m < m ∧ (a * iv a m) % m = 1 := by
  obtain ⟨u, v, e⟩ := bez _ a m (Nat.le_refl _) ha (by omega) hg
  have hr0 := Int.emod_nonneg u (show m ≠ 0 by omega)
  have hr1 := Int.emod_lt_of_pos u (show 0 < m by omega)
  have hw : (a * (u % m)) % m = 1 := by
    rw [Int.mul_emod, Int.emod_emod_of_dvd _ (Int.dvd_refl m), ← Int.mul_emod]
    have : a * u = 1 + m * (-v) := by rw [Int.mul_neg]; omega
    rw [this, Int.add_mul_emod_self_left]
    exact Int.emod_eq_of_lt (by decide) (by omega)
  unfold iv
  cases q : (List.range m.toNat).find? (fun (r : Nat) => decide ((a * (r : Int)) % m = 1)) with
  | none =>
    have := List.find?_eq_none.mp q (u % m).toNat (List.mem_range.mpr (by omega))
    rw [Int.toNat_of_nonneg hr0] at this
    exact absurd (decide_eq_true hw) this
  | some r =>
    have h1 := List.find?_some q
    have h2 := List.mem_range.mp (List.mem_of_find?_eq_some q)
    exact ⟨Int.natCast_nonneg r, by show (r : Int) < m; omega, of_decide_eq_true h1⟩
theorem step_ok {a b v s : Int} (hv : (b * v) % s = 1) : s ∣ a - (a * v) % s * b := by
  have h1 := Int.mul_ediv_add_emod (a * v) s
  have h2 := Int.mul_ediv_add_emod (b * v) s
  rw [hv] at h2
  refine ⟨(a * v) / s * b - a * (b * v / s), ?_⟩
  have h3 : (a * v) % s = a * v - s * (a * v / s) := by omega
  have h4 : a * v * b = a * (s * (b * v / s) + 1) := by rw [h2, Int.mul_assoc, Int.mul_comm v b]
  rw [h3, Int.sub_mul, h4, Int.mul_add, Int.mul_one, Int.mul_sub, Int.mul_assoc s, Int.mul_left_comm a s]
  omega
/-! ### rows: a generator, its share, the divisor behind it; the last first -/
abbrev Rw := Int × Int × Int
def bnd : List Rw → Int
  | [] => 0
  | w :: _ => w.2.1 * w.1
inductive Chn (x : Int) : List Rw → Int → Prop
  | nil : 0 < x → Chn x [] x
  | cons {r : List Rw} {d g s e : Int} : Chn x r d → 0 < g → e = (Int.gcd d g : Int) → d = s * e → 2 ≤ s → bnd r < g → Chn x ((g, s, e) :: r) e
def mm (n : Int) (w : Rw) : Int := (n / w.2.2 * iv (w.1 / w.2.2) w.2.1) % w.2.1
def pp : List Rw → Int → List Int × Int
  | [], n => ([], n)
  | w :: r, n => (mm n w :: (pp r (n - mm n w * w.1)).1, (pp r (n - mm n w * w.1)).2)
def sm : List Rw → List Int → Int
  | w :: r, m :: ms => m * w.1 + sm r ms
  | _, _ => 0
def Rg : List Rw → List Int → Prop
  | [], [] => True
  | w :: r, m :: ms => 0 ≤ m ∧ m < w.2.1 ∧ Rg r ms
  | _, _ => False
theorem Chn.pos {x : Int} {r : List Rw} {e : Int} (h : Chn x r e) : 0 < x ∧ 0 < e := by
  induction h with
  | nil h => exact ⟨h, h⟩
  | @cons r d g s e h hg he hd hs hb ih =>
    refine ⟨ih.1, ?_⟩
    have h0 : 0 ≤ e := by rw [he]; exact Int.natCast_nonneg _
    rcases Int.lt_or_eq_of_le h0 with z | z
    · exact z
    · rw [← z, Int.mul_zero] at hd
      omega
theorem head_iv {d g s e : Int} (he0 : 0 < e) (hg : 0 < g) (he : e = (Int.gcd d g : Int)) (hd : d = s * e) (hs : 2 ≤ s) : 0 ≤ g / e ∧ Int.gcd (g / e) s = 1 := by
  refine ⟨Int.ediv_nonneg (by omega) (by omega), ?_⟩
  have h := Int.gcd_ediv_gcd_ediv_gcd (i := d) (j := g) (by omega)
  rw [← he] at h
  rw [Int.gcd_comm, show d / e = s by rw [hd, Int.mul_ediv_cancel _ (by omega)]] at h
  exact h
theorem mm_ok {d g s e n : Int} (he0 : 0 < e) (hg : 0 < g) (he : e = (Int.gcd d g : Int)) (hd : d = s * e) (hs : 2 ≤ s) (hn : e ∣ n) : 0 ≤ mm n (g, s, e) ∧ mm n (g, s, e) < s ∧ d ∣ n - mm n (g, s, e) * g := by
  obtain ⟨h1, h2⟩ := head_iv he0 hg he hd hs
  obtain ⟨_, _, hv⟩ := iv_spec hs h1 h2
  refine ⟨Int.emod_nonneg _ (show s ≠ 0 by omega), Int.emod_lt_of_pos _ (show 0 < s by omega), ?_⟩
  have h3 : e ∣ g := by rw [he]; exact Int.gcd_dvd_right _ _
  obtain ⟨w, hw⟩ := step_ok (a := n / e) hv
  refine ⟨w, ?_⟩
  have e1 := Int.ediv_mul_cancel hn
  have e2 := Int.ediv_mul_cancel h3
  have e3 : (n / e - mm n (g, s, e) * (g / e)) * e = s * w * e := by
    show (n / e - (n / e * iv (g / e) s) % s * (g / e)) * e = _
    rw [hw]
  rw [Int.sub_mul, Int.mul_assoc, e1, e2] at e3
  rw [e3, hd, Int.mul_right_comm]
theorem pp_ok {x : Int} {r : List Rw} {e : Int} (h : Chn x r e) : ∀ {n : Int}, e ∣ n → Rg r (pp r n).1 ∧ sm r (pp r n).1 + (pp r n).2 = n ∧ x ∣ (pp r n).2 := by
  induction h with
  | nil h => intro n hn; exact ⟨True.intro, by simp [pp, sm], hn⟩
  | @cons r d g s e h hg he hd hs hb ih =>
    intro n hn
    obtain ⟨p1, p2, p3⟩ := mm_ok (h.cons hg he hd hs hb).pos.2 hg he hd hs hn
    obtain ⟨i1, i2, i3⟩ := ih p3
    refine ⟨⟨p1, p2, i1⟩, ?_, i3⟩
    show mm n (g, s, e) * g + sm r (pp r (n - mm n (g, s, e) * g)).1 + (pp r (n - mm n (g, s, e) * g)).2 = n
    omega
/-! ### which numbers are orders -/
def Po (r : List Rw) (n : Int) : Prop := 0 ≤ (pp r n).2
theorem Chn.gpos {x : Int} {r : List Rw} {e : Int} (h : Chn x r e) : ∀ w ∈ r, 0 < w.1 := by
  induction h with
  | nil h => exact fun w h => nomatch h
  | @cons r d g s e h hg he hd hs hb ih => exact fun w hw => (List.mem_cons.mp hw).elim (fun z => by rw [z]; exact hg) (ih w)
/-- a multiple of x that is not below 0 -/
theorem mul_neg {x l : Int} (hx : 0 < x) (h : x ∣ l) (hl : l < 0) : l ≤ -x := by
  obtain ⟨c, rfl⟩ := h
  rcases Int.lt_or_le c 0 with z | z
  · have : x * c ≤ x * (-1) := Int.mul_le_mul_of_nonneg_left (by omega) (by omega)
    rw [Int.mul_neg, Int.mul_one] at this
    exact this
  · have := Int.mul_nonneg (show 0 ≤ x by omega) z
    omega
end LG

set_option Elab.async false
set_option maxRecDepth 100000
set_option maxHeartbeats 4000000
/-! LH1: papers of generators. -/
namespace LG
def rf (d : Int) : List Int → List Rw
  | [] => []
  | y :: ys => (y, d / eu d y, eu d y) :: rf (eu d y) ys
theorem chn_run {x : Int} : ∀ (ys : List Int) {d w : Int} {acc : List Rw} {p : Int × Int}, Chn x acc d → bnd acc * d ≤ w → 0 ≤ w → run (d, w) ys = some p → Chn x ((rf d ys).reverse ++ acc) p.1
  | [], d, w, acc, p, h, _, _, hr => by
    cases hr
    exact h
  | y :: ys, d, w, acc, p, h, hb, hw, hr => by
    rw [run_cons] at hr
    cases hs : stp (d, w) y with
    | none => rw [hs] at hr; cases hr
    | some p' =>
      rw [hs] at hr
      have hr : run p' ys = some p := hr
      unfold stp at hs
      split at hs
      · rename_i hc
        cases hs
        obtain ⟨c1, c2⟩ := hc
        have c1 : eu d y < d := c1
        have c2 : w < y * d := c2
        have hd := h.pos.2
        have hy : 0 < y := by
          rcases Int.lt_or_le 0 y with q | q
          · exact q
          · have : y * d ≤ 0 := Int.mul_nonpos_of_nonpos_of_nonneg q (by omega)
            omega
        have e0 := eu_pos hd (b := y) (by omega)
        have e1 := eu_eq (a := d) (b := y) (by omega) (by omega)
        have dv : eu d y ∣ d := by rw [e1]; exact Int.gcd_dvd_left _ _
        have e2 : d = d / eu d y * eu d y := (Int.ediv_mul_cancel dv).symm
        have e3 : 2 ≤ d / eu d y := by
          rcases Int.lt_or_le (d / eu d y) 2 with q | q
          · have : d / eu d y * eu d y ≤ 1 * eu d y := Int.mul_le_mul_of_nonneg_right (by omega) (by omega)
            omega
          · exact q
        have e4 : bnd acc < y := by
          rcases Int.lt_or_le (bnd acc) y with q | q
          · exact q
          · have : y * d ≤ bnd acc * d := Int.mul_le_mul_of_nonneg_right q (by omega)
            omega
        have := chn_run ys (h.cons hy e1 e2 e3 e4) (w := y * d) (by
          show d / eu d y * y * eu d y ≤ y * d
          rw [Int.mul_right_comm, ← e2, Int.mul_comm]; exact Int.le_refl _) (by omega) hr
        rw [rf, List.reverse_cons, List.append_assoc]
        exact this
      · cases hs
/-- the rows of generators, the last first -/
def rr : List Int → List Rw
  | [] => []
  | x :: ys => (rf x ys).reverse
def g0 (gs : List Int) : Int := gs.headD 0
theorem gen_chn : ∀ {gs : List Int}, genI gs = true → Chn (g0 gs) (rr gs) 1
  | [x], h => by
    have e : x = 1 := of_decide_eq_true h
    subst e
    exact .nil (by decide)
  | x :: y :: r, h => by
    rw [genI2, Bool.and_eq_true, Bool.and_eq_true, decide_eq_true_eq] at h
    obtain ⟨⟨h1, _⟩, h2⟩ := h
    cases q : run (x, x * x) (y :: r) with
    | none => rw [q] at h2; cases h2
    | some p =>
      rw [q] at h2
      have h3 : p.1 = 1 := of_decide_eq_true h2
      have hx : 0 ≤ x * x := Int.mul_nonneg (by omega) (by omega)
      have := chn_run (x := x) (y :: r) (acc := []) (.nil (by omega)) (by show 0 * x ≤ x * x; omega) hx q
      rw [List.append_nil, h3] at this
      exact this
/-- the paper of a number -/
def ppr (gs : List Int) (n : Int) : List Int := (pp (rr gs) n).2 / g0 gs :: (pp (rr gs) n).1.reverse
def Ord (gs : List Int) (n : Int) : Prop := Po (rr gs) n
instance (gs : List Int) (n : Int) : Decidable (Ord gs n) := inferInstanceAs (Decidable (0 ≤ _))
/-- ordered: the paper's first entry is not below 0 -/
theorem ord_first {gs : List Int} (h : genI gs = true) (n : Int) : Ord gs n ↔ 0 ≤ (ppr gs n).headD 0 := by
  have c := gen_chn h
  obtain ⟨_, _, p3⟩ := pp_ok c (Int.one_dvd n)
  show 0 ≤ (pp (rr gs) n).2 ↔ 0 ≤ (pp (rr gs) n).2 / g0 gs
  have hx := c.pos.1
  constructor
  · intro z; exact Int.ediv_nonneg z (by omega)
  · intro z
    obtain ⟨k, hk⟩ := p3
    rw [hk, Int.mul_ediv_cancel_left _ (by omega)] at z
    rw [hk]
    exact Int.mul_nonneg (by omega) z
theorem sm_app : ∀ {r q : List Rw} {ms ns : List Int}, r.length = ms.length → sm (r ++ q) (ms ++ ns) = sm r ms + sm q ns
  | [], q, [], ns, _ => by show sm q ns = 0 + sm q ns; rw [Int.zero_add]
  | [], _, _ :: _, _, h => nomatch h
  | _ :: _, _, [], _, h => nomatch h
  | w :: r, q, m :: ms, ns, h => by
    show m * w.1 + sm (r ++ q) (ms ++ ns) = m * w.1 + sm r ms + sm q ns
    rw [sm_app (by simpa using h)]; omega
theorem sm_rev : ∀ {r : List Rw} {ms : List Int}, r.length = ms.length → sm r.reverse ms.reverse = sm r ms
  | [], [], _ => rfl
  | [], _ :: _, h => nomatch h
  | _ :: _, [], h => nomatch h
  | w :: r, m :: ms, h => by
    have h : r.length = ms.length := by simpa using h
    rw [List.reverse_cons, List.reverse_cons, sm_app (by rw [List.length_reverse, List.length_reverse]; exact h), sm_rev h]
    show sm r ms + (m * w.1 + 0) = m * w.1 + sm r ms
    omega
end LG

set_option Elab.async false
set_option maxRecDepth 100000
set_option maxHeartbeats 4000000
/-! LM: comprehensions over a mapped list; zips told by recursion. -/
namespace LM
open PySem PySem.Spec PyProof.Rows L2 L3
theorem ifTq {b : Bool} {A C : Prop} (h : b = true) (hc : A) : if b = true then A else C := by rw [h, if_pos rfl]; exact hc
theorem ifFq {b : Bool} {A C : Prop} (h : b = false) (hc : C) : if b = true then A else C := by rw [h, if_neg Bool.false_ne_true]; exact hc
theorem lc_map {α : Type} {g : DG} {tt : DT} {te : DE} {vs : List Nat} {E : Env3} {G : Reg} (F W : α → D) (P : α → Prop)
    (step : ∀ a (k1 : D → Env3 → Reg → Prop) (k2 : Env3 → Reg → Prop), P a → (∀ Ew, wipe3 Ew vs = E → k1 (W a) Ew G) →
      g (F a) E G fun E1 G1 => tt E1 G1 fun b E2 G2 => if b = true then te E2 G2 fun r E3 G3 => ∃ x E4, r.ice E3 = some (x, E4) ∧ k1 x E4 G3 else k2 E2 G2) :
    ∀ (l : List α) (acc : List D) (k : List D → Env3 → Reg → Prop), (∀ a ∈ l, P a) → k (acc ++ l.map W) E G → dLcL g tt te vs (l.map F) acc E G k
  | [], acc, k, _, h => by simpa using h
  | d :: ds, acc, k, hp, h => step d _ _ (hp d List.mem_cons_self) fun Ew w => by
      rw [w]
      refine lc_map F W P step ds _ k (fun z hz => hp z (List.mem_cons_of_mem _ hz)) ?_
      rw [List.map_cons] at h
      rw [List.append_assoc]
      exact h
theorem lc_map0 {α : Type} {g : DG} {tt : DT} {te : DE} {vs : List Nat} {E : Env3} {G : Reg} (F W : α → D) (P : α → Prop)
    (step : ∀ a (k1 : D → Env3 → Reg → Prop) (k2 : Env3 → Reg → Prop), P a → (∀ Ew, wipe3 Ew vs = E → k1 (W a) Ew G) →
      g (F a) E G fun E1 G1 => tt E1 G1 fun b E2 G2 => if b = true then te E2 G2 fun r E3 G3 => ∃ x E4, r.ice E3 = some (x, E4) ∧ k1 x E4 G3 else k2 E2 G2)
    {l : List α} {k : List D → Env3 → Reg → Prop} (hp : ∀ a ∈ l, P a) (h : k (l.map W) E G) : dLcL g tt te vs (l.map F) [] E G k :=
  lc_map F W P step l [] k hp h
theorem atI_nat {α : Type} {ds : List α} {i : Nat} {d : α} (h : ds[i]? = some d) : atI ds ((i : Nat) : Int) = some d := by
  have hi : i < ds.length := by
    rw [List.getElem?_eq_some_iff] at h
    exact h.1
  unfold atI ixN
  rw [if_pos (by omega), if_pos (by omega), Int.toNat_natCast]
  exact h
end LM
namespace LG
open PySem PySem.Spec PyProof.Rows L2 L3 LM
theorem Chn.le {x : Int} {r : List Rw} {e : Int} (h : Chn x r e) : e ≤ x ∧ ∀ w ∈ r, 2 ≤ w.2.1 ∧ w.2.1 ≤ x ∧ 0 < w.2.2 ∧ w.2.2 ≤ x := by
  induction h with
  | nil h => exact ⟨Int.le_refl _, fun w h => nomatch h⟩
  | @cons r d g s e h hg he hd hs hb ih =>
    have he0 := (h.cons hg he hd hs hb).pos.2
    have h1 : e * 1 ≤ e * s := Int.mul_le_mul_of_nonneg_left (by omega) (by omega)
    have h2 : s * 1 ≤ s * e := Int.mul_le_mul_of_nonneg_left (by omega) (by omega)
    rw [Int.mul_comm e s] at h1
    refine ⟨by omega, fun w hw => ?_⟩
    rcases List.mem_cons.mp hw with rfl | hw
    · exact ⟨hs, by show s ≤ x; omega, he0, by show e ≤ x; omega⟩
    · exact ih.2 w hw
end LG

set_option Elab.async false
set_option maxRecDepth 100000
set_option maxHeartbeats 4000000
/-! L17: a, b, c = [..], y, z with a list of our own ahead. -/
namespace L3
open PySem PySem.Spec PyProof.Rows L2
section
variable {X : Cx} {B : Base3}
end
end L3

set_option Elab.async false
set_option maxRecDepth 100000
set_option maxHeartbeats 4000000
/-! L23: a, b, .. = a list of that length. -/
namespace L3
open PySem PySem.Spec PyProof.Rows L2
variable {X : Cx} {B : Base3}
end L3

set_option Elab.async false
set_option maxRecDepth 100000
set_option maxHeartbeats 4000000
/-! K04: reckoned defs (printed by gen5.py) -/
namespace K04
open PySem PySem.Spec PyProof.Rows L2 L3
end K04

set_option Elab.async false
/-! RU: plain: series put into another: products, one entry ahead. -/
namespace RS
end RS

set_option Elab.async false
set_option maxRecDepth 100000
set_option maxHeartbeats 4000000
/-! K04: what each def promises -/
namespace K04
open PySem PySem.Spec PyProof.Rows L2 L3 LD LN RS
/-- residues; a row as it is kept -/
def Rsd (p : Int) (xs : List Int) : Prop := ∀ x ∈ xs, 0 ≤ x ∧ x < p
structure Rw (p : Int) (xs : List Int) : Prop where
  res : Rsd p xs
  trm : trimL xs = xs
def Sq (d : D) (xs : List Int) : Prop := d = .lst (xs.map D.int) ∨ d = pt xs
def nrm (p : Int) (n : Nat) (f : RS.S) : List Int := trimL (mk p n f)
/-- the order, the text of a row -/
def ordN : List Int → Option Nat
  | [] => none
  | x :: xs => if x = 0 then (ordN xs).map (· + 1) else some 0
def ordD (xs : List Int) : D := match ordN xs with
  | none => .non
  | some i => .int (i : Int)
def sI (i : Int) : Str := Str.ofString (toString i)
def tmS (e : Int) (i : Nat) : Str := if i = 0 then sI e else (if e = 1 then ("" : Str) else sI e) ++ (if i = 1 then ("t" : Str) else ("t" : Str) ++ ("^" : Str) ++ sI (i : Int))
def tms : Nat → List Int → List Str
  | _, [] => []
  | i, x :: xs => if x = 0 then tms (i + 1) xs else tmS x i :: tms (i + 1) xs
def rtx (xs : List Int) : Str := if tms 0 xs = [] then ("0" : Str) else Txt.join ("+" : Str) (tms 0 xs)
def rwD (p : Int) (xs : List Int) : D := .obj "Row" [pt xs, ordD xs, .int p, .str (rtx xs)]
abbrev reD (xs : List Int) : D := .obj "RowEntries" [pt xs]
def sp_Row_init : DSpI := fun ds G q _ => ∃ (p : Int) (d : D) (xs : List Int), ds = [.int p, d] ∧ Pr p ∧ Rw p xs ∧ (d = reD xs ∧ xs.length ≤ 3000 ∨ d = pt xs ∧ xs.length ≤ 1000) ∧ q [pt xs, ordD xs, .int p, .str (rtx xs)] G
def sp_Row_str : DSp := fun ds G q _ => ∃ (p : Int) (xs : List Int), ds = [rwD p xs] ∧ (rtx xs).length ≤ sizeLine ∧ q (.val (.str (rtx xs))) G
/-- two rows, and what is made of them -/
abbrev Two (p : Int) (a b : List Int) : Prop := Pr p ∧ Rw p a ∧ Rw p b ∧ a.length ≤ 1000 ∧ b.length ≤ 1000
def sp_Row_minus : DSp := fun ds G q _ => ∃ (p : Int) (a b : List Int), ds = [rwD p a, rwD p b] ∧ Two p a b ∧ q (.val (rwD p (nrm p (max a.length b.length) (add (co a) (sc (-1) (co b)))))) G
def sp_Row_times : DSp := fun ds G q _ => ∃ (p : Int) (a b : List Int), ds = [rwD p a, rwD p b] ∧ Two p a b ∧ q (.val (rwD p (nrm p (a.length + b.length) (mul (co a) (co b))))) G
def sp_Row_raised : DSp := fun ds G q _ => ∃ (p : Int) (a : List Int) (m : Nat), ds = [rwD p a, .int (m : Int)] ∧ Two p a a ∧ m ≤ 10 ∧ a.length ≤ 100 ∧ q (.val (rwD p (nrm p (a.length * m + 1) (pow (co a) m)))) G
def sp_Row_composed : DSp := fun ds G q _ => ∃ (p : Int) (a b : List Int) (s : Nat), ds = [rwD p a, rwD p b, .int (s : Int)] ∧ Two p a b ∧ co b 0 = 0 ∧ s ≤ 400 ∧ q (.val (rwD p (nrm p s (comp (co a) (co b))))) G
def sp__law_any_row : DSp := fun ds G q _ => ∃ (a : Addr) (R : Reg) (p : Int) (l : Nat), ds = [.ref a, .int p, .int (l : Int)] ∧ Dice a R G ∧ Pr p ∧ l ≤ 1 ∧ ∀ (xs : List Int) G', Rw p xs → xs.length ≤ 10 → (∀ i, i < l → co xs i = 0) → Dice a R G' → q (.val (pt xs)) G'
def sp__law_are_reckoned : DSp := fun ds G q _ => ∃ (c : Addr) (R : Reg) (p : Int) (a b : List Int), ds = [.ref c, .int p, pt a, pt b] ∧ Dice c R G ∧ Pr p ∧ Rw p a ∧ Rw p b ∧ a.length ≤ 10 ∧ b.length ≤ 10 ∧ ∀ G', Dice c R G' → q (.val (.bl true)) G'
def sp__law_do_fit : DSp := fun ds G q _ => ∃ (c : Addr) (R : Reg) (p : Int) (a b e : List Int), ds = [.ref c, .int p, .lst [pt a, pt b, pt e]] ∧ Dice c R G ∧ Pr p ∧ Rw p a ∧ Rw p b ∧ Rw p e ∧ a.length ≤ 10 ∧ b.length ≤ 10 ∧ e.length ≤ 10 ∧ co e 0 = 0 ∧ ∀ G', Dice c R G' → q (.val (.bl true)) G'
def sp_law : DSp := fun ds G q _ => ∃ ns : List Int, ds = [.scr ns] ∧ ns.length ≤ 63 ∧ ∀ G', q (.val (.bl true)) G'
theorem law_holds : ∀ ns : List Int, ns.length ≤ 63 → sp_law [.scr ns] [] (fun r _ => r = .val (.bl true)) fun _ _ => False := fun ns h => ⟨ns, rfl, h, fun _ => rfl⟩
theorem len_law : ∀ ds G q e, sp_law ds G q e → ds.length = 1 := fun ds G q e ⟨_, h, _⟩ => by rw [h]; rfl
end K04

set_option Elab.async false
set_option maxRecDepth 100000
set_option maxHeartbeats 4000000
/-! K04: the plain readings (printed by gen5.py) -/
namespace K04
open PySem PySem.Spec PyProof.Rows L2 L3 LD LN
def t_law (dw : Exc3 → Reg → Prop) : DSt :=
  (dSeq (dFor (dRng1 (dCons (dCB bMax (dPCons (dC (.int (1))) (dPCons (dCB bMin (dPCons (dC (.int (3))) (dPCons (dCB bLen (dPCons (dVar 0) dNil)) dNil))) dNil))) dNil)) (gNm 1) (dSeq (dSetReg 2 (dCall sp__law_dice (fun x _ G => dw x G) (dCons (dVar 0) (dCons (dVar 1) dNil))))
    (dFor (dRng1 (dCons (dC (.int (2))) dNil)) (gNm 3) (dSeq (dSet 4 (dCall sp__law_pick (fun x _ G => dw x G) (dCons (dVar 2) (dCons (dLst (dCons (dC (.int (2))) (dCons (dC (.int (3))) (dCons (dC (.int (3))) (dCons (dC (.int (5))) (dCons (dC (.int (7))) (dCons (dC (.int (31))) dNil))))))) dNil))))
    (dSeq (dSet 5 (dLst (dCons (dCall sp__law_any_row (fun x _ G => dw x G) (dCons (dVar 2) (dCons (dVar 4) (dCons (dC (.int (0))) dNil)))) (dCons (dCall sp__law_any_row (fun x _ G => dw x G) (dCons (dVar 2) (dCons (dVar 4) (dCons (dC (.int (0))) dNil)))) (dCons (dCall sp__law_any_row (fun x _ G => dw x G) (dCons (dVar 2) (dCons (dVar 4) (dCons (dC (.int (1))) dNil)))) dNil)))))
    (dIfS (dOr (dNot (dTest (dCall sp__law_are_reckoned (fun x _ G => dw x G) (dCons (dVar 2) (dCons (dVar 4) (dCons (dOp oIx (dVar 5) (dC (.int (0)))) (dCons (dOp oIx (dVar 5) (dC (.int (1)))) dNil))))))) (dNot (dTest (dCall sp__law_do_fit (fun x _ G => dw x G) (dCons (dVar 2) (dCons (dVar 4) (dCons (dVar 5) dNil))))))) (dRet (dC (.bl false))) dNext))))))
    (dSeq (dPar 6 7 (dMake "Row" sp_Row_init (dCons (dC (.int (3))) (dCons (dTup (dCons (dC (.int (0))) (dCons (dC (.int (1))) (dCons (dC (.int (2))) dNil)))) dNil))) (dMake "Row" sp_Row_init (dCons (dC (.int (3))) (dCons (dTup (dCons (dC (.int (1))) (dCons (dC (.int (1))) dNil))) dNil))))
    (dSeq (dSet 8 (dLst (dCons (dStrO "Row" sp_Row_str (dPCons (dMeth "Row" sp_Row_times (dVar 6) (dCons (dVar 7) dNil)) dNil)) (dCons (dStrO "Row" sp_Row_str (dPCons (dMeth "Row" sp_Row_composed (dVar 7) (dCons (dVar 6) (dCons (dC (.int (3))) dNil))) dNil)) (dCons (dStrO "Row" sp_Row_str (dPCons (dMeth "Row" sp_Row_raised (dVar 6) (dCons (dC (.int (2))) dNil)) dNil)) (dCons (dStrO "Row" sp_Row_str (dPCons (dMeth "Row" sp_Row_minus (dVar 6) (dCons (dVar 6) dNil)) dNil)) dNil))))))
    (dRet (dOp oEq (dVar 8) (dLst (dCons (dC (.str "t+2t^3")) (dCons (dC (.str "1+t+2t^2")) (dCons (dC (.str "t^2+t^3+t^4")) (dCons (dC (.str "0")) dNil))))))))))
end K04

set_option Elab.async false
set_option maxRecDepth 100000
set_option maxHeartbeats 4000000
/-! L16: comprehensions with two fors over mapped lists. -/
namespace L3
open PySem PySem.Spec PyProof.Rows L2
theorem rangeD_map (n : Nat) : rangeD 0 n = (List.range n).map fun (k : Nat) => D.int (k : Int) := by
  unfold rangeD
  exact List.map_congr_left fun k _ => by rw [Int.zero_add]
end L3

set_option Elab.async false
set_option maxRecDepth 100000
set_option maxHeartbeats 4000000
set_option exponentiation.threshold 2000
/-! K04: rows cut, told, looked at -/
namespace K04
open PySem PySem.Spec PyProof.Rows L2 L3 LD LM RS
open LN (pt sh_pt eqv_pt sh_ints eqv_ints Pr)
local macro_rules | `(tactic| walk_at "ev") => `(tactic| repeat (first | refine lc_stop ?_ | refine for_stop ?_ | refine ⟨_, rfl, ?_⟩ | refine ⟨_, _, rfl, ?_⟩ | refine ⟨rfl, ?_⟩ | refine And.intro (by assumption) ?_ | refine ⟨by decide, ?_⟩ | refine ⟨ltL rfl, ?_⟩ | refine ⟨_, at0, ?_⟩ | refine ⟨_, at1, ?_⟩ | refine ⟨_, at2, ?_⟩ | refine ifT ?_ | refine ifF ?_ | refine ⟨_, _, _, rfl, ?_⟩ | refine ⟨⟨_, rfl⟩, ?_⟩ | refine ⟨_, _, _, _, rfl, ?_⟩))

theorem Sq.len {d : D} {xs : List Int} (h : Sq d xs) {k : Res → Prop} {G : Reg} (hk : k (.val (.int (xs.length : Int)))) : bLen G [d] k := by
  rcases h with rfl | rfl
  · show k (.val (.int ((xs.map D.int).length : Int)))
    rw [List.length_map]; exact hk
  · show k (.val (.int ((xs.map D.int).length : Int)))
    rw [List.length_map]; exact hk
theorem Sq.at {d : D} {xs : List Int} (h : Sq d xs) {k : Res → Prop} {G : Reg} {i : Int} {j : Nat} (hi : i = (j : Int)) (hj : j < xs.length) (hk : k (.val (.int (co xs j)))) : oIx G d (.int i) k := by
  have e : atI (xs.map D.int) i = some (.int (co xs j)) := by
    rw [hi]
    exact LM.atI_nat (by rw [List.getElem?_map, List.getElem?_eq_getElem hj, co_in hj]; rfl)
  rcases h with rfl | rfl
  · exact ⟨_, e, hk⟩
  · exact ⟨_, e, hk⟩
theorem Sq.fz {d : D} {xs : List Int} (h : Sq d xs) (E : Env3) : (Res.val d).fz.get E = some d := rfl
theorem trim_loop {Dn : Ends3} {G : Reg} {d : D} {xs : List Int} {tb : DSt} (hd : Sq d xs) (hl : xs.length ≤ 5000) (hb : ∀ (Dn : Ends3) (k : Int) (G : Reg), Dn.nx [.val d, .val (.int (k - 1))] G → tb Dn [.val d, .val (.int k)] G)
    (h : ∀ k : Nat, k ≤ xs.length → xs.take k = trimL xs → Dn.nx [.val d, .val (.int (k : Int))] G) :
    dWhile (dAnd (dTest (dOp oGt (dVar 1) (dC (.int (0))))) (dTest (dOp oEq (dOp oIx (dVar 0) (dOp oSub (dVar 1) (dC (.int (1))))) (dC (.int (0)))))) tb Dn [.val d, .val (.int (xs.length : Int))] G := by
  refine ⟨xs.length + 1, ?_⟩
  refine wh_ind (fun n E G' => G' = G ∧ ∃ k : Nat, k ≤ n ∧ k ≤ xs.length ∧ (∀ i, k ≤ i → co xs i = 0) ∧ E = [.val d, .val (.int (k : Int))]) (fun n E G1 nx hI hn => ?_) _ _ _ ⟨rfl, xs.length, Nat.le_refl _, Nat.le_refl _, fun i hi => co_out hi, rfl⟩
  obtain ⟨rfl, k, hk, hkl, hz, rfl⟩ := hI
  walk_at "ev"
  refine ifD (fun z => ?_) (fun z => ?_)
  · have k0 : 0 < k := by omega
    walk_at "ev"
    refine Sq.at hd (i := (k : Int) - 1) (j := k - 1) (by omega) (by omega) ?_
    walk_at "ev"
    refine ifE (fun y => ?_) (fun y => ?_)
    · clear h
      refine hb _ _ _ ?_
      refine hn _ _ (n - 1) (by omega) ⟨rfl, k - 1, by omega, by omega, fun i hi => ?_, ?_⟩
      · by_cases q : i = k - 1
        · rw [q]; exact y
        · exact hz i (by omega)
      · rw [show ((k - 1 : Nat) : Int) = (k : Int) - 1 by omega]
    · walk_at "ev"
      exact h k hkl (trim_take hkl hz (.inr y))
  · walk_at "ev"
    exact h k hkl (trim_take hkl hz (.inl (by omega)))
end K04

set_option Elab.async false
set_option maxRecDepth 100000
set_option maxHeartbeats 4000000
/-! L52: a comprehension over a mapped list, told by what each item gives, or nothing. -/
namespace L3
open PySem PySem.Spec PyProof.Rows L2
theorem lc_fltL {α : Type} {g : DG} {tt : DT} {te : DE} {vs : List Nat} {E : Env3} {G : Reg} (F : α → D) (f : α → Option D) (P : α → Prop)
    (step : ∀ a (k1 : D → Env3 → Reg → Prop) (k2 : Env3 → Reg → Prop), P a → (∀ w Ew, f a = some w → wipe3 Ew vs = E → k1 w Ew G) → (∀ Ew, f a = none → wipe3 Ew vs = E → k2 Ew G) →
      g (F a) E G fun E1 G1 => tt E1 G1 fun b E2 G2 => if b = true then te E2 G2 fun r E3 G3 => ∃ x E4, r.ice E3 = some (x, E4) ∧ k1 x E4 G3 else k2 E2 G2) :
    ∀ (l : List α) (acc : List D) (k : List D → Env3 → Reg → Prop), (∀ a ∈ l, P a) → k (acc ++ l.filterMap f) E G → dLcL g tt te vs (l.map F) acc E G k
  | [], acc, k, _, h => by simpa using h
  | d :: ds, acc, k, hp, h => step d _ _ (hp d List.mem_cons_self) (fun w Ew hq e => by
      rw [e]
      refine lc_fltL F f P step ds _ k (fun z hz => hp z (List.mem_cons_of_mem _ hz)) ?_
      rw [List.filterMap_cons_some hq] at h
      rw [List.append_assoc]
      exact h) fun Ew hq e => by
      rw [e]
      refine lc_fltL F f P step ds _ k (fun z hz => hp z (List.mem_cons_of_mem _ hz)) ?_
      rw [List.filterMap_cons_none hq] at h
      exact h
theorem lc_flt {α : Type} {g : DG} {tt : DT} {te : DE} {vs : List Nat} {E : Env3} {G : Reg} (F : α → D) (f : α → Option D) (P : α → Prop)
    (step : ∀ a (k1 : D → Env3 → Reg → Prop) (k2 : Env3 → Reg → Prop), P a → (∀ w Ew, f a = some w → wipe3 Ew vs = E → k1 w Ew G) → (∀ Ew, f a = none → wipe3 Ew vs = E → k2 Ew G) →
      g (F a) E G fun E1 G1 => tt E1 G1 fun b E2 G2 => if b = true then te E2 G2 fun r E3 G3 => ∃ x E4, r.ice E3 = some (x, E4) ∧ k1 x E4 G3 else k2 E2 G2)
    {l : List α} {k : List D → Env3 → Reg → Prop} (hp : ∀ a ∈ l, P a) (h : k (l.filterMap f) E G) : dLcL g tt te vs (l.map F) [] E G k :=
  lc_fltL F f P step l [] k hp h
end L3

set_option Elab.async false
set_option maxRecDepth 100000
set_option maxHeartbeats 4000000
set_option exponentiation.threshold 2000
/-! K09: the defs by hand -/
namespace K09
open PySem PySem.Spec PyProof.Rows L2 L3 LD LN LP
open LB (br)
open LM (ifTq ifFq lc_map0)
open LG (ifND ifNB)
local macro_rules | `(tactic| walk_at "ev") => `(tactic| repeat (first | refine lc_stop ?_ | refine for_stop ?_ | refine ⟨_, rfl, ?_⟩ | refine ⟨_, _, rfl, ?_⟩ | refine ⟨rfl, ?_⟩ | refine And.intro (by assumption) ?_ | refine ⟨by decide, ?_⟩ | refine ⟨ltL rfl, ?_⟩ | refine ⟨_, at0, ?_⟩ | refine ⟨_, at1, ?_⟩ | refine ⟨_, at2, ?_⟩ | refine ifT ?_ | refine ifF ?_ | refine ⟨_, _, _, rfl, ?_⟩ | refine ⟨⟨_, rfl⟩, ?_⟩ | refine ⟨_, _, _, _, rfl, ?_⟩))
theorem texts_str : ∀ ys : List Str, textsD (.lst (ys.map D.str)) = some ys := by
  intro ys
  show strsOf (ys.map D.str) = some ys
  induction ys with
  | nil => rfl
  | cons y ys ih =>
    show (strsOf (ys.map D.str)).map (y :: ·) = _
    rw [ih]; rfl
theorem sgn_sum : ∀ l : List Int, (∀ x ∈ l, -1 ≤ x ∧ x < 100) → ((l.map sgn).map (·.length)).sum ≤ 2 * l.length
  | [], _ => Nat.le_refl _
  | x :: l, h => by
    have h3 := sgn_sum l fun z hz => h z (List.mem_cons_of_mem _ hz)
    have h4 := h x List.mem_cons_self
    have h5 := (sgn_ok h4.1 h4.2).2.1
    simp only [List.map_cons, List.sum_cons, List.length_cons] at h3 ⊢
    omega
theorem txt_len {ws : List Int} (h : ∀ x ∈ ws, -1 ≤ x ∧ x < 100) : (txt ws).length ≤ 3 * ws.length + 1 := by
  unfold txt
  split
  · exact Nat.le_trans (show (Str.ofString ".").length ≤ 1 from Nat.le_refl _) (by omega)
  · have h1 := StrLaws.join_length_le (" " : Str) (ws.map sgn)
    have h2 := sgn_sum ws h
    rw [TL.join_eq]
    have e1 : (Str.ofString " ").length = 1 := rfl
    rw [e1, List.length_map] at h1
    omega
theorem txt_ok {ws : List Int} (h : ∀ x ∈ ws, -1 ≤ x ∧ x < 100) : strOkC (txt ws) = true := by
  unfold txt
  split
  · decide
  · rw [TL.join_eq]
    exact LR.ok_join (LR.ok_of " ") fun t ht => by
      obtain ⟨v, hv, rfl⟩ := List.mem_map.mp ht
      exact (sgn_ok (h v hv).1 (h v hv).2).1
theorem small_log {x : Int} (h0 : -1 ≤ x) (h1 : x < 100) : x.natAbs.log2 < 1920 := Nat.lt_of_le_of_lt (Nat.log2_le_self _) (by omega)
theorem wdb_in {ws : List Int} (h : ws ∈ [[], [-1]]) : wdb ws = true := by
  simp only [List.mem_cons, List.not_mem_nil, or_false] at h
  rcases h with rfl | rfl <;> rfl
theorem wdb_out {ws : List Int} (h : ¬ ws ∈ [[], [-1]]) : ∃ l, ws.getLast? = some l ∧ wdb ws = decide (0 < l) := by
  simp only [List.mem_cons, List.not_mem_nil, or_false, not_or] at h
  cases e : ws.getLast? with
  | none => exact absurd (List.getLast?_eq_none_iff.mp e) h.1
  | some l =>
    refine ⟨l, rfl, ?_⟩
    unfold wdb
    rw [beq_false_of_ne h.1, beq_false_of_ne h.2, e]; rfl
theorem bad_ints (p : Int) : ∀ ws : List Int, ∃ zs : List Int, (ws.filterMap fun x => if -1 ≤ x ∧ x < p then none else some (D.int x)) = zs.map D.int
  | [] => ⟨[], rfl⟩
  | x :: ws => by
    obtain ⟨zs, ih⟩ := bad_ints p ws
    by_cases y : -1 ≤ x ∧ x < p
    · exact ⟨zs, by rw [List.filterMap_cons_none (by exact if_pos y), ih]⟩
    · exact ⟨x :: zs, by rw [List.filterMap_cons_some (b := D.int x) (by exact if_neg y), ih]; rfl⟩
theorem bad_nil (p : Int) : ∀ ws : List Int, D.eqv (.lst (ws.filterMap fun x => if -1 ≤ x ∧ x < p then none else some (D.int x))) (.lst []) = ws.all fun x => decide (-1 ≤ x) && decide (x < p)
  | [] => rfl
  | x :: ws => by
    have ih := bad_nil p ws
    rw [List.all_cons]
    by_cases y : -1 ≤ x ∧ x < p
    · rw [List.filterMap_cons_none (by exact if_pos y), ih, decide_eq_true y.1, decide_eq_true y.2]; rfl
    · rw [List.filterMap_cons_some (b := D.int x) (by exact if_neg y)]
      rw [show (decide (-1 ≤ x) && decide (x < p)) = false by
        rw [Bool.and_eq_false_iff]
        by_cases y1 : -1 ≤ x
        · exact .inr (decide_eq_false fun y2 => y ⟨y1, y2⟩)
        · exact .inl (decide_eq_false y1)]
      rfl
theorem p_letters_text : ∀ ds G q dw, sp_letters_text ds G q dw → t_letters_text dw { nx := fun _ G' => q (.val .non) G', rt := q } (start3 ["point", "letter"] ds) G := by
  intro ds G q dw h
  unfold t_letters_text
  obtain ⟨ws, rfl, hw, h⟩ := h
  have hS := sizeLine_eq
  have hl := hw.1
  walk_at "ev"
  refine ⟨sh_pt _, rfl, ?_⟩
  walk_at "ev"
  refine ifQ (eqv_pt ws []) (fun e => ?_) (fun e => ?_)
  · walk_at "ev"
    rw [show txt ws = "." from if_pos e] at h
    exact h
  · rw [show txt ws = Txt.join " " (ws.map sgn) from if_neg e] at h
    have hs := sgn_sum ws hw.2
    walk_at "ev"
    refine ⟨by rw [List.length_map]; omega, ?_⟩
    refine lc_map0 D.int (fun x => D.str (sgn x)) (fun x => -1 ≤ x ∧ x < 100) (fun x k1 k2 hx e2 => ?_) hw.2 ?_
    · clear h
      walk_at "ev"
      refine ifE (fun z => ?_) (fun z => ?_)
      · walk_at "ev"
        rw [show sgn x = "t" from if_pos z] at e2
        exact e2 _ rfl
      · have hlog := small_log hx.1 hx.2
        walk_at "ev"
        rw [show sgn x = Str.ofString (toString x) from if_neg z] at e2
        exact e2 _ rfl
    rw [show ws.map (fun x => D.str (sgn x)) = (ws.map sgn).map D.str by rw [List.map_map]; rfl]
    walk_at "ev"
    refine ⟨_, texts_str _, ?_⟩
    have e1 : (Str.ofString " ").length = 1 := rfl
    refine ⟨by rw [e1, List.length_map]; omega, ?_⟩
    walk_at "ev"
    exact h
theorem p__law_wd_text : ∀ ds G q dw, sp__law_wd_text ds G q dw → t__law_wd_text dw { nx := fun _ G' => q (.val .non) G', rt := q } (start3 ["_law_point", "_law_signs", "_law_letter_here"] ds) G := by
  intro ds G q dw h
  unfold t__law_wd_text
  obtain ⟨ws, rfl, hl, hw, h⟩ := h
  have hS := sizeLine_eq
  walk_at "ev"
  refine ⟨by rw [List.length_map]; omega, ?_⟩
  refine lc_map0 D.int (fun x => D.str (sgn x)) (fun x => -1 ≤ x ∧ x < 100) (fun x k1 k2 hx e2 => ?_) hw ?_
  · clear h
    walk_at "ev"
    refine ifE (fun z => ?_) (fun z => ?_)
    · walk_at "ev"
      rw [show sgn x = "t" from if_pos z] at e2
      exact e2 _ rfl
    · have hlog := small_log hx.1 hx.2
      walk_at "ev"
      rw [show sgn x = Str.ofString (toString x) from if_neg z] at e2
      exact e2 _ rfl
  rw [show ws.map (fun x => D.str (sgn x)) = (ws.map sgn).map D.str by rw [List.map_map]; rfl]
  have hok : D.sh (.lst ((ws.map sgn).map D.str)) = true := sh_ss _ (List.all_eq_true.mpr fun t ht => by
    obtain ⟨v, hv, rfl⟩ := List.mem_map.mp ht
    exact (sgn_ok (hw v hv).1 (hw v hv).2).1)
  have hs := sgn_sum ws hw
  walk_at "ev"
  rw [LG.eqvL_nil_dec]
  refine ifND (fun z => ?_) (fun z => ?_)
  · have z' : ws ≠ [] := fun q => z (by rw [q]; rfl)
    rw [show txt ws = Txt.join " " (ws.map sgn) from if_neg z'] at h
    walk_at "ev"
    refine ⟨_, texts_str _, ?_⟩
    have e1 : (Str.ofString " ").length = 1 := rfl
    refine ⟨by rw [e1, List.length_map]; omega, ?_⟩
    walk_at "ev"
    exact h
  · have z' : ws = [] := List.map_eq_nil_iff.mp (List.map_eq_nil_iff.mp z)
    rw [show txt ws = "." from if_pos z'] at h
    walk_at "ev"
    exact h
theorem p_ends_as_word : ∀ ds G q dw, sp_ends_as_word ds G q dw → t_ends_as_word dw { nx := fun _ G' => q (.val .non) G', rt := q } (start3 ["point"] ds) G := by
  intro ds G q dw h
  unfold t_ends_as_word
  obtain ⟨ws, rfl, h⟩ := h
  walk_at "ev"
  refine ⟨sh_pt _, rfl, ?_⟩
  walk_at "ev"
  have e := among_pts ws [[], [-1]]
  refine ifB (fun z => ?_) (fun z => ?_)
  · have z2 : D.among (pt ws) ([[], [-1]].map pt) = true := z
    rw [e] at z2
    rw [wdb_in (of_decide_eq_true z2)] at h
    walk_at "ev"
    exact h
  · have z2 : D.among (pt ws) ([[], [-1]].map pt) = false := z
    rw [e] at z2
    obtain ⟨l, e2, e3⟩ := wdb_out (of_decide_eq_false z2)
    rw [e3] at h
    walk_at "ev"
    refine ⟨.int l, LB.at_last (by rw [List.getLast?_map, e2]; rfl), ?_⟩
    walk_at "ev"
    exact h
theorem p_Branch_eq : ∀ ds G q dw, sp_Branch_eq ds G q dw → t_Branch_eq dw { nx := fun _ G' => q (.val .non) G', rt := q } (start3 ["self", "other"] ds) G := by
  intro ds G q dw h
  unfold t_Branch_eq
  obtain ⟨p, ws, s, rfl, h⟩ := h
  walk_at "ev"
  refine ifTq (by rw [eqv_int, decide_eq_true rfl]) ?_
  walk_at "ev"
  refine ⟨sh_pt _, sh_pt _, ?_⟩
  rw [eqv_pt, decide_eq_true rfl]
  walk_at "ev"
  exact h
theorem p_Branch_str : ∀ ds G q dw, sp_Branch_str ds G q dw → t_Branch_str dw { nx := fun _ G' => q (.val .non) G', rt := q } (start3 ["self"] ds) G := by
  intro ds G q dw h
  unfold t_Branch_str
  obtain ⟨p, ws, s, rfl, hs, h⟩ := h
  have hS := sizeLine_eq
  walk_at "ev"
  refine ⟨by omega, ?_⟩
  walk_at "ev"
  exact h
theorem p_without_zeros : ∀ ds G q dw, sp_without_zeros ds G q dw → t_without_zeros dw { nx := fun _ G' => q (.val .non) G', rt := q } (start3 ["point", "size"] ds) G := by
  intro ds G q dw h
  unfold t_without_zeros
  obtain ⟨ws, rfl, hl, h⟩ := h
  have hd : K04.Sq (pt ws) ws := .inr rfl
  have hl2 : ws.length ≤ 5000 := by omega
  walk_at "ev"
  rw [List.length_map]
  refine K04.trim_loop hd hl2 (fun Dn k G hk => ?_) (fun k hk e => ?_)
  · walk_at "ev"
    exact hk
  · walk_at "ev"
    rw [cut_to, ← List.map_take, e]
    exact h
theorem p__law_wd_bare : ∀ ds G q dw, sp__law_wd_bare ds G q dw → t__law_wd_bare dw { nx := fun _ G' => q (.val .non) G', rt := q } (start3 ["_law_point", "_law_size"] ds) G := by
  intro ds G q dw h
  unfold t__law_wd_bare
  obtain ⟨ws, rfl, hl, h⟩ := h
  have hd : K04.Sq (pt ws) ws := .inr rfl
  have hl2 : ws.length ≤ 5000 := by omega
  walk_at "ev"
  rw [List.length_map]
  refine K04.trim_loop hd hl2 (fun Dn k G hk => ?_) (fun k hk e => ?_)
  · walk_at "ev"
    exact hk
  · walk_at "ev"
    rw [cut_to, ← List.map_take, e]
    walk_at "ev"
    exact h
theorem p__law_wd_is_point : ∀ ds G q dw, sp__law_wd_is_point ds G q dw → t__law_wd_is_point dw { nx := fun _ G' => q (.val .non) G', rt := q } (start3 ["_law_prime", "_law_value", "_law_bad", "_law_one"] ds) G := by
  intro ds G q dw h
  unfold t__law_wd_is_point
  obtain ⟨p, ws, rfl, hp, hl, h⟩ := h
  have hS := sizeLine_eq
  walk_at "ev"
  rw [List.length_map]
  refine ifD (fun z => ?_) (fun z => ?_)
  · have z : (60 : Int) < (ws.length : Int) := z
    rw [show ptb p ws = false from by unfold ptb; rw [decide_eq_false (by omega), Bool.false_and]] at h
    walk_at "ev"
    exact h
  · have z : ¬ (60 : Int) < (ws.length : Int) := z
    walk_at "ev"
    refine ⟨by rw [List.length_map]; omega, ?_⟩
    refine lc_flt D.int (fun x => if -1 ≤ x ∧ x < p then none else some (D.int x)) (fun _ => True) (fun x k1 k2 _ e1 e2 => ?_) (fun _ _ => trivial) ?_
    · clear h
      walk_at "ev"
      refine ifD (fun y1 => ?_) (fun y1 => ?_)
      · walk_at "ev"
        have eb : (fun i j : Int => decide (i < j)) x p = decide (x < p) := rfl
        rw [eb]
        by_cases y2 : x < p
        · rw [decide_eq_true y2]
          walk_at "ev"
          exact e2 _ (if_pos ⟨y1, y2⟩) rfl
        · rw [decide_eq_false y2]
          walk_at "ev"
          exact e1 _ _ (if_neg fun q => y2 q.2) rfl
      · walk_at "ev"
        exact e1 _ _ (if_neg fun q => y1 q.1) rfl
    have kin := bad_ints p ws
    have key : D.eqv (.lst (ws.filterMap fun x => if -1 ≤ x ∧ x < p then none else some (D.int x))) (.lst []) = ptb p ws := by
      rw [bad_nil]
      unfold ptb
      rw [decide_eq_true (by omega), Bool.true_and]
    walk_at "ev"
    obtain ⟨zs, hz⟩ := kin
    refine ⟨by rw [hz]; exact sh_ints _, sh_ints [], ?_⟩
    rw [key]
    walk_at "ev"
    exact h
theorem p__law_wd_is_word : ∀ ds G q dw, sp__law_wd_is_word ds G q dw → t__law_wd_is_word dw { nx := fun _ G' => q (.val .non) G', rt := q } (start3 ["_law_prime", "_law_value"] ds) G := by
  intro ds G q dw h
  unfold t__law_wd_is_word
  obtain ⟨p, ws, rfl, hp, hl, h⟩ := h
  walk_at "ev"
  refine ifB (fun z => ?_) (fun z => ?_)
  · rw [z, Bool.true_and] at h
    walk_at "ev"
    refine ⟨sh_pt _, rfl, ?_⟩
    walk_at "ev"
    have e := among_pts ws [[], [-1]]
    refine ifB (fun z => ?_) (fun z => ?_)
    · have z2 : D.among (pt ws) ([[], [-1]].map pt) = true := z
      rw [e] at z2
      rw [wdb_in (of_decide_eq_true z2)] at h
      walk_at "ev"
      exact h
    · have z2 : D.among (pt ws) ([[], [-1]].map pt) = false := z
      rw [e] at z2
      obtain ⟨l, e2, e3⟩ := wdb_out (of_decide_eq_false z2)
      rw [e3] at h
      walk_at "ev"
      refine ⟨.int l, LB.at_last (by rw [List.getLast?_map, e2]; rfl), ?_⟩
      walk_at "ev"
      exact h
  · rw [z, Bool.false_and] at h
    walk_at "ev"
    exact h
end K09

set_option Elab.async false
set_option maxRecDepth 100000
set_option maxHeartbeats 4000000
set_option exponentiation.threshold 2000
/-! K09: texts read -/
namespace K09
open PySem PySem.Spec PyProof.Rows L2 L3 LD LN LP
open LB (br)
open LM (ifTq ifFq lc_map0)
open LG (ifND ifNB)
local macro_rules | `(tactic| walk_at "ev") => `(tactic| repeat (first | refine lc_stop ?_ | refine for_stop ?_ | refine ⟨_, rfl, ?_⟩ | refine ⟨_, _, rfl, ?_⟩ | refine ⟨rfl, ?_⟩ | refine And.intro (by assumption) ?_ | refine ⟨by decide, ?_⟩ | refine ⟨ltL rfl, ?_⟩ | refine ⟨_, at0, ?_⟩ | refine ⟨_, at1, ?_⟩ | refine ⟨_, at2, ?_⟩ | refine ifT ?_ | refine ifF ?_ | refine ⟨_, _, _, rfl, ?_⟩ | refine ⟨⟨_, rfl⟩, ?_⟩ | refine ⟨_, _, _, _, rfl, ?_⟩))
/-- the dict of known signs -/
def kks (n : Nat) : List Key := (List.range n).map fun (k : Nat) => .inr (sgn (k : Int))
def kds (n : Nat) : List D := (List.range n).map fun (k : Nat) => .int (k : Int)
theorem sgn_str (k : Nat) : sgn (k : Int) = Str.ofString (toString ((k : Nat) : Int)) := if_neg (by omega)
theorem sgn_new : ∀ n : Nat, n < 31 → ∀ k : Nat, k < n → sgn (k : Int) ≠ sgn (n : Int) := by decide +kernel
theorem sgn_t : ∀ k : Nat, k < 32 → sgn (k : Int) ≠ ("t" : Str) := by decide +kernel
theorem kks_new (n : Nat) (h : n < 31) : ¬ (Sum.inr (sgn (n : Int)) : Key) ∈ kks n := fun z => by
  obtain ⟨k, hk, e⟩ := List.mem_map.mp z
  exact sgn_new n h k (List.mem_range.mp hk) (Sum.inr.inj e)
theorem kks_t (n : Nat) (h : n < 32) : ¬ (Sum.inr ("t" : Str) : Key) ∈ kks n := fun z => by
  obtain ⟨k, hk, e⟩ := List.mem_map.mp z
  exact sgn_t k (by have := List.mem_range.mp hk; omega) (Sum.inr.inj e)
theorem set_next {n : Nat} (h : n < 31) : setD (.dcK (kks n) (kds n)) (.str (sgn (n : Int))) (.int (n : Int)) = some (.dcK (kks (n + 1)) (kds (n + 1))) := by
  show some (D.dcK (putks (kks n) (.inr (sgn (n : Int)))) (putds (kks n) (kds n) (.inr (sgn (n : Int))) (.int (n : Int)))) = _
  unfold putks putds
  rw [if_neg (kks_new n h), if_neg (kks_new n h)]
  unfold kks kds
  rw [List.range_succ, List.map_append, List.map_append]; rfl
theorem set_t {n : Nat} (h : n < 32) : setD (.dcK (kks n) (kds n)) (.str ("t" : Str)) (.int (-1)) = some (.dcK (kks n ++ [.inr ("t" : Str)]) (kds n ++ [.int (-1)])) := by
  show some (D.dcK (putks (kks n) (.inr ("t" : Str))) (putds (kks n) (kds n) (.inr ("t" : Str)) (.int (-1)))) = _
  unfold putks putds
  rw [if_neg (kks_t n h), if_neg (kks_t n h)]
theorem lk_knw (p : Int) (x : Str) : lkD (kks p.toNat ++ [.inr ("t" : Str)]) (kds p.toNat ++ [.int (-1)]) (.inr x) = (knw p x).map D.int := by
  have e1 : kks p.toNat ++ [(Sum.inr ("t" : Str) : Key)] = (vals p).map fun v => (Sum.inr (sgn v) : Key) := by
    unfold kks vals
    rw [List.map_append, List.map_map]; rfl
  have e2 : kds p.toNat ++ [D.int (-1)] = (vals p).map D.int := by
    unfold kds vals
    rw [List.map_append, List.map_map]; rfl
  rw [e1, e2]
  unfold lkD knw
  generalize vals p = l
  induction l with
  | nil => rfl
  | cons v l ih =>
    rw [List.map_cons, List.map_cons, List.zip_cons_cons, List.find?_cons, List.find?_cons]
    by_cases y : sgn v = x
    · rw [show (decide ((Sum.inr (sgn v) : Key) = Sum.inr x)) = true from decide_eq_true (by rw [y]), decide_eq_true y]; rfl
    · rw [show (decide ((Sum.inr (sgn v) : Key) = Sum.inr x)) = false from decide_eq_false (fun q => y (Sum.inr.inj q)), decide_eq_false y]
      exact ih
theorem eqvS (a b : Str) : D.eqv (.str a) (.str b) = decide (a = b) := by
  show (a == b) = _
  by_cases h : a = b
  · rw [decide_eq_true h, h]; exact beq_self_eq_true b
  · rw [decide_eq_false h]; exact beq_false_of_ne h
theorem bls_map {α : Type} (f : α → Bool) : ∀ l : List α, blsOf (l.map fun x => D.bl (f x)) = some (l.map f)
  | [] => rfl
  | a :: l => by
    have ih := bls_map f l
    show (blsOf (l.map fun x => D.bl (f x))).map (f a :: ·) = _
    rw [ih]; rfl
abbrev kdc (p : Int) : D := .dcK (kks p.toNat ++ [.inr ("t" : Str)]) (kds p.toNat ++ [.int (-1)])
theorem put_t {n : Nat} (h : n < 32) : putks (kks n) (.inr ("t" : Str)) = kks n ++ [.inr ("t" : Str)] := if_neg (kks_t n h)
theorem putd_t {n : Nat} (h : n < 32) (d : D) : putds (kks n) (kds n) (.inr ("t" : Str)) d = kds n ++ [d] := if_neg (kks_t n h)
@[irreducible] def tI1 (dw : Exc3 → Reg → Prop) : DSt :=
  (dSeq (dIfS (dOr (dTest (dOp oGt (dCB bLenU (dPCons (dVar 3) dNil)) (dC (.int (60))))) (dNot (dTest (dCB bAll (dPCons (dLc (dIterU (dVar 3)) (gNm 5) dYes (dOp (oInU false) (dVar 5) (dVar 2)) [5]) dNil))))) (dRet (dC .non)) dNext)
    (dRet (dCB bTuple (dPCons (dLc (dIterU (dVar 3)) (gNm 5) dYes (dOp oIxU (dVar 2) (dVar 5)) [5]) dNil))))
theorem tI_eq (dw : Exc3 → Reg → Prop) : t_letters_in dw =
  (dSeq (dIfS (dNot (dTest (dCB (bIsiA ["Branch"] ["Branch"] [(("Branch", "Branch"), true)]) (dPCons (dVar 1) (dPCons (dC (.ty "str")) dNil))))) (dRet (dC .non)) dNext)
    (dSeq (dIfS (dTest (dOp oEq (dVar 1) (dC (.str ".")))) (dRet (dTup dNil)) dNext)
    (dSeq (dSet 2 (dDc (.dcK [] []) (dRng1 (dCons (dVar 0) dNil)) (gNm 4) dYes (dCB bStr (dPCons (dVar 4) dNil)) (dVar 4) [4]))
    (dSeq (dStoreU 2 (dC (.int (-1))) (dC (.str "t")))
    (dSeq (dSet 3 (dSplit (dVar 1) (dC (.str " "))))
    (tI1 dw)))))) := by
  unfold tI1; rfl
theorem p_tI {dw : Exc3 → Reg → Prop} {Dn : Ends3} {G : Reg} {p : Int} {s : Str} {ps : List Str} (hl : ps.length ≤ 401)
    (h : Dn.rt (.val (optD (if ps.length ≤ 60 ∧ ps.all (fun x => (knw p x).isSome) = true then some (ps.filterMap (knw p)) else none))) G) : tI1 dw Dn [.val (.int p), .val (.str s), .ownD (kdc p), .own (ps.map D.str), .no, .no] G := by
  unfold tI1
  have hS := sizeLine_eq
  have hlk := lk_knw p
  walk_at "ev"
  rw [List.length_map]
  refine ifD (fun z => ?_) (fun z => ?_)
  · have z : (60 : Int) < (ps.length : Int) := z
    rw [if_neg (show ¬ (ps.length ≤ 60 ∧ (ps.all fun x => (knw p x).isSome) = true) from fun q => by have := q.1; omega)] at h
    walk_at "ev"
    exact h
  have z : ¬ (60 : Int) < (ps.length : Int) := z
  walk_at "ev"
  refine ⟨by rw [List.length_map]; omega, ?_⟩
  refine lc_map0 D.str (fun x => D.bl (knw p x).isSome) (fun _ => True) (fun x k1 k2 _ e2 => ?_) (fun _ _ => trivial) ?_
  · clear h
    walk_at "ev"
    rw [hlk, if_neg (by decide), Option.isSome_map]
    exact e2 _ rfl
  walk_at "ev"
  refine ⟨_, bls_map _ _, ?_⟩
  rw [show (fun bs : List Bool => bs.all id) (ps.map fun x => (knw p x).isSome) = ps.all fun x => (knw p x).isSome from List.all_map ..]
  walk_at "ev"
  refine ifB (fun y => ?_) (fun y => ?_)
  · rw [if_neg (show ¬ (ps.length ≤ 60 ∧ (ps.all fun x => (knw p x).isSome) = true) from fun q => by rw [q.2] at y; cases y)] at h
    walk_at "ev"
    exact h
  · have all : (ps.all fun x => (knw p x).isSome) = true := by
      cases e : ps.all fun x => (knw p x).isSome with
      | true => rfl
      | false => rw [e] at y; cases y
    rw [if_pos (show ps.length ≤ 60 ∧ (ps.all fun x => (knw p x).isSome) = true from ⟨by omega, all⟩)] at h
    walk_at "ev"
    refine ⟨by rw [List.length_map]; omega, ?_⟩
    refine lc_flt D.str (fun x => (knw p x).map D.int) (fun x => (knw p x).isSome = true) (fun x k1 k2 hx e1 e2 => ?_) (fun x hx => List.all_eq_true.mp all x hx) ?_
    · clear h
      obtain ⟨v, hv⟩ := Option.isSome_iff_exists.mp hx
      have hlk := hlk x
      rw [hv] at hlk
      walk_at "ev"
      refine ⟨.int v, congrArg some hlk, ?_⟩
      walk_at "ev"
      exact e1 _ _ (by rw [hv]; rfl) rfl
    rw [← List.map_filterMap]
    walk_at "ev"
    exact h
theorem p_letters_in : ∀ ds G q dw, sp_letters_in ds G q dw → t_letters_in dw { nx := fun _ G' => q (.val .non) G', rt := q } (start3 ["prime", "text", "known", "parts", "letter", "part"] ds) G := by
  intro ds G q dw h
  rw [tI_eq]
  obtain ⟨p, d, rfl, hp, hv, h⟩ := h
  have hS := sizeLine_eq
  have hpl := hp.le
  rcases hv with ⟨s, rfl, hok, hl⟩ | rfl | ⟨i, rfl⟩ | ⟨xs, rfl⟩
  case inr.inl => walk_at "ev"; exact h
  case inr.inr.inl => walk_at "ev"; exact h
  case inr.inr.inr => walk_at "ev"; exact h
  walk_at "ev"
  refine ⟨shC_of hok, shC_of rfl, ?_⟩
  refine ⟨_, rfl, ?_⟩
  refine ifQ (eqvS _ _) (fun z => ?_) (fun z => ?_)
  · rw [show linD p (.str s) = some [] from if_pos z] at h
    walk_at "ev"
    exact h
  walk_at "ev"
  refine ⟨by omega, by omega, ?_⟩
  have dc : ∀ (m i : Nat) (E : Env3) (k : D → Env3 → Reg → Prop), E = [.val (.int p), .val (.str s), .no, .no, .no, .no] → i + m = p.toNat → k (.dcK (kks p.toNat) (kds p.toNat)) E G →
      dTurnsD (gNm 4) dYes (dPutB (dCB bStr (dPCons (dVar 4) dNil)) (dVar 4)) [4] ((List.range' i m).map fun (k : Nat) => D.int (k : Int)) (.dcK (kks i) (kds i)) E G k := by
    intro m
    induction m with
    | zero =>
      intro i E k hE hi hk
      rw [show p.toNat = i by omega] at hk
      exact hk
    | succ m ih =>
      intro i E k hE hi hk
      have ih2 := ih (i + 1)
      subst hE
      clear h ih
      have hlog := small_log (x := (i : Int)) (by omega) (by omega)
      have hnx := set_next (n := i) (by omega)
      rw [sgn_str] at hnx
      show (gNm 4) (.int (i : Int)) _ _ _
      walk_at "ev"
      refine ⟨by show (kks i).length < _; unfold kks; rw [List.length_map, List.length_range]; omega, _, hnx, ?_⟩
      exact ih2 _ k rfl (by omega) hk
  rw [rangeD_map, List.range_eq_range']
  refine dc p.toNat 0 _ _ rfl (by omega) ?_
  have hst := set_t (n := p.toNat) (by omega)
  have hkl : lenD (.dcK (kks p.toNat) (kds p.toNat)) < sizeLine := by show (kks p.toNat).length < _; unfold kks; rw [List.length_map, List.length_range]; omega
  have hlin : linD p (.str s) = if (Txt.split s " ").length ≤ 60 ∧ (Txt.split s " ").all (fun x => (knw p x).isSome) = true then some ((Txt.split s " ").filterMap (knw p)) else none := if_neg z
  have hmany := split_many s
  clear dc
  rw [hlin] at h
  walk_at "ev"
  rw [put_t (by omega), putd_t (by omega)]
  refine ⟨by omega, ?_⟩
  walk_at "ev"
  exact p_tI (by omega) h
/-- the signs of a text that are no figures -/
def odd (x : Str) : List Nat := x.cps.toList.filter fun c => !decide (c ∈ figs.cps.toList)
theorem odd_sok {x : Str} (ht : x ≠ "t") : sok x = (decide (odd x = []) && (decide (1 ≤ x.length) && decide (x.length ≤ 2))) := by
  unfold sok
  rw [decide_eq_false ht, Bool.false_or]
  congr 1
  unfold odd
  rw [Bool.eq_iff_iff, decide_eq_true_iff, List.filter_eq_nil_iff, List.all_eq_true]
  exact ⟨fun h c hc => by rw [h c hc]; decide, fun h c hc => by have := h c hc; simpa using this⟩
@[irreducible] def tCk : DSt :=
  (dIfS (dOr (dAnd (dTest (dOp oNe (dVar 3) (dC (.str "t")))) (dTest (dOp oNe (dLc (dIter (dVar 3)) (gNm 5) (dTest (dOp (oIn true) (dVar 5) (dC (.str "0123456789")))) (dVar 5) [5]) (dLst dNil)))) (dNot (dTest (dChain oLe oLe (dC (.int (1))) (dCB bLen (dPCons (dVar 3) dNil)) (dC (.int (2))))))) (dRet (dLst (dCons (dC (.int (0))) dNil))) dNext)
@[irreducible] def tAdd : DSt :=
  (dDrop (dApp 2 (dIf (dTest (dOp oEq (dVar 3) (dC (.str "t")))) (dUn uNeg (dC (.int (1)))) (dCB bIntS (dPCons (dVar 3) dNil)))))
theorem tO_eq (dw : Exc3 → Reg → Prop) : t__law_own_read dw =
  (dSeq (dIfS (dTest (dOp oEq (dVar 1) (dC (.str ".")))) (dRet (dTup dNil)) dNext)
    (dSeq (dSet 2 (dLst dNil))
    (dSeq (dFor (dIter (dSplit (dVar 1) (dC (.str " ")))) (gNm 3) (dSeq tCk
    tAdd))
    (dSeq (dSet 4 (dAndV (dOp oEq (dCall sp__law_wd_text (fun x _ G => dw x G) (dCons (dCB bTuple (dPCons (dVar 2) dNil)) dNil)) (dVar 1)) (dCall sp__law_wd_is_point (fun x _ G => dw x G) (dCons (dVar 0) (dCons (dCB bTuple (dPCons (dVar 2) dNil)) dNil)))))
    (dRet (dIf (dTest (dVar 4)) (dCB bTuple (dPCons (dVar 2) dNil)) (dLst (dCons (dC (.int (0))) dNil)))))))) := by
  unfold tCk tAdd; rfl
theorem ck_step {Dn : Ends3} {G : Reg} {p : Int} {s x : Str} {acc : List D} {s4 s5 : Sl3} (xok : strOkC x = true) (xl : x.length ≤ 400) (h1 : sok x = true → ∀ s5, Dn.nx [.val (.int p), .val (.str s), .own acc, .val (.str x), s4, s5] G) (h2 : sok x = false → Dn.rt (.fr [.int 0]) G) :
    tCk Dn [.val (.int p), .val (.str s), .own acc, .val (.str x), s4, s5] G := by
  unfold tCk
  have hS := sizeLine_eq
  walk_at "ev"
  refine ⟨shC_of xok, shC_of rfl, ?_⟩
  refine ⟨_, rfl, ?_⟩
  have lenpart : ∀ s5, (x = "t" ∨ odd x = []) → (dNot (dTest (dChain oLe oLe (dC (.int (1))) (dCB bLen (dPCons (dVar 3) dNil)) (dC (.int (2)))))) [.val (.int p), .val (.str s), .own acc, .val (.str x), s4, s5] G (fun b E1 G1 => if b = true then dRet (dLst (dCons (dC (.int 0)) dNil)) Dn E1 G1 else dNext Dn E1 G1) := by
    intro s5 hx
    have hs : sok x = (decide (1 ≤ x.length) && decide (x.length ≤ 2)) := by
      by_cases ht : x = "t"
      · subst ht; decide
      · rw [odd_sok ht, decide_eq_true (hx.resolve_left ht), Bool.true_and]
    walk_at "ev"
    refine ⟨by omega, ?_⟩
    walk_at "ev"
    refine ifD (fun y1 => ?_) (fun y1 => ?_)
    · have y1 : (1 : Int) ≤ (x.length : Int) := y1
      walk_at "ev"
      have eb : (fun i j : Int => decide (i ≤ j)) (x.length : Int) 2 = decide ((x.length : Int) ≤ 2) := rfl
      rw [eb]
      by_cases y2 : (x.length : Int) ≤ 2
      · rw [decide_eq_true y2]
        walk_at "ev"
        exact h1 (by rw [hs, decide_eq_true (by omega), decide_eq_true (by omega)]; rfl) _
      · rw [decide_eq_false y2]
        walk_at "ev"
        exact h2 (by rw [hs, decide_eq_false (show ¬ x.length ≤ 2 by omega), Bool.and_false])
    · have y1 : ¬ (1 : Int) ≤ (x.length : Int) := y1
      walk_at "ev"
      exact h2 (by rw [hs, decide_eq_false (show ¬ 1 ≤ x.length by omega), Bool.false_and])
  refine ifNQ (eqvS _ _) (fun z => ?_) (fun z => ?_)
  · have hsl : (strD x).length = x.length := by unfold strD; rw [List.length_map]; rfl
    walk_at "ev"
    refine ⟨by omega, ?_⟩
    unfold strD
    refine lc_flt (fun c : Nat => D.str ⟨#[c]⟩) (fun c => if c ∈ figs.cps.toList then none else some (D.str ⟨#[c]⟩)) (fun _ => True) (fun c k1 k2 _ e1 e2 => ?_) (fun _ _ => trivial) ?_
    · clear h1 h2 lenpart
      walk_at "ev"
      rw [if_pos rfl]
      show (if (!decide (c ∈ figs.cps.toList)) = true then _ else _)
      by_cases y : c ∈ figs.cps.toList
      · rw [decide_eq_true y]
        exact e2 _ (if_pos y) rfl
      · rw [decide_eq_false y]
        walk_at "ev"
        exact e1 _ _ (if_neg y) rfl
    have eo : (x.cps.toList.filterMap fun c => if c ∈ figs.cps.toList then none else some (D.str ⟨#[c]⟩)) = (odd x).map fun c => D.str ⟨#[c]⟩ := by
      unfold odd
      generalize x.cps.toList = l
      induction l with
      | nil => rfl
      | cons c l ih =>
        by_cases y : c ∈ figs.cps.toList
        · rw [List.filterMap_cons_none (by exact if_pos y), List.filter_cons_of_neg (by rw [decide_eq_true y]; decide), ih]
        · rw [List.filterMap_cons_some (b := D.str ⟨#[c]⟩) (by exact if_neg y), List.filter_cons_of_pos (by rw [decide_eq_false y]; rfl), ih]; rfl
    have hsh : D.sh (.lst ((odd x).map fun c => D.str ⟨#[c]⟩)) = true := by
      have := sh_ss ((odd x).map fun c => (⟨#[c]⟩ : Str)) (List.all_eq_true.mpr fun t ht => by
        obtain ⟨c, hc, rfl⟩ := List.mem_map.mp ht
        have := List.all_eq_true.mp xok c (List.mem_filter.mp hc).1
        show (Nat.blt c 0x110000 && true) = true
        rw [this]; rfl)
      rw [List.map_map] at this
      exact this
    rw [eo]
    walk_at "ev"
    refine ifNQ (show D.eqv (.lst ((odd x).map fun c => D.str ⟨#[c]⟩)) (.lst []) = decide (odd x = []) by cases odd x <;> rfl) (fun y => ?_) (fun y => ?_)
    · walk_at "ev"
      exact h2 (by rw [odd_sok z, decide_eq_false y, Bool.false_and])
    · exact lenpart _ (.inr y)
  · exact lenpart _ (.inl z)
theorem add_step {Dn : Ends3} {G : Reg} {p : Int} {s x : Str} {acc : List D} {s4 s5 : Sl3} (xok : strOkC x = true) (hx : sok x = true) (hl : acc.length ≤ 500) (h : Dn.nx [.val (.int p), .val (.str s), .own (acc ++ [.int (sval x)]), .val (.str x), s4, s5] G) :
    tAdd Dn [.val (.int p), .val (.str s), .own acc, .val (.str x), s4, s5] G := by
  unfold tAdd
  have hS := sizeLine_eq
  walk_at "ev"
  refine ⟨shC_of xok, shC_of rfl, ?_⟩
  refine ⟨_, rfl, ?_⟩
  refine ifQ (eqvS _ _) (fun z => ?_) (fun z => ?_)
  · rw [show sval x = -1 from if_pos z] at h
    walk_at "ev"
    refine ⟨by omega, ?_⟩
    exact h
  · obtain ⟨v, hv, _⟩ := sok_val hx z
    rw [show sval x = v by unfold sval; rw [if_neg z, hv]; rfl] at h
    have xl : x.length ≤ 640 := by
      unfold sok at hx
      rw [Bool.and_eq_true, Bool.and_eq_true] at hx
      have := of_decide_eq_true hx.2.2
      omega
    walk_at "ev"
    refine ⟨_, hv, xl, ?_⟩
    walk_at "ev"
    refine ⟨by omega, ?_⟩
    exact h
theorem p__law_own_read : ∀ ds G q dw, sp__law_own_read ds G q dw → t__law_own_read dw { nx := fun _ G' => q (.val .non) G', rt := q } (start3 ["_law_prime", "_law_text", "_law_found", "_law_sign", "_law_is_right", "_law_one"] ds) G := by
  intro ds G q dw h
  rw [tO_eq]
  obtain ⟨p, s, rfl, hp, ⟨hok, hl⟩, h⟩ := h
  have hS := sizeLine_eq
  have hpl := hp.le
  rw [← own_lin hp] at h
  walk_at "ev"
  refine ⟨shC_of hok, shC_of rfl, ?_⟩
  refine ⟨_, rfl, ?_⟩
  refine ifQ (eqvS _ _) (fun z => ?_) (fun z => ?_)
  · rw [show own p s = some [] from if_pos z] at h
    walk_at "ev"
    exact h
  have ho : own p s = if (Txt.split s " ").all sok = true then (if txt ((Txt.split s " ").map sval) = s ∧ ptb p ((Txt.split s " ").map sval) = true then some ((Txt.split s " ").map sval) else none) else none := if_neg z
  rw [ho] at h
  have hmany := split_many s
  have hparts : ∀ x ∈ Txt.split s " ", strOkC x = true ∧ x.length ≤ 400 := fun x hx => ⟨split_ok hok hx, Nat.le_trans (split_part s x hx).2 hl⟩
  walk_at "ev"
  refine ⟨by omega, ?_⟩
  generalize Txt.split s " " = ps at h ho hmany hparts
  clear ho
  walk_at "ev"
  refine Stop.go ?_
  refine for_ind (fun ds E G2 => G2 = G ∧ ∃ (dn rs : List Str) (s3 s4 s5 : Sl3), dn ++ rs = ps ∧ dn.all sok = true ∧ ds = rs.map D.str ∧ E = [.val (.int p), .val (.str s), .own ((dn.map sval).map D.int), s3, s4, s5]) (fun E G2 hI => ?_) (fun d ds E G2 nx hI hn => ?_) _ _ _ ⟨rfl, [], ps, _, _, _, rfl, rfl, rfl, rfl⟩
  · obtain ⟨rfl, dn, rs, s3, s4, s5, hd, ha, e1, rfl⟩ := hI
    have : rs = [] := List.map_eq_nil_iff.mp e1.symm
    subst this
    rw [List.append_nil] at hd
    subst hd
    rw [if_pos ha] at h
    have hlim : ∀ v ∈ dn.map sval, -1 ≤ v ∧ v < 100 := fun v hv => by
      obtain ⟨x, hx, rfl⟩ := List.mem_map.mp hv
      exact sval_lim (List.all_eq_true.mp ha x hx)
    have hfl : (dn.map sval).length ≤ 500 := by rw [List.length_map]; omega
    generalize dn.map sval = xs at h hlim hfl
    clear hparts hmany ha
    have htl := txt_ok hlim
    walk_at "ev"
    refine ⟨by omega, hlim, ?_⟩
    walk_at "ev"
    refine ⟨shC_of htl, shC_of hok, ?_⟩
    refine ⟨_, rfl, ?_⟩
    refine ifQ (eqvS _ _) (fun y => ?_) (fun y => ?_)
    · walk_at "ev"
      refine ⟨by omega, ?_⟩
      walk_at "ev"
      refine ifB (fun w => ?_) (fun w => ?_)
      · rw [if_pos (show txt xs = s ∧ ptb p xs = true from ⟨y, w⟩)] at h
        walk_at "ev"
        exact h
      · rw [if_neg (show ¬ (txt xs = s ∧ ptb p xs = true) from fun q => by rw [q.2] at w; cases w)] at h
        walk_at "ev"
        exact h
    · rw [if_neg (show ¬ (txt xs = s ∧ ptb p xs = true) from fun q => y q.1)] at h
      walk_at "ev"
      exact h
  · obtain ⟨rfl, dn, rs, s3, s4, s5, hd, ha, e1, rfl⟩ := hI
    cases rs with
    | nil => cases e1
    | cons x rs =>
      obtain ⟨rfl, rfl⟩ := List.cons.inj e1
      obtain ⟨xok, xl⟩ := hparts x (by rw [← hd]; simp)
      have hl2 : (dn.map sval).length ≤ 500 := by
        have := congrArg List.length hd
        rw [List.length_append, List.length_cons] at this
        rw [List.length_map]; omega
      walk_at "ev"
      refine ck_step xok xl (fun hx s5 => ?_) (fun hx => ?_)
      · walk_at "ev"
        refine add_step xok hx (by rw [List.length_map]; exact hl2) ?_
        have := hn [.val (.int p), .val (.str s), .own (((dn ++ [x]).map sval).map D.int), .val (.str x), s4, s5] G2 ⟨rfl, dn ++ [x], rs, _, _, _, by rw [List.append_assoc]; exact hd, by rw [List.all_append, ha, List.all_cons, hx]; rfl, rfl, rfl⟩
        rw [List.map_append, List.map_append] at this
        exact this
      · rw [if_neg (show ¬ ps.all sok = true from fun q => by rw [← hd, List.all_append, List.all_cons, hx, Bool.false_and, Bool.and_false] at q; cases q)] at h
        exact h
theorem cut_in (z : Str) (lo hi : Option Int) : (∀ c ∈ (cutS z lo hi).cps.toList, c ∈ z.cps.toList) ∧ (cutS z lo hi).length ≤ z.length := by
  unfold cutS
  refine ⟨fun c hc => List.mem_of_mem_drop (List.mem_of_mem_take hc), ?_⟩
  show (List.toArray _).size ≤ z.cps.size
  rw [List.size_toArray, List.length_take, List.length_drop]
  have : z.cps.toList.length = z.cps.size := Array.length_toList
  omega
theorem cut_ok {z : Str} (h : strOkC z = true) (lo hi : Option Int) : strOkC (cutS z lo hi) = true :=
  List.all_eq_true.mpr fun c hc => List.all_eq_true.mp h c ((cut_in z lo hi).1 c hc)
def bsg : Str := "t 0123."
theorem at_bsg : ∀ r : Nat, r < 7 → ∃ c, atI bsg.cps.toList (r : Int) = some c ∧ strOkC ⟨#[c]⟩ = true := fun r hr => by
  match r, hr with
  | 0, _ => exact ⟨_, rfl, by decide⟩
  | 1, _ => exact ⟨_, rfl, by decide⟩
  | 2, _ => exact ⟨_, rfl, by decide⟩
  | 3, _ => exact ⟨_, rfl, by decide⟩
  | 4, _ => exact ⟨_, rfl, by decide⟩
  | 5, _ => exact ⟨_, rfl, by decide⟩
  | 6, _ => exact ⟨_, rfl, by decide⟩
theorem p__law_bent : ∀ ds G q dw, sp__law_bent ds G q dw → t__law_bent dw { nx := fun _ G' => q (.val .non) G', rt := q } (start3 ["_law_dice_here", "_law_text", "_law_at", "_law_sign"] ds) G := by
  intro ds G q dw h
  unfold t__law_bent
  obtain ⟨a, R, s, rfl, d, hok, hl, h⟩ := h
  have hS := sizeLine_eq
  walk_at "ev"
  refine ⟨by omega, ?_⟩
  walk_at "ev"
  refine ⟨a, R, _, rfl, d, by omega, by unfold BIG; omega, fun at_ G1 a0 a1 d1 => ?_⟩
  walk_at "ev"
  refine ⟨a, R, 7, rfl, d1, by decide, by decide, fun r G2 r0 r1 d2 => ?_⟩
  obtain ⟨rn, rfl⟩ : ∃ rn : Nat, r = (rn : Int) := ⟨r.toNat, by omega⟩
  obtain ⟨c, hc, cok⟩ := at_bsg rn (by omega)
  walk_at "ev"
  refine ⟨c, hc, ?_⟩
  have lo := cut_in s none (some at_)
  have hi := cut_in s (some at_) none
  have hi2 := cut_in s (some (at_ + 1)) none
  have ok1 := cut_ok hok none (some at_)
  have ok2 := cut_ok hok (some at_) none
  have ok3 := cut_ok hok (some (at_ + 1)) none
  have c1 : (⟨#[c]⟩ : Str).length = 1 := rfl
  have hsl : s.length ≤ sizeLine := by omega
  walk_at "ev"
  refine ⟨by rw [c1]; omega, ?_⟩
  walk_at "ev"
  refine ⟨by rw [c1]; omega, ?_⟩
  walk_at "ev"
  refine ⟨a, R, 3, rfl, d2, by decide, by decide, fun w G3 w0 w1 d3 => ?_⟩
  have hp : ∃ t : Str, atI [D.str ((⟨#[c]⟩ : Str) ++ cutS s (some at_) none), D.str (cutS s (some (at_ + 1)) none), D.str ((⟨#[c]⟩ : Str) ++ cutS s (some (at_ + 1)) none)] w = some (.str t) ∧ strOkC t = true ∧ t.length ≤ 191 := by
    have hw : w = 0 ∨ w = 1 ∨ w = 2 := by omega
    rcases hw with rfl | rfl | rfl
    · exact ⟨_, rfl, LR.ok_app cok ok2, by rw [Str.length_append, c1]; omega⟩
    · exact ⟨_, rfl, ok3, by omega⟩
    · exact ⟨_, rfl, LR.ok_app cok ok3, by rw [Str.length_append, c1]; omega⟩
  obtain ⟨t, ht, tok, tl⟩ := hp
  walk_at "ev"
  refine ⟨_, ht, ?_⟩
  walk_at "ev"
  refine ⟨by omega, ?_⟩
  walk_at "ev"
  exact h _ _ ⟨LR.ok_app ok1 tok, by rw [Str.length_append]; omega⟩ d3
end K09

set_option Elab.async false
set_option maxRecDepth 100000
set_option maxHeartbeats 4000000
set_option exponentiation.threshold 2000
/-! K09: points read, words through points, branches read -/
namespace K09
open PySem PySem.Spec PyProof.Rows L2 L3 LD LN LP
open LB (br)
open LM (ifTq ifFq lc_map0)
open LG (ifND ifNB)
local macro_rules | `(tactic| walk_at "ev") => `(tactic| repeat (first | refine lc_stop ?_ | refine for_stop ?_ | refine ⟨_, rfl, ?_⟩ | refine ⟨_, _, rfl, ?_⟩ | refine ⟨rfl, ?_⟩ | refine And.intro (by assumption) ?_ | refine ⟨by decide, ?_⟩ | refine ⟨ltL rfl, ?_⟩ | refine ⟨_, at0, ?_⟩ | refine ⟨_, at1, ?_⟩ | refine ⟨_, at2, ?_⟩ | refine ifT ?_ | refine ifF ?_ | refine ⟨_, _, _, rfl, ?_⟩ | refine ⟨⟨_, rfl⟩, ?_⟩ | refine ⟨_, _, _, _, rfl, ?_⟩))
theorem linD_pt {p : Int} (hp : Pr p) {d : D} {xs : List Int} (h : linD p d = some xs) : Pt p xs := by
  unfold linD at h
  split at h
  · exact lin_pt hp h
  · cases h
theorem p_read_point : ∀ ds G q dw, sp_read_point ds G q dw → t_read_point dw { nx := fun _ G' => q (.val .non) G', rt := q } (start3 ["prime", "text", "found"] ds) G := by
  intro ds G q dw h
  unfold t_read_point
  obtain ⟨p, d, rfl, hp, hv, h⟩ := h
  walk_at "ev"
  cases e : linD p d with
  | none =>
    rw [e] at h
    walk_at "ev"
    exact h
  | some xs =>
    rw [e] at h
    walk_at "ev"
    exact h
theorem p_require_point : ∀ ds G q dw, sp_require_point ds G q dw → t_require_point dw { nx := fun _ G' => q (.val .non) G', rt := q } (start3 ["prime", "value"] ds) G := by
  intro ds G q dw h
  unfold t_require_point
  obtain ⟨p, ws, rfl, hp, hw, h⟩ := h
  walk_at "ev"
  exact h
theorem p_require_prime_point : ∀ ds G q dw, sp_require_prime_point ds G q dw → t_require_prime_point dw { nx := fun _ G' => q (.val .non) G', rt := q } (start3 ["prime", "value"] ds) G := by
  intro ds G q dw h
  unfold t_require_prime_point
  obtain ⟨p, ws, rfl, hp, hw, h⟩ := h
  walk_at "ev"
  exact h
theorem p_Branch_init : ∀ ds G q dw, sp_Branch_init ds G q dw → t_Branch_init dw { nx := fun E' G' => ∃ gs : List D, E'[0]? = some (Sl3.new "Branch" (gs.map some)) ∧ gs ≠ [] ∧ q gs G', rt := fun _ _ => False } (startI "Branch" ["self", "prime", "word"] ds) G := by
  intro ds G q dw h
  unfold t_Branch_init startI start3
  obtain ⟨p, ws, rfl, hp, hw, h⟩ := h
  have hl := hp.le
  have hS := sizeLine_eq
  walk_at "ev"
  refine ifNB (fun z => ?_) (fun z => ?_)
  · rw [if_neg (by rw [z]; decide)] at h
    walk_at "ev"
    exact h
  · rw [if_pos z] at h
    have hw1 : ∀ x ∈ ws, -1 ≤ x ∧ x < 100 := fun x hx => by have := hw.2 x hx; omega
    have hw2 : Pt 100 ws := ⟨hw.1, hw1⟩
    have htl := txt_len hw1
    have h60 := hw.1
    have e0 : Str.empty.length = 0 := rfl
    have e1 : (Str.ofString " over ").length = 6 := by decide
    have e2 : (Str.ofString (toString p)).length ≤ 2 := by
      have := (sgn_ok (v := p) (by omega) (by omega)).2.1
      rw [show sgn p = Str.ofString (toString p) from if_neg (by omega)] at this
      exact this
    have hlog : p.natAbs.log2 < 1920 := small_log (by omega) (by omega)
    walk_at "ev"
    refine ⟨by omega, ?_⟩
    walk_at "ev"
    refine ⟨by rw [Str.length_append]; omega, ?_⟩
    walk_at "ev"
    refine ⟨by rw [Str.length_append, Str.length_append]; omega, ?_⟩
    walk_at "ev"
    refine ⟨by rw [Str.length_append, Str.length_append, Str.length_append]; omega, ?_⟩
    walk_at "ev"
    exact ⟨[.int p, .str _, pt ws], rfl, by simp, h⟩
theorem p__law_read : ∀ ds G q dw, sp__law_read ds G q dw → t__law_read dw { nx := fun _ G' => q (.val .non) G', rt := q } (start3 ["_law_prime", "_law_text", "error"] ds) G := by
  intro ds G q dw h
  unfold t__law_read
  obtain ⟨p, d, rfl, hp, hv, h⟩ := h
  walk_at "ev"
  cases e : linD p d with
  | some xs =>
    rw [e] at h
    walk_at "ev"
    exact h
  | none =>
    rw [e] at h
    refine ⟨true, rfl, ?_⟩
    rw [if_pos rfl]
    refine ⟨(show 2 < 3 by decide), fun a => ?_⟩
    walk_at "ev"
    exact h
theorem p_point_text : ∀ ds G q dw, sp_point_text ds G q dw → t_point_text dw { nx := fun _ G' => q (.val .non) G', rt := q } (start3 ["prime", "point"] ds) G := by
  intro ds G q dw h
  unfold t_point_text
  obtain ⟨p, ws, rfl, hp, hw, h⟩ := h
  have hl := hp.le
  walk_at "ev"
  refine ⟨⟨hw.1, fun x hx => by have := hw.2 x hx; omega⟩, ?_⟩
  walk_at "ev"
  exact h
theorem p_word_through : ∀ ds G q dw, sp_word_through ds G q dw → t_word_through dw { nx := fun _ G' => q (.val .non) G', rt := q } (start3 ["prime", "point", "found"] ds) G := by
  intro ds G q dw h
  unfold t_word_through
  obtain ⟨p, ws, rfl, hp, hw, h⟩ := h
  walk_at "ev"
  refine ⟨hw.1, ?_⟩
  walk_at "ev"
  refine ifNB (fun z => ?_) (fun z => ?_)
  · rw [if_neg (by rw [z]; decide)] at h
    walk_at "ev"
    exact h
  · rw [if_pos z] at h
    walk_at "ev"
    exact h
theorem p_Branch_read : ∀ ds G q dw, sp_Branch_read ds G q dw → t_Branch_read dw { nx := fun _ G' => q (.val .non) G', rt := q } (start3 ["cls", "prime", "text"] ds) G := by
  intro ds G q dw h
  unfold t_Branch_read
  obtain ⟨p, d, rfl, hp, hv, h⟩ := h
  walk_at "ev"
  cases e : linD p d with
  | none =>
    rw [e] at h
    exact h
  | some xs =>
    rw [e] at h
    have hx := linD_pt hp e
    walk_at "ev"
    have h : if wdb xs = true then q (.val (br p xs (bt p xs))) G else dw exW G := h
    by_cases z : wdb xs = true
    · rw [if_pos z] at h ⊢
      walk_at "ev"
      exact h
    · rw [if_neg z] at h ⊢
      exact h
theorem p__law_through : ∀ ds G q dw, sp__law_through ds G q dw → t__law_through dw { nx := fun _ G' => q (.val .non) G', rt := q } (start3 ["_law_prime", "_law_point"] ds) G := by
  intro ds G q dw h
  unfold t__law_through
  obtain ⟨p, ws, rfl, hp, hw, h⟩ := h
  walk_at "ev"
  by_cases z : wdb (bare ws) = true
  · rw [if_pos z] at h ⊢
    walk_at "ev"
    exact h
  · rw [if_neg z] at h ⊢
    refine ⟨true, rfl, ?_⟩
    rw [if_pos rfl]
    intro a
    walk_at "ev"
    exact h
theorem p__law_branch : ∀ ds G q dw, sp__law_branch ds G q dw → t__law_branch dw { nx := fun _ G' => q (.val .non) G', rt := q } (start3 ["_law_prime", "_law_text", "error"] ds) G := by
  intro ds G q dw h
  unfold t__law_branch
  obtain ⟨p, d, rfl, hp, hv, h⟩ := h
  walk_at "ev"
  cases e : linD p d with
  | none =>
    rw [e] at h
    refine ⟨true, rfl, ?_⟩
    rw [if_pos rfl]
    refine ⟨(show 2 < 3 by decide), fun a => ?_⟩
    walk_at "ev"
    rw [show (("parse " : Str) ++ (D.int 0).py.shown : Str) = ("parse 0" : Str) by decide +kernel]
    exact h
  | some xs =>
    rw [e] at h
    by_cases z : wdb xs = true
    · rw [show brW p (some xs) = br p xs (bt p xs) from if_pos z] at h
      show (if wdb xs = true then _ else _)
      rw [if_pos z]
      walk_at "ev"
      exact h
    · rw [show brW p (some xs) = .str "word" from if_neg z] at h
      show (if wdb xs = true then _ else _)
      rw [if_neg z]
      refine ⟨false, rfl, ?_⟩
      rw [if_neg (by decide)]
      refine ⟨true, rfl, ?_⟩
      rw [if_pos rfl]
      intro a
      walk_at "ev"
      exact h
end K09

set_option Elab.async false
set_option maxRecDepth 100000
set_option maxHeartbeats 4000000
set_option exponentiation.threshold 2000
/-! K09: the law -/
namespace K09
open PySem PySem.Spec PyProof.Rows L2 L3 LD LN LP
open LB (br)
open LM (ifTq ifFq lc_map0)
open LG (ifND ifNB)
local macro_rules | `(tactic| walk_at "ev") => `(tactic| repeat (first | refine lc_stop ?_ | refine for_stop ?_ | refine ⟨_, rfl, ?_⟩ | refine ⟨_, _, rfl, ?_⟩ | refine ⟨rfl, ?_⟩ | refine And.intro (by assumption) ?_ | refine ⟨by decide, ?_⟩ | refine ⟨ltL rfl, ?_⟩ | refine ⟨_, at0, ?_⟩ | refine ⟨_, at1, ?_⟩ | refine ⟨_, at2, ?_⟩ | refine ifT ?_ | refine ifF ?_ | refine ⟨_, _, _, rfl, ?_⟩ | refine ⟨⟨_, rfl⟩, ?_⟩ | refine ⟨_, _, _, _, rfl, ?_⟩))
@[irreducible] def tL3 (dw : Exc3 → Reg → Prop) : DSt :=
  (dSeq (dIfS (dAnd (dTest (dCB (bIsiA ["Branch"] ["Branch"] [(("Branch", "Branch"), true)]) (dPCons (dVar 9) (dPCons (dC (.ty "list")) dNil)))) (dTest (dOp oNe (dVar 8) (dC (.str "parse 0"))))) (dRet (dC (.bl false))) dNext)
    (dSeq (dSet 10 (dAndV (dCB (bIsiA ["Branch"] ["Branch"] [(("Branch", "Branch"), true)]) (dPCons (dVar 9) (dPCons (dC (.ty "tuple")) dNil))) (dCall sp__law_wd_is_word (fun x _ G => dw x G) (dCons (dVar 1) (dCons (dVar 9) dNil)))))
    (dIfS (dOr (dAnd (dTest (dVar 10)) (dTest (dNeO "Branch" sp_Branch_eq (dVar 8) (dMake "Branch" sp_Branch_init (dCons (dVar 1) (dCons (dVar 9) dNil)))))) (dAnd (dTest (dCB (bIsiA ["Branch"] ["Branch"] [(("Branch", "Branch"), true)]) (dPCons (dVar 9) (dPCons (dC (.ty "tuple")) dNil)))) (dAnd (dNot (dTest (dVar 10))) (dTest (dOp oNe (dVar 8) (dC (.str "word"))))))) (dRet (dC (.bl false))) dNext)))
@[irreducible] def tL2 (dw : Exc3 → Reg → Prop) : DSt :=
  (dSeq (dPar 8 9 (dCall sp__law_branch (fun x _ G => dw x G) (dCons (dVar 1) (dCons (dVar 7) dNil))) (dCall sp__law_own_read (fun x _ G => dw x G) (dCons (dVar 1) (dCons (dVar 7) dNil)))) (tL3 dw))
@[irreducible] def tL1 (dw : Exc3 → Reg → Prop) : DSt :=
  (dSeq (dIfS (dTest (dOp oNe (dCB bReprG (dPCons (dCall sp__law_read (fun x _ G => dw x G) (dCons (dVar 1) (dCons (dVar 7) dNil))) dNil)) (dCB bReprG (dPCons (dCall sp__law_own_read (fun x _ G => dw x G) (dCons (dVar 1) (dCons (dVar 7) dNil))) dNil)))) (dRet (dC (.bl false))) dNext) (tL2 dw))
@[irreducible] def tL0 (dw : Exc3 → Reg → Prop) : DSt :=
  (dSeq (dSet 7 (dCall sp__law_bent (fun x _ G => dw x G) (dCons (dVar 0) (dCons (dVar 3) dNil)))) (tL1 dw))
@[irreducible] def tB4 (dw : Exc3 → Reg → Prop) : DSt :=
  (dSeq (dSet 11 (dCall sp__law_pick (fun x _ G => dw x G) (dCons (dVar 0) (dCons (dLst (dCons (dC .non) (dCons (dC (.int (0))) (dCons (dTup dNil) (dCons (dTup (dCons (dC (.int (0))) (dCons (dC (.int (1))) dNil))) (dCons (dC (.str "")) (dCons (dC (.str " ")) (dCons (dC (.str "0  1")) (dCons (dC (.str "0 1 ")) (dCons (dC (.str "T")) (dCons (dC (.str "t1")) (dCons (dC (.str "01")) (dCons (dC (.str "-1")) (dCons (dC (.str "1,2")) (dCons (dC (.str "0 t .")) dNil))))))))))))))) dNil))))
    (dRet (dAndV (dOp oEq (dCall sp__law_read (fun x _ G => dw x G) (dCons (dVar 1) (dCons (dVar 11) dNil))) (dLst (dCons (dC (.int (0))) dNil))) (dOp oEq (dCall sp__law_branch (fun x _ G => dw x G) (dCons (dVar 1) (dCons (dVar 11) dNil))) (dC (.str "parse 0"))))))
@[irreducible] def tB3 (dw : Exc3 → Reg → Prop) : DSt :=
  (dSeq (dFor (dRng1 (dCons (dC (.int (5))) dNil)) (gNm 6) (tL0 dw))
    (tB4 dw))
@[irreducible] def tB2 (dw : Exc3 → Reg → Prop) : DSt :=
  (dSeq (dSet 5 (dIf (dTest (dCall sp__law_wd_is_word (fun x _ G => dw x G) (dCons (dVar 1) (dCons (dVar 4) dNil)))) (dVar 4) (dC (.str "none"))))
    (dSeq (dIfS (dTest (dOp oNe (dCall sp__law_through (fun x _ G => dw x G) (dCons (dVar 1) (dCons (dVar 2) dNil))) (dVar 5))) (dRet (dC (.bl false))) dNext)
    (tB3 dw)))
@[irreducible] def tB1 (dw : Exc3 → Reg → Prop) : DSt :=
  (dSeq (dIfS (dOr (dTest (dOp oNe (dCall sp_point_text (fun x _ G => dw x G) (dCons (dVar 1) (dCons (dVar 2) dNil))) (dVar 3))) (dTest (dOp oNe (dCall sp__law_read (fun x _ G => dw x G) (dCons (dVar 1) (dCons (dVar 3) dNil))) (dVar 2)))) (dRet (dC (.bl false))) dNext)
    (tB2 dw))
theorem tB_eq (dw : Exc3 → Reg → Prop) : t__law_right dw =
  (dSeq (dSet 1 (dCall sp__law_pick (fun x _ G => dw x G) (dCons (dVar 0) (dCons (dLst (dCons (dC (.int (2))) (dCons (dC (.int (3))) (dCons (dC (.int (5))) (dCons (dC (.int (11))) (dCons (dC (.int (13))) (dCons (dC (.int (31))) dNil))))))) dNil))))
    (dSeq (dSet 2 (dCall sp__law_point_drawn (fun x _ G => dw x G) (dCons (dVar 0) (dCons (dVar 1) (dCons (dCall sp__law_pick (fun x _ G => dw x G) (dCons (dVar 0) (dCons (dLst (dCons (dC (.int (2))) (dCons (dC (.int (6))) (dCons (dC (.int (60))) dNil)))) dNil))) dNil)))))
    (dSeq (dPar 3 4 (dCall sp__law_wd_text (fun x _ G => dw x G) (dCons (dVar 2) dNil)) (dCall sp__law_wd_bare (fun x _ G => dw x G) (dCons (dVar 2) dNil)))
    (tB1 dw)))) := by
  unfold tB1 tB2 tB3 tB4 tL0 tL1 tL2 tL3; rfl
@[irreducible] def tC1 (dw : Exc3 → Reg → Prop) : DSt :=
  (dSeq (dSet 4 (dLst (dCons (dCall sp_point_text (fun x _ G => dw x G) (dCons (dC (.int (11))) (dCons (dTup (dCons (dC (.int (10))) (dCons (dUn uNeg (dC (.int (1)))) dNil))) dNil))) (dCons (dCall sp_read_point (fun x _ G => dw x G) (dCons (dC (.int (3))) (dCons (dC (.str "t t 0")) dNil))) (dCons (dCall sp_word_through (fun x _ G => dw x G) (dCons (dC (.int (3))) (dCons (dTup (dCons (dC (.int (1))) (dCons (dC (.int (2))) (dCons (dC (.int (0))) (dCons (dC (.int (0))) dNil))))) dNil))) (dCons (dCall sp_word_through (fun x _ G => dw x G) (dCons (dC (.int (3))) (dCons (dTup (dCons (dUn uNeg (dC (.int (1)))) (dCons (dC (.int (0))) dNil))) dNil))) dNil))))))
    (dSeq (dIfS (dOr (dTest (dOp oNe (dVar 4) (dLst (dCons (dC (.str "10 t")) (dCons (dTup (dCons (dUn uNeg (dC (.int (1)))) (dCons (dUn uNeg (dC (.int (1)))) (dCons (dC (.int (0))) dNil)))) (dCons (dTup (dCons (dC (.int (1))) (dCons (dC (.int (2))) dNil))) (dCons (dTup (dCons (dUn uNeg (dC (.int (1)))) dNil)) dNil))))))) (dTest (dOp oNe (dCall sp__law_through (fun x _ G => dw x G) (dCons (dC (.int (3))) (dCons (dTup (dCons (dC (.int (1))) (dCons (dUn uNeg (dC (.int (1)))) (dCons (dC (.int (0))) dNil)))) dNil))) (dC (.str "none"))))) (dRet (dC (.bl false))) dNext)
    (dRet (dAndV (dOp oEq (dCall sp__law_read (fun x _ G => dw x G) (dCons (dC (.int (3))) (dCons (dC (.str "0 3")) dNil))) (dLst (dCons (dC (.int (0))) dNil))) (dAndV (dOp oEq (dCall sp__law_branch (fun x _ G => dw x G) (dCons (dC (.int (3))) (dCons (dC (.str "0 t")) dNil))) (dC (.str "word"))) (dOp oEq (dStrO "Branch" sp_Branch_str (dPCons (dCMeth "Branch" sp_Branch_read (fun x _ G => dw x G) (dC (.cls "Branch")) (dCons (dC (.int (3))) (dCons (dC (.str ".")) dNil))) dNil)) (dC (.str ". over 3"))))))))
theorem tC_eq (dw : Exc3 → Reg → Prop) : t_law dw =
  (dSeq (dFor (dRng1 (dCons (dCB bMax (dPCons (dC (.int (1))) (dPCons (dCB bMin (dPCons (dC (.int (4))) (dPCons (dCB bLen (dPCons (dVar 0) dNil)) dNil))) dNil))) dNil)) (gNm 1) (dSeq (dSetReg 2 (dCall sp__law_dice (fun x _ G => dw x G) (dCons (dVar 0) (dCons (dVar 1) dNil))))
    (dFor (dRng1 (dCons (dC (.int (2))) dNil)) (gNm 3) (dIfS (dNot (dTest (dCall sp__law_right (fun x _ G => dw x G) (dCons (dVar 2) dNil)))) (dRet (dC (.bl false))) dNext))))
    (tC1 dw)) := by
  unfold tC1; rfl
theorem odd_none : ∀ p ∈ LN.primes, ∀ s ∈ ([("" : Str), " ", "0  1", "0 1 ", "T", "t1", "01", "-1", "1,2", "0 t ."] : List Str), lin p s = none := by decide +kernel
theorem lin1 : lin 3 ("t t 0" : Str) = some [-1, -1, 0] := by decide +kernel
theorem lin2 : lin 3 ("0 3" : Str) = none := by decide +kernel
theorem lin3 : lin 3 ("0 t" : Str) = some [0, -1] := by decide +kernel
theorem lin4 : lin 3 ("." : Str) = some [] := by decide +kernel
theorem txt1 : txt [10, -1] = ("10 t" : Str) := by decide +kernel
theorem bt1 : bt 3 [] = (". over 3" : Str) := by decide +kernel
theorem wd1 : bare [1, 2, 0, 0] = [1, 2] := by decide +kernel
theorem wd2 : bare [-1, 0] = [-1] := by decide +kernel
theorem wd3 : bare [1, -1, 0] = [1, -1] := by decide +kernel
theorem wdb3 : wdb [0, -1] = false := by decide +kernel
theorem brw3 : brW 3 (some [0, -1]) = .str ("word" : Str) := by
  show (if wdb [0, -1] = true then br 3 [0, -1] (bt 3 [0, -1]) else .str ("word" : Str)) = _
  rw [wdb3, if_neg (by decide)]
section
variable {dw : Exc3 → Reg → Prop} {Dn : Ends3} {a : Addr} {R : Reg} {p : Int} {xs : List Int}
theorem p_tB4 (hp : Pr p) {G : Reg} {s6 s7 s8 s9 s10 s11 : Sl3} {v5 : D} (d : Dice a R G) (h : ∀ G', Dice a R G' → Dn.rt (.val (.bl true)) G') :
    tB4 dw Dn [.val (.ref a), .val (.int p), .val (pt xs), .val (.str (txt xs)), .val (pt (bare xs)), .val v5, s6, s7, s8, s9, s10, s11] G := by
  unfold tB4
  have hodd := odd_none p hp
  walk_at "ev"
  refine ⟨a, R, _, rfl, d, by simp, by simp, fun e G3 he d3 => ?_⟩
  have hv : OkV e ∧ linD p e = none := by
    simp only [List.mem_cons, List.not_mem_nil, or_false] at he
    rcases he with rfl | rfl | rfl | rfl | rfl | rfl | rfl | rfl | rfl | rfl | rfl | rfl | rfl | rfl
    · exact ⟨.inr (.inl rfl), rfl⟩
    · exact ⟨.inr (.inr (.inl ⟨_, rfl⟩)), rfl⟩
    · exact ⟨.inr (.inr (.inr ⟨_, rfl⟩)), rfl⟩
    · exact ⟨.inr (.inr (.inr ⟨_, rfl⟩)), rfl⟩
    all_goals exact ⟨.inl ⟨_, rfl, by decide +kernel, by decide +kernel⟩, hodd _ (by simp)⟩
  obtain ⟨hv, hn⟩ := hv
  clear he
  walk_at "ev"
  rw [hn]
  unfold res
  walk_at "ev"
  rw [hn, show brW p none = .str "parse 0" from rfl]
  refine ⟨shC_of (by decide +kernel), shC_of (by decide +kernel), ?_⟩
  rw [eqvS, decide_eq_true rfl]
  walk_at "ev"
  exact h _ d3
def slO : Option (List Int) → Sl3
  | some ys => .val (pt ys)
  | none => .own [.int 0]
theorem p_tL3 (hp : Pr p) {G : Reg} {s6 s7 s10 s11 : Sl3} {v5 : D} {o : Option (List Int)} (ho : ∀ xs, o = some xs → Pt p xs) (h : ∀ s10, Dn.nx [.val (.ref a), .val (.int p), .val (pt xs), .val (.str (txt xs)), .val (pt (bare xs)), .val v5, s6, s7, .val (brW p o), slO o, s10, s11] G) :
    tL3 dw Dn [.val (.ref a), .val (.int p), .val (pt xs), .val (.str (txt xs)), .val (pt (bare xs)), .val v5, s6, s7, .val (brW p o), slO o, s10, s11] G := by
  unfold tL3
  cases o with
  | none =>
    rw [show brW p none = .str "parse 0" from rfl, show slO none = .own [.int 0] from rfl] at h ⊢
    walk_at "ev"
    refine ⟨shC_of (by decide +kernel), shC_of (by decide +kernel), ?_⟩
    refine ⟨_, rfl, ?_⟩
    refine ifFq (by rw [eqvS, decide_eq_true rfl]; rfl) ?_
    walk_at "ev"
    exact h _
  | some ys =>
    have hy := ho ys rfl
    have hpt := ptb_iff.mpr hy
    have hl := hy.1
    by_cases z : wdb ys = true
    · rw [show brW p (some ys) = br p ys (bt p ys) from if_pos z, show slO (some ys) = .val (pt ys) from rfl] at h ⊢
      walk_at "ev"
      refine ⟨by omega, ?_⟩
      rw [hpt, z]
      walk_at "ev"
      rw [if_pos z]
      walk_at "ev"
      exact h _
    · rw [show brW p (some ys) = .str "word" from if_neg z, show slO (some ys) = .val (pt ys) from rfl] at h ⊢
      walk_at "ev"
      refine ⟨by omega, ?_⟩
      rw [hpt, show wdb ys = false by cases e : wdb ys with | true => exact absurd e z | false => rfl]
      walk_at "ev"
      refine ⟨shC_of (by decide +kernel), shC_of (by decide +kernel), ?_⟩
      refine ⟨_, rfl, ?_⟩
      refine ifFq (by rw [eqvS, decide_eq_true rfl]; rfl) ?_
      walk_at "ev"
      exact h _
theorem p_tL2 (hp : Pr p) {G : Reg} {s6 s8 s9 s10 s11 : Sl3} {v5 : D} {t : Str} (ht : OkS t) (h : ∀ s8 s9 s10, Dn.nx [.val (.ref a), .val (.int p), .val (pt xs), .val (.str (txt xs)), .val (pt (bare xs)), .val v5, s6, .val (.str t), s8, s9, s10, s11] G) :
    tL2 dw Dn [.val (.ref a), .val (.int p), .val (pt xs), .val (.str (txt xs)), .val (pt (bare xs)), .val v5, s6, .val (.str t), s8, s9, s10, s11] G := by
  unfold tL2
  have hv : OkV (.str t) := .inl ⟨t, rfl, ht⟩
  walk_at "ev"
  cases e : lin p t with
  | none =>
    unfold res
    walk_at "ev"
    rw [show linD p (.str t) = none from e]
    exact p_tL3 (o := none) hp (fun _ q => nomatch q) fun s10 => h _ _ s10
  | some ys =>
    unfold res
    walk_at "ev"
    rw [show linD p (.str t) = some ys from e]
    exact p_tL3 (o := some ys) hp (fun _ q => by cases q; exact lin_pt hp e) fun s10 => h _ _ s10
theorem p_tL1 (hp : Pr p) {G : Reg} {s6 s8 s9 s10 s11 : Sl3} {v5 : D} {t : Str} (ht : OkS t) (h : ∀ s8 s9 s10, Dn.nx [.val (.ref a), .val (.int p), .val (pt xs), .val (.str (txt xs)), .val (pt (bare xs)), .val v5, s6, .val (.str t), s8, s9, s10, s11] G) :
    tL1 dw Dn [.val (.ref a), .val (.int p), .val (pt xs), .val (.str (txt xs)), .val (pt (bare xs)), .val v5, s6, .val (.str t), s8, s9, s10, s11] G := by
  unfold tL1
  have hv : OkV (.str t) := .inl ⟨t, rfl, ht⟩
  walk_at "ev"
  rw [show linD p (.str t) = lin p t from rfl]
  cases e : lin p t with
  | none =>
    unfold res
    walk_at "ev"
    rw [e]
    unfold res
    walk_at "ev"
    refine ⟨shC_of (by decide +kernel), shC_of (by decide +kernel), ?_⟩
    refine ⟨_, rfl, ?_⟩
    refine ifFq (by rw [eqvS, decide_eq_true rfl]; rfl) ?_
    walk_at "ev"
    exact p_tL2 hp ht h
  | some ys =>
    have hy := lin_pt hp e
    have hl := hp.le
    obtain ⟨sx, hx, sok⟩ := LR.rpr_ints (ns := ys) (by have := hy.1; omega) (fun n hn => by have := hy.2 n hn; omega)
    unfold res
    walk_at "ev"
    refine ⟨sx, hx, ?_⟩
    walk_at "ev"
    rw [e]
    unfold res
    walk_at "ev"
    refine ⟨sx, hx, ?_⟩
    walk_at "ev"
    refine ⟨shC_of sok, shC_of sok, ?_⟩
    refine ⟨_, rfl, ?_⟩
    refine ifFq (by rw [eqvS, decide_eq_true rfl]; rfl) ?_
    walk_at "ev"
    exact p_tL2 hp ht h
theorem p_tL0 (hp : Pr p) {G : Reg} {s6 s7 s8 s9 s10 s11 : Sl3} {v5 : D} (d : Dice a R G) (hx : strOkC (txt xs) = true ∧ (txt xs).length ≤ 190) (h : ∀ s7 s8 s9 s10 G', Dice a R G' → Dn.nx [.val (.ref a), .val (.int p), .val (pt xs), .val (.str (txt xs)), .val (pt (bare xs)), .val v5, s6, s7, s8, s9, s10, s11] G') :
    tL0 dw Dn [.val (.ref a), .val (.int p), .val (pt xs), .val (.str (txt xs)), .val (pt (bare xs)), .val v5, s6, s7, s8, s9, s10, s11] G := by
  unfold tL0
  walk_at "ev"
  refine ⟨a, R, txt xs, rfl, d, hx.1, hx.2, fun t G1 ht d1 => ?_⟩
  walk_at "ev"
  exact p_tL1 hp ht fun s8 s9 s10 => h _ _ _ _ _ d1
theorem p_tB3 (hp : Pr p) {G : Reg} {s6 s7 s8 s9 s10 s11 : Sl3} {v5 : D} (d : Dice a R G) (hx : strOkC (txt xs) = true ∧ (txt xs).length ≤ 190) (h : ∀ G', Dice a R G' → Dn.rt (.val (.bl true)) G') :
    tB3 dw Dn [.val (.ref a), .val (.int p), .val (pt xs), .val (.str (txt xs)), .val (pt (bare xs)), .val v5, s6, s7, s8, s9, s10, s11] G := by
  unfold tB3
  walk_at "ev"
  refine .go ?_
  refine for_ind (fun ds E G2 => Dice a R G2 ∧ ∃ s6 s7 s8 s9 s10 s11, E = [.val (.ref a), .val (.int p), .val (pt xs), .val (.str (txt xs)), .val (pt (bare xs)), .val v5, s6, s7, s8, s9, s10, s11]) (fun E G2 hI => ?_) (fun d0 ds E G2 nx hI hn => ?_) _ _ _ ⟨d, _, _, _, _, _, _, rfl⟩
  · obtain ⟨d2, s6, s7, s8, s9, s10, s11, rfl⟩ := hI
    exact p_tB4 hp d2 h
  · obtain ⟨d2, s6, s7, s8, s9, s10, s11, rfl⟩ := hI
    refine And.intro (by first | exact rfl | exact (show 6 < 12 by decide)) ?_
    refine p_tL0 hp (s6 := .val d0) d2 hx fun s7 s8 s9 s10 G' d' => ?_
    exact hn _ _ ⟨d', _, _, _, _, _, _, rfl⟩
theorem bare_pt (h : Pt p xs) : Pt p (bare xs) := ⟨Nat.le_trans (RS.trim_len xs) h.1, fun x hx => h.2 x (RS.trim_mem hx)⟩
theorem p_tB2 (hp : Pr p) (hx : Pt p xs) {G : Reg} {s5 s6 s7 s8 s9 s10 s11 : Sl3} (d : Dice a R G) (h : ∀ G', Dice a R G' → Dn.rt (.val (.bl true)) G') :
    tB2 dw Dn [.val (.ref a), .val (.int p), .val (pt xs), .val (.str (txt xs)), .val (pt (bare xs)), s5, s6, s7, s8, s9, s10, s11] G := by
  unfold tB2
  have hb := bare_pt hx
  have hbl := hb.1
  have hpt := ptb_iff.mpr hb
  have hl := hp.le
  have hw : ∀ x ∈ xs, -1 ≤ x ∧ x < 100 := fun x hx1 => by have := hx.2 x hx1; omega
  have hx60 := hx.1
  have hxt : strOkC (txt xs) = true ∧ (txt xs).length ≤ 190 := ⟨txt_ok hw, by have := txt_len hw; omega⟩
  walk_at "ev"
  refine ⟨by omega, ?_⟩
  rw [hpt]
  walk_at "ev"
  refine ifB (fun z => ?_) (fun z => ?_)
  · have z : wdb (bare xs) = true := z
    walk_at "ev"
    rw [if_pos z]
    refine ⟨sh_pt _, sh_pt _, ?_⟩
    refine ⟨_, rfl, ?_⟩
    refine ifFq (by rw [eqv_pt, decide_eq_true rfl]; rfl) ?_
    walk_at "ev"
    exact p_tB3 hp d hxt h
  · have z : wdb (bare xs) = false := z
    walk_at "ev"
    rw [if_neg (by rw [z]; decide)]
    refine ⟨shC_of (by decide +kernel), shC_of (by decide +kernel), ?_⟩
    refine ⟨_, rfl, ?_⟩
    refine ifFq (by rw [eqvS, decide_eq_true rfl]; rfl) ?_
    walk_at "ev"
    exact p_tB3 hp d hxt h
theorem p_tB1 (hp : Pr p) (hx : Pt p xs) {G : Reg} {s5 s6 s7 s8 s9 s10 s11 : Sl3} (d : Dice a R G) (h : ∀ G', Dice a R G' → Dn.rt (.val (.bl true)) G') :
    tB1 dw Dn [.val (.ref a), .val (.int p), .val (pt xs), .val (.str (txt xs)), .val (pt (bare xs)), s5, s6, s7, s8, s9, s10, s11] G := by
  unfold tB1
  have hl := hp.le
  have hw : ∀ x ∈ xs, -1 ≤ x ∧ x < 100 := fun x hx1 => by have := hx.2 x hx1; omega
  have hx60 := hx.1
  have hok := txt_ok hw
  have hlen := txt_len hw
  have hv : OkV (.str (txt xs)) := .inl ⟨_, rfl, hok, by omega⟩
  walk_at "ev"
  refine ⟨shC_of hok, shC_of hok, ?_⟩
  refine ⟨_, rfl, ?_⟩
  refine ifFq (by rw [eqvS, decide_eq_true rfl]; rfl) ?_
  walk_at "ev"
  rw [show linD p (.str (txt xs)) = some xs from lin_txt hp hx]
  unfold res
  walk_at "ev"
  refine ⟨sh_pt _, sh_pt _, ?_⟩
  refine ⟨_, rfl, ?_⟩
  refine ifFq (by rw [eqv_pt, decide_eq_true rfl]; rfl) ?_
  walk_at "ev"
  exact p_tB2 hp hx d h
end
theorem p__law_right : ∀ ds G q dw, sp__law_right ds G q dw → t__law_right dw { nx := fun _ G' => q (.val .non) G', rt := q } (start3 ["_law_dice_here", "_law_prime", "_law_point", "_law_text", "_law_bare", "_law_due", "_law_turn", "_law_bent_here", "_law_told", "_law_read_here", "_law_is_branch", "_law_odd"] ds) G := by
  intro ds G q dw h
  rw [tB_eq]
  obtain ⟨a, R, rfl, d, h⟩ := h
  walk_at "ev"
  refine ⟨a, R, _, rfl, d, by simp, by simp, fun e G3 he d3 => ?_⟩
  have he : ∃ p : Int, e = .int p ∧ Pr p := by
    simp only [List.mem_cons, List.not_mem_nil, or_false] at he
    rcases he with rfl | rfl | rfl | rfl | rfl | rfl
    all_goals exact ⟨_, rfl, by unfold LN.Pr; decide⟩
  obtain ⟨p, rfl, hp⟩ := he
  have hl := hp.le
  walk_at "ev"
  refine ⟨a, R, _, rfl, d3, by simp, by simp, fun e G4 he d4 => ?_⟩
  have he : ∃ m : Nat, e = .int (m : Int) ∧ m ≤ 60 := by
    simp only [List.mem_cons, List.not_mem_nil, or_false] at he
    rcases he with rfl | rfl | rfl
    · exact ⟨2, rfl, by decide⟩
    · exact ⟨6, rfl, by decide⟩
    · exact ⟨60, rfl, by decide⟩
  obtain ⟨m, rfl, hm⟩ := he
  walk_at "ev"
  refine ⟨a, R, p, m, rfl, d4, hp, by omega, by omega, fun xs G5 lx hx d5 => ?_⟩
  have hw : ∀ x ∈ xs, -1 ≤ x ∧ x < 100 := fun x hx1 => by have := hx.2 x hx1; omega
  have hx1000 : xs.length ≤ 1000 := by omega
  have hx60 : xs.length ≤ 60 := hx.1
  walk_at "ev"
  exact p_tB1 hp hx d5 h
theorem law_end {dw : Exc3 → Reg → Prop} {Dn : Ends3} {G : Reg} {ns : List Int} {s1 s2 s3 : Sl3} (h : Dn.rt (.val (.bl true)) G) : tC1 dw Dn [.val (.scr ns), s1, s2, s3, .no] G := by
  unfold tC1
  have q3 : Pr 3 := (show (3 : Int) ∈ LN.primes by decide)
  have q11 : Pr 11 := (show (11 : Int) ∈ LN.primes by decide)
  walk_at "ev"
  refine ⟨11, [10, -1], rfl, q11, ⟨by decide, by decide⟩, ?_⟩
  walk_at "ev"
  refine ⟨.inl ⟨_, rfl, by decide +kernel, by decide +kernel⟩, ?_⟩
  rw [show linD 3 (.str "t t 0") = some [-1, -1, 0] from lin1]
  walk_at "ev"
  refine ⟨3, [1, 2, 0, 0], rfl, q3, ⟨by decide, by decide⟩, ?_⟩
  rw [wd1, if_pos (by decide)]
  walk_at "ev"
  refine ⟨3, [-1, 0], rfl, q3, ⟨by decide, by decide⟩, ?_⟩
  rw [wd2, if_pos (by decide)]
  walk_at "ev"
  rw [txt1]
  have e0 : D.eqv (.lst [.str ("10 t" : Str), pt [-1, -1, 0], pt [1, 2], pt [-1]]) (.lst [.str ("10 t" : Str), .tup [.int (-1), .int (-1), .int 0], .tup [.int 1, .int 2], .tup [.int (-1)]]) = true := by decide +kernel
  refine ⟨shC_of (by decide +kernel), shC_of (by decide +kernel), ?_⟩
  refine ⟨_, rfl, ?_⟩
  refine ifFq (by rw [e0]; rfl) ?_
  walk_at "ev"
  refine ⟨3, [1, -1, 0], rfl, q3, ⟨by decide, by decide⟩, ?_⟩
  walk_at "ev"
  rw [wd3, if_neg (by decide)]
  refine ⟨shC_of (by decide +kernel), shC_of (by decide +kernel), ?_⟩
  refine ⟨_, rfl, ?_⟩
  refine ifFq (by rw [eqvS, decide_eq_true rfl]; rfl) ?_
  walk_at "ev"
  refine ⟨.inl ⟨_, rfl, by decide +kernel, by decide +kernel⟩, ?_⟩
  rw [show linD 3 (.str "0 3") = none from lin2]
  unfold res
  walk_at "ev"
  refine ⟨.inl ⟨_, rfl, by decide +kernel, by decide +kernel⟩, ?_⟩
  rw [show linD 3 (.str "0 t") = some [0, -1] from lin3, brw3]
  walk_at "ev"
  refine ⟨shC_of (by decide +kernel), shC_of (by decide +kernel), ?_⟩
  rw [eqvS, decide_eq_true rfl]
  walk_at "ev"
  refine ⟨.inl ⟨_, rfl, by decide +kernel, by decide +kernel⟩, ?_⟩
  rw [show linD 3 (.str ".") = some [] from lin4]
  show (if wdb [] = true then _ else _)
  rw [if_pos (by decide)]
  walk_at "ev"
  rw [bt1]
  refine ⟨shC_of (by decide +kernel), shC_of (by decide +kernel), ?_⟩
  rw [eqvS, decide_eq_true rfl]
  walk_at "ev"
  exact h
theorem p_law : ∀ ds G q dw, sp_law ds G q dw → t_law dw { nx := fun _ G' => q (.val .non) G', rt := q } (start3 ["_law_script", "_law_spot", "_law_dice_here", "_law_turn", "_law_told"] ds) G := by
  intro ds G q dw h
  rw [tC_eq]
  obtain ⟨ns, rfl, hl, h⟩ := h
  walk_at "ev"
  have hM := spots_le (m := 4) (n := (ns.length : Int)) (by decide) (by decide)
  refine ⟨Int.le_trans (by decide) hM.1, Int.lt_of_le_of_lt hM.2 (by decide), ?_⟩
  refine for_stop (.go ?_)
  refine for_ind (fun ds E G => (∀ d ∈ ds, ∃ k : Nat, d = .int (k : Int)) ∧ ∃ s1 s2 s3, E = [.val (.scr ns), s1, s2, s3, .no]) (fun E G hI => ?_) (fun d ds E G nx hI hn => ?_) _ _ _ ⟨fun d hd => ?_, _, _, _, rfl⟩
  · obtain ⟨_, s1, s2, s3, rfl⟩ := hI
    exact law_end (h _)
  · obtain ⟨hd, s1, s2, s3, rfl⟩ := hI
    obtain ⟨k, rfl⟩ := hd d List.mem_cons_self
    walk_at "ev"
    intro l m c
    walk_at "ev"
    intro a
    walk_at "ev"
    refine .go ?_
    refine for_ind (fun ds E G2 => Dice a G G2 ∧ ∃ s3, E = [.val (.scr ns), .val (.int (k : Int)), .val (.ref a), s3, .no]) (fun E G2 hI => ?_) (fun d ds E G2 nx2 hI hn2 => ?_) _ _ _ ⟨⟨l, m, c, rfl⟩, _, rfl⟩
    · obtain ⟨d2, s3, rfl⟩ := hI
      exact hn _ _ ⟨fun z hz => hd z (List.mem_cons_of_mem _ hz), _, _, _, rfl⟩
    · obtain ⟨d2, s3, rfl⟩ := hI
      clear h hn
      walk_at "ev"
      refine ⟨a, G, rfl, d2, fun G3 d3 => ?_⟩
      walk_at "ev"
      exact hn2 _ _ ⟨d3, _, rfl⟩
  · unfold rangeD at hd
    obtain ⟨k, _, e⟩ := List.mem_map.mp hd
    exact ⟨k, by rw [← e, Int.zero_add]⟩
end K09

set_option Elab.async false
set_option maxRecDepth 100000
set_option maxHeartbeats 4000000
/-! K09: the derivations (printed by gen5.py) -/
namespace K09
open PySem PySem.Spec PyProof.Rows L2 L3 LamX LD LN LP
def topS (i : Nat) : Stmt := PySem.Challenge.pw_touchtowers_k09_whole_texts_of_points.main.body.getD i (.Pass ⟨0, 0, 0, 0⟩)
structure Txt (P : Program) (K : PySem.W.Frag) (mg : Str → Option Value) : Prop where
  no_ : True
  n_abs : mg "abs" = none
  n_all : mg "all" = none
  n_bool : mg "bool" = none
  n_int : mg "int" = none
  n_isinstance : mg "isinstance" = none
  n_len : mg "len" = none
  n_list : mg "list" = none
  n_max : mg "max" = none
  n_min : mg "min" = none
  n_range : mg "range" = none
  n_repr : mg "repr" = none
  n_str : mg "str" = none
  n_tuple : mg "tuple" = none
  g_BLANK : ∃ t, mg "BLANK" = some (.str " " t)
  g_GREAT : ∃ t, mg "GREAT" = some (.int (1000000000000000000000000000000000000000000000000000000000000) t)
  g_MAX_LETTERS : ∃ t, mg "MAX_LETTERS" = some (.int (60) t)
  g_ORIGIN_TEXT : ∃ t, mg "ORIGIN_TEXT" = some (.str "." t)
  g_PRIMES : TupAt K mg "PRIMES" [2, 3, 5, 7, 11, 13, 17, 19, 23, 29, 31]
  g_TURN : ∃ t, mg "TURN" = some (.int (-1) t)
  g_TURN_TEXT : ∃ t, mg "TURN_TEXT" = some (.str "t" t)
  sl_Branch_own_prime : SlotAt K "Branch" "own_prime" 0
  sl_Branch_own_text : SlotAt K "Branch" "own_text" 1
  sl_Branch_own_word : SlotAt K "Branch" "own_word" 2
  isi_Branch_Branch : Isi3 K "Branch" "Branch" true
  k_Branch : ∃ C, ClsN K "Branch" C ∧ mg "Branch" = some (.ref C)
  k_InvalidOperation : ∃ C, ClsN K "InvalidOperation" C ∧ mg "InvalidOperation" = some (.ref C)
  k_InvalidWord : ∃ C, ClsN K "InvalidWord" C ∧ mg "InvalidWord" = some (.ref C)
  k_ParseError : ∃ C, ClsN K "ParseError" C ∧ mg "ParseError" = some (.ref C)
  it_Branch : IsiT K "Branch"
  io_Branch : IsiO K "Branch"
  ne_Branch : Ne3 K "Branch"
  o_InvalidOperation : Own0 K mg "InvalidOperation"
  o_InvalidWord : Own0 K mg "InvalidWord"
  o_ParseError : Own1 P K mg "ParseError" "index"
  xf_ParseError_index : Xf3 K "ParseError" "index"
  em_InvalidOperation_InvalidOperation : Em3 K "InvalidOperation" "InvalidOperation" true
  em_InvalidOperation_InvalidWord : Em3 K "InvalidOperation" "InvalidWord" false
  em_InvalidOperation_ParseError : Em3 K "InvalidOperation" "ParseError" false
  em_InvalidPoint_InvalidOperation : Em3 K "InvalidPoint" "InvalidOperation" false
  em_InvalidPoint_InvalidWord : Em3 K "InvalidPoint" "InvalidWord" false
  em_InvalidPoint_ParseError : Em3 K "InvalidPoint" "ParseError" false
  em_InvalidPrime_InvalidOperation : Em3 K "InvalidPrime" "InvalidOperation" false
  em_InvalidPrime_InvalidWord : Em3 K "InvalidPrime" "InvalidWord" false
  em_InvalidPrime_ParseError : Em3 K "InvalidPrime" "ParseError" false
  em_InvalidWord_InvalidOperation : Em3 K "InvalidWord" "InvalidOperation" false
  em_InvalidWord_InvalidWord : Em3 K "InvalidWord" "InvalidWord" true
  em_InvalidWord_ParseError : Em3 K "InvalidWord" "ParseError" false
  em_ParseError_InvalidOperation : Em3 K "ParseError" "InvalidOperation" false
  em_ParseError_InvalidWord : Em3 K "ParseError" "InvalidWord" false
  em_ParseError_ParseError : Em3 K "ParseError" "ParseError" true
section
variable {P : Program} {w : World} {K : PySem.W.Frag} {mg : Str → Option Value} {base : Heap}
abbrev s_is_whole : Stmt := topS 11
abbrev N_is_whole : List Str := ["value"]
theorem sc_is_whole : FnScope N_is_whole ["value"] (defScope s_is_whole) := ⟨rfl, rfl, rfl, by decide +kernel, rfl, by decide +kernel, by decide +kernel⟩
abbrev s_is_integer : Stmt := topS 12
abbrev N_is_integer : List Str := ["value"]
theorem sc_is_integer : FnScope N_is_integer ["value"] (defScope s_is_integer) := ⟨rfl, rfl, rfl, by decide +kernel, rfl, by decide +kernel, by decide +kernel⟩
abbrev s_is_prime : Stmt := topS 13
abbrev N_is_prime : List Str := ["value"]
theorem sc_is_prime : FnScope N_is_prime ["value"] (defScope s_is_prime) := ⟨rfl, rfl, rfl, by decide +kernel, rfl, by decide +kernel, by decide +kernel⟩
abbrev s_require_prime : Stmt := topS 20
abbrev N_require_prime : List Str := ["value"]
theorem sc_require_prime : FnScope N_require_prime ["value"] (defScope s_require_prime) := ⟨rfl, rfl, rfl, by decide +kernel, rfl, by decide +kernel, by decide +kernel⟩
abbrev s_is_letter : Stmt := topS 21
abbrev N_is_letter : List Str := ["prime", "value"]
theorem sc_is_letter : FnScope N_is_letter ["prime", "value"] (defScope s_is_letter) := ⟨rfl, rfl, rfl, by decide +kernel, rfl, by decide +kernel, by decide +kernel⟩
abbrev s_are_letters : Stmt := topS 22
abbrev N_are_letters : List Str := ["prime", "value", "letter"]
theorem sc_are_letters : FnScope N_are_letters ["prime", "value"] (defScope s_are_letters) := ⟨rfl, rfl, rfl, by decide +kernel, rfl, by decide +kernel, by decide +kernel⟩
abbrev s_ends_as_word : Stmt := topS 23
abbrev N_ends_as_word : List Str := ["point"]
theorem sc_ends_as_word : FnScope N_ends_as_word ["point"] (defScope s_ends_as_word) := ⟨rfl, rfl, rfl, by decide +kernel, rfl, by decide +kernel, by decide +kernel⟩
abbrev s_require_point : Stmt := topS 24
abbrev N_require_point : List Str := ["prime", "value"]
theorem sc_require_point : FnScope N_require_point ["prime", "value"] (defScope s_require_point) := ⟨rfl, rfl, rfl, by decide +kernel, rfl, by decide +kernel, by decide +kernel⟩
abbrev s_require_prime_point : Stmt := topS 25
abbrev N_require_prime_point : List Str := ["prime", "value"]
theorem sc_require_prime_point : FnScope N_require_prime_point ["prime", "value"] (defScope s_require_prime_point) := ⟨rfl, rfl, rfl, by decide +kernel, rfl, by decide +kernel, by decide +kernel⟩
abbrev s_letters_text : Stmt := topS 26
abbrev N_letters_text : List Str := ["point", "letter"]
theorem sc_letters_text : FnScope N_letters_text ["point"] (defScope s_letters_text) := ⟨rfl, rfl, rfl, by decide +kernel, rfl, by decide +kernel, by decide +kernel⟩
abbrev s_letters_in : Stmt := topS 27
abbrev N_letters_in : List Str := ["prime", "text", "known", "parts", "letter", "part"]
theorem sc_letters_in : FnScope N_letters_in ["prime", "text"] (defScope s_letters_in) := ⟨rfl, rfl, rfl, by decide +kernel, rfl, by decide +kernel, by decide +kernel⟩
abbrev s_point_text : Stmt := topS 28
abbrev N_point_text : List Str := ["prime", "point"]
theorem sc_point_text : FnScope N_point_text ["prime", "point"] (defScope s_point_text) := ⟨rfl, rfl, rfl, by decide +kernel, rfl, by decide +kernel, by decide +kernel⟩
abbrev s_read_point : Stmt := topS 29
abbrev N_read_point : List Str := ["prime", "text", "found"]
theorem sc_read_point : FnScope N_read_point ["prime", "text"] (defScope s_read_point) := ⟨rfl, rfl, rfl, by decide +kernel, rfl, by decide +kernel, by decide +kernel⟩
abbrev s_without_zeros : Stmt := topS 30
abbrev N_without_zeros : List Str := ["point", "size"]
theorem sc_without_zeros : FnScope N_without_zeros ["point"] (defScope s_without_zeros) := ⟨rfl, rfl, rfl, by decide +kernel, rfl, by decide +kernel, by decide +kernel⟩
abbrev s_word_through : Stmt := topS 31
abbrev N_word_through : List Str := ["prime", "point", "found"]
theorem sc_word_through : FnScope N_word_through ["prime", "point"] (defScope s_word_through) := ⟨rfl, rfl, rfl, by decide +kernel, rfl, by decide +kernel, by decide +kernel⟩
abbrev s_Branch_init : Stmt := inClass (topS 32) 1
abbrev N_Branch_init : List Str := ["self", "prime", "word"]
theorem sc_Branch_init : FnScope N_Branch_init ["self", "prime", "word"] (defScope s_Branch_init) := ⟨rfl, rfl, rfl, by decide +kernel, rfl, by decide +kernel, by decide +kernel⟩
abbrev s_Branch_read : Stmt := inClass (topS 32) 2
abbrev N_Branch_read : List Str := ["cls", "prime", "text"]
theorem sc_Branch_read : FnScope N_Branch_read ["cls", "prime", "text"] (defScope s_Branch_read) := ⟨rfl, rfl, rfl, by decide +kernel, rfl, by decide +kernel, by decide +kernel⟩
abbrev s_Branch_eq : Stmt := inClass (topS 32) 12
abbrev N_Branch_eq : List Str := ["self", "other"]
theorem sc_Branch_eq : FnScope N_Branch_eq ["self", "other"] (defScope s_Branch_eq) := ⟨rfl, rfl, rfl, by decide +kernel, rfl, by decide +kernel, by decide +kernel⟩
abbrev s_Branch_str : Stmt := inClass (topS 32) 13
abbrev N_Branch_str : List Str := ["self"]
theorem sc_Branch_str : FnScope N_Branch_str ["self"] (defScope s_Branch_str) := ⟨rfl, rfl, rfl, by decide +kernel, rfl, by decide +kernel, by decide +kernel⟩
abbrev s__law_dice : Stmt := topS 35
abbrev N__law_dice : List Str := ["_law_script", "_law_spot", "_law_cell", "_law_left"]
theorem sc__law_dice : FnScope N__law_dice ["_law_script", "_law_spot"] (defScope s__law_dice) := ⟨rfl, rfl, rfl, by decide +kernel, rfl, by decide +kernel, by decide +kernel⟩
abbrev s__law_roll : Stmt := topS 36
abbrev N__law_roll : List Str := ["_law_dice_here", "_law_total", "_law_found", "_law_one", "_law_two"]
theorem sc__law_roll : FnScope N__law_roll ["_law_dice_here", "_law_total"] (defScope s__law_roll) := ⟨rfl, rfl, rfl, by decide +kernel, rfl, by decide +kernel, by decide +kernel⟩
abbrev s__law_pick : Stmt := topS 37
abbrev N__law_pick : List Str := ["_law_dice_here", "_law_items"]
theorem sc__law_pick : FnScope N__law_pick ["_law_dice_here", "_law_items"] (defScope s__law_pick) := ⟨rfl, rfl, rfl, by decide +kernel, rfl, by decide +kernel, by decide +kernel⟩
abbrev s__law_letter : Stmt := topS 38
abbrev N__law_letter : List Str := ["_law_dice_here", "_law_prime", "_law_way"]
theorem sc__law_letter : FnScope N__law_letter ["_law_dice_here", "_law_prime"] (defScope s__law_letter) := ⟨rfl, rfl, rfl, by decide +kernel, rfl, by decide +kernel, by decide +kernel⟩
abbrev s__law_point_drawn : Stmt := topS 39
abbrev N__law_point_drawn : List Str := ["_law_dice_here", "_law_prime", "_law_most", "_law_size", "_law_turn"]
theorem sc__law_point_drawn : FnScope N__law_point_drawn ["_law_dice_here", "_law_prime", "_law_most"] (defScope s__law_point_drawn) := ⟨rfl, rfl, rfl, by decide +kernel, rfl, by decide +kernel, by decide +kernel⟩
abbrev s__law_wd_is_point : Stmt := topS 40
abbrev N__law_wd_is_point : List Str := ["_law_prime", "_law_value", "_law_bad", "_law_one"]
theorem sc__law_wd_is_point : FnScope N__law_wd_is_point ["_law_prime", "_law_value"] (defScope s__law_wd_is_point) := ⟨rfl, rfl, rfl, by decide +kernel, rfl, by decide +kernel, by decide +kernel⟩
abbrev s__law_wd_is_word : Stmt := topS 41
abbrev N__law_wd_is_word : List Str := ["_law_prime", "_law_value"]
theorem sc__law_wd_is_word : FnScope N__law_wd_is_word ["_law_prime", "_law_value"] (defScope s__law_wd_is_word) := ⟨rfl, rfl, rfl, by decide +kernel, rfl, by decide +kernel, by decide +kernel⟩
abbrev s__law_wd_text : Stmt := topS 42
abbrev N__law_wd_text : List Str := ["_law_point", "_law_signs", "_law_letter_here"]
theorem sc__law_wd_text : FnScope N__law_wd_text ["_law_point"] (defScope s__law_wd_text) := ⟨rfl, rfl, rfl, by decide +kernel, rfl, by decide +kernel, by decide +kernel⟩
abbrev s__law_wd_bare : Stmt := topS 43
abbrev N__law_wd_bare : List Str := ["_law_point", "_law_size"]
theorem sc__law_wd_bare : FnScope N__law_wd_bare ["_law_point"] (defScope s__law_wd_bare) := ⟨rfl, rfl, rfl, by decide +kernel, rfl, by decide +kernel, by decide +kernel⟩
abbrev s__law_read : Stmt := topS 44
abbrev N__law_read : List Str := ["_law_prime", "_law_text", "error"]
theorem sc__law_read : FnScope N__law_read ["_law_prime", "_law_text"] (defScope s__law_read) := ⟨rfl, rfl, rfl, by decide +kernel, rfl, by decide +kernel, by decide +kernel⟩
abbrev s__law_own_read : Stmt := topS 45
abbrev N__law_own_read : List Str := ["_law_prime", "_law_text", "_law_found", "_law_sign", "_law_is_right", "_law_one"]
theorem sc__law_own_read : FnScope N__law_own_read ["_law_prime", "_law_text"] (defScope s__law_own_read) := ⟨rfl, rfl, rfl, by decide +kernel, rfl, by decide +kernel, by decide +kernel⟩
abbrev s__law_through : Stmt := topS 46
abbrev N__law_through : List Str := ["_law_prime", "_law_point"]
theorem sc__law_through : FnScope N__law_through ["_law_prime", "_law_point"] (defScope s__law_through) := ⟨rfl, rfl, rfl, by decide +kernel, rfl, by decide +kernel, by decide +kernel⟩
abbrev s__law_branch : Stmt := topS 47
abbrev N__law_branch : List Str := ["_law_prime", "_law_text", "error"]
theorem sc__law_branch : FnScope N__law_branch ["_law_prime", "_law_text"] (defScope s__law_branch) := ⟨rfl, rfl, rfl, by decide +kernel, rfl, by decide +kernel, by decide +kernel⟩
abbrev s__law_bent : Stmt := topS 48
abbrev N__law_bent : List Str := ["_law_dice_here", "_law_text", "_law_at", "_law_sign"]
theorem sc__law_bent : FnScope N__law_bent ["_law_dice_here", "_law_text"] (defScope s__law_bent) := ⟨rfl, rfl, rfl, by decide +kernel, rfl, by decide +kernel, by decide +kernel⟩
abbrev s__law_right : Stmt := topS 49
abbrev N__law_right : List Str := ["_law_dice_here", "_law_prime", "_law_point", "_law_text", "_law_bare", "_law_due", "_law_turn", "_law_bent_here", "_law_told", "_law_read_here", "_law_is_branch", "_law_odd"]
theorem sc__law_right : FnScope N__law_right ["_law_dice_here"] (defScope s__law_right) := ⟨rfl, rfl, rfl, by decide +kernel, rfl, by decide +kernel, by decide +kernel⟩
abbrev s_law : Stmt := topS 50
abbrev N_law : List Str := ["_law_script", "_law_spot", "_law_dice_here", "_law_turn", "_law_told"]
theorem sc_law : FnScope N_law ["_law_script"] (defScope s_law) := ⟨rfl, rfl, rfl, by decide +kernel, rfl, by decide +kernel, by decide +kernel⟩
theorem ok_is_whole (T : Txt P K mg) (d_is_whole : DefAt K mg "is_whole" s_is_whole)  : Cal3 P w K mg base "is_whole" 2 ["value"] sp_is_whole :=
  cal3 d_is_whole (fun _ _ _ _ _ _ us hl => match us, hl with | [_], _ => rfl) sc_is_whole len_is_whole fun f cdv A outer s H E B dw hr wk => ⟨t_is_whole dw,
    (lss_one (ls_ret (le_and (le_isi (by rfl) T.n_isinstance (lp_cons (le_pv (pv 0)) (lp_cons (le_ty (by rfl) T.n_int (by decide +kernel)) lp_nil))) (le_one (le_not (le_isi (by rfl) T.n_isinstance (lp_cons (le_pv (pv 0)) (lp_cons (le_ty (by rfl) T.n_bool (by decide +kernel)) lp_nil)))))))),
    fun ds G q h => p_is_whole N_is_whole rfl ds G q dw h⟩
theorem ok_ends_as_word (T : Txt P K mg) (d_ends_as_word : DefAt K mg "ends_as_word" s_ends_as_word)  : Cal3 P w K mg base "ends_as_word" 2 ["point"] sp_ends_as_word :=
  cal3 d_ends_as_word (fun _ _ _ _ _ _ us hl => match us, hl with | [_], _ => rfl) sc_ends_as_word len_ends_as_word fun f cdv A outer s H E B dw hr wk => ⟨t_ends_as_word dw,
    (lss_one (ls_ret (le_or (le_in hr (le_pv (pv 0)) (le_tup (la_cons (le_tup la_nil) (la_cons (le_tup (la_cons (le_gint (by rfl) T.g_TURN) la_nil)) la_nil)))) (le_one (le_gt (le_item (le_pv (pv 0)) (le_neg le_int)) le_int))))),
    fun ds G q h => p_ends_as_word ds G q dw h⟩
theorem ok_letters_text (T : Txt P K mg) (d_letters_text : DefAt K mg "letters_text" s_letters_text)  : Cal3 P w K mg base "letters_text" 2 ["point"] sp_letters_text :=
  cal3 d_letters_text (fun _ _ _ _ _ _ us hl => match us, hl with | [_], _ => rfl) sc_letters_text len_letters_text fun f cdv A outer s H E B dw hr wk => ⟨t_letters_text dw,
    (lss_cons (ls_if (lt_eq hr (le_pv (pv 0)) (le_tup la_nil)) (lss_one (ls_ret (le_gstr (by rfl) T.g_ORIGIN_TEXT))) lss_nil)
      (lss_one (ls_ret (le_join (le_gstr (by rfl) T.g_BLANK) (le_lc (own := [("letter", 1)]) rfl sc_letters_text.nd (li_seq (le_pv (pv 0))) (blkOk_by (N := N_letters_text) (sc := defScope s_letters_text) (by decide +kernel)) (fun _ _ _ _ _ => (lg_name (i := 1) sc_letters_text.nd rfl (by first | exact Or.inl rfl | exact Or.inr rfl) (by decide))) (fun _ _ _ _ _ => lts_nil) (fun _ _ _ _ _ => (le_ifExp (lt_eq hr (le_pv (pv 1)) (le_gint (by rfl) T.g_TURN)) (le_gstr (by rfl) T.g_TURN_TEXT) (le_strOf (by rfl) T.n_str (lp_cons (le_pv (pv 1)) lp_nil))))))))),
    fun ds G q h => p_letters_text ds G q dw h⟩
theorem ok_letters_in (T : Txt P K mg) (d_letters_in : DefAt K mg "letters_in" s_letters_in)  : Cal3 P w K mg base "letters_in" 2 ["prime", "text"] sp_letters_in :=
  cal3 d_letters_in (fun _ _ _ _ _ _ us hl => match us, hl with | [_, _], _ => rfl) sc_letters_in len_letters_in fun f cdv A outer s H E B dw hr wk => ⟨t_letters_in dw,
    (lss_cons (ls_if (lt_not (lt_val (le_isiA ["Branch"] ["Branch"] [(("Branch", "Branch"), true)] (all_cons T.it_Branch all_nil) (all_cons T.io_Branch all_nil) (isi_cons T.isi_Branch_Branch isi_nil) (by rfl) T.n_isinstance (lp_cons (le_pv (pv 1)) (lp_cons (le_ty (by rfl) T.n_str (by decide +kernel)) lp_nil))))) (lss_one (ls_ret le_non)) lss_nil)
      (lss_cons (ls_if (lt_eq hr (le_pv (pv 1)) (le_gstr (by rfl) T.g_ORIGIN_TEXT)) (lss_one (ls_ret (le_tup la_nil))) lss_nil)
      (lss_cons (ls_set (i := 2) sc_letters_in.nd rfl (by first | exact Or.inl rfl | exact Or.inr rfl) (le_dc (own := [("letter", 4)]) .k hr rfl sc_letters_in.nd (li_range1 (by rfl) T.n_range (la_cons (le_pv (pv 0)) la_nil)) (blkOk_by (N := N_letters_in) (sc := defScope s_letters_in) (by decide +kernel)) (fun _ _ _ _ _ => (lg_name (i := 4) sc_letters_in.nd rfl (by first | exact Or.inl rfl | exact Or.inr rfl) (by decide))) (fun _ _ _ _ _ => lts_nil) (fun _ _ _ _ _ => (le_strOf (by rfl) T.n_str (lp_cons (le_pv (pv 4)) lp_nil))) (fun _ _ _ _ _ => (le_pv (pv 4)))))
      (lss_cons (ls_storeU (s := 2) hr wk.lk (pv 2) (le_gint (by rfl) T.g_TURN) (le_gstr (by rfl) T.g_TURN_TEXT))
      (lss_cons (ls_set (i := 3) sc_letters_in.nd rfl (by first | exact Or.inl rfl | exact Or.inr rfl) (le_split (le_pv (pv 1)) (le_gstr (by rfl) T.g_BLANK)))
      (lss_cons (ls_if (LW.lt (lw_or (lt_gt (le_lenU (by rfl) T.n_len (lp_cons (le_pv (pv 3)) lp_nil)) (le_gint (by rfl) T.g_MAX_LETTERS)) (lw_or1 (lt_not (lt_val (le_all rfl (by rfl) T.n_all (lp_cons (le_lc (own := [("part", 5)]) rfl sc_letters_in.nd (li_seqU (le_pv (pv 3))) (blkOk_by (N := N_letters_in) (sc := defScope s_letters_in) (by decide +kernel)) (fun _ _ _ _ _ => (lg_name (i := 5) sc_letters_in.nd rfl (by first | exact Or.inl rfl | exact Or.inr rfl) (by decide))) (fun _ _ _ _ _ => lts_nil) (fun _ _ _ _ _ => (le_inU hr (le_pv (pv 5)) (le_pv (pv 2))))) lp_nil))))))) (lss_one (ls_ret le_non)) lss_nil)
      (lss_one (ls_ret (le_tuple (by rfl) T.n_tuple (lp_cons (le_lc (own := [("part", 5)]) rfl sc_letters_in.nd (li_seqU (le_pv (pv 3))) (blkOk_by (N := N_letters_in) (sc := defScope s_letters_in) (by decide +kernel)) (fun _ _ _ _ _ => (lg_name (i := 5) sc_letters_in.nd rfl (by first | exact Or.inl rfl | exact Or.inr rfl) (by decide))) (fun _ _ _ _ _ => lts_nil) (fun _ _ _ _ _ => (le_itemU (room1 hr) (le_pv (pv 2)) (le_pv (pv 5))))) lp_nil)))))))))),
    fun ds G q h => p_letters_in ds G q dw h⟩
theorem ok_without_zeros (T : Txt P K mg) (d_without_zeros : DefAt K mg "without_zeros" s_without_zeros)  : Cal3 P w K mg base "without_zeros" 2 ["point"] sp_without_zeros :=
  cal3 d_without_zeros (fun _ _ _ _ _ _ us hl => match us, hl with | [_], _ => rfl) sc_without_zeros len_without_zeros fun f cdv A outer s H E B dw hr wk => ⟨t_without_zeros dw,
    (lss_cons (ls_set (i := 1) sc_without_zeros.nd rfl (by first | exact Or.inl rfl | exact Or.inr rfl) (le_len (by rfl) T.n_len (lp_cons (le_pv (pv 0)) lp_nil)))
      (lss_cons (ls_while (passes_of rfl) (LW.lt (lw_and (lt_gt (le_pv (pv 1)) le_int) (lw_and1 (lt_eq hr (le_item (le_pv (pv 0)) (le_sub (le_pv (pv 1)) le_int)) le_int)))) (lss_one (ls_aug (i := 1) sc_without_zeros.nd rfl (by first | exact Or.inl rfl | exact Or.inr rfl) le_int ip_subI r_sub3)))
      (lss_one (ls_ret (le_cut (le_pv (pv 0)) lo_none (lo_some (le_pv (pv 1)))))))),
    fun ds G q h => p_without_zeros ds G q dw h⟩
theorem ok_Branch_eq (T : Txt P K mg) (d_Branch_eq : MethAt K "Branch" "__eq__" "Branch.__eq__" s_Branch_eq) (q_Branch_eq : SClsN K "Branch")  : Meth3 P w K mg base "Branch" "__eq__" 2 sp_Branch_eq :=
  meth3 q_Branch_eq d_Branch_eq (fun _ _ _ _ _ _ us hl => match us, hl with | [_, _], _ => rfl) sc_Branch_eq len_Branch_eq fun f cdv A outer s H E B dw hr wk => ⟨t_Branch_eq dw,
    (lss_cons (ls_if (lt_not (lt_val (le_isiA ["Branch"] ["Branch"] [(("Branch", "Branch"), true)] (all_cons T.it_Branch all_nil) (all_cons T.io_Branch all_nil) (isi_cons T.isi_Branch_Branch isi_nil) (by rfl) T.n_isinstance (lp_cons (le_pv (pv 1)) (lp_cons (le_cls (by rfl) T.k_Branch) lp_nil))))) (lss_one (ls_ret le_bl)) lss_nil)
      (lss_one (ls_ret (le_and (le_eq hr (le_attr [("Branch", 0)] (tbl_cons T.sl_Branch_own_prime tbl_nil) (le_pv (pv 0))) (le_attr [("Branch", 0)] (tbl_cons T.sl_Branch_own_prime tbl_nil) (le_pv (pv 1)))) (le_one (le_eq hr (le_attr [("Branch", 2)] (tbl_cons T.sl_Branch_own_word tbl_nil) (le_pv (pv 0))) (le_attr [("Branch", 2)] (tbl_cons T.sl_Branch_own_word tbl_nil) (le_pv (pv 1))))))))),
    fun ds G q h => p_Branch_eq ds G q dw h⟩
theorem ok_Branch_str (T : Txt P K mg) (d_Branch_str : MethAt K "Branch" "__str__" "Branch.__str__" s_Branch_str) (q_Branch_str : SClsN K "Branch")  : Meth3 P w K mg base "Branch" "__str__" 2 sp_Branch_str :=
  meth3 q_Branch_str d_Branch_str (fun _ _ _ _ _ _ us hl => match us, hl with | [_], _ => rfl) sc_Branch_str len_Branch_str fun f cdv A outer s H E B dw hr wk => ⟨t_Branch_str dw,
    (lss_one (ls_ret (le_fstr1 (le_fmt (le_attr [("Branch", 1)] (tbl_cons T.sl_Branch_own_text tbl_nil) (le_pv (pv 0))))))),
    fun ds G q h => p_Branch_str ds G q dw h⟩
theorem ok__law_dice (T : Txt P K mg) (d__law_dice : DefAt K mg "_law_dice" s__law_dice)  : Cal3 P w K mg base "_law_dice" 2 ["_law_script", "_law_spot"] sp__law_dice :=
  cal3 d__law_dice (fun _ _ _ _ _ _ us hl => match us, hl with | [_, _], _ => rfl) sc__law_dice len__law_dice fun f cdv A outer s H E B dw hr wk => ⟨t__law_dice dw,
    (lss_cons (ls_set (i := 2) sc__law_dice.nd rfl (by first | exact Or.inl rfl | exact Or.inr rfl) (le_ifExp (lt_lt (le_pv (pv 1)) (le_len (by rfl) T.n_len (lp_cons (le_pv (pv 0)) lp_nil))) (le_intOf (by rfl) T.n_int (lp_cons (le_item (le_pv (pv 0)) (le_pv (pv 1))) lp_nil)) (le_add (le_mul le_int (le_pv (pv 1))) le_int)))
      (lss_cons (ls_set (i := 3) sc__law_dice.nd rfl (by first | exact Or.inl rfl | exact Or.inr rfl) (le_mod (le_max2 rfl (by rfl) T.n_max (lp_cons le_int (lp_cons (le_sub (le_abs (by rfl) T.n_abs (lp_cons (le_pv (pv 2)) lp_nil)) (le_pow le_int le_int)) lp_nil))) (le_mul (le_pow le_int le_int) (le_pow le_int le_int))))
      (lss_one (ls_ret (le_lst (la_cons (le_pv (pv 3)) (la_cons (le_add (le_add (le_add (le_mul (le_mod (le_abs (by rfl) T.n_abs (lp_cons (le_pv (pv 2)) lp_nil)) le_int) le_int) (le_mul le_int (le_pv (pv 1)))) (le_mul le_int (le_intOf (by rfl) T.n_int (lp_cons (le_lt (le_pv (pv 2)) le_int) lp_nil)))) le_int) (la_cons le_int la_nil)))))))),
    fun ds G q h => p__law_dice N__law_dice rfl ds G q dw h⟩
theorem ok__law_roll (T : Txt P K mg) (d__law_roll : DefAt K mg "_law_roll" s__law_roll)  : Cal3 P w K mg base "_law_roll" 2 ["_law_dice_here", "_law_total"] sp__law_roll :=
  cal3 d__law_roll (fun _ _ _ _ _ _ us hl => match us, hl with | [_, _], _ => rfl) sc__law_roll len__law_roll fun f cdv A outer s H E B dw hr wk => ⟨t__law_roll dw,
    (lss_cons (ls_if (lt_gt (le_item (le_pv (pv 0)) le_int) le_int) (lss_cons (ls_set (i := 2) sc__law_roll.nd rfl (by first | exact Or.inl rfl | exact Or.inr rfl) (le_mod (le_intOf (by rfl) T.n_int (lp_cons (le_item (le_pv (pv 0)) le_int) lp_nil)) (le_pv (pv 1))))
      (lss_cons (ls_store (le_fdiv (le_item (le_pv (pv 0)) le_int) (le_pv (pv 1))) (le_pv (pv 0)) le_int)
      (lss_one (ls_ret (le_pv (pv 2)))))) lss_nil)
      (lss_cons (ls_store (le_add (le_item (le_pv (pv 0)) le_int) le_int) (le_pv (pv 0)) le_int)
      (lss_cons (ls_set (i := 3) sc__law_roll.nd rfl (by first | exact Or.inl rfl | exact Or.inr rfl) (le_mod (le_intOf (by rfl) T.n_int (lp_cons (le_add (le_item (le_pv (pv 0)) le_int) (le_mul le_int (le_item (le_pv (pv 0)) le_int))) lp_nil)) le_int))
      (lss_cons (ls_set (i := 4) sc__law_roll.nd rfl (by first | exact Or.inl rfl | exact Or.inr rfl) (le_add (le_mul (le_mod (le_intOf (by rfl) T.n_int (lp_cons (le_add (le_mul (le_pv (pv 3)) (le_pv (pv 3))) (le_mul le_int (le_item (le_pv (pv 0)) le_int))) lp_nil)) le_int) le_int) (le_pv (pv 3))))
      (lss_one (ls_ret (le_mod (le_intOf (by rfl) T.n_int (lp_cons (le_fdiv (le_pv (pv 4)) le_int) lp_nil)) (le_pv (pv 1))))))))),
    fun ds G q h => p__law_roll N__law_roll rfl ds G q dw h⟩
theorem ok__law_wd_is_point (T : Txt P K mg) (d__law_wd_is_point : DefAt K mg "_law_wd_is_point" s__law_wd_is_point)  : Cal3 P w K mg base "_law_wd_is_point" 2 ["_law_prime", "_law_value"] sp__law_wd_is_point :=
  cal3 d__law_wd_is_point (fun _ _ _ _ _ _ us hl => match us, hl with | [_, _], _ => rfl) sc__law_wd_is_point len__law_wd_is_point fun f cdv A outer s H E B dw hr wk => ⟨t__law_wd_is_point dw,
    (lss_cons (ls_if (LW.lt (lw_or (lt_not (lt_val (le_isiA ["Branch"] ["Branch"] [(("Branch", "Branch"), true)] (all_cons T.it_Branch all_nil) (all_cons T.io_Branch all_nil) (isi_cons T.isi_Branch_Branch isi_nil) (by rfl) T.n_isinstance (lp_cons (le_pv (pv 1)) (lp_cons (le_ty (by rfl) T.n_tuple (by decide +kernel)) lp_nil))))) (lw_or1 (lt_gt (le_len (by rfl) T.n_len (lp_cons (le_pv (pv 1)) lp_nil)) le_int)))) (lss_one (ls_ret le_bl)) lss_nil)
      (lss_cons (ls_setLc (i := 2) (own := [("_law_one", 3)]) rfl sc__law_wd_is_point.nd rfl rfl (sw_true rfl rfl rfl (by decide +kernel)) (li_seq (le_pv (pv 1))) (blkOk_by (N := N__law_wd_is_point) (sc := defScope s__law_wd_is_point) (by decide +kernel)) (fun _ _ _ _ _ => (lg_name (i := 3) sc__law_wd_is_point.nd rfl (by first | exact Or.inl rfl | exact Or.inr rfl) (by decide))) (fun _ _ _ _ _ => (lts_one (LW.lt (lw_or (lt_not (lt_val (le_isiA ["Branch"] ["Branch"] [(("Branch", "Branch"), true)] (all_cons T.it_Branch all_nil) (all_cons T.io_Branch all_nil) (isi_cons T.isi_Branch_Branch isi_nil) (by rfl) T.n_isinstance (lp_cons (le_pv (pv 3)) (lp_cons (le_ty (by rfl) T.n_int (by decide +kernel)) lp_nil))))) (lw_or (lt_val (le_isiA ["Branch"] ["Branch"] [(("Branch", "Branch"), true)] (all_cons T.it_Branch all_nil) (all_cons T.io_Branch all_nil) (isi_cons T.isi_Branch_Branch isi_nil) (by rfl) T.n_isinstance (lp_cons (le_pv (pv 3)) (lp_cons (le_ty (by rfl) T.n_bool (by decide +kernel)) lp_nil)))) (lw_or1 (lt_not (lt_ch on_le on_lt (le_neg le_int) (le_pv (pv 3)) (le_pv (pv 0)))))))))) (fun _ _ _ _ _ => (le_pv (pv 3))))
      (lss_one (ls_ret (le_eq hr (le_pv (pv 2)) (le_lst la_nil)))))),
    fun ds G q h => p__law_wd_is_point ds G q dw h⟩
theorem ok__law_wd_text (T : Txt P K mg) (d__law_wd_text : DefAt K mg "_law_wd_text" s__law_wd_text)  : Cal3 P w K mg base "_law_wd_text" 2 ["_law_point"] sp__law_wd_text :=
  cal3 d__law_wd_text (fun _ _ _ _ _ _ us hl => match us, hl with | [_], _ => rfl) sc__law_wd_text len__law_wd_text fun f cdv A outer s H E B dw hr wk => ⟨t__law_wd_text dw,
    (lss_cons (ls_setLc (i := 1) (own := [("_law_letter_here", 2)]) rfl sc__law_wd_text.nd rfl rfl (sw_true rfl rfl rfl (by decide +kernel)) (li_seq (le_pv (pv 0))) (blkOk_by (N := N__law_wd_text) (sc := defScope s__law_wd_text) (by decide +kernel)) (fun _ _ _ _ _ => (lg_name (i := 2) sc__law_wd_text.nd rfl (by first | exact Or.inl rfl | exact Or.inr rfl) (by decide))) (fun _ _ _ _ _ => lts_nil) (fun _ _ _ _ _ => (le_ifExp (lt_eq hr (le_pv (pv 2)) (le_neg le_int)) le_str (le_strOf (by rfl) T.n_str (lp_cons (le_pv (pv 2)) lp_nil)))))
      (lss_one (ls_ret (le_ifExp (lt_ne hr (le_pv (pv 1)) (le_lst la_nil)) (le_join le_str (le_pv (pv 1))) le_str)))),
    fun ds G q h => p__law_wd_text ds G q dw h⟩
theorem ok__law_wd_bare (T : Txt P K mg) (d__law_wd_bare : DefAt K mg "_law_wd_bare" s__law_wd_bare)  : Cal3 P w K mg base "_law_wd_bare" 2 ["_law_point"] sp__law_wd_bare :=
  cal3 d__law_wd_bare (fun _ _ _ _ _ _ us hl => match us, hl with | [_], _ => rfl) sc__law_wd_bare len__law_wd_bare fun f cdv A outer s H E B dw hr wk => ⟨t__law_wd_bare dw,
    (lss_cons (ls_set (i := 1) sc__law_wd_bare.nd rfl (by first | exact Or.inl rfl | exact Or.inr rfl) (le_len (by rfl) T.n_len (lp_cons (le_pv (pv 0)) lp_nil)))
      (lss_cons (ls_while (passes_of rfl) (LW.lt (lw_and (lt_gt (le_pv (pv 1)) le_int) (lw_and1 (lt_eq hr (le_item (le_pv (pv 0)) (le_sub (le_pv (pv 1)) le_int)) le_int)))) (lss_one (ls_set (i := 1) sc__law_wd_bare.nd rfl (by first | exact Or.inl rfl | exact Or.inr rfl) (le_sub (le_pv (pv 1)) le_int))))
      (lss_one (ls_ret (le_tuple (by rfl) T.n_tuple (lp_cons (le_cut (le_pv (pv 0)) lo_none (lo_some (le_pv (pv 1)))) lp_nil)))))),
    fun ds G q h => p__law_wd_bare ds G q dw h⟩
theorem ok_is_integer (T : Txt P K mg) (d_is_integer : DefAt K mg "is_integer" s_is_integer) (c_is_whole : Cal3 P w K mg base "is_whole" 2 ["value"] sp_is_whole) : Cal3 P w K mg base "is_integer" 3 ["value"] sp_is_integer :=
  cal3 d_is_integer (fun _ _ _ _ _ _ us hl => match us, hl with | [_], _ => rfl) sc_is_integer len_is_integer fun f cdv A outer s H E B dw hr wk => ⟨t_is_integer dw,
    (lss_one (ls_ret (le_and (le_callC c_is_whole hr (by decide) wk.ok (by rfl) (la_cons (le_pv (pv 0)) la_nil)) (le_one (le_ch on_lt on_lt (le_neg (le_gint (by rfl) T.g_GREAT)) (le_pv (pv 0)) (le_gint (by rfl) T.g_GREAT)))))),
    fun ds G q h => p_is_integer N_is_integer rfl ds G q dw h⟩
theorem ok_is_prime (T : Txt P K mg) (d_is_prime : DefAt K mg "is_prime" s_is_prime) (c_is_whole : Cal3 P w K mg base "is_whole" 2 ["value"] sp_is_whole) : Cal3 P w K mg base "is_prime" 3 ["value"] sp_is_prime :=
  cal3 d_is_prime (fun _ _ _ _ _ _ us hl => match us, hl with | [_], _ => rfl) sc_is_prime len_is_prime fun f cdv A outer s H E B dw hr wk => ⟨t_is_prime dw,
    (lss_one (ls_ret (le_and (le_callC c_is_whole hr (by decide) wk.ok (by rfl) (la_cons (le_pv (pv 0)) la_nil)) (le_one (le_in hr (le_pv (pv 0)) (le_gtup (by rfl) T.g_PRIMES)))))),
    fun ds G q h => p_is_prime N_is_prime rfl ds G q dw h⟩
theorem ok__law_pick (T : Txt P K mg) (d__law_pick : DefAt K mg "_law_pick" s__law_pick) (c__law_roll : Cal3 P w K mg base "_law_roll" 2 ["_law_dice_here", "_law_total"] sp__law_roll) : Cal3 P w K mg base "_law_pick" 3 ["_law_dice_here", "_law_items"] sp__law_pick :=
  cal3 d__law_pick (fun _ _ _ _ _ _ us hl => match us, hl with | [_, _], _ => rfl) sc__law_pick len__law_pick fun f cdv A outer s H E B dw hr wk => ⟨t__law_pick dw,
    (lss_one (ls_ret (le_item (le_pv (pv 1)) (le_callC c__law_roll hr (by decide) wk.ok (by rfl) (la_cons (le_pv (pv 0)) (la_cons (le_len (by rfl) T.n_len (lp_cons (le_pv (pv 1)) lp_nil)) la_nil)))))),
    fun ds G q h => p__law_pick N__law_pick rfl ds G q dw h⟩
theorem ok__law_letter (T : Txt P K mg) (d__law_letter : DefAt K mg "_law_letter" s__law_letter) (c__law_roll : Cal3 P w K mg base "_law_roll" 2 ["_law_dice_here", "_law_total"] sp__law_roll) : Cal3 P w K mg base "_law_letter" 3 ["_law_dice_here", "_law_prime"] sp__law_letter :=
  cal3 d__law_letter (fun _ _ _ _ _ _ us hl => match us, hl with | [_, _], _ => rfl) sc__law_letter len__law_letter fun f cdv A outer s H E B dw hr wk => ⟨t__law_letter dw,
    (lss_cons (ls_set (i := 2) sc__law_letter.nd rfl (by first | exact Or.inl rfl | exact Or.inr rfl) (le_callC c__law_roll hr (by decide) wk.ok (by rfl) (la_cons (le_pv (pv 0)) (la_cons le_int la_nil))))
      (lss_one (ls_ret (le_ifExp (lt_lt (le_pv (pv 2)) le_int) (le_neg le_int) (le_ifExp (lt_eq hr (le_pv (pv 2)) le_int) le_int (le_callC c__law_roll hr (by decide) wk.ok (by rfl) (la_cons (le_pv (pv 0)) (la_cons (le_pv (pv 1)) la_nil)))))))),
    fun ds G q h => p__law_letter N__law_letter rfl ds G q dw h⟩
theorem ok__law_wd_is_word (T : Txt P K mg) (d__law_wd_is_word : DefAt K mg "_law_wd_is_word" s__law_wd_is_word) (c__law_wd_is_point : Cal3 P w K mg base "_law_wd_is_point" 2 ["_law_prime", "_law_value"] sp__law_wd_is_point) : Cal3 P w K mg base "_law_wd_is_word" 3 ["_law_prime", "_law_value"] sp__law_wd_is_word :=
  cal3 d__law_wd_is_word (fun _ _ _ _ _ _ us hl => match us, hl with | [_, _], _ => rfl) sc__law_wd_is_word len__law_wd_is_word fun f cdv A outer s H E B dw hr wk => ⟨t__law_wd_is_word dw,
    (lss_one (ls_ret (le_and (le_callC c__law_wd_is_point hr (by decide) wk.ok (by rfl) (la_cons (le_pv (pv 0)) (la_cons (le_pv (pv 1)) la_nil))) (le_one (le_or (le_in hr (le_pv (pv 1)) (le_lst (la_cons (le_tup la_nil) (la_cons (le_tup (la_cons (le_neg le_int) la_nil)) la_nil)))) (le_one (le_gt (le_item (le_pv (pv 1)) (le_neg le_int)) le_int))))))),
    fun ds G q h => p__law_wd_is_word ds G q dw h⟩
theorem ok__law_own_read (T : Txt P K mg) (d__law_own_read : DefAt K mg "_law_own_read" s__law_own_read) (c__law_wd_text : Cal3 P w K mg base "_law_wd_text" 2 ["_law_point"] sp__law_wd_text) (c__law_wd_is_point : Cal3 P w K mg base "_law_wd_is_point" 2 ["_law_prime", "_law_value"] sp__law_wd_is_point) : Cal3 P w K mg base "_law_own_read" 3 ["_law_prime", "_law_text"] sp__law_own_read :=
  cal3 d__law_own_read (fun _ _ _ _ _ _ us hl => match us, hl with | [_, _], _ => rfl) sc__law_own_read len__law_own_read fun f cdv A outer s H E B dw hr wk => ⟨t__law_own_read dw,
    (lss_cons (ls_if (lt_eq hr (le_pv (pv 1)) le_str) (lss_one (ls_ret (le_tup la_nil))) lss_nil)
      (lss_cons (ls_set (i := 2) sc__law_own_read.nd rfl (by first | exact Or.inl rfl | exact Or.inr rfl) (le_lst la_nil))
      (lss_cons (ls_for (vs := [3]) (passes_of rfl) rfl (li_seq (le_split (le_pv (pv 1)) le_str)) (lg_name (i := 3) sc__law_own_read.nd rfl (by first | exact Or.inl rfl | exact Or.inr rfl) (by decide)) (lss_cons (ls_if (LW.lt (lw_or (LW.lt (lw_and (lt_ne hr (le_pv (pv 3)) le_str) (lw_and1 (lt_ne hr (le_lc (own := [("_law_one", 5)]) rfl sc__law_own_read.nd (li_seq (le_pv (pv 3))) (blkOk_by (N := N__law_own_read) (sc := defScope s__law_own_read) (by decide +kernel)) (fun _ _ _ _ _ => (lg_name (i := 5) sc__law_own_read.nd rfl (by first | exact Or.inl rfl | exact Or.inr rfl) (by decide))) (fun _ _ _ _ _ => (lts_one (lt_notIn hr (le_pv (pv 5)) le_str))) (fun _ _ _ _ _ => (le_pv (pv 5)))) (le_lst la_nil))))) (lw_or1 (lt_not (lt_ch on_le on_le le_int (le_len (by rfl) T.n_len (lp_cons (le_pv (pv 3)) lp_nil)) le_int))))) (lss_one (ls_ret (le_lst (la_cons le_int la_nil)))) lss_nil)
      (lss_one (ls_expr (le_append (pv 2) (le_ifExp (lt_eq hr (le_pv (pv 3)) le_str) (le_neg le_int) (le_intStr (by rfl) T.n_int (lp_cons (le_pv (pv 3)) lp_nil))))))))
      (lss_cons (ls_set (i := 4) sc__law_own_read.nd rfl (by first | exact Or.inl rfl | exact Or.inr rfl) (le_and (le_eq hr (le_callC c__law_wd_text hr (by decide) wk.ok (by rfl) (la_cons (le_tuple (by rfl) T.n_tuple (lp_cons (le_pv (pv 2)) lp_nil)) la_nil)) (le_pv (pv 1))) (le_one (le_callC c__law_wd_is_point hr (by decide) wk.ok (by rfl) (la_cons (le_pv (pv 0)) (la_cons (le_tuple (by rfl) T.n_tuple (lp_cons (le_pv (pv 2)) lp_nil)) la_nil))))))
      (lss_one (ls_ret (le_ifExp (lt_val (le_pv (pv 4))) (le_tuple (by rfl) T.n_tuple (lp_cons (le_pv (pv 2)) lp_nil)) (le_lst (la_cons le_int la_nil))))))))),
    fun ds G q h => p__law_own_read ds G q dw h⟩
theorem ok__law_bent (T : Txt P K mg) (d__law_bent : DefAt K mg "_law_bent" s__law_bent) (c__law_roll : Cal3 P w K mg base "_law_roll" 2 ["_law_dice_here", "_law_total"] sp__law_roll) : Cal3 P w K mg base "_law_bent" 3 ["_law_dice_here", "_law_text"] sp__law_bent :=
  cal3 d__law_bent (fun _ _ _ _ _ _ us hl => match us, hl with | [_, _], _ => rfl) sc__law_bent len__law_bent fun f cdv A outer s H E B dw hr wk => ⟨t__law_bent dw,
    (lss_cons (ls_par (i := 2) (j := 3) rfl sc__law_bent.nd rfl rfl (by decide) rfl rfl (le_callC c__law_roll hr (by decide) wk.ok (by rfl) (la_cons (le_pv (pv 0)) (la_cons (le_add (le_len (by rfl) T.n_len (lp_cons (le_pv (pv 1)) lp_nil)) le_int) la_nil))) (le_item le_str (le_callC c__law_roll hr (by decide) wk.ok (by rfl) (la_cons (le_pv (pv 0)) (la_cons le_int la_nil)))) rfl)
      (lss_one (ls_ret (le_add (le_cutS (le_pv (pv 1)) lo_none (lo_some (le_pv (pv 2)))) (le_item (le_lst (la_cons (le_add (le_pv (pv 3)) (le_cutS (le_pv (pv 1)) (lo_some (le_pv (pv 2))) lo_none)) (la_cons (le_cutS (le_pv (pv 1)) (lo_some (le_add (le_pv (pv 2)) le_int)) lo_none) (la_cons (le_add (le_pv (pv 3)) (le_cutS (le_pv (pv 1)) (lo_some (le_add (le_pv (pv 2)) le_int)) lo_none)) la_nil)))) (le_callC c__law_roll hr (by decide) wk.ok (by rfl) (la_cons (le_pv (pv 0)) (la_cons le_int la_nil)))))))),
    fun ds G q h => p__law_bent ds G q dw h⟩
theorem ok_require_prime (T : Txt P K mg) (d_require_prime : DefAt K mg "require_prime" s_require_prime) (c_is_prime : Cal3 P w K mg base "is_prime" 3 ["value"] sp_is_prime) : Cal3 P w K mg base "require_prime" 4 ["value"] sp_require_prime :=
  cal3 d_require_prime (fun _ _ _ _ _ _ us hl => match us, hl with | [_], _ => rfl) sc_require_prime len_require_prime fun f cdv A outer s H E B dw hr wk => ⟨t_require_prime dw,
    (lss_one (ls_if (lt_not (lt_val (le_callC c_is_prime hr (by decide) wk.ok (by rfl) (la_cons (le_pv (pv 0)) la_nil)))) (lss_one ls_never) lss_nil)),
    fun ds G q h => p_require_prime N_require_prime rfl ds G q dw h⟩
theorem ok_is_letter (T : Txt P K mg) (d_is_letter : DefAt K mg "is_letter" s_is_letter) (c_is_integer : Cal3 P w K mg base "is_integer" 3 ["value"] sp_is_integer) : Cal3 P w K mg base "is_letter" 4 ["prime", "value"] sp_is_letter :=
  cal3 d_is_letter (fun _ _ _ _ _ _ us hl => match us, hl with | [_, _], _ => rfl) sc_is_letter len_is_letter fun f cdv A outer s H E B dw hr wk => ⟨t_is_letter dw,
    (lss_one (ls_ret (le_and (le_callC c_is_integer hr (by decide) wk.ok (by rfl) (la_cons (le_pv (pv 1)) la_nil)) (le_one (le_ch on_le on_lt (le_gint (by rfl) T.g_TURN) (le_pv (pv 1)) (le_pv (pv 0))))))),
    fun ds G q h => p_is_letter N_is_letter rfl ds G q dw h⟩
theorem ok__law_point_drawn (T : Txt P K mg) (d__law_point_drawn : DefAt K mg "_law_point_drawn" s__law_point_drawn) (c__law_roll : Cal3 P w K mg base "_law_roll" 2 ["_law_dice_here", "_law_total"] sp__law_roll) (c__law_letter : Cal3 P w K mg base "_law_letter" 3 ["_law_dice_here", "_law_prime"] sp__law_letter) : Cal3 P w K mg base "_law_point_drawn" 4 ["_law_dice_here", "_law_prime", "_law_most"] sp__law_point_drawn :=
  cal3 d__law_point_drawn (fun _ _ _ _ _ _ us hl => match us, hl with | [_, _, _], _ => rfl) sc__law_point_drawn len__law_point_drawn fun f cdv A outer s H E B dw hr wk => ⟨t__law_point_drawn dw,
    (lss_cons (ls_set (i := 3) sc__law_point_drawn.nd rfl (by first | exact Or.inl rfl | exact Or.inr rfl) (le_max2 rfl (by rfl) T.n_max (lp_cons (le_callC c__law_roll hr (by decide) wk.ok (by rfl) (la_cons (le_pv (pv 0)) (la_cons (le_add (le_pv (pv 2)) le_int) la_nil))) (lp_cons (le_callC c__law_roll hr (by decide) wk.ok (by rfl) (la_cons (le_pv (pv 0)) (la_cons (le_add (le_pv (pv 2)) le_int) la_nil))) lp_nil))))
      (lss_one (ls_ret (le_tuple (by rfl) T.n_tuple (lp_cons (le_lc (own := [("_law_turn", 4)]) rfl sc__law_point_drawn.nd (li_range1 (by rfl) T.n_range (la_cons (le_pv (pv 3)) la_nil)) (blkOk_by (N := N__law_point_drawn) (sc := defScope s__law_point_drawn) (by decide +kernel)) (fun _ _ _ _ _ => (lg_name (i := 4) sc__law_point_drawn.nd rfl (by first | exact Or.inl rfl | exact Or.inr rfl) (by decide))) (fun _ _ _ _ _ => lts_nil) (fun _ _ _ _ _ => (le_callC c__law_letter hr (by decide) wok0 (by rfl) (la_cons (le_pv (pv 0)) (la_cons (le_pv (pv 1)) la_nil))))) lp_nil))))),
    fun ds G q h => p__law_point_drawn N__law_point_drawn rfl ds G q dw h⟩
theorem ok_are_letters (T : Txt P K mg) (d_are_letters : DefAt K mg "are_letters" s_are_letters) (c_is_letter : Cal3 P w K mg base "is_letter" 4 ["prime", "value"] sp_is_letter) : Cal3 P w K mg base "are_letters" 5 ["prime", "value"] sp_are_letters :=
  cal3 d_are_letters (fun _ _ _ _ _ _ us hl => match us, hl with | [_, _], _ => rfl) sc_are_letters len_are_letters fun f cdv A outer s H E B dw hr wk => ⟨t_are_letters dw,
    (lss_cons (ls_if (LW.lt (lw_or (lt_not (lt_val (le_isi (by rfl) T.n_isinstance (lp_cons (le_pv (pv 1)) (lp_cons (le_ty (by rfl) T.n_tuple (by decide +kernel)) lp_nil))))) (lw_or1 (lt_gt (le_len (by rfl) T.n_len (lp_cons (le_pv (pv 1)) lp_nil)) (le_gint (by rfl) T.g_MAX_LETTERS))))) (lss_one (ls_ret le_bl)) lss_nil)
      (lss_one (ls_ret (le_all rfl (by rfl) T.n_all (lp_cons (le_lc (own := [("letter", 2)]) rfl sc_are_letters.nd (li_seq (le_pv (pv 1))) (blkOk_by (N := N_are_letters) (sc := defScope s_are_letters) (by decide +kernel)) (fun _ _ _ _ _ => (lg_name (i := 2) sc_are_letters.nd rfl (by first | exact Or.inl rfl | exact Or.inr rfl) (by decide))) (fun _ _ _ _ _ => lts_nil) (fun _ _ _ _ _ => (le_callC c_is_letter hr (by decide) wok0 (by rfl) (la_cons (le_pv (pv 0)) (la_cons (le_pv (pv 2)) la_nil))))) lp_nil))))),
    fun ds G q h => p_are_letters N_are_letters rfl ds G q dw h⟩
theorem ok_read_point (T : Txt P K mg) (d_read_point : DefAt K mg "read_point" s_read_point) (c_require_prime : Cal3 P w K mg base "require_prime" 4 ["value"] sp_require_prime) (c_letters_in : Cal3 P w K mg base "letters_in" 2 ["prime", "text"] sp_letters_in) : Cal3 P w K mg base "read_point" 5 ["prime", "text"] sp_read_point :=
  cal3 d_read_point (fun _ _ _ _ _ _ us hl => match us, hl with | [_, _], _ => rfl) sc_read_point len_read_point fun f cdv A outer s H E B dw hr wk => ⟨t_read_point dw,
    (lss_cons (ls_expr (le_callC c_require_prime hr (by decide) wk.ok (by rfl) (la_cons (le_pv (pv 0)) la_nil)))
      (lss_cons (ls_set (i := 2) sc_read_point.nd rfl (by first | exact Or.inl rfl | exact Or.inr rfl) (le_callC c_letters_in hr (by decide) wk.ok (by rfl) (la_cons (le_pv (pv 0)) (la_cons (le_pv (pv 1)) la_nil))))
      (lss_cons (ls_if (lt_isN (le_pv (pv 2)) le_non) (lss_one (ls_raise1 rfl T.o_ParseError hr wk.ok (la_cons le_int la_nil) (by rfl))) lss_nil)
      (lss_one (ls_ret (le_pv (pv 2))))))),
    fun ds G q h => p_read_point ds G q dw h⟩
theorem ok_require_point (T : Txt P K mg) (d_require_point : DefAt K mg "require_point" s_require_point) (c_are_letters : Cal3 P w K mg base "are_letters" 5 ["prime", "value"] sp_are_letters) : Cal3 P w K mg base "require_point" 6 ["prime", "value"] sp_require_point :=
  cal3 d_require_point (fun _ _ _ _ _ _ us hl => match us, hl with | [_, _], _ => rfl) sc_require_point len_require_point fun f cdv A outer s H E B dw hr wk => ⟨t_require_point dw,
    (lss_one (ls_if (lt_not (lt_val (le_callC c_are_letters hr (by decide) wk.ok (by rfl) (la_cons (le_pv (pv 0)) (la_cons (le_pv (pv 1)) la_nil))))) (lss_one ls_never) lss_nil)),
    fun ds G q h => p_require_point ds G q dw h⟩
theorem ok_Branch_init (T : Txt P K mg) (d_Branch_init : MethAt K "Branch" "__init__" "Branch.__init__" s_Branch_init) (m_Branch : MakeAt K mg "Branch") (c_require_prime : Cal3 P w K mg base "require_prime" 4 ["value"] sp_require_prime) (c_are_letters : Cal3 P w K mg base "are_letters" 5 ["prime", "value"] sp_are_letters) (c_ends_as_word : Cal3 P w K mg base "ends_as_word" 2 ["point"] sp_ends_as_word) (c_letters_text : Cal3 P w K mg base "letters_text" 2 ["point"] sp_letters_text) : New3 P w K mg base "Branch" 6 sp_Branch_init :=
  new3 m_Branch d_Branch_init (fun _ _ _ _ _ _ us hl => match us, hl with | [_, _, _], _ => rfl) sc_Branch_init (by decide) len_Branch_init fun f cdv A outer s H E B dw hr wk => ⟨t_Branch_init dw,
    (lss_cons (ls_expr (le_callC c_require_prime hr (by decide) wk.ok (by rfl) (la_cons (le_pv (pv 1)) la_nil)))
      (lss_cons (ls_if (LW.lt (lw_or (lt_not (lt_val (le_callC c_are_letters hr (by decide) wk.ok (by rfl) (la_cons (le_pv (pv 1)) (la_cons (le_pv (pv 2)) la_nil))))) (lw_or1 (lt_not (lt_val (le_callC c_ends_as_word hr (by decide) wk.ok (by rfl) (la_cons (le_pv (pv 2)) la_nil))))))) (lss_one (ls_raise rfl T.o_InvalidWord wk.ok (by rfl))) lss_nil)
      (lss_cons (ls_attr [("Branch", 0)] (tbl_cons T.sl_Branch_own_prime tbl_nil) (pv 0) (le_pv (pv 1)))
      (lss_cons (ls_attr [("Branch", 2)] (tbl_cons T.sl_Branch_own_word tbl_nil) (pv 0) (le_pv (pv 2)))
      (lss_one (ls_attr [("Branch", 1)] (tbl_cons T.sl_Branch_own_text tbl_nil) (pv 0) (le_fstr (.cons (le_fmt (le_callC c_letters_text hr (by decide) wk.ok (by rfl) (la_cons (le_pv (pv 2)) la_nil))) (.cons le_str (.cons (le_fmt (le_pv (pv 1))) .nil)))))))))),
    fun ds G q h => p_Branch_init ds G q dw h⟩
theorem ok__law_read (T : Txt P K mg) (d__law_read : DefAt K mg "_law_read" s__law_read) (c_read_point : Cal3 P w K mg base "read_point" 5 ["prime", "text"] sp_read_point) : Cal3 P w K mg base "_law_read" 6 ["_law_prime", "_law_text"] sp__law_read :=
  cal3 d__law_read (fun _ _ _ _ _ _ us hl => match us, hl with | [_, _], _ => rfl) sc__law_read len__law_read fun f cdv A outer s H E B dw hr wk => ⟨t__law_read dw,
    (lss_one (ls_try (em := [(("InvalidOperation", "ParseError"), false), (("InvalidPoint", "ParseError"), false), (("InvalidPrime", "ParseError"), false), (("InvalidWord", "ParseError"), false), (("ParseError", "ParseError"), true)]) (emT_cons T.em_InvalidOperation_ParseError (emT_cons T.em_InvalidPoint_ParseError (emT_cons T.em_InvalidPrime_ParseError (emT_cons T.em_InvalidWord_ParseError (emT_cons T.em_ParseError_ParseError emT_nil))))) rfl rfl wk.ok (fun B' pn xe dw2 hp wk => (lss_one (ls_ret (le_callC c_read_point hr (by decide) wk (by rfl) (la_cons (le_pv (pv 0)) (la_cons (le_pv (pv 1)) la_nil)))))) (Hds3.as (i := 2) T.k_ParseError (by rfl) (by decide) sc__law_read.nd rfl (by rfl) (fun a oe x cls d pn B' hz hf hx => (lss_one (ls_ret (le_lst (la_cons (le_xf (xt := [("ParseError", "index")]) (xfT_cons T.xf_ParseError_index xfT_nil) hz hf hx (le_pv (pv 2))) la_nil))))) Hds3.nil))),
    fun ds G q h => p__law_read ds G q dw h⟩
theorem ok_require_prime_point (T : Txt P K mg) (d_require_prime_point : DefAt K mg "require_prime_point" s_require_prime_point) (c_require_prime : Cal3 P w K mg base "require_prime" 4 ["value"] sp_require_prime) (c_require_point : Cal3 P w K mg base "require_point" 6 ["prime", "value"] sp_require_point) : Cal3 P w K mg base "require_prime_point" 7 ["prime", "value"] sp_require_prime_point :=
  cal3 d_require_prime_point (fun _ _ _ _ _ _ us hl => match us, hl with | [_, _], _ => rfl) sc_require_prime_point len_require_prime_point fun f cdv A outer s H E B dw hr wk => ⟨t_require_prime_point dw,
    (lss_cons (ls_expr (le_callC c_require_prime hr (by decide) wk.ok (by rfl) (la_cons (le_pv (pv 0)) la_nil)))
      (lss_one (ls_expr (le_callC c_require_point hr (by decide) wk.ok (by rfl) (la_cons (le_pv (pv 0)) (la_cons (le_pv (pv 1)) la_nil)))))),
    fun ds G q h => p_require_prime_point ds G q dw h⟩
theorem ok_point_text (T : Txt P K mg) (d_point_text : DefAt K mg "point_text" s_point_text) (c_require_prime_point : Cal3 P w K mg base "require_prime_point" 7 ["prime", "value"] sp_require_prime_point) (c_letters_text : Cal3 P w K mg base "letters_text" 2 ["point"] sp_letters_text) : Cal3 P w K mg base "point_text" 8 ["prime", "point"] sp_point_text :=
  cal3 d_point_text (fun _ _ _ _ _ _ us hl => match us, hl with | [_, _], _ => rfl) sc_point_text len_point_text fun f cdv A outer s H E B dw hr wk => ⟨t_point_text dw,
    (lss_cons (ls_expr (le_callC c_require_prime_point hr (by decide) wk.ok (by rfl) (la_cons (le_pv (pv 0)) (la_cons (le_pv (pv 1)) la_nil))))
      (lss_one (ls_ret (le_callC c_letters_text hr (by decide) wk.ok (by rfl) (la_cons (le_pv (pv 1)) la_nil))))),
    fun ds G q h => p_point_text ds G q dw h⟩
theorem ok_word_through (T : Txt P K mg) (d_word_through : DefAt K mg "word_through" s_word_through) (c_require_prime_point : Cal3 P w K mg base "require_prime_point" 7 ["prime", "value"] sp_require_prime_point) (c_without_zeros : Cal3 P w K mg base "without_zeros" 2 ["point"] sp_without_zeros) (c_ends_as_word : Cal3 P w K mg base "ends_as_word" 2 ["point"] sp_ends_as_word) : Cal3 P w K mg base "word_through" 8 ["prime", "point"] sp_word_through :=
  cal3 d_word_through (fun _ _ _ _ _ _ us hl => match us, hl with | [_, _], _ => rfl) sc_word_through len_word_through fun f cdv A outer s H E B dw hr wk => ⟨t_word_through dw,
    (lss_cons (ls_expr (le_callC c_require_prime_point hr (by decide) wk.ok (by rfl) (la_cons (le_pv (pv 0)) (la_cons (le_pv (pv 1)) la_nil))))
      (lss_cons (ls_set (i := 2) sc_word_through.nd rfl (by first | exact Or.inl rfl | exact Or.inr rfl) (le_callC c_without_zeros hr (by decide) wk.ok (by rfl) (la_cons (le_pv (pv 1)) la_nil)))
      (lss_cons (ls_if (lt_not (lt_val (le_callC c_ends_as_word hr (by decide) wk.ok (by rfl) (la_cons (le_pv (pv 2)) la_nil)))) (lss_one (ls_raise rfl T.o_InvalidOperation wk.ok (by rfl))) lss_nil)
      (lss_one (ls_ret (le_pv (pv 2))))))),
    fun ds G q h => p_word_through ds G q dw h⟩
theorem ok_Branch_read (T : Txt P K mg) (d_Branch_read : ClmAt K "Branch" "read" "Branch.read" s_Branch_read) (c_Branch_init : New3 P w K mg base "Branch" 6 sp_Branch_init) (c_read_point : Cal3 P w K mg base "read_point" 5 ["prime", "text"] sp_read_point) : CMeth3 P w K mg base "Branch" "read" 8 sp_Branch_read :=
  cmeth3 d_Branch_read (fun _ _ _ _ _ _ us hl => match us, hl with | [_, _, _], _ => rfl) sc_Branch_read len_Branch_read fun f cdv A outer s H E B dw hr wk => ⟨t_Branch_read dw,
    (lss_one (ls_ret (le_makeV 0 c_Branch_init hr (by decide) wk (la_cons (le_pv (pv 1)) (la_cons (le_callC c_read_point hr (by decide) wk.ok (by rfl) (la_cons (le_pv (pv 1)) (la_cons (le_pv (pv 2)) la_nil))) la_nil))))),
    fun ds G q h => p_Branch_read ds G q dw h⟩
theorem ok__law_through (T : Txt P K mg) (d__law_through : DefAt K mg "_law_through" s__law_through) (c_word_through : Cal3 P w K mg base "word_through" 8 ["prime", "point"] sp_word_through) : Cal3 P w K mg base "_law_through" 9 ["_law_prime", "_law_point"] sp__law_through :=
  cal3 d__law_through (fun _ _ _ _ _ _ us hl => match us, hl with | [_, _], _ => rfl) sc__law_through len__law_through fun f cdv A outer s H E B dw hr wk => ⟨t__law_through dw,
    (lss_one (ls_try (em := [(("InvalidOperation", "InvalidOperation"), true), (("InvalidPoint", "InvalidOperation"), false), (("InvalidPrime", "InvalidOperation"), false), (("InvalidWord", "InvalidOperation"), false), (("ParseError", "InvalidOperation"), false)]) (emT_cons T.em_InvalidOperation_InvalidOperation (emT_cons T.em_InvalidPoint_InvalidOperation (emT_cons T.em_InvalidPrime_InvalidOperation (emT_cons T.em_InvalidWord_InvalidOperation (emT_cons T.em_ParseError_InvalidOperation emT_nil))))) rfl rfl wk.ok (fun B' pn xe dw2 hp wk => (lss_one (ls_ret (le_callC c_word_through hr (by decide) wk (by rfl) (la_cons (le_pv (pv 0)) (la_cons (le_pv (pv 1)) la_nil)))))) (Hds3.cons T.k_InvalidOperation (by rfl) (by decide) (fun a oe x cls d pn B' hz hf hx => (lss_one (ls_ret le_str))) Hds3.nil))),
    fun ds G q h => p__law_through ds G q dw h⟩
theorem ok__law_branch {cd__law_branch : Addr} (T : Txt P K mg) (d__law_branch : DefAtC K mg "_law_branch" s__law_branch cd__law_branch) (c_Branch_read : CMeth3 P w K mg base "Branch" "read" 8 sp_Branch_read) : CalG P w K mg base "_law_branch" 10 ["_law_prime", "_law_text"] sp__law_branch :=
  calG d__law_branch (fun _ _ _ _ _ _ us hl => match us, hl with | [_, _], _ => rfl) sc__law_branch len__law_branch fun f A outer s H E B dw hgd hr wk => ⟨t__law_branch dw,
    (lss_one (ls_try (em := [(("InvalidOperation", "ParseError"), false), (("InvalidOperation", "InvalidWord"), false), (("InvalidPoint", "ParseError"), false), (("InvalidPoint", "InvalidWord"), false), (("InvalidPrime", "ParseError"), false), (("InvalidPrime", "InvalidWord"), false), (("InvalidWord", "ParseError"), false), (("InvalidWord", "InvalidWord"), true), (("ParseError", "ParseError"), true), (("ParseError", "InvalidWord"), false)]) (emT_cons T.em_InvalidOperation_ParseError (emT_cons T.em_InvalidOperation_InvalidWord (emT_cons T.em_InvalidPoint_ParseError (emT_cons T.em_InvalidPoint_InvalidWord (emT_cons T.em_InvalidPrime_ParseError (emT_cons T.em_InvalidPrime_InvalidWord (emT_cons T.em_InvalidWord_ParseError (emT_cons T.em_InvalidWord_InvalidWord (emT_cons T.em_ParseError_ParseError (emT_cons T.em_ParseError_InvalidWord emT_nil)))))))))) rfl rfl wk.ok (fun B' pn xe dw2 hp wk => (lss_one (ls_ret (le_cmethS c_Branch_read hr (by decide) wk (le_cls (by rfl) T.k_Branch) (la_cons (le_pv (pv 0)) (la_cons (le_pv (pv 1)) la_nil)))))) (Hds3.as (i := 2) T.k_ParseError (by rfl) (by decide) sc__law_branch.nd rfl (by rfl) (fun a oe x cls d pn B' hz hf hx => (lss_one (ls_ret (le_add le_str (le_reprS hgd (rm200 hr) (by rfl) T.n_repr (lp_cons (le_xf (xt := [("ParseError", "index")]) (xfT_cons T.xf_ParseError_index xfT_nil) hz hf hx (le_pv (pv 2))) lp_nil)))))) (Hds3.cons T.k_InvalidWord (by rfl) (by decide) (fun a oe x cls d pn B' hz hf hx => (lss_one (ls_ret le_str))) Hds3.nil)))),
    fun ds G q h => p__law_branch ds G q dw h⟩
theorem ok__law_right {cd__law_right : Addr} (T : Txt P K mg) (d__law_right : DefAtC K mg "_law_right" s__law_right cd__law_right) (c__law_pick : Cal3 P w K mg base "_law_pick" 3 ["_law_dice_here", "_law_items"] sp__law_pick) (c__law_point_drawn : Cal3 P w K mg base "_law_point_drawn" 4 ["_law_dice_here", "_law_prime", "_law_most"] sp__law_point_drawn) (c__law_wd_text : Cal3 P w K mg base "_law_wd_text" 2 ["_law_point"] sp__law_wd_text) (c__law_wd_bare : Cal3 P w K mg base "_law_wd_bare" 2 ["_law_point"] sp__law_wd_bare) (c_point_text : Cal3 P w K mg base "point_text" 8 ["prime", "point"] sp_point_text) (c__law_read : Cal3 P w K mg base "_law_read" 6 ["_law_prime", "_law_text"] sp__law_read) (c__law_wd_is_word : Cal3 P w K mg base "_law_wd_is_word" 3 ["_law_prime", "_law_value"] sp__law_wd_is_word) (c__law_through : Cal3 P w K mg base "_law_through" 9 ["_law_prime", "_law_point"] sp__law_through) (c__law_bent : Cal3 P w K mg base "_law_bent" 3 ["_law_dice_here", "_law_text"] sp__law_bent) (c__law_own_read : Cal3 P w K mg base "_law_own_read" 3 ["_law_prime", "_law_text"] sp__law_own_read) (c__law_branch : CalG P w K mg base "_law_branch" 10 ["_law_prime", "_law_text"] sp__law_branch) (c_Branch_eq : Meth3 P w K mg base "Branch" "__eq__" 2 sp_Branch_eq) (c_Branch_init : New3 P w K mg base "Branch" 6 sp_Branch_init) : CalG P w K mg base "_law_right" 11 ["_law_dice_here"] sp__law_right :=
  calG d__law_right (fun _ _ _ _ _ _ us hl => match us, hl with | [_], _ => rfl) sc__law_right len__law_right fun f A outer s H E B dw hgd hr wk => ⟨t__law_right dw,
    (lss_cons (ls_set (i := 1) sc__law_right.nd rfl (by first | exact Or.inl rfl | exact Or.inr rfl) (le_callC c__law_pick hr (by decide) wk.ok (by rfl) (la_cons (le_pv (pv 0)) (la_cons (le_lst (la_cons le_int (la_cons le_int (la_cons le_int (la_cons le_int (la_cons le_int (la_cons le_int la_nil))))))) la_nil))))
      (lss_cons (ls_set (i := 2) sc__law_right.nd rfl (by first | exact Or.inl rfl | exact Or.inr rfl) (le_callC c__law_point_drawn hr (by decide) wk.ok (by rfl) (la_cons (le_pv (pv 0)) (la_cons (le_pv (pv 1)) (la_cons (le_callC c__law_pick hr (by decide) wk.ok (by rfl) (la_cons (le_pv (pv 0)) (la_cons (le_lst (la_cons le_int (la_cons le_int (la_cons le_int la_nil)))) la_nil))) la_nil)))))
      (lss_cons (ls_par (i := 3) (j := 4) rfl sc__law_right.nd rfl rfl (by decide) rfl rfl (le_callC c__law_wd_text hr (by decide) wk.ok (by rfl) (la_cons (le_pv (pv 2)) la_nil)) (le_callC c__law_wd_bare hr (by decide) wk.ok (by rfl) (la_cons (le_pv (pv 2)) la_nil)) rfl)
      (lss_cons (ls_if (LW.lt (lw_or (lt_ne hr (le_callC c_point_text hr (by decide) wk.ok (by rfl) (la_cons (le_pv (pv 1)) (la_cons (le_pv (pv 2)) la_nil))) (le_pv (pv 3))) (lw_or1 (lt_ne hr (le_callC c__law_read hr (by decide) wk.ok (by rfl) (la_cons (le_pv (pv 1)) (la_cons (le_pv (pv 3)) la_nil))) (le_pv (pv 2)))))) (lss_one (ls_ret le_bl)) lss_nil)
      (lss_cons (ls_set (i := 5) sc__law_right.nd rfl (by first | exact Or.inl rfl | exact Or.inr rfl) (le_ifExp (lt_val (le_callC c__law_wd_is_word hr (by decide) wk.ok (by rfl) (la_cons (le_pv (pv 1)) (la_cons (le_pv (pv 4)) la_nil)))) (le_pv (pv 4)) le_str))
      (lss_cons (ls_if (lt_ne hr (le_callC c__law_through hr (by decide) wk.ok (by rfl) (la_cons (le_pv (pv 1)) (la_cons (le_pv (pv 2)) la_nil))) (le_pv (pv 5))) (lss_one (ls_ret le_bl)) lss_nil)
      (lss_cons (ls_for (vs := [6]) (passes_of rfl) rfl (li_range1 (by rfl) T.n_range (la_cons le_int la_nil)) (lg_name (i := 6) sc__law_right.nd rfl (by first | exact Or.inl rfl | exact Or.inr rfl) (by decide)) (lss_cons (ls_set (i := 7) sc__law_right.nd rfl (by first | exact Or.inl rfl | exact Or.inr rfl) (le_callC c__law_bent hr (by decide) wk.ok (by rfl) (la_cons (le_pv (pv 0)) (la_cons (le_pv (pv 3)) la_nil))))
      (lss_cons (ls_if (lt_ne hr (le_reprG hgd hr (by rfl) T.n_repr (lp_cons (le_callC c__law_read hr (by decide) wk.ok (by rfl) (la_cons (le_pv (pv 1)) (la_cons (le_pv (pv 7)) la_nil))) lp_nil)) (le_reprG hgd hr (by rfl) T.n_repr (lp_cons (le_callC c__law_own_read hr (by decide) wk.ok (by rfl) (la_cons (le_pv (pv 1)) (la_cons (le_pv (pv 7)) la_nil))) lp_nil))) (lss_one (ls_ret le_bl)) lss_nil)
      (lss_cons (ls_par (i := 8) (j := 9) rfl sc__law_right.nd rfl rfl (by decide) rfl rfl (le_callG c__law_branch hgd hr (by decide) wk.ok (by rfl) (la_cons (le_pv (pv 1)) (la_cons (le_pv (pv 7)) la_nil))) (le_callC c__law_own_read hr (by decide) wk.ok (by rfl) (la_cons (le_pv (pv 1)) (la_cons (le_pv (pv 7)) la_nil))) rfl)
      (lss_cons (ls_if (LW.lt (lw_and (lt_val (le_isiA ["Branch"] ["Branch"] [(("Branch", "Branch"), true)] (all_cons T.it_Branch all_nil) (all_cons T.io_Branch all_nil) (isi_cons T.isi_Branch_Branch isi_nil) (by rfl) T.n_isinstance (lp_cons (le_pv (pv 9)) (lp_cons (le_ty (by rfl) T.n_list (by decide +kernel)) lp_nil)))) (lw_and1 (lt_ne hr (le_pv (pv 8)) le_str)))) (lss_one (ls_ret le_bl)) lss_nil)
      (lss_cons (ls_set (i := 10) sc__law_right.nd rfl (by first | exact Or.inl rfl | exact Or.inr rfl) (le_and (le_isiA ["Branch"] ["Branch"] [(("Branch", "Branch"), true)] (all_cons T.it_Branch all_nil) (all_cons T.io_Branch all_nil) (isi_cons T.isi_Branch_Branch isi_nil) (by rfl) T.n_isinstance (lp_cons (le_pv (pv 9)) (lp_cons (le_ty (by rfl) T.n_tuple (by decide +kernel)) lp_nil))) (le_one (le_callC c__law_wd_is_word hr (by decide) wk.ok (by rfl) (la_cons (le_pv (pv 1)) (la_cons (le_pv (pv 9)) la_nil))))))
      (lss_one (ls_if (LW.lt (lw_or (LW.lt (lw_and (lt_val (le_pv (pv 10))) (lw_and1 (lt_neO c_Branch_eq T.ne_Branch hr (by decide) (le_pv (pv 8)) (le_make c_Branch_init hr (by decide) (by rfl) (la_cons (le_pv (pv 1)) (la_cons (le_pv (pv 9)) la_nil))))))) (lw_or1 (LW.lt (lw_and (lt_val (le_isiA ["Branch"] ["Branch"] [(("Branch", "Branch"), true)] (all_cons T.it_Branch all_nil) (all_cons T.io_Branch all_nil) (isi_cons T.isi_Branch_Branch isi_nil) (by rfl) T.n_isinstance (lp_cons (le_pv (pv 9)) (lp_cons (le_ty (by rfl) T.n_tuple (by decide +kernel)) lp_nil)))) (lw_and (lt_not (lt_val (le_pv (pv 10)))) (lw_and1 (lt_ne hr (le_pv (pv 8)) le_str)))))))) (lss_one (ls_ret le_bl)) lss_nil))))))))
      (lss_cons (ls_set (i := 11) sc__law_right.nd rfl (by first | exact Or.inl rfl | exact Or.inr rfl) (le_callC c__law_pick hr (by decide) wk.ok (by rfl) (la_cons (le_pv (pv 0)) (la_cons (le_lst (la_cons le_non (la_cons le_int (la_cons (le_tup la_nil) (la_cons (le_tup (la_cons le_int (la_cons le_int la_nil))) (la_cons le_str (la_cons le_str (la_cons le_str (la_cons le_str (la_cons le_str (la_cons le_str (la_cons le_str (la_cons le_str (la_cons le_str (la_cons le_str la_nil))))))))))))))) la_nil))))
      (lss_one (ls_ret (le_and (le_eq hr (le_callC c__law_read hr (by decide) wk.ok (by rfl) (la_cons (le_pv (pv 1)) (la_cons (le_pv (pv 11)) la_nil))) (le_lst (la_cons le_int la_nil))) (le_one (le_eq hr (le_callG c__law_branch hgd hr (by decide) wk.ok (by rfl) (la_cons (le_pv (pv 1)) (la_cons (le_pv (pv 11)) la_nil))) le_str))))))))))))),
    fun ds G q h => p__law_right ds G q dw h⟩
theorem ok_law {cd_law : Addr} (T : Txt P K mg) (d_law : DefAtC K mg "law" s_law cd_law) (c__law_dice : Cal3 P w K mg base "_law_dice" 2 ["_law_script", "_law_spot"] sp__law_dice) (c__law_right : CalG P w K mg base "_law_right" 11 ["_law_dice_here"] sp__law_right) (c_word_through : Cal3 P w K mg base "word_through" 8 ["prime", "point"] sp_word_through) (c_read_point : Cal3 P w K mg base "read_point" 5 ["prime", "text"] sp_read_point) (c_point_text : Cal3 P w K mg base "point_text" 8 ["prime", "point"] sp_point_text) (c__law_through : Cal3 P w K mg base "_law_through" 9 ["_law_prime", "_law_point"] sp__law_through) (c__law_read : Cal3 P w K mg base "_law_read" 6 ["_law_prime", "_law_text"] sp__law_read) (c__law_branch : CalG P w K mg base "_law_branch" 10 ["_law_prime", "_law_text"] sp__law_branch) (c_Branch_str : Meth3 P w K mg base "Branch" "__str__" 2 sp_Branch_str) (c_Branch_read : CMeth3 P w K mg base "Branch" "read" 8 sp_Branch_read) : CalG P w K mg base "law" 12 ["_law_script"] sp_law :=
  calG d_law (fun _ _ _ _ _ _ us hl => match us, hl with | [_], _ => rfl) sc_law len_law fun f A outer s H E B dw hgd hr wk => ⟨t_law dw,
    (lss_cons (ls_for (vs := [1]) (passes_of rfl) rfl (li_range1 (by rfl) T.n_range (la_cons (le_max2 rfl (by rfl) T.n_max (lp_cons le_int (lp_cons (le_min2 rfl (by rfl) T.n_min (lp_cons le_int (lp_cons (le_len (by rfl) T.n_len (lp_cons (le_pv (pv 0)) lp_nil)) lp_nil))) lp_nil))) la_nil)) (lg_name (i := 1) sc_law.nd rfl (by first | exact Or.inl rfl | exact Or.inr rfl) (by decide)) (lss_cons (ls_setReg (i := 2) sc_law.nd rfl (by first | exact Or.inl rfl | exact Or.inr rfl) (le_callC c__law_dice hr (by decide) wk.ok (by rfl) (la_cons (le_pv (pv 0)) (la_cons (le_pv (pv 1)) la_nil))))
      (lss_one (ls_for (vs := [3]) (passes_of rfl) rfl (li_range1 (by rfl) T.n_range (la_cons le_int la_nil)) (lg_name (i := 3) sc_law.nd rfl (by first | exact Or.inl rfl | exact Or.inr rfl) (by decide)) (lss_one (ls_if (lt_not (lt_val (le_callG c__law_right hgd hr (by decide) wk.ok (by rfl) (la_cons (le_pv (pv 2)) la_nil)))) (lss_one (ls_ret le_bl)) lss_nil))))))
      (lss_cons (ls_set (i := 4) sc_law.nd rfl (by first | exact Or.inl rfl | exact Or.inr rfl) (le_lst (la_cons (le_callC c_point_text hr (by decide) wk.ok (by rfl) (la_cons le_int (la_cons (le_tup (la_cons le_int (la_cons (le_neg le_int) la_nil))) la_nil))) (la_cons (le_callC c_read_point hr (by decide) wk.ok (by rfl) (la_cons le_int (la_cons le_str la_nil))) (la_cons (le_callC c_word_through hr (by decide) wk.ok (by rfl) (la_cons le_int (la_cons (le_tup (la_cons le_int (la_cons le_int (la_cons le_int (la_cons le_int la_nil))))) la_nil))) (la_cons (le_callC c_word_through hr (by decide) wk.ok (by rfl) (la_cons le_int (la_cons (le_tup (la_cons (le_neg le_int) (la_cons le_int la_nil))) la_nil))) la_nil))))))
      (lss_cons (ls_if (LW.lt (lw_or (lt_ne hr (le_pv (pv 4)) (le_lst (la_cons le_str (la_cons (le_tup (la_cons (le_neg le_int) (la_cons (le_neg le_int) (la_cons le_int la_nil)))) (la_cons (le_tup (la_cons le_int (la_cons le_int la_nil))) (la_cons (le_tup (la_cons (le_neg le_int) la_nil)) la_nil)))))) (lw_or1 (lt_ne hr (le_callC c__law_through hr (by decide) wk.ok (by rfl) (la_cons le_int (la_cons (le_tup (la_cons le_int (la_cons (le_neg le_int) (la_cons le_int la_nil)))) la_nil))) le_str)))) (lss_one (ls_ret le_bl)) lss_nil)
      (lss_one (ls_ret (le_and (le_eq hr (le_callC c__law_read hr (by decide) wk.ok (by rfl) (la_cons le_int (la_cons le_str la_nil))) (le_lst (la_cons le_int la_nil))) (le_and (le_eq hr (le_callG c__law_branch hgd hr (by decide) wk.ok (by rfl) (la_cons le_int (la_cons le_str la_nil))) le_str) (le_one (le_eq hr (le_strO c_Branch_str hr (by decide) (by rfl) T.n_str (lp_cons (le_cmeth c_Branch_read hr (by decide) wk (le_cls (by rfl) T.k_Branch) (la_cons le_int (la_cons le_str la_nil))) lp_nil)) le_str))))))))),
    fun ds G q h => p_law ds G q dw h⟩
theorem all_law {cd__law_branch : Addr} {cd__law_right : Addr} {cd_law : Addr} (T : Txt P K mg) (d_is_whole : DefAt K mg "is_whole" s_is_whole) (d_ends_as_word : DefAt K mg "ends_as_word" s_ends_as_word) (d_letters_text : DefAt K mg "letters_text" s_letters_text) (d_letters_in : DefAt K mg "letters_in" s_letters_in) (d_without_zeros : DefAt K mg "without_zeros" s_without_zeros) (d_Branch_eq : MethAt K "Branch" "__eq__" "Branch.__eq__" s_Branch_eq) (q_Branch_eq : SClsN K "Branch") (d_Branch_str : MethAt K "Branch" "__str__" "Branch.__str__" s_Branch_str) (q_Branch_str : SClsN K "Branch") (d__law_dice : DefAt K mg "_law_dice" s__law_dice) (d__law_roll : DefAt K mg "_law_roll" s__law_roll) (d__law_wd_is_point : DefAt K mg "_law_wd_is_point" s__law_wd_is_point) (d__law_wd_text : DefAt K mg "_law_wd_text" s__law_wd_text) (d__law_wd_bare : DefAt K mg "_law_wd_bare" s__law_wd_bare) (d_is_integer : DefAt K mg "is_integer" s_is_integer) (d_is_prime : DefAt K mg "is_prime" s_is_prime) (d__law_pick : DefAt K mg "_law_pick" s__law_pick) (d__law_letter : DefAt K mg "_law_letter" s__law_letter) (d__law_wd_is_word : DefAt K mg "_law_wd_is_word" s__law_wd_is_word) (d__law_own_read : DefAt K mg "_law_own_read" s__law_own_read) (d__law_bent : DefAt K mg "_law_bent" s__law_bent) (d_require_prime : DefAt K mg "require_prime" s_require_prime) (d_is_letter : DefAt K mg "is_letter" s_is_letter) (d__law_point_drawn : DefAt K mg "_law_point_drawn" s__law_point_drawn) (d_are_letters : DefAt K mg "are_letters" s_are_letters) (d_read_point : DefAt K mg "read_point" s_read_point) (d_require_point : DefAt K mg "require_point" s_require_point) (d_Branch_init : MethAt K "Branch" "__init__" "Branch.__init__" s_Branch_init) (m_Branch : MakeAt K mg "Branch") (d__law_read : DefAt K mg "_law_read" s__law_read) (d_require_prime_point : DefAt K mg "require_prime_point" s_require_prime_point) (d_point_text : DefAt K mg "point_text" s_point_text) (d_word_through : DefAt K mg "word_through" s_word_through) (d_Branch_read : ClmAt K "Branch" "read" "Branch.read" s_Branch_read) (d__law_through : DefAt K mg "_law_through" s__law_through) (d__law_branch : DefAtC K mg "_law_branch" s__law_branch cd__law_branch) (d__law_right : DefAtC K mg "_law_right" s__law_right cd__law_right) (d_law : DefAtC K mg "law" s_law cd_law) : CalG P w K mg base "law" 12 ["_law_script"] sp_law := by
  have c_is_whole : Cal3 P w K mg base "is_whole" 2 ["value"] sp_is_whole := ok_is_whole T d_is_whole 
  have c_ends_as_word : Cal3 P w K mg base "ends_as_word" 2 ["point"] sp_ends_as_word := ok_ends_as_word T d_ends_as_word 
  have c_letters_text : Cal3 P w K mg base "letters_text" 2 ["point"] sp_letters_text := ok_letters_text T d_letters_text 
  have c_letters_in : Cal3 P w K mg base "letters_in" 2 ["prime", "text"] sp_letters_in := ok_letters_in T d_letters_in 
  have c_without_zeros : Cal3 P w K mg base "without_zeros" 2 ["point"] sp_without_zeros := ok_without_zeros T d_without_zeros 
  have c_Branch_eq : Meth3 P w K mg base "Branch" "__eq__" 2 sp_Branch_eq := ok_Branch_eq T d_Branch_eq q_Branch_eq 
  have c_Branch_str : Meth3 P w K mg base "Branch" "__str__" 2 sp_Branch_str := ok_Branch_str T d_Branch_str q_Branch_str 
  have c__law_dice : Cal3 P w K mg base "_law_dice" 2 ["_law_script", "_law_spot"] sp__law_dice := ok__law_dice T d__law_dice 
  have c__law_roll : Cal3 P w K mg base "_law_roll" 2 ["_law_dice_here", "_law_total"] sp__law_roll := ok__law_roll T d__law_roll 
  have c__law_wd_is_point : Cal3 P w K mg base "_law_wd_is_point" 2 ["_law_prime", "_law_value"] sp__law_wd_is_point := ok__law_wd_is_point T d__law_wd_is_point 
  have c__law_wd_text : Cal3 P w K mg base "_law_wd_text" 2 ["_law_point"] sp__law_wd_text := ok__law_wd_text T d__law_wd_text 
  have c__law_wd_bare : Cal3 P w K mg base "_law_wd_bare" 2 ["_law_point"] sp__law_wd_bare := ok__law_wd_bare T d__law_wd_bare 
  have c_is_integer : Cal3 P w K mg base "is_integer" 3 ["value"] sp_is_integer := ok_is_integer T d_is_integer c_is_whole
  have c_is_prime : Cal3 P w K mg base "is_prime" 3 ["value"] sp_is_prime := ok_is_prime T d_is_prime c_is_whole
  have c__law_pick : Cal3 P w K mg base "_law_pick" 3 ["_law_dice_here", "_law_items"] sp__law_pick := ok__law_pick T d__law_pick c__law_roll
  have c__law_letter : Cal3 P w K mg base "_law_letter" 3 ["_law_dice_here", "_law_prime"] sp__law_letter := ok__law_letter T d__law_letter c__law_roll
  have c__law_wd_is_word : Cal3 P w K mg base "_law_wd_is_word" 3 ["_law_prime", "_law_value"] sp__law_wd_is_word := ok__law_wd_is_word T d__law_wd_is_word c__law_wd_is_point
  have c__law_own_read : Cal3 P w K mg base "_law_own_read" 3 ["_law_prime", "_law_text"] sp__law_own_read := ok__law_own_read T d__law_own_read c__law_wd_text c__law_wd_is_point
  have c__law_bent : Cal3 P w K mg base "_law_bent" 3 ["_law_dice_here", "_law_text"] sp__law_bent := ok__law_bent T d__law_bent c__law_roll
  have c_require_prime : Cal3 P w K mg base "require_prime" 4 ["value"] sp_require_prime := ok_require_prime T d_require_prime c_is_prime
  have c_is_letter : Cal3 P w K mg base "is_letter" 4 ["prime", "value"] sp_is_letter := ok_is_letter T d_is_letter c_is_integer
  have c__law_point_drawn : Cal3 P w K mg base "_law_point_drawn" 4 ["_law_dice_here", "_law_prime", "_law_most"] sp__law_point_drawn := ok__law_point_drawn T d__law_point_drawn c__law_roll c__law_letter
  have c_are_letters : Cal3 P w K mg base "are_letters" 5 ["prime", "value"] sp_are_letters := ok_are_letters T d_are_letters c_is_letter
  have c_read_point : Cal3 P w K mg base "read_point" 5 ["prime", "text"] sp_read_point := ok_read_point T d_read_point c_require_prime c_letters_in
  have c_require_point : Cal3 P w K mg base "require_point" 6 ["prime", "value"] sp_require_point := ok_require_point T d_require_point c_are_letters
  have c_Branch_init : New3 P w K mg base "Branch" 6 sp_Branch_init := ok_Branch_init T d_Branch_init m_Branch c_require_prime c_are_letters c_ends_as_word c_letters_text
  have c__law_read : Cal3 P w K mg base "_law_read" 6 ["_law_prime", "_law_text"] sp__law_read := ok__law_read T d__law_read c_read_point
  have c_require_prime_point : Cal3 P w K mg base "require_prime_point" 7 ["prime", "value"] sp_require_prime_point := ok_require_prime_point T d_require_prime_point c_require_prime c_require_point
  have c_point_text : Cal3 P w K mg base "point_text" 8 ["prime", "point"] sp_point_text := ok_point_text T d_point_text c_require_prime_point c_letters_text
  have c_word_through : Cal3 P w K mg base "word_through" 8 ["prime", "point"] sp_word_through := ok_word_through T d_word_through c_require_prime_point c_without_zeros c_ends_as_word
  have c_Branch_read : CMeth3 P w K mg base "Branch" "read" 8 sp_Branch_read := ok_Branch_read T d_Branch_read c_Branch_init c_read_point
  have c__law_through : Cal3 P w K mg base "_law_through" 9 ["_law_prime", "_law_point"] sp__law_through := ok__law_through T d__law_through c_word_through
  have c__law_branch : CalG P w K mg base "_law_branch" 10 ["_law_prime", "_law_text"] sp__law_branch := ok__law_branch T d__law_branch c_Branch_read
  have c__law_right : CalG P w K mg base "_law_right" 11 ["_law_dice_here"] sp__law_right := ok__law_right T d__law_right c__law_pick c__law_point_drawn c__law_wd_text c__law_wd_bare c_point_text c__law_read c__law_wd_is_word c__law_through c__law_bent c__law_own_read c__law_branch c_Branch_eq c_Branch_init
  have c_law : CalG P w K mg base "law" 12 ["_law_script"] sp_law := ok_law T d_law c__law_dice c__law_right c_word_through c_read_point c_point_text c__law_through c__law_read c__law_branch c_Branch_str c_Branch_read
  exact c_law
end
end K09

set_option Elab.async false
namespace K09
open PySem PySem.Spec PyProof.Rows L2 L3 LamX LD LN LP
theorem all_mk {l : PySem.W.OpenLaw} {q P : Program} (hP : l.prog = P) {w : World} {K : PySem.W.Frag} {h : Heap} {mg : Str → Option Value} {fa : Addr} (X : K.In h) (G : h.Ns mainGlobals mg) (hfa : mg "law" = some (.ref fa))
    (n_abs : PySem.W.nsIn K mainGlobals "abs" = some none)
    (n_all : PySem.W.nsIn K mainGlobals "all" = some none)
    (n_bool : PySem.W.nsIn K mainGlobals "bool" = some none)
    (n_int : PySem.W.nsIn K mainGlobals "int" = some none)
    (n_isinstance : PySem.W.nsIn K mainGlobals "isinstance" = some none)
    (n_len : PySem.W.nsIn K mainGlobals "len" = some none)
    (n_list : PySem.W.nsIn K mainGlobals "list" = some none)
    (n_max : PySem.W.nsIn K mainGlobals "max" = some none)
    (n_min : PySem.W.nsIn K mainGlobals "min" = some none)
    (n_range : PySem.W.nsIn K mainGlobals "range" = some none)
    (n_repr : PySem.W.nsIn K mainGlobals "repr" = some none)
    (n_str : PySem.W.nsIn K mainGlobals "str" = some none)
    (n_tuple : PySem.W.nsIn K mainGlobals "tuple" = some none)
    {tk_BLANK : Tok} (g_BLANK : PySem.W.nsIn K mainGlobals "BLANK" = some (some (.str " " tk_BLANK)))
    {tk_GREAT : Tok} (g_GREAT : PySem.W.nsIn K mainGlobals "GREAT" = some (some (.int (1000000000000000000000000000000000000000000000000000000000000) tk_GREAT)))
    {tk_MAX_LETTERS : Tok} (g_MAX_LETTERS : PySem.W.nsIn K mainGlobals "MAX_LETTERS" = some (some (.int (60) tk_MAX_LETTERS)))
    {tk_ORIGIN_TEXT : Tok} (g_ORIGIN_TEXT : PySem.W.nsIn K mainGlobals "ORIGIN_TEXT" = some (some (.str "." tk_ORIGIN_TEXT)))
    {ad_PRIMES : Addr} {dd_PRIMES : Option Addr} {n_PRIMES_ : Nat} {sl_PRIMES : Array (Option Value)} {tk_PRIMES_0 tk_PRIMES_1 tk_PRIMES_2 tk_PRIMES_3 tk_PRIMES_4 tk_PRIMES_5 tk_PRIMES_6 tk_PRIMES_7 tk_PRIMES_8 tk_PRIMES_9 tk_PRIMES_10 : Tok} (g_PRIMES : PySem.W.nsIn K mainGlobals "PRIMES" = some (some (.ref ad_PRIMES))) (l_PRIMES : K.lookup ad_PRIMES = some ⟨.type "tuple", dd_PRIMES, .seq #[.int (2) tk_PRIMES_0, .int (3) tk_PRIMES_1, .int (5) tk_PRIMES_2, .int (7) tk_PRIMES_3, .int (11) tk_PRIMES_4, .int (13) tk_PRIMES_5, .int (17) tk_PRIMES_6, .int (19) tk_PRIMES_7, .int (23) tk_PRIMES_8, .int (29) tk_PRIMES_9, .int (31) tk_PRIMES_10] n_PRIMES_, sl_PRIMES⟩)
    {tk_TURN : Tok} (g_TURN : PySem.W.nsIn K mainGlobals "TURN" = some (some (.int (-1) tk_TURN)))
    {tk_TURN_TEXT : Tok} (g_TURN_TEXT : PySem.W.nsIn K mainGlobals "TURN_TEXT" = some (some (.str "t" tk_TURN_TEXT)))
    {C_Branch : Addr} (a_Branch : PySem.W.nsIn K mainGlobals "Branch" = some (some (.ref C_Branch)))
    {C_InvalidOperation : Addr} (a_InvalidOperation : PySem.W.nsIn K mainGlobals "InvalidOperation" = some (some (.ref C_InvalidOperation)))
    {C_InvalidPoint : Addr} (a_InvalidPoint : PySem.W.nsIn K mainGlobals "InvalidPoint" = some (some (.ref C_InvalidPoint)))
    {C_InvalidPrime : Addr} (a_InvalidPrime : PySem.W.nsIn K mainGlobals "InvalidPrime" = some (some (.ref C_InvalidPrime)))
    {C_InvalidWord : Addr} (a_InvalidWord : PySem.W.nsIn K mainGlobals "InvalidWord" = some (some (.ref C_InvalidWord)))
    {C_ParseError : Addr} (a_ParseError : PySem.W.nsIn K mainGlobals "ParseError" = some (some (.ref C_ParseError)))
    (pg_Branch : PySem.W.plainGet K C_Branch Str.empty = true) (ic_Branch : PySem.W.isClsIn K C_Branch = true) (po_Branch : PySem.W.plainOver K C_Branch = true) (sa_Branch : PySem.W.findIn K (.ref C_Branch) "__setattr__" = some (some (.builtin "object.__setattr__")))
    {p_Branch_own_prime : Addr} (sat_Branch_own_prime : PySem.W.findIn K (.ref C_Branch) "own_prime" = some (some (.ref p_Branch_own_prime))) (sge_Branch_own_prime : PySem.W.specialIn K (.ref p_Branch_own_prime) "__get__" = some (some (.builtin "member_descriptor.__get__"))) (stk_Branch_own_prime : PySem.W.takesIn K (.ref p_Branch_own_prime) = some true) (sty_Branch_own_prime : PySem.W.typeIn K (.ref p_Branch_own_prime) = some (.type "member_descriptor")) (six_Branch_own_prime : PySem.W.slotIn K p_Branch_own_prime C_Branch = some 0)
    {p_Branch_own_text : Addr} (sat_Branch_own_text : PySem.W.findIn K (.ref C_Branch) "own_text" = some (some (.ref p_Branch_own_text))) (sge_Branch_own_text : PySem.W.specialIn K (.ref p_Branch_own_text) "__get__" = some (some (.builtin "member_descriptor.__get__"))) (stk_Branch_own_text : PySem.W.takesIn K (.ref p_Branch_own_text) = some true) (sty_Branch_own_text : PySem.W.typeIn K (.ref p_Branch_own_text) = some (.type "member_descriptor")) (six_Branch_own_text : PySem.W.slotIn K p_Branch_own_text C_Branch = some 1)
    {p_Branch_own_word : Addr} (sat_Branch_own_word : PySem.W.findIn K (.ref C_Branch) "own_word" = some (some (.ref p_Branch_own_word))) (sge_Branch_own_word : PySem.W.specialIn K (.ref p_Branch_own_word) "__get__" = some (some (.builtin "member_descriptor.__get__"))) (stk_Branch_own_word : PySem.W.takesIn K (.ref p_Branch_own_word) = some true) (sty_Branch_own_word : PySem.W.typeIn K (.ref p_Branch_own_word) = some (.type "member_descriptor")) (six_Branch_own_word : PySem.W.slotIn K p_Branch_own_word C_Branch = some 2)
    (icn : PySem.W.specialIn K (.builtin "object.__class__") "__get__" = some (some (.builtin "getset_descriptor.__get__"))) (ict : PySem.W.takesIn K (.builtin "object.__class__") = some true)
    (ica_Branch : PySem.W.findIn K (.ref C_Branch) "__class__" = some (some (.builtin "object.__class__"))) (icm_Branch : PySem.W.mroIn K C_Branch (.type "object") = some true)
    (ik_Branch_Branch : PySem.W.kitOne K (.ref C_Branch) (.ref C_Branch) = some true)
    (ikt_Branch : ∀ t ∈ knownT, PySem.W.kitOne K (.ref C_Branch) (.type t) = some false)
    (iko_Branch : ∀ t ∈ tysA, PySem.W.kitOne K (.type t) (.ref C_Branch) = some false)
    (nef_Branch : PySem.W.findIn K (.ref C_Branch) "__ne__" = some (some (.builtin "object.__ne__"))) (nem_Branch : PySem.W.mroIn K C_Branch (.type "object") = some true)
    (xe_InvalidOperation : PySem.W.excIn K C_InvalidOperation [.type "ValueError", .type "Exception", .type "BaseException", .type "object"] "ValueError.__new__" = true) (xk_InvalidOperation : PySem.W.keepIn K (.ref C_InvalidOperation) = true) (xs_InvalidOperation : PySem.W.subIn K (.ref C_InvalidOperation) (.type "BaseException") = some true) (xt_InvalidOperation : PySem.W.typeIn K (.ref C_InvalidOperation) = some (.type "type"))
    (xe_InvalidWord : PySem.W.excIn K C_InvalidWord [.type "ValueError", .type "Exception", .type "BaseException", .type "object"] "ValueError.__new__" = true) (xk_InvalidWord : PySem.W.keepIn K (.ref C_InvalidWord) = true) (xs_InvalidWord : PySem.W.subIn K (.ref C_InvalidWord) (.type "BaseException") = some true) (xt_InvalidWord : PySem.W.typeIn K (.ref C_InvalidWord) = some (.type "type"))
    (n_super : PySem.W.nsIn K mainGlobals "super" = some none) (opq : PySem.W.nsIn K cStatics "thirdparty.any" = some none)
    {fI_ParseError cda_ParseError cc_ParseError : Addr} {soc_ParseError sdoc_ParseError spm_ParseError sct_ParseError : Value} {sod_ParseError san_ParseError : Option Addr} {sosl_ParseError : Array (Option Value)} {spa_ParseError : Arguments} {ssc_ParseError : Scope} {sm_ParseError ss_ParseError sv_ParseError : Str} {sj_ParseError : Nat} {p0_ParseError p1_ParseError p2_ParseError p3_ParseError p4_ParseError p5_ParseError q1_ParseError q2_ParseError q3_ParseError q4_ParseError : Pos} {cl_ParseError ccl_ParseError : Value} {cld_ParseError cdd_ParseError : Option Addr} {csl_ParseError ccs_ParseError : Array (Option Value)} {fvs_ParseError : Array Value} {file_ParseError : Str} {tf_ParseError : Tok} (y1_ParseError : PySem.W.excInitIn K C_ParseError [.type "ValueError", .type "Exception", .type "BaseException", .type "object"] "ValueError.__new__" = true) (y2_ParseError : PySem.W.hasDictIn K C_ParseError = true) (y3_ParseError : PySem.W.excOver K C_ParseError [.type "ValueError", .type "Exception", .type "BaseException", .type "object"] = true) (y4_ParseError : PySem.W.findIn K (.ref C_ParseError) "__setattr__" = some (some (.builtin "object.__setattr__"))) (y5_ParseError : PySem.W.findIn K (.ref C_ParseError) "index" = some none) (y6_ParseError : PySem.W.takerIn K C_ParseError "index" = some none) (y7_ParseError : PySem.W.findIn K (.ref C_ParseError) "__init__" = some (some (.ref fI_ParseError))) (y8_ParseError : PySem.W.typeIn K (.ref fI_ParseError) = some (.type "function")) (y9_ParseError : PySem.W.keepIn K (.ref C_ParseError) = true) (y10_ParseError : PySem.W.subIn K (.ref C_ParseError) (.type "BaseException") = some true) (y11_ParseError : PySem.W.typeIn K (.ref C_ParseError) = some (.type "type")) (y12_ParseError : PySem.W.ks_superIn K C_ParseError C_ParseError "__init__" = some (some (.builtin "ValueError.__init__"))) (y13_ParseError : PySem.W.subIn K (.ref C_ParseError) (.type "ValueError") = some true) (y14_ParseError : PySem.W.mroIn K C_ParseError (.ref C_ParseError) = some true) (y15_ParseError : K.lookup fI_ParseError = some ⟨soc_ParseError, sod_ParseError, .func (PySem.W.ksFn "__init__" "ParseError.__init__" spa_ParseError (XS.supBody sm_ParseError ss_ParseError sv_ParseError "index" sj_ParseError p0_ParseError p1_ParseError p2_ParseError p3_ParseError p4_ParseError p5_ParseError q1_ParseError q2_ParseError q3_ParseError q4_ParseError) ssc_ParseError .none .none sdoc_ParseError spm_ParseError san_ParseError (.ref cda_ParseError) sct_ParseError cc_ParseError), sosl_ParseError⟩) (y16_ParseError : PySem.W.codeIn K (.ref cda_ParseError) "ParseError.__init__" = true) (y17_ParseError : K.lookup cc_ParseError = some ⟨cl_ParseError, cld_ParseError, .cell (some (.ref C_ParseError)), csl_ParseError⟩) (y18_ParseError : K.lookup cda_ParseError = some ⟨ccl_ParseError, cdd_ParseError, .fields fvs_ParseError, ccs_ParseError⟩) (y19_ParseError : (fvs_ParseError[2]? : Option Value) = some (.str file_ParseError tf_ParseError)) (y20_ParseError : XS.SupRest P "ParseError.__init__" ss_ParseError sv_ParseError sm_ParseError spa_ParseError ssc_ParseError "index" sj_ParseError p0_ParseError p1_ParseError p2_ParseError p3_ParseError p4_ParseError p5_ParseError q1_ParseError q2_ParseError q3_ParseError q4_ParseError cda_ParseError cc_ParseError sdoc_ParseError spm_ParseError sct_ParseError san_ParseError file_ParseError)
    (fg_ParseError : PySem.W.findIn K (.ref C_ParseError) "__getattribute__" = some (some (.builtin "BaseException.__getattribute__"))) (fa_ParseError : PySem.W.findIn K (.ref C_ParseError) "__getattr__" = some none) (fs_ParseError : PySem.W.subIn K (.ref C_ParseError) (.type "BaseException") = some true) (fd_ParseError : PySem.W.hasDictIn K C_ParseError = true) (ff_ParseError : PySem.W.findIn K (.ref C_ParseError) "index" = some none)
    (em_InvalidOperation_InvalidOperation : PySem.W.exmOne K (.ref C_InvalidOperation) (.ref C_InvalidOperation) = some true)
    (em_InvalidOperation_InvalidWord : PySem.W.exmOne K (.ref C_InvalidOperation) (.ref C_InvalidWord) = some false)
    (em_InvalidOperation_ParseError : PySem.W.exmOne K (.ref C_InvalidOperation) (.ref C_ParseError) = some false)
    (em_InvalidPoint_InvalidOperation : PySem.W.exmOne K (.ref C_InvalidPoint) (.ref C_InvalidOperation) = some false)
    (em_InvalidPoint_InvalidWord : PySem.W.exmOne K (.ref C_InvalidPoint) (.ref C_InvalidWord) = some false)
    (em_InvalidPoint_ParseError : PySem.W.exmOne K (.ref C_InvalidPoint) (.ref C_ParseError) = some false)
    (em_InvalidPrime_InvalidOperation : PySem.W.exmOne K (.ref C_InvalidPrime) (.ref C_InvalidOperation) = some false)
    (em_InvalidPrime_InvalidWord : PySem.W.exmOne K (.ref C_InvalidPrime) (.ref C_InvalidWord) = some false)
    (em_InvalidPrime_ParseError : PySem.W.exmOne K (.ref C_InvalidPrime) (.ref C_ParseError) = some false)
    (em_InvalidWord_InvalidOperation : PySem.W.exmOne K (.ref C_InvalidWord) (.ref C_InvalidOperation) = some false)
    (em_InvalidWord_InvalidWord : PySem.W.exmOne K (.ref C_InvalidWord) (.ref C_InvalidWord) = some true)
    (em_InvalidWord_ParseError : PySem.W.exmOne K (.ref C_InvalidWord) (.ref C_ParseError) = some false)
    (em_ParseError_InvalidOperation : PySem.W.exmOne K (.ref C_ParseError) (.ref C_InvalidOperation) = some false)
    (em_ParseError_InvalidWord : PySem.W.exmOne K (.ref C_ParseError) (.ref C_InvalidWord) = some false)
    (em_ParseError_ParseError : PySem.W.exmOne K (.ref C_ParseError) (.ref C_ParseError) = some true)
    {f_is_whole : Addr} {oc_is_whole : Value} {od_is_whole an_is_whole : Option Addr} {sl_is_whole : Array (Option Value)} {kV_is_whole dc_is_whole pm_is_whole ct_is_whole : Value} {cd_is_whole : Value} (a_is_whole : PySem.W.nsIn K mainGlobals "is_whole" = some (some (.ref f_is_whole))) (l_is_whole : K.lookup f_is_whole = some ⟨oc_is_whole, od_is_whole, .func (PySem.W.fnOf "is_whole" "is_whole" (defArgs s_is_whole) (defBody s_is_whole) (defScope s_is_whole) .none kV_is_whole dc_is_whole pm_is_whole an_is_whole cd_is_whole ct_is_whole), sl_is_whole⟩) (c_is_whole : PySem.W.codeIn K cd_is_whole "is_whole" = true) (k_is_whole : PySem.W.keepIn K (.ref f_is_whole) = true)
    {f_ends_as_word : Addr} {oc_ends_as_word : Value} {od_ends_as_word an_ends_as_word : Option Addr} {sl_ends_as_word : Array (Option Value)} {kV_ends_as_word dc_ends_as_word pm_ends_as_word ct_ends_as_word : Value} {cd_ends_as_word : Value} (a_ends_as_word : PySem.W.nsIn K mainGlobals "ends_as_word" = some (some (.ref f_ends_as_word))) (l_ends_as_word : K.lookup f_ends_as_word = some ⟨oc_ends_as_word, od_ends_as_word, .func (PySem.W.fnOf "ends_as_word" "ends_as_word" (defArgs s_ends_as_word) (defBody s_ends_as_word) (defScope s_ends_as_word) .none kV_ends_as_word dc_ends_as_word pm_ends_as_word an_ends_as_word cd_ends_as_word ct_ends_as_word), sl_ends_as_word⟩) (c_ends_as_word : PySem.W.codeIn K cd_ends_as_word "ends_as_word" = true) (k_ends_as_word : PySem.W.keepIn K (.ref f_ends_as_word) = true)
    {f_letters_text : Addr} {oc_letters_text : Value} {od_letters_text an_letters_text : Option Addr} {sl_letters_text : Array (Option Value)} {kV_letters_text dc_letters_text pm_letters_text ct_letters_text : Value} {cd_letters_text : Value} (a_letters_text : PySem.W.nsIn K mainGlobals "letters_text" = some (some (.ref f_letters_text))) (l_letters_text : K.lookup f_letters_text = some ⟨oc_letters_text, od_letters_text, .func (PySem.W.fnOf "letters_text" "letters_text" (defArgs s_letters_text) (defBody s_letters_text) (defScope s_letters_text) .none kV_letters_text dc_letters_text pm_letters_text an_letters_text cd_letters_text ct_letters_text), sl_letters_text⟩) (c_letters_text : PySem.W.codeIn K cd_letters_text "letters_text" = true) (k_letters_text : PySem.W.keepIn K (.ref f_letters_text) = true)
    {f_letters_in : Addr} {oc_letters_in : Value} {od_letters_in an_letters_in : Option Addr} {sl_letters_in : Array (Option Value)} {kV_letters_in dc_letters_in pm_letters_in ct_letters_in : Value} {cd_letters_in : Value} (a_letters_in : PySem.W.nsIn K mainGlobals "letters_in" = some (some (.ref f_letters_in))) (l_letters_in : K.lookup f_letters_in = some ⟨oc_letters_in, od_letters_in, .func (PySem.W.fnOf "letters_in" "letters_in" (defArgs s_letters_in) (defBody s_letters_in) (defScope s_letters_in) .none kV_letters_in dc_letters_in pm_letters_in an_letters_in cd_letters_in ct_letters_in), sl_letters_in⟩) (c_letters_in : PySem.W.codeIn K cd_letters_in "letters_in" = true) (k_letters_in : PySem.W.keepIn K (.ref f_letters_in) = true)
    {f_without_zeros : Addr} {oc_without_zeros : Value} {od_without_zeros an_without_zeros : Option Addr} {sl_without_zeros : Array (Option Value)} {kV_without_zeros dc_without_zeros pm_without_zeros ct_without_zeros : Value} {cd_without_zeros : Value} (a_without_zeros : PySem.W.nsIn K mainGlobals "without_zeros" = some (some (.ref f_without_zeros))) (l_without_zeros : K.lookup f_without_zeros = some ⟨oc_without_zeros, od_without_zeros, .func (PySem.W.fnOf "without_zeros" "without_zeros" (defArgs s_without_zeros) (defBody s_without_zeros) (defScope s_without_zeros) .none kV_without_zeros dc_without_zeros pm_without_zeros an_without_zeros cd_without_zeros ct_without_zeros), sl_without_zeros⟩) (c_without_zeros : PySem.W.codeIn K cd_without_zeros "without_zeros" = true) (k_without_zeros : PySem.W.keepIn K (.ref f_without_zeros) = true)
    {f_Branch_eq : Addr} {oc_Branch_eq : Value} {od_Branch_eq an_Branch_eq : Option Addr} {sl_Branch_eq : Array (Option Value)} {kV_Branch_eq dc_Branch_eq pm_Branch_eq ct_Branch_eq : Value} {cd_Branch_eq : Value} (fi_Branch_eq : PySem.W.findIn K (.ref C_Branch) "__eq__" = some (some (.ref f_Branch_eq))) (fn_Branch_eq : PySem.W.isFn K (.ref f_Branch_eq) = true) (l_Branch_eq : K.lookup f_Branch_eq = some ⟨oc_Branch_eq, od_Branch_eq, .func (PySem.W.fnOf "__eq__" "Branch.__eq__" (defArgs s_Branch_eq) (defBody s_Branch_eq) (defScope s_Branch_eq) .none kV_Branch_eq dc_Branch_eq pm_Branch_eq an_Branch_eq cd_Branch_eq ct_Branch_eq), sl_Branch_eq⟩) (c_Branch_eq : PySem.W.codeIn K cd_Branch_eq "Branch.__eq__" = true) (k_Branch_eq : PySem.W.keepIn K (.ref f_Branch_eq) = true)
    {f_Branch_str : Addr} {oc_Branch_str : Value} {od_Branch_str an_Branch_str : Option Addr} {sl_Branch_str : Array (Option Value)} {kV_Branch_str dc_Branch_str pm_Branch_str ct_Branch_str : Value} {cd_Branch_str : Value} (fi_Branch_str : PySem.W.findIn K (.ref C_Branch) "__str__" = some (some (.ref f_Branch_str))) (fn_Branch_str : PySem.W.isFn K (.ref f_Branch_str) = true) (l_Branch_str : K.lookup f_Branch_str = some ⟨oc_Branch_str, od_Branch_str, .func (PySem.W.fnOf "__str__" "Branch.__str__" (defArgs s_Branch_str) (defBody s_Branch_str) (defScope s_Branch_str) .none kV_Branch_str dc_Branch_str pm_Branch_str an_Branch_str cd_Branch_str ct_Branch_str), sl_Branch_str⟩) (c_Branch_str : PySem.W.codeIn K cd_Branch_str "Branch.__str__" = true) (k_Branch_str : PySem.W.keepIn K (.ref f_Branch_str) = true)
    {f__law_dice : Addr} {oc__law_dice : Value} {od__law_dice an__law_dice : Option Addr} {sl__law_dice : Array (Option Value)} {kV__law_dice dc__law_dice pm__law_dice ct__law_dice : Value} {cd__law_dice : Value} (a__law_dice : PySem.W.nsIn K mainGlobals "_law_dice" = some (some (.ref f__law_dice))) (l__law_dice : K.lookup f__law_dice = some ⟨oc__law_dice, od__law_dice, .func (PySem.W.fnOf "_law_dice" "_law_dice" (defArgs s__law_dice) (defBody s__law_dice) (defScope s__law_dice) .none kV__law_dice dc__law_dice pm__law_dice an__law_dice cd__law_dice ct__law_dice), sl__law_dice⟩) (c__law_dice : PySem.W.codeIn K cd__law_dice "_law_dice" = true) (k__law_dice : PySem.W.keepIn K (.ref f__law_dice) = true)
    {f__law_roll : Addr} {oc__law_roll : Value} {od__law_roll an__law_roll : Option Addr} {sl__law_roll : Array (Option Value)} {kV__law_roll dc__law_roll pm__law_roll ct__law_roll : Value} {cd__law_roll : Value} (a__law_roll : PySem.W.nsIn K mainGlobals "_law_roll" = some (some (.ref f__law_roll))) (l__law_roll : K.lookup f__law_roll = some ⟨oc__law_roll, od__law_roll, .func (PySem.W.fnOf "_law_roll" "_law_roll" (defArgs s__law_roll) (defBody s__law_roll) (defScope s__law_roll) .none kV__law_roll dc__law_roll pm__law_roll an__law_roll cd__law_roll ct__law_roll), sl__law_roll⟩) (c__law_roll : PySem.W.codeIn K cd__law_roll "_law_roll" = true) (k__law_roll : PySem.W.keepIn K (.ref f__law_roll) = true)
    {f__law_wd_is_point : Addr} {oc__law_wd_is_point : Value} {od__law_wd_is_point an__law_wd_is_point : Option Addr} {sl__law_wd_is_point : Array (Option Value)} {kV__law_wd_is_point dc__law_wd_is_point pm__law_wd_is_point ct__law_wd_is_point : Value} {cd__law_wd_is_point : Value} (a__law_wd_is_point : PySem.W.nsIn K mainGlobals "_law_wd_is_point" = some (some (.ref f__law_wd_is_point))) (l__law_wd_is_point : K.lookup f__law_wd_is_point = some ⟨oc__law_wd_is_point, od__law_wd_is_point, .func (PySem.W.fnOf "_law_wd_is_point" "_law_wd_is_point" (defArgs s__law_wd_is_point) (defBody s__law_wd_is_point) (defScope s__law_wd_is_point) .none kV__law_wd_is_point dc__law_wd_is_point pm__law_wd_is_point an__law_wd_is_point cd__law_wd_is_point ct__law_wd_is_point), sl__law_wd_is_point⟩) (c__law_wd_is_point : PySem.W.codeIn K cd__law_wd_is_point "_law_wd_is_point" = true) (k__law_wd_is_point : PySem.W.keepIn K (.ref f__law_wd_is_point) = true)
    {f__law_wd_text : Addr} {oc__law_wd_text : Value} {od__law_wd_text an__law_wd_text : Option Addr} {sl__law_wd_text : Array (Option Value)} {kV__law_wd_text dc__law_wd_text pm__law_wd_text ct__law_wd_text : Value} {cd__law_wd_text : Value} (a__law_wd_text : PySem.W.nsIn K mainGlobals "_law_wd_text" = some (some (.ref f__law_wd_text))) (l__law_wd_text : K.lookup f__law_wd_text = some ⟨oc__law_wd_text, od__law_wd_text, .func (PySem.W.fnOf "_law_wd_text" "_law_wd_text" (defArgs s__law_wd_text) (defBody s__law_wd_text) (defScope s__law_wd_text) .none kV__law_wd_text dc__law_wd_text pm__law_wd_text an__law_wd_text cd__law_wd_text ct__law_wd_text), sl__law_wd_text⟩) (c__law_wd_text : PySem.W.codeIn K cd__law_wd_text "_law_wd_text" = true) (k__law_wd_text : PySem.W.keepIn K (.ref f__law_wd_text) = true)
    {f__law_wd_bare : Addr} {oc__law_wd_bare : Value} {od__law_wd_bare an__law_wd_bare : Option Addr} {sl__law_wd_bare : Array (Option Value)} {kV__law_wd_bare dc__law_wd_bare pm__law_wd_bare ct__law_wd_bare : Value} {cd__law_wd_bare : Value} (a__law_wd_bare : PySem.W.nsIn K mainGlobals "_law_wd_bare" = some (some (.ref f__law_wd_bare))) (l__law_wd_bare : K.lookup f__law_wd_bare = some ⟨oc__law_wd_bare, od__law_wd_bare, .func (PySem.W.fnOf "_law_wd_bare" "_law_wd_bare" (defArgs s__law_wd_bare) (defBody s__law_wd_bare) (defScope s__law_wd_bare) .none kV__law_wd_bare dc__law_wd_bare pm__law_wd_bare an__law_wd_bare cd__law_wd_bare ct__law_wd_bare), sl__law_wd_bare⟩) (c__law_wd_bare : PySem.W.codeIn K cd__law_wd_bare "_law_wd_bare" = true) (k__law_wd_bare : PySem.W.keepIn K (.ref f__law_wd_bare) = true)
    {f_is_integer : Addr} {oc_is_integer : Value} {od_is_integer an_is_integer : Option Addr} {sl_is_integer : Array (Option Value)} {kV_is_integer dc_is_integer pm_is_integer ct_is_integer : Value} {cd_is_integer : Value} (a_is_integer : PySem.W.nsIn K mainGlobals "is_integer" = some (some (.ref f_is_integer))) (l_is_integer : K.lookup f_is_integer = some ⟨oc_is_integer, od_is_integer, .func (PySem.W.fnOf "is_integer" "is_integer" (defArgs s_is_integer) (defBody s_is_integer) (defScope s_is_integer) .none kV_is_integer dc_is_integer pm_is_integer an_is_integer cd_is_integer ct_is_integer), sl_is_integer⟩) (c_is_integer : PySem.W.codeIn K cd_is_integer "is_integer" = true) (k_is_integer : PySem.W.keepIn K (.ref f_is_integer) = true)
    {f_is_prime : Addr} {oc_is_prime : Value} {od_is_prime an_is_prime : Option Addr} {sl_is_prime : Array (Option Value)} {kV_is_prime dc_is_prime pm_is_prime ct_is_prime : Value} {cd_is_prime : Value} (a_is_prime : PySem.W.nsIn K mainGlobals "is_prime" = some (some (.ref f_is_prime))) (l_is_prime : K.lookup f_is_prime = some ⟨oc_is_prime, od_is_prime, .func (PySem.W.fnOf "is_prime" "is_prime" (defArgs s_is_prime) (defBody s_is_prime) (defScope s_is_prime) .none kV_is_prime dc_is_prime pm_is_prime an_is_prime cd_is_prime ct_is_prime), sl_is_prime⟩) (c_is_prime : PySem.W.codeIn K cd_is_prime "is_prime" = true) (k_is_prime : PySem.W.keepIn K (.ref f_is_prime) = true)
    {f__law_pick : Addr} {oc__law_pick : Value} {od__law_pick an__law_pick : Option Addr} {sl__law_pick : Array (Option Value)} {kV__law_pick dc__law_pick pm__law_pick ct__law_pick : Value} {cd__law_pick : Value} (a__law_pick : PySem.W.nsIn K mainGlobals "_law_pick" = some (some (.ref f__law_pick))) (l__law_pick : K.lookup f__law_pick = some ⟨oc__law_pick, od__law_pick, .func (PySem.W.fnOf "_law_pick" "_law_pick" (defArgs s__law_pick) (defBody s__law_pick) (defScope s__law_pick) .none kV__law_pick dc__law_pick pm__law_pick an__law_pick cd__law_pick ct__law_pick), sl__law_pick⟩) (c__law_pick : PySem.W.codeIn K cd__law_pick "_law_pick" = true) (k__law_pick : PySem.W.keepIn K (.ref f__law_pick) = true)
    {f__law_letter : Addr} {oc__law_letter : Value} {od__law_letter an__law_letter : Option Addr} {sl__law_letter : Array (Option Value)} {kV__law_letter dc__law_letter pm__law_letter ct__law_letter : Value} {cd__law_letter : Value} (a__law_letter : PySem.W.nsIn K mainGlobals "_law_letter" = some (some (.ref f__law_letter))) (l__law_letter : K.lookup f__law_letter = some ⟨oc__law_letter, od__law_letter, .func (PySem.W.fnOf "_law_letter" "_law_letter" (defArgs s__law_letter) (defBody s__law_letter) (defScope s__law_letter) .none kV__law_letter dc__law_letter pm__law_letter an__law_letter cd__law_letter ct__law_letter), sl__law_letter⟩) (c__law_letter : PySem.W.codeIn K cd__law_letter "_law_letter" = true) (k__law_letter : PySem.W.keepIn K (.ref f__law_letter) = true)
    {f__law_wd_is_word : Addr} {oc__law_wd_is_word : Value} {od__law_wd_is_word an__law_wd_is_word : Option Addr} {sl__law_wd_is_word : Array (Option Value)} {kV__law_wd_is_word dc__law_wd_is_word pm__law_wd_is_word ct__law_wd_is_word : Value} {cd__law_wd_is_word : Value} (a__law_wd_is_word : PySem.W.nsIn K mainGlobals "_law_wd_is_word" = some (some (.ref f__law_wd_is_word))) (l__law_wd_is_word : K.lookup f__law_wd_is_word = some ⟨oc__law_wd_is_word, od__law_wd_is_word, .func (PySem.W.fnOf "_law_wd_is_word" "_law_wd_is_word" (defArgs s__law_wd_is_word) (defBody s__law_wd_is_word) (defScope s__law_wd_is_word) .none kV__law_wd_is_word dc__law_wd_is_word pm__law_wd_is_word an__law_wd_is_word cd__law_wd_is_word ct__law_wd_is_word), sl__law_wd_is_word⟩) (c__law_wd_is_word : PySem.W.codeIn K cd__law_wd_is_word "_law_wd_is_word" = true) (k__law_wd_is_word : PySem.W.keepIn K (.ref f__law_wd_is_word) = true)
    {f__law_own_read : Addr} {oc__law_own_read : Value} {od__law_own_read an__law_own_read : Option Addr} {sl__law_own_read : Array (Option Value)} {kV__law_own_read dc__law_own_read pm__law_own_read ct__law_own_read : Value} {cd__law_own_read : Value} (a__law_own_read : PySem.W.nsIn K mainGlobals "_law_own_read" = some (some (.ref f__law_own_read))) (l__law_own_read : K.lookup f__law_own_read = some ⟨oc__law_own_read, od__law_own_read, .func (PySem.W.fnOf "_law_own_read" "_law_own_read" (defArgs s__law_own_read) (defBody s__law_own_read) (defScope s__law_own_read) .none kV__law_own_read dc__law_own_read pm__law_own_read an__law_own_read cd__law_own_read ct__law_own_read), sl__law_own_read⟩) (c__law_own_read : PySem.W.codeIn K cd__law_own_read "_law_own_read" = true) (k__law_own_read : PySem.W.keepIn K (.ref f__law_own_read) = true)
    {f__law_bent : Addr} {oc__law_bent : Value} {od__law_bent an__law_bent : Option Addr} {sl__law_bent : Array (Option Value)} {kV__law_bent dc__law_bent pm__law_bent ct__law_bent : Value} {cd__law_bent : Value} (a__law_bent : PySem.W.nsIn K mainGlobals "_law_bent" = some (some (.ref f__law_bent))) (l__law_bent : K.lookup f__law_bent = some ⟨oc__law_bent, od__law_bent, .func (PySem.W.fnOf "_law_bent" "_law_bent" (defArgs s__law_bent) (defBody s__law_bent) (defScope s__law_bent) .none kV__law_bent dc__law_bent pm__law_bent an__law_bent cd__law_bent ct__law_bent), sl__law_bent⟩) (c__law_bent : PySem.W.codeIn K cd__law_bent "_law_bent" = true) (k__law_bent : PySem.W.keepIn K (.ref f__law_bent) = true)
    {f_require_prime : Addr} {oc_require_prime : Value} {od_require_prime an_require_prime : Option Addr} {sl_require_prime : Array (Option Value)} {kV_require_prime dc_require_prime pm_require_prime ct_require_prime : Value} {cd_require_prime : Value} (a_require_prime : PySem.W.nsIn K mainGlobals "require_prime" = some (some (.ref f_require_prime))) (l_require_prime : K.lookup f_require_prime = some ⟨oc_require_prime, od_require_prime, .func (PySem.W.fnOf "require_prime" "require_prime" (defArgs s_require_prime) (defBody s_require_prime) (defScope s_require_prime) .none kV_require_prime dc_require_prime pm_require_prime an_require_prime cd_require_prime ct_require_prime), sl_require_prime⟩) (c_require_prime : PySem.W.codeIn K cd_require_prime "require_prime" = true) (k_require_prime : PySem.W.keepIn K (.ref f_require_prime) = true)
    {f_is_letter : Addr} {oc_is_letter : Value} {od_is_letter an_is_letter : Option Addr} {sl_is_letter : Array (Option Value)} {kV_is_letter dc_is_letter pm_is_letter ct_is_letter : Value} {cd_is_letter : Value} (a_is_letter : PySem.W.nsIn K mainGlobals "is_letter" = some (some (.ref f_is_letter))) (l_is_letter : K.lookup f_is_letter = some ⟨oc_is_letter, od_is_letter, .func (PySem.W.fnOf "is_letter" "is_letter" (defArgs s_is_letter) (defBody s_is_letter) (defScope s_is_letter) .none kV_is_letter dc_is_letter pm_is_letter an_is_letter cd_is_letter ct_is_letter), sl_is_letter⟩) (c_is_letter : PySem.W.codeIn K cd_is_letter "is_letter" = true) (k_is_letter : PySem.W.keepIn K (.ref f_is_letter) = true)
    {f__law_point_drawn : Addr} {oc__law_point_drawn : Value} {od__law_point_drawn an__law_point_drawn : Option Addr} {sl__law_point_drawn : Array (Option Value)} {kV__law_point_drawn dc__law_point_drawn pm__law_point_drawn ct__law_point_drawn : Value} {cd__law_point_drawn : Value} (a__law_point_drawn : PySem.W.nsIn K mainGlobals "_law_point_drawn" = some (some (.ref f__law_point_drawn))) (l__law_point_drawn : K.lookup f__law_point_drawn = some ⟨oc__law_point_drawn, od__law_point_drawn, .func (PySem.W.fnOf "_law_point_drawn" "_law_point_drawn" (defArgs s__law_point_drawn) (defBody s__law_point_drawn) (defScope s__law_point_drawn) .none kV__law_point_drawn dc__law_point_drawn pm__law_point_drawn an__law_point_drawn cd__law_point_drawn ct__law_point_drawn), sl__law_point_drawn⟩) (c__law_point_drawn : PySem.W.codeIn K cd__law_point_drawn "_law_point_drawn" = true) (k__law_point_drawn : PySem.W.keepIn K (.ref f__law_point_drawn) = true)
    {f_are_letters : Addr} {oc_are_letters : Value} {od_are_letters an_are_letters : Option Addr} {sl_are_letters : Array (Option Value)} {kV_are_letters dc_are_letters pm_are_letters ct_are_letters : Value} {cd_are_letters : Value} (a_are_letters : PySem.W.nsIn K mainGlobals "are_letters" = some (some (.ref f_are_letters))) (l_are_letters : K.lookup f_are_letters = some ⟨oc_are_letters, od_are_letters, .func (PySem.W.fnOf "are_letters" "are_letters" (defArgs s_are_letters) (defBody s_are_letters) (defScope s_are_letters) .none kV_are_letters dc_are_letters pm_are_letters an_are_letters cd_are_letters ct_are_letters), sl_are_letters⟩) (c_are_letters : PySem.W.codeIn K cd_are_letters "are_letters" = true) (k_are_letters : PySem.W.keepIn K (.ref f_are_letters) = true)
    {f_read_point : Addr} {oc_read_point : Value} {od_read_point an_read_point : Option Addr} {sl_read_point : Array (Option Value)} {kV_read_point dc_read_point pm_read_point ct_read_point : Value} {cd_read_point : Value} (a_read_point : PySem.W.nsIn K mainGlobals "read_point" = some (some (.ref f_read_point))) (l_read_point : K.lookup f_read_point = some ⟨oc_read_point, od_read_point, .func (PySem.W.fnOf "read_point" "read_point" (defArgs s_read_point) (defBody s_read_point) (defScope s_read_point) .none kV_read_point dc_read_point pm_read_point an_read_point cd_read_point ct_read_point), sl_read_point⟩) (c_read_point : PySem.W.codeIn K cd_read_point "read_point" = true) (k_read_point : PySem.W.keepIn K (.ref f_read_point) = true)
    {f_require_point : Addr} {oc_require_point : Value} {od_require_point an_require_point : Option Addr} {sl_require_point : Array (Option Value)} {kV_require_point dc_require_point pm_require_point ct_require_point : Value} {cd_require_point : Value} (a_require_point : PySem.W.nsIn K mainGlobals "require_point" = some (some (.ref f_require_point))) (l_require_point : K.lookup f_require_point = some ⟨oc_require_point, od_require_point, .func (PySem.W.fnOf "require_point" "require_point" (defArgs s_require_point) (defBody s_require_point) (defScope s_require_point) .none kV_require_point dc_require_point pm_require_point an_require_point cd_require_point ct_require_point), sl_require_point⟩) (c_require_point : PySem.W.codeIn K cd_require_point "require_point" = true) (k_require_point : PySem.W.keepIn K (.ref f_require_point) = true)
    {f_Branch_init : Addr} {oc_Branch_init : Value} {od_Branch_init an_Branch_init : Option Addr} {sl_Branch_init : Array (Option Value)} {kV_Branch_init dc_Branch_init pm_Branch_init ct_Branch_init : Value} {cd_Branch_init : Value} (fi_Branch_init : PySem.W.findIn K (.ref C_Branch) "__init__" = some (some (.ref f_Branch_init))) (fn_Branch_init : PySem.W.isFn K (.ref f_Branch_init) = true) (l_Branch_init : K.lookup f_Branch_init = some ⟨oc_Branch_init, od_Branch_init, .func (PySem.W.fnOf "__init__" "Branch.__init__" (defArgs s_Branch_init) (defBody s_Branch_init) (defScope s_Branch_init) .none kV_Branch_init dc_Branch_init pm_Branch_init an_Branch_init cd_Branch_init ct_Branch_init), sl_Branch_init⟩) (c_Branch_init : PySem.W.codeIn K cd_Branch_init "Branch.__init__" = true) (k_Branch_init : PySem.W.keepIn K (.ref f_Branch_init) = true)
    (mk_Branch : PySem.W.makesIn K C_Branch = true) (kc_Branch : PySem.W.keepIn K (.ref C_Branch) = true)
    {f__law_read : Addr} {oc__law_read : Value} {od__law_read an__law_read : Option Addr} {sl__law_read : Array (Option Value)} {kV__law_read dc__law_read pm__law_read ct__law_read : Value} {cd__law_read : Value} (a__law_read : PySem.W.nsIn K mainGlobals "_law_read" = some (some (.ref f__law_read))) (l__law_read : K.lookup f__law_read = some ⟨oc__law_read, od__law_read, .func (PySem.W.fnOf "_law_read" "_law_read" (defArgs s__law_read) (defBody s__law_read) (defScope s__law_read) .none kV__law_read dc__law_read pm__law_read an__law_read cd__law_read ct__law_read), sl__law_read⟩) (c__law_read : PySem.W.codeIn K cd__law_read "_law_read" = true) (k__law_read : PySem.W.keepIn K (.ref f__law_read) = true)
    {f_require_prime_point : Addr} {oc_require_prime_point : Value} {od_require_prime_point an_require_prime_point : Option Addr} {sl_require_prime_point : Array (Option Value)} {kV_require_prime_point dc_require_prime_point pm_require_prime_point ct_require_prime_point : Value} {cd_require_prime_point : Value} (a_require_prime_point : PySem.W.nsIn K mainGlobals "require_prime_point" = some (some (.ref f_require_prime_point))) (l_require_prime_point : K.lookup f_require_prime_point = some ⟨oc_require_prime_point, od_require_prime_point, .func (PySem.W.fnOf "require_prime_point" "require_prime_point" (defArgs s_require_prime_point) (defBody s_require_prime_point) (defScope s_require_prime_point) .none kV_require_prime_point dc_require_prime_point pm_require_prime_point an_require_prime_point cd_require_prime_point ct_require_prime_point), sl_require_prime_point⟩) (c_require_prime_point : PySem.W.codeIn K cd_require_prime_point "require_prime_point" = true) (k_require_prime_point : PySem.W.keepIn K (.ref f_require_prime_point) = true)
    {f_point_text : Addr} {oc_point_text : Value} {od_point_text an_point_text : Option Addr} {sl_point_text : Array (Option Value)} {kV_point_text dc_point_text pm_point_text ct_point_text : Value} {cd_point_text : Value} (a_point_text : PySem.W.nsIn K mainGlobals "point_text" = some (some (.ref f_point_text))) (l_point_text : K.lookup f_point_text = some ⟨oc_point_text, od_point_text, .func (PySem.W.fnOf "point_text" "point_text" (defArgs s_point_text) (defBody s_point_text) (defScope s_point_text) .none kV_point_text dc_point_text pm_point_text an_point_text cd_point_text ct_point_text), sl_point_text⟩) (c_point_text : PySem.W.codeIn K cd_point_text "point_text" = true) (k_point_text : PySem.W.keepIn K (.ref f_point_text) = true)
    {f_word_through : Addr} {oc_word_through : Value} {od_word_through an_word_through : Option Addr} {sl_word_through : Array (Option Value)} {kV_word_through dc_word_through pm_word_through ct_word_through : Value} {cd_word_through : Value} (a_word_through : PySem.W.nsIn K mainGlobals "word_through" = some (some (.ref f_word_through))) (l_word_through : K.lookup f_word_through = some ⟨oc_word_through, od_word_through, .func (PySem.W.fnOf "word_through" "word_through" (defArgs s_word_through) (defBody s_word_through) (defScope s_word_through) .none kV_word_through dc_word_through pm_word_through an_word_through cd_word_through ct_word_through), sl_word_through⟩) (c_word_through : PySem.W.codeIn K cd_word_through "word_through" = true) (k_word_through : PySem.W.keepIn K (.ref f_word_through) = true)
    {f_Branch_read : Addr} {oc_Branch_read : Value} {od_Branch_read an_Branch_read : Option Addr} {sl_Branch_read : Array (Option Value)} {kV_Branch_read dc_Branch_read pm_Branch_read ct_Branch_read : Value} {cd_Branch_read : Value} {pp_Branch_read : Addr} {re_Branch_read : List Value} (cr_Branch_read : PySem.W.readsIn K C_Branch (.type "type") = true) (cg_Branch_read : PySem.W.specialIn K (.ref C_Branch) "__getattribute__" = some (some (.builtin "type.__getattribute__"))) (cf_Branch_read : PySem.W.findCls K (.ref C_Branch) (.type "type") "read" = some (.get (.builtin "classmethod.__get__") (.ref pp_Branch_read) .none (.ref C_Branch))) (cx_Branch_read : PySem.W.recIn K pp_Branch_read "classmethod" = some (.ref f_Branch_read :: re_Branch_read)) (ci_Branch_read : PySem.W.fnIn K f_Branch_read = true) (l_Branch_read : K.lookup f_Branch_read = some ⟨oc_Branch_read, od_Branch_read, .func (PySem.W.fnOf "read" "Branch.read" (defArgs s_Branch_read) (defBody s_Branch_read) (defScope s_Branch_read) .none kV_Branch_read dc_Branch_read pm_Branch_read an_Branch_read cd_Branch_read ct_Branch_read), sl_Branch_read⟩) (c_Branch_read : PySem.W.codeIn K cd_Branch_read "Branch.read" = true) (k_Branch_read : PySem.W.keepIn K (.ref f_Branch_read) = true)
    {f__law_through : Addr} {oc__law_through : Value} {od__law_through an__law_through : Option Addr} {sl__law_through : Array (Option Value)} {kV__law_through dc__law_through pm__law_through ct__law_through : Value} {cd__law_through : Value} (a__law_through : PySem.W.nsIn K mainGlobals "_law_through" = some (some (.ref f__law_through))) (l__law_through : K.lookup f__law_through = some ⟨oc__law_through, od__law_through, .func (PySem.W.fnOf "_law_through" "_law_through" (defArgs s__law_through) (defBody s__law_through) (defScope s__law_through) .none kV__law_through dc__law_through pm__law_through an__law_through cd__law_through ct__law_through), sl__law_through⟩) (c__law_through : PySem.W.codeIn K cd__law_through "_law_through" = true) (k__law_through : PySem.W.keepIn K (.ref f__law_through) = true)
    {f__law_branch : Addr} {oc__law_branch : Value} {od__law_branch an__law_branch : Option Addr} {sl__law_branch : Array (Option Value)} {kV__law_branch dc__law_branch pm__law_branch ct__law_branch : Value} {cd__law_branch : Addr} (a__law_branch : PySem.W.nsIn K mainGlobals "_law_branch" = some (some (.ref f__law_branch))) (l__law_branch : K.lookup f__law_branch = some ⟨oc__law_branch, od__law_branch, .func (PySem.W.fnOf "_law_branch" "_law_branch" (defArgs s__law_branch) (defBody s__law_branch) (defScope s__law_branch) .none kV__law_branch dc__law_branch pm__law_branch an__law_branch (.ref cd__law_branch) ct__law_branch), sl__law_branch⟩) (c__law_branch : PySem.W.codeIn K (.ref cd__law_branch) "_law_branch" = true) (k__law_branch : PySem.W.keepIn K (.ref f__law_branch) = true)
    {f__law_right : Addr} {oc__law_right : Value} {od__law_right an__law_right : Option Addr} {sl__law_right : Array (Option Value)} {kV__law_right dc__law_right pm__law_right ct__law_right : Value} {cd__law_right : Addr} (a__law_right : PySem.W.nsIn K mainGlobals "_law_right" = some (some (.ref f__law_right))) (l__law_right : K.lookup f__law_right = some ⟨oc__law_right, od__law_right, .func (PySem.W.fnOf "_law_right" "_law_right" (defArgs s__law_right) (defBody s__law_right) (defScope s__law_right) .none kV__law_right dc__law_right pm__law_right an__law_right (.ref cd__law_right) ct__law_right), sl__law_right⟩) (c__law_right : PySem.W.codeIn K (.ref cd__law_right) "_law_right" = true) (k__law_right : PySem.W.keepIn K (.ref f__law_right) = true)
    {f_law : Addr} {oc_law : Value} {od_law an_law : Option Addr} {sl_law : Array (Option Value)} {kV_law dc_law pm_law ct_law : Value} {cd_law : Addr} (a_law : PySem.W.nsIn K mainGlobals "law" = some (some (.ref f_law))) (l_law : K.lookup f_law = some ⟨oc_law, od_law, .func (PySem.W.fnOf "law" "law" (defArgs s_law) (defBody s_law) (defScope s_law) .none kV_law dc_law pm_law an_law (.ref cd_law) ct_law), sl_law⟩) (c_law : PySem.W.codeIn K (.ref cd_law) "law" = true) (k_law : PySem.W.keepIn K (.ref f_law) = true) :
    EndG l q w K 12 63 "_law_script" mg fa := by
  subst hP
  have q_Branch : SClsN K "Branch" := scls_mk a_Branch pg_Branch ic_Branch po_Branch sa_Branch
  have T : Txt l.prog K mg := ⟨trivial, PySem.W.mg_none_of X G n_abs, PySem.W.mg_none_of X G n_all, PySem.W.mg_none_of X G n_bool, PySem.W.mg_none_of X G n_int, PySem.W.mg_none_of X G n_isinstance, PySem.W.mg_none_of X G n_len, PySem.W.mg_none_of X G n_list, PySem.W.mg_none_of X G n_max, PySem.W.mg_none_of X G n_min, PySem.W.mg_none_of X G n_range, PySem.W.mg_none_of X G n_repr, PySem.W.mg_none_of X G n_str, PySem.W.mg_none_of X G n_tuple, ⟨_, PySem.W.mg_of X G g_BLANK⟩, ⟨_, PySem.W.mg_of X G g_GREAT⟩, ⟨_, PySem.W.mg_of X G g_MAX_LETTERS⟩, ⟨_, PySem.W.mg_of X G g_ORIGIN_TEXT⟩, tupAt_mk (its := [.int (2) tk_PRIMES_0, .int (3) tk_PRIMES_1, .int (5) tk_PRIMES_2, .int (7) tk_PRIMES_3, .int (11) tk_PRIMES_4, .int (13) tk_PRIMES_5, .int (17) tk_PRIMES_6, .int (19) tk_PRIMES_7, .int (23) tk_PRIMES_8, .int (29) tk_PRIMES_9, .int (31) tk_PRIMES_10]) X G g_PRIMES l_PRIMES (.cons ⟨_, rfl⟩ (.cons ⟨_, rfl⟩ (.cons ⟨_, rfl⟩ (.cons ⟨_, rfl⟩ (.cons ⟨_, rfl⟩ (.cons ⟨_, rfl⟩ (.cons ⟨_, rfl⟩ (.cons ⟨_, rfl⟩ (.cons ⟨_, rfl⟩ (.cons ⟨_, rfl⟩ (.cons ⟨_, rfl⟩ .nil))))))))))) (by rw [sizeLine_eq]; exact Nat.le_of_ble_eq_true rfl), ⟨_, PySem.W.mg_of X G g_TURN⟩, ⟨_, PySem.W.mg_of X G g_TURN_TEXT⟩, slot_mk q_Branch a_Branch sat_Branch_own_prime sge_Branch_own_prime stk_Branch_own_prime sty_Branch_own_prime six_Branch_own_prime (by decide), slot_mk q_Branch a_Branch sat_Branch_own_text sge_Branch_own_text stk_Branch_own_text sty_Branch_own_text six_Branch_own_text (by decide), slot_mk q_Branch a_Branch sat_Branch_own_word sge_Branch_own_word stk_Branch_own_word sty_Branch_own_word six_Branch_own_word (by decide), isi_mk q_Branch a_Branch a_Branch ica_Branch icn ict icm_Branch ik_Branch_Branch, cls_mk X G a_Branch, cls_mk X G a_InvalidOperation, cls_mk X G a_InvalidWord, cls_mk X G a_ParseError, isiT_mk q_Branch a_Branch ica_Branch icn ict icm_Branch ikt_Branch, isiO_mk a_Branch iko_Branch, ne3_mk a_Branch nef_Branch nem_Branch, own0_mk X G a_InvalidOperation PySem.F.excBase_ValueError xe_InvalidOperation xk_InvalidOperation xs_InvalidOperation xt_InvalidOperation, own0_mk X G a_InvalidWord PySem.F.excBase_ValueError xe_InvalidWord xk_InvalidWord xs_InvalidWord xt_InvalidWord, own1_mk X G a_ParseError n_super (XS.sup_mk ⟨PySem.W.kxs_ValueError, .of PySem.F.excBase_ValueError, PySem.F.store_ValueError⟩ opq y1_ParseError y2_ParseError y3_ParseError y4_ParseError y5_ParseError y6_ParseError y7_ParseError y8_ParseError y9_ParseError y10_ParseError y11_ParseError y12_ParseError y13_ParseError y14_ParseError y15_ParseError y16_ParseError y17_ParseError y18_ParseError y19_ParseError y20_ParseError), xf3_mk a_ParseError fg_ParseError fa_ParseError fs_ParseError fd_ParseError ff_ParseError, em3_mk a_InvalidOperation a_InvalidOperation em_InvalidOperation_InvalidOperation, em3_mk a_InvalidOperation a_InvalidWord em_InvalidOperation_InvalidWord, em3_mk a_InvalidOperation a_ParseError em_InvalidOperation_ParseError, em3_mk a_InvalidPoint a_InvalidOperation em_InvalidPoint_InvalidOperation, em3_mk a_InvalidPoint a_InvalidWord em_InvalidPoint_InvalidWord, em3_mk a_InvalidPoint a_ParseError em_InvalidPoint_ParseError, em3_mk a_InvalidPrime a_InvalidOperation em_InvalidPrime_InvalidOperation, em3_mk a_InvalidPrime a_InvalidWord em_InvalidPrime_InvalidWord, em3_mk a_InvalidPrime a_ParseError em_InvalidPrime_ParseError, em3_mk a_InvalidWord a_InvalidOperation em_InvalidWord_InvalidOperation, em3_mk a_InvalidWord a_InvalidWord em_InvalidWord_InvalidWord, em3_mk a_InvalidWord a_ParseError em_InvalidWord_ParseError, em3_mk a_ParseError a_InvalidOperation em_ParseError_InvalidOperation, em3_mk a_ParseError a_InvalidWord em_ParseError_InvalidWord, em3_mk a_ParseError a_ParseError em_ParseError_ParseError⟩
  have e := hfa.symm.trans (PySem.W.mg_of X G a_law)
  cases e
  refine ⟨PySem.W.fnOf "law" "law" (defArgs s_law) (defBody s_law) (defScope s_law) .none kV_law dc_law pm_law an_law (.ref cd_law) ct_law, [], sp_law, ?_, ?_, fun s v => .of_eq rfl, fun base _ _ htb => ?_, ?_⟩
  · intro t ht; cases ht
  · exact List.nodup_nil
  · exact ok_atG (all_law (P := l.prog) (w := w) (base := base) (T := T) (defAt_mk X G a_is_whole l_is_whole c_is_whole k_is_whole) (defAt_mk X G a_ends_as_word l_ends_as_word c_ends_as_word k_ends_as_word) (defAt_mk X G a_letters_text l_letters_text c_letters_text k_letters_text) (defAt_mk X G a_letters_in l_letters_in c_letters_in k_letters_in) (defAt_mk X G a_without_zeros l_without_zeros c_without_zeros k_without_zeros) (methAt_mk a_Branch fi_Branch_eq fn_Branch_eq l_Branch_eq c_Branch_eq k_Branch_eq) q_Branch (methAt_mk a_Branch fi_Branch_str fn_Branch_str l_Branch_str c_Branch_str k_Branch_str) q_Branch (defAt_mk X G a__law_dice l__law_dice c__law_dice k__law_dice) (defAt_mk X G a__law_roll l__law_roll c__law_roll k__law_roll) (defAt_mk X G a__law_wd_is_point l__law_wd_is_point c__law_wd_is_point k__law_wd_is_point) (defAt_mk X G a__law_wd_text l__law_wd_text c__law_wd_text k__law_wd_text) (defAt_mk X G a__law_wd_bare l__law_wd_bare c__law_wd_bare k__law_wd_bare) (defAt_mk X G a_is_integer l_is_integer c_is_integer k_is_integer) (defAt_mk X G a_is_prime l_is_prime c_is_prime k_is_prime) (defAt_mk X G a__law_pick l__law_pick c__law_pick k__law_pick) (defAt_mk X G a__law_letter l__law_letter c__law_letter k__law_letter) (defAt_mk X G a__law_wd_is_word l__law_wd_is_word c__law_wd_is_word k__law_wd_is_word) (defAt_mk X G a__law_own_read l__law_own_read c__law_own_read k__law_own_read) (defAt_mk X G a__law_bent l__law_bent c__law_bent k__law_bent) (defAt_mk X G a_require_prime l_require_prime c_require_prime k_require_prime) (defAt_mk X G a_is_letter l_is_letter c_is_letter k_is_letter) (defAt_mk X G a__law_point_drawn l__law_point_drawn c__law_point_drawn k__law_point_drawn) (defAt_mk X G a_are_letters l_are_letters c_are_letters k_are_letters) (defAt_mk X G a_read_point l_read_point c_read_point k_read_point) (defAt_mk X G a_require_point l_require_point c_require_point k_require_point) (methAt_mk a_Branch fi_Branch_init fn_Branch_init l_Branch_init c_Branch_init k_Branch_init) (make_mk X G a_Branch mk_Branch kc_Branch) (defAt_mk X G a__law_read l__law_read c__law_read k__law_read) (defAt_mk X G a_require_prime_point l_require_prime_point c_require_prime_point k_require_prime_point) (defAt_mk X G a_point_text l_point_text c_point_text k_point_text) (defAt_mk X G a_word_through l_word_through c_word_through k_word_through) (clmAt_mk a_Branch cr_Branch_read cg_Branch_read cf_Branch_read cx_Branch_read ci_Branch_read l_Branch_read c_Branch_read k_Branch_read) (defAt_mk X G a__law_through l__law_through c__law_through k__law_through) (defAtC_mk X G a__law_branch l__law_branch c__law_branch k__law_branch) (defAtC_mk X G a__law_right l__law_right c__law_right k__law_right) (defAtC_mk X G a_law l_law c_law k_law)  ) (PySem.W.mg_of X G a_law) l_law
  · exact fun ns h => law_holds ns h
end K09
def PySem.W.Fast.tw12377937940554433346 : Nat := 0
def PySem.W.Fast.tw14608186227011984982 : Nat := 0
def PySem.W.Fast.tw13244634553255869691 : Nat := 0
def PySem.W.Fast.tw10793179812346304052 : Nat := 0
def PySem.W.Fast.tw7948767175038128601 : Nat := 0
def PySem.W.Fast.tw3117087498779691046 : Nat := 0
def PySem.W.Fast.tw8137016300086192770 : Nat := 0
def PySem.W.Fast.tw15003610040385080783 : Nat := 0
def PySem.W.Fast.tw6813192384798830730 : Nat := 0
def PySem.W.Fast.tw10054709091436637759 : Nat := 0
def PySem.W.Fast.tw16399332605999026568 : Nat := 0
def PySem.W.Fast.tw11088045454151989635 : Nat := 0
def PySem.W.Fast.tw14497458902106217648 : Nat := 0
def PySem.W.Fast.tw10443256764276693525 : Nat := 0
def PySem.W.Fast.tw3689854342392727749 : Nat := 0
def PySem.W.Fast.tw3236961925485563466 : Nat := 0
def PySem.W.Fast.tw14953355490434995024 : Nat := 0
def PySem.W.Fast.tw10720673589009116275 : Nat := 0
open PySem PySem.W PyProof.Rows in
set_option maxRecDepth 100000 in
set_option maxHeartbeats 0 in
theorem PySem.Challenge.cw_touchtowers_k09_whole_texts_of_points_holds : PySem.Challenge.rw_touchtowers_k09_whole_texts_of_points.Holds := by
  w_on; o_law; k_head; (case hw => w_witness2)
  k_fill
  first
  | refine L3.walk3G (l := PySem.Challenge.rw_touchtowers_k09_whole_texts_of_points) (k := 12) (x := "_law_script") (n := 63) rfl (by decide) rfl ⟨rfl, by decide, by decide⟩ (fun w h Y => PySem.W.km_in_of Y) ?F
  | refine L3.walk3G (l := PySem.Challenge.rw_touchtowers_k09_whole_texts_of_points) (k := 12) (x := "_law_script") (n := 63) rfl (by decide) rfl ⟨rfl, by decide, by decide⟩ (fun w h Y => PySem.W.kIn_of Y) ?F
  case F =>
    intro w mg fa h KX G hmg
    refine' K09.all_mk rfl KX G hmg ?n_abs ?n_all ?n_bool ?n_int ?n_isinstance ?n_len ?n_list ?n_max ?n_min ?n_range ?n_repr ?n_str ?n_tuple ?g_BLANK ?g_GREAT ?g_MAX_LETTERS ?g_ORIGIN_TEXT ?g_PRIMES ?l_PRIMES ?g_TURN ?g_TURN_TEXT ?a_Branch ?a_InvalidOperation ?a_InvalidPoint ?a_InvalidPrime ?a_InvalidWord ?a_ParseError ?pg_Branch ?ic_Branch ?po_Branch ?sa_Branch ?sat_Branch_own_prime ?sge_Branch_own_prime ?stk_Branch_own_prime ?sty_Branch_own_prime ?six_Branch_own_prime ?sat_Branch_own_text ?sge_Branch_own_text ?stk_Branch_own_text ?sty_Branch_own_text ?six_Branch_own_text ?sat_Branch_own_word ?sge_Branch_own_word ?stk_Branch_own_word ?sty_Branch_own_word ?six_Branch_own_word ?icn ?ict ?ica_Branch ?icm_Branch ?ik_Branch_Branch ?ikt_Branch ?iko_Branch ?nef_Branch ?nem_Branch ?xe_InvalidOperation ?xk_InvalidOperation ?xs_InvalidOperation ?xt_InvalidOperation ?xe_InvalidWord ?xk_InvalidWord ?xs_InvalidWord ?xt_InvalidWord ?n_super ?opq ?y1_ParseError ?y2_ParseError ?y3_ParseError ?y4_ParseError ?y5_ParseError ?y6_ParseError ?y7_ParseError ?y8_ParseError ?y9_ParseError ?y10_ParseError ?y11_ParseError ?y12_ParseError ?y13_ParseError ?y14_ParseError ?y15_ParseError ?y16_ParseError ?y17_ParseError ?y18_ParseError ?y19_ParseError ?y20_ParseError ?fg_ParseError ?fa_ParseError ?fs_ParseError ?fd_ParseError ?ff_ParseError ?em_InvalidOperation_InvalidOperation ?em_InvalidOperation_InvalidWord ?em_InvalidOperation_ParseError ?em_InvalidPoint_InvalidOperation ?em_InvalidPoint_InvalidWord ?em_InvalidPoint_ParseError ?em_InvalidPrime_InvalidOperation ?em_InvalidPrime_InvalidWord ?em_InvalidPrime_ParseError ?em_InvalidWord_InvalidOperation ?em_InvalidWord_InvalidWord ?em_InvalidWord_ParseError ?em_ParseError_InvalidOperation ?em_ParseError_InvalidWord ?em_ParseError_ParseError ?a_is_whole ?l_is_whole ?c_is_whole ?k_is_whole ?a_ends_as_word ?l_ends_as_word ?c_ends_as_word ?k_ends_as_word ?a_letters_text ?l_letters_text ?c_letters_text ?k_letters_text ?a_letters_in ?l_letters_in ?c_letters_in ?k_letters_in ?a_without_zeros ?l_without_zeros ?c_without_zeros ?k_without_zeros ?fi_Branch_eq ?fn_Branch_eq ?l_Branch_eq ?c_Branch_eq ?k_Branch_eq ?fi_Branch_str ?fn_Branch_str ?l_Branch_str ?c_Branch_str ?k_Branch_str ?a__law_dice ?l__law_dice ?c__law_dice ?k__law_dice ?a__law_roll ?l__law_roll ?c__law_roll ?k__law_roll ?a__law_wd_is_point ?l__law_wd_is_point ?c__law_wd_is_point ?k__law_wd_is_point ?a__law_wd_text ?l__law_wd_text ?c__law_wd_text ?k__law_wd_text ?a__law_wd_bare ?l__law_wd_bare ?c__law_wd_bare ?k__law_wd_bare ?a_is_integer ?l_is_integer ?c_is_integer ?k_is_integer ?a_is_prime ?l_is_prime ?c_is_prime ?k_is_prime ?a__law_pick ?l__law_pick ?c__law_pick ?k__law_pick ?a__law_letter ?l__law_letter ?c__law_letter ?k__law_letter ?a__law_wd_is_word ?l__law_wd_is_word ?c__law_wd_is_word ?k__law_wd_is_word ?a__law_own_read ?l__law_own_read ?c__law_own_read ?k__law_own_read ?a__law_bent ?l__law_bent ?c__law_bent ?k__law_bent ?a_require_prime ?l_require_prime ?c_require_prime ?k_require_prime ?a_is_letter ?l_is_letter ?c_is_letter ?k_is_letter ?a__law_point_drawn ?l__law_point_drawn ?c__law_point_drawn ?k__law_point_drawn ?a_are_letters ?l_are_letters ?c_are_letters ?k_are_letters ?a_read_point ?l_read_point ?c_read_point ?k_read_point ?a_require_point ?l_require_point ?c_require_point ?k_require_point ?fi_Branch_init ?fn_Branch_init ?l_Branch_init ?c_Branch_init ?k_Branch_init ?mk_Branch ?kc_Branch ?a__law_read ?l__law_read ?c__law_read ?k__law_read ?a_require_prime_point ?l_require_prime_point ?c_require_prime_point ?k_require_prime_point ?a_point_text ?l_point_text ?c_point_text ?k_point_text ?a_word_through ?l_word_through ?c_word_through ?k_word_through ?cr_Branch_read ?cg_Branch_read ?cf_Branch_read ?cx_Branch_read ?ci_Branch_read ?l_Branch_read ?c_Branch_read ?k_Branch_read ?a__law_through ?l__law_through ?c__law_through ?k__law_through ?a__law_branch ?l__law_branch ?c__law_branch ?k__law_branch ?a__law_right ?l__law_right ?c__law_right ?k__law_right ?a_law ?l_law ?c_law ?k_law
    (case n_abs => k_is)
    (case n_all => k_is)
    (case n_bool => k_is)
    (case n_int => k_is)
    (case n_isinstance => k_is)
    (case n_len => k_is)
    (case n_list => k_is)
    (case n_max => k_is)
    (case n_min => k_is)
    (case n_range => k_is)
    (case n_repr => k_is)
    (case n_str => k_is)
    (case n_tuple => k_is)
    (case g_BLANK => k_is)
    (case g_GREAT => k_is)
    (case g_MAX_LETTERS => k_is)
    (case g_ORIGIN_TEXT => k_is)
    (case g_PRIMES => k_is)
    (case l_PRIMES => k_is)
    (case g_TURN => k_is)
    (case g_TURN_TEXT => k_is)
    (case a_Branch => k_is)
    (case a_InvalidOperation => k_is)
    (case a_InvalidPoint => k_is)
    (case a_InvalidPrime => k_is)
    (case a_InvalidWord => k_is)
    (case a_ParseError => k_is)
    (case pg_Branch => k_is)
    (case ic_Branch => k_is)
    (case po_Branch => k_is)
    (case sa_Branch => k_is)
    (case sat_Branch_own_prime => k_is)
    (case sge_Branch_own_prime => k_is)
    (case stk_Branch_own_prime => k_is)
    (case sty_Branch_own_prime => k_is)
    (case six_Branch_own_prime => k_is)
    (case sat_Branch_own_text => k_is)
    (case sge_Branch_own_text => k_is)
    (case stk_Branch_own_text => k_is)
    (case sty_Branch_own_text => k_is)
    (case six_Branch_own_text => k_is)
    (case sat_Branch_own_word => k_is)
    (case sge_Branch_own_word => k_is)
    (case stk_Branch_own_word => k_is)
    (case sty_Branch_own_word => k_is)
    (case six_Branch_own_word => k_is)
    (case icn => k_is)
    (case ict => k_is)
    (case ica_Branch => k_is)
    (case icm_Branch => k_is)
    (case ik_Branch_Branch => first | rfl | decide +kernel | k_is)
    (case ikt_Branch => first | decide +kernel | (intro t ht; simp only [L3.knownT, L3.tysA, List.mem_cons, List.not_mem_nil, or_false] at ht; rcases ht with rfl | rfl | rfl | rfl | rfl | rfl | rfl | rfl <;> first | rfl | decide +kernel | k_is))
    (case iko_Branch => first | decide +kernel | (intro t ht; simp only [L3.knownT, L3.tysA, List.mem_cons, List.not_mem_nil, or_false] at ht; rcases ht with rfl | rfl | rfl | rfl | rfl | rfl | rfl | rfl <;> first | rfl | decide +kernel | k_is))
    (case nef_Branch => k_is)
    (case nem_Branch => k_is)
    (case xe_InvalidOperation => first | rfl | decide +kernel | kernel_rfl)
    (case xk_InvalidOperation => k_is)
    (case xs_InvalidOperation => k_is)
    (case xt_InvalidOperation => k_is)
    (case xe_InvalidWord => first | rfl | decide +kernel | kernel_rfl)
    (case xk_InvalidWord => k_is)
    (case xs_InvalidWord => k_is)
    (case xt_InvalidWord => k_is)
    (case n_super => k_is)
    (case opq => k_is)
    (case y1_ParseError => first | rfl | decide +kernel | kernel_rfl)
    (case y2_ParseError => k_is)
    (case y3_ParseError => first | rfl | decide +kernel | kernel_rfl)
    (case y4_ParseError => k_is)
    (case y5_ParseError => k_is)
    (case y6_ParseError => k_is)
    (case y7_ParseError => k_is)
    (case y8_ParseError => k_is)
    (case y9_ParseError => k_is)
    (case y10_ParseError => k_is)
    (case y11_ParseError => k_is)
    (case y12_ParseError => first | rfl | decide +kernel | kernel_rfl)
    (case y13_ParseError => k_is)
    (case y14_ParseError => k_is)
    (case y15_ParseError => first | k_is | exact rfl)
    (case y16_ParseError => k_is)
    (case y17_ParseError => k_is)
    (case y18_ParseError => k_is)
    (case y19_ParseError => rfl)
    (case y20_ParseError => exact XS.supRest_by rfl (fun _ _ => rfl) rfl (by decide +kernel) (by decide +kernel) (fun L fI => ⟨_, rfl⟩))
    (case fg_ParseError => k_is)
    (case fa_ParseError => k_is)
    (case fs_ParseError => k_is)
    (case fd_ParseError => k_is)
    (case ff_ParseError => k_is)
    (case em_InvalidOperation_InvalidOperation => first | rfl | decide +kernel | k_is)
    (case em_InvalidOperation_InvalidWord => first | rfl | decide +kernel | k_is)
    (case em_InvalidOperation_ParseError => first | rfl | decide +kernel | k_is)
    (case em_InvalidPoint_InvalidOperation => first | rfl | decide +kernel | k_is)
    (case em_InvalidPoint_InvalidWord => first | rfl | decide +kernel | k_is)
    (case em_InvalidPoint_ParseError => first | rfl | decide +kernel | k_is)
    (case em_InvalidPrime_InvalidOperation => first | rfl | decide +kernel | k_is)
    (case em_InvalidPrime_InvalidWord => first | rfl | decide +kernel | k_is)
    (case em_InvalidPrime_ParseError => first | rfl | decide +kernel | k_is)
    (case em_InvalidWord_InvalidOperation => first | rfl | decide +kernel | k_is)
    (case em_InvalidWord_InvalidWord => first | rfl | decide +kernel | k_is)
    (case em_InvalidWord_ParseError => first | rfl | decide +kernel | k_is)
    (case em_ParseError_InvalidOperation => first | rfl | decide +kernel | k_is)
    (case em_ParseError_InvalidWord => first | rfl | decide +kernel | k_is)
    (case em_ParseError_ParseError => first | rfl | decide +kernel | k_is)
    (case a_is_whole => k_is)
    (case l_is_whole => k_is)
    (case c_is_whole => k_is)
    (case k_is_whole => k_is)
    (case a_ends_as_word => k_is)
    (case l_ends_as_word => k_is)
    (case c_ends_as_word => k_is)
    (case k_ends_as_word => k_is)
    (case a_letters_text => k_is)
    (case l_letters_text => k_is)
    (case c_letters_text => k_is)
    (case k_letters_text => k_is)
    (case a_letters_in => k_is)
    (case l_letters_in => k_is)
    (case c_letters_in => k_is)
    (case k_letters_in => k_is)
    (case a_without_zeros => k_is)
    (case l_without_zeros => k_is)
    (case c_without_zeros => k_is)
    (case k_without_zeros => k_is)
    (case fi_Branch_eq => k_is)
    (case fn_Branch_eq => k_is)
    (case l_Branch_eq => k_is)
    (case c_Branch_eq => k_is)
    (case k_Branch_eq => k_is)
    (case fi_Branch_str => k_is)
    (case fn_Branch_str => k_is)
    (case l_Branch_str => k_is)
    (case c_Branch_str => k_is)
    (case k_Branch_str => k_is)
    (case a__law_dice => k_is)
    (case l__law_dice => k_is)
    (case c__law_dice => k_is)
    (case k__law_dice => k_is)
    (case a__law_roll => k_is)
    (case l__law_roll => k_is)
    (case c__law_roll => k_is)
    (case k__law_roll => k_is)
    (case a__law_wd_is_point => k_is)
    (case l__law_wd_is_point => k_is)
    (case c__law_wd_is_point => k_is)
    (case k__law_wd_is_point => k_is)
    (case a__law_wd_text => k_is)
    (case l__law_wd_text => k_is)
    (case c__law_wd_text => k_is)
    (case k__law_wd_text => k_is)
    (case a__law_wd_bare => k_is)
    (case l__law_wd_bare => k_is)
    (case c__law_wd_bare => k_is)
    (case k__law_wd_bare => k_is)
    (case a_is_integer => k_is)
    (case l_is_integer => k_is)
    (case c_is_integer => k_is)
    (case k_is_integer => k_is)
    (case a_is_prime => k_is)
    (case l_is_prime => k_is)
    (case c_is_prime => k_is)
    (case k_is_prime => k_is)
    (case a__law_pick => k_is)
    (case l__law_pick => k_is)
    (case c__law_pick => k_is)
    (case k__law_pick => k_is)
    (case a__law_letter => k_is)
    (case l__law_letter => k_is)
    (case c__law_letter => k_is)
    (case k__law_letter => k_is)
    (case a__law_wd_is_word => k_is)
    (case l__law_wd_is_word => k_is)
    (case c__law_wd_is_word => k_is)
    (case k__law_wd_is_word => k_is)
    (case a__law_own_read => k_is)
    (case l__law_own_read => k_is)
    (case c__law_own_read => k_is)
    (case k__law_own_read => k_is)
    (case a__law_bent => k_is)
    (case l__law_bent => k_is)
    (case c__law_bent => k_is)
    (case k__law_bent => k_is)
    (case a_require_prime => k_is)
    (case l_require_prime => k_is)
    (case c_require_prime => k_is)
    (case k_require_prime => k_is)
    (case a_is_letter => k_is)
    (case l_is_letter => k_is)
    (case c_is_letter => k_is)
    (case k_is_letter => k_is)
    (case a__law_point_drawn => k_is)
    (case l__law_point_drawn => k_is)
    (case c__law_point_drawn => k_is)
    (case k__law_point_drawn => k_is)
    (case a_are_letters => k_is)
    (case l_are_letters => k_is)
    (case c_are_letters => k_is)
    (case k_are_letters => k_is)
    (case a_read_point => k_is)
    (case l_read_point => k_is)
    (case c_read_point => k_is)
    (case k_read_point => k_is)
    (case a_require_point => k_is)
    (case l_require_point => k_is)
    (case c_require_point => k_is)
    (case k_require_point => k_is)
    (case fi_Branch_init => k_is)
    (case fn_Branch_init => k_is)
    (case l_Branch_init => k_is)
    (case c_Branch_init => k_is)
    (case k_Branch_init => k_is)
    (case mk_Branch => k_is)
    (case kc_Branch => k_is)
    (case a__law_read => k_is)
    (case l__law_read => k_is)
    (case c__law_read => k_is)
    (case k__law_read => k_is)
    (case a_require_prime_point => k_is)
    (case l_require_prime_point => k_is)
    (case c_require_prime_point => k_is)
    (case k_require_prime_point => k_is)
    (case a_point_text => k_is)
    (case l_point_text => k_is)
    (case c_point_text => k_is)
    (case k_point_text => k_is)
    (case a_word_through => k_is)
    (case l_word_through => k_is)
    (case c_word_through => k_is)
    (case k_word_through => k_is)
    (case cr_Branch_read => k_is)
    (case cg_Branch_read => k_is)
    (case cf_Branch_read => k_is)
    (case cx_Branch_read => k_is)
    (case ci_Branch_read => k_is)
    (case l_Branch_read => k_is)
    (case c_Branch_read => k_is)
    (case k_Branch_read => k_is)
    (case a__law_through => k_is)
    (case l__law_through => k_is)
    (case c__law_through => k_is)
    (case k__law_through => k_is)
    (case a__law_branch => k_is)
    (case l__law_branch => k_is)
    (case c__law_branch => k_is)
    (case k__law_branch => k_is)
    (case a__law_right => k_is)
    (case l__law_right => k_is)
    (case c__law_right => k_is)
    (case k__law_right => k_is)
    (case a_law => k_is)
    (case l_law => k_is)
    (case c_law => k_is)
    (case k_law => k_is)

