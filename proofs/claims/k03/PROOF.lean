import PyProof.Rows.All
import HandS.Zip
import HandS.Iter
import HandS.IterVal
import Wide.All
import OpenK.AllK
import Wide.FinOn
import PyProof.EqAt
import PyProof.EqKinds
import PyProof.TupleCall
import HandS.Base
import HandS.Call
import HandS.List
import HandS.Comp
import HandS.Exc
import HandS.ExcOwn
import HandS.Ends
import HandS.Words
import HandS.TryMany
import HandS.TryOnly
import HandS.SlotsOwn
import HandS.Lambda
import HandS.Wide
import HandS.TupAny
import HandS.TupMul
import HandS.IsInst
import HandS.Deep
import HandS.Text
import HandS.WordsExc
import HandS.Style
import HandS.Star
import HandS.FStr
import HandS.RaiseMore
import HandS.SortInts
import KE.GoesEnum
import HandS.Conv
import KE.KExcSuper
import KE.KExcLine
import HandS.ExcField
import HandS.EndTab
import PyProof.ListStr
import HandS.AnyAll
import HandS.GenList
import KE.KDictIter
import KE.KDictZip
import HandS.CallLocal
import KE.KTupSum
import KE.KCallOwn
import KE.KFmtOwn
import PyProof.FactsAll.object_2
import HandS.ClsMeth
import PySem.Challenge.RW_touchtowers_k03_rows_told
set_option linter.all false
set_option Elab.async false
set_option maxRecDepth 100000
set_option maxHeartbeats 4000000
/-! ZN: zip of any number of lists and tuples, at the library's level. -/
namespace ZN
open PySem PySem.Spec PyProof.Rows L2
inductive Kd where
  | l | t
def ItAt : Kd → Heap → Addr → Addr → Nat → Prop
  | .l, h, it, a, i => h.IsListIter it a i
  | .t, h, it, a, i => h.IsTupleIter it a i
def SqAt : Kd → Heap → Addr → Array Value → Prop
  | .l, h, a, xs => h.IsList a xs
  | .t, h, a, xs => h.IsTuple a xs
structure Src where
  k : Kd
  it : Nat
  a : Nat
abbrev IsTup (h : Heap) (T : Addr) (vs : List Value) : Prop := h.get? T = some { cls := .type "tuple", data := .seq vs.toArray }
theorem ItAt.over {k : Kd} {h h' : Heap} {it a : Addr} {i : Nat} (x : ItAt k h it a i) (e : ∀ o, h.get? it = some o → h'.get? it = some o) : ItAt k h' it a i := by
  cases k with
  | l => exact Heap.IsListIter.at x e
  | t => exact Heap.IsTupleIter.at x e
theorem SqAt.over {k : Kd} {h h' : Heap} {a : Addr} {xs : Array Value} (x : SqAt k h a xs) (e : ∀ o, h.get? a = some o → h'.get? a = some o) : SqAt k h' a xs := by
  cases k with
  | l => exact Heap.IsList.at x e
  | t => exact Heap.IsTuple.at x e
structure Apart (z TI TO : Addr) (cs : List Src) : Prop where
  TIz : TI ≠ z
  TOz : TO ≠ z
  TITO : TI ≠ TO
  TIi : ∀ c ∈ cs, TI ≠ c.it
  TOi : ∀ c ∈ cs, TO ≠ c.it
  iz : ∀ c ∈ cs, c.it ≠ z
  az : ∀ c ∈ cs, c.a ≠ z
  aTO : ∀ c ∈ cs, c.a ≠ TO
  ai : ∀ c ∈ cs, ∀ d ∈ cs, c.a ≠ d.it
  nd : (cs.map Src.it).Nodup
section
variable {prog : Program} {w : World} {A : Around} {E : Value → Shared → Prop} {s : Shared}
end
end ZN

set_option Elab.async false
set_option maxRecDepth 100000
set_option maxHeartbeats 4000000
/-! ZN2: zip of any number of lists and tuples, over the layer's heap. -/
namespace ZN
open PySem PySem.Spec PyProof.Rows L2
def SqK (K : PySem.W.Frag) : Kd → Hp → Nat → List V → Prop
  | .l, H, a, xs => SqL K H a xs
  | .t, H, a, xs => SqT K H a xs
structure CS where
  k : Kd
  a : Nat
  xs : List V
abbrev CS.key (c : CS) : Kd × Nat := (c.k, c.a)
abbrev Src.key (c : Src) : Kd × Nat := (c.k, c.a)
theorem SqAt.inj {k : Kd} {h : Heap} {a : Addr} {xs ys : Array Value} (h1 : SqAt k h a xs) (h2 : SqAt k h a ys) : xs = ys := by
  cases k with
  | l =>
    obtain ⟨o, e, _, n, d⟩ := h1
    obtain ⟨o', e', _, n', d'⟩ := h2
    rw [e] at e'; cases e'
    rw [d] at d'; cases d'; rfl
  | t =>
    obtain ⟨o, e, _, n, d⟩ := h1
    obtain ⟨o', e', _, n', d'⟩ := h2
    rw [e] at e'; cases e'
    rw [d] at d'; cases d'; rfl
section
variable {X : Cx} {pins : List (Addr × Obj)} {σ : L2.St} {H : Hp} {s : Shared}
end
end ZN

set_option Elab.async false
set_option maxRecDepth 100000
set_option maxHeartbeats 4000000
/-! ZN3: zip(..) as what is walked, as a value, a name that holds one. -/
namespace ZN
open PySem PySem.Spec PyProof.Rows L2
/-! ### many cells laid, many forgotten -/
section
variable {X : Cx} {pins : List (Addr × Obj)} {σ : L2.St} {H : Hp} {s : Shared}
end
/-! ### the cells of a zip -/
def itO (k : Kd) (it a : Nat) : HO := .ext fun h => ItAt k h it a 0
def tupO (T : Nat) (vs : List Value) : HO := .ext fun h => IsTup h T vs
def zipO (z TI TO : Nat) : HO := .ext fun h => IsZip h z TI TO .none
def refsZ (b n : Nat) : List Value := (List.range n).map fun j => .ref (b + j)
/-- what stands at x, of the zip laid from b on -/
def cellZ (b : Nat) (ps : List (Kd × Nat)) (x : Nat) : Option HO :=
  if x = b + ps.length + 2 then some (zipO x (b + ps.length) (b + ps.length + 1))
  else if x = b + ps.length + 1 then some (tupO x (ps.map fun _ => .none))
  else if x = b + ps.length then some (tupO x (refsZ b ps.length))
  else if b ≤ x then (ps[x - b]?).map fun p => itO p.1 x p.2 else none
def N234 (n : Nat) : Prop := n = 2 ∨ n = 3 ∨ n = 4
section
variable {X : Cx} {p pos tpos : Pos} {elts : List Expr} {kk : Nat} {e : Expr} {es : List Expr} {ta : TA}
end
end ZN

set_option Elab.async false
set_option maxRecDepth 100000
set_option maxHeartbeats 4000000
/-! L3, part a: plain values over the hand layer's abstract heap; the frame's plain state; its steps. -/
namespace L3
open PySem PySem.Spec PyProof.Rows L2

/-- plain data -/
inductive D where
  | non | bl (b : Bool) | int (i : Int) | str (x : Str) | ref (a : Addr) | ty (n : String)
  | tup (ds : List D) | lst (ds : List D) | scr (ns : List Int)
  /-- an instance of a class with slots, all of them filled -/
  | obj (nm : Str) (fs : List D)
  /-- a class of the text -/
  | cls (nm : Str)
  /-- a dict with keys of ints and texts; with keys of tuples of such -/
  | dcK (ks : List Key) (ds : List D) | dcT (ks : List (List Key)) (ds : List D)
  /-- a tuple of ints of the module -/
  | ktp (ns : List Int)
  /-- no value: the head of a register that is no list -/
  | tag (n : Nat)

/-- the class of that name -/
def ClsN (K : PySem.W.Frag) (nm : Str) (C : Addr) : Prop := PySem.W.nsIn K mainGlobals nm = some (some (.ref C))
mutual
inductive Rep (K : PySem.W.Frag) (F : Hp) : D → V → Prop
  | non : Rep K F .non .non
  | bl (b : Bool) : Rep K F (.bl b) (.bl b)
  | int (i : Int) : Rep K F (.int i) (.int i)
  | str (x : Str) : Rep K F (.str x) (.str x)
  | ref (a : Addr) : Rep K F (.ref a) (.ref a)
  | ty (n : String) : Rep K F (.ty n) (.ty n)
  | tup {a : Addr} {xs : List V} {ds : List D} : F a = some (.tup xs) → RepL K F ds xs → Rep K F (.tup ds) (.ref a)
  | ktp {a : Addr} {ns : List Int} : SqT K F a (ns.map V.int) → Rep K F (.ktp ns) (.ref a)
  | scr {a : Addr} {ns : List Int} : SqL K F a (ns.map V.int) → Rep K F (.scr ns) (.ref a)
  | lst {a : Addr} {xs : List V} {ds : List D} : Rd F a (.lst xs) → RepL K F ds xs → Rep K F (.lst ds) (.ref a)
  | obj {a C dx : Addr} {nm : Str} {xs : List V} {fs : List D} : ClsN K nm C → F a = some (SlX.SlO a C dx (xs.map some)) → F dx = some (.xd []) → RepL K F fs xs → Rep K F (.obj nm fs) (.ref a)
  | cls {C : Addr} {nm : Str} : ClsN K nm C → Rep K F (.cls nm) (.ref C)
  | dcK {a : Addr} {ob : Obj} {ks : List Key} {xs : List V} {ds : List D} : F a = some (.frz ob (.dK (ks.zip xs))) → ks.length = xs.length → RepL K F ds xs → Rep K F (.dcK ks ds) (.ref a)
  | dcT {a : Addr} {ob : Obj} {ks : List (List Key)} {xs : List V} {ds : List D} : F a = some (.frz ob (.dT (ks.zip xs))) → ks.length = xs.length → RepL K F ds xs → Rep K F (.dcT ks ds) (.ref a)
inductive RepL (K : PySem.W.Frag) (F : Hp) : List D → List V → Prop
  | nil : RepL K F [] []
  | cons {d : D} {ds : List D} {v : V} {vs : List V} : Rep K F d v → RepL K F ds vs → RepL K F (d :: ds) (v :: vs)
end

theorem sameT {K : PySem.W.Frag} {H H' : Hp} {a : Addr} {xs : List V} (e : Same H H') (h : SqT K H a xs) : SqT K H' a xs := by
  rcases h with (h | ⟨o, h⟩) | h
  · exact .inl (.inl (e _ _ h))
  · exact .inl (.inr ⟨o, e _ _ h⟩)
  · exact .inr h
theorem sameR {H H' : Hp} {a : Addr} {u : HO} (e : Same H H') (h : Rd H a u) : Rd H' a u := by
  rcases h with h | ⟨o, h⟩
  · exact .inl (e _ _ h)
  · exact .inr ⟨o, e _ _ h⟩
mutual
theorem Rep.mono {K : PySem.W.Frag} {F F' : Hp} (e : Same F F') : ∀ (d : D) (v : V), Rep K F d v → Rep K F' d v
  | .non, _, h => by cases h; exact .non
  | .bl _, _, h => by cases h; exact .bl _
  | .int _, _, h => by cases h; exact .int _
  | .str _, _, h => by cases h; exact .str _
  | .ref _, _, h => by cases h; exact .ref _
  | .ty _, _, h => by cases h; exact .ty _
  | .scr _, _, h => by
    cases h with
    | scr hs => exact .scr (e.seq hs)
  | .tup ds, _, h => by
    cases h with
    | tup hs ha => exact .tup (e _ _ hs) (RepL.mono e ds _ ha)
  | .ktp ns, _, h => by
    cases h with
    | ktp hs => exact .ktp (sameT e hs)
  | .lst ds, _, h => by
    cases h with
    | lst hs ha => exact .lst (sameR e hs) (RepL.mono e ds _ ha)
  | .tag _, _, h => by cases h
  | .cls _, _, h => by
    cases h with
    | cls hc => exact .cls hc
  | .obj _ fs, _, h => by
    cases h with
    | obj h1 h2 h3 ha => exact .obj h1 (e _ _ h2) (e _ _ h3) (RepL.mono e fs _ ha)
  | .dcK _ ds, _, h => by
    cases h with
    | dcK h1 h2 ha => exact .dcK (e _ _ h1) h2 (RepL.mono e ds _ ha)
  | .dcT _ ds, _, h => by
    cases h with
    | dcT h1 h2 ha => exact .dcT (e _ _ h1) h2 (RepL.mono e ds _ ha)
theorem RepL.mono {K : PySem.W.Frag} {F F' : Hp} (e : Same F F') : ∀ (ds : List D) (vs : List V), RepL K F ds vs → RepL K F' ds vs
  | [], _, h => by cases h; exact .nil
  | d :: ds, _, h => by
    cases h with
    | cons h1 h2 => exact .cons (Rep.mono e d _ h1) (RepL.mono e ds _ h2)
end
section
variable {K : PySem.W.Frag} {F : Hp}
theorem RepL.length : ∀ {ds : List D} {vs : List V}, RepL K F ds vs → ds.length = vs.length
  | _, _, .nil => rfl
  | _, _, .cons _ t => congrArg (· + 1) (RepL.length t)
theorem RepL.append : ∀ {ds es : List D} {vs us : List V}, RepL K F ds vs → RepL K F es us → RepL K F (ds ++ es) (vs ++ us)
  | _, _, _, _, .nil, s => s
  | _, _, _, _, .cons r t, s => .cons r (RepL.append t s)
theorem RepL.take : ∀ {ds : List D} {vs : List V} (n : Nat), RepL K F ds vs → RepL K F (ds.take n) (vs.take n)
  | _, _, 0, _ => .nil
  | _, _, _ + 1, .nil => .nil
  | _, _, n + 1, .cons r t => .cons r (RepL.take n t)
theorem RepL.drop : ∀ {ds : List D} {vs : List V} (n : Nat), RepL K F ds vs → RepL K F (ds.drop n) (vs.drop n)
  | _, _, 0, r => r
  | _, _, _ + 1, .nil => .nil
  | _, _, n + 1, .cons _ t => RepL.drop n t
theorem RepL.get : ∀ {ds : List D} {vs : List V} {i : Nat} {d : D}, RepL K F ds vs → ds[i]? = some d → ∃ v, vs[i]? = some v ∧ Rep K F d v
  | _, _, _, _, .nil, e => by simp at e
  | _, _, 0, _, .cons r _, e => by simp at e; subst e; exact ⟨_, rfl, r⟩
  | _, _, i + 1, d, .cons _ t, e => by
    obtain ⟨u, h1, h2⟩ := RepL.get (i := i) (d := d) t (by simpa using e)
    exact ⟨u, by simpa using h1, h2⟩
theorem RepL.get' : ∀ {ds : List D} {vs : List V} {i : Nat} {v : V}, RepL K F ds vs → vs[i]? = some v → ∃ d, ds[i]? = some d ∧ Rep K F d v
  | _, _, _, _, .nil, e => by simp at e
  | _, _, 0, _, .cons r _, e => by simp at e; subst e; exact ⟨_, rfl, r⟩
  | _, _, i + 1, d, .cons _ t, e => by
    obtain ⟨u, h1, h2⟩ := RepL.get' (i := i) (v := d) t (by simpa using e)
    exact ⟨u, by simpa using h1, h2⟩
theorem RepL.set : ∀ {ds : List D} {vs : List V} {d : D} {v : V} (i : Nat), Rep K F d v → RepL K F ds vs → RepL K F (ds.set i d) (vs.set i v)
  | _, _, _, _, _, _, .nil => .nil
  | _, _, _, _, 0, r, .cons _ t => .cons r t
  | _, _, _, _, i + 1, r, .cons q t => .cons q (RepL.set i r t)
theorem RepL.reverse {ds : List D} {vs : List V} (h : RepL K F ds vs) : RepL K F ds.reverse vs.reverse := by
  induction ds generalizing vs with
  | nil => cases h; exact .nil
  | cons d r ih =>
    cases h with
    | cons h1 h2 => rw [List.reverse_cons, List.reverse_cons]; exact (ih h2).append (.cons h1 .nil)
theorem RepL.rep {ds : List D} {vs : List V} (h : RepL K F ds vs) : ∀ k : Nat, RepL K F (List.replicate k ds).flatten (List.replicate k vs).flatten
  | 0 => .nil
  | k + 1 => by rw [List.replicate_succ, List.replicate_succ, List.flatten_cons, List.flatten_cons]; exact h.append (RepL.rep h k)
theorem RepL.ints : ∀ (ns : List Int), RepL K F (ns.map D.int) (ns.map V.int)
  | [] => .nil
  | n :: r => .cons (.int n) (RepL.ints r)
theorem RepL.ints_of : ∀ {ns : List Int} {vs : List V}, RepL K F (ns.map D.int) vs → vs = ns.map V.int
  | [], _, h => by cases h; rfl
  | n :: r, _, h => by
    cases h with
    | cons h1 h2 => cases h1; rw [RepL.ints_of (ns := r) h2]; rfl
theorem RepL.bls_of : ∀ {ns : List Bool} {vs : List V}, RepL K F (ns.map D.bl) vs → vs = ns.map V.bl
  | [], _, h => by cases h; rfl
  | n :: r, _, h => by
    cases h with
    | cons h1 h2 => cases h1; rw [RepL.bls_of (ns := r) h2]; rfl
end

/-! ### the frame's plain state -/
inductive Sl3 where
  | no | val (d : D) | own (ds : List D)
  /-- a dict that only this slot holds -/
  | ownD (d : D)
  /-- the instance that __init__ is filling -/
  | new (nm : Str) (fs : List (Option D))
abbrev Env3 := List Sl3
/-- what a slot alone holds -/
def Sl3.ow : Sl3 → Option D
  | .own ds => some (.lst ds)
  | .ownD d => some d
  | _ => none
/-- an object that may change, and what it holds -/
def RepB (K : PySem.W.Frag) (F : Hp) : D → HO → Prop
  | .lst ds, o => ∃ xs, o = .lst xs ∧ RepL K F ds xs
  | .dcT ks ds, o => ∃ (ob : Obj) (xs : List V), o = .frz ob (.dT (ks.zip xs)) ∧ ks.length = xs.length ∧ RepL K F ds xs
  | .dcK ks ds, o => ∃ (ob : Obj) (xs : List V), o = .frz ob (.dK (ks.zip xs)) ∧ ks.length = xs.length ∧ RepL K F ds xs
  | _, _ => False
theorem RepB.mono {K : PySem.W.Frag} {F F' : Hp} {d : D} {o : HO} (e : Same F F') (h : RepB K F d o) : RepB K F' d o := by
  cases d with
  | lst ds => obtain ⟨xs, h1, h2⟩ := h; exact ⟨xs, h1, RepL.mono e _ _ h2⟩
  | dcT ks ds => obtain ⟨ob, xs, h1, h2, h3⟩ := h; exact ⟨ob, xs, h1, h2, RepL.mono e _ _ h3⟩
  | dcK ks ds => obtain ⟨ob, xs, h1, h2, h3⟩ := h; exact ⟨ob, xs, h1, h2, RepL.mono e _ _ h3⟩
  | _ => exact h.elim
/-- .. as a value, once it stands still -/
theorem RepB.rep {K : PySem.W.Frag} {F : Hp} {d : D} {o : HO} {a : Addr} (h : RepB K F d o) (e : F a = some o) : Rep K F d (.ref a) := by
  cases d with
  | lst ds => obtain ⟨xs, h1, h2⟩ := h; subst h1; exact .lst (Rd.of e) h2
  | dcT ks ds => obtain ⟨ob, xs, h1, h2, h3⟩ := h; subst h1; exact .dcT e h2 h3
  | dcK ks ds => obtain ⟨ob, xs, h1, h2, h3⟩ := h; subst h1; exact .dcK e h2 h3
  | _ => exact h.elim
abbrev Reg := List (Addr × List D)
abbrev Pend := List (Addr × HO)
structure Base3 where
  F : Hp
  H : Hp
  G : List Addr
  /-- where the instance stands that __init__ is filling -/
  nw : Addr

/-- no tuple -/
def isTp : HO → Bool
  | .tup _ => true
  | _ => false
/-- how the cells of a zip are told in a register -/
def encP (ps : List (ZN.Kd × Nat)) : List D := ps.map fun p => .tup [.bl (match p.1 with | .l => true | .t => false), .int p.2]
def encZ (b : Nat) (ps : List (ZN.Kd × Nat)) (dss : List (List D)) : List D := .tag 0 :: .int b :: .lst (encP ps) :: dss.map D.lst
inductive RepLs (K : PySem.W.Frag) (F : Hp) : List (List D) → List ZN.CS → Prop
  | nil : RepLs K F [] []
  | cons {ds : List D} {c : ZN.CS} {dss : List (List D)} {css : List ZN.CS} : ZN.SqK K c.k F c.a c.xs → RepL K F ds c.xs → RepLs K F dss css → RepLs K F (ds :: dss) (c :: css)
theorem sqK_same {K : PySem.W.Frag} {F F' : Hp} (e : Same F F') {k : ZN.Kd} {a : Nat} {xs : List V} (h : ZN.SqK K k F a xs) : ZN.SqK K k F' a xs := by
  cases k with
  | l => exact e.seq h
  | t => exact sameT e h
theorem RepLs.mono {K : PySem.W.Frag} {F F' : Hp} (e : Same F F') : ∀ {dss : List (List D)} {css : List ZN.CS}, RepLs K F dss css → RepLs K F' dss css
  | _, _, .nil => .nil
  | _, _, .cons h1 h2 h3 => .cons (sqK_same e h1) (RepL.mono e _ _ h2) (RepLs.mono e h3)
/-- how a table of code objects is told in a register -/
def encT (q : Str) : List D := [.tag 1, .str q]
/-- what a register tells: a list; a cell of a zip; a table of code objects -/
inductive RegO (K : PySem.W.Frag) (F : Hp) (a : Addr) : HO → List D → Prop
  | lst {xs : List V} {ds : List D} : RepL K F ds xs → RegO K F a (.lst xs) ds
  | zip {b : Nat} {css : List ZN.CS} {dss : List (List D)} {o : HO} : ZN.cellZ b (css.map ZN.CS.key) a = some o → ZN.N234 css.length → (∀ c ∈ css, c.a < b) → RepLs K F dss css → RegO K F a o (encZ b (css.map ZN.CS.key) dss)
  | tbl {q : Str} {ps : Array Value} : TriplesOk ps.toList → (∀ (pos : Pos) (cv : Value), codeAmong pos ps.toList = some cv → ∃ c, cv = .ref c ∧ F c = some (LamX.CodeO c q)) → RegO K F a (.tbl ps) (encT q)
theorem RegO.mono {K : PySem.W.Frag} {F F' : Hp} {a : Addr} {o : HO} {ds : List D} (e : Same F F') (h : RegO K F a o ds) : RegO K F' a o ds := by
  cases h with
  | lst r => exact .lst (RepL.mono e _ _ r)
  | zip h1 h2 h3 h4 => exact .zip h1 h2 h3 (h4.mono e)
  | tbl h1 h2 => exact .tbl h1 fun pos cv hc => by obtain ⟨c, e1, e2⟩ := h2 pos cv hc; exact ⟨c, e1, e _ _ e2⟩
/-- a register that is a list's -/
def isL : List D → Bool
  | .tag _ :: _ => false
  | _ => true
theorem RegO.lstOf {K : PySem.W.Frag} {F : Hp} {a : Addr} {o : HO} {ds : List D} (h : RegO K F a o ds) (hl : isL ds = true) : ∃ xs, o = .lst xs ∧ RepL K F ds xs := by
  cases h with
  | lst r => exact ⟨_, rfl, r⟩
  | zip h1 h2 h3 h4 => cases hl
  | tbl h1 h2 => cases hl
theorem RegO.nt {K : PySem.W.Frag} {F : Hp} {a : Addr} {o : HO} {ds : List D} (h : RegO K F a o ds) : isTp o = false := by
  cases h with
  | lst r => rfl
  | zip h1 h2 h3 h4 =>
    unfold ZN.cellZ at h1
    split at h1
    · cases h1; rfl
    split at h1
    · cases h1; rfl
    split at h1
    · cases h1; rfl
    split at h1
    · obtain ⟨p, _, rfl⟩ := Option.map_eq_some_iff.mp h1; rfl
    · cases h1
  | tbl h1 h2 => rfl
/-- the list of a register -/
def lookL (G : Reg) (a : Addr) : Option (List D) := match G.lookup a with
  | some ds => if isL ds = true then some ds else none
  | none => none
theorem lookL_iff {G : Reg} {a : Addr} {ds : List D} (h : lookL G a = some ds) : G.lookup a = some ds ∧ isL ds = true := by
  unfold lookL at h
  split at h
  · rename_i e hl
    split at h
    · rename_i hi; cases h; exact ⟨hl, hi⟩
    · cases h
  · cases h
structure Wld (K : PySem.W.Frag) (F H : Hp) (G : Reg) : Prop where
  sub : Same F H
  reg : ∀ (a : Addr) (ds : List D), (a, ds) ∈ G → F a = none ∧ ∃ o, H a = some o ∧ RegO K F a o ds
  nd : (G.map (·.1)).Nodup

/-- an object that stands free: nothing else names it -/
structure FreX (K : PySem.W.Frag) (B : Base3) (pn : Pend) (F H : Hp) (G : Reg) (a : Addr) (d : D) : Prop where
  nF : F a = none
  nB : B.H a = none
  nG : a ∉ G.map (·.1)
  nP : a ∉ pn.map (·.1)
  ex : ∃ o, H a = some o ∧ RepB K F d o
/-- a list that stands free: nothing else names it -/
structure Fre (K : PySem.W.Frag) (B : Base3) (pn : Pend) (F H : Hp) (G : Reg) (a : Addr) (ds : List D) : Prop where
  nF : F a = none
  nB : B.H a = none
  nG : a ∉ G.map (·.1)
  nP : a ∉ pn.map (·.1)
  ex : ∃ xs, H a = some (.lst xs) ∧ RepL K F ds xs
theorem Fre.x {K : PySem.W.Frag} {B : Base3} {pn : Pend} {F H : Hp} {G : Reg} {a : Addr} {ds : List D} (f : Fre K B pn F H G a ds) : FreX K B pn F H G a (.lst ds) :=
  ⟨f.nF, f.nB, f.nG, f.nP, by obtain ⟨xs, e, r⟩ := f.ex; exact ⟨_, e, xs, rfl, r⟩⟩
theorem FreX.l {K : PySem.W.Frag} {B : Base3} {pn : Pend} {F H : Hp} {G : Reg} {a : Addr} {ds : List D} (f : FreX K B pn F H G a (.lst ds)) : Fre K B pn F H G a ds :=
  ⟨f.nF, f.nB, f.nG, f.nP, by obtain ⟨o, e, xs, eo, r⟩ := f.ex; subst eo; exact ⟨xs, e, r⟩⟩

/-- the slots that are filled so far -/
def RepO (K : PySem.W.Frag) (F : Hp) (fs : List (Option D)) (vs : List (Option V)) : Prop := fs.length = vs.length ∧ ∀ (i : Nat) (d : D), fs[i]? = some (some d) → ∃ v, vs[i]? = some (some v) ∧ Rep K F d v
def NewAt (K : PySem.W.Frag) (nw : Addr) (pn : Pend) (F : Hp) (o : Option (Option V)) (nm : Str) (fs : List (Option D)) : Prop :=
  ∃ (a C dx : Addr) (vs : List (Option V)), (a = nw ∧ o = some (some (V.ref a))) ∧ dx ≠ a ∧ ClsN K nm C ∧ RepO K F fs vs ∧ ((vs = [] ∧ (a, HO.ins C dx []) ∈ pn ∧ (dx, HO.own a) ∈ pn) ∨ ((a, SlX.SlO a C dx vs) ∈ pn ∧ (dx, HO.xd []) ∈ pn))
structure St3 (K : PySem.W.Frag) (B : Base3) (pn : Pend) (F H : Hp) (σ : L2.St) (E : Env3) (G : Reg) : Prop where
  w : Wld K F H G
  keepF : Same B.F F
  keepH : ∀ (a : Addr) (o : HO), B.H a = some o → a ∉ B.G → H a = some o
  unfr : ∀ (a : Addr) (o : HO), B.H a = some o → isTp o = false → B.F a = none → F a = none
  regs : ∀ a, a ∈ G.map (·.1) → a ∈ B.G ∨ B.H a = none
  regk : ∀ a, a ∈ B.G → a ∈ G.map (·.1)
  len : E.length = σ.length
  slot : ∀ (i : Nat) (d : D), E[i]? = some (Sl3.val d) → ∃ v, σ[i]? = some (some v) ∧ Rep K F d v
  own : ∀ (i : Nat) (s : Sl3) (d : D), E[i]? = some s → s.ow = some d → ∃ a, σ[i]? = some (some (V.ref a)) ∧ FreX K B pn F H G a d
  ownd : ∀ (i j : Nat) (s t : Sl3) (d e : D) (a : Addr), E[i]? = some s → E[j]? = some t → s.ow = some d → t.ow = some e → σ[i]? = some (some (V.ref a)) → σ[j]? = some (some (V.ref a)) → i = j
  pend : ∀ (a : Addr) (o : HO), (a, o) ∈ pn → H a = some o ∧ F a = none ∧ B.H a = none ∧ a ∉ G.map (·.1)
  pnd : (pn.map (·.1)).Nodup ∧ ∀ p ∈ pn, isTp p.2 = false
  news : ∀ (nm : Str) (fs : List (Option D)), E[0]? = some (Sl3.new nm fs) → NewAt K B.nw pn F σ[0]? nm fs
theorem RepO.mono {K : PySem.W.Frag} {F F' : Hp} (s : Same F F') {fs : List (Option D)} {vs : List (Option V)} (h : RepO K F fs vs) : RepO K F' fs vs :=
  ⟨h.1, fun i d e => by obtain ⟨v, h1, h2⟩ := h.2 i d e; exact ⟨v, h1, Rep.mono s _ _ h2⟩⟩
theorem NewAt.mono {K : PySem.W.Frag} {nw : Addr} {F F' : Hp} {pn : Pend} {o : Option (Option V)} {nm : Str} {fs : List (Option D)} (s : Same F F') (h : NewAt K nw pn F o nm fs) : NewAt K nw pn F' o nm fs := by
  obtain ⟨a, C, dx, vs, h1, h2, h3, h4, h5⟩ := h
  exact ⟨a, C, dx, vs, h1, h2, h3, h4.mono s, h5⟩
theorem NewAt.push {K : PySem.W.Frag} {nw : Addr} {F : Hp} {pn : Pend} {p : Addr × HO} {o : Option (Option V)} {nm : Str} {fs : List (Option D)} (h : NewAt K nw pn F o nm fs) : NewAt K nw (p :: pn) F o nm fs := by
  obtain ⟨a, C, dx, vs, h1, h2, h3, h4, h5⟩ := h
  exact ⟨a, C, dx, vs, h1, h2, h3, h4, h5.imp (fun ⟨x, y, z⟩ => ⟨x, List.mem_cons_of_mem _ y, List.mem_cons_of_mem _ z⟩) fun ⟨y, z⟩ => ⟨List.mem_cons_of_mem _ y, List.mem_cons_of_mem _ z⟩⟩
inductive Dat : HO → Prop
  | lst {xs : List V} : Dat (.lst xs)
  | dT {ob : Obj} {k : List (List Key × V)} : Dat (.frz ob (.dT k))
  | dK {ob : Obj} {k : List (Key × V)} : Dat (.frz ob (.dK k))
  | dTu {k : List (List Key × V)} : Dat (.dT k)
  | dKu {k : List (Key × V)} : Dat (.dK k)
theorem RepB.dat {K : PySem.W.Frag} {F : Hp} {d : D} {o : HO} (h : RepB K F d o) : Dat o := by
  cases d with
  | lst ds => obtain ⟨xs, rfl, _⟩ := h; exact .lst
  | dcT ks ds => obtain ⟨ob, xs, rfl, _⟩ := h; exact .dT
  | dcK ks ds => obtain ⟨ob, xs, rfl, _⟩ := h; exact .dK
  | _ => exact h.elim
theorem Dat.nt {o : HO} (h : Dat o) : isTp o = false := by cases h <;> rfl
theorem NewAt.pop {K : PySem.W.Frag} {nw : Addr} {F : Hp} {pn : Pend} {b : Addr} {u : HO} {o : Option (Option V)} {nm : Str} {fs : List (Option D)} (hd : Dat u) (h : NewAt K nw ((b, u) :: pn) F o nm fs) : NewAt K nw pn F o nm fs := by
  obtain ⟨a, C, dx, vs, h1, h2, h3, h4, h5⟩ := h
  refine ⟨a, C, dx, vs, h1, h2, h3, h4, h5.imp (fun ⟨x, y, z⟩ => ⟨x, ?_, ?_⟩) fun ⟨y, z⟩ => ⟨?_, ?_⟩⟩
  all_goals first
    | exact (List.mem_cons.mp y).elim (fun e => by cases e; cases hd) id
    | exact (List.mem_cons.mp z).elim (fun e => by cases e; cases hd) id

/-- no slot of ours holds the list at a -/
def NoOwn (σ : L2.St) (E : Env3) (a : Addr) : Prop := ∀ (i : Nat) (s : Sl3) (d : D), E[i]? = some s → s.ow = some d → σ[i]? ≠ some (some (V.ref a))
theorem St3.ownL {K : PySem.W.Frag} {B : Base3} {pn : Pend} {F H : Hp} {σ : L2.St} {E : Env3} {G : Reg} (S : St3 K B pn F H σ E G) (i : Nat) (ds : List D) (h : E[i]? = some (Sl3.own ds)) : ∃ a, σ[i]? = some (some (V.ref a)) ∧ Fre K B pn F H G a ds := by
  obtain ⟨a, h1, f⟩ := S.own i _ _ h rfl
  exact ⟨a, h1, f.l⟩
theorem same_upd {F : Hp} {p : Addr} {o : HO} (n : F p = none) : Same F (upd F p o) := fun b u h => by
  rw [upd_ne (ne_of_none h n)]; exact h

section
variable {K : PySem.W.Frag} {B : Base3} {pn : Pend} {F H : Hp} {σ : L2.St} {E : Env3} {G : Reg}
theorem regMem {a : Addr} {G : Reg} (h : a ∈ G.map (·.1)) : ∃ ds, (a, ds) ∈ G := by
  obtain ⟨p, hp, rfl⟩ := List.mem_map.mp h
  exact ⟨p.2, hp⟩
theorem Wld.regH (w : Wld K F H G) {a : Addr} (h : a ∈ G.map (·.1)) : ∃ o, H a = some o := by
  obtain ⟨ds, hd⟩ := regMem h
  obtain ⟨_, xs, e, _⟩ := w.reg a ds hd
  exact ⟨_, e⟩
theorem St3.baseNone (S : St3 K B pn F H σ E G) {p : Addr} (n : H p = none) : B.H p = none := by
  cases q : B.H p with
  | none => rfl
  | some o =>
    by_cases hg : p ∈ B.G
    · obtain ⟨o', e⟩ := S.w.regH (S.regk p hg)
      rw [n] at e; cases e
    · have := S.keepH p o q hg
      rw [n] at this; cases this
theorem Wld.fNone (w : Wld K F H G) {p : Addr} (n : H p = none) : F p = none := by
  cases q : F p with
  | none => rfl
  | some o => have := w.sub p o q; rw [n] at this; cases this
/-- an object laid at a free place, frozen at once -/
theorem St3.newF (S : St3 K B pn F H σ E G) {p : Addr} {o : HO} (n : H p = none) : St3 K B pn (upd F p o) (upd H p o) σ E G ∧ Same F (upd F p o) := by
  have nF := S.w.fNone n
  have sF : Same F (upd F p o) := same_upd nF
  have sH : Same H (upd H p o) := same_upd n
  have nB := S.baseNone n
  refine ⟨⟨⟨fun a u h => ?_, fun a ds h => ?_, S.w.nd⟩, fun a u h => sF _ _ (S.keepF a u h), fun a u h hg => sH _ _ (S.keepH a u h hg), fun a u h ht h2 => ?_, S.regs, S.regk, S.len, fun i d h => ?_, fun i s d h ho => ?_, S.ownd, fun a xs h => ?_, S.pnd, fun nm fs h => (S.news nm fs h).mono sF⟩, sF⟩
  · unfold upd at h ⊢
    split at h
    · rename_i e; rw [if_pos e]; exact h
    · rename_i e; rw [if_neg e]; exact S.w.sub a u h
  · obtain ⟨h1, xs, h2, h3⟩ := S.w.reg a ds h
    have ne : a ≠ p := ne_of_none h2 n
    exact ⟨by rw [upd_ne ne]; exact h1, xs, by rw [upd_ne ne]; exact h2, RegO.mono sF h3⟩
  · have ne : a ≠ p := ne_of_none h nB
    rw [upd_ne ne]; exact S.unfr a u h ht h2
  · obtain ⟨v, h1, h2⟩ := S.slot i d h
    exact ⟨v, h1, Rep.mono sF _ _ h2⟩
  · obtain ⟨a, h1, f⟩ := S.own i s d h ho
    obtain ⟨xs, e, r⟩ := f.ex
    have ne : a ≠ p := ne_of_none e n
    exact ⟨a, h1, ⟨by rw [upd_ne ne]; exact f.nF, f.nB, f.nG, f.nP, xs, by rw [upd_ne ne]; exact e, RepB.mono sF r⟩⟩
  · obtain ⟨h1, h2, h3, h4⟩ := S.pend a xs h
    have ne : a ≠ p := ne_of_none h1 n
    exact ⟨by rw [upd_ne ne]; exact h1, by rw [upd_ne ne]; exact h2, h3, h4⟩
/-- an object laid at a free place, left free -/
theorem St3.newU (S : St3 K B pn F H σ E G) {p : Addr} {o : HO} (n : H p = none) : St3 K B pn F (upd H p o) σ E G := by
  have nF := S.w.fNone n
  have sH : Same H (upd H p o) := same_upd n
  refine ⟨⟨fun a u h => sH _ _ (S.w.sub a u h), fun a ds h => ?_, S.w.nd⟩, S.keepF, fun a u h hg => sH _ _ (S.keepH a u h hg), S.unfr, S.regs, S.regk, S.len, S.slot, fun i s d h ho => ?_, S.ownd, fun a xs h => ?_, S.pnd, S.news⟩
  · obtain ⟨h1, xs, h2, h3⟩ := S.w.reg a ds h
    exact ⟨h1, xs, sH _ _ h2, h3⟩
  · obtain ⟨a, h1, f⟩ := S.own i s d h ho
    obtain ⟨xs, e, r⟩ := f.ex
    exact ⟨a, h1, ⟨f.nF, f.nB, f.nG, f.nP, xs, sH _ _ e, r⟩⟩
  · obtain ⟨h1, h2⟩ := S.pend a xs h
    exact ⟨sH _ _ h1, h2⟩
theorem St3.newNo (S : St3 K B pn F H σ E G) {p : Addr} (n : H p = none) : NoOwn σ E p := fun i s d h ho e => by
  obtain ⟨a, h1, f⟩ := S.own i s d h ho
  rw [e] at h1
  cases h1
  obtain ⟨xs, q, _⟩ := f.ex
  rw [n] at q; cases q
theorem St3.newFreX (S : St3 K B pn F H σ E G) {p : Addr} {o : HO} {d : D} (n : H p = none) (r : RepB K F d o) : FreX K B pn F (upd H p o) G p d ∧ NoOwn σ E p := by
  refine ⟨⟨S.w.fNone n, S.baseNone n, fun h => ?_, fun h => ?_, o, upd_same, r⟩, S.newNo n⟩
  · obtain ⟨o, q⟩ := S.w.regH h
    rw [n] at q; cases q
  · obtain ⟨q, hq, rfl⟩ := List.mem_map.mp h
    have := (S.pend q.1 q.2 hq).1
    rw [n] at this; cases this
theorem St3.newFre (S : St3 K B pn F H σ E G) {p : Addr} {xs : List V} {ds : List D} (n : H p = none) (r : RepL K F ds xs) : Fre K B pn F (upd H p (.lst xs)) G p ds ∧ NoOwn σ E p := by
  obtain ⟨f, no⟩ := S.newFreX (d := .lst ds) n ⟨xs, rfl, r⟩
  exact ⟨f.l, no⟩
/-- an object that nothing of ours names freezes -/
theorem St3.freezeAt (S : St3 K B pn F H σ E G) {a : Addr} {o : HO} (nF : F a = none) (nB : B.H a = none) (nG : a ∉ G.map (·.1)) (nP : a ∉ pn.map (·.1)) (no : NoOwn σ E a) (e : H a = some o) : St3 K B pn (upd F a o) H σ E G ∧ Same F (upd F a o) := by
  have sF : Same F (upd F a o) := same_upd nF
  refine ⟨⟨⟨fun b u h => ?_, fun b es h => ?_, S.w.nd⟩, fun b u h => sF _ _ (S.keepF b u h), S.keepH, fun b u h ht h2 => ?_, S.regs, S.regk, S.len, fun i d h => ?_, fun i s d h ho => ?_, S.ownd, fun b ys h => ?_, S.pnd, fun nm fs h => (S.news nm fs h).mono sF⟩, sF⟩
  · unfold upd at h
    split at h
    · rename_i q; subst q; rw [e]; exact h
    · exact S.w.sub b u h
  · obtain ⟨h1, ys, h2, h3⟩ := S.w.reg b es h
    have ne : b ≠ a := fun z => nG (by rw [← z]; exact List.mem_map.mpr ⟨_, h, rfl⟩)
    exact ⟨by rw [upd_ne ne]; exact h1, ys, h2, RegO.mono sF h3⟩
  · rw [upd_ne (ne_of_none h nB)]; exact S.unfr b u h ht h2
  · obtain ⟨v, h1, h2⟩ := S.slot i d h
    exact ⟨v, h1, Rep.mono sF _ _ h2⟩
  · obtain ⟨b, h1, g⟩ := S.own i s d h ho
    obtain ⟨ys, e2, r2⟩ := g.ex
    have ne : b ≠ a := fun z => no i s d h ho (by rw [← z]; exact h1)
    exact ⟨b, h1, ⟨by rw [upd_ne ne]; exact g.nF, g.nB, g.nG, g.nP, ys, e2, RepB.mono sF r2⟩⟩
  · obtain ⟨h1, h2, h3, h4⟩ := S.pend b ys h
    have ne : b ≠ a := fun z => nP (by rw [← z]; exact List.mem_map.mpr ⟨_, h, rfl⟩)
    exact ⟨h1, by rw [upd_ne ne]; exact h2, h3, h4⟩
/-- a free object freezes -/
theorem St3.freezeX (S : St3 K B pn F H σ E G) {a : Addr} {d : D} (f : FreX K B pn F H G a d) (no : NoOwn σ E a) : ∃ F', St3 K B pn F' H σ E G ∧ Same F F' ∧ Rep K F' d (.ref a) := by
  obtain ⟨o, e, r⟩ := f.ex
  obtain ⟨S2, s⟩ := S.freezeAt f.nF f.nB f.nG f.nP no e
  exact ⟨_, S2, s, (r.mono s).rep upd_same⟩
/-- a free list freezes -/
theorem St3.freeze (S : St3 K B pn F H σ E G) {a : Addr} {ds : List D} (f : Fre K B pn F H G a ds) (no : NoOwn σ E a) : ∃ F', St3 K B pn F' H σ E G ∧ Same F F' ∧ Rep K F' (.lst ds) (.ref a) := S.freezeX f.x no
/-- a slot's content becomes unknown to us -/
theorem St3.forget (S : St3 K B pn F H σ E G) (i : Nat) : St3 K B pn F H σ (E.set i Sl3.no) G := by
  have look : ∀ {j : Nat} {s : Sl3}, s ≠ Sl3.no → (E.set i Sl3.no)[j]? = some s → E[j]? = some s := fun {j s} hs h => by
    by_cases q : i = j
    · subst q
      rw [List.getElem?_set] at h
      simp only [if_true] at h
      split at h
      · cases h; exact absurd rfl hs
      · cases h
    · rw [List.getElem?_set_ne q] at h; exact h
  have ne : ∀ {s : Sl3} {d : D}, s.ow = some d → s ≠ Sl3.no := fun h q => by subst q; cases h
  exact ⟨S.w, S.keepF, S.keepH, S.unfr, S.regs, S.regk, by rw [List.length_set]; exact S.len, fun j d h => S.slot j d (look (fun q => nomatch q) h), fun j s d h ho => S.own j s d (look (ne ho) h) ho,
    fun j k s t d e a h1 h2 o1 o2 => S.ownd j k s t d e a (look (ne o1) h1) (look (ne o2) h2) o1 o2, S.pend, S.pnd, fun nm fs h => S.news nm fs (look (fun q => nomatch q) h)⟩
theorem set_look {E : Env3} {i j : Nat} {s t : Sl3} (h : (E.set i t)[j]? = some s) : (i = j ∧ s = t) ∨ (i ≠ j ∧ E[j]? = some s) := by
  by_cases q : i = j
  · subst q
    rw [List.getElem?_set] at h
    simp only [if_true] at h
    split at h
    · cases h; exact .inl ⟨rfl, rfl⟩
    · cases h
  · rw [List.getElem?_set_ne q] at h; exact .inr ⟨q, h⟩
/-- a slot that owns an object freezes it -/
theorem St3.freezeSlotX (S : St3 K B pn F H σ E G) {i : Nat} {s : Sl3} {d : D} {v : V} (h : E[i]? = some s) (ho : s.ow = some d) (hv : σ[i]? = some (some v)) : ∃ F', St3 K B pn F' H σ (E.set i (Sl3.val d)) G ∧ Same F F' ∧ Rep K F' d v := by
  obtain ⟨a, h1, f⟩ := S.own i s d h ho
  rw [hv] at h1
  cases h1
  have S2 := S.forget i
  obtain ⟨F', S3, sm, r⟩ := S2.freezeX f (fun j t e hj ht q => by
    rcases set_look hj with ⟨_, z⟩ | ⟨ne, z⟩
    · subst z; cases ht
    · exact ne (S.ownd i j s t d e a h z ho ht hv q))
  refine ⟨F', ⟨S3.w, S3.keepF, S3.keepH, S3.unfr, S3.regs, S3.regk, by rw [List.length_set]; exact S.len, fun j e hj => ?_, fun j t e hj ht => ?_, fun j k t u e g b h1 h2 o1 o2 => ?_, S3.pend, S3.pnd, fun nm fs h => ?_⟩, sm, r⟩
  · rcases set_look hj with ⟨q, z⟩ | ⟨ne, z⟩
    · cases z; subst q; exact ⟨_, hv, r⟩
    · exact S3.slot j e (by rw [List.getElem?_set_ne ne]; exact z)
  · rcases set_look hj with ⟨q, z⟩ | ⟨ne, z⟩
    · subst z; cases ht
    · exact S3.own j t e (by rw [List.getElem?_set_ne ne]; exact z) ht
  · rcases set_look h1 with ⟨q, z⟩ | ⟨ne, z⟩
    · subst z; cases o1
    · rcases set_look h2 with ⟨q', z'⟩ | ⟨ne', z'⟩
      · subst z'; cases o2
      · exact S.ownd j k t u e g b z z' o1 o2
  · rcases set_look h with ⟨q, z⟩ | ⟨ne, z⟩
    · cases z
    · exact S3.news nm fs (by rw [List.getElem?_set_ne ne]; exact z)
theorem St3.freezeSlot (S : St3 K B pn F H σ E G) {i : Nat} {ds : List D} {v : V} (h : E[i]? = some (Sl3.own ds)) (hv : σ[i]? = some (some v)) : ∃ F', St3 K B pn F' H σ (E.set i (Sl3.val (.lst ds))) G ∧ Same F F' ∧ Rep K F' (.lst ds) v := S.freezeSlotX h rfl hv
theorem setσ_look {σ : L2.St} {i j : Nat} {v : Option V} : i < σ.length → (σ.set i v)[j]? = if i = j then some v else σ[j]? := fun hl => by
  by_cases q : i = j
  · subst q; rw [List.getElem?_set_self hl, if_pos rfl]
  · rw [List.getElem?_set_ne q, if_neg q]
theorem lt_of_look {α : Type} {l : List α} {i : Nat} {x : α} (h : l[i]? = some x) : i < l.length := (List.getElem?_eq_some_iff.mp h).1
/-- a slot is set to a value -/
theorem St3.setVal (S : St3 K B pn F H σ E G) {i : Nat} {d : D} {v : V} (hi : i < σ.length) (r : Rep K F d v) : St3 K B pn F H (σ.set i (some v)) (E.set i (Sl3.val d)) G := by
  refine ⟨S.w, S.keepF, S.keepH, S.unfr, S.regs, S.regk, by rw [List.length_set, List.length_set]; exact S.len, fun j e h => ?_, fun j s e h ho => ?_, fun j k s t e g a h1 h2 o1 o2 h3 h4 => ?_, S.pend, S.pnd, fun nm fs h => ?_⟩
  · rw [setσ_look hi]
    rcases set_look h with ⟨q, z⟩ | ⟨ne, z⟩
    · cases z; rw [if_pos q]; exact ⟨v, rfl, r⟩
    · rw [if_neg ne]; exact S.slot j e z
  · rw [setσ_look hi]
    rcases set_look h with ⟨q, z⟩ | ⟨ne, z⟩
    · subst z; cases ho
    · rw [if_neg ne]; exact S.own j s e z ho
  · rcases set_look h1 with ⟨q, z⟩ | ⟨ne, z⟩
    · subst z; cases o1
    rcases set_look h2 with ⟨q', z'⟩ | ⟨ne', z'⟩
    · subst z'; cases o2
    rw [setσ_look hi, if_neg ne] at h3
    rw [setσ_look hi, if_neg ne'] at h4
    exact S.ownd j k s t e g a z z' o1 o2 h3 h4
  · rcases set_look h with ⟨q, z⟩ | ⟨ne, z⟩
    · cases z
    · rw [setσ_look hi, if_neg ne]; exact S.news nm fs z
/-- a slot takes a free object -/
theorem St3.setOwnX (S : St3 K B pn F H σ E G) {i : Nat} {s : Sl3} {d : D} {a : Addr} (hi : i < σ.length) (f : FreX K B pn F H G a d) (hs : s.ow = some d) (no : NoOwn σ E a) : St3 K B pn F H (σ.set i (some (V.ref a))) (E.set i s) G := by
  refine ⟨S.w, S.keepF, S.keepH, S.unfr, S.regs, S.regk, by rw [List.length_set, List.length_set]; exact S.len, fun j e h => ?_, fun j t e h ho => ?_, fun j k t u e g b h1 h2 o1 o2 h3 h4 => ?_, S.pend, S.pnd, fun nm fs h => ?_⟩
  · rw [setσ_look hi]
    rcases set_look h with ⟨q, z⟩ | ⟨ne, z⟩
    · subst z; cases hs
    · rw [if_neg ne]; exact S.slot j e z
  · rw [setσ_look hi]
    rcases set_look h with ⟨q, z⟩ | ⟨ne, z⟩
    · subst z
      rw [hs] at ho
      cases ho
      rw [if_pos q]; exact ⟨a, rfl, f⟩
    · rw [if_neg ne]; exact S.own j t e z ho
  · rw [setσ_look hi] at h3 h4
    rcases set_look h1 with ⟨q, z⟩ | ⟨ne, z⟩
    · rcases set_look h2 with ⟨q', z'⟩ | ⟨ne', z'⟩
      · omega
      · rw [if_pos q] at h3
        rw [if_neg ne'] at h4
        cases h3
        exact absurd h4 (no k u g z' o2)
    · rcases set_look h2 with ⟨q', z'⟩ | ⟨ne', z'⟩
      · rw [if_neg ne] at h3
        rw [if_pos q'] at h4
        cases h4
        exact absurd h3 (no j t e z o1)
      · rw [if_neg ne] at h3
        rw [if_neg ne'] at h4
        exact S.ownd j k t u e g b z z' o1 o2 h3 h4
  · rcases set_look h with ⟨q, z⟩ | ⟨ne, z⟩
    · subst z; cases hs
    · rw [setσ_look hi, if_neg ne]; exact S.news nm fs z
/-- a slot takes a free list -/
theorem St3.setOwn (S : St3 K B pn F H σ E G) {i : Nat} {ds : List D} {a : Addr} (hi : i < σ.length) (f : Fre K B pn F H G a ds) (no : NoOwn σ E a) : St3 K B pn F H (σ.set i (some (V.ref a))) (E.set i (Sl3.own ds)) G := S.setOwnX hi f.x rfl no
/-- the object that a slot owns is written -/
theorem St3.ownWriteX (S : St3 K B pn F H σ E G) {i : Nat} {s t : Sl3} {d e : D} {a : Addr} {o : HO} (h : E[i]? = some s) (hs : s.ow = some d) (hv : σ[i]? = some (some (V.ref a))) (ht : t.ow = some e) (r : RepB K F e o) : St3 K B pn F (upd H a o) σ (E.set i t) G := by
  obtain ⟨a', h1, f⟩ := S.own i s d h hs
  rw [hv] at h1
  cases h1
  obtain ⟨xs, ea, _⟩ := f.ex
  refine ⟨⟨fun b u hb => ?_, fun b fs hb => ?_, S.w.nd⟩, S.keepF, fun b u hb hg => ?_, S.unfr, S.regs, S.regk, by rw [List.length_set]; exact S.len, fun j g hj => ?_, fun j u g hj hu => ?_, fun j k u w g g' b h1 h2 o1 o2 h3 h4 => ?_, fun b zs hb => ?_, S.pnd, fun nm fs h => ?_⟩
  · have ne : b ≠ a := ne_of_none hb f.nF
    rw [upd_ne ne]; exact S.w.sub b u hb
  · obtain ⟨h1, zs, h2, h3⟩ := S.w.reg b fs hb
    have ne : b ≠ a := fun z => f.nG (by rw [← z]; exact List.mem_map.mpr ⟨_, hb, rfl⟩)
    exact ⟨h1, zs, by rw [upd_ne ne]; exact h2, h3⟩
  · have ne : b ≠ a := ne_of_none hb f.nB
    rw [upd_ne ne]; exact S.keepH b u hb hg
  · rcases set_look hj with ⟨q, z⟩ | ⟨ne, z⟩
    · subst z; cases ht
    · exact S.slot j g z
  · rcases set_look hj with ⟨q, z⟩ | ⟨ne, z⟩
    · subst z
      rw [ht] at hu
      cases hu
      subst q
      exact ⟨a, hv, ⟨f.nF, f.nB, f.nG, f.nP, o, upd_same, r⟩⟩
    · obtain ⟨b, e1, g2⟩ := S.own j u g z hu
      obtain ⟨zs, e2, r2⟩ := g2.ex
      have nab : b ≠ a := fun q => ne (S.ownd i j s u d g a h z hs hu hv (by rw [← q]; exact e1))
      exact ⟨b, e1, ⟨g2.nF, g2.nB, g2.nG, g2.nP, zs, by rw [upd_ne nab]; exact e2, r2⟩⟩
  · have w1 : ∃ s' d', E[j]? = some s' ∧ s'.ow = some d' := by
      rcases set_look h1 with ⟨q, z⟩ | ⟨ne, z⟩
      · subst q; exact ⟨_, _, h, hs⟩
      · exact ⟨_, _, z, o1⟩
    have w2 : ∃ s' d', E[k]? = some s' ∧ s'.ow = some d' := by
      rcases set_look h2 with ⟨q, z⟩ | ⟨ne, z⟩
      · subst q; exact ⟨_, _, h, hs⟩
      · exact ⟨_, _, z, o2⟩
    obtain ⟨_, _, w1, p1⟩ := w1
    obtain ⟨_, _, w2, p2⟩ := w2
    exact S.ownd j k _ _ _ _ b w1 w2 p1 p2 h3 h4
  · obtain ⟨h1, h2, h3, h4⟩ := S.pend b zs hb
    have ne : b ≠ a := fun z => f.nP (by rw [← z]; exact List.mem_map.mpr ⟨_, hb, rfl⟩)
    exact ⟨by rw [upd_ne ne]; exact h1, h2, h3, h4⟩
  · rcases set_look h with ⟨q, z⟩ | ⟨ne, z⟩
    · subst z; cases ht
    · exact S.news nm fs z
/-- the list that a slot owns is written -/
theorem St3.ownWrite (S : St3 K B pn F H σ E G) {i : Nat} {ds es : List D} {a : Addr} {ys : List V} (h : E[i]? = some (Sl3.own ds)) (hv : σ[i]? = some (some (V.ref a))) (r : RepL K F es ys) : St3 K B pn F (upd H a (.lst ys)) σ (E.set i (Sl3.own es)) G :=
  S.ownWriteX h rfl hv (t := Sl3.own es) (e := .lst es) rfl ⟨ys, rfl, r⟩
def regSet : Reg → Addr → List D → Reg
  | [], _, _ => []
  | (b, ds) :: r, a, es => if b = a then (a, es) :: r else (b, ds) :: regSet r a es
theorem regSet_dom (a : Addr) (es : List D) : ∀ G : Reg, (regSet G a es).map (·.1) = G.map (·.1)
  | [] => rfl
  | (b, ds) :: r => by
    unfold regSet
    by_cases h : b = a
    · rw [if_pos h, List.map_cons, List.map_cons]; subst h; rfl
    · rw [if_neg h, List.map_cons, List.map_cons, regSet_dom a es r]
theorem regSet_mem {a b : Addr} {es fs : List D} : ∀ {G : Reg}, (G.map (·.1)).Nodup → (b, fs) ∈ regSet G a es → (b = a ∧ fs = es) ∨ ((b, fs) ∈ G ∧ b ≠ a)
  | [], _, h => by cases h
  | (c, ds) :: r, nd, h => by
    unfold regSet at h
    rw [List.map_cons] at nd
    have nd' := List.nodup_cons.mp nd
    by_cases q : c = a
    · rw [if_pos q] at h
      rcases List.mem_cons.mp h with h | h
      · cases h; exact .inl ⟨rfl, rfl⟩
      · refine .inr ⟨List.mem_cons_of_mem _ h, fun e => nd'.1 ?_⟩
        show c ∈ _
        rw [q, ← e]
        exact List.mem_map.mpr ⟨_, h, rfl⟩
    · rw [if_neg q] at h
      rcases List.mem_cons.mp h with h | h
      · cases h; exact .inr ⟨List.mem_cons_self, q⟩
      · rcases regSet_mem nd'.2 h with z | ⟨z, ne⟩
        · exact .inl z
        · exact .inr ⟨List.mem_cons_of_mem _ z, ne⟩
/-- a register is written -/
theorem St3.regWrite (S : St3 K B pn F H σ E G) {ds es : List D} {a : Addr} {ys : List V} (h : (a, ds) ∈ G) (r : RepL K F es ys) : St3 K B pn F (upd H a (.lst ys)) σ E (regSet G a es) := by
  obtain ⟨nF, xs, ea, _⟩ := S.w.reg a ds h
  have ha : a ∈ G.map (·.1) := List.mem_map.mpr ⟨_, h, rfl⟩
  refine ⟨⟨fun b u hb => ?_, fun b fs hb => ?_, by rw [regSet_dom]; exact S.w.nd⟩, S.keepF, fun b u hb hg => ?_, S.unfr, by rw [regSet_dom]; exact S.regs, by rw [regSet_dom]; exact S.regk, S.len, S.slot, fun j s d hj ho => ?_, S.ownd, fun b zs hb => ?_, S.pnd, S.news⟩
  · have ne : b ≠ a := ne_of_none hb nF
    rw [upd_ne ne]; exact S.w.sub b u hb
  · rcases regSet_mem S.w.nd hb with ⟨e1, e2⟩ | ⟨hp, q⟩
    · subst e1 e2
      exact ⟨nF, _, upd_same, .lst r⟩
    · obtain ⟨h1, zs, h2, h3⟩ := S.w.reg b fs hp
      exact ⟨h1, zs, by rw [upd_ne q]; exact h2, h3⟩
  · rcases S.regs a ha with z | z
    · have ne : b ≠ a := fun q => hg (by rw [q]; exact z)
      rw [upd_ne ne]; exact S.keepH b u hb hg
    · have ne : b ≠ a := ne_of_none hb z
      rw [upd_ne ne]; exact S.keepH b u hb hg
  · obtain ⟨b, e1, g⟩ := S.own j s d hj ho
    obtain ⟨zs, e2, r2⟩ := g.ex
    have nab : b ≠ a := fun q => g.nG (by rw [q]; exact ha)
    exact ⟨b, e1, ⟨g.nF, g.nB, by rw [regSet_dom]; exact g.nG, g.nP, zs, by rw [upd_ne nab]; exact e2, r2⟩⟩
  · obtain ⟨h1, h2, h3, h4⟩ := S.pend b zs hb
    have ne : b ≠ a := fun z => h4 (by rw [z]; exact ha)
    exact ⟨by rw [upd_ne ne]; exact h1, h2, h3, by rw [regSet_dom]; exact h4⟩
/-- a free list becomes pending, comes back -/
theorem St3.pendOn (S : St3 K B pn F H σ E G) {a : Addr} {o : HO} (hF : F a = none) (hB : B.H a = none) (hG : a ∉ G.map (·.1)) (hP : a ∉ pn.map (·.1)) (hH : H a = some o) (no : NoOwn σ E a) (nt : isTp o = false := by rfl) : St3 K B ((a, o) :: pn) F H σ E G := by
  refine ⟨S.w, S.keepF, S.keepH, S.unfr, S.regs, S.regk, S.len, S.slot, fun i s d h ho => ?_, S.ownd, fun b ys h => ?_, ?_, fun nm fs h => (S.news nm fs h).push⟩
  · obtain ⟨b, h1, f⟩ := S.own i s d h ho
    refine ⟨b, h1, ⟨f.nF, f.nB, f.nG, ?_, f.ex⟩⟩
    rw [List.map_cons]
    intro z
    rcases List.mem_cons.mp z with z | z
    · have z' : b = a := z
      exact no i s d h ho (by rw [← z']; exact h1)
    · exact f.nP z
  · rcases List.mem_cons.mp h with h | h
    · cases h; exact ⟨hH, hF, hB, hG⟩
    · exact S.pend b ys h
  · rw [List.map_cons]
    refine ⟨List.nodup_cons.mpr ⟨hP, S.pnd.1⟩, fun p hp => ?_⟩
    rcases List.mem_cons.mp hp with q | q
    · subst q; exact nt
    · exact S.pnd.2 p q
theorem St3.pendOff {a : Addr} {o : HO} (S : St3 K B ((a, o) :: pn) F H σ E G) (hd : Dat o := by exact .lst) : St3 K B pn F H σ E G ∧ F a = none ∧ B.H a = none ∧ a ∉ G.map (·.1) ∧ a ∉ pn.map (·.1) ∧ H a = some o ∧ NoOwn σ E a := by
  obtain ⟨h1, h2, h3, h4⟩ := S.pend a _ List.mem_cons_self
  have nd := S.pnd.1
  rw [List.map_cons] at nd
  refine ⟨⟨S.w, S.keepF, S.keepH, S.unfr, S.regs, S.regk, S.len, S.slot, fun i s d h ho => ?_, S.ownd, fun b ys h => S.pend b ys (List.mem_cons_of_mem _ h), ⟨(List.nodup_cons.mp nd).2, fun p hp => S.pnd.2 p (List.mem_cons_of_mem _ hp)⟩, fun nm fs h => (S.news nm fs h).pop hd⟩, h2, h3, h4, (List.nodup_cons.mp nd).1, h1, fun i s d h ho e => ?_⟩
  · obtain ⟨b, h1, f⟩ := S.own i s d h ho
    exact ⟨b, h1, ⟨f.nF, f.nB, f.nG, fun z => f.nP (by rw [List.map_cons]; exact List.mem_cons_of_mem _ z), f.ex⟩⟩
  · obtain ⟨b, e1, f⟩ := S.own i s d h ho
    rw [e] at e1
    cases e1
    exact f.nP (by rw [List.map_cons]; exact List.mem_cons_self)
/-- a pending list is written -/
theorem St3.pendWrite {a : Addr} {xs ys : List V} (S : St3 K B ((a, .lst xs) :: pn) F H σ E G) : St3 K B ((a, .lst ys) :: pn) F (upd H a (.lst ys)) σ E G := by
  obtain ⟨S0, hF, hB, hG, hP, hH, no⟩ := S.pendOff
  have S1 : St3 K B pn F (upd H a (.lst ys)) σ E G := by
    refine ⟨⟨fun b u hb => ?_, fun b fs hb => ?_, S.w.nd⟩, S.keepF, fun b u hb hg => ?_, S.unfr, S.regs, S.regk, S.len, S.slot, fun j s d hj ho => ?_, S.ownd, fun b zs hb => ?_, S0.pnd, S0.news⟩
    · have ne : b ≠ a := ne_of_none hb hF
      rw [upd_ne ne]; exact S.w.sub b u hb
    · obtain ⟨h1, zs, h2, h3⟩ := S.w.reg b fs hb
      have ne : b ≠ a := fun z => hG (by rw [← z]; exact List.mem_map.mpr ⟨_, hb, rfl⟩)
      exact ⟨h1, zs, by rw [upd_ne ne]; exact h2, h3⟩
    · have ne : b ≠ a := ne_of_none hb hB
      rw [upd_ne ne]; exact S.keepH b u hb hg
    · obtain ⟨b, e1, g⟩ := S0.own j s d hj ho
      obtain ⟨zs, e2, r2⟩ := g.ex
      have nab : b ≠ a := fun q => no j s d hj ho (by rw [← q]; exact e1)
      exact ⟨b, e1, ⟨g.nF, g.nB, g.nG, g.nP, zs, by rw [upd_ne nab]; exact e2, r2⟩⟩
    · obtain ⟨h1, h2, h3, h4⟩ := S0.pend b zs hb
      have ne : b ≠ a := fun z => hP (by rw [← z]; exact List.mem_map.mpr ⟨_, hb, rfl⟩)
      exact ⟨by rw [upd_ne ne]; exact h1, h2, h3, h4⟩
  exact S1.pendOn hF hB hG hP upd_same no
end
end L3

set_option Elab.async false
set_option maxRecDepth 100000
set_option maxHeartbeats 4000000
/-! L3, part b: judgements over plain values. -/
namespace L3
open PySem PySem.Spec PyProof.Rows L2

/-- what an expression gives: a value; the list that a slot owns; a list that stands free -/
inductive Res where
  | val (d : D) | sl (i : Nat) | fr (ds : List D)
  /-- a dict that stands free -/
  | frD (d : D)
abbrev DK := Res → Env3 → Reg → Prop
abbrev DE := Env3 → Reg → DK → Prop
abbrev DT := Env3 → Reg → (Bool → Env3 → Reg → Prop) → Prop
abbrev DA := Env3 → Reg → (List D → Env3 → Reg → Prop) → Prop
/-- an exception: its class's name, the field that it keeps -/
abbrev Exc3 := Str × Option (Str × D)
abbrev DW := Exc3 → Env3 → Reg → Prop

section
variable (K : PySem.W.Frag) (B : Base3) (pn : Pend) (F H : Hp) (σ : L2.St) (E : Env3) (G : Reg)
def RepR : Res → V → Prop
  | .val d, v => Rep K F d v
  | .sl i, v => σ[i]? = some (some v)
  | .fr ds, v => ∃ a, v = .ref a ∧ Fre K B pn F H G a ds ∧ NoOwn σ E a
  | .frD d, v => ∃ a, v = .ref a ∧ FreX K B pn F H G a d ∧ NoOwn σ E a
def RepH : D → V → Prop := fun d v => Rep K F d v ∨ ∃ a o, v = .ref a ∧ H a = some o ∧ RepB K F d o
end
/-- what it is worth where it is used -/
def Res.get (r : Res) (E : Env3) : Option D := match r with
  | .val d => some d
  | .fr ds => some (.lst ds)
  | .frD d => some d
  | .sl i => match E[i]? with
    | some (Sl3.val d) => some d
    | some (Sl3.own ds) => some (.lst ds)
    | some (Sl3.ownD d) => some d
    | _ => none
/-- frozen -/
def Res.fz : Res → Res
  | .val d => .val d
  | .sl i => .sl i
  | .fr ds => .val (.lst ds)
  | .frD d => .val d
/-- .. for good: the value, the slots behind it -/
def Res.ice (r : Res) (E : Env3) : Option (D × Env3) := match r with
  | .val d => some (d, E)
  | .fr ds => some (.lst ds, E)
  | .frD d => some (d, E)
  | .sl i => match E[i]? with
    | some (Sl3.val d) => some (d, E)
    | some (Sl3.own ds) => some (.lst ds, E.set i (Sl3.val (.lst ds)))
    | some (Sl3.ownD d) => some (d, E.set i (Sl3.val d))
    | _ => none

inductive RepHL (K : PySem.W.Frag) (F H : Hp) : List D → List V → Prop
  | nil : RepHL K F H [] []
  | cons {d : D} {ds : List D} {v : V} {vs : List V} : RepH K F H d v → RepHL K F H ds vs → RepHL K F H (d :: ds) (v :: vs)

section
variable {K : PySem.W.Frag} {B : Base3} {pn : Pend} {F F' H H' : Hp} {σ : L2.St} {E E' : Env3} {G G' : Reg}
theorem RepH.mono {d : D} {v : V} (r : RepH K F H d v) (e : Same F F') (h : ∀ a o, H a = some o → H' a = some o) : RepH K F' H' d v := by
  rcases r with r | ⟨a, o, rfl, h1, h2⟩
  · exact .inl (Rep.mono e _ _ r)
  · exact .inr ⟨a, o, rfl, h _ _ h1, h2.mono e⟩
theorem St3.resolve (S : St3 K B pn F H σ E G) {i : Nat} {v : V} {d : D} (hv : σ[i]? = some (some v)) (h : (Res.sl i).get E = some d) : RepH K F H d v := by
  unfold Res.get at h
  dsimp only at h
  split at h
  · rename_i d' q
    cases h
    obtain ⟨v', h1, h2⟩ := S.slot i d q
    rw [hv] at h1
    cases h1
    exact .inl h2
  · rename_i ds q
    cases h
    obtain ⟨a, h1, f⟩ := S.own i _ _ q rfl
    rw [hv] at h1
    cases h1
    obtain ⟨o, h2, h3⟩ := f.ex
    exact .inr ⟨a, o, rfl, h2, h3⟩
  · rename_i d' q
    cases h
    obtain ⟨a, h1, f⟩ := S.own i _ _ q rfl
    rw [hv] at h1
    cases h1
    obtain ⟨o, h2, h3⟩ := f.ex
    exact .inr ⟨a, o, rfl, h2, h3⟩
  · cases h
theorem St3.getH (S : St3 K B pn F H σ E G) {r : Res} {v : V} {d : D} (hr : RepR K B pn F H σ E G r v) (h : r.get E = some d) : RepH K F H d v := by
  cases r with
  | val d' => cases h; exact .inl hr
  | sl i => exact S.resolve hr h
  | fr ds =>
    cases h
    obtain ⟨a, rfl, f, _⟩ := hr
    obtain ⟨xs, h2, h3⟩ := f.ex
    exact .inr ⟨a, _, rfl, h2, xs, rfl, h3⟩
  | frD d' =>
    cases h
    obtain ⟨a, rfl, f, _⟩ := hr
    obtain ⟨o, h2, h3⟩ := f.ex
    exact .inr ⟨a, o, rfl, h2, h3⟩
/-- a free list freezes; the others stand -/
theorem St3.fz (S : St3 K B pn F H σ E G) {r : Res} {v : V} (hr : RepR K B pn F H σ E G r v) : ∃ F', St3 K B pn F' H σ E G ∧ Same F F' ∧ RepR K B pn F' H σ E G r.fz v := by
  cases r with
  | val d => exact ⟨F, S, Same.refl F, hr⟩
  | sl i => exact ⟨F, S, Same.refl F, hr⟩
  | fr ds =>
    obtain ⟨a, rfl, f, no⟩ := hr
    exact S.freeze f no
  | frD d =>
    obtain ⟨a, rfl, f, no⟩ := hr
    exact S.freezeX f no
/-- what is frozen keeps its sense further on -/
theorem RepR.onward {r : Res} {v : V} (hr : RepR K B pn F H σ E G r.fz v) (e : Same F F') : RepR K B pn F' H' σ E' G' r.fz v := by
  cases r with
  | val d => exact Rep.mono e _ _ hr
  | sl i => exact hr
  | fr ds => exact Rep.mono e _ _ hr
  | frD d => exact Rep.mono e _ _ hr
theorem St3.ice (S : St3 K B pn F H σ E G) {r : Res} {v : V} {d : D} {E' : Env3} (hr : RepR K B pn F H σ E G r v) (h : r.ice E = some (d, E')) : ∃ F', St3 K B pn F' H σ E' G ∧ Same F F' ∧ Rep K F' d v := by
  cases r with
  | val d' => cases h; exact ⟨F, S, Same.refl F, hr⟩
  | fr ds =>
    cases h
    obtain ⟨a, rfl, f, no⟩ := hr
    exact S.freeze f no
  | frD d' =>
    cases h
    obtain ⟨a, rfl, f, no⟩ := hr
    exact S.freezeX f no
  | sl i =>
    unfold Res.ice at h
    dsimp only at h
    split at h
    · rename_i d' q
      cases h
      obtain ⟨v', h1, h2⟩ := S.slot i d q
      have hr' : σ[i]? = some (some v) := hr
      rw [hr'] at h1
      cases h1
      exact ⟨F, S, Same.refl F, h2⟩
    · rename_i ds q
      cases h
      exact S.freezeSlot q hr
    · rename_i d' q
      cases h
      exact S.freezeSlotX q rfl hr
    · cases h
end

/-! ### the lifted readings -/
section
variable (K : PySem.W.Frag) (B : Base3)
def Lift (te : DE) : TE := fun σ H Q => ∃ pn F E G k, St3 K B pn F H σ E G ∧ te E G k ∧
  ∀ r E' G', k r E' G' → ∀ v F' H', St3 K B pn F' H' σ E' G' → Same F F' → RepR K B pn F' H' σ E' G' r v → Q v H'
def LiftT (tt : DT) : TT := fun σ H Q => ∃ pn F E G k, St3 K B pn F H σ E G ∧ tt E G k ∧
  ∀ b E' G', k b E' G' → ∀ F' H', St3 K B pn F' H' σ E' G' → Same F F' → Q b H'
/-- arguments, frozen -/
def LiftA (ta : DA) : TA := fun σ H Q => ∃ pn F E G k, St3 K B pn F H σ E G ∧ ta E G k ∧
  ∀ ds E' G', k ds E' G' → ∀ vs F' H', St3 K B pn F' H' σ E' G' → Same F F' → RepL K F' ds vs → Q vs H'
/-- arguments, as they stand at the call -/
def LiftP (ta : DA) : TA := fun σ H Q => ∃ pn F E G k, St3 K B pn F H σ E G ∧ ta E G k ∧
  ∀ ds E' G', k ds E' G' → ∀ vs F' H', St3 K B pn F' H' σ E' G' → Same F F' → RepHL K F' H' ds vs → Q vs H'
end
section
variable (X : Cx) (B : Base3)
structure LE (e : Expr) (te : DE) : Prop where
  pe : PE X e (Lift X.K B te)
structure LT (e : Expr) (tt : DT) : Prop where
  pt : PT X e (LiftT X.K B tt)
/-- a test whatever its 'whole' is -/
structure LW (e : Expr) (tt : DT) : Prop where
  pw : PW X e (LiftT X.K B tt)
structure LA (es : List Expr) (ta : DA) : Prop where
  pa : PA X es (LiftA X.K B ta)
structure LP (es : List Expr) (ta : DA) : Prop where
  pa : PA X es (LiftP X.K B ta)
end
section
variable {X : Cx}
theorem pe_imp {e : Expr} {t t' : TE} (h : PE X e t) (hi : ∀ σ H Q, t' σ H Q → t σ H Q) : PE X e t' := ⟨fun pins s σ H Q I hw => h.run pins s σ H Q I (hi σ H Q hw)⟩
theorem pt_imp {e : Expr} {t t' : TT} (h : PT X e t) (hi : ∀ σ H Q, t' σ H Q → t σ H Q) : PT X e t' := ⟨fun pins s σ H Q I hw => h.run pins s σ H Q I (hi σ H Q hw)⟩
theorem pw_imp {e : Expr} {t t' : TT} (h : PW X e t) (hi : ∀ σ H Q, t' σ H Q → t σ H Q) : PW X e t' := ⟨fun wh pins s σ H Q I hw => h.run wh pins s σ H Q I (hi σ H Q hw)⟩
theorem pa_imp {e : List Expr} {t t' : TA} (h : PA X e t) (hi : ∀ σ H Q, t' σ H Q → t σ H Q) : PA X e t' := ⟨fun pos pins s σ H Q I hw => h.run pos pins s σ H Q I (hi σ H Q hw)⟩
theorem ps_imp {e : Stmt} {t t' : TS} (h : PS X e t) (hi : ∀ D σ H, t' D σ H → t D σ H) : PS X e t' := ⟨fun pins s σ H D I hw => h.run pins s σ H D I (hi D σ H hw)⟩
theorem pss_imp {e : List Stmt} {t t' : TS} (h : PSs X e t) (hi : ∀ D σ H, t' D σ H → t D σ H) : PSs X e t' := ⟨fun pins s σ H D I hw => h.run pins s σ H D I (hi D σ H hw)⟩
end

/-! ### names, constants -/
def dVar (i : Nat) : DE := fun E G k => match E[i]? with
  | some (Sl3.val d) => k (.val d) E G
  | some (Sl3.own _) => k (.sl i) E G
  | some (Sl3.ownD _) => k (.sl i) E G
  | _ => False
def dC (d : D) : DE := fun E G k => k (.val d) E G
section
variable {X : Cx} {B : Base3}
theorem le_pv {i : Nat} {e : Expr} (h : PE X e (tVar i)) : LE X B e (dVar i) := ⟨pe_imp h fun σ H Q ⟨pn, F, E, G, k, S, ht, hk⟩ => by
  unfold dVar at ht
  split at ht
  · rename_i d q
    obtain ⟨v, h1, h2⟩ := S.slot i d q
    exact ⟨v, h1, hk _ _ _ ht v F H S (Same.refl F) h2⟩
  · rename_i ds q
    obtain ⟨a, h1, h2⟩ := S.own i _ _ q rfl
    exact ⟨_, h1, hk _ _ _ ht _ F H S (Same.refl F) h1⟩
  · rename_i d q
    obtain ⟨a, h1, h2⟩ := S.own i _ _ q rfl
    exact ⟨_, h1, hk _ _ _ ht _ F H S (Same.refl F) h1⟩
  · exact ht.elim⟩
theorem le_c {d : D} {v : V} {e : Expr} (h : PE X e (tC v)) (r : ∀ F, Rep X.K F d v) : LE X B e (dC d) := ⟨pe_imp h fun σ H Q ⟨pn, F, E, G, k, S, ht, hk⟩ =>
  hk _ _ _ ht v F H S (Same.refl F) (r F)⟩
theorem le_int {i j pos} : LE X B (.Constant (.int i) j pos) (dC (.int i)) := le_c pe_int fun _ => .int i
theorem le_bl {b j pos} : LE X B (.Constant (.bool b) j pos) (dC (.bl b)) := le_c pe_bl fun _ => .bl b
theorem le_non {j pos} : LE X B (.Constant .none j pos) (dC .non) := le_c pe_non fun _ => .non
theorem le_str {x j pos} : LE X B (.Constant (.str x) j pos) (dC (.str x)) := le_c pe_str fun _ => .str x
end

/-! ### operators -/
/-- what an operator's reading makes of plain operands -/
def ROp (X : Cx) (B : Base3) (r : R2) (rd : Reg → D → D → (Res → Prop) → Prop) : Prop :=
  ∀ pn F H σ E G x y d e k Q, St3 X.K B pn F H σ E G → RepH X.K F H d x → RepH X.K F H e y → rd G d e k →
    (∀ res, k res → ∀ v F' H', St3 X.K B pn F' H' σ E G → Same F F' → RepR X.K B pn F' H' σ E G res v → Q v H') → r x y H Q
def dOp (rd : Reg → D → D → (Res → Prop) → Prop) (ta tb : DE) : DE := fun E G k => ta E G fun x E1 G1 => tb E1 G1 fun y E2 G2 =>
  ∃ d, x.fz.get E2 = some d ∧ ∃ e, y.get E2 = some e ∧ rd G2 d e fun r => k r E2 G2
section
variable {X : Cx} {B : Base3}
/-- two operands -/
theorem two {ta tb : DE} {σ : L2.St} {H : Hp} {Q : VK} {r : R2} {rd : Reg → D → D → (Res → Prop) → Prop} (hr : ROp X B r rd) (h : Lift X.K B (dOp rd ta tb) σ H Q) : tOp r (Lift X.K B ta) (Lift X.K B tb) σ H Q := by
  obtain ⟨pn, F, E, G, k, S, ht, hk⟩ := h
  refine ⟨pn, F, E, G, _, S, ht, fun x E1 G1 h1 v F1 H1 S1 s1 r1 => ?_⟩
  obtain ⟨F1', S1', s1', r1'⟩ := S1.fz r1
  refine ⟨pn, F1', E1, G1, _, S1', h1, fun y E2 G2 h2 u F2 H2 S2 s2 r2 => ?_⟩
  obtain ⟨d, hd, e, he, h3⟩ := h2
  refine hr pn F2 H2 σ E2 G2 v u d e _ Q S2 (S2.getH (r1'.onward s2) hd) (S2.getH r2 he) h3 fun res hres z F' H' S' s' rr => ?_
  exact hk _ _ _ hres z F' H' S' ((s1.trans s1').trans (s2.trans s')) rr
theorem le_op {op : Operator} {r : R2} {rd : Reg → D → D → (Res → Prop) → Prop} {a b : Expr} {ta tb : DE} {pos : Pos} (ho : OpR X (binaryOp op) r) (hr : ROp X B r rd) (ha : LE X B a ta) (hb : LE X B b tb) : LE X B (.BinOp a op b pos) (dOp rd ta tb) :=
  ⟨pe_imp (pe_op ho ha.pe hb.pe) fun _ _ _ h => two hr h⟩
theorem le_cmp {op : CmpOp} {r : R2} {rd : Reg → D → D → (Res → Prop) → Prop} {a b : Expr} {ta tb : DE} {pos : Pos} (ho : OpR X (compareOp op) r) (hr : ROp X B r rd) (ha : LE X B a ta) (hb : LE X B b tb) (hm : behindInMarks op b = false) : LE X B (.Compare a [op] [b] pos) (dOp rd ta tb) :=
  ⟨pe_imp (pe_cmpR ho ha.pe hb.pe hm) fun _ _ _ h => two hr h⟩
theorem le_ix {r : R2} {rd : Reg → D → D → (Res → Prop) → Prop} {a b : Expr} {ta tb : DE} {pos : Pos} (ho : IxR X r) (hr : ROp X B r rd) (ha : LE X B a ta) (hb : LE X B b tb) (hs : PlainIx b) : LE X B (.Subscript a b pos) (dOp rd ta tb) :=
  ⟨pe_imp (pe_ix ho ha.pe hb.pe hs) fun _ _ _ h => two hr h⟩

/-! ### tests -/
def dTest (te : DE) : DT := fun E G k => te E G fun r E1 G1 => ∃ b, r = .val (.bl b) ∧ k b E1 G1
theorem lt_val {e : Expr} {te : DE} (h : LE X B e te) (he : ∀ whole, isTrue e X.env whole = (do let v ← whole; standAt e.pos; holding [v] (truthy v)) := by intro _; rfl) : LT X B e (dTest te) :=
  ⟨pt_imp (pt_val h.pe he) fun σ H Q ⟨pn, F, E, G, k, S, ht, hk⟩ => ⟨pn, F, E, G, _, S, ht, fun r E1 G1 ⟨b, e1, h1⟩ v F1 H1 S1 s1 r1 => by
    subst e1
    cases r1
    exact ⟨b, rfl, hk _ _ _ h1 F1 H1 S1 s1⟩⟩⟩
theorem lt_cmp {op : CmpOp} {r : R2} {rd : Reg → D → D → (Res → Prop) → Prop} {a b : Expr} {ta tb : DE} {pos : Pos} (ho : OpR X (compareOp op) r) (hr : ROp X B r rd) (ha : LE X B a ta) (hb : LE X B b tb) (hm : behindInMarks op b = false) : LT X B (.Compare a [op] [b] pos) (dTest (dOp rd ta tb)) :=
  ⟨pt_imp (pt_cmpR ho ha.pe hb.pe hm) fun σ H Q ⟨pn, F, E, G, k, S, ht, hk⟩ => by
    refine two (Q := fun x H' => ∃ k, x = .bl k ∧ Q k H') hr ⟨pn, F, E, G, _, S, ht, fun r E1 G1 ⟨b, e1, h1⟩ v F1 H1 S1 s1 r1 => ?_⟩
    subst e1
    cases r1
    exact ⟨b, rfl, hk _ _ _ h1 F1 H1 S1 s1⟩⟩
def dNot (t : DT) : DT := fun E G k => t E G fun b E1 G1 => k (!b) E1 G1
def dAnd (t u : DT) : DT := fun E G k => t E G fun b E1 G1 => if b = true then u E1 G1 k else k false E1 G1
def dOr (t u : DT) : DT := fun E G k => t E G fun b E1 G1 => if b = true then k true E1 G1 else u E1 G1 k
theorem LW.lt {e : Expr} {t : DT} (h : LW X B e t) : LT X B e t := ⟨h.pw.pt⟩
theorem lt_not {a : Expr} {t : DT} {pos : Pos} (ha : LT X B a t) : LT X B (.UnaryOp .Not a pos) (dNot t) :=
  ⟨pt_imp (pt_not ha.pt) fun σ H Q ⟨pn, F, E, G, k, S, ht, hk⟩ => ⟨pn, F, E, G, _, S, ht, fun b E1 G1 h1 F1 H1 S1 s1 => hk _ _ _ h1 F1 H1 S1 s1⟩⟩
theorem lw_and1 {a : Expr} {t : DT} {pos : Pos} (ha : LT X B a t) : LW X B (.BoolOp .And [a] pos) t := ⟨pw_and1 ha.pt⟩
theorem lw_or1 {a : Expr} {t : DT} {pos : Pos} (ha : LT X B a t) : LW X B (.BoolOp .Or [a] pos) t := ⟨pw_or1 ha.pt⟩
theorem lw_and {a b : Expr} {rest : List Expr} {t u : DT} {pos : Pos} (ha : LT X B a t) (hb : LW X B (.BoolOp .And (b :: rest) pos) u) : LW X B (.BoolOp .And (a :: b :: rest) pos) (dAnd t u) :=
  ⟨pw_imp (pw_and ha.pt hb.pw) fun σ H Q ⟨pn, F, E, G, k, S, ht, hk⟩ => ⟨pn, F, E, G, _, S, ht, fun b E1 G1 h1 F1 H1 S1 s1 => by
    cases b with
    | true => exact ⟨pn, F1, E1, G1, k, S1, h1, fun b' E2 G2 h2 F2 H2 S2 s2 => hk _ _ _ h2 F2 H2 S2 (s1.trans s2)⟩
    | false => exact hk _ _ _ h1 F1 H1 S1 s1⟩⟩
theorem lw_or {a b : Expr} {rest : List Expr} {t u : DT} {pos : Pos} (ha : LT X B a t) (hb : LW X B (.BoolOp .Or (b :: rest) pos) u) : LW X B (.BoolOp .Or (a :: b :: rest) pos) (dOr t u) :=
  ⟨pw_imp (pw_or ha.pt hb.pw) fun σ H Q ⟨pn, F, E, G, k, S, ht, hk⟩ => ⟨pn, F, E, G, _, S, ht, fun b E1 G1 h1 F1 H1 S1 s1 => by
    cases b with
    | true => exact hk _ _ _ h1 F1 H1 S1 s1
    | false => exact ⟨pn, F1, E1, G1, k, S1, h1, fun b' E2 G2 h2 F2 H2 S2 s2 => hk _ _ _ h2 F2 H2 S2 (s1.trans s2)⟩⟩⟩
/-- .. as values -/
def dAndV (ta tb : DE) : DE := fun E G k => ta E G fun r E1 G1 => ∃ b, r = .val (.bl b) ∧ if b = true then tb E1 G1 k else k (.val (.bl false)) E1 G1
def dOrV (ta tb : DE) : DE := fun E G k => ta E G fun r E1 G1 => ∃ b, r = .val (.bl b) ∧ if b = true then k (.val (.bl true)) E1 G1 else tb E1 G1 k
def dNotV (ta : DE) : DE := fun E G k => ta E G fun r E1 G1 => ∃ b, r = .val (.bl b) ∧ k (.val (.bl (!b))) E1 G1
theorem le_one {op} {a : Expr} {t : DE} {pos : Pos} (h : LE X B a t) : LE X B (.BoolOp op [a] pos) t := ⟨pe_one h.pe⟩
theorem le_and {a b : Expr} {rest : List Expr} {ta tb : DE} {pos : Pos} (ha : LE X B a ta) (hb : LE X B (.BoolOp .And (b :: rest) pos) tb) : LE X B (.BoolOp .And (a :: b :: rest) pos) (dAndV ta tb) :=
  ⟨pe_imp (pe_and ha.pe hb.pe) fun σ H Q ⟨pn, F, E, G, k, S, ht, hk⟩ => ⟨pn, F, E, G, _, S, ht, fun r E1 G1 ⟨b, e1, h1⟩ v F1 H1 S1 s1 r1 => by
    subst e1
    cases r1
    refine ⟨b, rfl, ?_⟩
    cases b with
    | true => exact ⟨pn, F1, E1, G1, k, S1, h1, fun b' E2 G2 h2 v F2 H2 S2 s2 r2 => hk _ _ _ h2 v F2 H2 S2 (s1.trans s2) r2⟩
    | false => exact hk _ _ _ h1 _ F1 H1 S1 s1 (.bl false)⟩⟩
theorem le_or {a b : Expr} {rest : List Expr} {ta tb : DE} {pos : Pos} (ha : LE X B a ta) (hb : LE X B (.BoolOp .Or (b :: rest) pos) tb) : LE X B (.BoolOp .Or (a :: b :: rest) pos) (dOrV ta tb) :=
  ⟨pe_imp (pe_or ha.pe hb.pe) fun σ H Q ⟨pn, F, E, G, k, S, ht, hk⟩ => ⟨pn, F, E, G, _, S, ht, fun r E1 G1 ⟨b, e1, h1⟩ v F1 H1 S1 s1 r1 => by
    subst e1
    cases r1
    refine ⟨b, rfl, ?_⟩
    cases b with
    | true => exact hk _ _ _ h1 _ F1 H1 S1 s1 (.bl true)
    | false => exact ⟨pn, F1, E1, G1, k, S1, h1, fun b' E2 G2 h2 v F2 H2 S2 s2 r2 => hk _ _ _ h2 v F2 H2 S2 (s1.trans s2) r2⟩⟩⟩
theorem le_not {a : Expr} {ta : DE} {pos : Pos} (ha : LE X B a ta) : LE X B (.UnaryOp .Not a pos) (dNotV ta) :=
  ⟨pe_imp (pe_not ha.pe) fun σ H Q ⟨pn, F, E, G, k, S, ht, hk⟩ => ⟨pn, F, E, G, _, S, ht, fun r E1 G1 ⟨b, e1, h1⟩ v F1 H1 S1 s1 r1 => by
    subst e1
    cases r1
    exact ⟨b, rfl, hk _ _ _ h1 _ F1 H1 S1 s1 (.bl (!b))⟩⟩⟩
def dIf (t : DT) (ta tb : DE) : DE := fun E G k => t E G fun b E1 G1 => if b = true then ta E1 G1 k else tb E1 G1 k
theorem le_ifExp {c a b : Expr} {t : DT} {ta tb : DE} {pos : Pos} (hc : LT X B c t) (ha : LE X B a ta) (hb : LE X B b tb) : LE X B (.IfExp c a b pos) (dIf t ta tb) :=
  ⟨pe_imp (pe_ifExp hc.pt ha.pe hb.pe) fun σ H Q ⟨pn, F, E, G, k, S, ht, hk⟩ => ⟨pn, F, E, G, _, S, ht, fun b E1 G1 h1 F1 H1 S1 s1 => by
    cases b with
    | true => exact ⟨pn, F1, E1, G1, k, S1, h1, fun b' E2 G2 h2 v F2 H2 S2 s2 r2 => hk _ _ _ h2 v F2 H2 S2 (s1.trans s2) r2⟩
    | false => exact ⟨pn, F1, E1, G1, k, S1, h1, fun b' E2 G2 h2 v F2 H2 S2 s2 r2 => hk _ _ _ h2 v F2 H2 S2 (s1.trans s2) r2⟩⟩⟩
/-- unary -/
def RUn (X : Cx) (B : Base3) (r : V → Hp → VK → Prop) (rd : D → (Res → Prop) → Prop) : Prop :=
  ∀ pn F H σ E G x d k Q, St3 X.K B pn F H σ E G → RepH X.K F H d x → rd d k →
    (∀ res, k res → ∀ v F' H', St3 X.K B pn F' H' σ E G → Same F F' → RepR X.K B pn F' H' σ E G res v → Q v H') → r x H Q
def dUn (rd : D → (Res → Prop) → Prop) (ta : DE) : DE := fun E G k => ta E G fun x E1 G1 => ∃ d, x.get E1 = some d ∧ rd d fun r => k r E1 G1
theorem le_un {op : UnaryOp} {r : V → Hp → VK → Prop} {rd : D → (Res → Prop) → Prop} {a : Expr} {ta : DE} {pos : Pos} (ho : UnR X (unaryOp op) r) (hr : RUn X B r rd) (ha : LE X B a ta) : LE X B (.UnaryOp op a pos) (dUn rd ta) :=
  ⟨pe_imp (pe_un ho ha.pe) fun σ H Q ⟨pn, F, E, G, k, S, ht, hk⟩ => ⟨pn, F, E, G, _, S, ht, fun x E1 G1 ⟨d, hd, h1⟩ v F1 H1 S1 s1 r1 =>
    hr pn F1 H1 σ E1 G1 v d _ Q S1 (S1.getH r1 hd) h1 fun res hres u F2 H2 S2 s2 r2 => hk _ _ _ hres u F2 H2 S2 (s1.trans s2) r2⟩⟩
/-- a < b < c -/
def dChain (rd rd' : Reg → D → D → (Res → Prop) → Prop) (ta tb tc : DE) : DE := fun E G k => ta E G fun x E1 G1 => tb E1 G1 fun y E2 G2 =>
  ∃ d, x.fz.get E2 = some d ∧ ∃ e, y.fz.get E2 = some e ∧ rd G2 d e fun r => ∃ b, r = .val (.bl b) ∧
    if b = true then tc E2 G2 fun z E3 G3 => ∃ e', y.fz.get E3 = some e' ∧ ∃ f, z.get E3 = some f ∧ rd' G3 e' f fun r => k r E3 G3 else k (.val (.bl false)) E2 G2
end
end L3

set_option Elab.async false
set_option maxRecDepth 100000
set_option maxHeartbeats 4000000
/-! L3, part c: chains, arguments, displays, slices, calls, statements, loops, comprehensions, defs. -/
namespace L3
open PySem PySem.Spec PyProof.Rows L2

section
variable {X : Cx} {B : Base3}
/-- two comparisons in a row -/
theorem chain3 {ta tb tc : DE} {σ : L2.St} {H : Hp} {Q : VK} {r r' : R2} {rd rd' : Reg → D → D → (Res → Prop) → Prop} (hr : ROp X B r rd) (hr' : ROp X B r' rd') (h : Lift X.K B (dChain rd rd' ta tb tc) σ H Q) :
    tChain r r' (Lift X.K B ta) (Lift X.K B tb) (Lift X.K B tc) σ H Q := by
  obtain ⟨pn, F, E, G, k, S, ht, hk⟩ := h
  refine ⟨pn, F, E, G, _, S, ht, fun x E1 G1 h1 v F1 H1 S1 s1 r1 => ?_⟩
  obtain ⟨F1', S1', s1', r1'⟩ := S1.fz r1
  refine ⟨pn, F1', E1, G1, _, S1', h1, fun y E2 G2 h2 u F2 H2 S2 s2 r2 => ?_⟩
  obtain ⟨F2', S2', s2', r2'⟩ := S2.fz r2
  obtain ⟨d, hd, e, he, h3⟩ := h2
  refine hr pn F2' H2 σ E2 G2 v u d e _ _ S2' (S2'.getH (r1'.onward (s2.trans s2')) hd) (S2'.getH r2' he) h3 fun res hres z F' H' S' s' rr => ?_
  obtain ⟨b, e1, h4⟩ := hres
  subst e1
  cases rr
  refine ⟨b, rfl, ?_⟩
  cases b with
  | false => exact hk _ _ _ h4 _ F' H' S' (((s1.trans s1').trans (s2.trans s2')).trans s') (.bl false)
  | true =>
    refine ⟨pn, F', E2, G2, _, S', h4, fun w E3 G3 h5 q F3 H3 S3 s3 r3 => ?_⟩
    obtain ⟨e', he', f, hf, h6⟩ := h5
    refine hr' pn F3 H3 σ E3 G3 u q e' f _ Q S3 (S3.getH (r2'.onward (s'.trans s3)) he') (S3.getH r3 hf) h6 fun res hres z F5 H5 S5 s5 rr => ?_
    exact hk _ _ _ hres z F5 H5 S5 ((((s1.trans s1').trans (s2.trans s2')).trans s').trans (s3.trans s5)) rr
theorem le_chain {op op' : CmpOp} {r r' : R2} {rd rd' : Reg → D → D → (Res → Prop) → Prop} {a b c : Expr} {ta tb tc : DE} {pos : Pos} (ho : OpR X (compareOp op) r) (hr : ROp X B r rd) (ho' : OpR X (compareOp op') r') (hr' : ROp X B r' rd') (ha : LE X B a ta) (hb : LE X B b tb) (hc : LE X B c tc)
    (hm : lastMarks [op, op'] [b, c] = false := by with_unfolding_all rfl) : LE X B (.Compare a [op, op'] [b, c] pos) (dChain rd rd' ta tb tc) :=
  ⟨pe_imp (pe_chain ho ho' ha.pe hb.pe hc.pe hm) fun _ _ _ h => chain3 hr hr' h⟩
theorem lt_chain {op op' : CmpOp} {r r' : R2} {rd rd' : Reg → D → D → (Res → Prop) → Prop} {a b c : Expr} {ta tb tc : DE} {pos : Pos} (ho : OpR X (compareOp op) r) (hr : ROp X B r rd) (ho' : OpR X (compareOp op') r') (hr' : ROp X B r' rd') (ha : LE X B a ta) (hb : LE X B b tb) (hc : LE X B c tc)
    (hm : lastMarks [op, op'] [b, c] = false := by with_unfolding_all rfl) : LT X B (.Compare a [op, op'] [b, c] pos) (dTest (dChain rd rd' ta tb tc)) :=
  ⟨pt_imp (pt_chain ho ho' ha.pe hb.pe hc.pe hm) fun σ H Q ⟨pn, F, E, G, k, S, ht, hk⟩ => by
    refine chain3 (Q := fun x H' => ∃ k, x = .bl k ∧ Q k H') hr hr' ⟨pn, F, E, G, _, S, ht, fun r E1 G1 ⟨b, e1, h1⟩ v F1 H1 S1 s1 r1 => ?_⟩
    subst e1
    cases r1
    exact ⟨b, rfl, hk _ _ _ h1 F1 H1 S1 s1⟩⟩

/-! ### arguments -/
def dNil : DA := fun E G k => k [] E G
def dCons (ta : DE) (tr : DA) : DA := fun E G k => ta E G fun x E1 G1 => ∃ d E2, x.ice E1 = some (d, E2) ∧ tr E2 G1 fun ds E3 G3 => k (d :: ds) E3 G3
def dPCons (ta : DE) (tr : DA) : DA := fun E G k => ta E G fun x E1 G1 => tr E1 G1 fun ds E3 G3 => ∃ d, x.fz.get E3 = some d ∧ k (d :: ds) E3 G3
theorem la_nil : LA X B [] dNil := ⟨pa_imp pa_nil fun σ H Q ⟨pn, F, E, G, k, S, ht, hk⟩ => hk _ _ _ ht _ F H S (Same.refl F) .nil⟩
theorem lp_nil : LP X B [] dNil := ⟨pa_imp pa_nil fun σ H Q ⟨pn, F, E, G, k, S, ht, hk⟩ => hk _ _ _ ht _ F H S (Same.refl F) .nil⟩
theorem la_cons {e : Expr} {es : List Expr} {ta : DE} {tr : DA} (ha : LE X B e ta) (hr : LA X B es tr) (hs : starEach (e :: es) X.env = (false, eval e X.env) :: starEach es X.env := by rfl) : LA X B (e :: es) (dCons ta tr) :=
  ⟨pa_imp (pa_cons ha.pe hr.pa hs) fun σ H Q ⟨pn, F, E, G, k, S, ht, hk⟩ => ⟨pn, F, E, G, _, S, ht, fun x E1 G1 ⟨d, E2, h0, h1⟩ v F1 H1 S1 s1 r1 => by
    obtain ⟨F1', S1', s1', r1'⟩ := S1.ice r1 h0
    exact ⟨pn, F1', E2, G1, _, S1', h1, fun ds E3 G3 h3 vs F3 H3 S3 s3 r3 => hk _ _ _ h3 _ F3 H3 S3 ((s1.trans s1').trans s3) (.cons (Rep.mono s3 _ _ r1') r3)⟩⟩⟩
theorem lp_cons {e : Expr} {es : List Expr} {ta : DE} {tr : DA} (ha : LE X B e ta) (hr : LP X B es tr) (hs : starEach (e :: es) X.env = (false, eval e X.env) :: starEach es X.env := by rfl) : LP X B (e :: es) (dPCons ta tr) :=
  ⟨pa_imp (pa_cons ha.pe hr.pa hs) fun σ H Q ⟨pn, F, E, G, k, S, ht, hk⟩ => ⟨pn, F, E, G, _, S, ht, fun x E1 G1 h1 v F1 H1 S1 s1 r1 => by
    obtain ⟨F1', S1', s1', r1'⟩ := S1.fz r1
    exact ⟨pn, F1', E1, G1, _, S1', h1, fun ds E3 G3 ⟨d, hd, h3⟩ vs F3 H3 S3 s3 r3 => hk _ _ _ h3 _ F3 H3 S3 ((s1.trans s1').trans s3) (.cons (S3.getH (r1'.onward s3) hd) r3)⟩⟩⟩

/-! ### displays -/
def dTup (ta : DA) : DE := fun E G k => ta E G fun ds E1 G1 => ds.length ≤ sizeLine ∧ k (.val (.tup ds)) E1 G1
def dLst (ta : DA) : DE := fun E G k => ta E G fun ds E1 G1 => ds.length ≤ sizeLine ∧ k (.fr ds) E1 G1
theorem le_tup {es : List Expr} {ta : DA} {x1 pos} (h : LA X B es ta) : LE X B (.Tuple es x1 pos) (dTup ta) :=
  ⟨pe_imp (pe_tup h.pa) fun σ H Q ⟨pn, F, E, G, k, S, ht, hk⟩ => ⟨pn, F, E, G, _, S, ht, fun ds E1 G1 ⟨hz, h1⟩ vs F1 H1 S1 s1 r1 => by
    refine ⟨by rw [← r1.length]; exact hz, fun p np => ?_⟩
    obtain ⟨S2, s2⟩ := S1.newF (o := .tup vs) np
    exact hk _ _ _ h1 _ _ _ S2 (s1.trans s2) (.tup upd_same (RepL.mono s2 _ _ r1))⟩⟩
theorem le_lst {es : List Expr} {ta : DA} {pos} (h : LA X B es ta) : LE X B (.List es pos) (dLst ta) :=
  ⟨pe_imp (pe_lst h.pa) fun σ H Q ⟨pn, F, E, G, k, S, ht, hk⟩ => ⟨pn, F, E, G, _, S, ht, fun ds E1 G1 ⟨hz, h1⟩ vs F1 H1 S1 s1 r1 => by
    refine ⟨by rw [← r1.length]; exact hz, fun p np => ?_⟩
    obtain ⟨f, no⟩ := S1.newFre np r1
    exact hk _ _ _ h1 _ _ _ (S1.newU np) s1 ⟨p, rfl, f, no⟩⟩⟩

/-! ### slices -/
abbrev DO := Env3 → Reg → (Option Int → Env3 → Reg → Prop) → Prop
def LiftO (K : PySem.W.Frag) (B : Base3) (t : DO) : TO := fun σ H Q => ∃ pn F E G k, St3 K B pn F H σ E G ∧ t E G k ∧ ∀ o E' G', k o E' G' → ∀ F' H', St3 K B pn F' H' σ E' G' → Same F F' → Q o H'
structure LO (X : Cx) (B : Base3) (e : Option Expr) (t : DO) : Prop where
  po : PO X e (LiftO X.K B t)
theorem po_imp {e : Option Expr} {t t' : TO} (h : PO X e t) (hi : ∀ σ H Q, t' σ H Q → t σ H Q) : PO X e t' := ⟨fun pins s σ H Q I hw => h.run pins s σ H Q I (hi σ H Q hw)⟩
def dNoPart : DO := fun E G k => k none E G
def dPart (ta : DE) : DO := fun E G k => ta E G fun r E1 G1 => ∃ i, r = .val (.int i) ∧ k (some i) E1 G1
theorem lo_none : LO X B none dNoPart := ⟨po_imp po_none fun σ H Q ⟨pn, F, E, G, k, S, ht, hk⟩ => hk _ _ _ ht F H S (Same.refl F)⟩
theorem lo_some {e : Expr} {te : DE} (h : LE X B e te) : LO X B (some e) (dPart te) :=
  ⟨po_imp (po_some h.pe) fun σ H Q ⟨pn, F, E, G, k, S, ht, hk⟩ => ⟨pn, F, E, G, _, S, ht, fun r E1 G1 ⟨i, e1, h1⟩ v F1 H1 S1 s1 r1 => by
    subst e1
    cases r1
    exact ⟨i, rfl, hk _ _ _ h1 F1 H1 S1 s1⟩⟩⟩
def RSl3 (X : Cx) (B : Base3) (r : V → Option Int → Option Int → Hp → VK → Prop) (rd : D → Option Int → Option Int → (Res → Prop) → Prop) : Prop :=
  ∀ pn F H σ E G x d lo hi k Q, St3 X.K B pn F H σ E G → RepH X.K F H d x → rd d lo hi k →
    (∀ res, k res → ∀ v F' H', St3 X.K B pn F' H' σ E G → Same F F' → RepR X.K B pn F' H' σ E G res v → Q v H') → r x lo hi H Q
def dSl (rd : D → Option Int → Option Int → (Res → Prop) → Prop) (te : DE) (tl th : DO) : DE := fun E G k => te E G fun x E1 G1 => tl E1 G1 fun lo E2 G2 => th E2 G2 fun hi E3 G3 =>
  ∃ d, x.fz.get E3 = some d ∧ rd d lo hi fun r => k r E3 G3
theorem le_slice {r : V → Option Int → Option Int → Hp → VK → Prop} {rd : D → Option Int → Option Int → (Res → Prop) → Prop} {e : Expr} {lo hi : Option Expr} {te : DE} {tl th : DO} {p2 pos : Pos} (ho : SlR X r) (hr : RSl3 X B r rd) (he : LE X B e te) (hl : LO X B lo tl) (hh : LO X B hi th) :
    LE X B (.Subscript e (.Slice lo hi none p2) pos) (dSl rd te tl th) :=
  ⟨pe_imp (pe_slice ho he.pe hl.po hh.po) fun σ H Q ⟨pn, F, E, G, k, S, ht, hk⟩ => ⟨pn, F, E, G, _, S, ht, fun x E1 G1 h1 v F1 H1 S1 s1 r1 => by
    obtain ⟨F1', S1', s1', r1'⟩ := S1.fz r1
    refine ⟨pn, F1', E1, G1, _, S1', h1, fun lo E2 G2 h2 F2 H2 S2 s2 => ?_⟩
    refine ⟨pn, F2, E2, G2, _, S2, h2, fun hi E3 G3 h3 F3 H3 S3 s3 => ?_⟩
    obtain ⟨d, hd, h4⟩ := h3
    exact hr pn F3 H3 σ E3 G3 v d lo hi _ Q S3 (S3.getH (r1'.onward (s2.trans s3)) hd) h4 fun res hres u F4 H4 S4 s4 r4 => hk _ _ _ hres u F4 H4 S4 ((s1.trans s1').trans ((s2.trans s3).trans s4)) r4⟩⟩

/-! ### calls of built-ins -/
def RCall (X : Cx) (B : Base3) (r : List V → Hp → VK → Prop) (rd : Reg → List D → (Res → Prop) → Prop) : Prop :=
  ∀ pn F H σ E G vs ds k Q, St3 X.K B pn F H σ E G → RepHL X.K F H ds vs → rd G ds k →
    (∀ res, k res → ∀ v F' H', St3 X.K B pn F' H' σ E G → Same F F' → RepR X.K B pn F' H' σ E G res v → Q v H') → r vs H Q
def dCB (rd : Reg → List D → (Res → Prop) → Prop) (ta : DA) : DE := fun E G k => ta E G fun ds E1 G1 => rd G1 ds fun r => k r E1 G1
theorem le_cb {r : List V → Hp → VK → Prop} {rd : Reg → List D → (Res → Prop) → Prop} {es : List Expr} {e : Expr} {ta : DA} (h : PE X e (tCB r (LiftP X.K B ta))) (hr : RCall X B r rd) : LE X B e (dCB rd ta) :=
  ⟨pe_imp h fun σ H Q ⟨pn, F, E, G, k, S, ht, hk⟩ => ⟨pn, F, E, G, _, S, ht, fun ds E1 G1 h1 vs F1 H1 S1 s1 r1 =>
    hr pn F1 H1 σ E1 G1 vs ds _ Q S1 r1 h1 fun res hres u F4 H4 S4 s4 r4 => hk _ _ _ hres u F4 H4 S4 (s1.trans s4) r4⟩⟩
theorem le_callB {r : List V → Hp → VK → Prop} {rd : Reg → List D → (Res → Prop) → Prop} {x : Str} {id : String} {e : Expr} {es : List Expr} {ta : DA} {p pos : Pos} (hc : CallR X (.builtin id) r) (hr : RCall X B r rd) (hg : Gl X x) (hm : X.mg x = none) (hv : bootBuiltins x = some (.builtin id)) (ha : LP X B (e :: es) ta) (hn : x ≠ "__name__" := by decide) (hdb : (x == ("__debug__" : Str)) = false := by decide)
    (he : starEach (e :: es) X.env = (false, eval e X.env) :: starEach es X.env := by rfl) (hpl : (backTo pos (starEach es X.env)).any (·.1) = false := by rfl) : LE X B (.Call (.Name x p) (e :: es) [] pos) (dCB rd ta) :=
  le_cb (es := es) (pe_callB hc hg hm hv ha.pa hn hdb he hpl) hr
theorem le_callTy {r : List V → Hp → VK → Prop} {rd : Reg → List D → (Res → Prop) → Prop} {x : Str} {T : String} {e : Expr} {es : List Expr} {ta : DA} {p pos : Pos} (hc : CallR X (.type T) r) (hr : RCall X B r rd) (hg : Gl X x) (hm : X.mg x = none) (hv : bootBuiltins x = some (.type T)) (ha : LP X B (e :: es) ta) (hn : x ≠ "__name__" := by decide) (hdb : (x == ("__debug__" : Str)) = false := by decide)
    (he : starEach (e :: es) X.env = (false, eval e X.env) :: starEach es X.env := by rfl) (hpl : (backTo pos (starEach es X.env)).any (·.1) = false := by rfl) : LE X B (.Call (.Name x p) (e :: es) [] pos) (dCB rd ta) :=
  le_cb (es := es) (pe_callTy hc hg hm hv ha.pa hn hdb he hpl) hr
end

/-! ### promises -/
abbrev DSp := List D → Reg → (Res → Reg → Prop) → (Exc3 → Reg → Prop) → Prop
structure After (K : PySem.W.Frag) (F H : Hp) (G : Reg) (F' H' : Hp) (G' : Reg) : Prop where
  w : Wld K F' H' G'
  keepF : Same F F'
  keepH : ∀ (a : Addr) (o : HO), H a = some o → a ∉ G.map (·.1) → H' a = some o
  unfr : ∀ (a : Addr) (o : HO), H a = some o → isTp o = false → F a = none → F' a = none
  regs : ∀ a, a ∈ G'.map (·.1) → a ∈ G.map (·.1) ∨ H a = none
  regk : ∀ a, a ∈ G.map (·.1) → a ∈ G'.map (·.1)
/-- what comes back -/
def RetV (K : PySem.W.Frag) (H F' H' : Hp) (G' : Reg) : Res → V → Prop
  | .val d, v => Rep K F' d v
  | .fr ds, v => ∃ a xs, v = .ref a ∧ F' a = none ∧ H a = none ∧ a ∉ G'.map (·.1) ∧ H' a = some (.lst xs) ∧ RepL K F' ds xs
  | .frD d, v => ∃ a o, v = .ref a ∧ F' a = none ∧ H a = none ∧ a ∉ G'.map (·.1) ∧ H' a = some o ∧ RepB K F' d o
  | .sl _, _ => False
def RepX (K : PySem.W.Frag) (F : Hp) (x : Exc3) (cls : Value) (dd : Option Addr) : Prop := (∃ C, ClsN K x.1 C ∧ cls = .ref C) ∧ match x.2 with
  | none => True
  | some (f, d) => ∃ a v, dd = some a ∧ F a = some (.xd [(f, v)]) ∧ Rep K F d v
def LSp (K : PySem.W.Frag) (sp : DSp) : Sp := fun vs H Q E => ∃ F G ds k kx, Wld K F H G ∧ RepL K F ds vs ∧ sp ds G k kx ∧
  (∀ r G', k r G' → ∀ v F' H', After K F H G F' H' G' → RetV K H F' H' G' r v → Q v H') ∧
  (∀ x G', kx x G' → ∀ cls dd F' H', After K F H G F' H' G' → RepX K F' x cls dd → E cls dd H')
/-- what this frame wishes of an exception -/
def WOk (X : Cx) (B : Base3) (dw : DW) : Prop := ∃ W : WX, Takes X W ∧ ∀ pn F H σ E G x cls dd, St3 X.K B pn F H σ E G → RepX X.K F x cls dd → dw x E G → W cls dd σ H
/-- .. whatever the slots hold -/
def WOkF (X : Cx) (B : Base3) (dw : DW) : Prop := ∃ W : XK, Takes X (fun cls dd _ H => W cls dd H) ∧ ∀ pn F H σ E G x cls dd, St3 X.K B pn F H σ E G → RepX X.K F x cls dd → dw x E G → W cls dd H
theorem WOkF.ok {X : Cx} {B : Base3} {dw : DW} (h : WOkF X B dw) : WOk X B dw := by
  obtain ⟨W, tk, hW⟩ := h
  exact ⟨fun cls dd _ H => W cls dd H, tk, fun pn F H σ E G x cls dd S rx hx => hW pn F H σ E G x cls dd S rx hx⟩
/-- what was not there as the def began was not locked -/
def Lk (X : Cx) (B : Base3) : Prop := ∀ d, B.H d = none → ∀ o u, X.H_0 d ≠ some (.frz o u)
structure WOkL (X : Cx) (B : Base3) (dw : DW) : Prop where
  f : WOkF X B dw
  lk : Lk X B
theorem WOkL.ok {X : Cx} {B : Base3} {dw : DW} (h : WOkL X B dw) : WOk X B dw := h.f.ok
instance {X : Cx} {B : Base3} {dw : DW} : CoeOut (WOkL X B dw) (WOkF X B dw) := ⟨WOkL.f⟩
theorem lk_self {X : Cx} {F : Hp} {G : List Addr} {n : Addr} : Lk X ⟨F, X.H_0, G, n⟩ := fun d h o u e => by
  have h : X.H_0 d = none := h
  rw [h] at e; cases e
section
variable {X : Cx} {B : Base3}
theorem St3.wldAfter {K : PySem.W.Frag} {pn : Pend} {F H F' H' : Hp} {σ : L2.St} {E : Env3} {G G' : Reg} (S : St3 K B pn F H σ E G) (A : After K F H G F' H' G') : St3 K B pn F' H' σ E G' := by
  have hG : ∀ a o, B.H a = some o → a ∉ B.G → a ∉ G.map (·.1) := fun a o h hn hm => by
    rcases S.regs a hm with z | z
    · exact hn z
    · rw [h] at z; cases z
  have hHs : ∀ a o, B.H a = some o → isTp o = false → ∃ o', H a = some o' ∧ isTp o' = false := fun a o h ht => by
    by_cases hg : a ∈ B.G
    · obtain ⟨ds, hm⟩ := regMem (S.regk a hg)
      obtain ⟨_, o', h3, h4⟩ := S.w.reg a ds hm
      exact ⟨o', h3, h4.nt⟩
    · exact ⟨o, S.keepH a o h hg, ht⟩
  refine ⟨A.w, fun a o h => A.keepF a o (S.keepF a o h), fun a o h hn => A.keepH a o (S.keepH a o h hn) (hG a o h hn), fun a o h ht h2 => ?_, fun a h => ?_, fun a h => A.regk a (S.regk a h), S.len, fun i d h => ?_, fun i s d h ho => ?_, S.ownd, fun a xs h => ?_, S.pnd, fun nm fs h => (S.news nm fs h).mono A.keepF⟩
  · obtain ⟨o', e, ht'⟩ := hHs a o h ht
    exact A.unfr a o' e ht' (S.unfr a o h ht h2)
  · rcases A.regs a h with z | z
    · exact S.regs a z
    · exact .inr (S.baseNone z)
  · obtain ⟨v, h1, h2⟩ := S.slot i d h
    exact ⟨v, h1, Rep.mono A.keepF _ _ h2⟩
  · obtain ⟨a, h1, f⟩ := S.own i s d h ho
    obtain ⟨xs, e, r⟩ := f.ex
    refine ⟨a, h1, ⟨A.unfr a _ e r.dat.nt f.nF, f.nB, fun hm => ?_, f.nP, xs, A.keepH a _ e f.nG, RepB.mono A.keepF r⟩⟩
    rcases A.regs a hm with z | z
    · exact f.nG z
    · rw [e] at z; cases z
  · obtain ⟨h1, h2, h3, h4⟩ := S.pend a xs h
    refine ⟨A.keepH a _ h1 h4, A.unfr a _ h1 (S.pnd.2 _ h) h2, h3, fun hm => ?_⟩
    rcases A.regs a hm with z | z
    · exact h4 z
    · rw [h1] at z; cases z
/-- what a call gives, in the caller's eyes -/
theorem St3.retR {K : PySem.W.Frag} {pn : Pend} {F H F' H' : Hp} {σ : L2.St} {E : Env3} {G G' : Reg} (S : St3 K B pn F H σ E G) {r : Res} {v : V} (h : RetV K H F' H' G' r v) : RepR K B pn F' H' σ E G' r v := by
  cases r with
  | val d => exact h
  | sl i => exact h.elim
  | fr ds =>
    obtain ⟨a, xs, rfl, h1, h2, h3, h4, h5⟩ := h
    refine ⟨a, rfl, ⟨h1, S.baseNone h2, h3, fun hm => ?_, xs, h4, h5⟩, S.newNo h2⟩
    obtain ⟨q, hq, rfl⟩ := List.mem_map.mp hm
    have := (S.pend q.1 q.2 hq).1
    rw [h2] at this; cases this
  | frD d =>
    obtain ⟨a, o, rfl, h1, h2, h3, h4, h5⟩ := h
    refine ⟨a, rfl, ⟨h1, S.baseNone h2, h3, fun hm => ?_, o, h4, h5⟩, S.newNo h2⟩
    obtain ⟨q, hq, rfl⟩ := List.mem_map.mp hm
    have := (S.pend q.1 q.2 hq).1
    rw [h2] at this; cases this
def dCall (sp : DSp) (dw : DW) (ta : DA) : DE := fun E G k => ta E G fun ds E1 G1 => sp ds G1 (fun r G2 => k r E1 G2) (fun x G2 => dw x E1 G2)
theorem le_call {sp : DSp} {dw : DW} {ta : DA} {j : Nat} {f : Addr} {fd : FuncData} {ps : List Str} {x : Str} {p pos : Pos} {e : Expr} {es : List Expr} (Fn : FnOk X.prog X.w X.K X.mg X.base (L2.CX X.prog X.w) j f fd ps (LSp X.K sp)) (hr : Room j X.A) (wk : WOk X B dw) (hg : Gl X x) (hm : X.mg x = some (.ref f)) (hk : PySem.W.keepIn X.K (.ref f) = true) (hb : Binds X.K fd ps [])
    (ha : LA X B (e :: es) ta) (hdb : (x == ("__debug__" : Str)) = false := by decide) (he : starEach (e :: es) X.env = (false, eval e X.env) :: starEach es X.env := by rfl) (hpl : (backTo pos (starEach es X.env)).any (·.1) = false := by rfl) :
    LE X B (.Call (.Name x p) (e :: es) [] pos) (dCall sp dw ta) := by
  obtain ⟨W, tk, hW⟩ := wk
  refine ⟨pe_imp (pe_callS Fn hr hg hm hk hb (fun σ => passAt tk σ) ha.pa hdb he hpl) fun σ H Q ⟨pn, F, E, G, k, S, ht, hk⟩ => ⟨pn, F, E, G, _, S, ht, fun ds E1 G1 h1 vs F1 H1 S1 s1 r1 => ?_⟩⟩
  refine ⟨F1, G1, ds, _, _, S1.w, r1, h1, fun r G' h2 v F2 H2 A r2 => ?_, fun x G' h2 cls dd F2 H2 A r2 => ?_⟩
  · exact hk _ _ _ h2 v F2 H2 (S1.wldAfter A) (s1.trans A.keepF) (S1.retR r2)
  · exact hW pn F2 H2 σ E1 G' x cls dd (S1.wldAfter A) r2 h2
/-- no exception is wished for -/
def dw0 : DW := fun _ _ _ => False
theorem takesF {X : Cx} : Takes X (fun _ _ _ _ => False) := fun _ _ x => by
  obtain ⟨_, _, _, _, _, _, _, _, _, _, _, _, _, _, _, _, z⟩ := x
  exact z.elim
theorem wok0 : WOk X B dw0 := ⟨fun _ _ _ _ => False, takesF, fun _ _ _ _ _ _ _ _ _ _ _ h => h⟩
end
end L3

set_option Elab.async false
set_option maxRecDepth 100000
set_option maxHeartbeats 4000000
/-! L3, part d: statements, loops, comprehensions, defs. -/
namespace L3
open PySem PySem.Spec PyProof.Rows L2

structure Ends3 where
  nx : Env3 → Reg → Prop
  rt : Res → Reg → Prop
  bk : Env3 → Reg → Prop := fun _ _ => False
  ct : Env3 → Reg → Prop := fun _ _ => False
abbrev DSt := Ends3 → Env3 → Reg → Prop
def RetR (K : PySem.W.Frag) (B : Base3) (pn : Pend) (F H : Hp) (G : Reg) : Res → V → Prop
  | .val d, v => Rep K F d v
  | .fr ds, v => ∃ a, v = .ref a ∧ Fre K B pn F H G a ds
  | .frD d, v => ∃ a, v = .ref a ∧ FreX K B pn F H G a d
  | .sl _, _ => False
structure EndsOk (K : PySem.W.Frag) (B : Base3) (F : Hp) (D3 : Ends3) (D : Ends) : Prop where
  nx : ∀ {pn : Pend} E' G', D3.nx E' G' → ∀ σ' F' H', St3 K B pn F' H' σ' E' G' → Same F F' → D.nx σ' H'
  rt : ∀ {pn : Pend} r G', D3.rt r G' → ∀ v F' H' σ' E', St3 K B pn F' H' σ' E' G' → Same F F' → RetR K B pn F' H' G' r v → D.rt v H'
  bk : ∀ {pn : Pend} E' G', D3.bk E' G' → ∀ σ' F' H', St3 K B pn F' H' σ' E' G' → Same F F' → D.bk σ' H'
  ct : ∀ {pn : Pend} E' G', D3.ct E' G' → ∀ σ' F' H', St3 K B pn F' H' σ' E' G' → Same F F' → D.ct σ' H'
theorem EndsOk.mono {K : PySem.W.Frag} {B : Base3} {F F' : Hp} {D3 : Ends3} {D : Ends} (h : EndsOk K B F D3 D) (s : Same F F') : EndsOk K B F' D3 D :=
  ⟨fun E' G' q σ' F2 H' S s' => h.nx E' G' q σ' F2 H' S (s.trans s'), fun r G' q v F2 H' σ' E' S s' => h.rt r G' q v F2 H' σ' E' S (s.trans s'), fun E' G' q σ' F2 H' S s' => h.bk E' G' q σ' F2 H' S (s.trans s'), fun E' G' q σ' F2 H' S s' => h.ct E' G' q σ' F2 H' S (s.trans s')⟩
def LiftS (K : PySem.W.Frag) (B : Base3) (ts : DSt) : TS := fun D σ H => ∃ pn F E G D3, St3 K B pn F H σ E G ∧ ts D3 E G ∧ EndsOk K B F D3 D
structure LS (X : Cx) (B : Base3) (st : Stmt) (ts : DSt) : Prop where
  ps : PS X st (LiftS X.K B ts)
structure LSs (X : Cx) (B : Base3) (st : List Stmt) (ts : DSt) : Prop where
  pss : PSs X st (LiftS X.K B ts)

def dNext : DSt := fun D E G => D.nx E G
def dSeq (t u : DSt) : DSt := fun D E G => t { D with nx := u D } E G
def dIfS (c : DT) (t u : DSt) : DSt := fun D E G => c E G fun b E1 G1 => if b = true then t D E1 G1 else u D E1 G1
def dDrop (te : DE) : DSt := fun D E G => te E G fun _ E1 G1 => D.nx E1 G1
def Res.out (r : Res) (E : Env3) : Option Res := match r with
  | .val d => some (.val d)
  | .fr ds => some (.fr ds)
  | .frD d => some (.frD d)
  | .sl i => match E[i]? with
    | some (Sl3.val d) => some (.val d)
    | some (Sl3.own ds) => some (.fr ds)
    | some (Sl3.ownD d) => some (.frD d)
    | _ => none
def dRet (te : DE) : DSt := fun D E G => te E G fun r E1 G1 => ∃ r', r.out E1 = some r' ∧ D.rt r' G1
def dRetN : DSt := fun D _ G => D.rt (.val .non) G
def dBreak : DSt := fun D E G => D.bk E G
def dCont : DSt := fun D E G => D.ct E G
def dNever : DSt := fun _ _ _ => False
/-- what a slot takes -/
def Res.put (r : Res) (i : Nat) (E : Env3) : Option Env3 := match r with
  | .val d => some (E.set i (Sl3.val d))
  | .fr ds => some (E.set i (Sl3.own ds))
  | .frD d => some (E.set i (Sl3.ownD d))
  | .sl j => match E[j]? with
    | some (Sl3.val d) => some (E.set i (Sl3.val d))
    | some (Sl3.own ds) => some ((E.set j (Sl3.val (.lst ds))).set i (Sl3.val (.lst ds)))
    | some (Sl3.ownD d) => some ((E.set j (Sl3.val d)).set i (Sl3.val d))
    | _ => none
def dSet (i : Nat) (te : DE) : DSt := fun D E G => te E G fun r E1 G1 => i < E1.length ∧ ∃ E2, r.put i E1 = some E2 ∧ D.nx E2 G1
section
variable {K : PySem.W.Frag} {B : Base3} {pn : Pend} {F H : Hp} {σ : L2.St} {E : Env3} {G : Reg}
theorem St3.put (S : St3 K B pn F H σ E G) {r : Res} {v : V} {i : Nat} {E2 : Env3} (hi : i < E.length) (hr : RepR K B pn F H σ E G r v) (h : r.put i E = some E2) : ∃ F', St3 K B pn F' H (σ.set i (some v)) E2 G ∧ Same F F' := by
  rw [S.len] at hi
  cases r with
  | val d => cases h; exact ⟨F, S.setVal hi hr, Same.refl F⟩
  | fr ds =>
    cases h
    obtain ⟨a, rfl, f, no⟩ := hr
    exact ⟨F, S.setOwn hi f no, Same.refl F⟩
  | frD d =>
    cases h
    obtain ⟨a, rfl, f, no⟩ := hr
    exact ⟨F, S.setOwnX hi f rfl no, Same.refl F⟩
  | sl j =>
    have hr' : σ[j]? = some (some v) := hr
    unfold Res.put at h
    dsimp only at h
    split at h
    · rename_i d q
      cases h
      obtain ⟨v', h1, h2⟩ := S.slot j d q
      rw [hr'] at h1
      cases h1
      exact ⟨F, S.setVal hi h2, Same.refl F⟩
    · rename_i ds q
      cases h
      obtain ⟨F', S', s', r'⟩ := S.freezeSlot q hr'
      exact ⟨F', S'.setVal hi r', s'⟩
    · rename_i d q
      cases h
      obtain ⟨F', S', s', r'⟩ := S.freezeSlotX q rfl hr'
      exact ⟨F', S'.setVal hi r', s'⟩
    · cases h
theorem St3.outR (S : St3 K B pn F H σ E G) {r r' : Res} {v : V} (hr : RepR K B pn F H σ E G r v) (h : r.out E = some r') : RetR K B pn F H G r' v := by
  cases r with
  | val d => cases h; exact hr
  | fr ds =>
    cases h
    obtain ⟨a, rfl, f, no⟩ := hr
    exact ⟨a, rfl, f⟩
  | frD d =>
    cases h
    obtain ⟨a, rfl, f, no⟩ := hr
    exact ⟨a, rfl, f⟩
  | sl j =>
    have hr' : σ[j]? = some (some v) := hr
    unfold Res.out at h
    dsimp only at h
    split at h
    · rename_i d q
      cases h
      obtain ⟨v', h1, h2⟩ := S.slot j d q
      rw [hr'] at h1
      cases h1
      exact h2
    · rename_i ds q
      cases h
      obtain ⟨a, h1, f⟩ := S.ownL j ds q
      rw [hr'] at h1
      cases h1
      exact ⟨a, rfl, f⟩
    · rename_i d q
      cases h
      obtain ⟨a, h1, f⟩ := S.own j _ _ q rfl
      rw [hr'] at h1
      cases h1
      exact ⟨a, rfl, f⟩
    · cases h
/-- a free list becomes a register -/
theorem St3.promote (S : St3 K B pn F H σ E G) {a : Addr} {ds : List D} (f : Fre K B pn F H G a ds) (no : NoOwn σ E a) : St3 K B pn F H σ E ((a, ds) :: G) := by
  obtain ⟨xs, e, r⟩ := f.ex
  refine ⟨⟨S.w.sub, fun b es h => ?_, by rw [List.map_cons]; exact List.nodup_cons.mpr ⟨f.nG, S.w.nd⟩⟩, S.keepF, S.keepH, S.unfr, fun b h => ?_, fun b h => by rw [List.map_cons]; exact List.mem_cons_of_mem _ (S.regk b h), S.len, S.slot, fun i s d h ho => ?_, S.ownd, fun b ys h => ?_, S.pnd, S.news⟩
  · rcases List.mem_cons.mp h with h | h
    · cases h; exact ⟨f.nF, _, e, .lst r⟩
    · exact S.w.reg b es h
  · rw [List.map_cons] at h
    rcases List.mem_cons.mp h with h | h
    · have h' : b = a := h
      rw [h']; exact .inr f.nB
    · exact S.regs b h
  · obtain ⟨b, e1, g⟩ := S.own i s d h ho
    refine ⟨b, e1, ⟨g.nF, g.nB, ?_, g.nP, g.ex⟩⟩
    rw [List.map_cons]
    intro z
    rcases List.mem_cons.mp z with z | z
    · have z' : b = a := z
      exact no i s d h ho (by rw [← z']; exact e1)
    · exact g.nG z
  · obtain ⟨h1, h2, h3, h4⟩ := S.pend b ys h
    refine ⟨h1, h2, h3, ?_⟩
    rw [List.map_cons]
    intro z
    rcases List.mem_cons.mp z with z | z
    · have z' : b = a := z
      exact f.nP (by rw [← z']; exact List.mem_map.mpr ⟨_, h, rfl⟩)
    · exact h4 z
end
section
variable {X : Cx} {B : Base3}
theorem lss_nil : LSs X B [] dNext := ⟨pss_imp pss_nil fun D σ H ⟨pn, F, E, G, D3, S, h, ok⟩ => ok.nx E G h σ F H S (Same.refl F)⟩
theorem lss_cons {st : Stmt} {rest : List Stmt} {t u : DSt} (h1 : LS X B st t) (h2 : LSs X B rest u) : LSs X B (st :: rest) (dSeq t u) :=
  ⟨pss_imp (pss_cons h1.ps h2.pss) fun D σ H ⟨pn, F, E, G, D3, S, h, ok⟩ => ⟨pn, F, E, G, { D3 with nx := u D3 }, S, h, ⟨fun E' G' q σ' F' H' S' s' => ⟨_, F', E', G', D3, S', q, ok.mono s'⟩, ok.rt, ok.bk, ok.ct⟩⟩⟩
theorem lss_one {st : Stmt} {t : DSt} (h1 : LS X B st t) : LSs X B [st] t := ⟨pss_one h1.ps⟩
theorem ls_never {st : Stmt} : LS X B st dNever := ⟨ps_imp ps_never fun D σ H ⟨pn, F, E, G, D3, S, h, ok⟩ => h⟩
theorem ls_if {c : Expr} {a b : List Stmt} {tc : DT} {t u : DSt} {pos} (hc : LT X B c tc) (ha : LSs X B a t) (hb : LSs X B b u) : LS X B (.If c a b pos) (dIfS tc t u) :=
  ⟨ps_imp (ps_if hc.pt ha.pss hb.pss) fun D σ H ⟨pn, F, E, G, D3, S, h, ok⟩ => ⟨pn, F, E, G, _, S, h, fun b E1 G1 h1 F1 H1 S1 s1 => by
    cases b with
    | true => exact ⟨pn, F1, E1, G1, D3, S1, h1, ok.mono s1⟩
    | false => exact ⟨pn, F1, E1, G1, D3, S1, h1, ok.mono s1⟩⟩⟩
theorem ls_expr {e : Expr} {te : DE} {pos : Pos} (he : LE X B e te) (hs : swapsWith e none pos.line X.env = pure false := by rfl) : LS X B (.Expr e pos) (dDrop te) :=
  ⟨ps_imp (ps_expr he.pe hs) fun D σ H ⟨pn, F, E, G, D3, S, h, ok⟩ => ⟨pn, F, E, G, _, S, h, fun r E1 G1 h1 v F1 H1 S1 s1 r1 => ok.nx E1 G1 h1 σ F1 H1 S1 s1⟩⟩
theorem ls_ret {e : Expr} {te : DE} {pos} (he : LE X B e te) : LS X B (.Return (some e) pos) (dRet te) :=
  ⟨ps_imp (ps_ret he.pe) fun D σ H ⟨pn, F, E, G, D3, S, h, ok⟩ => ⟨pn, F, E, G, _, S, h, fun r E1 G1 ⟨r', hr', h1⟩ v F1 H1 S1 s1 r1 => ok.rt r' G1 h1 v F1 H1 σ E1 S1 s1 (S1.outR r1 hr')⟩⟩
theorem ls_set {i : Nat} {x : Str} {e : Expr} {te : DE} {pos pos' : Pos} (hN : X.N.Nodup) (hi : X.N[i]? = some x) (hx : Loc X.env.scope x) (he : LE X B e te) (hs : swapsWith e (some (.Name x pos')) pos.line X.env = pure false := by rfl) (hf : X.fn x = true ∨ X.env.scope.names.lookup x = some .local := by first | exact .inl rfl | exact .inr rfl | assumption) :
    LS X B (.Assign [.Name x pos'] e pos) (dSet i te) :=
  ⟨ps_imp (ps_set hN hi hx he.pe hs hf) fun D σ H ⟨pn, F, E, G, D3, S, h, ok⟩ => ⟨pn, F, E, G, _, S, h, fun r E1 G1 ⟨hi, E2, hp, h1⟩ v F1 H1 S1 s1 r1 => by
    obtain ⟨F2, S2, s2⟩ := S1.put hi r1 hp
    exact ok.nx E2 G1 h1 _ F2 H1 S2 (s1.trans s2)⟩⟩
/-- name = a free list, which becomes a register -/
def dSetReg (i : Nat) (te : DE) : DSt := fun D E G => te E G fun r E1 G1 => i < E1.length ∧ ∃ ds, r = .fr ds ∧ ∀ a, D.nx (E1.set i (Sl3.val (.ref a))) ((a, ds) :: G1)
theorem ls_setReg {i : Nat} {x : Str} {e : Expr} {te : DE} {pos pos' : Pos} (hN : X.N.Nodup) (hi : X.N[i]? = some x) (hx : Loc X.env.scope x) (he : LE X B e te) (hs : swapsWith e (some (.Name x pos')) pos.line X.env = pure false := by rfl) (hf : X.fn x = true ∨ X.env.scope.names.lookup x = some .local := by first | exact .inl rfl | exact .inr rfl | assumption) :
    LS X B (.Assign [.Name x pos'] e pos) (dSetReg i te) :=
  ⟨ps_imp (ps_set hN hi hx he.pe hs hf) fun D σ H ⟨pn, F, E, G, D3, S, h, ok⟩ => ⟨pn, F, E, G, _, S, h, fun r E1 G1 ⟨hi, ds, hp, h1⟩ v F1 H1 S1 s1 r1 => by
    subst hp
    obtain ⟨a, rfl, f, no⟩ := r1
    have S2 := S1.promote f no
    exact ok.nx _ _ (h1 a) _ F1 H1 (S2.setVal (by rw [← S1.len]; exact hi) (.ref a)) s1⟩⟩
/-- name op= e -/
def dAug (i : Nat) (rd : Reg → D → D → (Res → Prop) → Prop) (te : DE) : DSt := fun D E G => ∃ d, E[i]? = some (Sl3.val d) ∧ te E G fun y E1 G1 => E1[i]? = some (Sl3.val d) ∧ ∃ e, y.get E1 = some e ∧
  rd G1 d e fun r => ∃ z, r = .val z ∧ D.nx (E1.set i (Sl3.val z)) G1
theorem ls_aug {i : Nat} {x : Str} {e : Expr} {te : DE} {op : Operator} {ti : TIp} {rd : Reg → D → D → (Res → Prop) → Prop} {pos pos' : Pos} (hN : X.N.Nodup) (hi : X.N[i]? = some x) (hx : Loc X.env.scope x) (he : LE X B e te) (ho : PIp X op ti) (hr : ROp X B ti rd) (hf : X.fn x = true ∨ X.env.scope.names.lookup x = some .local := by first | exact .inl rfl | exact .inr rfl | assumption) :
    LS X B (.AugAssign (.Name x pos') op e pos) (dAug i rd te) :=
  ⟨ps_imp (ps_aug hN hi hx he.pe ho hf) fun D σ H ⟨pn, F, E, G, D3, S, h, ok⟩ => by
    obtain ⟨d, hd, h⟩ := h
    obtain ⟨v, hv, rv⟩ := S.slot i d hd
    refine ⟨v, hv, pn, F, E, G, _, S, h, fun y E1 G1 ⟨h0, e', he', h1⟩ u F1 H1 S1 s1 r1 => ?_⟩
    refine hr pn F1 H1 σ E1 G1 v u d e' _ _ S1 (.inl (Rep.mono s1 _ _ rv)) (S1.getH r1 he') h1 fun res hres w F2 H2 S2 s2 r2 => ?_
    obtain ⟨z, e1, h2⟩ := hres
    subst e1
    exact ok.nx _ _ h2 _ F2 H2 (S2.setVal (by rw [← S2.len]; exact lt_of_look h0) r2) (s1.trans s2)⟩

/-! ### targets -/
abbrev DG := D → Env3 → Reg → (Env3 → Reg → Prop) → Prop
def LiftG (K : PySem.W.Frag) (B : Base3) (vs : List Nat) (g : DG) : TG := fun v σ H Q => ∃ pn F E G k d, St3 K B pn F H σ E G ∧ Rep K F d v ∧ g d E G k ∧
  ∀ E' G', k E' G' → ∀ σ' F' H', St3 K B pn F' H' σ' E' G' → Same F F' → wipe σ' vs = wipe σ vs → Q σ' H'
structure LG (X : Cx) (B : Base3) (vs : List Nat) (tg : Expr) (g : DG) : Prop where
  pg : PG X tg (LiftG X.K B vs g)
theorem pg_imp {tg : Expr} {t t' : TG} (h : PG X tg t) (hi : ∀ v σ H Q, t' v σ H Q → t v σ H Q) : PG X tg t' := ⟨fun pins s σ H v u Q I r hw => h.run pins s σ H v u Q I r (hi v σ H Q hw)⟩
def gNm (i : Nat) : DG := fun d E G k => i < E.length ∧ k (E.set i (Sl3.val d)) G
theorem wipe_get {σ : L2.St} : ∀ {vs : List Nat} {j : Nat}, (wipe σ vs)[j]? = if j ∈ vs then (σ[j]?).map (fun _ => none) else σ[j]?
  | [], j => by simp [wipe]
  | v :: vs, j => by
    unfold wipe
    by_cases q : v = j
    · subst q
      rw [if_pos List.mem_cons_self]
      by_cases hv : v < σ.length
      · rw [List.getElem?_set_self (by rw [wipe_length]; exact hv), List.getElem?_eq_getElem hv]; rfl
      · rw [List.getElem?_eq_none (by rw [List.length_set, wipe_length]; omega), List.getElem?_eq_none (by omega)]; rfl
    · rw [List.getElem?_set_ne q, wipe_get]
      by_cases h : j ∈ vs
      · rw [if_pos h, if_pos (List.mem_cons_of_mem _ h)]
      · rw [if_neg h, if_neg (fun z => by rcases List.mem_cons.mp z with z | z; exact q z.symm; exact h z)]
theorem wipe_set {σ : L2.St} {vs : List Nat} {i : Nat} {v : Option V} (h : i ∈ vs) : wipe (σ.set i v) vs = wipe σ vs := by
  apply List.ext_getElem?
  intro j
  rw [wipe_get, wipe_get]
  by_cases q : j ∈ vs
  · rw [if_pos q, if_pos q]
    by_cases e : i = j
    · subst e
      by_cases hv : i < σ.length
      · rw [List.getElem?_set_self hv, List.getElem?_eq_getElem hv]; rfl
      · rw [List.getElem?_eq_none (by rw [List.length_set]; omega), List.getElem?_eq_none (by omega)]
    · rw [List.getElem?_set_ne e]
  · rw [if_neg q, if_neg q, List.getElem?_set_ne (fun (z : i = j) => q (z ▸ h))]
theorem lg_name {i : Nat} {x : Str} {vs : List Nat} {pos : Pos} (hN : X.N.Nodup) (hi : X.N[i]? = some x) (hx : Loc X.env.scope x) (hv : i ∈ vs) (hf : X.fn x = true ∨ X.env.scope.names.lookup x = some .local := by first | exact .inl rfl | exact .inr rfl | assumption) : LG X B vs (.Name x pos) (gNm i) :=
  ⟨pg_imp (pg_name hN hi hx hf) fun v σ H Q ⟨pn, F, E, G, k, d, S, r, ⟨hl, h⟩, hk⟩ => hk _ _ h _ F H (S.setVal (by rw [← S.len]; exact hl) r) (Same.refl F) (wipe_set hv)⟩
/-- several targets -/
abbrev DGs := List D → Env3 → Reg → (Env3 → Reg → Prop) → Prop
def LiftGs (K : PySem.W.Frag) (B : Base3) (vs : List Nat) (g : DGs) : TGs := fun us σ H Q => ∃ pn F E G k ds, St3 K B pn F H σ E G ∧ RepL K F ds us ∧ g ds E G k ∧
  ∀ E' G', k E' G' → ∀ σ' F' H', St3 K B pn F' H' σ' E' G' → Same F F' → wipe σ' vs = wipe σ vs → Q σ' H'
structure LGs (X : Cx) (B : Base3) (vs : List Nat) (ts : List Expr) (g : DGs) : Prop where
  pgs : PGs X ts (LiftGs X.K B vs g)
theorem pgs_imp {ts : List Expr} {t t' : TGs} (h : PGs X ts t) (hi : ∀ v σ H Q, t' v σ H Q → t v σ H Q) : PGs X ts t' := ⟨fun pins s σ H v u Q I r hw => h.run pins s σ H v u Q I r (hi v σ H Q hw)⟩
def gsNil : DGs := fun ds E G k => ds = [] ∧ k E G
def gsCons (g : DG) (gs : DGs) : DGs := fun ds E G k => ∃ d r, ds = d :: r ∧ g d E G fun E1 G1 => gs r E1 G1 k
theorem lgs_nil {vs : List Nat} : LGs X B vs [] gsNil :=
  ⟨pgs_imp pgs_nil fun us σ H Q ⟨pn, F, E, G, k, ds, S, r, ⟨e, h⟩, hk⟩ => by
    subst e
    cases r
    exact ⟨rfl, hk _ _ h σ F H S (Same.refl F) rfl⟩⟩
theorem lgs_cons {vs : List Nat} {e : Expr} {es : List Expr} {g : DG} {gs : DGs} (h1 : LG X B vs e g) (h2 : LGs X B vs es gs) (hs : (assignEach (e :: es) X.env).map (·.2) = assign e X.env :: (assignEach es X.env).map (·.2) := by rfl) : LGs X B vs (e :: es) (gsCons g gs) :=
  ⟨pgs_imp (pgs_cons h1.pg h2.pgs hs) fun us σ H Q ⟨pn, F, E, G, k, ds, S, r, ⟨d, dr, e, h⟩, hk⟩ => by
    subst e
    cases r with
    | @cons _ _ v vr r1 r2 =>
      exact ⟨v, vr, rfl, pn, F, E, G, _, d, S, r1, h, fun E1 G1 q σ1 F1 H1 S1 s1 w1 => ⟨pn, F1, E1, G1, k, dr, S1, RepL.mono s1 _ _ r2, q, fun E2 G2 q2 σ2 F2 H2 S2 s2 w2 => hk _ _ q2 σ2 F2 H2 S2 (s1.trans s2) (w2.trans w1)⟩⟩⟩
def gTp (n : Nat) (gs : DGs) : DG := fun d E G k => ∃ ds, d = .tup ds ∧ ds.length = n ∧ gs ds E G k
theorem lg_tup {vs : List Nat} {es : List Expr} {kk : Nat} {gs : DGs} {n : Nat} {pos : Pos} (hc : X.calm = true) (h : LGs X B vs es gs) (hn : (assignEach es X.env).length = n := by rfl) (hst : (assignEach es X.env).findIdx? (·.1) = none := by rfl) : LG X B vs (.Tuple es kk pos) (gTp n gs) :=
  ⟨pg_imp (pg_tup hc h.pgs hn hst) fun v σ H Q ⟨pn, F, E, G, k, d, S, r, ⟨ds, e, hl, h⟩, hk⟩ => by
    subst e
    cases r with
    | tup hs ha => exact ⟨_, _, rfl, SqT.of (S.w.sub _ _ hs), by rw [← ha.length]; exact hl, pn, F, E, G, k, ds, S, ha, h, hk⟩⟩
/-- target = value (a tuple target) -/
def dAsg (te : DE) (g : DG) : DSt := fun D E G => te E G fun r E1 G1 => ∃ d E2, r.ice E1 = some (d, E2) ∧ g d E2 G1 D.nx
theorem ls_asg {tg e : Expr} {te : DE} {g : DG} {vs : List Nat} {pos : Pos} (he : LE X B e te) (hg : LG X B vs tg g) (hs : swapsWithSole [tg] e pos.line X.env = pure false := by rfl) (hw : swappedStores [tg] e X.env = pure none := by rfl)
    (h1 : (assignEach [tg] X.env).map (·.2) = [assign tg X.env] := by rfl) : LS X B (.Assign [tg] e pos) (dAsg te g) :=
  ⟨ps_imp (ps_asg he.pe hg.pg hs hw h1) fun D σ H ⟨pn, F, E, G, D3, S, h, ok⟩ => ⟨pn, F, E, G, _, S, h, fun r E1 G1 ⟨d, E2, hd, h1⟩ v F1 H1 S1 s1 r1 => by
    obtain ⟨F2, S2, s2, r2⟩ := S1.ice r1 hd
    exact ⟨pn, F2, E2, G1, _, d, S2, r2, h1, fun E3 G3 q σ3 F3 H3 S3 s3 _ => ok.nx _ _ q σ3 F3 H3 S3 ((s1.trans s2).trans s3)⟩⟩⟩
end
end L3

set_option Elab.async false
set_option maxRecDepth 100000
set_option maxHeartbeats 4000000
/-! L3, part e: what is walked; loops; comprehensions; defs. -/
namespace L3
open PySem PySem.Spec PyProof.Rows L2

/-- an iterator J gives the items ds, one by one -/
structure Wk (K : PySem.W.Frag) (B : Base3) (J : It) (ds : List D) (F0 : Hp) : Prop where
  go : ∀ pn F H σ E G i, St3 K B pn F H σ E G → Same F0 F → i < ds.length → J.go i H
  yld : ∀ pn F H σ E G i x H', St3 K B pn F H σ E G → Same F0 F → i < ds.length → J.yld i H x H' → ∃ F', St3 K B pn F' H' σ E G ∧ Same F F' ∧ ∃ d, ds[i]? = some d ∧ Rep K F' d x
  stop : ∀ pn F H σ E G i, St3 K B pn F H σ E G → Same F0 F → ds.length ≤ i → J.stop i H
abbrev DI := Env3 → Reg → (List D → Env3 → Reg → Prop) → Prop
def LiftI (K : PySem.W.Frag) (B : Base3) (di : DI) : TI := fun σ H R => ∃ pn F E G k, St3 K B pn F H σ E G ∧ di E G k ∧
  ∀ ds E' G', k ds E' G' → ∀ J F' H', St3 K B pn F' H' σ E' G' → Same F F' → Wk K B J ds F' → R J H'
structure LI (X : Cx) (B : Base3) (tg e : Expr) (di : DI) : Prop where
  pi : PI X tg e (LiftI X.K B di)
theorem pi_imp {X : Cx} {tg e : Expr} {t t' : TI} (h : PI X tg e t) (hi : ∀ σ H R, t' σ H R → t σ H R) : PI X tg e t' := ⟨fun pins s σ H R I hw => h.run pins s σ H R I (hi σ H R hw)⟩
section
variable {X : Cx} {B : Base3} {K : PySem.W.Frag}
theorem wk_list {F0 : Hp} {a : Addr} {xs : List V} {ds : List D} (hs : SqL K F0 a xs) (r : RepL K F0 ds xs) : Wk K B (Itl K a) ds F0 := by
  refine ⟨fun pn F H σ E G i S s h => ?_, fun pn F H σ E G i x H' S s _ h => ?_, fun pn F H σ E G i S s h => ?_⟩
  · have hl := r.length
    exact ⟨xs, xs[i], S.w.sub.seq (s.seq hs), by simp [hl ▸ h]⟩
  · obtain ⟨rfl, q⟩ := h
    have e := q xs (S.w.sub.seq (s.seq hs))
    obtain ⟨d, h1, h2⟩ := r.get' e
    exact ⟨F, S, Same.refl F, d, h1, Rep.mono s _ _ h2⟩
  · exact ⟨xs, S.w.sub.seq (s.seq hs), by rw [← r.length]; exact h⟩
theorem wk_tup {F0 : Hp} {a : Addr} {xs : List V} {ds : List D} (hs : SqT K F0 a xs) (r : RepL K F0 ds xs) : Wk K B (Itt K a) ds F0 := by
  refine ⟨fun pn F H σ E G i S s h => ?_, fun pn F H σ E G i x H' S s _ h => ?_, fun pn F H σ E G i S s h => ?_⟩
  · have hl := r.length
    exact ⟨xs, xs[i], sameT S.w.sub (sameT s hs), by simp [hl ▸ h]⟩
  · obtain ⟨rfl, q⟩ := h
    have e := q xs (sameT S.w.sub (sameT s hs))
    obtain ⟨d, h1, h2⟩ := r.get' e
    exact ⟨F, S, Same.refl F, d, h1, Rep.mono s _ _ h2⟩
  · exact ⟨xs, sameT S.w.sub (sameT s hs), by rw [← r.length]; exact h⟩
def rangeD (lo : Int) (n : Nat) : List D := (List.range n).map fun (i : Nat) => D.int (lo + (i : Int))
theorem wk_rng {F0 : Hp} {lo : Int} {n : Nat} : Wk K B (Itr lo n) (rangeD lo n) F0 := by
  refine ⟨fun pn F H σ E G i S s h => ?_, fun pn F H σ E G i x H' S s hi h => ?_, fun pn F H σ E G i S s h => ?_⟩
  · show i < n
    simpa [rangeD] using h
  · obtain ⟨rfl, rfl⟩ := h
    have hi' : i < n := by simpa [rangeD] using hi
    exact ⟨F, S, Same.refl F, D.int (lo + (i : Int)), by simp [rangeD, hi'], .int _⟩
  · show n ≤ i
    simpa [rangeD] using h
def strD (x : Str) : List D := x.cps.toList.map fun c => D.str ⟨#[c]⟩
theorem wk_str {F0 : Hp} {x : Str} : Wk K B (Its x) (strD x) F0 := by
  refine ⟨fun pn F H σ E G i S s h => ?_, fun pn F H σ E G i v H' S s hi h => ?_, fun pn F H σ E G i S s h => ?_⟩
  · show i < x.cps.size
    simpa [strD] using h
  · obtain ⟨rfl, c, hc, rfl⟩ := h
    exact ⟨F, S, Same.refl F, D.str ⟨#[c]⟩, by simp [strD, hc], .str _⟩
  · show x.cps.size ≤ i
    simpa [strD] using h
/-- a list, a tuple, a text -/
def iSeq (K : PySem.W.Frag) (tl : TE) : TI := fun σ H R => tl σ H fun x H1 => (∃ a xs, x = .ref a ∧ SqL K H1 a xs ∧ R (Itl K a) H1) ∨ (∃ a xs, x = .ref a ∧ SqT K H1 a xs ∧ R (Itt K a) H1) ∨ ∃ z, x = .str z ∧ R (Its z) H1
theorem pi_seq {tg l : Expr} {tl : TE} (hl : PE X l tl) : PI X tg l (iSeq X.K tl) := by
  refine ⟨fun pins s σ H R I h => ?_⟩
  refine thn (hl.run pins s σ H _ I h) fun v s1 ⟨x, H1, I1, r1, q1⟩ => ?_
  rcases q1 with ⟨a, xs, e, hq, q⟩ | ⟨a, xs, e, hq, q⟩ | ⟨z, e, q⟩
  · subst e
    cases r1
    obtain ⟨its, rv, p, hz⟩ := I1.list hq
    refine wpAny_pyIter_list p.isList ?_
    refine ⟨s1.heap.objs.size, [s1.heap.objs.size], _, _, H1, rfl, I1.kept (t' := s1.toks) fun b o e => Heap.get?_push_of_some _ e, turn_list a _, ⟨_, Heap.get?_push_size _ rfl, rfl, rfl⟩, fun b hb => ?_, q⟩
    have e : b = s1.heap.objs.size := by simpa using hb
    subst e
    exact I1.fpOk (Nat.le_refl _) (I1.hok.fresh (Nat.le_refl _))
  · subst e
    cases r1
    obtain ⟨its, rv, p, hz⟩ := I1.tuple hq
    refine wpAny_pyIter_tuple (show s1.heap.IsTuple a its.toArray from p) ?_
    refine ⟨s1.heap.objs.size, [s1.heap.objs.size], _, _, H1, rfl, I1.kept (t' := s1.toks) fun b o e => Heap.get?_push_of_some _ e, turn_tuple a _, ⟨_, Heap.get?_push_size _ rfl, rfl, rfl⟩, fun b hb => ?_, q⟩
    have e : b = s1.heap.objs.size := by simpa using hb
    subst e
    exact I1.fpOk (Nat.le_refl _) (I1.hok.fresh (Nat.le_refl _))
  · subst e
    obtain ⟨t, rfl⟩ := r1
    cases ha : z.cps.all (· < 128)
    · exact wpAny_pyIter_wide ha (pi_one (tk := s1.toks) I1 _ (turn_str _ z t "str_iterator" (.inr rfl)) ⟨_, Heap.get?_push_size _ rfl, rfl, rfl⟩ q)
    · exact wpAny_pyIter_ascii ha (pi_one (tk := s1.toks) I1 _ (turn_str _ z t "str_ascii_iterator" (.inl rfl)) ⟨_, Heap.get?_push_size _ rfl, rfl, rfl⟩ q)
def iterD : D → Option (List D)
  | .lst ds => some ds
  | .tup ds => some ds
  | .str x => some (strD x)
  | .scr ns => some (ns.map D.int)
  | _ => none
def dIter (te : DE) : DI := fun E G k => te E G fun r E1 G1 => ∃ d E2, r.ice E1 = some (d, E2) ∧ ∃ ds, iterD d = some ds ∧ k ds E2 G1
theorem li_seq {tg l : Expr} {te : DE} (hl : LE X B l te) : LI X B tg l (dIter te) :=
  ⟨pi_imp (pi_seq hl.pe) fun σ H R ⟨pn, F, E, G, k, S, h, hk⟩ => ⟨pn, F, E, G, _, S, h, fun r E1 G1 ⟨d, E2, hd, ds, hi, h1⟩ v F1 H1 S1 s1 r1 => by
    obtain ⟨F2, S2, s2, r2⟩ := S1.ice r1 hd
    cases r2 with
    | lst hs ha => cases hi; exact .inl ⟨_, _, rfl, S2.w.sub.seq (.inl hs), hk _ _ _ h1 _ F2 H1 S2 (s1.trans s2) (wk_list (.inl hs) ha)⟩
    | tup hs ha => cases hi; exact .inr (.inl ⟨_, _, rfl, SqT.of (S2.w.sub _ _ hs), hk _ _ _ h1 _ F2 H1 S2 (s1.trans s2) (wk_tup (SqT.of hs) ha)⟩)
    | scr hs => cases hi; exact .inl ⟨_, _, rfl, S2.w.sub.seq hs, hk _ _ _ h1 _ F2 H1 S2 (s1.trans s2) (wk_list hs (RepL.ints _))⟩
    | str x => cases hi; exact .inr (.inr ⟨_, rfl, hk _ _ _ h1 _ F2 H1 S2 (s1.trans s2) wk_str⟩)
    | _ => cases hi⟩⟩
def dRng1 (ta : DA) : DI := fun E G k => ta E G fun ds E1 G1 => ∃ j : Int, ds = [.int j] ∧ -(2 ^ 62) ≤ j ∧ j < 2 ^ 62 ∧ k (rangeD 0 j.toNat) E1 G1
def dRng2 (ta : DA) : DI := fun E G k => ta E G fun ds E1 G1 => ∃ i j : Int, ds = [.int i, .int j] ∧ (-(2 ^ 62) ≤ i ∧ i < 2 ^ 62 ∧ -(2 ^ 62) ≤ j ∧ j < 2 ^ 62) ∧ k (rangeD i (j - i).toNat) E1 G1
theorem li_range1 {tg a : Expr} {ta : DA} {p pos : Pos} (hg : Gl X "range") (hm : X.mg "range" = none) (ha : LA X B [a] ta) (hs : starEach [a] X.env = [(false, eval a X.env)] := by rfl) : LI X B tg (.Call (.Name "range" p) [a] [] pos) (dRng1 ta) :=
  ⟨pi_imp (pi_range1 hg hm ha.pa hs) fun σ H R ⟨pn, F, E, G, k, S, h, hk⟩ => ⟨pn, F, E, G, _, S, h, fun ds E1 G1 ⟨j, e, q1, q2, h1⟩ vs F1 H1 S1 s1 r1 => by
    subst e
    cases r1 with
    | cons r rr =>
      cases rr
      cases r
      exact ⟨j, rfl, q1, q2, hk _ _ _ h1 _ F1 H1 S1 s1 wk_rng⟩⟩⟩
/-! ### for -/
def dForL (g : DG) (tb : DSt) : List D → DSt
  | [], D, E, G => D.nx E G
  | d :: ds, D, E, G => g d E G fun E1 G1 => tb { D with nx := fun E2 G2 => dForL g tb ds D E2 G2, ct := fun E2 G2 => dForL g tb ds D E2 G2, bk := D.nx } E1 G1
def dFor (di : DI) (g : DG) (tb : DSt) : DSt := fun D E G => di E G fun ds E1 G1 => dForL g tb ds D E1 G1
theorem ls_for {tg iter : Expr} {body : List Stmt} {di : DI} {g : DG} {vs : List Nat} {tb : DSt} {pos : Pos} (hp : PassesOwn (model X.prog X.w) X.A X.env X.xe) (hc : X.calm = true) (hi : LI X B tg iter di) (hg : LG X B vs tg g) (hb : LSs X B body tb)
    (hs : ∀ x, foldedSetIterable iter X.env x = pure x := by intro _; rfl) : LS X B (.For tg iter body [] pos) (dFor di g tb) :=
  ⟨ps_imp (ps_for hp hc hi.pi hg.pg hb.pss hs) fun D σ H ⟨pn, F, E, G, D3, S, h, ok⟩ => ⟨pn, F, E, G, _, S, h, fun ds E1 G1 h1 J F1 H1 S1 s1 wk => by
    refine ⟨fun i m σ' H' => ∃ pn F' E' G', St3 X.K B pn F' H' σ' E' G' ∧ Same F1 F' ∧ m = ds.length - i ∧ i ≤ ds.length ∧ dForL g tb (ds.drop i) D3 E' G', ⟨ds.length, pn, F1, E1, G1, S1, Same.refl F1, rfl, Nat.zero_le _, h1⟩, ?_⟩
    rintro i m σ2 H2 ⟨pn, F2, E2, G2, S2, s2, rfl, hi, h2⟩
    by_cases hlt : i < ds.length
    · refine .inr ⟨wk.go pn F2 H2 σ2 E2 G2 i S2 s2 hlt, fun σ' H' => ∃ pn F' E' G', St3 X.K B pn F' H' σ' E' G' ∧ Same F1 F' ∧ dForL g tb (ds.drop (i + 1)) D3 E' G', fun σ' H' ⟨pn, F', E', G', S', s', h'⟩ => ⟨ds.length - (i + 1), by omega, pn, F', E', G', S', s', rfl, hlt, h'⟩, fun x H' y => ?_⟩
      obtain ⟨F3, S3, s3, d, hd, rd⟩ := wk.yld pn F2 H2 σ2 E2 G2 i x H' S2 s2 hlt y
      rw [List.drop_eq_getElem_cons hlt] at h2
      have ed : ds[i] = d := by
        rw [List.getElem?_eq_getElem hlt] at hd
        exact Option.some.inj hd
      rw [ed] at h2
      refine ⟨pn, F3, E2, G2, _, d, S3, rd, h2, fun E4 G4 h4 σ4 F4 H4 S4 s4 _ => ?_⟩
      have ss : Same F1 F4 := (s2.trans s3).trans s4
      refine ⟨pn, F4, E4, G4, _, S4, h4, ⟨fun E5 G5 q σ5 F5 H5 S5 s5 => ⟨_, F5, E5, G5, S5, ss.trans s5, q⟩, fun r G5 q v F5 H5 σ5 E5 S5 s5 rr => ok.rt r G5 q v F5 H5 σ5 E5 S5 ((s1.trans ss).trans s5) rr, fun E5 G5 q σ5 F5 H5 S5 s5 => ok.nx E5 G5 q σ5 F5 H5 S5 ((s1.trans ss).trans s5), fun E5 G5 q σ5 F5 H5 S5 s5 => ⟨_, F5, E5, G5, S5, ss.trans s5, q⟩⟩⟩
    · have e : i = ds.length := by omega
      subst e
      rw [List.drop_length] at h2
      exact .inl ⟨wk.stop pn F2 H2 σ2 E2 G2 _ S2 s2 (Nat.le_refl _), ok.nx E2 G2 h2 σ2 F2 H2 S2 (s1.trans s2)⟩⟩⟩

/-! ### while -/
def dWhN (c : DT) (tb : DSt) : Nat → DSt
  | 0, _, _, _ => False
  | n + 1, D, E, G => c E G fun b E1 G1 => if b = true then tb { D with nx := fun E2 G2 => dWhN c tb n D E2 G2, ct := fun E2 G2 => dWhN c tb n D E2 G2, bk := D.nx } E1 G1 else D.nx E1 G1
def dWhile (c : DT) (tb : DSt) : DSt := fun D E G => ∃ n, dWhN c tb n D E G
theorem ls_while {c : Expr} {body : List Stmt} {tc : DT} {tb : DSt} {pos : Pos} (hp : PassesOwn (model X.prog X.w) X.A X.env X.xe) (hc : LT X B c tc) (hb : LSs X B body tb) : LS X B (.While c body [] pos) (dWhile tc tb) :=
  ⟨ps_imp (ps_while hp hc.pt hb.pss) fun D σ H ⟨pn, F, E, G, D3, S, ⟨n, h⟩, ok⟩ => by
    refine ⟨fun m σ' H' => ∃ pn F' E' G', St3 X.K B pn F' H' σ' E' G' ∧ Same F F' ∧ dWhN tc tb m D3 E' G', ⟨n, pn, F, E, G, S, Same.refl F, h⟩, ?_⟩
    rintro m σ2 H2 ⟨pn, F2, E2, G2, S2, s2, h2⟩
    cases m with
    | zero => exact h2.elim
    | succ m =>
      refine ⟨pn, F2, E2, G2, _, S2, h2, fun b E3 G3 h3 F3 H3 S3 s3 => ?_⟩
      cases b with
      | false => exact ok.nx E3 G3 h3 σ2 F3 H3 S3 (s2.trans s3)
      | true =>
        have ss : Same F F3 := s2.trans s3
        refine ⟨fun σ' H' => ∃ pn F' E' G', St3 X.K B pn F' H' σ' E' G' ∧ Same F F' ∧ dWhN tc tb m D3 E' G', fun σ' H' q => ⟨m, Nat.lt_succ_self m, q⟩, ?_⟩
        exact ⟨pn, F3, E3, G3, _, S3, h3, ⟨fun E5 G5 q σ5 F5 H5 S5 s5 => ⟨_, F5, E5, G5, S5, ss.trans s5, q⟩, fun r G5 q v F5 H5 σ5 E5 S5 s5 rr => ok.rt r G5 q v F5 H5 σ5 E5 S5 (ss.trans s5) rr, fun E5 G5 q σ5 F5 H5 S5 s5 => ok.nx E5 G5 q σ5 F5 H5 S5 (ss.trans s5), fun E5 G5 q σ5 F5 H5 S5 s5 => ⟨_, F5, E5, G5, S5, ss.trans s5, q⟩⟩⟩⟩

/-! ### comprehensions -/
def wipe3 (E : Env3) : List Nat → Env3
  | [] => E
  | v :: vs => (wipe3 E vs).set v Sl3.no
theorem wipe3_length (E : Env3) : ∀ vs : List Nat, (wipe3 E vs).length = E.length
  | [] => rfl
  | v :: vs => by unfold wipe3; rw [List.length_set, wipe3_length E vs]
theorem wipe3_some {E : Env3} {i : Nat} {s : Sl3} (hs : s ≠ Sl3.no) : ∀ {vs : List Nat}, (wipe3 E vs)[i]? = some s → E[i]? = some s ∧ i ∉ vs
  | [], h => ⟨h, by simp⟩
  | v :: vs, h => by
    unfold wipe3 at h
    rcases set_look h with ⟨_, z⟩ | ⟨ne, z⟩
    · exact absurd z hs
    · obtain ⟨h1, h2⟩ := wipe3_some hs z
      exact ⟨h1, by simp only [List.mem_cons, not_or]; exact ⟨fun e => ne e.symm, h2⟩⟩
theorem wipe3_val {E : Env3} {i : Nat} {vs : List Nat} {d : D} (h : (wipe3 E vs)[i]? = some (Sl3.val d)) : E[i]? = some (Sl3.val d) ∧ i ∉ vs := wipe3_some (s := Sl3.val d) (fun q => nomatch q) h
theorem wipe3_own {E : Env3} {i : Nat} {vs : List Nat} {d : List D} (h : (wipe3 E vs)[i]? = some (Sl3.own d)) : E[i]? = some (Sl3.own d) ∧ i ∉ vs := wipe3_some (s := Sl3.own d) (fun q => nomatch q) h
theorem wipe3_ow {E : Env3} {i : Nat} {vs : List Nat} {s : Sl3} {d : D} (h : (wipe3 E vs)[i]? = some s) (ho : s.ow = some d) : E[i]? = some s ∧ i ∉ vs := wipe3_some (fun q => by subst q; cases ho) h
/-- other slots, alike outside vs -/
theorem St3.wipeS {pn : Pend} {F H : Hp} {σ σ' : L2.St} {E : Env3} {G : Reg} (S : St3 K B pn F H σ E G) (vs : List Nat) (hl : σ'.length = σ.length) (w : ∀ i, i ∉ vs → σ'[i]? = σ[i]?) : St3 K B pn F H σ' (wipe3 E vs) G := by
  refine ⟨S.w, S.keepF, S.keepH, S.unfr, S.regs, S.regk, by rw [wipe3_length, hl]; exact S.len, fun i d h => ?_, fun i s d h ho => ?_, fun i j s t d e a h1 h2 o1 o2 h3 h4 => ?_, S.pend, S.pnd, fun nm fs h => ?_⟩
  · obtain ⟨h1, h2⟩ := wipe3_val h
    rw [w i h2]; exact S.slot i d h1
  · obtain ⟨h1, h2⟩ := wipe3_ow h ho
    rw [w i h2]; exact S.own i s d h1 ho
  · obtain ⟨q1, n1⟩ := wipe3_ow h1 o1
    obtain ⟨q2, n2⟩ := wipe3_ow h2 o2
    rw [w i n1] at h3
    rw [w j n2] at h4
    exact S.ownd i j s t d e a q1 q2 o1 o2 h3 h4
  · obtain ⟨h1, h2⟩ := wipe3_some (s := Sl3.new nm fs) (fun q => nomatch q) h
    rw [w 0 h2]; exact S.news nm fs h1
theorem wipe_out' {σ : L2.St} {vs : List Nat} {i : Nat} (h : i ∉ vs) : (wipe σ vs)[i]? = σ[i]? := by
  rw [wipe_get, if_neg h]
def LiftTs (X : Cx) (B : Base3) (ifs : List Expr) (tt : DT) : Prop := PTs X ifs (LiftT X.K B tt)
def dYes : DT := fun E G k => k true E G
theorem lts_nil : LiftTs X B [] dYes := ⟨fun pins s σ H Q I ⟨pn, F, E, G, k, S, h, hk⟩ => pts_nil.run pins s σ H Q I (hk _ _ _ h F H S (Same.refl F))⟩
theorem lts_one {c : Expr} {t : DT} (h : LT X B c t) : LiftTs X B [c] t := ⟨fun pins s σ H Q I hw => (pts_one h.pt).run pins s σ H Q I hw⟩
def dLcL (g : DG) (tt : DT) (te : DE) (vs : List Nat) : List D → List D → Env3 → Reg → (List D → Env3 → Reg → Prop) → Prop
  | [], acc, E, G, k => k acc E G
  | d :: ds, acc, E, G, k => g d E G fun E1 G1 => tt E1 G1 fun b E2 G2 => if b = true then te E2 G2 fun r E3 G3 => ∃ x E4, r.ice E3 = some (x, E4) ∧ dLcL g tt te vs ds (acc ++ [x]) (wipe3 E4 vs) G3 k else dLcL g tt te vs ds acc (wipe3 E2 vs) G2 k
def dLc (di : DI) (g : DG) (tt : DT) (te : DE) (vs : List Nat) : DE := fun E G k => di E G fun ds E1 G1 => ds.length ≤ sizeLine ∧ dLcL g tt te vs ds [] (wipe3 E1 vs) G1 fun acc E2 G2 => k (.fr acc) E2 G2
theorem lc3 {di : DI} {g : DG} {tt : DT} {te : DE} {vs : List Nat} {σ : L2.St} {H : Hp} {Q : VK} (h : Lift K B (dLc di g tt te vs) σ H Q) : tLc (LiftI K B di) (LiftG K B vs g) (LiftT K B tt) (Lift K B te) vs σ H Q := by
  obtain ⟨pn, F, E, G, k, S, h, hk⟩ := h
  refine ⟨pn, F, E, G, _, S, h, fun ds E1 G1 ⟨hz, h1⟩ J F1 H1 S1 s1 wk D nD => ?_⟩
  -- the state of the loop: the list at D pending
  have f0 := S1.newFre (xs := []) (ds := []) nD .nil
  have S1' : St3 K B ((D, HO.lst []) :: pn) F1 (upd H1 D (.lst [])) (wipe σ vs) (wipe3 E1 vs) G1 :=
    ((S1.newU nD).pendOn f0.1.nF f0.1.nB f0.1.nG f0.1.nP upd_same f0.2).wipeS vs (wipe_length σ vs) (fun i hi => wipe_out' hi)
  refine ⟨fun i m H' => ∃ F' E' G' acc xs, St3 K B ((D, HO.lst xs) :: pn) F' H' (wipe σ vs) E' G' ∧ (∀ i ∈ vs, ∀ s, E'[i]? = some s → s = Sl3.no) ∧ Same F1 F' ∧ RepL K F' acc xs ∧ acc.length ≤ i ∧ m = ds.length - i ∧ i ≤ ds.length ∧ dLcL g tt te vs (ds.drop i) acc E' G' (fun acc E2 G2 => k (.fr acc) E2 G2), ⟨ds.length, F1, wipe3 E1 vs, G1, [], [], S1', ?w, Same.refl F1, .nil, Nat.zero_le _, rfl, Nat.zero_le _, h1⟩, ?_⟩
  case w =>
    intro i hi s hs
    cases s with
    | no => rfl
    | val d => exact absurd hi (wipe3_val hs).2
    | own d => exact absurd hi (wipe3_own hs).2
    | ownD d => exact absurd hi (wipe3_ow hs rfl).2
    | new nm fs => exact absurd hi (wipe3_some (s := Sl3.new nm fs) (fun q => nomatch q) hs).2
  rintro i m H2 ⟨F2, E2, G2, acc, xs, S2, hw2, s2, ra, hal, rfl, hi, h2⟩
  by_cases hlt : i < ds.length
  · refine .inr ⟨wk.go _ F2 H2 _ E2 G2 i S2 s2 hlt, fun H' => ∃ F' E' G' acc xs, St3 K B ((D, HO.lst xs) :: pn) F' H' (wipe σ vs) E' G' ∧ (∀ i ∈ vs, ∀ s, E'[i]? = some s → s = Sl3.no) ∧ Same F1 F' ∧ RepL K F' acc xs ∧ acc.length ≤ i + 1 ∧ dLcL g tt te vs (ds.drop (i + 1)) acc E' G' (fun acc E2 G2 => k (.fr acc) E2 G2), fun H' ⟨F', E', G', acc', xs', S', w', s', r', l', h'⟩ => ⟨ds.length - (i + 1), by omega, F', E', G', acc', xs', S', w', s', r', l', rfl, hlt, h'⟩, fun x H' y => ?_⟩
    obtain ⟨F3, S3, s3, d, hd, rd⟩ := wk.yld _ F2 H2 _ E2 G2 i x H' S2 s2 hlt y
    rw [List.drop_eq_getElem_cons hlt] at h2
    have ed : ds[i] = d := by
      rw [List.getElem?_eq_getElem hlt] at hd
      exact Option.some.inj hd
    rw [ed] at h2
    refine ⟨_, F3, E2, G2, _, d, S3, rd, h2, fun E4 G4 h4 σ4 F4 H4 S4 s4 w4 => ?_⟩
    have ww : wipe (wipe σ vs) vs = wipe σ vs := by
      apply List.ext_getElem?
      intro j
      rw [wipe_get, wipe_get]
      by_cases q : j ∈ vs
      · rw [if_pos q, if_pos q]; cases σ[j]? <;> rfl
      · rw [if_neg q]
    have w4' : wipe σ4 vs = wipe σ vs := by rw [w4, ww]
    refine ⟨w4', ?_⟩
    have back : ∀ {F' H' E' G' ys}, St3 K B ((D, HO.lst ys) :: pn) F' H' σ4 E' G' → St3 K B ((D, HO.lst ys) :: pn) F' H' (wipe σ vs) (wipe3 E' vs) G' := fun S' => by
      rw [← w4']
      exact S'.wipeS vs (wipe_length σ4 vs) (fun i hi => wipe_out' hi)
    have wno : ∀ (E' : Env3), ∀ i ∈ vs, ∀ s, (wipe3 E' vs)[i]? = some s → s = Sl3.no := fun E' i hi s hs => by
      cases s with
      | no => rfl
      | val d => exact absurd hi (wipe3_val hs).2
      | own d => exact absurd hi (wipe3_own hs).2
      | ownD d => exact absurd hi (wipe3_ow hs rfl).2
      | new nm fs => exact absurd hi (wipe3_some (s := Sl3.new nm fs) (fun q => nomatch q) hs).2
    refine ⟨_, F4, E4, G4, _, S4, h4, fun b E5 G5 h5 F5 H5 S5 s5 => ?_⟩
    have s15 : Same F1 F5 := ((s2.trans s3).trans s4).trans s5
    have s25 : Same F2 F5 := (s3.trans s4).trans s5
    cases b with
    | false => exact ⟨F5, _, G5, acc, xs, back S5, wno _, s15, RepL.mono s25 _ _ ra, by omega, h5⟩
    | true =>
      refine ⟨_, F5, E5, G5, _, S5, h5, fun r E6 G6 ⟨x', E7, hx, h6⟩ v F6 H6 S6 s6 r6 => ?_⟩
      obtain ⟨F7, S7, s7, r7⟩ := S6.ice r6 hx
      have s27 : Same F2 F7 := (s25.trans s6).trans s7
      have ra' := RepL.mono s27 _ _ ra
      refine ⟨xs, S7.pendOff.2.2.2.2.2.1, ?_, F7, _, G6, acc ++ [x'], xs ++ [v], (back (S7.pendWrite (ys := xs ++ [v]))), wno _, (s15.trans s6).trans s7, ra'.append (.cons r7 .nil), by rw [List.length_append]; show acc.length + 1 ≤ i + 1; omega, h6⟩
      have := ra.length
      omega
  · have e : i = ds.length := by omega
    subst e
    rw [List.drop_length] at h2
    obtain ⟨S3, hF, hB, hG, hP, hH, no⟩ := S2.pendOff
    have S4 : St3 K B pn F2 H2 σ E2 G2 := by
      have q := S3.wipeS (σ' := σ) vs (wipe_length σ vs).symm (fun i hi => (wipe_out' hi).symm)
      have eq : wipe3 E2 vs = E2 := by
        apply List.ext_getElem?
        intro j
        cases q2 : E2[j]? with
        | none =>
          apply List.getElem?_eq_none
          rw [wipe3_length]
          exact List.getElem?_eq_none_iff.mp q2
        | some s =>
          have hj := lt_of_look q2
          cases q3 : (wipe3 E2 vs)[j]? with
          | none =>
            have := List.getElem?_eq_none_iff.mp q3
            rw [wipe3_length] at this
            omega
          | some t =>
            cases t with
            | no =>
              by_cases hm : j ∈ vs
              · rw [hw2 j hm s q2]
              · have : ∀ (vs : List Nat), j ∉ vs → (wipe3 E2 vs)[j]? = E2[j]? := by
                  intro vs
                  induction vs with
                  | nil => intro _; rfl
                  | cons v r ih =>
                    intro hm
                    unfold wipe3
                    rw [List.getElem?_set_ne (fun z => hm (by rw [z]; exact List.mem_cons_self))]
                    exact ih (fun z => hm (List.mem_cons_of_mem _ z))
                rw [this vs hm, q2] at q3
                exact q3.symm
            | val d => rw [← (wipe3_val q3).1]; exact q2
            | own d => rw [← (wipe3_own q3).1]; exact q2
            | ownD d => rw [← (wipe3_ow q3 rfl).1]; exact q2
            | new nm fs => rw [← (wipe3_some (s := Sl3.new nm fs) (fun q => nomatch q) q3).1]; exact q2
      rw [eq] at q
      exact q
    refine .inl ⟨wk.stop _ F2 H2 _ E2 G2 _ S2 s2 (Nat.le_refl _), hk _ _ _ h2 _ F2 H2 S4 (s1.trans s2) ⟨D, rfl, ⟨hF, hB, hG, hP, xs, hH, ra⟩, fun j t es hj ht e => ?_⟩⟩
    by_cases hm : j ∈ vs
    · have z := hw2 j hm _ hj
      subst z
      cases ht
    · exact no j t es hj ht (by rw [wipe_out' hm]; exact e)
end
end L3

set_option Elab.async false
set_option maxRecDepth 100000
set_option maxHeartbeats 4000000
/-! L3, part f: comprehensions as values, defs; the operators. -/
namespace L3
open PySem PySem.Spec PyProof.Rows L2
section
variable {X : Cx} {B : Base3}
theorem le_lc {elt tg iter : Expr} {ifs : List Expr} {scope : Scope} {own : List (Str × Nat)} {pos : Pos} {di : DI} {g : DG} {tt : DT} {te : DE} (hc : X.calm = true) (hN : X.N.Nodup) (hi : LI X B tg iter di) (ok : BlkOk X.N X.env.scope scope own)
    (hg : ∀ (s : Shared) (H : Hp) (C : Addr) (cl : List (Str × Addr)) (fp : List Addr), LG (X.blk s H scope (compEnvC scope cl C X.env) fp) B (own.map (·.2)) tg g) (ht : ∀ (s : Shared) (H : Hp) (C : Addr) (cl : List (Str × Addr)) (fp : List Addr), LiftTs (X.blk s H scope (compEnvC scope cl C X.env) fp) B ifs tt)
    (he : ∀ (s : Shared) (H : Hp) (C : Addr) (cl : List (Str × Addr)) (fp : List Addr), LE (X.blk s H scope (compEnvC scope cl C X.env) fp) B elt te) (hs : ∀ x, foldedSetIterable iter X.env x = pure x := by intro _; rfl) :
    LE X B (.ListComp elt [⟨tg, iter, ifs, 0⟩] scope pos) (dLc di g tt te (own.map (·.2))) :=
  ⟨pe_imp (pe_lc hc hN hi.pi ok (fun s H C cl fp => (hg s H C cl fp).pg) (fun s H C cl fp => (show PTs _ ifs (LiftT X.K B tt) from ht s H C cl fp)) (fun s H C cl fp => (he s H C cl fp).pe) hs) fun σ H Q h => lc3 h⟩
/-- name = [..] on one line -/
theorem ls_setLc {i : Nat} {y : Str} {py : Pos} {elt tg iter : Expr} {ifs : List Expr} {scope : Scope} {own : List (Str × Nat)} {pos spos : Pos} {di : DI} {g : DG} {tt : DT} {te : DE} (hc : X.calm = true) (hN : X.N.Nodup) (hy : X.N[i]? = some y) (hyl : X.env.scope.names.lookup y = some .local)
    (hsw : swapsWith (.ListComp elt [⟨tg, iter, ifs, 0⟩] scope pos) (some (.Name y py)) spos.line X.env = pure true) (hi : LI X B tg iter di) (ok : BlkOk X.N X.env.scope scope own)
    (hg : ∀ (s : Shared) (H : Hp) (C : Addr) (cl : List (Str × Addr)) (fp : List Addr), LG (X.blk s H scope (compEnvC scope cl C X.env) fp) B (own.map (·.2)) tg g) (ht : ∀ (s : Shared) (H : Hp) (C : Addr) (cl : List (Str × Addr)) (fp : List Addr), LiftTs (X.blk s H scope (compEnvC scope cl C X.env) fp) B ifs tt)
    (he : ∀ (s : Shared) (H : Hp) (C : Addr) (cl : List (Str × Addr)) (fp : List Addr), LE (X.blk s H scope (compEnvC scope cl C X.env) fp) B elt te) (hs : ∀ x, foldedSetIterable iter X.env x = pure x := by intro _; rfl) :
    LS X B (.Assign [.Name y py] (.ListComp elt [⟨tg, iter, ifs, 0⟩] scope pos) spos) (dSet i (dLc di g tt te (own.map (·.2)))) :=
  ⟨ps_imp (ps_setLc hc hN hy hyl hsw hi.pi ok (fun s H C cl fp => (hg s H C cl fp).pg) (fun s H C cl fp => (show PTs _ ifs (LiftT X.K B tt) from ht s H C cl fp)) (fun s H C cl fp => (he s H C cl fp).pe) hs) fun D σ H ⟨pn, F, E, G, D3, S, h, ok⟩ => by
    refine lc3 (Q := fun x H1 => gName i x σ H1 D.nx) ⟨pn, F, E, G, _, S, h, fun r E1 G1 ⟨hi, E2, hp, h1⟩ v F1 H1 S1 s1 r1 => ?_⟩
    obtain ⟨F2, S2, s2⟩ := S1.put hi r1 hp
    exact ok.nx E2 G1 h1 _ F2 H1 S2 (s1.trans s2)⟩
end

/-! ### defs -/
def start3 (N : List Str) (ds : List D) : Env3 := ds.map Sl3.val ++ List.replicate (N.length - ds.length) Sl3.no
section
variable {P : Program} {w : World} {K : PySem.W.Frag} {mg : Str → Option Value} {base : Heap}
theorem start_st {N : List Str} {F H : Hp} {G : Reg} {ds : List D} {vs : List V} (wl : Wld K F H G) (r : RepL K F ds vs) : St3 K ⟨F, H, G.map (·.1), 0⟩ [] F H (L2.start N vs) (start3 N ds) G := by
  have hl := r.length
  have look : ∀ {i : Nat} {s : Sl3}, (start3 N ds)[i]? = some s → (∃ d, ds[i]? = some d ∧ s = Sl3.val d) ∨ s = Sl3.no := fun {i s} h => by
    unfold start3 at h
    by_cases q : i < ds.length
    · rw [List.getElem?_append_left (by simpa using q), List.getElem?_map] at h
      rw [List.getElem?_eq_getElem q] at h ⊢
      exact .inl ⟨_, rfl, (Option.some.inj h).symm⟩
    · rw [List.getElem?_append_right (by simpa using Nat.le_of_not_lt q)] at h
      have := List.mem_of_getElem? h
      exact .inr (List.eq_of_mem_replicate this)
  refine ⟨wl, Same.refl F, fun a o h _ => h, fun a o _ _ h => h, fun a h => .inl h, fun a h => h, ?_, fun i d h => ?_, fun i s d h ho => ?_, fun i j s t d e a h _ ho => ?_, fun a xs h => (by cases h), ⟨List.nodup_nil, fun p h => (by cases h)⟩, fun nm fs h => (look h).elim (fun ⟨_, _, z⟩ => by cases z) fun z => by cases z⟩
  · unfold start3 L2.start
    simp only [List.length_append, List.length_map, List.length_replicate, hl]
  · rcases look h with ⟨d', h1, h2⟩ | z
    · cases h2
      obtain ⟨v, h3, h4⟩ := r.get h1
      refine ⟨v, ?_, h4⟩
      have hlt := lt_of_look h3
      unfold L2.start
      rw [List.getElem?_append_left (by simpa using hlt), List.getElem?_map, h3]
      rfl
    · cases z
  · rcases look h with ⟨d', h1, h2⟩ | z
    · subst h2; cases ho
    · subst z; cases ho
  · rcases look h with ⟨d', h1, h2⟩ | z
    · subst h2; cases ho
    · subst z; cases ho
theorem St3.afterB {F H F' H' : Hp} {G G' : Reg} {pn : Pend} {σ : L2.St} {E : Env3} (S : St3 K ⟨F, H, G.map (·.1), 0⟩ pn F' H' σ E G') : After K F H G F' H' G' :=
  ⟨S.w, S.keepF, S.keepH, S.unfr, S.regs, S.regk⟩
/-- THE RULE for a def: its body as a term of rules, and what it makes of plain values -/
theorem ok3 {x qual : Str} {st : Stmt} {f : Addr} {fd : FuncData} {N ps : List Str} {k : Nat} {sp : DSp} (F : Fun K x qual st f fd) (S : FnScope N ps (defScope st)) (len : ∀ ds G q e, sp ds G q e → ds.length = ps.length)
    (body : ∀ (cdv : Value) (A : Around) (outer : List Env) (s : Shared) (H : Hp) (E : XK) (B : Base3) (dw : Exc3 → Reg → Prop), Room k (A.deeper (envOfC qual (defScope st) s.heap.objs.size f cdv)) →
      WOkL (cxOf (L2.CX P w) P w K mg base N qual (defScope st) f cdv A outer s H E) B (fun x _ G => dw x G) →
      ∃ t : DSt, LSs (cxOf (L2.CX P w) P w K mg base N qual (defScope st) f cdv A outer s H E) B (defBody st) t ∧ ∀ ds G q, sp ds G q dw → t { nx := fun _ G' => q (.val .non) G', rt := q } (start3 N ds) G) :
    FnOk P w K mg base (L2.CX P w) (k + 1) f fd ps (LSp K sp) := by
  refine F.okX S (fun vs H Q E h => ?_) (fun cdv A outer s H vs Q E hr h => ?_)
  · obtain ⟨F, G, ds, q, e, _, r, h, _⟩ := h
    rw [← r.length]
    exact len _ _ _ _ h
  · obtain ⟨F, G, ds, q, e, wl, r, h, hq, he⟩ := h
    have wk : WOkL (cxOf (L2.CX P w) P w K mg base N qual (defScope st) f cdv A outer s H E) ⟨F, H, G.map (·.1), 0⟩ (fun x _ G => e x G) :=
      ⟨⟨fun cls d H => E cls d H, takes_of rfl rfl rfl rfl, fun pn F' H' σ E' G' x cls dd S' rx hx => he x G' hx cls dd F' H' S'.afterB rx⟩, lk_self⟩
    obtain ⟨t, hb, ht⟩ := body cdv A outer s H E ⟨F, H, G.map (·.1), 0⟩ e hr wk
    refine ⟨_, hb.pss, ⟨[], F, start3 N ds, G, _, start_st wl r, ht ds G q h, ⟨fun E' G' h' σ' F' H' S' _ => hq _ _ h' _ F' H' S'.afterB .non, fun r' G' h' v F' H' σ' E' S' _ rr => hq _ _ h' v F' H' S'.afterB ?_, fun _ _ z => z.elim, fun _ _ z => z.elim⟩⟩⟩
    cases r' with
    | val d => exact rr
    | fr es =>
      obtain ⟨a, rfl, f⟩ := rr
      obtain ⟨xs, h1, h2⟩ := f.ex
      exact ⟨a, xs, rfl, f.nF, f.nB, f.nG, h1, h2⟩
    | frD d =>
      obtain ⟨a, rfl, f⟩ := rr
      obtain ⟨o, h1, h2⟩ := f.ex
      exact ⟨a, o, rfl, f.nF, f.nB, f.nG, h1, h2⟩
    | sl i => exact rr.elim
end

/-! ### plain data that can be compared -/
mutual
def D.py : D → PyData
  | .non => .none
  | .bl b => .bool b
  | .int i => .int i
  | .str x => .str x
  | .ref _ => .none
  | .ty _ => .none
  | .scr _ => .none
  | .obj _ _ => .none
  | .cls _ => .none
  | .dcK _ _ => .none
  | .dcT _ _ => .none
  | .ktp _ => .none
  | .tag _ => .none
  | .tup ds => .tuple (pyL ds)
  | .lst ds => .list (pyL ds)
def pyL : List D → List PyData
  | [] => []
  | d :: ds => d.py :: pyL ds
end
def shl (p : D → Bool) : D → Bool
  | .tup ds => ds.all p
  | .lst ds => ds.all p
  | .ref _ => false
  | .ty _ => false
  | .scr _ => false
  | .obj _ _ => false
  | .cls _ => false
  | .dcK _ _ => false
  | .dcT _ _ => false
  | .ktp _ => false
  | .tag _ => false
  | .str x => PyData.strOk x
  | _ => true
def sh0 : D → Bool
  | .tup ds => ds.isEmpty
  | .lst ds => ds.isEmpty
  | .ref _ => false
  | .ty _ => false
  | .scr _ => false
  | .obj _ _ => false
  | .cls _ => false
  | .dcK _ _ => false
  | .dcT _ _ => false
  | .ktp _ => false
  | .tag _ => false
  | .str x => PyData.strOk x
  | _ => true
def D.sh : D → Bool := shl (shl (shl (shl (shl sh0))))
/-- as sh, told so that the kernel reckons it -/
def strOkC (x : Str) : Bool := x.cps.toList.all fun c => Nat.blt c 0x110000
theorem strOkC_of {x : Str} (h : strOkC x = true) : PyData.strOk x = true := by
  unfold PyData.strOk
  rw [Array.all_eq_true']
  intro c hc
  have := List.all_eq_true.mp h c (Array.mem_toList_iff.mpr hc)
  exact decide_eq_true (Nat.blt_eq.mp this)
def shlC (p : D → Bool) : D → Bool
  | .tup ds => ds.all p
  | .lst ds => ds.all p
  | .str x => strOkC x
  | .non => true
  | .bl _ => true
  | .int _ => true
  | _ => false
def sh0C : D → Bool
  | .tup ds => ds.isEmpty
  | .lst ds => ds.isEmpty
  | .str x => strOkC x
  | .non => true
  | .bl _ => true
  | .int _ => true
  | _ => false
def D.shC : D → Bool := shlC (shlC (shlC (shlC (shlC sh0C))))
theorem sh0C_of : ∀ {d : D}, sh0C d = true → sh0 d = true := fun {d} h => by
  cases d <;> first | exact h | exact strOkC_of h | cases h
theorem shlC_of {p q : D → Bool} (hp : ∀ {d : D}, p d = true → q d = true) : ∀ {d : D}, shlC p d = true → shl q d = true := fun {d} h => by
  cases d with
  | tup ds => exact List.all_eq_true.mpr fun x hx => hp (List.all_eq_true.mp h x hx)
  | lst ds => exact List.all_eq_true.mpr fun x hx => hp (List.all_eq_true.mp h x hx)
  | str x => exact strOkC_of h
  | _ => first | rfl | cases h
theorem shC_of {d : D} (h : d.shC = true) : d.sh = true := shlC_of (fun h => shlC_of (fun h => shlC_of (fun h => shlC_of (fun h => shlC_of sh0C_of h) h) h) h) h
def D.eqv (d e : D) : Bool := PyData.eqv d.py e.py
def ShOk (p : D → Bool) (m : Nat) : Prop := ∀ (K : PySem.W.Frag) (F : Hp) (d : D) (v : V), p d = true → Rep K F d v → Dp K F v d.py ∧ d.py.canLay0 = true ∧ d.py.depth ≤ m
theorem pyL_map : ∀ ds : List D, pyL ds = ds.map D.py
  | [] => rfl
  | d :: ds => by rw [pyL, pyL_map ds]; rfl
theorem sh0_ok : ShOk sh0 1 := by
  intro K F d v h r
  cases r with
  | non => exact ⟨.non, rfl, by simp [D.py, PyData.depth]⟩
  | bl b => exact ⟨.bl b, rfl, by simp [D.py, PyData.depth]⟩
  | int b => exact ⟨.int b, rfl, by simp [D.py, PyData.depth]⟩
  | str b => exact ⟨.str b, h, by simp [D.py, PyData.depth]⟩
  | ref a => cases h
  | ty n => cases h
  | scr n => cases h
  | obj _ _ _ _ => cases h
  | cls _ => cases h
  | dcK _ _ _ => cases h
  | dcT _ _ _ => cases h
  | ktp _ => cases h
  | @tup a xs ds hs ha =>
    cases ds with
    | nil => cases ha; exact ⟨.tup (SqT.of hs) .nil, rfl, by simp [D.py, pyL, PyData.depth, PyData.depthAll]⟩
    | cons _ _ => cases h
  | @lst a xs ds hs ha =>
    cases ds with
    | nil => cases ha; exact ⟨.lst (.inl hs) .nil, rfl, by simp [D.py, pyL, PyData.depth, PyData.depthAll]⟩
    | cons _ _ => cases h
theorem shl_all {p : D → Bool} {m : Nat} (hp : ShOk p m) {K : PySem.W.Frag} {F : Hp} : ∀ (ds : List D) (vs : List V), ds.all p = true → RepL K F ds vs → DpAll K F vs (pyL ds) ∧ PyData.canLayAll0 (pyL ds) = true ∧ PyData.depthAll (pyL ds) ≤ m
  | [], _, _, r => by cases r; exact ⟨.nil, rfl, Nat.zero_le _⟩
  | d :: ds, _, h, r => by
    cases r with
    | cons r1 r2 =>
      rw [List.all_cons, Bool.and_eq_true] at h
      obtain ⟨h1, h2, h3⟩ := hp K F d _ h.1 r1
      obtain ⟨q1, q2, q3⟩ := shl_all hp ds _ h.2 r2
      exact ⟨.cons h1 q1, by simp [pyL, PyData.canLayAll0, h2, q2], by simp only [pyL, PyData.depthAll]; exact Nat.max_le.mpr ⟨h3, q3⟩⟩
theorem shl_ok {p : D → Bool} {m : Nat} (hp : ShOk p m) : ShOk (shl p) (m + 1) := by
  intro K F d v h r
  cases r with
  | non => exact ⟨.non, rfl, by simp [D.py, PyData.depth]⟩
  | bl b => exact ⟨.bl b, rfl, by simp [D.py, PyData.depth]⟩
  | int b => exact ⟨.int b, rfl, by simp [D.py, PyData.depth]⟩
  | str b => exact ⟨.str b, h, by simp [D.py, PyData.depth]⟩
  | ref a => cases h
  | ty n => cases h
  | scr n => cases h
  | obj _ _ _ _ => cases h
  | cls _ => cases h
  | dcK _ _ _ => cases h
  | dcT _ _ _ => cases h
  | ktp _ => cases h
  | @tup a xs ds hs ha =>
    obtain ⟨h1, h2, h3⟩ := shl_all hp ds xs h ha
    exact ⟨.tup (SqT.of hs) h1, by simpa [D.py, PyData.canLay0] using h2, by simp only [D.py, PyData.depth]; omega⟩
  | @lst a xs ds hs ha =>
    obtain ⟨h1, h2, h3⟩ := shl_all hp ds xs h ha
    exact ⟨.lst (.inl hs) h1, by simpa [D.py, PyData.canLay0] using h2, by simp only [D.py, PyData.depth]; omega⟩
theorem sh_ok : ShOk D.sh 6 := shl_ok (shl_ok (shl_ok (shl_ok (shl_ok sh0_ok))))
mutual
theorem Dp.mono3 {K : PySem.W.Frag} {F F' : Hp} (e : Same F F') : ∀ (d : PyData) (v : V), Dp K F v d → Dp K F' v d
  | .none, _, h => by cases h; exact .non
  | .bool _, _, h => by cases h; exact .bl _
  | .int _, _, h => by cases h; exact .int _
  | .str _, _, h => by cases h; exact .str _
  | .list ds, _, h => by
    cases h with
    | lst hs ha => exact .lst (e.seq hs) (DpAll.mono3 e ds _ ha)
  | .tuple ds, _, h => by
    cases h with
    | tup hs ha => exact .tup (sameT e hs) (DpAll.mono3 e ds _ ha)
  | .dict _, _, h => by cases h
theorem DpAll.mono3 {K : PySem.W.Frag} {F F' : Hp} (e : Same F F') : ∀ (ds : List PyData) (vs : List V), DpAll K F vs ds → DpAll K F' vs ds
  | [], _, h => by cases h; exact .nil
  | d :: ds, _, h => by
    cases h with
    | cons h1 h2 => exact .cons (Dp.mono3 e d _ h1) (DpAll.mono3 e ds _ h2)
end
theorem sh_H {K : PySem.W.Frag} {F H : Hp} {d : D} {v : V} (s : Same F H) (h : d.sh = true) (r : RepH K F H d v) : Dp K H v d.py ∧ SeqAt.shaped d.py = true := by
  have fin : ∀ {d : D}, Dp K H v d.py ∧ d.py.canLay0 = true ∧ d.py.depth ≤ 6 → Dp K H v d.py ∧ SeqAt.shaped d.py = true := fun {d} ⟨a, b, c⟩ => ⟨a, by unfold SeqAt.shaped; rw [b, Bool.true_and]; exact decide_eq_true (by omega)⟩
  rcases r with r | ⟨a, o, rfl, h1, h2⟩
  · obtain ⟨q1, q2, q3⟩ := sh_ok K F d v h r
    exact fin ⟨Dp.mono3 s _ _ q1, q2, q3⟩
  · obtain ⟨ds, rfl⟩ : ∃ ds, d = .lst ds := by
      cases d with
      | lst ds => exact ⟨ds, rfl⟩
      | dcT ks ds => cases h
      | dcK ks ds => cases h
      | _ => exact h2.elim
    obtain ⟨xs, rfl, h2⟩ := h2
    obtain ⟨q1, q2, q3⟩ := shl_all (shl_ok (shl_ok (shl_ok (shl_ok sh0_ok)))) ds xs h (RepL.mono s _ _ h2)
    refine fin (d := .lst ds) ⟨.lst (SqL.of h1) q1, by simpa [D.py, PyData.canLay0] using q2, by simp only [D.py, PyData.depth]; omega⟩
theorem RepH.lst {K : PySem.W.Frag} {F H : Hp} {ds : List D} {v : V} (r : RepH K F H (.lst ds) v) (s : Same F H) : ∃ a xs, v = .ref a ∧ Rd H a (.lst xs) ∧ RepL K F ds xs := by
  rcases r with r | ⟨a, o, rfl, h1, h2⟩
  · cases r with
    | lst hs ha => exact ⟨_, _, rfl, sameR s hs, ha⟩
  · obtain ⟨xs, rfl, h2⟩ := h2
    exact ⟨a, xs, rfl, Rd.of h1, h2⟩
theorem RepH.dct {K : PySem.W.Frag} {F H : Hp} {ks : List (List Key)} {ds : List D} {v : V} (r : RepH K F H (.dcT ks ds) v) (s : Same F H) : ∃ a ob xs, v = .ref a ∧ H a = some (.frz ob (.dT (ks.zip xs))) ∧ ks.length = xs.length ∧ RepL K F ds xs := by
  rcases r with r | ⟨a, o, rfl, h1, h2⟩
  · cases r with
    | dcT e hl ha => exact ⟨_, _, _, rfl, s _ _ e, hl, ha⟩
  · obtain ⟨ob, xs, rfl, hl, h2⟩ := h2
    exact ⟨a, ob, xs, rfl, h1, hl, h2⟩
theorem RepH.dck {K : PySem.W.Frag} {F H : Hp} {ks : List Key} {ds : List D} {v : V} (r : RepH K F H (.dcK ks ds) v) (s : Same F H) : ∃ a ob xs, v = .ref a ∧ H a = some (.frz ob (.dK (ks.zip xs))) ∧ ks.length = xs.length ∧ RepL K F ds xs := by
  rcases r with r | ⟨a, o, rfl, h1, h2⟩
  · cases r with
    | dcK e hl ha => exact ⟨_, _, _, rfl, s _ _ e, hl, ha⟩
  · obtain ⟨ob, xs, rfl, hl, h2⟩ := h2
    exact ⟨a, ob, xs, rfl, h1, hl, h2⟩
/-- a dict -/
def D.isDc : D → Bool
  | .dcT _ _ => true
  | .dcK _ _ => true
  | _ => false
theorem RepH.val {K : PySem.W.Frag} {F H : Hp} {d : D} {v : V} (r : RepH K F H d v) (n : ∀ ds, d ≠ .lst ds) (m : d.isDc = false := by rfl) : Rep K F d v := by
  rcases r with r | ⟨a, o, rfl, h1, h2⟩
  · exact r
  · cases d with
    | lst ds => exact absurd rfl (n ds)
    | dcT ks ds => cases m
    | dcK ks ds => cases m
    | _ => exact h2.elim
theorem RepH.tup {K : PySem.W.Frag} {F H : Hp} {ds : List D} {v : V} (r : RepH K F H (.tup ds) v) (s : Same F H) : ∃ a xs, v = .ref a ∧ SqT K H a xs ∧ RepL K F ds xs := by
  cases r.val (fun _ q => nomatch q) with
  | tup hs ha => exact ⟨_, _, rfl, SqT.of (s _ _ hs), ha⟩
theorem RepH.ktp {K : PySem.W.Frag} {F H : Hp} {ns : List Int} {v : V} (r : RepH K F H (.ktp ns) v) (s : Same F H) : ∃ a, v = .ref a ∧ SqT K H a (ns.map V.int) := by
  cases r.val (fun _ q => nomatch q) with
  | ktp hs => exact ⟨_, rfl, sameT s hs⟩
theorem ktp_dp {K : PySem.W.Frag} {H : Hp} {a : Addr} {ns : List Int} (h : SqT K H a (ns.map V.int)) : Dp K H (.ref a) (D.tup (ns.map D.int)).py ∧ SeqAt.shaped (D.tup (ns.map D.int)).py = true := by
  have e : (ns.map D.int).all sh0 = true := List.all_eq_true.mpr fun d hd => by
    obtain ⟨i, _, rfl⟩ := List.mem_map.mp hd
    rfl
  obtain ⟨h1, h2, h3⟩ := shl_all sh0_ok (ns.map D.int) (ns.map V.int) e (RepL.ints (K := K) (F := H) ns)
  refine ⟨.tup h h1, ?_⟩
  unfold SeqAt.shaped
  rw [Bool.and_eq_true]
  exact ⟨by simpa [D.py, PyData.canLay0] using h2, decide_eq_true (by simp only [D.py, PyData.depth]; omega)⟩
theorem RepH.int {K : PySem.W.Frag} {F H : Hp} {i : Int} {v : V} (r : RepH K F H (.int i) v) : v = .int i := by
  cases r.val (fun _ q => nomatch q); rfl
theorem RepH.bl {K : PySem.W.Frag} {F H : Hp} {i : Bool} {v : V} (r : RepH K F H (.bl i) v) : v = .bl i := by
  cases r.val (fun _ q => nomatch q); rfl
theorem RepH.str {K : PySem.W.Frag} {F H : Hp} {i : Str} {v : V} (r : RepH K F H (.str i) v) : v = .str i := by
  cases r.val (fun _ q => nomatch q); rfl
theorem RepH.non {K : PySem.W.Frag} {F H : Hp} {v : V} (r : RepH K F H .non v) : v = .non := by
  cases r.val (fun _ q => nomatch q); rfl
end L3

set_option Elab.async false
set_option maxRecDepth 100000
set_option maxHeartbeats 4000000
/-! L3, part g: operators, subscripts, built-ins over plain values. -/
namespace L3
open PySem PySem.Spec PyProof.Rows L2
section
variable {X : Cx} {B : Base3}
/-! ### list + list, list * int: also of a list that is locked -/
def rCatR : R2 := fun x y H Q => ∃ l b xs zs, x = .ref l ∧ y = .ref b ∧ Rd H l (.lst xs) ∧ Rd H b (.lst zs) ∧ xs.length + zs.length ≤ sizeLine ∧ ∀ p, H p = none → Q (.ref p) (upd H p (.lst (xs ++ zs)))
theorem op_catR : OpR X (binaryOp .Add) rCatR := by
  intro pins s σ H x y v u Q I rx ry h
  obtain ⟨l, b, xs, zs, rfl, rfl, hH, hB, hz, q⟩ := h
  cases rx
  cases ry
  obtain ⟨z, its, n, r, e⟩ := hH.ok I.hok
  obtain ⟨z2, its2, n2, r2, e2⟩ := hB.ok I.hok
  have hl := r.length
  have hl2 := r2.length
  refine PySem.P.add_list e e2 ?_ (by rw [List.size_toArray, List.size_toArray]; omega)
  have ea : its.toArray ++ its2.toArray = (its ++ its2).toArray := by simp
  rw [ea]
  exact ⟨.ref _, _, I.lnew (t' := s.toks) (r.append r2) (by rw [List.length_append]; omega), rfl, q _ I.fresh⟩
def rRepR : R2 := fun x y H Q => ∃ l k xs, x = .ref l ∧ y = .int k ∧ Rd H l (.lst xs) ∧ -(2 ^ 63) ≤ k ∧ k < 2 ^ 63 ∧ xs.length * k.toNat ≤ sizeLine ∧
  ∀ p, H p = none → Q (.ref p) (upd H p (.lst (List.replicate k.toNat xs).flatten))
theorem op_repR : OpR X (binaryOp .Mult) rRepR := by
  intro pins s σ H x y v u Q I rx ry h
  obtain ⟨l, k, xs, rfl, rfl, hH, h1, h2, hz, q⟩ := h
  cases rx
  obtain ⟨t, rfl⟩ := ry
  obtain ⟨z, its, n, r, e⟩ := hH.ok I.hok
  have hl := r.length
  have hlen : its.toArray.size * k.toNat ≤ sizeLine := by rw [List.size_toArray, ← hl]; exact hz
  have hcap : ¬ its.toArray.size * k.toNat > (2 ^ 63 - 1) / 8 := by
    have : (sizeLine : Nat) ≤ (2 ^ 63 - 1) / 8 := by decide
    omega
  have hfit : ¬ (!Builtin.List.listFitsIndex k) = true := by
    rw [fitsIndex_both h1 h2]
    exact Bool.false_ne_true
  have hlong : ¬ Builtin.List.listTooLong (its.toArray.size * k.toNat) = true := by
    rw [notLongL hlen]
    exact Bool.false_ne_true
  have hnew : List.foldl (fun x1 x2 => x1 ++ x2) #[] (List.replicate (if its.toArray.isEmpty = true then 0 else k.toNat) its.toArray) = (List.replicate k.toNat its).flatten.toArray := by
    have f0 : ∀ m : Nat, List.foldl (fun x1 x2 => x1 ++ x2) #[] (List.replicate m its.toArray) = (List.replicate m its).flatten.toArray := fun m => by
      have := foldl_rep its m []
      rw [List.nil_append] at this
      exact this
    rw [f0]
    cases its with
    | nil => simp
    | cons a r' => rw [if_neg (by simp)]
  refine wpAny_binaryOp_repeat_ref (T := "list") (U := "int") (by decide) ⟨_, e, rfl⟩ (fun s' => typeIs_int s' k t) noFill_list_mul F.fills_int_mul F.slot_int_rmul repeat_list F.slot_int_index.lookup
    (call_meets F.slot_int_rmul (typeIs_int s k t) F.entry_int_rmul (F.args_int_rmul_2 _ _) (int___rmul___int_list k t l its.toArray n)
      ⟨e, rfl, ⟨_, e, rfl⟩, call_meets F.slot_list_mul ⟨_, e, rfl⟩ F.entry_list_mul (F.args_list_mul_2 _ _) (AutoListH.list___mul___list_int_3 l its.toArray n k t hfit hcap hlong) ⟨e, ?_⟩⟩)
  rw [hnew]
  exact ⟨.ref _, _, I.lnew (t' := s.toks) (r.rep k.toNat) (by rw [PyProof.Rows.lm_len_rep_flat, Nat.mul_comm]; exact hz), rfl, q _ I.fresh⟩

/-! ### + - * // % ** -/
def oAdd : Reg → D → D → (Res → Prop) → Prop := fun _ d e k => match d, e with
  | .int i, .int j => k (.val (.int (i + j)))
  | .str a, .str b => a.length + b.length ≤ sizeLine ∧ k (.val (.str (a ++ b)))
  | .tup a, .tup b => a.length + b.length ≤ sizeLine ∧ k (.val (.tup (a ++ b)))
  | .lst a, .lst b => a.length + b.length ≤ sizeLine ∧ k (.fr (a ++ b))
  | _, _ => False
def rAdd3 (K : PySem.W.Frag) : R2 := fun x y H Q => rI0 (fun i j => .int (i + j)) x y H Q ∨ (∃ i j, x = .str i ∧ y = .str j ∧ i.length + j.length ≤ sizeLine ∧ Q (.str (i ++ j)) H) ∨ rCatA K x y H Q ∨ rCatR x y H Q
theorem op_add3 : OpR X (binaryOp .Add) (rAdd3 X.K) := op_add.or (op_add_str.or (op_catA.or op_catR))
theorem r_add3 : ROp X B (rAdd3 X.K) oAdd := by
  intro pn F H σ E G x y d e k Q S rx ry h hk
  unfold oAdd at h
  split at h
  · rw [rx.int, ry.int]
    exact .inl ⟨_, _, rfl, rfl, hk _ h _ F H S (Same.refl F) (.int _)⟩
  · rw [rx.str, ry.str]
    exact .inr (.inl ⟨_, _, rfl, rfl, h.1, hk _ h.2 _ F H S (Same.refl F) (.str _)⟩)
  · rename_i a b
    obtain ⟨p, xs, rfl, hs, ra⟩ := rx.tup S.w.sub
    obtain ⟨p2, ys, rfl, hs2, rb⟩ := ry.tup S.w.sub
    have rx' := rx.val (fun _ q => nomatch q)
    have ry' := ry.val (fun _ q => nomatch q)
    refine .inr (.inr (.inl ⟨p, p2, xs, ys, rfl, rfl, hs, hs2, by rw [← ra.length, ← rb.length]; exact h.1, fun e => ?_, fun _ e => ?_, fun _ _ q nq => ?_⟩))
    · have ea : a = [] := by cases a with | nil => rfl | cons _ _ => rw [e] at ra; cases ra
      subst ea
      exact hk _ h.2 _ F H S (Same.refl F) ry'
    · have eb : b = [] := by cases b with | nil => rfl | cons _ _ => rw [e] at rb; cases rb
      subst eb
      rw [List.append_nil] at h
      exact hk _ h.2 _ F H S (Same.refl F) rx'
    · obtain ⟨S2, s2⟩ := S.newF (o := .tup (xs ++ ys)) nq
      exact hk _ h.2 _ _ _ S2 s2 (.tup upd_same (RepL.mono s2 _ _ (ra.append rb)))
  · obtain ⟨p, xs, rfl, hs, ra⟩ := rx.lst S.w.sub
    obtain ⟨p2, ys, rfl, hs2, rb⟩ := ry.lst S.w.sub
    refine .inr (.inr (.inr ⟨p, p2, xs, ys, rfl, rfl, hs, hs2, by rw [← ra.length, ← rb.length]; exact h.1, fun q nq => ?_⟩))
    obtain ⟨f, no⟩ := S.newFre nq (ra.append rb)
    exact hk _ h.2 _ _ _ (S.newU nq) (Same.refl F) ⟨q, rfl, f, no⟩
  · exact h.elim
theorem le_add {a b : Expr} {ta tb : DE} {pos} (ha : LE X B a ta) (hb : LE X B b tb) : LE X B (.BinOp a .Add b pos) (dOp oAdd ta tb) := le_op op_add3 r_add3 ha hb

def oSub : Reg → D → D → (Res → Prop) → Prop := fun _ d e k => match d, e with
  | .int i, .int j => k (.val (.int (i - j)))
  | _, _ => False
/-- an operator of ints -/
theorem r_ii {C : Int → Int → Prop} {g : Int → Int → Int} {rd : Reg → D → D → (Res → Prop) → Prop} (h : ∀ G d e k, rd G d e k → ∃ i j, d = .int i ∧ e = .int j ∧ C i j ∧ k (.val (.int (g i j)))) : ROp X B (rI C fun i j => .int (g i j)) rd := by
  intro pn F H σ E G x y d e k Q S rx ry hr hk
  obtain ⟨i, j, rfl, rfl, hc, q⟩ := h _ _ _ _ hr
  exact ⟨i, j, rx.int, ry.int, hc, hk _ q _ F H S (Same.refl F) (.int _)⟩
theorem r_ii0 {g : Int → Int → Int} {rd : Reg → D → D → (Res → Prop) → Prop} (h : ∀ G d e k, rd G d e k → ∃ i j, d = .int i ∧ e = .int j ∧ k (.val (.int (g i j)))) : ROp X B (rI0 fun i j => .int (g i j)) rd := by
  intro pn F H σ E G x y d e k Q S rx ry hr hk
  obtain ⟨i, j, rfl, rfl, q⟩ := h _ _ _ _ hr
  exact ⟨i, j, rx.int, ry.int, hk _ q _ F H S (Same.refl F) (.int _)⟩
theorem r_ib0 {g : Int → Int → Bool} {rd : Reg → D → D → (Res → Prop) → Prop} (h : ∀ G d e k, rd G d e k → ∃ i j, d = .int i ∧ e = .int j ∧ k (.val (.bl (g i j)))) : ROp X B (rI0 fun i j => .bl (g i j)) rd := by
  intro pn F H σ E G x y d e k Q S rx ry hr hk
  obtain ⟨i, j, rfl, rfl, q⟩ := h _ _ _ _ hr
  exact ⟨i, j, rx.int, ry.int, hk _ q _ F H S (Same.refl F) (.bl _)⟩
theorem r_sub3 : ROp X B (rI0 fun i j => .int (i - j)) oSub := r_ii0 fun G d e k h => by
  unfold oSub at h
  split at h
  · exact ⟨_, _, rfl, rfl, h⟩
  · exact h.elim
theorem le_sub {a b : Expr} {ta tb : DE} {pos} (ha : LE X B a ta) (hb : LE X B b tb) : LE X B (.BinOp a .Sub b pos) (dOp oSub ta tb) := le_op op_sub r_sub3 ha hb

/-- a product's size: one factor within 2 ^ 64, or both together below a million bits -/
def MulOk (i j : Int) : Prop := CMul i j ∨ CMulW i j
theorem op_mulI : OpR X (binaryOp .Mult) (rI MulOk fun i j => .int (i * j)) := by
  intro pins s σ H x y v u Q I rx ry h
  obtain ⟨i, j, rfl, rfl, hc, q⟩ := h
  rcases hc with hc | hc
  · exact op_mul pins s σ H _ _ v u Q I rx ry ⟨i, j, rfl, rfl, hc, q⟩
  · exact op_mulW pins s σ H _ _ v u Q I rx ry ⟨i, j, rfl, rfl, hc, q⟩
/-- the built-in at count one hands the tuple itself back -/
theorem tup_times_one (l : Addr) (its : Array Value) (n : Nat) (dd : Option Addr) (sl : Array (Option Value)) (u : Tok) :
    Meets (Builtin.«tuple.__mul__» ⟨[Value.ref l, Value.int 1 u], []⟩) (fun _ R s =>
      s.heap.get? l = some ⟨.type "tuple", dd, .seq its n, sl⟩ ∧ R (.ok (.ret (Value.ref l))) s) := by
  refine .of_wp fun prog w A R s h => ?_
  obtain ⟨hp, g, d, tk, os⟩ := s
  obtain ⟨hl, h⟩ := h
  have f1 := AutoSeq1.idx_int
  wp_walk using wpAny_loadPart' hl
  exact ⟨_, rfl, h⟩
theorem tup_times_none (l : Addr) (its : Array Value) (n : Nat) (dd : Option Addr) (sl : Array (Option Value)) (u : Tok) (hn : its.isEmpty = false) :
    Meets (Builtin.«tuple.__mul__» ⟨[Value.ref l, Value.int 0 u], []⟩) (fun _ R s =>
      s.heap.get? l = some ⟨.type "tuple", dd, .seq its n, sl⟩ ∧
      R (.ok (.ret (Value.ref s.heap.objs.size))) { s with heap := s.heap.push { cls := Value.type "tuple", data := Data.seq #[] }, toks := s.toks }) := by
  refine .of_wp fun prog w A R s h => ?_
  obtain ⟨hp, g, d, tk, os⟩ := s
  obtain ⟨hl, h⟩ := h
  have f1 := AutoSeq1.idx_int
  wp_walk using wpAny_loadPart' hl
  exact ⟨_, rfl, h⟩
def rRep01 (K : PySem.W.Frag) : R2 := fun x y H Q => ∃ l k xs, x = .ref l ∧ y = .int k ∧ SqT K H l xs ∧ xs ≠ [] ∧ (k = 1 ∧ Q (.ref l) H ∨ k = 0 ∧ ∀ p, H p = none → Q (.ref p) (upd H p (.tup [])))
theorem op_rep01 : OpR X (binaryOp .Mult) (rRep01 X.K) := by
  intro ps s σ H x y v u Q I rx ry hc
  obtain ⟨l, k, xs, rfl, rfl, sq, ne, hc⟩ := hc
  cases rx
  obtain ⟨t, rfl⟩ := ry
  obtain ⟨its, rr, ⟨⟨cl, dd, dt, sl⟩, g, c1, n, c2⟩, -⟩ := I.tuple sq
  simp only at c1 c2
  subst c1 c2
  have nn : its.toArray.isEmpty = false := by
    cases its with
    | nil => cases rr; exact absurd rfl ne
    | cons a b => rfl
  rcases hc with ⟨rfl, q⟩ | ⟨rfl, q⟩
  · exact wpAny_binaryOp_repeat_ref (T := "tuple") (U := "int") (by decide) ⟨_, g, rfl⟩ (fun _ => typeIs_int _ _ _) noFill_tuple_mul F.fills_int_mul F.slot_int_rmul repeat_tuple F.slot_int_index.lookup
      (call_meets F.slot_int_rmul (typeIs_int _ _ _) F.entry_int_rmul (F.args_int_rmul_2 _ _) (int_rmul_tuple _ _ _ _ _ _ _)
        ⟨g, rfl, ⟨_, g, rfl⟩, call_meets F.slot_tuple_mul ⟨_, g, rfl⟩ F.entry_tuple_mul (F.args_tuple_mul_2 _ _) (tup_times_one _ _ _ _ _ _)
          ⟨g, .ref l, _, I, rfl, q⟩⟩)
  · exact wpAny_binaryOp_repeat_ref (T := "tuple") (U := "int") (by decide) ⟨_, g, rfl⟩ (fun _ => typeIs_int _ _ _) noFill_tuple_mul F.fills_int_mul F.slot_int_rmul repeat_tuple F.slot_int_index.lookup
      (call_meets F.slot_int_rmul (typeIs_int _ _ _) F.entry_int_rmul (F.args_int_rmul_2 _ _) (int_rmul_tuple _ _ _ _ _ _ _)
        ⟨g, rfl, ⟨_, g, rfl⟩, call_meets F.slot_tuple_mul ⟨_, g, rfl⟩ F.entry_tuple_mul (F.args_tuple_mul_2 _ _) (tup_times_none _ _ _ _ _ _ nn)
          ⟨g, .ref s.heap.objs.size, _, I.laid (t' := s.toks) (o := .tup []) (fun b ob q => Heap.get?_push_of_some _ q) (Nat.le_refl _) ⟨by decide, _, .nil, IsTup.new _ _⟩, rfl, q _ (I.hok.fresh (Nat.le_refl _))⟩⟩)
def oMul : Reg → D → D → (Res → Prop) → Prop := fun _ d e k => match d, e with
  | .int i, .int j => MulOk i j ∧ k (.val (.int (i * j)))
  | .lst a, .int j => -(2 ^ 63) ≤ j ∧ j < 2 ^ 63 ∧ a.length * j.toNat ≤ sizeLine ∧ k (.fr (List.replicate j.toNat a).flatten)
  | .tup a, .int j => a ≠ [] ∧ 0 ≤ j ∧ j ≤ 1000 ∧ a.length ≤ 1000 ∧ k (.val (.tup (List.replicate j.toNat a).flatten))
  | _, _ => False
def rMul3 (K : PySem.W.Frag) : R2 := fun x y H Q => rI MulOk (fun i j => .int (i * j)) x y H Q ∨ rRepR x y H Q ∨ rRepT K x y H Q ∨ rRep01 K x y H Q
theorem op_mul3 : OpR X (binaryOp .Mult) (rMul3 X.K) := op_mulI.or (op_repR.or (op_repT.or op_rep01))
theorem r_mul3 : ROp X B (rMul3 X.K) oMul := by
  intro pn F H σ E G x y d e k Q S rx ry h hk
  unfold oMul at h
  split at h
  · exact .inl ⟨_, _, rx.int, ry.int, h.1, hk _ h.2 _ F H S (Same.refl F) (.int _)⟩
  · obtain ⟨h1, h2, h3, h4⟩ := h
    obtain ⟨p, xs, rfl, hs, ra⟩ := rx.lst S.w.sub
    refine .inr (.inl ⟨p, _, xs, rfl, ry.int, hs, h1, h2, by rw [← ra.length]; exact h3, fun q nq => ?_⟩)
    obtain ⟨f, no⟩ := S.newFre nq (ra.rep _)
    exact hk _ h4 _ _ _ (S.newU nq) (Same.refl F) ⟨q, rfl, f, no⟩
  · rename_i a j
    obtain ⟨h0, h1, h2, h3, h4⟩ := h
    obtain ⟨p, xs, rfl, hs, ra⟩ := rx.tup S.w.sub
    have hne : xs ≠ [] := fun e => h0 (by rw [e] at ra; cases ra; rfl)
    rcases (by omega : j = 0 ∨ j = 1 ∨ 2 ≤ j) with rfl | rfl | h1
    · refine .inr (.inr (.inr ⟨p, _, xs, rfl, ry.int, hs, hne, .inr ⟨rfl, fun q nq => ?_⟩⟩))
      obtain ⟨S2, s2⟩ := S.newF nq
      exact hk _ h4 _ _ _ S2 s2 (.tup upd_same .nil)
    · rw [show (List.replicate (Int.toNat 1) a).flatten = a from by simp [List.replicate]] at h4
      exact .inr (.inr (.inr ⟨p, _, xs, rfl, ry.int, hs, hne, .inl ⟨rfl, hk _ h4 _ _ _ S (Same.refl F) (rx.val (fun _ q => nomatch q))⟩⟩))
    refine .inr (.inr (.inl ⟨p, _, xs, rfl, ry.int, hs, hne, h1, h2, by rw [← ra.length]; exact h3, fun q nq => ?_⟩))
    · obtain ⟨S2, s2⟩ := S.newF nq
      exact hk _ h4 _ _ _ S2 s2 (.tup upd_same (RepL.mono s2 _ _ (ra.rep _)))
  · exact h.elim
theorem le_mul {a b : Expr} {ta tb : DE} {pos} (ha : LE X B a ta) (hb : LE X B b tb) : LE X B (.BinOp a .Mult b pos) (dOp oMul ta tb) := le_op op_mul3 r_mul3 ha hb
def oFdiv : Reg → D → D → (Res → Prop) → Prop := fun _ d e k => match d, e with
  | .int i, .int j => CDivW i j ∧ k (.val (.int (i / j)))
  | _, _ => False
theorem r_fdiv3 : ROp X B (rI CDivW fun i j => .int (i / j)) oFdiv := r_ii fun G d e k h => by
  unfold oFdiv at h
  split at h
  · exact ⟨_, _, rfl, rfl, h.1, h.2⟩
  · exact h.elim
theorem le_fdiv {a b : Expr} {ta tb : DE} {pos} (ha : LE X B a ta) (hb : LE X B b tb) : LE X B (.BinOp a .FloorDiv b pos) (dOp oFdiv ta tb) := le_op op_fdivW r_fdiv3 ha hb
def oMod : Reg → D → D → (Res → Prop) → Prop := fun _ d e k => match d, e with
  | .int i, .int j => 0 < j ∧ k (.val (.int (i % j)))
  | _, _ => False
theorem r_mod3 : ROp X B (rI (fun _ j => 0 < j) fun i j => .int (i % j)) oMod := r_ii fun G d e k h => by
  unfold oMod at h
  split at h
  · exact ⟨_, _, rfl, rfl, h.1, h.2⟩
  · exact h.elim
theorem le_mod {a b : Expr} {ta tb : DE} {pos} (ha : LE X B a ta) (hb : LE X B b tb) : LE X B (.BinOp a .Mod b pos) (dOp oMod ta tb) := le_op op_mod r_mod3 ha hb
/-- .. by a divisor of any sign -/
def oModN : Reg → D → D → (Res → Prop) → Prop := fun _ d e k => match d, e with
  | .int i, .int j => j ≠ 0 ∧ k (.val (.int (i.fmod j)))
  | _, _ => False
def oPow : Reg → D → D → (Res → Prop) → Prop := fun _ d e k => match d, e with
  | .int i, .int j => CPow i j ∧ k (.val (.int (i ^ j.toNat)))
  | _, _ => False
theorem r_pow3 : ROp X B (rI CPow fun i j => .int (i ^ j.toNat)) oPow := r_ii fun G d e k h => by
  unfold oPow at h
  split at h
  · exact ⟨_, _, rfl, rfl, h.1, h.2⟩
  · exact h.elim
theorem le_pow {a b : Expr} {ta tb : DE} {pos} (ha : LE X B a ta) (hb : LE X B b tb) : LE X B (.BinOp a .Pow b pos) (dOp oPow ta tb) := le_op op_pow r_pow3 ha hb

/-! ### order -/
def oCmpI (p : Int → Int → Bool) : Reg → D → D → (Res → Prop) → Prop := fun _ d e k => match d, e with
  | .int i, .int j => k (.val (.bl (p i j)))
  | _, _ => False
theorem r_cmpI {p : Int → Int → Bool} : ROp X B (rI0 fun i j => .bl (p i j)) (oCmpI p) := r_ib0 fun G d e k h => by
  unfold oCmpI at h
  split at h
  · exact ⟨_, _, rfl, rfl, h⟩
  · exact h.elim
abbrev oLt := oCmpI fun i j => decide (i < j)
abbrev oLe := oCmpI fun i j => decide (i ≤ j)
abbrev oGt := oCmpI fun i j => decide (j < i)
abbrev oGe := oCmpI fun i j => decide (j ≤ i)

/-! ### ==, in, is -/
def oEq : Reg → D → D → (Res → Prop) → Prop := fun _ d e k => d.sh = true ∧ e.sh = true ∧ k (.val (.bl (D.eqv d e)))
def oNe : Reg → D → D → (Res → Prop) → Prop := fun _ d e k => d.sh = true ∧ e.sh = true ∧ k (.val (.bl (!D.eqv d e)))
theorem r_eq3 : ROp X B (rEqD X.K) oEq := by
  intro pn F H σ E G x y d e k Q S rx ry ⟨h1, h2, h⟩ hk
  obtain ⟨a1, a2⟩ := sh_H S.w.sub h1 rx
  obtain ⟨b1, b2⟩ := sh_H S.w.sub h2 ry
  exact ⟨_, _, a1, b1, a2, b2, hk _ h _ F H S (Same.refl F) (.bl _)⟩
theorem r_ne3 : ROp X B (rNeD X.K) oNe := by
  intro pn F H σ E G x y d e k Q S rx ry ⟨h1, h2, h⟩ hk
  obtain ⟨a1, a2⟩ := sh_H S.w.sub h1 rx
  obtain ⟨b1, b2⟩ := sh_H S.w.sub h2 ry
  exact ⟨_, _, a1, b1, a2, b2, hk _ h _ F H S (Same.refl F) (.bl _)⟩
def rInT (K : PySem.W.Frag) (neg : Bool) : R2 := fun x y H Q => ∃ d ds, Dp K H x d ∧ Dp K H y (.tuple ds) ∧ SeqAt.shaped d = true ∧ SeqAt.shaped (.tuple ds) = true ∧ Q (.bl (if neg then !ds.any fun z => PyData.eqv z d else ds.any fun z => PyData.eqv z d)) H
theorem roomT {A : Around} {d : PyData} {ds : List PyData} (sd : SeqAt.shaped d = true) (hu : A.units + 65 < cLine) : A.units + 1 + min (PyData.depthAll ds) d.depth < cLine := by
  have h1 := SeqAt.depth_of_shaped sd
  have h2 : min (PyData.depthAll ds) d.depth ≤ d.depth := Nat.min_le_right _ _
  omega
theorem op_inT (hu : X.A.units + 65 < cLine) : OpR X (compareOp .In) (rInT X.K false) := by
  intro pins s σ H x y v u Q I rx ry h
  obtain ⟨d, ds, hd, he, sd, se, q⟩ := h
  obtain ⟨as, r1⟩ := Dp.reads I d x v hd rx
  obtain ⟨bs, r2⟩ := Dp.reads I (.tuple ds) y u he ry
  exact SeqAt.in_tuple_reads r2 r1 (SeqAt.canLay_of_shaped se) (SeqAt.canLay_of_shaped sd) (roomT sd hu) ⟨.bl _, H, I, rfl, q⟩
def D.among (d : D) (ds : List D) : Bool := ds.any fun z => D.eqv z d
theorem any_py (d : D) (ds : List D) : ((pyL ds).any fun z => PyData.eqv z d.py) = d.among ds := by
  rw [pyL_map, List.any_map]; rfl
def oIn (neg : Bool) : Reg → D → D → (Res → Prop) → Prop := fun _ d e k => match e with
  | .lst ds => d.sh = true ∧ (D.lst ds).sh = true ∧ k (.val (.bl (if neg then !d.among ds else d.among ds)))
  | .tup ds => d.sh = true ∧ (D.tup ds).sh = true ∧ k (.val (.bl (if neg then !d.among ds else d.among ds)))
  | .str z => ∃ c : Nat, d = .str ⟨#[c]⟩ ∧ k (.val (.bl (if neg then !decide (c ∈ z.cps.toList) else decide (c ∈ z.cps.toList))))
  | .ktp ns => d.sh = true ∧ k (.val (.bl (if neg then !d.among (ns.map D.int) else d.among (ns.map D.int))))
  | _ => False
def rIn3 (K : PySem.W.Frag) : R2 := fun x y H Q => rInD K x y H Q ∨ rInT K false x y H Q ∨ ∃ (c : Nat) (z : Str), x = .str ⟨#[c]⟩ ∧ y = .str z ∧ Q (.bl (decide (c ∈ z.cps.toList))) H
theorem op_in3 (hu : X.A.units + 65 < cLine) : OpR X (compareOp .In) (rIn3 X.K) := (op_inD hu).or ((op_inT hu).or op_in_sign)
theorem r_in3 : ROp X B (rIn3 X.K) (oIn false) := by
  intro pn F H σ E G x y d e k Q S rx ry h hk
  unfold oIn at h
  split at h
  · obtain ⟨h1, h2, h⟩ := h
    obtain ⟨a1, a2⟩ := sh_H S.w.sub h1 rx
    obtain ⟨b1, b2⟩ := sh_H S.w.sub h2 ry
    refine .inl ⟨_, _, a1, b1, a2, b2, ?_⟩
    rw [any_py]
    exact hk _ h _ F H S (Same.refl F) (.bl _)
  · obtain ⟨h1, h2, h⟩ := h
    obtain ⟨a1, a2⟩ := sh_H S.w.sub h1 rx
    obtain ⟨b1, b2⟩ := sh_H S.w.sub h2 ry
    refine .inr (.inl ⟨_, _, a1, b1, a2, b2, ?_⟩)
    rw [any_py]
    exact hk _ h _ F H S (Same.refl F) (.bl _)
  · obtain ⟨c, rfl, h⟩ := h
    exact .inr (.inr ⟨c, _, rx.str, ry.str, hk _ h _ F H S (Same.refl F) (.bl _)⟩)
  · obtain ⟨h1, h⟩ := h
    obtain ⟨a1, a2⟩ := sh_H S.w.sub h1 rx
    obtain ⟨a, rfl, hs⟩ := ry.ktp S.w.sub
    obtain ⟨b1, b2⟩ := ktp_dp hs
    refine .inr (.inl ⟨_, _, a1, b1, a2, b2, ?_⟩)
    rw [any_py]
    exact hk _ h _ F H S (Same.refl F) (.bl _)
  · exact h.elim
def D.isN : D → Bool
  | .non => true
  | _ => false
def oIs (neg : Bool) : Reg → D → D → (Res → Prop) → Prop := fun _ d e k => e.isN = true ∧ k (.val (.bl (if neg then !d.isN else d.isN)))
theorem isN_dec {K : PySem.W.Frag} {F H : Hp} {d : D} {v : V} (r : RepH K F H d v) : decide (v = .non) = d.isN := by
  rcases r with r | ⟨a, o, rfl, _, h2⟩
  · cases r <;> first | rfl | exact decide_eq_false (fun q => nomatch q)
  · cases d with
    | non => exact h2.elim
    | _ => exact decide_eq_false (fun q => nomatch q)
theorem isN_eq {d : D} (h : d.isN = true) : d = .non := by
  cases d <;> first | rfl | cases h
theorem r_is3 : ROp X B (fun x y H Q => y = .non ∧ Q (.bl (decide (x = .non))) H) (oIs false) := by
  intro pn F H σ E G x y d e k Q S rx ry ⟨h1, h⟩ hk
  rw [isN_eq h1] at ry
  refine ⟨ry.non, ?_⟩
  rw [isN_dec rx]
  exact hk _ h _ F H S (Same.refl F) (.bl _)
theorem r_isNot3 : ROp X B (fun x y H Q => y = .non ∧ Q (.bl (!decide (x = .non))) H) (oIs true) := by
  intro pn F H σ E G x y d e k Q S rx ry ⟨h1, h⟩ hk
  rw [isN_eq h1] at ry
  refine ⟨ry.non, ?_⟩
  rw [isN_dec rx]
  exact hk _ h _ F H S (Same.refl F) (.bl _)

/-! ### -x -/
def uNeg : D → (Res → Prop) → Prop := fun d k => match d with
  | .int i => k (.val (.int (-i)))
  | _ => False
theorem le_neg {a : Expr} {ta : DE} {pos} (ha : LE X B a ta) : LE X B (.UnaryOp .USub a pos) (dUn uNeg ta) := le_un un_neg (fun pn F H σ E G x d k Q S rx h hk => by
  unfold uNeg at h
  split at h
  · exact ⟨_, rx.int, hk _ h _ F H S (Same.refl F) (.int _)⟩
  · exact h.elim) ha

/-! ### a[i] -/
def oIx : Reg → D → D → (Res → Prop) → Prop := fun G d e k => match d, e with
  | .lst ds, .int i => ∃ v, atI ds i = some v ∧ k (.val v)
  | .tup ds, .int i => ∃ v, atI ds i = some v ∧ k (.val v)
  | .str z, .int i => z.length ≤ sizeLine ∧ ∃ c, atI z.cps.toList i = some c ∧ k (.val (.str ⟨#[c]⟩))
  | .scr ns, .int i => ∃ v, atI ns i = some v ∧ k (.val (.int v))
  | .ref a, .int i => ∃ ds, lookL G a = some ds ∧ ∃ v, atI ds i = some v ∧ k (.val v)
  | _, _ => False
theorem lookup_mem {G : Reg} {a : Addr} {ds : List D} (h : G.lookup a = some ds) : (a, ds) ∈ G := by
  induction G with
  | nil => cases h
  | cons p r ih =>
    rw [List.lookup_cons] at h
    split at h
    · rename_i q
      have e : a = p.1 := by simpa using q
      cases h
      rw [e]
      exact List.mem_cons_self
    · exact List.mem_cons_of_mem _ (ih h)
theorem at_rep {K : PySem.W.Frag} {F : Hp} {ds : List D} {vs : List V} {i : Int} {d : D} (r : RepL K F ds vs) (h : atI ds i = some d) : ∃ v, atI vs i = some v ∧ Rep K F d v := by
  unfold atI at h ⊢
  rw [← r.length]
  cases q : ixN ds.length i with
  | none => rw [q] at h; cases h
  | some j =>
    rw [q] at h
    exact r.get (by simpa using h)
theorem r_ix3 : ROp X B (rIx X.K) oIx := by
  intro pn F H σ E G x y d e k Q S rx ry h hk
  unfold oIx at h
  split at h
  · obtain ⟨v, hv, h⟩ := h
    obtain ⟨p, xs, rfl, hs, ra⟩ := rx.lst S.w.sub
    obtain ⟨u, hu, ru⟩ := at_rep ra hv
    exact .inl ⟨p, xs, _, u, rfl, ry.int, .inl hs, hu, hk _ h _ F H S (Same.refl F) ru⟩
  · obtain ⟨v, hv, h⟩ := h
    obtain ⟨p, xs, rfl, hs, ra⟩ := rx.tup S.w.sub
    obtain ⟨u, hu, ru⟩ := at_rep ra hv
    exact .inr (.inl ⟨p, xs, _, u, rfl, ry.int, hs, hu, hk _ h _ F H S (Same.refl F) ru⟩)
  · obtain ⟨hz, c, hc, h⟩ := h
    exact .inr (.inr ⟨_, _, c, rx.str, ry.int, hz, hc, hk _ h _ F H S (Same.refl F) (.str _)⟩)
  · rename_i ns i
    obtain ⟨v, hv, h⟩ := h
    cases rx.val (fun _ q => nomatch q) with
    | scr hs =>
      have hv' : atI (ns.map V.int) i = some (.int v) := by
        unfold atI at hv ⊢
        rw [List.length_map]
        cases q : ixN ns.length i with
        | none => rw [q] at hv; cases hv
        | some j =>
          rw [q] at hv
          have hv2 : ns[j]? = some v := by simpa using hv
          simp [hv2]
      exact .inl ⟨_, _, _, _, rfl, ry.int, S.w.sub.seq hs, hv', hk _ h _ F H S (Same.refl F) (.int _)⟩
  · obtain ⟨ds, hl, v, hv, h⟩ := h
    obtain ⟨_, o, hs, ro⟩ := S.w.reg _ ds (lookup_mem (lookL_iff hl).1)
    obtain ⟨xs, rfl, ra⟩ := ro.lstOf (lookL_iff hl).2
    obtain ⟨u, hu, ru⟩ := at_rep ra hv
    cases rx.val (fun _ q => nomatch q)
    exact .inl ⟨_, xs, _, u, rfl, ry.int, SqL.of hs, hu, hk _ h _ F H S (Same.refl F) ru⟩
  · exact h.elim
theorem le_item {a b : Expr} {ta tb : DE} {pos} (ha : LE X B a ta) (hb : LE X B b tb) (hs : PlainIx b := by exact fun _ _ => rfl) : LE X B (.Subscript a b pos) (dOp oIx ta tb) := le_ix ix_seq r_ix3 ha hb hs

/-! ### a[lo:hi] -/
def cutD (ds : List D) (lo hi : Option Int) : List D := (ds.drop (HT.sIx ds.length 0 lo)).take (HT.sIx ds.length ds.length hi - HT.sIx ds.length 0 lo)
def oSl : D → Option Int → Option Int → (Res → Prop) → Prop := fun d lo hi k => match d with
  | .lst ds => k (.fr (cutD ds lo hi))
  | .tup ds => k (.val (.tup (cutD ds lo hi)))
  | _ => False
def rSl3 (K : PySem.W.Frag) : V → Option Int → Option Int → Hp → VK → Prop := fun x lo hi H Q => rSlA K x lo hi H Q ∨ rSlL K x lo hi H Q
theorem sl_3 : SlR X (rSl3 X.K) := sl_tupA.or sl_list
theorem r_sl3 : RSl3 X B (rSl3 X.K) oSl := by
  intro pn F H σ E G x d lo hi k Q S rx h hk
  unfold oSl at h
  split at h
  · rename_i ds
    obtain ⟨p, xs, rfl, hs, ra⟩ := rx.lst S.w.sub
    refine .inr ⟨p, xs, rfl, .inl hs, fun q nq => ?_⟩
    have rr : RepL X.K F (cutD ds lo hi) (cutV xs lo hi) := by
      unfold cutD cutV
      rw [ra.length]
      exact (ra.drop _).take _
    obtain ⟨f, no⟩ := S.newFre nq rr
    exact hk _ h _ _ _ (S.newU nq) (Same.refl F) ⟨q, rfl, f, no⟩
  · rename_i ds
    obtain ⟨p, xs, rfl, hs, ra⟩ := rx.tup S.w.sub
    have rx' := rx.val (fun _ q => nomatch q)
    have rr : RepL X.K F (cutD ds lo hi) (cutV xs lo hi) := by
      unfold cutD cutV
      rw [ra.length]
      exact (ra.drop _).take _
    refine .inl ⟨p, xs, rfl, hs, fun hw => ?_, fun _ q nq => ?_⟩
    · have e : cutD ds lo hi = ds := by
        unfold cutD
        rw [← ra.length] at hw
        rw [hw.1, hw.2, List.drop_zero, Nat.sub_zero, List.take_length]
      rw [e] at h
      exact hk _ h _ F H S (Same.refl F) rx'
    · obtain ⟨S2, s2⟩ := S.newF nq
      exact hk _ h _ _ _ S2 s2 (.tup upd_same (RepL.mono s2 _ _ rr))
  · exact h.elim
theorem le_cut {e : Expr} {lo hi : Option Expr} {te : DE} {tl th : DO} {p2 pos : Pos} (he : LE X B e te) (hl : LO X B lo tl) (hh : LO X B hi th) : LE X B (.Subscript e (.Slice lo hi none p2) pos) (dSl oSl te tl th) := le_slice sl_3 r_sl3 he hl hh
end
end L3

set_option Elab.async false
set_option maxRecDepth 100000
set_option maxHeartbeats 4000000
/-! L3, part h: built-ins over plain values; lists changed by their owner; the dice. -/
namespace L3
open PySem PySem.Spec PyProof.Rows L2
section
variable {X : Cx} {B : Base3}
theorem hl1 {K : PySem.W.Frag} {F H : Hp} {d : D} {vs : List V} (r : RepHL K F H [d] vs) : ∃ v, vs = [v] ∧ RepH K F H d v := by
  cases r with
  | cons a b => cases b; exact ⟨_, rfl, a⟩
theorem hl2 {K : PySem.W.Frag} {F H : Hp} {d e : D} {vs : List V} (r : RepHL K F H [d, e] vs) : ∃ v u, vs = [v, u] ∧ RepH K F H d v ∧ RepH K F H e u := by
  cases r with
  | cons a b =>
    obtain ⟨u, rfl, h⟩ := hl1 b
    exact ⟨_, u, rfl, a, h⟩

/-! ### len -/
def bLen : Reg → List D → (Res → Prop) → Prop := fun _ ds k => match ds with
  | [.lst xs] => k (.val (.int xs.length))
  | [.tup xs] => k (.val (.int xs.length))
  | [.str z] => z.length ≤ sizeLine ∧ k (.val (.int z.length))
  | [.scr ns] => k (.val (.int ns.length))
  | _ => False
def rLen3 (K : PySem.W.Frag) : List V → Hp → VK → Prop := fun xs H Q => (∃ p ys, xs = [.ref p] ∧ (SqL K H p ys ∨ SqT K H p ys) ∧ Q (.int ys.length) H) ∨ ∃ z, xs = [.str z] ∧ z.length ≤ sizeLine ∧ Q (.int z.length) H
theorem call_len3 : CallR X (.builtin "len") (rLen3 X.K) := call_len_seq.or call_len_str
theorem r_len3 : RCall X B (rLen3 X.K) bLen := by
  intro pn F H σ E G vs ds k Q S r h hk
  unfold bLen at h
  split at h
  · obtain ⟨v, rfl, rx⟩ := hl1 r
    obtain ⟨p, xs, rfl, hs, ra⟩ := rx.lst S.w.sub
    refine .inl ⟨p, xs, rfl, .inl (.inl hs), ?_⟩
    rw [← ra.length]
    exact hk _ h _ F H S (Same.refl F) (.int _)
  · obtain ⟨v, rfl, rx⟩ := hl1 r
    obtain ⟨p, xs, rfl, hs, ra⟩ := rx.tup S.w.sub
    refine .inl ⟨p, xs, rfl, .inr hs, ?_⟩
    rw [← ra.length]
    exact hk _ h _ F H S (Same.refl F) (.int _)
  · obtain ⟨v, rfl, rx⟩ := hl1 r
    rw [rx.str]
    exact .inr ⟨_, rfl, h.1, hk _ h.2 _ F H S (Same.refl F) (.int _)⟩
  · obtain ⟨v, rfl, rx⟩ := hl1 r
    cases rx.val (fun _ q => nomatch q) with
    | scr hs =>
      refine .inl ⟨_, _, rfl, .inl (S.w.sub.seq hs), ?_⟩
      rw [List.length_map]
      exact hk _ h _ F H S (Same.refl F) (.int _)
  · exact h.elim
theorem le_len {e : Expr} {ta : DA} {p pos : Pos} (hg : Gl X "len") (hm : X.mg "len" = none) (ha : LP X B [e] ta) (he : starEach [e] X.env = (false, eval e X.env) :: starEach [] X.env := by rfl) (hpl : (backTo pos (starEach [] X.env)).any (·.1) = false := by rfl) :
    LE X B (.Call (.Name "len" p) [e] [] pos) (dCB bLen ta) := le_callB call_len3 r_len3 hg hm PySem.boot_len ha (by decide) (by decide) he hpl

/-! ### of one int, of two -/
def bInt1 (g : Int → Int) : Reg → List D → (Res → Prop) → Prop := fun _ ds k => match ds with
  | [.int i] => k (.val (.int (g i)))
  | _ => False
def bAbs := bInt1 fun i => if i < 0 then -i else i
theorem le_abs {e : Expr} {ta : DA} {p pos : Pos} (hg : Gl X "abs") (hm : X.mg "abs" = none) (ha : LP X B [e] ta) (he : starEach [e] X.env = (false, eval e X.env) :: starEach [] X.env := by rfl) (hpl : (backTo pos (starEach [] X.env)).any (·.1) = false := by rfl) :
    LE X B (.Call (.Name "abs" p) [e] [] pos) (dCB bAbs ta) := le_callB call_abs (fun pn F H σ E G vs ds k Q S r h hk => by
  unfold bAbs bInt1 at h
  split at h
  · obtain ⟨v, rfl, rx⟩ := hl1 r
    rw [rx.int]
    exact ⟨_, rfl, hk _ h _ F H S (Same.refl F) (.int _)⟩
  · exact h.elim) hg hm (by decide +kernel) ha (by decide) (by decide) he hpl
def bIntOf : Reg → List D → (Res → Prop) → Prop := fun _ ds k => match ds with
  | [.int i] => k (.val (.int i))
  | [.bl b] => k (.val (.int (if b then 1 else 0)))
  | _ => False
theorem le_intOf {e : Expr} {ta : DA} {p pos : Pos} (hg : Gl X "int") (hm : X.mg "int" = none) (ha : LP X B [e] ta) (he : starEach [e] X.env = (false, eval e X.env) :: starEach [] X.env := by rfl) (hpl : (backTo pos (starEach [] X.env)).any (·.1) = false := by rfl) :
    LE X B (.Call (.Name "int" p) [e] [] pos) (dCB bIntOf ta) := le_callTy call_int1 (fun pn F H σ E G vs ds k Q S r h hk => by
  unfold bIntOf at h
  split at h
  · obtain ⟨v, rfl, rx⟩ := hl1 r
    rw [rx.int]
    exact .inl ⟨_, rfl, hk _ h _ F H S (Same.refl F) (.int _)⟩
  · obtain ⟨v, rfl, rx⟩ := hl1 r
    rw [rx.bl]
    exact .inr ⟨_, rfl, hk _ h _ F H S (Same.refl F) (.int _)⟩
  · exact h.elim) hg hm (by decide +kernel) ha (by decide) (by decide) he hpl
def bInt2 (g : Int → Int → Int) : Reg → List D → (Res → Prop) → Prop := fun _ ds k => match ds with
  | [.int i, .int j] => k (.val (.int (g i j)))
  | _ => False
def bMax := bInt2 fun i j => if j > i then j else i
def bMin := bInt2 fun i j => if j < i then j else i
theorem le_max2 {e e2 : Expr} {ta : DA} {p pos : Pos} (hc : X.calm = true) (hg : Gl X "max") (hm : X.mg "max" = none) (ha : LP X B [e, e2] ta) (he : starEach [e, e2] X.env = (false, eval e X.env) :: starEach [e2] X.env := by rfl) (hpl : (backTo pos (starEach [e2] X.env)).any (·.1) = false := by rfl) :
    LE X B (.Call (.Name "max" p) [e, e2] [] pos) (dCB bMax ta) := le_callB (call_max2 hc) (fun pn F H σ E G vs ds k Q S r h hk => by
  unfold bMax bInt2 at h
  split at h
  · obtain ⟨v, u, rfl, rx, ry⟩ := hl2 r
    rw [rx.int, ry.int]
    exact ⟨_, _, rfl, hk _ h _ F H S (Same.refl F) (.int _)⟩
  · exact h.elim) hg hm (by decide +kernel) ha (by decide) (by decide) he hpl
theorem le_min2 {e e2 : Expr} {ta : DA} {p pos : Pos} (hc : X.calm = true) (hg : Gl X "min") (hm : X.mg "min" = none) (ha : LP X B [e, e2] ta) (he : starEach [e, e2] X.env = (false, eval e X.env) :: starEach [e2] X.env := by rfl) (hpl : (backTo pos (starEach [e2] X.env)).any (·.1) = false := by rfl) :
    LE X B (.Call (.Name "min" p) [e, e2] [] pos) (dCB bMin ta) := le_callB (call_min2 hc) (fun pn F H σ E G vs ds k Q S r h hk => by
  unfold bMin bInt2 at h
  split at h
  · obtain ⟨v, u, rfl, rx, ry⟩ := hl2 r
    rw [rx.int, ry.int]
    exact ⟨_, _, rfl, hk _ h _ F H S (Same.refl F) (.int _)⟩
  · exact h.elim) hg hm (by decide +kernel) ha (by decide) (by decide) he hpl

/-! ### list, tuple, all, any, sum -/
def bList : Reg → List D → (Res → Prop) → Prop := fun _ ds k => match ds with
  | [.lst xs] => k (.fr xs)
  | [.tup xs] => k (.fr xs)
  | _ => False
theorem le_list {e : Expr} {ta : DA} {p pos : Pos} (hg : Gl X "list") (hm : X.mg "list" = none) (ha : LP X B [e] ta) (he : starEach [e] X.env = (false, eval e X.env) :: starEach [] X.env := by rfl) (hpl : (backTo pos (starEach [] X.env)).any (·.1) = false := by rfl) :
    LE X B (.Call (.Name "list" p) [e] [] pos) (dCB bList ta) := le_callTy call_list_of (fun pn F H σ E G vs ds k Q S r h hk => by
  unfold bList at h
  split at h
  · obtain ⟨v, rfl, rx⟩ := hl1 r
    obtain ⟨p, xs, rfl, hs, ra⟩ := rx.lst S.w.sub
    refine ⟨p, xs, rfl, .inl (.inl hs), fun l nl => ?_⟩
    obtain ⟨f, no⟩ := S.newFre nl ra
    exact hk _ h _ _ _ (S.newU nl) (Same.refl F) ⟨l, rfl, f, no⟩
  · obtain ⟨v, rfl, rx⟩ := hl1 r
    obtain ⟨p, xs, rfl, hs, ra⟩ := rx.tup S.w.sub
    refine ⟨p, xs, rfl, .inr hs, fun l nl => ?_⟩
    obtain ⟨f, no⟩ := S.newFre nl ra
    exact hk _ h _ _ _ (S.newU nl) (Same.refl F) ⟨l, rfl, f, no⟩
  · exact h.elim) hg hm (by decide +kernel) ha (by decide) (by decide) he hpl
def bTuple : Reg → List D → (Res → Prop) → Prop := fun _ ds k => match ds with
  | [.lst xs] => k (.val (.tup xs))
  | [.tup xs] => k (.val (.tup xs))
  | _ => False
theorem le_tuple {e : Expr} {ta : DA} {p pos : Pos} (hg : Gl X "tuple") (hm : X.mg "tuple" = none) (ha : LP X B [e] ta) (he : starEach [e] X.env = (false, eval e X.env) :: starEach [] X.env := by rfl) (hpl : (backTo pos (starEach [] X.env)).any (·.1) = false := by rfl) :
    LE X B (.Call (.Name "tuple" p) [e] [] pos) (dCB bTuple ta) := le_callTy call_tuple_of (fun pn F H σ E G vs ds k Q S r h hk => by
  unfold bTuple at h
  split at h
  · obtain ⟨v, rfl, rx⟩ := hl1 r
    obtain ⟨p, xs, rfl, hs, ra⟩ := rx.lst S.w.sub
    refine ⟨p, xs, rfl, .inl ⟨.inl hs, fun l nl => ?_⟩⟩
    obtain ⟨S2, s2⟩ := S.newF (o := .tup xs) nl
    exact hk _ h _ _ _ S2 s2 (.tup upd_same (RepL.mono s2 _ _ ra))
  · obtain ⟨v, rfl, rx⟩ := hl1 r
    have rx' := rx.val (fun _ q => nomatch q)
    obtain ⟨p, xs, rfl, hs, ra⟩ := rx.tup S.w.sub
    exact ⟨p, xs, rfl, .inr ⟨hs, hk _ h _ F H S (Same.refl F) rx'⟩⟩
  · exact h.elim) hg hm (by decide +kernel) ha (by decide) (by decide) he hpl
/-- the truth values of a list -/
def blsOf : List D → Option (List Bool)
  | [] => some []
  | .bl b :: r => (blsOf r).map (b :: ·)
  | _ :: _ => none
theorem blsOf_eq : ∀ {ds : List D} {bs : List Bool}, blsOf ds = some bs → ds = bs.map D.bl
  | [], _, h => by cases h; rfl
  | .bl b :: r, _, h => by
    cases q : blsOf r with
    | none => rw [blsOf, q] at h; cases h
    | some cs => rw [blsOf, q] at h; cases h; rw [blsOf_eq q]; rfl
  | .non :: _, _, h => by cases h
  | .int _ :: _, _, h => by cases h
  | .str _ :: _, _, h => by cases h
  | .ref _ :: _, _, h => by cases h
  | .ty _ :: _, _, h => by cases h
  | .tup _ :: _, _, h => by cases h
  | .lst _ :: _, _, h => by cases h
  | .scr _ :: _, _, h => by cases h
theorem blsOf_map : ∀ bs : List Bool, blsOf (bs.map D.bl) = some bs
  | [] => rfl
  | b :: r => by rw [List.map_cons, blsOf, blsOf_map r]; rfl
def intsOf : List D → Option (List Int)
  | [] => some []
  | .int b :: r => (intsOf r).map (b :: ·)
  | _ :: _ => none
theorem intsOf_eq : ∀ {ds : List D} {bs : List Int}, intsOf ds = some bs → ds = bs.map D.int
  | [], _, h => by cases h; rfl
  | .int b :: r, _, h => by
    cases q : intsOf r with
    | none => rw [intsOf, q] at h; cases h
    | some cs => rw [intsOf, q] at h; cases h; rw [intsOf_eq q]; rfl
  | .non :: _, _, h => by cases h
  | .bl _ :: _, _, h => by cases h
  | .str _ :: _, _, h => by cases h
  | .ref _ :: _, _, h => by cases h
  | .ty _ :: _, _, h => by cases h
  | .tup _ :: _, _, h => by cases h
  | .lst _ :: _, _, h => by cases h
  | .scr _ :: _, _, h => by cases h
theorem intsOf_map : ∀ bs : List Int, intsOf (bs.map D.int) = some bs
  | [] => rfl
  | b :: r => by rw [List.map_cons, intsOf, intsOf_map r]; rfl
def bBool (g : List Bool → Bool) : Reg → List D → (Res → Prop) → Prop := fun _ ds k => match ds with
  | [.lst xs] => ∃ bs, blsOf xs = some bs ∧ k (.val (.bl (g bs)))
  | _ => False
theorem r_bool {g : List Bool → Bool} : RCall X B (fun vs H Q => ∃ (a : Addr) (bs : List Bool), vs = [V.ref a] ∧ SqL X.K H a (bs.map V.bl) ∧ Q (.bl (g bs)) H) (bBool g) := by
  intro pn F H σ E G vs ds k Q S r h hk
  unfold bBool at h
  split at h
  · obtain ⟨bs, e, h⟩ := h
    obtain ⟨v, rfl, rx⟩ := hl1 r
    obtain ⟨p, xs, rfl, hs, ra⟩ := rx.lst S.w.sub
    rw [blsOf_eq e] at ra
    rw [ra.bls_of] at hs
    exact ⟨p, bs, rfl, .inl hs, hk _ h _ F H S (Same.refl F) (.bl _)⟩
  · exact h.elim
def bAll := bBool fun bs => bs.all id
def bAny := bBool fun bs => bs.any id
theorem le_all {e : Expr} {ta : DA} {p pos : Pos} (hc : X.calm = true) (hg : Gl X "all") (hm : X.mg "all" = none) (ha : LP X B [e] ta) (he : starEach [e] X.env = (false, eval e X.env) :: starEach [] X.env := by rfl) (hpl : (backTo pos (starEach [] X.env)).any (·.1) = false := by rfl) :
    LE X B (.Call (.Name "all" p) [e] [] pos) (dCB bAll ta) := le_callB (cr_all hc) r_bool hg hm (by decide +kernel) ha (by decide) (by decide) he hpl
def bSum : Reg → List D → (Res → Prop) → Prop := fun _ ds k => match ds with
  | [.lst xs] => ∃ bs, intsOf xs = some bs ∧ k (.val (.int bs.sum))
  | _ => False
/-! ### isinstance of a built-in class -/
def tyN : D → Option String
  | .non => some "NoneType"
  | .bl _ => some "bool"
  | .int _ => some "int"
  | .str _ => some "str"
  | .tup _ => some "tuple"
  | .lst _ => some "list"
  | _ => none
def isT (t n : String) : Bool := t == n || (t == "bool" && n == "int")
def knownT : List String := ["int", "bool", "str", "tuple", "list", "dict"]
theorem kit_known : ∀ t ∈ ["NoneType", "bool", "int", "str", "tuple", "list"], ∀ n ∈ knownT, kitB t n = some (isT t n) := by decide +kernel
def bIsi : Reg → List D → (Res → Prop) → Prop := fun _ ds k => match ds with
  | [d, .ty n] => ∃ t, tyN d = some t ∧ n ∈ knownT ∧ k (.val (.bl (isT t n)))
  | _ => False
theorem tyX_of {K : PySem.W.Frag} {F H : Hp} {d : D} {v : V} {t : String} (s : Same F H) (r : RepH K F H d v) (h : tyN d = some t) : TyX K H v (.type t) := by
  rcases r with r | ⟨a, o, rfl, h1, h2⟩
  · cases r with
    | non => cases h; exact .base .non
    | bl b => cases h; exact .base (.bl b)
    | int b => cases h; exact .base (.int b)
    | str b => cases h; exact .base (.str b)
    | ref a => cases h
    | ty a => cases h
    | scr a => cases h
    | obj _ _ _ _ => cases h
    | cls _ => cases h
    | dcK _ _ _ => cases h
    | dcT _ _ _ => cases h
    | ktp _ => cases h
    | tup hs ha =>
      cases h
      exact .base (.tup (s _ _ hs))
    | lst hs ha =>
      cases h
      rcases sameR s hs with hs | ⟨o, hs⟩
      · exact .base (.lst hs)
      · exact .base (.frz hs)
  · cases d with
    | lst ds =>
      obtain ⟨xs, rfl, _⟩ := h2
      cases h; exact .base (.lst h1)
    | dcT ks ds => cases h
    | dcK ks ds => cases h
    | _ => exact h2.elim
theorem tyN_mem {d : D} {t : String} (h : tyN d = some t) : t ∈ ["NoneType", "bool", "int", "str", "tuple", "list"] := by
  cases d <;> cases h <;> decide
theorem le_isi {e e2 : Expr} {ta : DA} {p pos : Pos} (hg : Gl X "isinstance") (hm : X.mg "isinstance" = none) (ha : LP X B [e, e2] ta) (he : starEach [e, e2] X.env = (false, eval e X.env) :: starEach [e2] X.env := by rfl) (hpl : (backTo pos (starEach [e2] X.env)).any (·.1) = false := by rfl) :
    LE X B (.Call (.Name "isinstance" p) [e, e2] [] pos) (dCB bIsi ta) := le_callB call_isi (fun pn F H σ E G vs ds k Q S r h hk => by
  unfold bIsi at h
  split at h
  · obtain ⟨t, ht, hn, h⟩ := h
    obtain ⟨v, u, rfl, rx, ry⟩ := hl2 r
    cases ry.val (fun _ q => nomatch q)
    exact ⟨v, _, .type t, .type _, _, rfl, .ty _, tyX_of S.w.sub rx ht, kit_ty (kit_known t (tyN_mem ht) _ hn), hk _ h _ F H S (Same.refl F) (.bl _)⟩
  · exact h.elim) hg hm (by decide +kernel) ha (by decide) (by decide) he hpl
theorem le_ty {x : Str} {n : String} {pos : Pos} (hg : Gl X x) (hm : X.mg x = none) (hv : bootBuiltins x = some (.type n)) (hn : x ≠ "__name__" := by decide) (hd : (x == ("__debug__" : Str)) = false := by decide) : LE X B (.Name x pos) (dC (.ty n)) :=
  le_c (v := .ty n) (pe_bltn hg hm hv rfl hn hd) fun _ => .ty n
end
end L3

set_option Elab.async false
set_option maxRecDepth 100000
set_option maxHeartbeats 4000000
/-! L3, part i: a[i] = v; a.append(v); a, b = x, y. -/
namespace L3
open PySem PySem.Spec PyProof.Rows L2
section
variable {X : Cx} {B : Base3}
/-- o[i] = v, o a register or an owned list -/
def dStore (te to ti : DE) : DSt := fun D E G => te E G fun v E1 G1 => ∃ d E2, v.ice E1 = some (d, E2) ∧ to E2 G1 fun o E3 G2 => ti E3 G2 fun i E4 G3 => ∃ k, i = .val (.int k) ∧
  match o with
  | .val (.ref a) => ∃ ds, lookL G3 a = some ds ∧ ∃ j, ixN ds.length k = some j ∧ D.nx E4 (regSet G3 a (ds.set j d))
  | .sl s => ∃ ds, E4[s]? = some (Sl3.own ds) ∧ ∃ j, ixN ds.length k = some j ∧ D.nx (E4.set s (Sl3.own (ds.set j d))) G3
  | _ => False
theorem ls_store {o i e : Expr} {to ti te : DE} {pos pos' : Pos} (he : LE X B e te) (ho : LE X B o to) (hi : LE X B i ti)
    (hs : swapsWithSole [.Subscript o i pos'] e pos.line X.env = pure false := by rfl) (hw : swappedStores [.Subscript o i pos'] e X.env = pure none := by rfl)
    (h1 : (assignEach [.Subscript o i pos'] X.env).map (·.2) = [assign (.Subscript o i pos') X.env] := by rfl)
    (ha : ∀ v, assign (.Subscript o i pos') X.env v = (do
      let ov ← holding [v] (eval o X.env)
      let iv ← holding [v, ov] (eval i X.env)
      standAt pos'
      holding [v, ov, iv] (setItem ov iv v)
      release [v, ov, iv] []) := by intro _; rfl) : LS X B (.Assign [.Subscript o i pos'] e pos) (dStore te to ti) :=
  ⟨ps_imp (ps_asg he.pe (pg_sub ho.pe hi.pe set_list ha) hs hw h1) fun D σ H ⟨pn, F, E, G, D3, S, h, ok⟩ => ⟨pn, F, E, G, _, S, h, fun r E1 G1 ⟨d, E2, hd, h1⟩ v F1 H1 S1 s1 r1 => by
    obtain ⟨F1', S1', s1', r1'⟩ := S1.ice r1 hd
    refine ⟨pn, F1', E2, G1, _, S1', h1, fun ro E3 G2 h2 ov F2 H2 S2 s2 r2 => ?_⟩
    refine ⟨pn, F2, E3, G2, _, S2, h2, fun ri E4 G3 h3 iv F3 H3 S3 s3 r3 => ?_⟩
    obtain ⟨k, e1, h3⟩ := h3
    subst e1
    cases r3
    have rd : Rep X.K F3 d v := Rep.mono (s2.trans s3) _ _ r1'
    have ss : Same F F3 := (s1.trans s1').trans (s2.trans s3)
    cases ro with
    | fr ds => exact h3.elim
    | frD ds => exact h3.elim
    | val z =>
      cases z with
      | ref a =>
        cases r2
        obtain ⟨ds, hl, j, hj, h4⟩ := h3
        have hm := lookup_mem (lookL_iff hl).1
        obtain ⟨_, o, hx, ro⟩ := S3.w.reg a ds hm
        obtain ⟨xs, rfl, rx⟩ := ro.lstOf (lookL_iff hl).2
        refine ⟨a, xs, k, j, rfl, rfl, hx, by rw [← rx.length]; exact hj, ?_⟩
        exact ok.nx _ _ h4 σ F3 _ (S3.regWrite hm (rx.set j rd)) ss
      | _ => exact h3.elim
    | sl s =>
      obtain ⟨ds, hl, j, hj, h4⟩ := h3
      obtain ⟨a, ha', f⟩ := S3.ownL s ds hl
      have r2' : σ[s]? = some (some ov) := r2
      rw [r2'] at ha'
      cases ha'
      obtain ⟨xs, hx, rx⟩ := f.ex
      refine ⟨a, xs, k, j, rfl, rfl, hx, by rw [← rx.length]; exact hj, ?_⟩
      exact ok.nx _ _ h4 σ F3 _ (S3.ownWrite hl r2' (rx.set j rd)) ss⟩⟩
/-- a.append(e), a a name whose list it owns -/
def dApp (i : Nat) (te : DE) : DE := fun E G k => (∃ ds, E[i]? = some (Sl3.own ds)) ∧ te E G fun r E1 G1 => ∃ d E2, r.ice E1 = some (d, E2) ∧ ∃ ds, E2[i]? = some (Sl3.own ds) ∧ ds.length < sizeLine ∧ k (.val .non) (E2.set i (Sl3.own (ds ++ [d]))) G1
theorem le_append {i : Nat} {o e : Expr} {te : DE} {apos cpos : Pos} (ho : PE X o (tVar i)) (he : LE X B e te)
    (hbase : attributeBase o "append" X.env (eval o X.env) = eval o X.env := by rfl)
    (hfew : ((backTo cpos (starEach (e :: []) X.env)).all (fun x => !x.1) && (backToKw cpos (keywordEach [] X.env)).all (fun x => x.1.isSome)
      && decide ((e :: []).length + ([] : List Keyword).length + (if ([] : List Keyword).isEmpty then 0 else 1) < 30)) = true := by rfl)
    (hline : (apos.endLine == cpos.line) = true := by rfl) (hs : starEach (e :: []) X.env = (false, eval e X.env) :: starEach [] X.env := by rfl) (hplain : (backTo cpos (starEach [] X.env)).any (·.1) = false := by rfl) :
    LE X B (.Call (.Attribute o "append" apos) [e] [] cpos) (dApp i te) :=
  ⟨pe_imp (pe_bm PySem.F.plainAttrs_list PySem.F.slot_list_append PySem.F.type_list_append mt_append ho (pa_cons he.pe pa_nil hs) hbase hfew hline hs hplain) fun σ H Q ⟨pn, F, E, G, k, S, ⟨⟨ds0, h0⟩, h⟩, hk⟩ => by
    obtain ⟨a, ha, f⟩ := S.ownL i ds0 h0
    obtain ⟨xs0, hx0, _⟩ := f.ex
    refine ⟨_, ha, .inl ⟨rfl, xs0, SqL.of hx0⟩, pn, F, E, G, _, S, h, fun r E1 G1 ⟨d, E2, hd, ds, hds, hz, h1⟩ v F1 H1 S1 s1 r1 => ?_⟩
    obtain ⟨F2, S2, s2, r2⟩ := S1.ice r1 hd
    obtain ⟨a', ha', f'⟩ := S2.ownL i ds hds
    rw [ha] at ha'
    cases ha'
    obtain ⟨xs, hx, rx⟩ := f'.ex
    refine ⟨a, xs, v, rfl, rfl, hx, by rw [← rx.length]; exact hz, ?_⟩
    exact hk _ _ _ h1 _ F2 _ (S2.ownWrite hds ha (rx.append (.cons r2 .nil))) (s1.trans s2) .non⟩

/-! ### a, b = x, y -/
def Res.fin (r : Res) (E : Env3) : Option (Res × Env3) := match r with
  | .val d => some (.val d, E)
  | .fr ds => some (.fr ds, E)
  | .frD d => some (.frD d, E)
  | .sl i => match E[i]? with
    | some (Sl3.val d) => some (.val d, E)
    | some (Sl3.own ds) => some (.val (.lst ds), E.set i (Sl3.val (.lst ds)))
    | some (Sl3.ownD d) => some (.val d, E.set i (Sl3.val d))
    | _ => none
/-- a free object's slot -/
def Res.frO : Res → Option Sl3
  | .fr ds => some (.own ds)
  | .frD d => some (.ownD d)
  | _ => none
theorem frO_put {r : Res} {s : Sl3} (h : r.frO = some s) (i : Nat) (E : Env3) : r.put i E = some (E.set i s) := by
  cases r <;> cases h <;> rfl
theorem St3.finR {K : PySem.W.Frag} {pn : Pend} {F H : Hp} {σ : L2.St} {E E' : Env3} {G : Reg} (S : St3 K B pn F H σ E G) {r r' : Res} {v : V} (hr : RepR K B pn F H σ E G r v) (h : r.fin E = some (r', E')) :
    ∃ F', St3 K B pn F' H σ E' G ∧ Same F F' ∧ ((∃ d, r' = .val d ∧ Rep K F' d v) ∨ ∃ s d a, r'.frO = some s ∧ s.ow = some d ∧ r' = r ∧ E' = E ∧ F' = F ∧ v = .ref a ∧ FreX K B pn F H G a d ∧ NoOwn σ E a) := by
  cases r with
  | val d => cases h; exact ⟨F, S, Same.refl F, .inl ⟨d, rfl, hr⟩⟩
  | fr ds =>
    cases h
    obtain ⟨a, rfl, f, no⟩ := hr
    exact ⟨F, S, Same.refl F, .inr ⟨_, _, a, rfl, rfl, rfl, rfl, rfl, rfl, f.x, no⟩⟩
  | frD d =>
    cases h
    obtain ⟨a, rfl, f, no⟩ := hr
    exact ⟨F, S, Same.refl F, .inr ⟨_, _, a, rfl, rfl, rfl, rfl, rfl, rfl, f, no⟩⟩
  | sl i =>
    have e : (Res.sl i).ice E = (match r' with | .val d => some (d, E') | _ => none) := by
      unfold Res.fin at h
      unfold Res.ice
      dsimp only at h ⊢
      cases q : E[i]? with
      | none => rw [q] at h; cases h
      | some s => rw [q] at h; cases s <;> cases h <;> rfl
    cases r' with
    | val d =>
      obtain ⟨F', S', s', r''⟩ := S.ice (r := .sl i) hr e
      exact ⟨F', S', s', .inl ⟨d, rfl, r''⟩⟩
    | fr ds =>
      unfold Res.fin at h
      dsimp only at h
      split at h <;> cases h
    | frD ds =>
      unfold Res.fin at h
      dsimp only at h
      split at h <;> cases h
    | sl j =>
      unfold Res.fin at h
      dsimp only at h
      split at h <;> cases h
def dPar (i j : Nat) (ta tb : DE) : DSt := fun D E G => ta E G fun x E1 G1 => ∃ x' E2, x.fin E1 = some (x', E2) ∧ tb E2 G1 fun y E3 G2 => ∃ y' E4, y.fin E3 = some (y', E4) ∧ i < E4.length ∧ j < E4.length ∧
  ∃ E5, x'.put i E4 = some E5 ∧ ∃ E6, y'.put j E5 = some E6 ∧ D.nx E6 G2
theorem ls_par {i j : Nat} {x y : Str} {a b : Expr} {ta tb : DE} {px py pt pos : Pos} {kt k2 pt2} (hc : X.calm = true) (hN : X.N.Nodup) (hi : X.N[i]? = some x) (hj : X.N[j]? = some y) (hij : i ≠ j)
    (hx : X.env.scope.names.lookup x = some .local) (hy : X.env.scope.names.lookup y = some .local) (ha : LE X B a ta) (hb : LE X B b tb)
    (hw : swappedStores [.Tuple [.Name x px, .Name y py] kt pt] (.Tuple [a, b] k2 pt2) X.env = pure (some [x, y]))
    (hs : swapsWithSole [.Tuple [.Name x px, .Name y py] kt pt] (.Tuple [a, b] k2 pt2) pos.line X.env = pure false := by rfl)
    (hs1 : starEach [a, b] X.env = (false, eval a X.env) :: starEach [b] X.env := by rfl) (hs2 : starEach [b] X.env = (false, eval b X.env) :: starEach [] X.env := by rfl) :
    LS X B (.Assign [.Tuple [.Name x px, .Name y py] kt pt] (.Tuple [a, b] k2 pt2) pos) (dPar i j ta tb) :=
  ⟨ps_imp (ps_par hc hN hi hj hij hx hy (pa_cons ha.pe (pa_cons hb.pe pa_nil hs2) hs1) hw hs) fun D σ H ⟨pn, F, E, G, D3, S, h, ok⟩ => by
    -- the last step: both are stored
    have last : ∀ {x' y' : Res} {v u : V} {E4 : Env3} {G2 : Reg} {F4 H4 : Hp}, St3 X.K B pn F4 H4 σ E4 G2 → Same F F4 →
        ((∃ d, x' = .val d ∧ Rep X.K F4 d v) ∨ ∃ s d a, x'.frO = some s ∧ s.ow = some d ∧ v = .ref a ∧ FreX X.K B pn F4 H4 G2 a d ∧ NoOwn σ E4 a) →
        ((∃ d, y' = .val d ∧ Rep X.K F4 d u) ∨ ∃ s d a, y'.frO = some s ∧ s.ow = some d ∧ u = .ref a ∧ FreX X.K B pn F4 H4 G2 a d ∧ NoOwn σ E4 a ∧ (x'.frO ≠ none → u ≠ v)) → i < E4.length → j < E4.length →
        (∃ E5, x'.put i E4 = some E5 ∧ ∃ E6, y'.put j E5 = some E6 ∧ D3.nx E6 G2) → D.nx ((σ.set i (some v)).set j (some u)) H4 := by
      intro x' y' v u E4 G2 F4 H4 S4 s4 hx' hy' hli hlj ⟨E5, e5, E6, e6, hn⟩
      have hli' : i < σ.length := by rw [← S4.len]; exact hli
      have hlj' : j < σ.length := by rw [← S4.len]; exact hlj
      have hlj2 : j < (σ.set i (some v)).length := by rw [List.length_set]; exact hlj'
      have S5 : St3 X.K B pn F4 H4 (σ.set i (some v)) E5 G2 := by
        rcases hx' with ⟨d, rfl, r⟩ | ⟨s, d, a, fo, ow, rfl, f, no⟩
        · cases e5; exact S4.setVal hli' r
        · rw [frO_put fo] at e5
          cases e5; exact S4.setOwnX hli' f ow no
      have S6 : St3 X.K B pn F4 H4 ((σ.set i (some v)).set j (some u)) E6 G2 := by
        rcases hy' with ⟨d, rfl, r⟩ | ⟨s, d, a, fo, ow, rfl, f, no, ne⟩
        · cases e6; exact S5.setVal hlj2 r
        · rw [frO_put fo] at e6
          cases e6
          refine S5.setOwnX hlj2 f ow fun k t g hk ht e => ?_
          rw [setσ_look hli'] at e
          by_cases q : i = k
          · rw [if_pos q] at e
            rcases hx' with ⟨d, rfl, r⟩ | ⟨s', d', a', fo', ow', rfl, f', no'⟩
            · cases e5
              subst q
              rw [List.getElem?_set_self hli] at hk
              cases hk
              cases ht
            · exact ne (by rw [fo']; exact fun z => nomatch z) (Option.some.inj (Option.some.inj e)).symm
          · rw [if_neg q] at e
            rcases hx' with ⟨d, rfl, r⟩ | ⟨s', d', a', fo', ow', rfl, f', no'⟩
            · cases e5
              rw [List.getElem?_set_ne q] at hk
              exact no k t g hk ht e
            · rw [frO_put fo'] at e5
              cases e5
              rw [List.getElem?_set_ne q] at hk
              exact no k t g hk ht e
      exact ok.nx E6 G2 hn _ F4 H4 S6 s4
    refine ⟨pn, F, E, G, _, S, h, fun rx E1 G1 ⟨x', E2, hx', h1⟩ v F1 H1 S1 s1 r1 => ?_⟩
    obtain ⟨F2, S2, s2, hx2⟩ := S1.finR r1 hx'
    rcases hx2 with ⟨d, rfl, r⟩ | ⟨s, d, a, fo, ow, e2, e3, e4, e5, f, no⟩
    · refine ⟨pn, F2, E2, G1, _, S2, h1, fun ry E3 G2 ⟨y', E4, hy', hli, hlj, hn⟩ u F3 H3 S3 s3 r3 => ?_⟩
      obtain ⟨F4, S4, s4, hy4⟩ := S3.finR r3 hy'
      refine ⟨_, _, rfl, last S4 (((s1.trans s2).trans s3).trans s4) (.inl ⟨d, rfl, Rep.mono (s3.trans s4) _ _ r⟩) ?_ hli hlj hn⟩
      rcases hy4 with ⟨d', e1, r⟩ | ⟨s', d', b', fo', ow', e2, e3, e4, e5, f', no'⟩
      · exact .inl ⟨d', e1, r⟩
      · subst e3 e4 e5
        exact .inr ⟨s', d', b', fo', ow', rfl, f', no', fun z => absurd rfl z⟩
    · subst e3 e4 e5
      obtain ⟨o, hx1, rxs⟩ := f.ex
      refine ⟨(a, o) :: pn, F2, E2, G1, _, S2.pendOn f.nF f.nB f.nG f.nP hx1 no rxs.dat.nt, h1, fun ry E3 G2 ⟨y', E4, hy', hli, hlj, hn⟩ u F3 H3 S3 s3 r3 => ?_⟩
      obtain ⟨F4, S4, s4, hy4⟩ := S3.finR r3 hy'
      obtain ⟨S5, hF, hB, hG, hP, hH, no4⟩ := S4.pendOff rxs.dat
      refine ⟨_, _, rfl, last S5 ((s1.trans s3).trans s4) (.inr ⟨s, d, a, fo, ow, rfl, ⟨hF, hB, hG, hP, o, hH, rxs.mono (s3.trans s4)⟩, no4⟩) ?_ hli hlj hn⟩
      rcases hy4 with ⟨d', e1, r⟩ | ⟨s', d', b', fo', ow', e2, e3, e4, e5, f', no'⟩
      · exact .inl ⟨d', e1, r⟩
      · subst e3 e4 e5
        refine .inr ⟨s', d', b', fo', ow', rfl, ⟨f'.nF, f'.nB, f'.nG, fun z => f'.nP (by rw [List.map_cons]; exact List.mem_cons_of_mem _ z), f'.ex⟩, no', fun _ e => f'.nP ?_⟩
        cases e
        rw [List.map_cons]
        exact List.mem_cons_self⟩
end
end L3

set_option Elab.async false
set_option maxRecDepth 100000
set_option maxHeartbeats 4000000
/-! L3, part j: short words for a generated derivation. -/
namespace L3
open PySem PySem.Spec PyProof.Rows L2
/-- a def of the module that keeps a promise over plain values -/
structure Cal3 (P : Program) (w : World) (K : PySem.W.Frag) (mg : Str → Option Value) (base : Heap) (x : Str) (k : Nat) (ps : List Str) (sp : DSp) : Prop where
  ex : ∃ (f : Addr) (fd : FuncData), FnOk P w K mg base (L2.CX P w) k f fd ps (LSp K sp) ∧ mg x = some (.ref f) ∧ PySem.W.keepIn K (.ref f) = true ∧ Binds K fd ps [] ∧ ∃ oc od osl, K.lookup f = some ⟨oc, od, .func fd, osl⟩
/-- what the head tells of a def -/
structure DefAt (K : PySem.W.Frag) (mg : Str → Option Value) (x : Str) (st : Stmt) : Prop where
  ex : ∃ (f : Addr) (oc : Value) (od an : Option Addr) (osl : Array (Option Value)) (kV doc pm cdv ct : Value), mg x = some (.ref f) ∧
    K.lookup f = some ⟨oc, od, .func (PySem.W.fnOf x x (defArgs st) (defBody st) (defScope st) .none kV doc pm an cdv ct), osl⟩ ∧ PySem.W.codeIn K cdv x = true ∧ PySem.W.keepIn K (.ref f) = true
theorem defAt_mk {K : PySem.W.Frag} {h : Heap} {mg : Str → Option Value} {x : Str} {st : Stmt} (X : K.In h) (G : h.Ns mainGlobals mg) {f : Addr} {oc : Value} {od an : Option Addr} {osl : Array (Option Value)} {kV doc pm cdv ct : Value}
    (a : PySem.W.nsIn K mainGlobals x = some (some (.ref f))) (l : K.lookup f = some ⟨oc, od, .func (PySem.W.fnOf x x (defArgs st) (defBody st) (defScope st) .none kV doc pm an cdv ct), osl⟩) (c : PySem.W.codeIn K cdv x = true) (k : PySem.W.keepIn K (.ref f) = true) : DefAt K mg x st :=
  ⟨f, oc, od, an, osl, kV, doc, pm, cdv, ct, PySem.W.mg_of X G a, l, c, k⟩
section
variable {P : Program} {w : World} {K : PySem.W.Frag} {mg : Str → Option Value} {base : Heap}
theorem cal3 {x : Str} {st : Stmt} {k : Nat} {ps N : List Str} {sp : DSp} (d : DefAt K mg x st)
    (hb : ∀ (kV doc pm : Value) (an : Option Addr) (cdv ct : Value) (us : List Value), us.length = ps.length → bindArgs (PySem.W.fnOf x x (defArgs st) (defBody st) (defScope st) .none kV doc pm an cdv ct) ⟨us, []⟩ = pure (ps.zip us))
    (S : FnScope N ps (defScope st)) (len : ∀ ds G q e, sp ds G q e → ds.length = ps.length)
    (body : ∀ (f : Addr) (cdv : Value) (A : Around) (outer : List Env) (s : Shared) (H : Hp) (E : XK) (B : Base3) (dw : Exc3 → Reg → Prop), Room k (A.deeper (envOfC x (defScope st) s.heap.objs.size f cdv)) →
      WOkL (cxOf (L2.CX P w) P w K mg base N x (defScope st) f cdv A outer s H E) B (fun x _ G => dw x G) →
      ∃ t : DSt, LSs (cxOf (L2.CX P w) P w K mg base N x (defScope st) f cdv A outer s H E) B (defBody st) t ∧ ∀ ds G q, sp ds G q dw → t { nx := fun _ G' => q (.val .non) G', rt := q } (start3 N ds) G) :
    Cal3 P w K mg base x (k + 1) ps sp := by
  obtain ⟨f, oc, od, an, osl, kV, doc, pm, cdv, ct, hm, l, c, kp⟩ := d.ex
  have F := fun_mk (st := st) l c kp
  exact ⟨f, _, ok3 F S len (fun cdv A outer s H E B dw hr wk => body f cdv A outer s H E B dw hr wk), hm, kp, F.binds hb, _, _, _, l⟩
end
section
variable {X : Cx} {B : Base3}
theorem le_callC {x : Str} {k j : Nat} {ps : List Str} {sp : DSp} {dw : DW} {ta : DA} {p pos : Pos} {e : Expr} {es : List Expr} (c : Cal3 X.prog X.w X.K X.mg X.base x k ps sp) (hr : Room j X.A) (hk : k ≤ j) (wk : WOk X B dw) (hg : Gl X x) (ha : LA X B (e :: es) ta)
    (hdb : (x == ("__debug__" : Str)) = false := by decide) (he : starEach (e :: es) X.env = (false, eval e X.env) :: starEach es X.env := by rfl) (hpl : (backTo pos (starEach es X.env)).any (·.1) = false := by rfl) :
    LE X B (.Call (.Name x p) (e :: es) [] pos) (dCall sp dw ta) := by
  obtain ⟨f, fd, Fn, hm, kp, hb, -⟩ := c.ex
  exact le_call Fn (hr.mono hk) wk hg hm kp hb ha hdb he hpl
theorem room65 {k : Nat} {A : Around} (r : Room k A) : A.units + 65 < cLine := by have := r.un; omega
variable {a b c : Expr} {ta tb tc : DE} {pos : Pos}
/-! comparisons, as values and as tests -/
theorem le_lt (ha : LE X B a ta) (hb : LE X B b tb) : LE X B (.Compare a [.Lt] [b] pos) (dOp oLt ta tb) := le_cmp op_lt r_cmpI ha hb (nomark _)
theorem le_eq {k : Nat} (hr : Room k X.A) (ha : LE X B a ta) (hb : LE X B b tb) : LE X B (.Compare a [.Eq] [b] pos) (dOp oEq ta tb) := le_cmp (op_eqD hr.units) r_eq3 ha hb (nomark _)
theorem le_ne {k : Nat} (hr : Room k X.A) (ha : LE X B a ta) (hb : LE X B b tb) : LE X B (.Compare a [.NotEq] [b] pos) (dOp oNe ta tb) := le_cmp (op_neD hr.units) r_ne3 ha hb (nomark _)
theorem le_in {k : Nat} (hr : Room k X.A) (ha : LE X B a ta) (hb : LE X B b tb) (hm : behindInMarks .In b = false := by rfl) : LE X B (.Compare a [.In] [b] pos) (dOp (oIn false) ta tb) := le_cmp (op_in3 (room65 hr)) r_in3 ha hb hm
theorem lt_lt (ha : LE X B a ta) (hb : LE X B b tb) : LT X B (.Compare a [.Lt] [b] pos) (dTest (dOp oLt ta tb)) := lt_cmp op_lt r_cmpI ha hb (nomark _)
theorem lt_le (ha : LE X B a ta) (hb : LE X B b tb) : LT X B (.Compare a [.LtE] [b] pos) (dTest (dOp oLe ta tb)) := lt_cmp op_le r_cmpI ha hb (nomark _)
theorem lt_gt (ha : LE X B a ta) (hb : LE X B b tb) : LT X B (.Compare a [.Gt] [b] pos) (dTest (dOp oGt ta tb)) := lt_cmp op_gt r_cmpI ha hb (nomark _)
theorem lt_ge (ha : LE X B a ta) (hb : LE X B b tb) : LT X B (.Compare a [.GtE] [b] pos) (dTest (dOp oGe ta tb)) := lt_cmp op_ge r_cmpI ha hb (nomark _)
theorem lt_eq {k : Nat} (hr : Room k X.A) (ha : LE X B a ta) (hb : LE X B b tb) : LT X B (.Compare a [.Eq] [b] pos) (dTest (dOp oEq ta tb)) := lt_cmp (op_eqD hr.units) r_eq3 ha hb (nomark _)
theorem lt_ne {k : Nat} (hr : Room k X.A) (ha : LE X B a ta) (hb : LE X B b tb) : LT X B (.Compare a [.NotEq] [b] pos) (dTest (dOp oNe ta tb)) := lt_cmp (op_neD hr.units) r_ne3 ha hb (nomark _)
theorem lt_in {k : Nat} (hr : Room k X.A) (ha : LE X B a ta) (hb : LE X B b tb) (hm : behindInMarks .In b = false := by rfl) : LT X B (.Compare a [.In] [b] pos) (dTest (dOp (oIn false) ta tb)) := lt_cmp (op_in3 (room65 hr)) r_in3 ha hb hm
theorem lt_isN (ha : LE X B a ta) (hb : LE X B b tb) : LT X B (.Compare a [.Is] [b] pos) (dTest (dOp (oIs false) ta tb)) := lt_cmp op_isN r_is3 ha hb (nomark _)
theorem lt_notN (ha : LE X B a ta) (hb : LE X B b tb) : LT X B (.Compare a [.IsNot] [b] pos) (dTest (dOp (oIs true) ta tb)) := lt_cmp op_notN r_isNot3 ha hb (nomark _)
/-- the name of an operator's rule, for chains -/
structure OpN (X : Cx) (B : Base3) (op : CmpOp) (rd : Reg → D → D → (Res → Prop) → Prop) : Prop where
  ex : ∃ r, OpR X (compareOp op) r ∧ ROp X B r rd
theorem on_lt : OpN X B .Lt oLt := ⟨_, op_lt, r_cmpI⟩
theorem on_le : OpN X B .LtE oLe := ⟨_, op_le, r_cmpI⟩
theorem le_ch {op op' : CmpOp} {rd rd' : Reg → D → D → (Res → Prop) → Prop} (o : OpN X B op rd) (o' : OpN X B op' rd') (ha : LE X B a ta) (hb : LE X B b tb) (hc : LE X B c tc) (hm : lastMarks [op, op'] [b, c] = false := by with_unfolding_all rfl) : LE X B (.Compare a [op, op'] [b, c] pos) (dChain rd rd' ta tb tc) := by
  obtain ⟨r, h1, h2⟩ := o.ex
  obtain ⟨r', h3, h4⟩ := o'.ex
  exact le_chain h1 h2 h3 h4 ha hb hc hm
theorem lt_ch {op op' : CmpOp} {rd rd' : Reg → D → D → (Res → Prop) → Prop} (o : OpN X B op rd) (o' : OpN X B op' rd') (ha : LE X B a ta) (hb : LE X B b tb) (hc : LE X B c tc) (hm : lastMarks [op, op'] [b, c] = false := by with_unfolding_all rfl) : LT X B (.Compare a [op, op'] [b, c] pos) (dTest (dChain rd rd' ta tb tc)) := by
  obtain ⟨r, h1, h2⟩ := o.ex
  obtain ⟨r', h3, h4⟩ := o'.ex
  exact lt_chain h1 h2 h3 h4 ha hb hc hm
theorem ip_subI : PIp X .Sub (rI0 fun i j => .int (i - j)) := ip_sub
def oAddI : Reg → D → D → (Res → Prop) → Prop := fun _ d e k => match d, e with
  | .int i, .int j => k (.val (.int (i + j)))
  | _, _ => False
/-- constants of the module -/
theorem le_gint {x : Str} {i : Int} {pos : Pos} (hg : Gl X x) (hm : ∃ t, X.mg x = some (.int i t)) (hd : (x == ("__debug__" : Str)) = false := by decide) : LE X B (.Name x pos) (dC (.int i)) := by
  obtain ⟨t, hm⟩ := hm
  exact le_c (v := .int i) (pe_glob hg hm ⟨_, rfl⟩ hd) fun _ => .int i
theorem le_gstr {x : Str} {i : Str} {pos : Pos} (hg : Gl X x) (hm : ∃ t, X.mg x = some (.str i t)) (hd : (x == ("__debug__" : Str)) = false := by decide) : LE X B (.Name x pos) (dC (.str i)) := by
  obtain ⟨t, hm⟩ := hm
  exact le_c (v := .str i) (pe_glob hg hm ⟨_, rfl⟩ hd) fun _ => .str i
/-- a tuple of ints of the module -/
structure TupAt (K : PySem.W.Frag) (mg : Str → Option Value) (x : Str) (ns : List Int) : Prop where
  ex : ∃ (a : Addr), mg x = some (.ref a) ∧ ∀ F, Rep K F (.ktp ns) (.ref a)
theorem le_gtup {x : Str} {ns : List Int} {pos : Pos} (hg : Gl X x) (hm : TupAt X.K X.mg x ns) (hd : (x == ("__debug__" : Str)) = false := by decide) : LE X B (.Name x pos) (dC (.ktp ns)) := by
  obtain ⟨a, hm, hr⟩ := hm.ex
  exact le_c (v := .ref a) (pe_glob hg hm rfl hd) hr
end
theorem tupAt_mk {K : PySem.W.Frag} {h : Heap} {mg : Str → Option Value} {x : Str} {ns : List Int} (X : K.In h) (G : h.Ns mainGlobals mg) {a : Addr} {dd : Option Addr} {its : List Value} {n : Nat} {sl : Array (Option Value)}
    (e : PySem.W.nsIn K mainGlobals x = some (some (.ref a))) (l : K.lookup a = some ⟨.type "tuple", dd, .seq its.toArray n, sl⟩) (hi : Vals (ns.map V.int) its) (hz : its.length ≤ sizeLine) : TupAt K mg x ns :=
  ⟨a, PySem.W.mg_of X G e, fun F => .ktp (.inr ⟨_, its.toArray, n, l, rfl, rfl, by simpa using hz, by simpa using hi⟩)⟩
end L3

set_option Elab.async false
set_option maxRecDepth 100000
set_option maxHeartbeats 4000000
/-! L3, part k: the readings, evaluated by simp. -/
namespace L3
open PySem PySem.Spec PyProof.Rows L2
section
variable {E : Env3} {G : Reg} {k : DK} {ta tb tc te to ti : DE} {t u : DT} {s s' : DSt} {Dn : Ends3} {i j : Nat} {tr : DA} {ka : List D → Env3 → Reg → Prop} {kb : Bool → Env3 → Reg → Prop} {rd rd' : Reg → D → D → (Res → Prop) → Prop}
@[simp] theorem start3_cons {x : Str} {N : List Str} {d : D} {ds : List D} : start3 (x :: N) (d :: ds) = Sl3.val d :: start3 N ds := by
  unfold start3; simp
@[simp] theorem start3_none {x : Str} {N : List Str} : start3 (x :: N) [] = Sl3.no :: start3 N [] := by
  unfold start3; simp [List.replicate_succ]
@[simp] theorem start3_nil : start3 [] [] = [] := rfl
@[simp] theorem dSeq_eq : dSeq s s' Dn E G = s { Dn with nx := s' Dn } E G := rfl
@[simp] theorem dNext_eq : dNext Dn E G = Dn.nx E G := rfl
@[simp] theorem dIfS_eq : dIfS t s s' Dn E G = t E G fun b E1 G1 => if b = true then s Dn E1 G1 else s' Dn E1 G1 := rfl
@[simp] theorem dDrop_eq : dDrop te Dn E G = te E G fun _ E1 G1 => Dn.nx E1 G1 := rfl
@[simp] theorem dRet_eq : dRet te Dn E G = te E G fun r E1 G1 => ∃ r', r.out E1 = some r' ∧ Dn.rt r' G1 := rfl
@[simp] theorem dRetN_eq : dRetN Dn E G = Dn.rt (.val .non) G := rfl
@[simp] theorem dBreak_eq : dBreak Dn E G = Dn.bk E G := rfl
@[simp] theorem dCont_eq : dCont Dn E G = Dn.ct E G := rfl
@[simp] theorem dNever_eq : dNever Dn E G = False := rfl
@[simp] theorem dSet_eq : dSet i te Dn E G = te E G fun r E1 G1 => i < E1.length ∧ ∃ E2, r.put i E1 = some E2 ∧ Dn.nx E2 G1 := rfl
@[simp] theorem dSetReg_eq : dSetReg i te Dn E G = te E G fun r E1 G1 => i < E1.length ∧ ∃ ds, r = .fr ds ∧ ∀ a, Dn.nx (E1.set i (Sl3.val (.ref a))) ((a, ds) :: G1) := rfl
@[simp] theorem dAug_eq : dAug i rd te Dn E G = ∃ d, E[i]? = some (Sl3.val d) ∧ te E G fun y E1 G1 => E1[i]? = some (Sl3.val d) ∧ ∃ e, y.get E1 = some e ∧ rd G1 d e fun r => ∃ z, r = .val z ∧ Dn.nx (E1.set i (Sl3.val z)) G1 := rfl
@[simp] theorem dStore_eq : dStore te to ti Dn E G = te E G fun v E1 G1 => ∃ d E2, v.ice E1 = some (d, E2) ∧ to E2 G1 fun o E3 G2 => ti E3 G2 fun i E4 G3 => ∃ k, i = .val (.int k) ∧
  match o with
  | .val (.ref a) => ∃ ds, lookL G3 a = some ds ∧ ∃ j, ixN ds.length k = some j ∧ Dn.nx E4 (regSet G3 a (ds.set j d))
  | .sl s => ∃ ds, E4[s]? = some (Sl3.own ds) ∧ ∃ j, ixN ds.length k = some j ∧ Dn.nx (E4.set s (Sl3.own (ds.set j d))) G3
  | _ => False := rfl
@[simp] theorem dPar_eq : dPar i j ta tb Dn E G = ta E G fun x E1 G1 => ∃ x' E2, x.fin E1 = some (x', E2) ∧ tb E2 G1 fun y E3 G2 => ∃ y' E4, y.fin E3 = some (y', E4) ∧ i < E4.length ∧ j < E4.length ∧
  ∃ E5, x'.put i E4 = some E5 ∧ ∃ E6, y'.put j E5 = some E6 ∧ Dn.nx E6 G2 := rfl
@[simp] theorem dAsg_eq {g : DG} : dAsg te g Dn E G = te E G fun r E1 G1 => ∃ d E2, r.ice E1 = some (d, E2) ∧ g d E2 G1 Dn.nx := rfl
@[simp] theorem dFor_eq {di : DI} {g : DG} : dFor di g s Dn E G = di E G fun ds E1 G1 => dForL g s ds Dn E1 G1 := rfl
@[simp] theorem dForL_nil {g : DG} : dForL g s [] Dn E G = Dn.nx E G := rfl
@[simp] theorem dWhile_eq : dWhile t s Dn E G = ∃ n, dWhN t s n Dn E G := rfl
@[simp] theorem dVar_eq : dVar i E G k = match E[i]? with
  | some (Sl3.val d) => k (.val d) E G
  | some (Sl3.own _) => k (.sl i) E G
  | some (Sl3.ownD _) => k (.sl i) E G
  | _ => False := rfl
@[simp] theorem dC_eq {d : D} : dC d E G k = k (.val d) E G := rfl
@[simp] theorem dOp_eq : dOp rd ta tb E G k = ta E G fun x E1 G1 => tb E1 G1 fun y E2 G2 => ∃ d, x.fz.get E2 = some d ∧ ∃ e, y.get E2 = some e ∧ rd G2 d e fun r => k r E2 G2 := rfl
@[simp] theorem dTest_eq : dTest te E G kb = te E G fun r E1 G1 => ∃ b, r = .val (.bl b) ∧ kb b E1 G1 := rfl
@[simp] theorem dNot_eq : dNot t E G kb = t E G fun b E1 G1 => kb (!b) E1 G1 := rfl
@[simp] theorem dAnd_eq : dAnd t u E G kb = t E G fun b E1 G1 => if b = true then u E1 G1 kb else kb false E1 G1 := rfl
@[simp] theorem dOr_eq : dOr t u E G kb = t E G fun b E1 G1 => if b = true then kb true E1 G1 else u E1 G1 kb := rfl
@[simp] theorem dAndV_eq : dAndV ta tb E G k = ta E G fun r E1 G1 => ∃ b, r = .val (.bl b) ∧ if b = true then tb E1 G1 k else k (.val (.bl false)) E1 G1 := rfl
@[simp] theorem dOrV_eq : dOrV ta tb E G k = ta E G fun r E1 G1 => ∃ b, r = .val (.bl b) ∧ if b = true then k (.val (.bl true)) E1 G1 else tb E1 G1 k := rfl
@[simp] theorem dNotV_eq : dNotV ta E G k = ta E G fun r E1 G1 => ∃ b, r = .val (.bl b) ∧ k (.val (.bl (!b))) E1 G1 := rfl
@[simp] theorem dIf_eq : dIf t ta tb E G k = t E G fun b E1 G1 => if b = true then ta E1 G1 k else tb E1 G1 k := rfl
@[simp] theorem dUn_eq {rd : D → (Res → Prop) → Prop} : dUn rd ta E G k = ta E G fun x E1 G1 => ∃ d, x.get E1 = some d ∧ rd d fun r => k r E1 G1 := rfl
@[simp] theorem dChain_eq : dChain rd rd' ta tb tc E G k = ta E G fun x E1 G1 => tb E1 G1 fun y E2 G2 =>
  ∃ d, x.fz.get E2 = some d ∧ ∃ e, y.fz.get E2 = some e ∧ rd G2 d e fun r => ∃ b, r = .val (.bl b) ∧
    if b = true then tc E2 G2 fun z E3 G3 => ∃ e', y.fz.get E3 = some e' ∧ ∃ f, z.get E3 = some f ∧ rd' G3 e' f fun r => k r E3 G3 else k (.val (.bl false)) E2 G2 := rfl
@[simp] theorem dNil_eq : dNil E G ka = ka [] E G := rfl
@[simp] theorem dCons_eq : dCons ta tr E G ka = ta E G fun x E1 G1 => ∃ d E2, x.ice E1 = some (d, E2) ∧ tr E2 G1 fun ds E3 G3 => ka (d :: ds) E3 G3 := rfl
@[simp] theorem dPCons_eq : dPCons ta tr E G ka = ta E G fun x E1 G1 => tr E1 G1 fun ds E3 G3 => ∃ d, x.fz.get E3 = some d ∧ ka (d :: ds) E3 G3 := rfl
@[simp] theorem dTup_eq : dTup tr E G k = tr E G fun ds E1 G1 => ds.length ≤ sizeLine ∧ k (.val (.tup ds)) E1 G1 := rfl
@[simp] theorem dLst_eq : dLst tr E G k = tr E G fun ds E1 G1 => ds.length ≤ sizeLine ∧ k (.fr ds) E1 G1 := rfl
@[simp] theorem dNoPart_eq {ko : Option Int → Env3 → Reg → Prop} : dNoPart E G ko = ko none E G := rfl
@[simp] theorem dPart_eq {ko : Option Int → Env3 → Reg → Prop} : dPart ta E G ko = ta E G fun r E1 G1 => ∃ i, r = .val (.int i) ∧ ko (some i) E1 G1 := rfl
@[simp] theorem dSl_eq {rd : D → Option Int → Option Int → (Res → Prop) → Prop} {tl th : DO} : dSl rd te tl th E G k = te E G fun x E1 G1 => tl E1 G1 fun lo E2 G2 => th E2 G2 fun hi E3 G3 =>
  ∃ d, x.fz.get E3 = some d ∧ rd d lo hi fun r => k r E3 G3 := rfl
@[simp] theorem dCB_eq {rd : Reg → List D → (Res → Prop) → Prop} : dCB rd tr E G k = tr E G fun ds E1 G1 => rd G1 ds fun r => k r E1 G1 := rfl
@[simp] theorem dCall_eq {sp : DSp} {dw : DW} : dCall sp dw tr E G k = tr E G fun ds E1 G1 => sp ds G1 (fun r G2 => k r E1 G2) (fun x G2 => dw x E1 G2) := rfl
@[simp] theorem dApp_eq : dApp i te E G k = ((∃ ds, E[i]? = some (Sl3.own ds)) ∧ te E G fun r E1 G1 => ∃ d E2, r.ice E1 = some (d, E2) ∧ ∃ ds, E2[i]? = some (Sl3.own ds) ∧ ds.length < sizeLine ∧ k (.val .non) (E2.set i (Sl3.own (ds ++ [d]))) G1) := rfl
@[simp] theorem dIter_eq {kl : List D → Env3 → Reg → Prop} : dIter te E G kl = te E G fun r E1 G1 => ∃ d E2, r.ice E1 = some (d, E2) ∧ ∃ ds, iterD d = some ds ∧ kl ds E2 G1 := rfl
@[simp] theorem dRng1_eq {kl : List D → Env3 → Reg → Prop} : dRng1 tr E G kl = tr E G fun ds E1 G1 => ∃ j : Int, ds = [.int j] ∧ -(2 ^ 62) ≤ j ∧ j < 2 ^ 62 ∧ kl (rangeD 0 j.toNat) E1 G1 := rfl
@[simp] theorem dRng2_eq {kl : List D → Env3 → Reg → Prop} : dRng2 tr E G kl = tr E G fun ds E1 G1 => ∃ i j : Int, ds = [.int i, .int j] ∧ (-(2 ^ 62) ≤ i ∧ i < 2 ^ 62 ∧ -(2 ^ 62) ≤ j ∧ j < 2 ^ 62) ∧ kl (rangeD i (j - i).toNat) E1 G1 := rfl
@[simp] theorem gNm_eq {d : D} {kk : Env3 → Reg → Prop} : gNm i d E G kk = (i < E.length ∧ kk (E.set i (Sl3.val d)) G) := rfl
@[simp] theorem gTp_eq {n : Nat} {gs : DGs} {d : D} {kk : Env3 → Reg → Prop} : gTp n gs d E G kk = ∃ ds, d = .tup ds ∧ ds.length = n ∧ gs ds E G kk := rfl
@[simp] theorem gsNil_eq {ds : List D} {kk : Env3 → Reg → Prop} : gsNil ds E G kk = (ds = [] ∧ kk E G) := rfl
@[simp] theorem gsCons_eq {g : DG} {gs : DGs} {ds : List D} {kk : Env3 → Reg → Prop} : gsCons g gs ds E G kk = ∃ d r, ds = d :: r ∧ g d E G fun E1 G1 => gs r E1 G1 kk := rfl
@[simp] theorem dYes_eq : dYes E G kb = kb true E G := rfl
@[simp] theorem dLc_eq {di : DI} {g : DG} {vs : List Nat} : dLc di g t te vs E G k = di E G fun ds E1 G1 => ds.length ≤ sizeLine ∧ dLcL g t te vs ds [] (wipe3 E1 vs) G1 fun acc E2 G2 => k (.fr acc) E2 G2 := rfl
@[simp] theorem dLcL_nil {g : DG} {vs : List Nat} {acc : List D} {kl : List D → Env3 → Reg → Prop} : dLcL g t te vs [] acc E G kl = kl acc E G := rfl
@[simp] theorem wipe3_nil : wipe3 E [] = E := rfl
@[simp] theorem wipe3_cons {v : Nat} {vs : List Nat} : wipe3 E (v :: vs) = (wipe3 E vs).set v Sl3.no := rfl
/-! what is given -/
variable {d e : D} {ds es : List D}
@[simp] theorem get_val : (Res.val d).get E = some d := rfl
@[simp] theorem get_fr : (Res.fr ds).get E = some (.lst ds) := rfl
@[simp] theorem get_sl : (Res.sl i).get E = match E[i]? with
    | some (Sl3.val d) => some d
    | some (Sl3.own ds) => some (.lst ds)
    | some (Sl3.ownD d) => some d
    | _ => none := rfl
@[simp] theorem fz_val : (Res.val d).fz = .val d := rfl
@[simp] theorem fz_fr : (Res.fr ds).fz = .val (.lst ds) := rfl
@[simp] theorem fz_sl : (Res.sl i).fz = .sl i := rfl
@[simp] theorem ice_val : (Res.val d).ice E = some (d, E) := rfl
@[simp] theorem ice_fr : (Res.fr ds).ice E = some (.lst ds, E) := rfl
@[simp] theorem ice_sl : (Res.sl i).ice E = match E[i]? with
    | some (Sl3.val d) => some (d, E)
    | some (Sl3.own ds) => some (.lst ds, E.set i (Sl3.val (.lst ds)))
    | some (Sl3.ownD d) => some (d, E.set i (Sl3.val d))
    | _ => none := rfl
@[simp] theorem out_val : (Res.val d).out E = some (.val d) := rfl
@[simp] theorem out_fr : (Res.fr ds).out E = some (.fr ds) := rfl
@[simp] theorem out_sl : (Res.sl i).out E = match E[i]? with
    | some (Sl3.val d) => some (.val d)
    | some (Sl3.own ds) => some (.fr ds)
    | some (Sl3.ownD d) => some (.frD d)
    | _ => none := rfl
@[simp] theorem put_val : (Res.val d).put i E = some (E.set i (Sl3.val d)) := rfl
@[simp] theorem put_fr : (Res.fr ds).put i E = some (E.set i (Sl3.own ds)) := rfl
@[simp] theorem put_sl : (Res.sl j).put i E = match E[j]? with
    | some (Sl3.val d) => some (E.set i (Sl3.val d))
    | some (Sl3.own ds) => some ((E.set j (Sl3.val (.lst ds))).set i (Sl3.val (.lst ds)))
    | some (Sl3.ownD d) => some ((E.set j (Sl3.val d)).set i (Sl3.val d))
    | _ => none := rfl
@[simp] theorem fin_val : (Res.val d).fin E = some (.val d, E) := rfl
@[simp] theorem fin_fr : (Res.fr ds).fin E = some (.fr ds, E) := rfl
@[simp] theorem fin_sl : (Res.sl i).fin E = match E[i]? with
    | some (Sl3.val d) => some (.val d, E)
    | some (Sl3.own ds) => some (.val (.lst ds), E.set i (Sl3.val (.lst ds)))
    | some (Sl3.ownD d) => some (.val d, E.set i (Sl3.val d))
    | _ => none := rfl
/-! operators -/
variable {kr : Res → Prop} {a b : Int} {x y : Str}
@[simp] theorem oAdd_ii : oAdd G (.int a) (.int b) kr = kr (.val (.int (a + b))) := rfl
@[simp] theorem oAdd_ss : oAdd G (.str x) (.str y) kr = (x.length + y.length ≤ sizeLine ∧ kr (.val (.str (x ++ y)))) := rfl
@[simp] theorem oAdd_tt : oAdd G (.tup ds) (.tup es) kr = (ds.length + es.length ≤ sizeLine ∧ kr (.val (.tup (ds ++ es)))) := rfl
@[simp] theorem oAdd_ll : oAdd G (.lst ds) (.lst es) kr = (ds.length + es.length ≤ sizeLine ∧ kr (.fr (ds ++ es))) := rfl
@[simp] theorem oAddI_ii : oAddI G (.int a) (.int b) kr = kr (.val (.int (a + b))) := rfl
@[simp] theorem oSub_ii : oSub G (.int a) (.int b) kr = kr (.val (.int (a - b))) := rfl
@[simp] theorem oMul_ii : oMul G (.int a) (.int b) kr = (MulOk a b ∧ kr (.val (.int (a * b)))) := rfl
@[simp] theorem oMul_li : oMul G (.lst ds) (.int b) kr = (-(2 ^ 63) ≤ b ∧ b < 2 ^ 63 ∧ ds.length * b.toNat ≤ sizeLine ∧ kr (.fr (List.replicate b.toNat ds).flatten)) := rfl
@[simp] theorem oFdiv_ii : oFdiv G (.int a) (.int b) kr = (CDivW a b ∧ kr (.val (.int (a / b)))) := rfl
@[simp] theorem oMod_ii : oMod G (.int a) (.int b) kr = (0 < b ∧ kr (.val (.int (a % b)))) := rfl
@[simp] theorem oModN_ii : oModN G (.int a) (.int b) kr = (b ≠ 0 ∧ kr (.val (.int (a.fmod b)))) := rfl
@[simp] theorem oPow_ii : oPow G (.int a) (.int b) kr = (CPow a b ∧ kr (.val (.int (a ^ b.toNat)))) := rfl
@[simp] theorem oCmpI_ii {p : Int → Int → Bool} : oCmpI p G (.int a) (.int b) kr = kr (.val (.bl (p a b))) := rfl
@[simp] theorem oEq_eq : oEq G d e kr = (d.sh = true ∧ e.sh = true ∧ kr (.val (.bl (D.eqv d e)))) := rfl
@[simp] theorem oNe_eq : oNe G d e kr = (d.sh = true ∧ e.sh = true ∧ kr (.val (.bl (!D.eqv d e)))) := rfl
@[simp] theorem oIn_l {n : Bool} : oIn n G d (.lst ds) kr = (d.sh = true ∧ (D.lst ds).sh = true ∧ kr (.val (.bl (if n then !d.among ds else d.among ds)))) := rfl
@[simp] theorem oIn_t {n : Bool} : oIn n G d (.tup ds) kr = (d.sh = true ∧ (D.tup ds).sh = true ∧ kr (.val (.bl (if n then !d.among ds else d.among ds)))) := rfl
@[simp] theorem oIs_eq {n : Bool} : oIs n G d e kr = (e.isN = true ∧ kr (.val (.bl (if n then !d.isN else d.isN)))) := rfl
@[simp] theorem isN_non : D.isN .non = true := rfl
@[simp] theorem isN_int : D.isN (.int a) = false := rfl
@[simp] theorem isN_tup : D.isN (.tup ds) = false := rfl
@[simp] theorem isN_lst : D.isN (.lst ds) = false := rfl
@[simp] theorem isN_str : D.isN (.str x) = false := rfl
@[simp] theorem isN_bl {b : Bool} : D.isN (.bl b) = false := rfl
@[simp] theorem uNeg_i : uNeg (.int a) kr = kr (.val (.int (-a))) := rfl
@[simp] theorem oIx_li : oIx G (.lst ds) (.int a) kr = ∃ v, atI ds a = some v ∧ kr (.val v) := rfl
@[simp] theorem oIx_ti : oIx G (.tup ds) (.int a) kr = ∃ v, atI ds a = some v ∧ kr (.val v) := rfl
@[simp] theorem oIx_sc {ns : List Int} : oIx G (.scr ns) (.int a) kr = ∃ v, atI ns a = some v ∧ kr (.val (.int v)) := rfl
@[simp] theorem oIx_ri {p : Addr} : oIx G (.ref p) (.int a) kr = ∃ ds, lookL G p = some ds ∧ ∃ v, atI ds a = some v ∧ kr (.val v) := rfl
@[simp] theorem oSl_l {lo hi : Option Int} : oSl (.lst ds) lo hi kr = kr (.fr (cutD ds lo hi)) := rfl
@[simp] theorem oSl_t {lo hi : Option Int} : oSl (.tup ds) lo hi kr = kr (.val (.tup (cutD ds lo hi))) := rfl
@[simp] theorem bLen_l : bLen G [.lst ds] kr = kr (.val (.int ds.length)) := rfl
@[simp] theorem bLen_t : bLen G [.tup ds] kr = kr (.val (.int ds.length)) := rfl
@[simp] theorem bLen_s : bLen G [.str x] kr = (x.length ≤ sizeLine ∧ kr (.val (.int x.length))) := rfl
@[simp] theorem bLen_c {ns : List Int} : bLen G [.scr ns] kr = kr (.val (.int ns.length)) := rfl
@[simp] theorem bAbs_i : bAbs G [.int a] kr = kr (.val (.int (if a < 0 then -a else a))) := rfl
@[simp] theorem bIntOf_i : bIntOf G [.int a] kr = kr (.val (.int a)) := rfl
@[simp] theorem bIntOf_b {b : Bool} : bIntOf G [.bl b] kr = kr (.val (.int (if b then 1 else 0))) := rfl
@[simp] theorem bMax_i : bMax G [.int a, .int b] kr = kr (.val (.int (if b > a then b else a))) := rfl
@[simp] theorem bMin_i : bMin G [.int a, .int b] kr = kr (.val (.int (if b < a then b else a))) := rfl
@[simp] theorem bList_l : bList G [.lst ds] kr = kr (.fr ds) := rfl
@[simp] theorem bList_t : bList G [.tup ds] kr = kr (.fr ds) := rfl
@[simp] theorem bTuple_l : bTuple G [.lst ds] kr = kr (.val (.tup ds)) := rfl
@[simp] theorem bTuple_t : bTuple G [.tup ds] kr = kr (.val (.tup ds)) := rfl
@[simp] theorem bAll_l : bAll G [.lst ds] kr = ∃ bs, blsOf ds = some bs ∧ kr (.val (.bl (bs.all id))) := rfl
@[simp] theorem bAny_l : bAny G [.lst ds] kr = ∃ bs, blsOf ds = some bs ∧ kr (.val (.bl (bs.any id))) := rfl
@[simp] theorem bSum_l : bSum G [.lst ds] kr = ∃ bs, intsOf ds = some bs ∧ kr (.val (.int bs.sum)) := rfl
@[simp] theorem bIsi_eq {n : String} : bIsi G [d, .ty n] kr = ∃ t, tyN d = some t ∧ n ∈ knownT ∧ kr (.val (.bl (isT t n))) := rfl
@[simp] theorem tyN_non : tyN .non = some "NoneType" := rfl
@[simp] theorem tyN_bl {b : Bool} : tyN (.bl b) = some "bool" := rfl
@[simp] theorem tyN_int : tyN (.int a) = some "int" := rfl
@[simp] theorem tyN_str : tyN (.str x) = some "str" := rfl
@[simp] theorem tyN_tup : tyN (.tup ds) = some "tuple" := rfl
@[simp] theorem tyN_lst : tyN (.lst ds) = some "list" := rfl
@[simp] theorem known1 : "int" ∈ knownT := by decide
@[simp] theorem known2 : "bool" ∈ knownT := by decide
@[simp] theorem known3 : "str" ∈ knownT := by decide
@[simp] theorem known4 : "tuple" ∈ knownT := by decide
@[simp] theorem known5 : "list" ∈ knownT := by decide
@[simp] theorem isT_def {t n : String} : isT t n = (t == n || (t == "bool" && n == "int")) := rfl
@[simp] theorem iterD_l : iterD (.lst ds) = some ds := rfl
@[simp] theorem iterD_t : iterD (.tup ds) = some ds := rfl
@[simp] theorem iterD_s : iterD (.str x) = some (strD x) := rfl
@[simp] theorem blsOf_m (bs : List Bool) : blsOf (bs.map D.bl) = some bs := blsOf_map bs
@[simp] theorem intsOf_m (bs : List Int) : intsOf (bs.map D.int) = some bs := intsOf_map bs
/-! places -/
@[simp] theorem at0 {α : Type} {a : α} {r : List α} : atI (a :: r) (0 : Int) = some a := by
  have : atI (a :: r) ((0 : Nat) : Int) = some a := atI_nat rfl
  simpa using this
@[simp] theorem at1 {α : Type} {a b : α} {r : List α} : atI (a :: b :: r) (1 : Int) = some b := by
  have : atI (a :: b :: r) ((1 : Nat) : Int) = some b := atI_nat rfl
  simpa using this
@[simp] theorem at2 {α : Type} {a b c : α} {r : List α} : atI (a :: b :: c :: r) (2 : Int) = some c := by
  have : atI (a :: b :: c :: r) ((2 : Nat) : Int) = some c := atI_nat rfl
  simpa using this
theorem ix_nat {n j : Nat} (h : j < n) : ixN n (j : Int) = some j := by
  unfold ixN
  rw [if_pos (by omega), if_pos (by omega)]
  simp
@[simp] theorem ix0 {n : Nat} : ixN (n + 1) (0 : Int) = some 0 := by
  have := ix_nat (n := n + 1) (j := 0) (by omega)
  simpa using this
@[simp] theorem ix1 {n : Nat} : ixN (n + 1 + 1) (1 : Int) = some 1 := by
  have := ix_nat (n := n + 1 + 1) (j := 1) (by omega)
  simpa using this
@[simp] theorem ix2 {n : Nat} : ixN (n + 1 + 1 + 1) (2 : Int) = some 2 := by
  have := ix_nat (n := n + 1 + 1 + 1) (j := 2) (by omega)
  simpa using this
@[simp] theorem regSet_head {p : Addr} {R : Reg} : regSet ((p, ds) :: R) p es = (p, es) :: R := by
  unfold regSet; simp
/-! == -/
@[simp] theorem sh_int : D.sh (.int a) = true := rfl
@[simp] theorem sh_bl {b : Bool} : D.sh (.bl b) = true := rfl
@[simp] theorem sh_non : D.sh .non = true := rfl
@[simp] theorem sh_tup : D.sh (.tup ds) = ds.all (shl (shl (shl (shl sh0)))) := rfl
@[simp] theorem sh_lst : D.sh (.lst ds) = ds.all (shl (shl (shl (shl sh0)))) := rfl
@[simp] theorem shl_int {p : D → Bool} : shl p (.int a) = true := rfl
@[simp] theorem shl_bl {p : D → Bool} {b : Bool} : shl p (.bl b) = true := rfl
@[simp] theorem shl_non {p : D → Bool} : shl p .non = true := rfl
@[simp] theorem shl_tup {p : D → Bool} : shl p (.tup ds) = ds.all p := rfl
@[simp] theorem shl_lst {p : D → Bool} : shl p (.lst ds) = ds.all p := rfl
@[simp] theorem sh0_int : sh0 (.int a) = true := rfl
@[simp] theorem all_shl_ints {p : D → Bool} (ns : List Int) : (ns.map D.int).all (shl p) = true := by
  rw [List.all_map, List.all_eq_true]; intro x _; rfl
@[simp] theorem eqv_int : D.eqv (.int a) (.int b) = decide (a = b) := by
  unfold D.eqv D.py PyData.eqv; exact Bool.beq_eq_decide_eq a b
@[simp] theorem eqv_bl {b c : Bool} : D.eqv (.bl b) (.bl c) = (b == c) := rfl
def eqvL : List D → List D → Bool
  | [], [] => true
  | x :: xs, y :: ys => D.eqv x y && eqvL xs ys
  | _, _ => false
theorem eqvL_eq : ∀ (xs ys : List D), PyData.eqvAll (pyL xs) (pyL ys) = eqvL xs ys
  | [], [] => rfl
  | [], _ :: _ => rfl
  | _ :: _, [] => rfl
  | x :: xs, y :: ys => by
    show (PyData.eqv x.py y.py && PyData.eqvAll (pyL xs) (pyL ys)) = _
    rw [eqvL_eq xs ys]; rfl
@[simp] theorem eqv_tup : D.eqv (.tup ds) (.tup es) = eqvL ds es := by
  unfold D.eqv D.py PyData.eqv; exact eqvL_eq ds es
@[simp] theorem eqv_lst : D.eqv (.lst ds) (.lst es) = eqvL ds es := by
  unfold D.eqv D.py PyData.eqv; exact eqvL_eq ds es
@[simp] theorem eqvL_nil : eqvL [] [] = true := rfl
@[simp] theorem eqvL_cons : eqvL (d :: ds) (e :: es) = (D.eqv d e && eqvL ds es) := rfl
@[simp] theorem eqvL_nc : eqvL [] (e :: es) = false := rfl
@[simp] theorem eqvL_cn : eqvL (d :: ds) [] = false := rfl
@[simp] theorem eqvL_ints : ∀ xs ys : List Int, eqvL (xs.map D.int) (ys.map D.int) = decide (xs = ys)
  | [], [] => rfl
  | [], _ :: _ => rfl
  | _ :: _, [] => rfl
  | x :: xs, y :: ys => by
    rw [List.map_cons, List.map_cons, eqvL, eqvL_ints xs ys, eqv_int]
    by_cases h : x = y
    · subst h; simp
    · simp [h]
@[simp] theorem eqvL_ints_nil {xs : List Int} : eqvL (xs.map D.int) [] = decide (xs = []) := eqvL_ints xs []
@[simp] theorem eqvL_nil_ints {xs : List Int} : eqvL [] (xs.map D.int) = decide ([] = xs) := eqvL_ints [] xs
end
theorem mulOk_left {i j : Int} (h1 : -(2 ^ 64) < i) (h2 : i < 2 ^ 64) : MulOk i j := .inl (.inl ⟨h1, h2⟩)
theorem mulOk_right {i j : Int} (h1 : -(2 ^ 64) < j) (h2 : j < 2 ^ 64) : MulOk i j := .inl (.inr ⟨h1, h2⟩)
end L3

set_option Elab.async false
set_option maxRecDepth 100000
set_option maxHeartbeats 4000000
set_option exponentiation.threshold 2000
/-! L3, part l: the end of a walk; loops by invariants; small steps for the plain reading. -/
namespace L3
open PySem PySem.Spec PyProof.Rows L2
/-! ### the end -/
theorem ok_at {P : Program} {w : World} {K : PySem.W.Frag} {mg : Str → Option Value} {base : Heap} {x : Str} {k : Nat} {ps : List Str} {sp : DSp} (c : Cal3 P w K mg base x k ps sp)
    {fa : Addr} {oc : Value} {od : Option Addr} {osl : Array (Option Value)} {fd : FuncData} (hm : mg x = some (.ref fa)) (hl : K.lookup fa = some ⟨oc, od, .func fd, osl⟩) : FnOk P w K mg base (L2.CX P w) k fa fd ps (LSp K sp) := by
  obtain ⟨f, fd2, Fn, hm2, -, -, oc2, od2, osl2, l2⟩ := c.ex
  rw [hm] at hm2
  cases hm2
  rw [hl] at l2
  cases l2
  exact Fn
theorem wld0 {K : PySem.W.Frag} {H : Hp} : Wld K H H [] := ⟨Same.refl H, fun _ _ h => (by cases h), List.nodup_nil⟩
theorem walk3 {l : PySem.W.OpenLaw} {n k : Nat} {q : Program} {loose : List Str} {XP : (Str → Option Value) → Heap → Prop} {YP : World → Heap → Prop} {d : DefRec} {K : Params → PySem.W.Frag} {sp : DSp} {x : Str}
    (hn : l.most = some n) (hn2 : n ≤ sizeLine) (hdf : d.params.defaults = []) (hr : Room k callerA)
    (hY : ∀ (w : World) (h : Heap), YP w h → (K w.params).In h)
    (F : ∀ (w : World) (mg : Str → Option Value) (fa : Addr) (h : Heap), (K w.params).In h → h.Ns mainGlobals mg → mg d.name = some (.ref fa) →
      ∃ fd : FuncData, (∀ (s : Shared) (u : Value), BindsTo s fd ⟨[u], []⟩ [(x, u)]) ∧
        ∀ base : Heap, (K w.params).In base → base.Ns mainGlobals mg → FnOk l.prog w (K w.params) mg base (L2.CX l.prog w) k fa fd [x] (LSp (K w.params) sp))
    (holds : ∀ ns : List Int, ns.length ≤ n → sp [.scr ns] [] (fun r _ => r = .val (.bl true)) fun _ _ => False) :
    PySem.W.WalkO q loose XP YP l.row.toRowW d [] (fun f vs => PySem.call f vs) :=
  L2.walk_of (n := n) (K := K) (k := k) (x := x) (CX := fun w => L2.CX l.prog w) (sp := fun w => LSp (K w.params) sp) hn hn2 hdf hr hY F
    (fun w H a ns hl _ hS => ⟨H, [], [.scr ns], _, _, wld0, .cons (.scr hS) .nil, holds ns hl, fun r G' e v F' H' A rv => by
      subst e
      have rv : Rep (K w.params) F' (.bl true) v := rv
      cases rv
      rfl, fun _ _ z => z.elim⟩)
    fun _ _ _ _ _ ⟨_, _, _, _, _, _, _, _, _, _, _, _, z⟩ => by simp at z
/-! ### loops -/
theorem for_ind {g : DG} {tb : DSt} {Dn : Ends3} (I : List D → Env3 → Reg → Prop) (hend : ∀ E G, I [] E G → Dn.nx E G)
    (step : ∀ d ds E G (nx : Env3 → Reg → Prop), I (d :: ds) E G → (∀ E' G', I ds E' G' → nx E' G') → g d E G fun E1 G1 => tb { Dn with nx := nx, ct := nx, bk := Dn.nx } E1 G1) :
    ∀ ds E G, I ds E G → dForL g tb ds Dn E G
  | [], E, G, h => hend E G h
  | d :: ds, E, G, h => step d ds E G _ h fun E' G' h' => for_ind I hend step ds E' G' h'
theorem wh_ind {c : DT} {tb : DSt} {Dn : Ends3} (I : Nat → Env3 → Reg → Prop)
    (step : ∀ n E G (nx : Env3 → Reg → Prop), I n E G → (∀ E' G' m, n = m + 1 → I m E' G' → nx E' G') → c E G fun b E1 G1 => if b = true then tb { Dn with nx := nx, ct := nx, bk := Dn.nx } E1 G1 else Dn.nx E1 G1) :
    ∀ n E G, I n E G → dWhN c tb (n + 1) Dn E G
  | 0, E, G, h => step 0 E G _ h fun E' G' m e _ => by cases e
  | n + 1, E, G, h => step (n + 1) E G _ h fun E' G' m e h' => by cases e; exact wh_ind I step n E' G' h'
/-- a comprehension whose parts move the registers, every item counted -/
theorem lc_reg {g : DG} {tt : DT} {te : DE} {vs : List Nat} {E : Env3} (P : D → Prop) (I : Reg → Prop) (R : D → Prop)
    (step : ∀ d G (k1 : D → Env3 → Reg → Prop) (k2 : Env3 → Reg → Prop), P d → I G → (∀ x Ew G', R x → I G' → wipe3 Ew vs = E → k1 x Ew G') → (∀ Ew G', I G' → wipe3 Ew vs = E → k2 Ew G') →
      g d E G fun E1 G1 => tt E1 G1 fun b E2 G2 => if b = true then te E2 G2 fun r E3 G3 => ∃ x E4, r.ice E3 = some (x, E4) ∧ k1 x E4 G3 else k2 E2 G2) :
    ∀ (ds acc : List D) (G : Reg) (k : List D → Env3 → Reg → Prop), (∀ d ∈ ds, P d) → I G → (∀ xs G', (∀ x ∈ xs, R x) → xs.length ≤ ds.length → I G' → k (acc ++ xs) E G') → dLcL g tt te vs ds acc E G k
  | [], acc, G, k, _, i, h => by simpa using h [] G (fun _ hm => by cases hm) (Nat.le_refl _) i
  | d :: ds, acc, G, k, hp, i, h => step d G _ _ (hp d List.mem_cons_self) i
      (fun x Ew G' r i' w => by
        rw [w]
        refine lc_reg P I R step ds _ G' k (fun z hz => hp z (List.mem_cons_of_mem _ hz)) i' fun xs G2 hx hl i2 => ?_
        rw [List.append_assoc]
        exact h (x :: xs) G2 (fun y hy => (List.mem_cons.mp hy).elim (fun e => by rw [e]; exact r) (hx y)) (by simp only [List.length_cons]; omega) i2)
      fun Ew G' i' w => by
        rw [w]
        exact lc_reg P I R step ds _ G' k (fun z hz => hp z (List.mem_cons_of_mem _ hz)) i' fun xs G2 hx hl i2 => h xs G2 hx (by simp only [List.length_cons]; omega) i2
/-! ### steps -/
/-- a goal that the step words leave alone -/
inductive Stop (p : Prop) : Prop
  | go (h : p)
  | no (h : False)
theorem Stop.of {p : Prop} : Stop p → p
  | .go h => h
  | .no h => h.elim
theorem lc_stop {g : DG} {tt : DT} {te : DE} {vs : List Nat} {ds acc : List D} {E : Env3} {G : Reg} {k : List D → Env3 → Reg → Prop} (h : Stop (dLcL g tt te vs ds acc E G k)) : dLcL g tt te vs ds acc E G k := h.of
theorem for_stop {g : DG} {tb : DSt} {ds : List D} {Dn : Ends3} {E : Env3} {G : Reg} (h : Stop (dForL g tb ds Dn E G)) : dForL g tb ds Dn E G := h.of
theorem ifD {p : Prop} [Decidable p] {A C : Prop} (h1 : p → A) (h2 : ¬ p → C) : if decide p = true then A else C := by
  by_cases h : p
  · rw [decide_eq_true h, if_pos rfl]; exact h1 h
  · rw [decide_eq_false h, if_neg Bool.false_ne_true]; exact h2 h
theorem ifE {a b : Int} {A C : Prop} (h1 : a = b → A) (h2 : a ≠ b → C) : if D.eqv (.int a) (.int b) = true then A else C := by
  rw [eqv_int]
  exact ifD h1 h2
theorem ifNE {a b : Int} {A C : Prop} (h1 : a ≠ b → A) (h2 : a = b → C) : if (!D.eqv (.int a) (.int b)) = true then A else C := by
  rw [eqv_int]
  by_cases h : a = b
  · rw [decide_eq_true h]; exact h2 h
  · rw [decide_eq_false h]; exact h1 h
theorem ifQ {d e : D} {p : Prop} [Decidable p] {A C : Prop} (hd : D.eqv d e = decide p) (h1 : p → A) (h2 : ¬ p → C) : if D.eqv d e = true then A else C := by
  rw [hd]
  exact ifD h1 h2
theorem ifNQ {d e : D} {p : Prop} [Decidable p] {A C : Prop} (hd : D.eqv d e = decide p) (h1 : ¬ p → A) (h2 : p → C) : if (!D.eqv d e) = true then A else C := by
  rw [hd]
  by_cases h : p
  · rw [decide_eq_true h]; exact h2 h
  · rw [decide_eq_false h]; exact h1 h
theorem ifNBq {a b : Bool} {A C : Prop} (h : a = b) (hc : C) : if (!D.eqv (.bl a) (.bl b)) = true then A else C := by
  rw [eqv_bl, h]
  cases b <;> exact hc
theorem ifT {A C : Prop} (h : A) : if true = true then A else C := h
theorem ifF {A C : Prop} (h : C) : if false = true then A else C := h
theorem look0 {a : Addr} {l : Int} {ds : List D} {R : Reg} : lookL ((a, D.int l :: ds) :: R) a = some (D.int l :: ds) := by simp [lookL, List.lookup, isL]
theorem mulC {i j : Int} (h : -(2 ^ 64) < i ∧ i < 2 ^ 64) : MulOk i j := mulOk_left h.1 h.2
theorem mulC' {i j : Int} (h : -(2 ^ 64) < j ∧ j < 2 ^ 64) : MulOk i j := mulOk_right h.1 h.2
theorem cpow (n : Int) (h : 0 ≤ n) (h2 : n ≤ 1000000) : CPow 10 n := ⟨h, h2, by decide⟩
theorem ltL {a b : Nat} (h : Nat.ble (a + 1) b = true) : a < b := Nat.le_of_ble_eq_true h
theorem regS {p : Addr} {R : Reg} {ds es : List D} : regSet ((p, ds) :: R) p es = (p, es) :: R := regSet_head
theorem atN {α : Type} {ds : List α} {r : Int} (h0 : 0 ≤ r) (h : r < (ds.length : Int)) : ∃ d, atI ds r = some d ∧ d ∈ ds := by
  obtain ⟨j, rfl⟩ := Int.eq_ofNat_of_zero_le h0
  have hj : j < ds.length := by exact_mod_cast h
  refine ⟨ds[j], ?_, List.getElem_mem hj⟩
  unfold atI
  rw [ix_nat hj]
  exact List.getElem?_eq_getElem hj
theorem qT {q : Res → Reg → Prop} {G : Reg} {b : Bool} (hb : b = true) (h : q (.val (.bl true)) G) : q (.val (.bl b)) G := by rw [hb]; exact h
theorem qB {q : Res → Reg → Prop} {G : Reg} {b c : Bool} (h : q (.val (.bl c)) G) (hb : b = c) : q (.val (.bl b)) G := by rw [hb]; exact h
end L3

set_option Elab.async false
set_option maxRecDepth 100000
set_option maxHeartbeats 4000000
/-! L3, part m: slices, plainly. -/
namespace L3
open PySem PySem.Spec PyProof.Rows L2
theorem cut_to {ds : List D} (j : Nat) : cutD ds none (some (j : Int)) = ds.take j := by
  unfold cutD
  rw [HT.sIx_nat, HT.sIx_none, List.drop_zero, Nat.sub_zero]
  by_cases h : j ≤ ds.length
  · rw [Nat.min_eq_left h]
  · rw [Nat.min_eq_right (by omega), List.take_length, List.take_of_length_le (by omega)]
theorem cut_from {ds : List D} (j : Nat) : cutD ds (some (j : Int)) none = ds.drop j := by
  unfold cutD
  rw [HT.sIx_nat, HT.sIx_none]
  by_cases h : j ≤ ds.length
  · rw [Nat.min_eq_left h, List.take_of_length_le (by rw [List.length_drop]; omega)]
  · rw [Nat.min_eq_right (by omega), List.drop_length, List.drop_of_length_le (by omega)]; simp
theorem rangeD_len (lo : Int) (n : Nat) : (rangeD lo n).length = n := by unfold rangeD; rw [List.length_map, List.length_range]
end L3

set_option Elab.async false
set_option maxRecDepth 100000
set_option maxHeartbeats 4000000
/-! L3, part n: instances of classes with slots: read, filled by __init__, made. -/
namespace L3
open PySem PySem.Spec PyProof.Rows L2
/-- the slot f of the class of that name is its i-th -/
structure SlotAt (K : PySem.W.Frag) (nm f : Str) (i : Nat) : Prop where
  ex : ∃ C p, ClsN K nm C ∧ SlX.SCls K C ∧ SlX.Slot1 K C f p i
theorem ClsN.eq {K : PySem.W.Frag} {nm : Str} {C C' : Addr} (h : ClsN K nm C) (h' : ClsN K nm C') : C = C' := by
  unfold ClsN at h h'
  rw [h] at h'
  cases h'
  rfl
section
variable {X : Cx} {B : Base3}
theorem RepH.obj {K : PySem.W.Frag} {F H : Hp} {nm : Str} {fs : List D} {v : V} (r : RepH K F H (.obj nm fs) v) (s : Same F H) : ∃ a C dx xs, v = .ref a ∧ ClsN K nm C ∧ SlX.Slt H a C dx (xs.map some) ∧ RepL K F fs xs := by
  rcases r with r | ⟨_, _, _, _, e⟩
  · cases r with
    | obj h1 h2 h3 h4 => exact ⟨_, _, _, _, rfl, h1, .inr ⟨s _ _ h2, s _ _ h3⟩, h4⟩
  · exact e.elim
/-- e.f, f a slot -/
def dAttr (tbl : List (Str × Nat)) (te : DE) : DE := fun E G k => te E G fun x E1 G1 => ∃ nm fs, x.get E1 = some (.obj nm fs) ∧ ∃ i, tbl.lookup nm = some i ∧ ∃ d, fs[i]? = some d ∧ k (.val d) E1 G1
theorem le_attr {e : Expr} {f : Str} {pos : Pos} {ta : DE} (tbl : List (Str × Nat)) (h : ∀ nm i, tbl.lookup nm = some i → SlotAt X.K nm f i) (he : LE X B e ta) (hb : attributeBase e f X.env (eval e X.env) = eval e X.env := by rfl) :
    LE X B (.Attribute e f pos) (dAttr tbl ta) :=
  ⟨pe_imp (SlX.pe_sl he.pe hb) fun σ H Q ⟨pn, F, E, G, k, S, ht, hk⟩ => ⟨pn, F, E, G, _, S, ht, fun x E1 G1 ⟨nm, fs, hx, i, hl, d, hd, h1⟩ v F1 H1 S1 s1 r1 => by
    obtain ⟨a, C, dx, xs, rfl, hC, hs, hf⟩ := (S1.getH r1 hx).obj S1.w.sub
    obtain ⟨C', p, hC', sc, sl⟩ := (h nm i hl).ex
    cases hC.eq hC'
    obtain ⟨u, hu, ru⟩ := hf.get hd
    exact ⟨a, C, dx, p, _, i, u, rfl, hs, sc, sl, by rw [List.getElem?_map, hu]; rfl, hk _ _ _ h1 u F1 H1 S1 s1 ru⟩⟩⟩
/-! ### self.f = e in __init__ -/
def putO (i : Nat) (d : D) (fs : List (Option D)) : List (Option D) := (fs ++ List.replicate (i + 1 - fs.length) none).set i (some d)
theorem putO_get {i j : Nat} {d e : D} {fs : List (Option D)} (h : (putO i d fs)[j]? = some (some e)) : (i = j ∧ e = d) ∨ (i ≠ j ∧ fs[j]? = some (some e)) := by
  unfold putO at h
  by_cases q : i = j
  · subst q
    rw [List.getElem?_set] at h
    simp only [if_true] at h
    split at h
    · cases h; exact .inl ⟨rfl, rfl⟩
    · cases h
  · rw [List.getElem?_set_ne q] at h
    refine .inr ⟨q, ?_⟩
    by_cases z : j < fs.length
    · rw [List.getElem?_append_left z] at h; exact h
    · rw [List.getElem?_append_right (by omega)] at h
      have := List.mem_of_getElem? h
      have := List.eq_of_mem_replicate this
      cases this
theorem RepO.put {K : PySem.W.Frag} {F : Hp} {fs : List (Option D)} {vs : List (Option V)} (h : RepO K F fs vs) (i : Nat) {d : D} {v : V} (r : Rep K F d v) : RepO K F (putO i d fs) (SlX.putS i v vs) := by
  refine ⟨?_, fun j e he => ?_⟩
  · unfold putO SlX.putS
    simp only [List.length_set, List.length_append, List.length_replicate, h.1]
  · rcases putO_get he with ⟨q, rfl⟩ | ⟨q, z⟩
    · subst q
      exact ⟨v, SlX.putS_get _ _ _, r⟩
    · obtain ⟨u, h1, h2⟩ := h.2 j e z
      exact ⟨u, (SlX.putS_ne (fun w => q w.symm)).mpr h1, h2⟩
/-- the pending entries at a and dx become these -/
def pnSet (a : Addr) (o : HO) (dx : Addr) (o' : HO) (pn : Pend) : Pend := pn.map fun p => if p.1 = a then (a, o) else if p.1 = dx then (dx, o') else p
theorem pnSet_nt {a : Addr} {C dx' : Addr} {vs : List (Option V)} {dx : Addr} {fs : List (Str × V)} {pn : Pend} (h : ∀ p ∈ pn, isTp p.2 = false) : ∀ p ∈ pnSet a (SlX.SlO a C dx' vs) dx (.xd fs) pn, isTp p.2 = false := fun p hp => by
  obtain ⟨q, hq, rfl⟩ := List.mem_map.mp hp
  split
  · rfl
  · split
    · rfl
    · exact h q hq
theorem pnSet_dom (a : Addr) (o : HO) (dx : Addr) (o' : HO) (pn : Pend) : (pnSet a o dx o' pn).map (·.1) = pn.map (·.1) := by
  unfold pnSet
  rw [List.map_map]
  refine List.map_congr_left fun p _ => ?_
  simp only [Function.comp]
  split
  · rename_i e; exact e.symm
  · split
    · rename_i e; exact e.symm
    · rfl
theorem St3.slotWrite {K : PySem.W.Frag} {pn : Pend} {F H : Hp} {σ : L2.St} {E : Env3} {G : Reg} (S : St3 K B pn F H σ E G) {nm : Str} {fs : List (Option D)} (h : E[0]? = some (Sl3.new nm fs)) (i : Nat) {d : D} {y : V} (r : Rep K F d y) :
    ∃ a C dx vs, σ[0]? = some (some (V.ref a)) ∧ ClsN K nm C ∧ SlX.Slt H a C dx vs ∧ ∃ pn', St3 K B pn' F (SlX.slH H a C dx (SlX.putS i y vs)) σ (E.set 0 (Sl3.new nm (putO i d fs))) G := by
  obtain ⟨a, C, dx, vs, ⟨ha, hσ⟩, hne, hC, hR, hP⟩ := S.news nm fs h
  have mA : ∃ o, (a, o) ∈ pn := by
    rcases hP with ⟨_, z, _⟩ | ⟨z, _⟩
    · exact ⟨_, z⟩
    · exact ⟨_, z⟩
  have mD : ∃ o, (dx, o) ∈ pn := by
    rcases hP with ⟨_, _, z⟩ | ⟨_, z⟩
    · exact ⟨_, z⟩
    · exact ⟨_, z⟩
  obtain ⟨oA, mA⟩ := mA
  obtain ⟨oD, mD⟩ := mD
  obtain ⟨a1, a2, a3, a4⟩ := S.pend a oA mA
  obtain ⟨d1, d2, d3, d4⟩ := S.pend dx oD mD
  have slt : SlX.Slt H a C dx vs := by
    rcases hP with ⟨z1, z, _⟩ | ⟨z, z2⟩
    · exact .inl ⟨(S.pend _ _ z).1, z1⟩
    · exact .inr ⟨(S.pend _ _ z).1, (S.pend _ _ z2).1⟩
  have dA : a ∈ pn.map (·.1) := List.mem_map.mpr ⟨_, mA, rfl⟩
  have dD : dx ∈ pn.map (·.1) := List.mem_map.mpr ⟨_, mD, rfl⟩
  have away : ∀ b, b ≠ a → b ≠ dx → SlX.slH H a C dx (SlX.putS i y vs) b = H b := fun b n1 n2 => SlX.slH_ne n1 n2
  have atA : SlX.slH H a C dx (SlX.putS i y vs) a = some (SlX.SlO a C dx (SlX.putS i y vs)) := by unfold SlX.slH; exact upd_same
  have atD : SlX.slH H a C dx (SlX.putS i y vs) dx = some (.xd []) := by unfold SlX.slH; rw [upd_ne hne, upd_same]
  have nofree : ∀ {b : Addr} {ds : D}, FreX K B pn F H G b ds → b ≠ a ∧ b ≠ dx := fun f => ⟨fun z => f.nP (by rw [z]; exact dA), fun z => f.nP (by rw [z]; exact dD)⟩
  refine ⟨a, C, dx, vs, hσ, hC, slt, pnSet a (SlX.SlO a C dx (SlX.putS i y vs)) dx (.xd []) pn, ⟨⟨fun b u hb => ?_, fun b es hb => ?_, S.w.nd⟩, S.keepF, fun b u hb hg => ?_, S.unfr, S.regs, S.regk, by rw [List.length_set]; exact S.len, fun j e hj => ?_, fun j s d hj ho => ?_, fun j k s t d e b h1 h2 o1 o2 => ?_, fun b o hb => ?_, ⟨by rw [pnSet_dom]; exact S.pnd.1, pnSet_nt S.pnd.2⟩, fun nm' fs' hj => ?_⟩⟩
  · rw [away b (ne_of_none hb a2) (ne_of_none hb d2)]; exact S.w.sub b u hb
  · obtain ⟨h1, xs, h2, h3⟩ := S.w.reg b es hb
    have hm : b ∈ G.map (·.1) := List.mem_map.mpr ⟨_, hb, rfl⟩
    exact ⟨h1, xs, by rw [away b (fun z => a4 (by rw [← z]; exact hm)) (fun z => d4 (by rw [← z]; exact hm))]; exact h2, h3⟩
  · rw [away b (ne_of_none hb a3) (ne_of_none hb d3)]; exact S.keepH b u hb hg
  · rcases set_look hj with ⟨_, z⟩ | ⟨_, z⟩
    · cases z
    · exact S.slot j e z
  · rcases set_look hj with ⟨_, z⟩ | ⟨_, z⟩
    · subst z; cases ho
    · obtain ⟨b, e1, f⟩ := S.own j s d z ho
      obtain ⟨xs, e2, r2⟩ := f.ex
      obtain ⟨n1, n2⟩ := nofree f
      exact ⟨b, e1, ⟨f.nF, f.nB, f.nG, by rw [pnSet_dom]; exact f.nP, xs, by rw [away b n1 n2]; exact e2, r2⟩⟩
  · rcases set_look h1 with ⟨_, z⟩ | ⟨_, z⟩
    · subst z; cases o1
    rcases set_look h2 with ⟨_, z'⟩ | ⟨_, z'⟩
    · subst z'; cases o2
    exact S.ownd j k s t d e b z z' o1 o2
  · unfold pnSet at hb
    obtain ⟨p, hp, e⟩ := List.mem_map.mp hb
    by_cases q1 : p.1 = a
    · rw [if_pos q1] at e
      cases e
      exact ⟨atA, a2, a3, a4⟩
    · rw [if_neg q1] at e
      by_cases q2 : p.1 = dx
      · rw [if_pos q2] at e
        cases e
        exact ⟨atD, d2, d3, d4⟩
      · rw [if_neg q2] at e
        obtain ⟨p1, p2⟩ := p
        cases e
        obtain ⟨x1, x2, x3, x4⟩ := S.pend _ _ hp
        exact ⟨by rw [away _ q1 q2]; exact x1, x2, x3, x4⟩
  · rcases set_look hj with ⟨_, z⟩ | ⟨ne, z⟩
    · cases z
      refine ⟨a, C, dx, _, ⟨ha, hσ⟩, hne, hC, hR.put i r, .inr ⟨?_, ?_⟩⟩
      · exact List.mem_map.mpr ⟨_, mA, by simp⟩
      · exact List.mem_map.mpr ⟨_, mD, by simp [hne]⟩
    · exact absurd rfl ne
def dSetA (tbl : List (Str × Nat)) (te : DE) : DSt := fun D E G => te E G fun r E1 G1 => ∃ d E2, r.ice E1 = some (d, E2) ∧ ∃ nm fs, E2[0]? = some (Sl3.new nm fs) ∧ ∃ i, tbl.lookup nm = some i ∧ D.nx (E2.set 0 (Sl3.new nm (putO i d fs))) G1
theorem ls_attr {o value : Expr} {f : Str} {pos pos' : Pos} {tv : DE} (tbl : List (Str × Nat)) (h : ∀ nm i, tbl.lookup nm = some i → SlotAt X.K nm f i) (ho : PE X o (tVar 0)) (hv : LE X B value tv)
    (hs : swapsWith value (some (.Attribute o f pos')) pos.line X.env = pure false := by rfl) : LS X B (.Assign [.Attribute o f pos'] value pos) (dSetA tbl tv) :=
  ⟨ps_imp (SlX.ps_sl ho hv.pe hs) fun D σ H ⟨pn, F, E, G, D3, S, ht, ok⟩ => ⟨pn, F, E, G, _, S, ht, fun r E1 G1 ⟨d, E2, hi, nm, fs, h0, i, hl, h1⟩ y F1 H1 S1 s1 r1 => by
    obtain ⟨F2, S2, s2, ry⟩ := S1.ice r1 hi
    obtain ⟨a, C, dx, vs, hσ, hC, slt, pn', S3⟩ := S2.slotWrite h0 i ry
    obtain ⟨C', p, hC', sc, sl⟩ := (h nm i hl).ex
    cases hC.eq hC'
    exact ⟨_, hσ, a, C, dx, p, vs, i, rfl, slt, sc, sl, ok.nx _ _ h1 σ F2 _ S3 (s1.trans s2)⟩⟩⟩
end
end L3

set_option Elab.async false
set_option maxRecDepth 100000
set_option maxHeartbeats 4000000
/-! L3, part o: an instance is made: the promise of its __init__. -/
namespace L3
open PySem PySem.Spec PyProof.Rows L2
/-- a promise of __init__: of the arguments behind self; the slots, filled -/
abbrev DSpI := List D → Reg → (List D → Reg → Prop) → (Exc3 → Reg → Prop) → Prop
def LSpI (K : PySem.W.Frag) (nm : Str) (sp : DSpI) : Sp := fun vs H Q E => ∃ (H0 F : Hp) (G : Reg) (a C dx : Addr) (rest : List V) (ds : List D) (k : List D → Reg → Prop) (kx : Exc3 → Reg → Prop),
  vs = V.ref a :: rest ∧ (H0 a = none ∧ H0 dx = none ∧ dx ≠ a ∧ H = upd (upd H0 dx (.own a)) a (.ins C dx []) ∧ ClsN K nm C) ∧ Wld K F H0 G ∧ RepL K F ds rest ∧ sp ds G k kx ∧
  (∀ fs G', k fs G' → ∀ (F' H' : Hp) (dx' : Addr) (xs : List V), After K F H0 G F' H' G' → (F' a = none ∧ a ∉ G'.map (·.1) ∧ H' a = some (SlX.SlO a C dx' (xs.map some))) → (H0 dx' = none ∧ F' dx' = none ∧ dx' ∉ G'.map (·.1) ∧ dx' ≠ a ∧ H' dx' = some (.xd [])) → RepL K F' fs xs → Q .non H') ∧
  (∀ x G', kx x G' → ∀ cls dd F' H', After K F H0 G F' H' G' → RepX K F' x cls dd → E cls dd H')
/-- the frame of __init__ as it begins -/
def startI (nm : Str) (N : List Str) (ds : List D) : Env3 := (start3 N (.non :: ds)).set 0 (Sl3.new nm [])
section
variable {P : Program} {w : World} {K : PySem.W.Frag} {mg : Str → Option Value} {base : Heap}
theorem noOwn_at {B : Base3} {pn : Pend} {F H : Hp} {σ : L2.St} {E : Env3} {G : Reg} (S : St3 K B pn F H σ E G) {a : Addr} (h : H a = none) : NoOwn σ E a := fun i s d hi ho e => by
  obtain ⟨b, e1, f⟩ := S.own i s d hi ho
  rw [e] at e1
  cases e1
  obtain ⟨xs, q, _⟩ := f.ex
  rw [h] at q; cases q
theorem notReg_at {F H : Hp} {G : Reg} (w : Wld K F H G) {a : Addr} (h : H a = none) : a ∉ G.map (·.1) := fun hm => by
  obtain ⟨o, q⟩ := w.regH hm
  rw [h] at q; cases q
theorem startI_st {N : List Str} {nm : Str} {F H0 : Hp} {G : Reg} {ds : List D} {rest : List V} {a C dx : Addr} (hN : 0 < N.length) (wl : Wld K F H0 G) (r : RepL K F ds rest) (ha : H0 a = none) (hd : H0 dx = none) (hne : dx ≠ a) (hC : ClsN K nm C) :
    St3 K ⟨F, H0, G.map (·.1), a⟩ [(a, .ins C dx []), (dx, .own a)] F (upd (upd H0 dx (.own a)) a (.ins C dx [])) (L2.start N (V.ref a :: rest)) (startI nm N ds) G := by
  have S0 : St3 K ⟨F, H0, G.map (·.1), a⟩ [] F H0 (L2.start N (V.ref a :: rest)) (start3 N (.ref a :: ds)) G := by
    have := start_st (N := N) wl (RepL.cons (.ref a) r)
    exact ⟨this.w, this.keepF, this.keepH, this.unfr, this.regs, this.regk, this.len, this.slot, fun i s d h ho => by
      obtain ⟨b, e, f⟩ := this.own i s d h ho
      exact ⟨b, e, ⟨f.nF, f.nB, f.nG, f.nP, f.ex⟩⟩, this.ownd, this.pend, this.pnd, fun nm fs h => by
      obtain ⟨b, C, dx, vs, h1, h2, h3, h4, h5⟩ := this.news nm fs h
      rcases h5 with ⟨_, z, _⟩ | ⟨z, _⟩ <;> cases z⟩
  have no : ∀ b, NoOwn (L2.start N (V.ref a :: rest)) (start3 N (.ref a :: ds)) b := fun b i s d h ho => by
    unfold start3 at h
    by_cases q : i < (D.ref a :: ds).length
    · rw [List.getElem?_append_left (by simpa using q), List.getElem?_map, List.getElem?_eq_getElem q] at h
      cases h
      cases ho
    · rw [List.getElem?_append_right (by simpa using Nat.le_of_not_lt q)] at h
      have := List.eq_of_mem_replicate (List.mem_of_getElem? h)
      subst this
      cases ho
  have fA := wl.fNone ha
  have fD := wl.fNone hd
  have gA := notReg_at wl ha
  have gD := notReg_at wl hd
  have S1 := (S0.newU (o := .own a) hd).pendOn fD hd gD (by simp) upd_same (no dx)
  have ha1 : upd H0 dx (.own a) a = none := by rw [upd_ne hne.symm]; exact ha
  have S2 := (S1.newU (o := .ins C dx []) ha1).pendOn fA ha gA (by simp; exact fun z => hne z.symm) upd_same (no a)
  have e0 : (start3 N (.ref a :: ds)).set 0 (Sl3.new nm []) = startI nm N ds := by
    unfold startI start3
    rfl
  rw [← e0]
  have hσ : (L2.start N (V.ref a :: rest))[0]? = some (some (V.ref a)) := by unfold L2.start; rfl
  refine ⟨S2.w, S2.keepF, S2.keepH, S2.unfr, S2.regs, S2.regk, by rw [List.length_set]; exact S2.len, fun j e hj => ?_, fun j s d hj ho => ?_, fun j k s t d e b h1 h2 o1 o2 => ?_, S2.pend, S2.pnd, fun nm' fs' hj => ?_⟩
  · rcases set_look hj with ⟨_, z⟩ | ⟨_, z⟩
    · cases z
    · exact S2.slot j e z
  · rcases set_look hj with ⟨_, z⟩ | ⟨_, z⟩
    · subst z; cases ho
    · exact S2.own j s d z ho
  · rcases set_look h1 with ⟨_, z⟩ | ⟨_, z⟩
    · subst z; cases o1
    rcases set_look h2 with ⟨_, z'⟩ | ⟨_, z'⟩
    · subst z'; cases o2
    exact S2.ownd j k s t d e b z z' o1 o2
  · rcases set_look hj with ⟨_, z⟩ | ⟨ne, z⟩
    · cases z
      exact ⟨a, C, dx, [], ⟨rfl, hσ⟩, hne, hC, ⟨rfl, fun i d h => by simp at h⟩, .inl ⟨rfl, by simp, by simp⟩⟩
    · exact absurd rfl ne
theorem RepO.full {F : Hp} : ∀ {gs : List D} {vs : List (Option V)}, RepO K F (gs.map some) vs → ∃ xs, vs = xs.map some ∧ RepL K F gs xs
  | [], vs, h => by
    have := h.1
    cases vs with
    | nil => exact ⟨[], rfl, .nil⟩
    | cons _ _ => simp at this
  | g :: gs, [], h => by have := h.1; simp at this
  | g :: gs, v :: vs, h => by
    obtain ⟨u, h1, h2⟩ := h.2 0 g rfl
    have h1' : v = some u := by simpa using h1
    obtain ⟨xs, e, r⟩ := RepO.full (gs := gs) (vs := vs) ⟨by have := h.1; simpa using this, fun i d hi => h.2 (i + 1) d (by simpa using hi)⟩
    exact ⟨u :: xs, by rw [h1', e]; rfl, .cons h2 r⟩
/-- THE RULE for an __init__ -/
theorem okI3 {x qual nm : Str} {st : Stmt} {f : Addr} {fd : FuncData} {N ps : List Str} {k : Nat} {sp : DSpI} (F : Fun K x qual st f fd) (S : FnScope N ps (defScope st)) (hN : 0 < N.length) (len : ∀ ds G q e, sp ds G q e → ds.length + 1 = ps.length)
    (body : ∀ (cdv : Value) (A : Around) (outer : List Env) (s : Shared) (H : Hp) (E : XK) (B : Base3) (dw : Exc3 → Reg → Prop), Room k (A.deeper (envOfC qual (defScope st) s.heap.objs.size f cdv)) →
      WOkL (cxOf (L2.CX P w) P w K mg base N qual (defScope st) f cdv A outer s H E) B (fun x _ G => dw x G) →
      ∃ t : DSt, LSs (cxOf (L2.CX P w) P w K mg base N qual (defScope st) f cdv A outer s H E) B (defBody st) t ∧ ∀ ds G q, sp ds G q dw → t { nx := fun E' G' => ∃ gs : List D, E'[0]? = some (Sl3.new nm (gs.map some)) ∧ gs ≠ [] ∧ q gs G', rt := fun _ _ => False } (startI nm N ds) G) :
    FnOk P w K mg base (L2.CX P w) (k + 1) f fd ps (LSpI K nm sp) := by
  refine F.okX S (fun vs H Q E h => ?_) (fun cdv A outer s H vs Q E hr h => ?_)
  · obtain ⟨H0, F, G, a, C, dx, rest, ds, q, e, rfl, _, _, r, h, _⟩ := h
    rw [List.length_cons, ← r.length]
    exact len _ _ _ _ h
  · obtain ⟨H0, F, G, a, C, dx, rest, ds, q, e, rfl, ⟨ha, hd, hne, rfl, hC⟩, wl, r, h, hq, he⟩ := h
    have aft : ∀ {F' H' : Hp} {G' : Reg} {pn : Pend} {σ : L2.St} {E : Env3}, St3 K ⟨F, H0, G.map (·.1), a⟩ pn F' H' σ E G' → After K F H0 G F' H' G' := fun S => ⟨S.w, S.keepF, S.keepH, S.unfr, S.regs, S.regk⟩
    have wk : WOkL (cxOf (L2.CX P w) P w K mg base N qual (defScope st) f cdv A outer s (upd (upd H0 dx (.own a)) a (.ins C dx [])) E) ⟨F, H0, G.map (·.1), a⟩ (fun x _ G => e x G) :=
      ⟨⟨fun cls d H => E cls d H, takes_of rfl rfl rfl rfl, fun pn F' H' σ E' G' x cls dd S' rx hx => he x G' hx cls dd F' H' (aft S') rx⟩, fun d hd o u e => by
        have hd : H0 d = none := hd
        have e : upd (upd H0 dx (.own a)) a (.ins C dx []) d = some (.frz o u) := e
        unfold upd at e
        split at e
        · cases e
        · split at e
          · cases e
          · rw [hd] at e; cases e⟩
    obtain ⟨t, hb, ht⟩ := body cdv A outer s (upd (upd H0 dx (.own a)) a (.ins C dx [])) E ⟨F, H0, G.map (·.1), a⟩ e hr wk
    refine ⟨_, hb.pss, ⟨_, F, startI nm N ds, G, _, startI_st hN wl r ha hd hne hC, ht ds G q h, ⟨fun E' G' h' σ' F' H' S' _ => ?_, fun _ _ z => z.elim, fun _ _ z => z.elim, fun _ _ z => z.elim⟩⟩⟩
    obtain ⟨gs, h0, hg, hk⟩ := h'
    obtain ⟨a', C', dx', vs, ⟨rfl, _⟩, hne', hC', hR, hP⟩ := S'.news nm _ h0
    obtain ⟨xs, rfl, rx⟩ := hR.full
    cases hC.eq hC'
    have fin : H' a' = some (SlX.SlO a' C dx' (xs.map some)) ∧ H' dx' = some (.xd []) ∧ (F' dx' = none ∧ H0 dx' = none ∧ dx' ∉ G'.map (·.1)) ∧ (F' a' = none ∧ a' ∉ G'.map (·.1)) → _ := fun ⟨h1, h2, ⟨h3, h4, h5⟩, h6, h7⟩ => hq gs G' hk F' H' dx' xs (aft S') ⟨h6, h7, h1⟩ ⟨h4, h3, h5, hne', h2⟩ rx
    rcases hP with ⟨z, _, _⟩ | ⟨z1, z2⟩
    · have : xs = [] := by simpa using z
      subst this
      cases rx
      exact absurd rfl hg
    · obtain ⟨b1, b2, b3, b4⟩ := S'.pend _ _ z1
      obtain ⟨c1, c2, c3, c4⟩ := S'.pend _ _ z2
      exact fin ⟨b1, c1, ⟨c2, c3, c4⟩, b2, b4⟩
/-- a class whose instances are made by such an __init__ -/
structure New3 (P : Program) (w : World) (K : PySem.W.Frag) (mg : Str → Option Value) (base : Heap) (nm : Str) (k : Nat) (sp : DSpI) : Prop where
  ex : ∃ (C f : Addr) (fd : FuncData) (ps : List Str), ClsN K nm C ∧ Mk K C f ∧ mg nm = some (.ref C) ∧ Binds K fd ps [] ∧ FnOk P w K mg base (L2.CX P w) k f fd ps (LSpI K nm sp)
end
section
variable {X : Cx} {B : Base3}
def dMake (nm : Str) (sp : DSpI) (ta : DA) : DE := fun E G k => ta E G fun ds E1 G1 => sp ds G1 (fun fs G2 => k (.val (.obj nm fs)) E1 G2) (fun _ _ => False)
theorem passF : Passes (L2.CX X.prog X.w) X (fun _ _ _ => False) := fun _ _ _ _ _ _ _ ⟨_, _, _, _, _, _, _, _, _, _, _, _, z⟩ => z.elim
theorem le_make {nm : Str} {k j : Nat} {sp : DSpI} {ta : DA} {p pos : Pos} {e : Expr} {es : List Expr} (n : New3 X.prog X.w X.K X.mg X.base nm k sp) (hr : Room j X.A) (hk : k + 1 ≤ j) (hg : Gl X nm) (ha : LA X B (e :: es) ta)
    (hdb : (nm == ("__debug__" : Str)) = false := by decide) (he : starEach (e :: es) X.env = (false, eval e X.env) :: starEach es X.env := by rfl) (hpl : (backTo pos (starEach es X.env)).any (·.1) = false := by rfl) :
    LE X B (.Call (.Name nm p) (e :: es) [] pos) (dMake nm sp ta) := by
  obtain ⟨C, f, fd, ps, hC, M, hm, hb, Fn⟩ := n.ex
  refine ⟨pe_imp (pe_make M Fn (hr.mono hk) hg hm hb .nil passF ha.pa hdb he hpl) fun σ H Q ⟨pn, F, E, G, k, S, ht, hk⟩ => ⟨pn, F, E, G, _, S, ht, fun ds E1 G1 h1 vs F1 H1 S1 s1 r1 x dx nx ndx ne => ?_⟩⟩
  refine ⟨H1, F1, G1, x, C, dx, vs, ds, _, _, by rw [List.append_nil], ⟨nx, ndx, ne, rfl, hC⟩, S1.w, r1, h1, fun fs G' h2 F2 H2 dx' xs A ⟨a1, a2, a3⟩ ⟨b0, b1, b2, b3, b4⟩ r2 => ⟨rfl, ?_⟩, fun _ _ z => z.elim⟩
  have S2 := S1.wldAfter A
  have dom : ∀ {b : Addr}, H1 b = none → b ∉ pn.map (·.1) := fun h hm => by
    obtain ⟨q, hq, rfl⟩ := List.mem_map.mp hm
    have := (S1.pend q.1 q.2 hq).1
    rw [h] at this; cases this
  have noo : ∀ {b : Addr}, H1 b = none → NoOwn σ E1 b := fun h => noOwn_at S1 h
  obtain ⟨S3, s3⟩ := S2.freezeAt b1 (S1.baseNone b0) b2 (dom b0) (noo b0) b4
  have a1' : upd F2 dx' (.xd []) x = none := by rw [upd_ne b3.symm]; exact a1
  obtain ⟨S4, s4⟩ := S3.freezeAt a1' (S1.baseNone nx) a2 (dom nx) (noo nx) a3
  refine hk _ _ _ h2 _ _ _ S4 (((s1.trans A.keepF).trans s3).trans s4) ?_
  exact .obj hC upd_same (s4 _ _ upd_same) (RepL.mono (s3.trans s4) _ _ r2)
end
end L3

set_option Elab.async false
set_option maxRecDepth 100000
set_option maxHeartbeats 4000000
/-! L3, part p: properties, methods, isinstance of instances. -/
namespace L3
open PySem PySem.Spec PyProof.Rows L2
section
variable {P : Program} {w : World} {K : PySem.W.Frag} {mg : Str → Option Value} {base : Heap}
/-- a def from which nothing is raised -/
theorem okP3 {x qual : Str} {st : Stmt} {f : Addr} {fd : FuncData} {N ps : List Str} {k : Nat} {sp : DSp} (F : Fun K x qual st f fd) (S : FnScope N ps (defScope st)) (len : ∀ ds G q e, sp ds G q e → ds.length = ps.length)
    (body : ∀ (cdv : Value) (A : Around) (outer : List Env) (s : Shared) (H : Hp) (E : XK) (B : Base3) (dw : Exc3 → Reg → Prop), Room k (A.deeper (envOfC qual (defScope st) s.heap.objs.size f cdv)) →
      ∃ t : DSt, LSs (cxOf CX0 P w K mg base N qual (defScope st) f cdv A outer s H E).nox B (defBody st) t ∧ ∀ ds G q, sp ds G q dw → t { nx := fun _ G' => q (.val .non) G', rt := q } (start3 N ds) G) :
    FnOk P w K mg base CX0 (k + 1) f fd ps (LSp K sp) := by
  refine F.ok S (fun vs H Q E h => ?_) (fun cdv A outer s H vs Q E hr h => ?_)
  · obtain ⟨F, G, ds, q, e, _, r, h, _⟩ := h
    rw [← r.length]
    exact len _ _ _ _ h
  · obtain ⟨F, G, ds, q, e, wl, r, h, hq, he⟩ := h
    obtain ⟨t, hb, ht⟩ := body cdv A outer s H E ⟨F, H, G.map (·.1), 0⟩ e hr
    refine ⟨_, hb.pss, ⟨[], F, start3 N ds, G, _, start_st wl r, ht ds G q h, ⟨fun E' G' h' σ' F' H' S' _ => hq _ _ h' _ F' H' S'.afterB .non, fun r' G' h' v F' H' σ' E' S' _ rr => hq _ _ h' v F' H' S'.afterB ?_, fun _ _ z => z.elim, fun _ _ z => z.elim⟩⟩⟩
    cases r' with
    | val d => exact rr
    | fr es =>
      obtain ⟨a, rfl, f⟩ := rr
      obtain ⟨xs, h1, h2⟩ := f.ex
      exact ⟨a, xs, rfl, f.nF, f.nB, f.nG, h1, h2⟩
    | frD es =>
      obtain ⟨a, rfl, f⟩ := rr
      obtain ⟨xs, h1, h2⟩ := f.ex
      exact ⟨a, xs, rfl, f.nF, f.nB, f.nG, h1, h2⟩
    | sl i => exact rr.elim
/-- the property f of the class of that name -/
structure Prop3 (P : Program) (w : World) (K : PySem.W.Frag) (mg : Str → Option Value) (base : Heap) (nm f : Str) (k : Nat) (sp : DSp) : Prop where
  ex : ∃ (C p g : Addr) (fd : FuncData) (ps : List Str), ClsN K nm C ∧ SlX.SCls K C ∧ PySem.W.findIn K (.ref C) f = some (some (.ref p)) ∧ PySem.W.specialIn K (.ref p) "__get__" = some (some (.builtin "property.__get__")) ∧ PySem.W.takesIn K (.ref p) = some true ∧
    (∃ rest, PySem.W.recIn K p "property" = some (.ref g :: rest)) ∧ FnOk P w K mg base CX0 k g fd ps (LSp K sp) ∧ Binds K fd ps []
/-- a method of the class of that name -/
structure Meth3 (P : Program) (w : World) (K : PySem.W.Frag) (mg : Str → Option Value) (base : Heap) (nm m : Str) (k : Nat) (sp : DSp) : Prop where
  ex : ∃ (C g : Addr) (fd : FuncData) (ps : List Str), ClsN K nm C ∧ SlX.SCls K C ∧ Meth K C m g ∧ FnOk P w K mg base (L2.CX P w) k g fd ps (LSp K sp) ∧ Binds K fd ps []
/-- isinstance of an instance of n1 and the class n2 -/
structure Isi3 (K : PySem.W.Frag) (n1 n2 : Str) (b : Bool) : Prop where
  ex : ∃ C1 C2, ClsN K n1 C1 ∧ ClsN K n2 C2 ∧ SlX.SCls K C1 ∧ SlX.SIsi K C1 ∧ PySem.W.kitOne K (.ref C1) (.ref C2) = some b
end
section
variable {X : Cx} {B : Base3}
def dProp (nm : Str) (sp : DSp) (te : DE) : DE := fun E G k => te E G fun x E1 G1 => ∃ fs, x.get E1 = some (.obj nm fs) ∧ sp [.obj nm fs] G1 (fun r G2 => k r E1 G2) (fun _ _ => False)
theorem RepH.obj' {K : PySem.W.Frag} {F H : Hp} {nm : Str} {fs : List D} {v : V} (r : RepH K F H (.obj nm fs) v) (s : Same F H) : ∃ (a C dx : Addr) (xs : List V), v = .ref a ∧ ClsN K nm C ∧ SlX.Slt H a C dx (xs.map some) ∧ Rep K F (.obj nm fs) (.ref a) := by
  rcases r with r | ⟨_, _, _, _, e⟩
  · cases r with
    | obj h1 h2 h3 h4 => exact ⟨_, _, _, _, rfl, h1, .inr ⟨s _ _ h2, s _ _ h3⟩, .obj h1 h2 h3 h4⟩
  · exact e.elim
theorem le_prop {nm f : Str} {k j : Nat} {sp : DSp} {e : Expr} {te : DE} {pos : Pos} (p : Prop3 X.prog X.w X.K X.mg X.base nm f k sp) (hr : Room j X.A) (hk : k + 1 ≤ j) (he : LE X B e te) (hb : attributeBase e f X.env (eval e X.env) = eval e X.env := by rfl) :
    LE X B (.Attribute e f pos) (dProp nm sp te) := by
  obtain ⟨C, pp, g, fd, ps, hC, sc, at_, get, tk, rc, Fn, hbd⟩ := p.ex
  refine ⟨pe_imp (SlX.pe_propSl (E := fun _ _ _ => False) he.pe sc at_ get tk rc (Fn.raw hbd .nil) (hr.mono hk) (fun _ _ _ _ z => z) hb) fun σ H Q ⟨pn, F, E, G, k, S, ht, hk⟩ => ⟨pn, F, E, G, _, S, ht, fun x E1 G1 ⟨fs, hx, h1⟩ v F1 H1 S1 s1 r1 => ?_⟩⟩
  obtain ⟨a, C', dx, xs, rfl, hC', hs, r⟩ := (S1.getH r1 hx).obj' S1.w.sub
  cases hC.eq hC'
  refine ⟨a, dx, _, rfl, hs, F1, G1, [.obj nm fs], _, _, S1.w, .cons r .nil, h1, fun r' G' h2 v F2 H2 A r2 => ?_, fun _ _ z => z.elim⟩
  exact hk _ _ _ h2 v F2 H2 (S1.wldAfter A) (s1.trans A.keepF) (S1.retR r2)
theorem le_cls {nm : Str} {pos : Pos} (hg : Gl X nm) (hm : ∃ C, ClsN X.K nm C ∧ X.mg nm = some (.ref C)) (hd : (nm == ("__debug__" : Str)) = false := by decide) : LE X B (.Name nm pos) (dC (.cls nm)) := by
  obtain ⟨C, hC, hm⟩ := hm
  exact le_c (v := .ref C) (pe_glob hg hm rfl hd) fun _ => .cls hC
def dMeth (nm : Str) (sp : DSp) (to : DE) (ta : DA) : DE := fun E G k => to E G fun x E1 G1 => ∃ fs, x.get E1 = some (.obj nm fs) ∧ ta E1 G1 fun ds E2 G2 => sp (.obj nm fs :: ds) G2 (fun r G3 => k r E2 G3) (fun _ _ => False)
theorem le_meth {nm m : Str} {k j : Nat} {sp : DSp} {o e : Expr} {es : List Expr} {to : DE} {ta : DA} {pos apos : Pos} {pl : Sem Bool} (p : Meth3 X.prog X.w X.K X.mg X.base nm m k sp) (hr : Room j X.A) (hk : k ≤ j) (ho : LE X B o to) (ha : LA X B (e :: es) ta)
    (hst : starEach (e :: es) X.env = (false, eval e X.env) :: starEach es X.env := by rfl) (hpl : (backTo pos (starEach es X.env)).any (·.1) = false := by rfl)
    (ht : eval (.Call (.Attribute o m apos) (e :: es) [] pos) X.env = (do
      let ov ← eval o X.env
      standAt apos.atName
      let (f, first) ← holding [ov] (getMethod ov m pl)
      callWith pos f first (backTo pos (starEach (e :: es) X.env)) (backToKw pos (keywordEach [] X.env))) := by rfl) :
    LE X B (.Call (.Attribute o m apos) (e :: es) [] pos) (dMeth nm sp to ta) := by
  obtain ⟨C, g, fd, ps, hC, sc, M, Fn, hb⟩ := p.ex
  refine ⟨pe_imp (SlX.pe_methSl (E := fun _ _ _ => False) ho.pe sc M (Fn.raw hb .nil) (hr.mono hk) passF ha.pa hst hpl ht) fun σ H Q ⟨pn, F, E, G, k, S, ht, hk⟩ => ⟨pn, F, E, G, _, S, ht, fun x E1 G1 ⟨fs, hx, h1⟩ v F1 H1 S1 s1 r1 => ?_⟩⟩
  obtain ⟨a, C', dx, xs, rfl, hC', hs, r⟩ := (S1.getH r1 hx).obj' S1.w.sub
  cases hC.eq hC'
  refine ⟨a, dx, _, rfl, hs, pn, F1, E1, G1, _, S1, h1, fun ds E2 G2 h2 vs F2 H2 S2 s2 r2 => ?_⟩
  refine ⟨F2, G2, .obj nm fs :: ds, _, _, S2.w, by rw [List.append_nil]; exact .cons (Rep.mono s2 _ _ r) r2, h2, fun r' G' h3 v F3 H3 A r3 => ?_, fun _ _ z => z.elim⟩
  exact hk _ _ _ h3 v F3 H3 (S2.wldAfter A) ((s1.trans s2).trans A.keepF) (S2.retR r3)
end
end L3

set_option Elab.async false
set_option maxRecDepth 100000
set_option maxHeartbeats 4000000
/-! L3, part q: zip and enumerate. -/
namespace L3
open PySem PySem.Spec PyProof.Rows L2
def pairD (x y : D) : D := .tup [x, y]
def enumFrom (n : Nat) : List D → List D
  | [] => []
  | d :: ds => pairD (.int (n : Nat)) d :: enumFrom (n + 1) ds
theorem enumFrom_get : ∀ (ds : List D) (n i : Nat) (d : D), ds[i]? = some d → (enumFrom n ds)[i]? = some (pairD (.int ((n + i : Nat) : Int)) d)
  | [], _, _, _, h => by simp at h
  | d :: ds, n, 0, e, h => by
    simp at h
    subst h
    rfl
  | d :: ds, n, i + 1, e, h => by
    have := enumFrom_get ds (n + 1) i e (by simpa using h)
    unfold enumFrom
    rw [List.getElem?_cons_succ, this, show n + 1 + i = n + (i + 1) by omega]
theorem enumFrom_len : ∀ (ds : List D) (n : Nat), (enumFrom n ds).length = ds.length
  | [], _ => rfl
  | d :: ds, n => by unfold enumFrom; rw [List.length_cons, enumFrom_len ds, List.length_cons]
section
variable {X : Cx} {B : Base3} {K : PySem.W.Frag}
theorem tup2 {pn : Pend} {F H : Hp} {σ : L2.St} {E : Env3} {G : Reg} (S : St3 K B pn F H σ E G) {T : Addr} {x y : V} {d e : D} (n : H T = none) (rd : Rep K F d x) (re : Rep K F e y) :
    ∃ F', St3 K B pn F' (upd H T (.tup [x, y])) σ E G ∧ Same F F' ∧ Rep K F' (pairD d e) (.ref T) := by
  obtain ⟨S2, s2⟩ := S.newF (o := .tup [x, y]) n
  exact ⟨_, S2, s2, .tup upd_same (.cons (Rep.mono s2 _ _ rd) (.cons (Rep.mono s2 _ _ re) .nil))⟩
theorem wk_enum {F0 : Hp} {a : Addr} {xs : List V} {ds : List D} (ha : SqL K F0 a xs) (ra : RepL K F0 ds xs) : Wk K B (Ite K a) (enumFrom 0 ds) F0 := by
  have l1 := ra.length
  refine ⟨fun pn F H σ E G i S s h => ?_, fun pn F H σ E G i x H' S s h y => ?_, fun pn F H σ E G i S s h => ?_⟩
  · rw [enumFrom_len] at h
    exact ⟨xs, xs[i], S.w.sub.seq (s.seq ha), List.getElem?_eq_getElem _⟩
  · obtain ⟨T, u, rfl, nT, rfl, q1⟩ := y
    obtain ⟨d, h1, r1⟩ := ra.get' (q1 xs (S.w.sub.seq (s.seq ha)))
    obtain ⟨F', S', s', r⟩ := tup2 S nT (.int (i : Nat)) (Rep.mono s _ _ r1)
    have := enumFrom_get ds 0 i d h1
    rw [Nat.zero_add] at this
    exact ⟨F', S', s', _, this, r⟩
  · rw [enumFrom_len] at h
    exact ⟨xs, S.w.sub.seq (s.seq ha), by omega⟩
end
end L3

set_option Elab.async false
set_option maxRecDepth 100000
set_option maxHeartbeats 4000000
/-! L3, part r: starred items, texts of numbers, f-strings, join. -/
namespace L3
open PySem PySem.Spec PyProof.Rows L2
section
variable {X : Cx} {B : Base3}
def seqD : D → Option (List D)
  | .tup ds => some ds
  | .lst ds => some ds
  | _ => none
def dStar (te : DE) (tr : DA) : DA := fun E G k => te E G fun x E1 G1 => ∃ d E2, x.ice E1 = some (d, E2) ∧ ∃ ds, seqD d = some ds ∧ tr E2 G1 fun es E3 G3 => k (ds ++ es) E3 G3
theorem la_star {e : Expr} {p : Pos} {es : List Expr} {ta : DE} {tr : DA} (ha : LE X B e ta) (hr : LA X B es tr) : LA X B (.Starred e p :: es) (dStar ta tr) :=
  ⟨pa_imp (StX.pa_star ha.pe hr.pa) fun σ H Q ⟨pn, F, E, G, k, S, ht, hk⟩ => ⟨pn, F, E, G, _, S, ht, fun x E1 G1 ⟨d, E2, h0, ds, hd, h1⟩ v F1 H1 S1 s1 r1 => by
    obtain ⟨F1', S1', s1', r1'⟩ := S1.ice r1 h0
    unfold seqD at hd
    split at hd
    · cases hd
      cases r1' with
      | tup qs rs => exact ⟨_, _, rfl, .inl (SqT.of (S1'.w.sub _ _ qs)), pn, F1', E2, G1, _, S1', h1, fun es E3 G3 h3 vs F3 H3 S3 s3 r3 => hk _ _ _ h3 _ F3 H3 S3 ((s1.trans s1').trans s3) (RepL.append (RepL.mono s3 _ _ rs) r3)⟩
    · cases hd
      cases r1' with
      | lst qs rs => exact ⟨_, _, rfl, .inr (S1'.w.sub.seq (.inl qs)), pn, F1', E2, G1, _, S1', h1, fun es E3 G3 h3 vs F3 H3 S3 s3 r3 => hk _ _ _ h3 _ F3 H3 S3 ((s1.trans s1').trans s3) (RepL.append (RepL.mono s3 _ _ rs) r3)⟩
    · cases hd⟩⟩
/-! ### str -/
def bStr : Reg → List D → (Res → Prop) → Prop := fun _ ds k => match ds with
  | [.int i] => i.natAbs.log2 < 1920 ∧ k (.val (.str (toString i)))
  | [.str x] => k (.val (.str x))
  | _ => False
theorem le_strOf {e : Expr} {ta : DA} {p pos : Pos} (hg : Gl X "str") (hm : X.mg "str" = none) (ha : LP X B [e] ta) (he : starEach [e] X.env = (false, eval e X.env) :: starEach [] X.env := by rfl) (hpl : (backTo pos (starEach [] X.env)).any (·.1) = false := by rfl) :
    LE X B (.Call (.Name "str" p) [e] [] pos) (dCB bStr ta) :=
  le_callTy (r := fun xs H Q => (∃ i : Int, xs = [.int i] ∧ i.natAbs.log2 < 1920 ∧ Q (.str (toString i)) H) ∨ ∃ a, xs = [.str a] ∧ Q (.str a) H)
    (fun pins s σ H xs us Q I r h => h.elim (fun h => call_str_int pins s σ H xs us Q I r h) fun h => SkE.call_str_str pins s σ H xs us Q I r h) (fun pn F H σ E G vs ds k Q S r h hk => by
  unfold bStr at h
  split at h
  · obtain ⟨v, rfl, rx⟩ := hl1 r
    rw [rx.int]
    exact .inl ⟨_, rfl, h.1, hk _ h.2 _ F H S (Same.refl F) (.str _)⟩
  · obtain ⟨v, rfl, rx⟩ := hl1 r
    have rv := rx.val (fun _ q => nomatch q)
    cases rv
    exact .inr ⟨_, rfl, hk _ h _ F H S (Same.refl F) (.str _)⟩
  · exact h.elim) hg hm (by decide +kernel) ha (by decide) (by decide) he hpl
/-! ### f-strings -/
def uFmt : D → (Res → Prop) → Prop := fun d k => match d with
  | .str y => y.length ≤ sizeLine ∧ k (.val (.str y))
  | .int i => i.natAbs.log2 < 1920 ∧ k (.val (.str (toString i)))
  | _ => False
theorem le_fmt {e : Expr} {te : DE} {pos : Pos} (he : LE X B e te) : LE X B (.FormattedValue e (-1) none pos) (dUn uFmt te) :=
  ⟨pe_imp (pe_fmt he.pe) fun σ H Q ⟨pn, F, E, G, k, S, ht, hk⟩ => ⟨pn, F, E, G, _, S, ht, fun x E1 G1 ⟨d, hd, h1⟩ v F1 H1 S1 s1 r1 => by
    have rx := S1.getH r1 hd
    unfold uFmt at h1
    split at h1
    · have rv := rx.val (fun _ q => nomatch q)
      cases rv
      exact .inl ⟨_, rfl, h1.1, hk _ _ _ h1.2 _ F1 H1 S1 s1 (.str _)⟩
    · rw [rx.int]
      exact .inr ⟨_, rfl, h1.1, hk _ _ _ h1.2 _ F1 H1 S1 s1 (.str _)⟩
    · exact h1.elim⟩⟩
inductive LJ (X : Cx) (B : Base3) : List Expr → List DE → Prop where
  | nil : LJ X B [] []
  | cons {e : Expr} {t : DE} {es : List Expr} {ts : List DE} (h : LE X B e t) (r : LJ X B es ts) : LJ X B (e :: es) (t :: ts)
def dJs : List DE → Str → Env3 → Reg → (Str → Env3 → Reg → Prop) → Prop
  | [], acc, E, G, k => k acc E G
  | t :: ts, acc, E, G, k => t E G fun r E1 G1 => ∃ y : Str, r = .val (.str y) ∧ (acc ++ y).length ≤ sizeLine ∧ dJs ts (acc ++ y) E1 G1 k
def dFstr (ts : List DE) : DE := fun E G k => dJs ts Str.empty E G fun out E1 G1 => k (.val (.str out)) E1 G1
theorem LJ.pj {es : List Expr} {ts : List DE} : LJ X B es ts → PJ X es (ts.map (Lift X.K B))
  | .nil => .nil
  | .cons h r => .cons h.pe r.pj
theorem dJs_lift : ∀ (ts : List DE) (acc : Str) (σ : L2.St) (H : Hp) (Q : Str → Hp → Prop) (pn : Pend) (F : Hp) (E : Env3) (G : Reg) (k : Str → Env3 → Reg → Prop), St3 X.K B pn F H σ E G → dJs ts acc E G k →
    (∀ out E' G', k out E' G' → ∀ F' H', St3 X.K B pn F' H' σ E' G' → Same F F' → Q out H') → tJs (ts.map (Lift X.K B)) acc σ H Q
  | [], acc, σ, H, Q, pn, F, E, G, k, S, h, hk => hk _ _ _ h F H S (Same.refl F)
  | t :: ts, acc, σ, H, Q, pn, F, E, G, k, S, h, hk => ⟨pn, F, E, G, _, S, h, fun r E1 G1 ⟨y, e, hl, h1⟩ v F1 H1 S1 s1 r1 => by
    subst e
    have r1 : Rep X.K F1 (.str y) v := r1
    cases r1
    exact ⟨y, rfl, hl, dJs_lift ts _ σ H1 Q pn F1 E1 G1 k S1 h1 fun out E' G' q F' H' S' s' => hk out E' G' q F' H' S' (s1.trans s')⟩⟩
theorem le_fstr {v1 v2 : Expr} {rest : List Expr} {ts : List DE} {pos : Pos} (h : LJ X B (v1 :: v2 :: rest) ts) : LE X B (.JoinedStr (v1 :: v2 :: rest) pos) (dFstr ts) :=
  ⟨pe_imp (pe_joined h.pj) fun σ H Q ⟨pn, F, E, G, k, S, ht, hk⟩ => dJs_lift ts _ σ H _ pn F E G _ S ht fun out E' G' q F' H' S' s' => hk _ _ _ q _ F' H' S' s' (.str out)⟩
theorem le_fstr1 {e : Expr} {te : DE} {pos : Pos} (he : LE X B e te) : LE X B (.JoinedStr [e] pos) te := ⟨pe_joined1 he.pe⟩
end
end L3

set_option Elab.async false
set_option maxRecDepth 100000
set_option maxHeartbeats 4000000
/-! L3, part s: join and split. -/
namespace L3
open PySem PySem.Spec PyProof.Rows L2
section
variable {X : Cx} {B : Base3}
def strsOf : List D → Option (List Str)
  | [] => some []
  | .str x :: ds => (strsOf ds).map (x :: ·)
  | _ :: _ => none
theorem strsOf_eq : ∀ {ds : List D} {ys : List Str}, strsOf ds = some ys → ds = ys.map D.str
  | [], _, h => by cases h; rfl
  | .str x :: ds, ys, h => by
    unfold strsOf at h
    cases e : strsOf ds with
    | none => rw [e] at h; cases h
    | some zs => rw [e] at h; cases h; rw [strsOf_eq e]; rfl
  | .non :: _, _, h => by cases h
  | .bl _ :: _, _, h => by cases h
  | .int _ :: _, _, h => by cases h
  | .ref _ :: _, _, h => by cases h
  | .ty _ :: _, _, h => by cases h
  | .tup _ :: _, _, h => by cases h
  | .lst _ :: _, _, h => by cases h
  | .scr _ :: _, _, h => by cases h
  | .obj _ _ :: _, _, h => by cases h
  | .cls _ :: _, _, h => by cases h
  | .dcK _ _ :: _, _, h => by cases h
  | .dcT _ _ :: _, _, h => by cases h
theorem repl_strs {K : PySem.W.Frag} {F : Hp} : ∀ {ys : List Str} {vs : List V}, RepL K F (ys.map D.str) vs → vs = ys.map V.str
  | [], _, h => by cases h; rfl
  | y :: ys, _, h => by
    cases h with
    | cons h1 h2 => cases h1; rw [repl_strs h2]; rfl
theorem strs_repl {K : PySem.W.Frag} {F : Hp} : ∀ ys : List Str, RepL K F (ys.map D.str) (ys.map V.str)
  | [] => .nil
  | y :: ys => .cons (.str y) (strs_repl ys)
def textsD : D → Option (List Str)
  | .tup ds => strsOf ds
  | .lst ds => strsOf ds
  | _ => none
def dJoin (to te : DE) : DE := fun E G k => to E G fun x E1 G1 => ∃ a, x = .val (.str a) ∧ te E1 G1 fun y E2 G2 => ∃ d, y.get E2 = some d ∧ ∃ ys, textsD d = some ys ∧ (ys.map (·.length)).sum + ys.length * a.length ≤ 16777216 ∧ k (.val (.str (Txt.join a ys))) E2 G2
theorem le_join {o e : Expr} {to te : DE} {apos pos : Pos} (ho : LE X B o to) (he : LE X B e te) (hs : starEach [e] X.env = [(false, eval e X.env)] := by rfl) (hbase : attributeBase o "join" X.env (eval o X.env) = eval o X.env := by rfl) (hline : (apos.endLine == pos.line) = true := by rfl) :
    LE X B (.Call (.Attribute o "join" apos) [e] [] pos) (dJoin to te) :=
  ⟨pe_imp (pe_join ho.pe he.pe hs hbase hline) fun σ H Q ⟨pn, F, E, G, k, S, ht, hk⟩ => ⟨pn, F, E, G, _, S, ht, fun x E1 G1 ⟨a, ex, h1⟩ v F1 H1 S1 s1 r1 => by
    subst ex
    have r1 : Rep X.K F1 (.str a) v := r1
    cases r1
    refine ⟨⟨a, rfl⟩, pn, F1, E1, G1, _, S1, h1, fun y E2 G2 ⟨d, hd, ys, hy, hz, h2⟩ u F2 H2 S2 s2 r2 => ?_⟩
    have rx := S2.getH r2 hd
    unfold textsD at hy
    split at hy
    · obtain ⟨p, xs, rfl, hs, ra⟩ := rx.tup S2.w.sub
      rw [strsOf_eq hy] at ra
      rw [repl_strs ra] at hs
      exact ⟨a, p, ys, rfl, rfl, .inr hs, hz, hk _ _ _ h2 _ F2 H2 S2 (s1.trans s2) (.str _)⟩
    · obtain ⟨p, xs, rfl, hs, ra⟩ := rx.lst S2.w.sub
      rw [strsOf_eq hy] at ra
      rw [repl_strs ra] at hs
      exact ⟨a, p, ys, rfl, rfl, .inl (.inl hs), hz, hk _ _ _ h2 _ F2 H2 S2 (s1.trans s2) (.str _)⟩
    · cases hy⟩⟩
def dSplit (to te : DE) : DE := fun E G k => to E G fun x E1 G1 => ∃ a, x = .val (.str a) ∧ te E1 G1 fun y E2 G2 => ∃ b, y = .val (.str b) ∧ (b.length == 0) = false ∧ a.length + 2 ≤ sizeLine ∧ k (.fr ((Txt.split a b).map D.str)) E2 G2
theorem le_split {o e : Expr} {to te : DE} {apos pos : Pos} (ho : LE X B o to) (he : LE X B e te) (hs : starEach [e] X.env = [(false, eval e X.env)] := by rfl) (hbase : attributeBase o "split" X.env (eval o X.env) = eval o X.env := by rfl) (hline : (apos.endLine == pos.line) = true := by rfl) :
    LE X B (.Call (.Attribute o "split" apos) [e] [] pos) (dSplit to te) :=
  ⟨pe_imp (pe_split ho.pe he.pe hs hbase hline) fun σ H Q ⟨pn, F, E, G, k, S, ht, hk⟩ => ⟨pn, F, E, G, _, S, ht, fun x E1 G1 ⟨a, ex, h1⟩ v F1 H1 S1 s1 r1 => by
    subst ex
    have r1 : Rep X.K F1 (.str a) v := r1
    cases r1
    refine ⟨⟨a, rfl⟩, pn, F1, E1, G1, _, S1, h1, fun y E2 G2 ⟨b, ey, hb, hz, h2⟩ u F2 H2 S2 s2 r2 => ?_⟩
    subst ey
    have r2 : Rep X.K F2 (.str b) u := r2
    cases r2
    refine ⟨a, b, rfl, rfl, hb, hz, fun p np => ?_⟩
    obtain ⟨f, no⟩ := S2.newFre np (strs_repl (Txt.split a b))
    exact hk _ _ _ h2 _ _ _ (S2.newU np) (s1.trans s2) ⟨p, rfl, f, no⟩⟩⟩
end
end L3

set_option Elab.async false
set_option maxRecDepth 100000
set_option maxHeartbeats 4000000
/-! L3, part t: what the head tells of a class with slots. -/
namespace L3
open PySem PySem.Spec PyProof.Rows L2
/-- a def in the class of that name -/
structure MethAt (K : PySem.W.Frag) (nm m qual : Str) (st : Stmt) : Prop where
  ex : ∃ (C f : Addr) (oc : Value) (od an : Option Addr) (osl : Array (Option Value)) (kV doc pm cdv ct : Value), ClsN K nm C ∧ PySem.W.findIn K (.ref C) m = some (some (.ref f)) ∧ PySem.W.isFn K (.ref f) = true ∧
    K.lookup f = some ⟨oc, od, .func (PySem.W.fnOf m qual (defArgs st) (defBody st) (defScope st) .none kV doc pm an cdv ct), osl⟩ ∧ PySem.W.codeIn K cdv qual = true ∧ PySem.W.keepIn K (.ref f) = true
structure MakeAt (K : PySem.W.Frag) (mg : Str → Option Value) (nm : Str) : Prop where
  ex : ∃ C : Addr, ClsN K nm C ∧ PySem.W.makesIn K C = true ∧ PySem.W.keepIn K (.ref C) = true ∧ mg nm = some (.ref C)
structure PropAt (K : PySem.W.Frag) (nm m qual : Str) (st : Stmt) : Prop where
  ex : ∃ (C p f : Addr) (oc : Value) (od an : Option Addr) (osl : Array (Option Value)) (kV doc pm cdv ct : Value), ClsN K nm C ∧ SlX.SCls K C ∧ PySem.W.findIn K (.ref C) m = some (some (.ref p)) ∧ PySem.W.specialIn K (.ref p) "__get__" = some (some (.builtin "property.__get__")) ∧ PySem.W.takesIn K (.ref p) = some true ∧
    (∃ rest, PySem.W.recIn K p "property" = some (.ref f :: rest)) ∧
    K.lookup f = some ⟨oc, od, .func (PySem.W.fnOf m qual (defArgs st) (defBody st) (defScope st) .none kV doc pm an cdv ct), osl⟩ ∧ PySem.W.codeIn K cdv qual = true ∧ PySem.W.keepIn K (.ref f) = true
structure SClsN (K : PySem.W.Frag) (nm : Str) : Prop where
  ex : ∃ C, ClsN K nm C ∧ SlX.SCls K C
section
variable {P : Program} {w : World} {K : PySem.W.Frag} {mg : Str → Option Value} {base : Heap}
theorem new3 {nm qual : Str} {st : Stmt} {k : Nat} {ps N : List Str} {sp : DSpI} (c : MakeAt K mg nm) (d : MethAt K nm "__init__" qual st)
    (hb : ∀ (kV doc pm : Value) (an : Option Addr) (cdv ct : Value) (us : List Value), us.length = ps.length → bindArgs (PySem.W.fnOf "__init__" qual (defArgs st) (defBody st) (defScope st) .none kV doc pm an cdv ct) ⟨us, []⟩ = pure (ps.zip us))
    (S : FnScope N ps (defScope st)) (hN : 0 < N.length) (len : ∀ ds G q e, sp ds G q e → ds.length + 1 = ps.length)
    (body : ∀ (f : Addr) (cdv : Value) (A : Around) (outer : List Env) (s : Shared) (H : Hp) (E : XK) (B : Base3) (dw : Exc3 → Reg → Prop), Room k (A.deeper (envOfC qual (defScope st) s.heap.objs.size f cdv)) →
      WOkL (cxOf (L2.CX P w) P w K mg base N qual (defScope st) f cdv A outer s H E) B (fun x _ G => dw x G) →
      ∃ t : DSt, LSs (cxOf (L2.CX P w) P w K mg base N qual (defScope st) f cdv A outer s H E) B (defBody st) t ∧ ∀ ds G q, sp ds G q dw → t { nx := fun E' G' => ∃ gs : List D, E'[0]? = some (Sl3.new nm (gs.map some)) ∧ gs ≠ [] ∧ q gs G', rt := fun _ _ => False } (startI nm N ds) G) :
    New3 P w K mg base nm (k + 1) sp := by
  obtain ⟨C, hC, mk, kc, hm⟩ := c.ex
  obtain ⟨C', f, oc, od, an, osl, kV, doc, pm, cdv, ct, hC', fi, fn, l, cd, kp⟩ := d.ex
  cases hC.eq hC'
  have F := fun_mk (st := st) l cd kp
  exact ⟨C, f, _, ps, hC, ⟨mk, fi, fn, kc⟩, hm, F.binds hb, okI3 F S hN len fun cdv A outer s H E B dw hr wk => body f cdv A outer s H E B dw hr wk⟩
theorem meth3 {nm m qual : Str} {st : Stmt} {k : Nat} {ps N : List Str} {sp : DSp} (c : SClsN K nm) (d : MethAt K nm m qual st)
    (hb : ∀ (kV doc pm : Value) (an : Option Addr) (cdv ct : Value) (us : List Value), us.length = ps.length → bindArgs (PySem.W.fnOf m qual (defArgs st) (defBody st) (defScope st) .none kV doc pm an cdv ct) ⟨us, []⟩ = pure (ps.zip us))
    (S : FnScope N ps (defScope st)) (len : ∀ ds G q e, sp ds G q e → ds.length = ps.length)
    (body : ∀ (f : Addr) (cdv : Value) (A : Around) (outer : List Env) (s : Shared) (H : Hp) (E : XK) (B : Base3) (dw : Exc3 → Reg → Prop), Room k (A.deeper (envOfC qual (defScope st) s.heap.objs.size f cdv)) →
      WOkL (cxOf (L2.CX P w) P w K mg base N qual (defScope st) f cdv A outer s H E) B (fun x _ G => dw x G) →
      ∃ t : DSt, LSs (cxOf (L2.CX P w) P w K mg base N qual (defScope st) f cdv A outer s H E) B (defBody st) t ∧ ∀ ds G q, sp ds G q dw → t { nx := fun _ G' => q (.val .non) G', rt := q } (start3 N ds) G) :
    Meth3 P w K mg base nm m (k + 1) sp := by
  obtain ⟨C, hC, sc⟩ := c.ex
  obtain ⟨C', f, oc, od, an, osl, kV, doc, pm, cdv, ct, hC', fi, fn, l, cd, kp⟩ := d.ex
  cases hC.eq hC'
  have F := fun_mk (st := st) l cd kp
  exact ⟨C, f, _, ps, hC, sc, ⟨fi, fn, kp⟩, ok3 F S len (fun cdv A outer s H E B dw hr wk => body f cdv A outer s H E B dw hr wk), F.binds hb⟩
theorem prop3 {nm m qual : Str} {st : Stmt} {k : Nat} {ps N : List Str} {sp : DSp} (d : PropAt K nm m qual st)
    (hb : ∀ (kV doc pm : Value) (an : Option Addr) (cdv ct : Value) (us : List Value), us.length = ps.length → bindArgs (PySem.W.fnOf m qual (defArgs st) (defBody st) (defScope st) .none kV doc pm an cdv ct) ⟨us, []⟩ = pure (ps.zip us))
    (S : FnScope N ps (defScope st)) (len : ∀ ds G q e, sp ds G q e → ds.length = ps.length)
    (body : ∀ (f : Addr) (cdv : Value) (A : Around) (outer : List Env) (s : Shared) (H : Hp) (E : XK) (B : Base3) (dw : Exc3 → Reg → Prop), Room k (A.deeper (envOfC qual (defScope st) s.heap.objs.size f cdv)) →
      ∃ t : DSt, LSs (cxOf CX0 P w K mg base N qual (defScope st) f cdv A outer s H E).nox B (defBody st) t ∧ ∀ ds G q, sp ds G q dw → t { nx := fun _ G' => q (.val .non) G', rt := q } (start3 N ds) G) :
    Prop3 P w K mg base nm m (k + 1) sp := by
  obtain ⟨C, p, f, oc, od, an, osl, kV, doc, pm, cdv, ct, hC, sc, at_, get, tk, rc, l, cd, kp⟩ := d.ex
  have F := fun_mk (st := st) l cd kp
  exact ⟨C, p, f, _, ps, hC, sc, at_, get, tk, rc, okP3 F S len (fun cdv A outer s H E B dw hr => body f cdv A outer s H E B dw hr), F.binds hb⟩
theorem tbl_nil {f : Str} : ∀ (nm : Str) (i : Nat), List.lookup nm ([] : List (Str × Nat)) = some i → SlotAt K nm f i := fun _ _ h => by cases h
theorem tbl_cons {n f : Str} {j : Nat} {r : List (Str × Nat)} (s : SlotAt K n f j) (h : ∀ (nm : Str) (i : Nat), List.lookup nm r = some i → SlotAt K nm f i) : ∀ (nm : Str) (i : Nat), List.lookup nm ((n, j) :: r) = some i → SlotAt K nm f i := fun nm i e => by
  rw [List.lookup_cons] at e
  by_cases q : (nm == n) = true
  · rw [q] at e
    cases e
    rw [LawfulBEq.eq_of_beq q]
    exact s
  · rw [Bool.not_eq_true] at q
    rw [q] at e
    exact h nm i e
theorem isi_nil : ∀ (n1 n2 : Str) (b : Bool), List.lookup (n1, n2) ([] : List ((Str × Str) × Bool)) = some b → Isi3 K n1 n2 b := fun _ _ _ h => by cases h
theorem isi_cons {m1 m2 : Str} {c : Bool} {r : List ((Str × Str) × Bool)} (s : Isi3 K m1 m2 c) (h : ∀ (n1 n2 : Str) (b : Bool), List.lookup (n1, n2) r = some b → Isi3 K n1 n2 b) : ∀ (n1 n2 : Str) (b : Bool), List.lookup (n1, n2) (((m1, m2), c) :: r) = some b → Isi3 K n1 n2 b := fun n1 n2 b e => by
  rw [List.lookup_cons] at e
  by_cases q : ((n1, n2) == (m1, m2)) = true
  · rw [q] at e
    cases e
    have := LawfulBEq.eq_of_beq q
    cases this
    exact s
  · rw [Bool.not_eq_true] at q
    rw [q] at e
    exact h n1 n2 b e
/-! ### from what k_is finds -/
theorem scls_mk {nm : Str} {C : Addr} (a : PySem.W.nsIn K mainGlobals nm = some (some (.ref C))) (pg : PySem.W.plainGet K C Str.empty = true) (ic : PySem.W.isClsIn K C = true) (po : PySem.W.plainOver K C = true)
    (sa : PySem.W.findIn K (.ref C) "__setattr__" = some (some (.builtin "object.__setattr__"))) : SClsN K nm := ⟨C, a, ⟨pg, ic, po, sa⟩⟩
theorem slot_mk {nm f : Str} {C p : Addr} {i : Nat} (c : SClsN K nm) (a : PySem.W.nsIn K mainGlobals nm = some (some (.ref C))) (at_ : PySem.W.findIn K (.ref C) f = some (some (.ref p)))
    (get : PySem.W.specialIn K (.ref p) "__get__" = some (some (.builtin "member_descriptor.__get__"))) (tk : PySem.W.takesIn K (.ref p) = some true) (ty : PySem.W.typeIn K (.ref p) = some (.type "member_descriptor")) (ix : PySem.W.slotIn K p C = some i) (lt : i < 1000) : SlotAt K nm f i := by
  obtain ⟨C', h, sc⟩ := c.ex
  cases ClsN.eq a h
  exact ⟨C, p, a, sc, ⟨at_, get, tk, ty, ix, lt⟩⟩
theorem make_mk {h : Heap} {nm : Str} {C : Addr} (X : K.In h) (G : h.Ns mainGlobals mg) (a : PySem.W.nsIn K mainGlobals nm = some (some (.ref C))) (mk : PySem.W.makesIn K C = true) (kc : PySem.W.keepIn K (.ref C) = true) : MakeAt K mg nm := ⟨C, a, mk, kc, PySem.W.mg_of X G a⟩
theorem cls_mk {h : Heap} {nm : Str} {C : Addr} (X : K.In h) (G : h.Ns mainGlobals mg) (a : PySem.W.nsIn K mainGlobals nm = some (some (.ref C))) : ∃ C, ClsN K nm C ∧ mg nm = some (.ref C) := ⟨C, a, PySem.W.mg_of X G a⟩
theorem isi_mk {n1 n2 : Str} {C1 C2 : Addr} {b : Bool} (c : SClsN K n1) (a1 : PySem.W.nsIn K mainGlobals n1 = some (some (.ref C1))) (a2 : PySem.W.nsIn K mainGlobals n2 = some (some (.ref C2)))
    (ca : PySem.W.findIn K (.ref C1) "__class__" = some (some (.builtin "object.__class__"))) (cn : PySem.W.specialIn K (.builtin "object.__class__") "__get__" = some (some (.builtin "getset_descriptor.__get__"))) (ct : PySem.W.takesIn K (.builtin "object.__class__") = some true) (cm : PySem.W.mroIn K C1 (.type "object") = some true)
    (k : PySem.W.kitOne K (.ref C1) (.ref C2) = some b) : Isi3 K n1 n2 b := by
  obtain ⟨C', h, sc⟩ := c.ex
  cases ClsN.eq a1 h
  exact ⟨C1, C2, a1, a2, sc, ⟨ca, cn, ct, cm⟩, k⟩
theorem methAt_mk {nm m qual : Str} {st : Stmt} {C f : Addr} {oc : Value} {od an : Option Addr} {osl : Array (Option Value)} {kV doc pm cdv ct : Value} (a : PySem.W.nsIn K mainGlobals nm = some (some (.ref C))) (fi : PySem.W.findIn K (.ref C) m = some (some (.ref f))) (fn : PySem.W.isFn K (.ref f) = true)
    (l : K.lookup f = some ⟨oc, od, .func (PySem.W.fnOf m qual (defArgs st) (defBody st) (defScope st) .none kV doc pm an cdv ct), osl⟩) (cd : PySem.W.codeIn K cdv qual = true) (kp : PySem.W.keepIn K (.ref f) = true) : MethAt K nm m qual st :=
  ⟨C, f, oc, od, an, osl, kV, doc, pm, cdv, ct, a, fi, fn, l, cd, kp⟩
theorem propAt_mk {nm m qual : Str} {st : Stmt} {C p f : Addr} {rest : List Value} {oc : Value} {od an : Option Addr} {osl : Array (Option Value)} {kV doc pm cdv ct : Value} (c : SClsN K nm) (a : PySem.W.nsIn K mainGlobals nm = some (some (.ref C))) (at_ : PySem.W.findIn K (.ref C) m = some (some (.ref p)))
    (get : PySem.W.specialIn K (.ref p) "__get__" = some (some (.builtin "property.__get__"))) (tk : PySem.W.takesIn K (.ref p) = some true) (rc : PySem.W.recIn K p "property" = some (.ref f :: rest))
    (l : K.lookup f = some ⟨oc, od, .func (PySem.W.fnOf m qual (defArgs st) (defBody st) (defScope st) .none kV doc pm an cdv ct), osl⟩) (cd : PySem.W.codeIn K cdv qual = true) (kp : PySem.W.keepIn K (.ref f) = true) : PropAt K nm m qual st := by
  obtain ⟨C', h, sc⟩ := c.ex
  cases ClsN.eq a h
  exact ⟨C, p, f, oc, od, an, osl, kV, doc, pm, cdv, ct, a, sc, at_, get, tk, ⟨rest, rc⟩, l, cd, kp⟩
end
end L3

set_option Elab.async false
set_option maxRecDepth 100000
set_option maxHeartbeats 4000000
/-! L3, part u: the least, the greatest of a list of ints; sorted. -/
namespace L3
open PySem PySem.Spec PyProof.Rows L2
section
variable {X : Cx} {B : Base3}
def bMaxL : Reg → List D → (Res → Prop) → Prop := fun _ ds k => match ds with
  | [.lst xs] => ∃ ns, intsOf xs = some ns ∧ 0 < ns.length ∧ ∀ m : Int, m ∈ ns → (∀ y, y ∈ ns → y ≤ m) → k (.val (.int m))
  | _ => False
theorem ints_at {pn : Pend} {F H : Hp} {σ : L2.St} {E : Env3} {G : Reg} (S : St3 X.K B pn F H σ E G) {xs : List D} {v : V} {ns : List Int} (rx : RepH X.K F H (.lst xs) v) (e : intsOf xs = some ns) : ∃ p, v = .ref p ∧ SqL X.K H p (ns.map V.int) := by
  obtain ⟨p, ys, rfl, hs, ra⟩ := rx.lst S.w.sub
  rw [intsOf_eq e] at ra
  rw [ra.ints_of] at hs
  exact ⟨p, rfl, .inl hs⟩
theorem le_maxL {e : Expr} {ta : DA} {p pos : Pos} (hc : X.calm = true) (hg : Gl X "max") (hm : X.mg "max" = none) (ha : LP X B [e] ta) (he : starEach [e] X.env = (false, eval e X.env) :: starEach [] X.env := by rfl) (hpl : (backTo pos (starEach [] X.env)).any (·.1) = false := by rfl) :
    LE X B (.Call (.Name "max" p) [e] [] pos) (dCB bMaxL ta) := le_callB (cr_max hc) (fun pn F H σ E G vs ds k Q S r h hk => by
  unfold bMaxL at h
  split at h
  · obtain ⟨ns, e, hl, h⟩ := h
    obtain ⟨v, rfl, rx⟩ := hl1 r
    obtain ⟨p, rfl, hs⟩ := ints_at S rx e
    exact ⟨p, ns, rfl, hs, hl, fun m h1 h2 => hk _ (h m h1 h2) _ F H S (Same.refl F) (.int _)⟩
  · exact h.elim) hg hm (by decide +kernel) ha (by decide) (by decide) he hpl
end
end L3

set_option Elab.async false
set_option maxRecDepth 100000
set_option maxHeartbeats 4000000
/-! L3, part v: t[::-1] of a tuple. -/
namespace L3
open PySem PySem.Spec PyProof.Rows L2 HT
section
variable {prog : Program} {w : World} {A : Around} {E : Value → Shared → Prop} {s : Shared}
end
section
variable {X : Cx}
end
end L3

set_option Elab.async false
set_option maxRecDepth 100000
set_option maxHeartbeats 4000000
/-! L3, part w: enumerate of a tuple. -/
namespace L3
open PySem PySem.Spec PyProof.Rows L2
theorem meets_en1 {v : Value} {o : Obj} {H : Heap → Prop} (B : Begins v o H) :
    Meets (Builtin.«enumerate.__new__» ⟨[.type "enumerate", v], []⟩) (fun _ R s => H s.heap ∧ R (.ok (.ret (.ref (s.heap.push o).objs.size)))
      { s with heap := (s.heap.push o).push { cls := .type "enumerate", data := .fields #[.none, .bool false, .ref s.heap.objs.size, rawInt 0, .none, .none] } }) :=
  .of_wp fun prog w A R s hh => by
    obtain ⟨hp, gg, dr, tk, os⟩ := s
    obtain ⟨hb, hr⟩ := hh
    have u := sub_enumerate
    have go : ∀ {A2 : Around} {E2 : Value → Shared → Prop} {Q2 : Value → Shared → Prop}, Q2 (.ref hp.objs.size) ⟨hp.push o, gg, dr, tk, os⟩ → wpAny (model prog w) A2 (pyIter v) Q2 E2 ⟨hp, gg, dr, tk, os⟩ :=
      fun x => B.iter prog w _ _ ⟨hp, gg, dr, tk, os⟩ _ hb x
    wp_walk
    refine wpAny_stack_any fun k => wpAny_pure ?_
    split
    · rename_i c _ _ _ _ _
      cases (c == Value.type "enumerate") <;>
        (wp_walk using go
         exact ⟨_, rfl, hr⟩)
    · wp_walk using go
      exact ⟨_, rfl, hr⟩
theorem call_en1 {prog : Program} {w : World} {A : Around} {E : Value → Shared → Prop} {s : Shared} {v : Value} {o : Obj} {H : Heap → Prop} {Q : Value → Shared → Prop} (B : Begins v o H) (hb : H s.heap)
    (k : ∀ g, IsEnum g (s.heap.objs.size + 1) s.heap.objs.size 0 .none → g.get? s.heap.objs.size = some o → (∀ b x, s.heap.get? b = some x → g.get? b = some x) → Q (.ref (s.heap.objs.size + 1)) { s with heap := g }) :
    wpAny (model prog w) A (call (.type "enumerate") [v]) Q E s := by
  refine callType_new F.called_enumerate (by decide) (F.typeCall_enumerate_1 _) (F.newCall_enumerate_1 _) (fun x => F.args_object_init_2 x _) F.entry_enumerate_new (meets_en1 B) ⟨hb, ?_⟩
  have z : (s.heap.push o).objs.size = s.heap.objs.size + 1 := Heap.size_push ..
  have q := Heap.get?_push_size (s.heap.push o) (o := { cls := .type "enumerate", data := .fields #[.none, .bool false, .ref s.heap.objs.size, rawInt 0, .none, .none] }) rfl
  rw [z] at q
  show _ ∧ _
  rw [z]
  exact ⟨⟨_, q, rfl⟩, k _ q (Heap.get?_push_of_some _ (Heap.get?_push_size _ B.free)) fun b x y => Heap.get?_push_of_some _ (Heap.get?_push_of_some _ y)⟩
/-- the tuple at a, each item in a new pair -/
def IteT (K : PySem.W.Frag) (a : Addr) : It where
  go i H := ∃ (xs : List V) (x : V), SqT K H a xs ∧ xs[i]? = some x
  yld i H v H' := ∃ T x, v = .ref T ∧ H T = none ∧ H' = upd H T (.tup [.int (i : Nat), x]) ∧ ∀ xs, SqT K H a xs → xs[i]? = some x
  stop i H := ∃ xs : List V, SqT K H a xs ∧ xs.length ≤ i
theorem turn_enT {P : Program} {w : World} {K : PySem.W.Frag} {elts : List Expr} {kk : Nat} {tpos : Pos} (a e it : Addr) :
    Turn P w K (.Tuple elts kk tpos) (IteT K a) [e, it] e (fun i h => (∃ old, IsEnum h e it ((i : Nat) : Int) old) ∧ h.IsTupleIter it a i ∧ e ≠ it ∧ a ≠ it ∧ e ≠ a) where
  mem := by simp
  obj := fun i h st b hb => by
    obtain ⟨⟨old, he⟩, ⟨o, ho, hc, hd⟩, _⟩ := st
    rcases (by simpa using hb : b = e ∨ b = it) with rfl | rfl
    · exact ⟨_, he, fun v q => nomatch q⟩
    · exact ⟨o, ho, fun v q => by rw [hd] at q; cases q⟩
  keep := fun i h h' st k => let ⟨⟨old, he⟩, hi, r⟩ := st; ⟨⟨old, k e (by simp) _ he⟩, hi.at fun o q => k it (by simp) o q, r⟩
  item := by
    intro X hP hw hK hc i pins s σ H E I hf st hg
    subst hP hw hK
    obtain ⟨⟨old, he⟩, hit, hne, na, nea⟩ := st
    obtain ⟨xs, x, hq, hx⟩ := hg
    obtain ⟨its, rv, p, hz⟩ := I.tuple hq
    obtain ⟨u, hu, ru⟩ := rv.get hx
    have hel : e < s.heap.objs.size := Heap.lt_size he
    have hil : it < s.heap.objs.size := by obtain ⟨_, q, _⟩ := hit; exact Heap.lt_size q
    have hil2 : i < its.toArray.size := by
      have : i < its.length := by
        rcases Nat.lt_or_ge i its.length with h | h
        · exact h
        · rw [List.getElem?_eq_none h] at hu; cases hu
      simpa using this
    refine wpAny_pyNext_enum_itemD (Draws.tuple (A := X.A.in1) (show X.A.in1.handled = none from I.ok.hd hc) it a na its.toArray) he ⟨hit, p⟩ hil2 hne (by simp [hne, nea]) fun y h' tk hP ho hs' hT hsz hk => ?_
    have ey : y = u := by
      have : its[i]? = some y := by simpa using hP
      rw [hu] at this
      cases this
      rfl
    subst ey
    refine ⟨_, rfl, wpAny_letOwnedTupleGo_enum (s := { s with heap := h', toks := tk + 1 }) ho fun h2 he2 sb => ?_⟩
    have hT2 : h2.get? s.heap.objs.size = some { cls := .type "tuple", data := .seq #[.int i tk, y] } := (sb.2 _ (Nat.ne_of_gt hel)).trans hT
    have nw : ObjOk X.prog X.w (upd H s.heap.objs.size (.tup [.int (i : Nat), x])) h2 s.heap.objs.size (.tup [.int (i : Nat), x]) :=
      ⟨by show 2 ≤ sizeLine; decide, [.int i tk, y], .cons ⟨_, rfl⟩ (.cons ru .nil), ⟨_, hT2, rfl, _, rfl⟩⟩
    have I1 : Inv X pins σ (upd H s.heap.objs.size (.tup [.int (i : Nat), x])) { s with heap := h2, toks := tk + 1 } := by
      refine I.turnedNew (ch := [e, it]) (fun b ob hb q => ?_) hf (Nat.le_refl _) nw
      have b1 : b ≠ e := fun z => hb (by simp [z])
      have b2 : b ≠ it := fun z => hb (by simp [z])
      exact (sb.2 b b1).trans (hk b ob b1 b2 q)
    refine ⟨.ref s.heap.objs.size, _, I1, rfl, ⟨_, x, rfl, I.hok.fresh (Nat.le_refl _), rfl, fun ys hy => by rw [I.tuple_inj hy hq]; exact hx⟩, ⟨⟨y, ?_⟩, hs'.1.at fun o q => (sb.2 it (Ne.symm hne)).trans q, hne, na, nea⟩, fun b hb => ?_⟩
    · rw [show ((i + 1 : Nat) : Int) = (i : Int) + 1 by omega]
      exact he2
    · have lt : b < s.heap.objs.size := by
        rcases (by simpa using hb : b = e ∨ b = it) with rfl | rfl <;> assumption
      rw [upd_ne (Nat.ne_of_lt lt)]
      exact (hf b hb).1
  done := by
    intro X hP hw hK hc i pins s σ H E I hf st hg
    subst hP hw hK
    obtain ⟨⟨old, he⟩, hit, hne, na, nea⟩ := st
    obtain ⟨xs, hq, hx⟩ := hg
    obtain ⟨its, rv, p, hz⟩ := I.tuple hq
    have f := hf it (by simp)
    have hl := rv.length
    have hn : its.toArray[i]? = none := Array.getElem?_eq_none (by simp; omega)
    have D : Draws X.prog X.w X.A.in1 it [it, a] i (fun j v => its.toArray[j]? = some v) (fun j h => j = i ∧ h.IsTupleIter it a i ∧ h.IsTuple a its.toArray) :=
      ⟨fun _ _ st => let ⟨o, ho, _⟩ := st.2.1; ⟨o, ho⟩, fun _ _ _ st k => ⟨st.1, st.2.1.at fun o z => k it (by simp) o z, st.2.2.at fun o z => k a (by simp) o z⟩, fun j s Q E hlt st _ => absurd st.1 (by omega),
        fun s Q E st z => wpAny_nextOf_tuple_end (I.ok.hd hc) st.2.1 st.2.2 hn z⟩
    exact wpAny_pyNext_enum_endD D he ⟨rfl, hit, p⟩ fun h' eb => ⟨rfl, I.turned (t' := s.toks) (fun b o hb q => eb b o hb q) f.1 f.2.1 f.2.2.2.1 f.2.2.2.2.1 f.2.2.2.2.2⟩
  self := fun A i s Q E st h => let ⟨⟨_, he⟩, _⟩ := st; wpAny_pyIter_enum he h
/-- enumerate of a list or of a tuple -/
def iEnumA (K : PySem.W.Frag) (ta : TA) : TI := fun σ H R => ta σ H fun vs H1 => ∃ a xs, vs = [.ref a] ∧ ((SqL K H1 a xs ∧ R (Ite K a) H1) ∨ (SqT K H1 a xs ∧ R (IteT K a) H1))
theorem pi_enumA {X : Cx} {e : Expr} {ta : TA} {p pos tpos : Pos} {elts : List Expr} {kk : Nat} (hg : Gl X "enumerate") (hm : X.mg "enumerate" = none) (ha : PA X [e] ta) (hs : starEach [e] X.env = [(false, eval e X.env)] := by rfl) :
    PI X (.Tuple elts kk tpos) (.Call (.Name "enumerate" p) [e] [] pos) (iEnumA X.K ta) := by
  refine ⟨fun pins s σ H R I h => Call_ (ld_blt I hg hm boot_enumerate (PyProof.Rows.callWith_type1 (thn (ha.run pos pins s σ H _ I h) fun us s1 ⟨vs, H1, I1, r1, q1⟩ => ?_) hs rfl))⟩
  obtain ⟨a, xs, rfl, q1⟩ := q1
  cases r1 with
  | cons r rr =>
    cases rr
    cases r
    have fr : ∀ b ∈ [s1.heap.objs.size + 1, s1.heap.objs.size], FpOk X pins H1 b := fun b hb => by
      have le : s1.heap.objs.size ≤ b := by
        rcases (by simpa using hb : b = s1.heap.objs.size + 1 ∨ b = s1.heap.objs.size) with z | z <;> omega
      exact I1.fpOk le (I1.hok.fresh le)
    rcases q1 with ⟨hq, q⟩ | ⟨hq, q⟩
    · obtain ⟨its, rv, pl, hz⟩ := I1.list hq
      refine call_en1 (begins_list a its.toArray) pl.isList fun g he hi hk => wpAny_pyIter_enum he ?_
      exact ⟨s1.heap.objs.size + 1, _, _, _, H1, rfl, I1.kept (t' := s1.toks) hk, turn_enum a (s1.heap.objs.size + 1) s1.heap.objs.size, ⟨⟨.none, he⟩, ⟨_, hi, rfl, rfl⟩, Nat.succ_ne_self _⟩, fr, q⟩
    · obtain ⟨its, rv, pl, hz⟩ := I1.tuple hq
      obtain ⟨o, ho, _⟩ := id pl
      have lt := Heap.lt_size ho
      refine call_en1 (begins_tuple a its.toArray) pl fun g he hi hk => wpAny_pyIter_enum he ?_
      exact ⟨s1.heap.objs.size + 1, _, _, _, H1, rfl, I1.kept (t' := s1.toks) hk, turn_enT a (s1.heap.objs.size + 1) s1.heap.objs.size, ⟨⟨.none, he⟩, ⟨_, hi, rfl, rfl⟩, Nat.succ_ne_self _, Nat.ne_of_lt lt, Nat.ne_of_gt (Nat.lt_succ_of_lt lt)⟩, fr, q⟩
def enumAD : List D → Option (List D)
  | [.lst xs] => some (enumFrom 0 xs)
  | [.tup xs] => some (enumFrom 0 xs)
  | _ => none
section
variable {X : Cx} {B : Base3} {K : PySem.W.Frag}
theorem wk_enT {F0 : Hp} {a : Addr} {xs : List V} {ds : List D} (ha : SqT K F0 a xs) (ra : RepL K F0 ds xs) : Wk K B (IteT K a) (enumFrom 0 ds) F0 := by
  have l1 := ra.length
  refine ⟨fun pn F H σ E G i S s h => ?_, fun pn F H σ E G i x H' S s h y => ?_, fun pn F H σ E G i S s h => ?_⟩
  · rw [enumFrom_len] at h
    exact ⟨xs, xs[i], sameT S.w.sub (sameT s ha), List.getElem?_eq_getElem _⟩
  · obtain ⟨T, u, rfl, nT, rfl, q1⟩ := y
    obtain ⟨d, h1, r1⟩ := ra.get' (q1 xs (sameT S.w.sub (sameT s ha)))
    obtain ⟨F', S', s', r⟩ := tup2 S nT (.int (i : Nat)) (Rep.mono s _ _ r1)
    have := enumFrom_get ds 0 i d h1
    rw [Nat.zero_add] at this
    exact ⟨F', S', s', _, this, r⟩
  · rw [enumFrom_len] at h
    exact ⟨xs, sameT S.w.sub (sameT s ha), by omega⟩
def dEnumA (ta : DA) : DI := fun E G k => ta E G fun ds E1 G1 => ∃ l, enumAD ds = some l ∧ k l E1 G1
theorem li_enumA {elts : List Expr} {kk : Nat} {tpos p pos : Pos} {e : Expr} {ta : DA} (hg : Gl X "enumerate") (hm : X.mg "enumerate" = none) (ha : LA X B [e] ta) (hs : starEach [e] X.env = [(false, eval e X.env)] := by rfl) :
    LI X B (.Tuple elts kk tpos) (.Call (.Name "enumerate" p) [e] [] pos) (dEnumA ta) :=
  ⟨pi_imp (pi_enumA hg hm ha.pa hs) fun σ H R ⟨pn, F, E, G, k, S, h, hk⟩ => ⟨pn, F, E, G, _, S, h, fun ds E1 G1 ⟨l, e, h1⟩ vs F1 H1 S1 s1 r1 => by
    unfold enumAD at e
    split at e
    · cases e
      cases r1 with
      | cons ra r2 =>
        cases r2
        cases ra with
        | lst qa ra => exact ⟨_, _, rfl, .inl ⟨S1.w.sub.seq (.inl qa), hk _ _ _ h1 _ F1 H1 S1 s1 (wk_enum (.inl qa) ra)⟩⟩
    · cases e
      cases r1 with
      | cons ra r2 =>
        cases r2
        cases ra with
        | tup qa ra => exact ⟨_, _, rfl, .inr ⟨SqT.of (S1.w.sub _ _ qa), hk _ _ _ h1 _ F1 H1 S1 s1 (wk_enT (SqT.of qa) ra)⟩⟩
    · cases e⟩⟩
end
end L3

set_option Elab.async false
set_option maxRecDepth 100000
set_option maxHeartbeats 4000000
/-! L3, part x: list(range(..)), tuple(range(..)); another name of a def. -/
namespace L3
open PySem PySem.Spec PyProof.Rows L2
section
variable {X : Cx} {B : Base3}
end
end L3

set_option Elab.async false
set_option maxRecDepth 100000
set_option maxHeartbeats 4000000
/-! L3, part y: zip of any number of lists and tuples: walked, as a value under a name; repr of plain things. -/
namespace L3
open PySem PySem.Spec PyProof.Rows L2
section
variable {K : PySem.W.Frag} {F : Hp}
theorem RepLs.length : ∀ {dss : List (List D)} {css : List ZN.CS}, RepLs K F dss css → dss.length = css.length
  | _, _, .nil => rfl
  | _, _, .cons _ _ t => congrArg (· + 1) (RepLs.length t)
theorem RepLs.sq : ∀ {dss : List (List D)} {css : List ZN.CS}, RepLs K F dss css → ∀ c ∈ css, ZN.SqK K c.k F c.a c.xs
  | _, _, .nil => fun c h => (nomatch h)
  | _, _, .cons h1 _ t => fun c h => by
    rcases List.mem_cons.mp h with e | h
    · rw [e]; exact h1
    · exact RepLs.sq t c h
end
section
variable {X : Cx} {B : Base3} {K : PySem.W.Frag}
end
end L3

set_option Elab.async false
set_option maxRecDepth 100000
set_option maxHeartbeats 4000000
/-! XS: an own exception over a built-in one whose __init__ says super().__init__(text) and then self.f = v: made, and raised. -/
namespace XS
open PySem PySem.W PySem.Calls PyProof.Rows PySem.HandSPX Builtin Builtin.ObjectAttr
/-- what is known of the built-in class B, whose __new__ is L's -/
structure EBX (B L newId initId : String) (bm : List Value) : Prop where
  ends : newId.endsWith ".__new__" = true
  owner : newId.dropRight 8 = L
  entry : entryFor table newId = some Builtin.«BaseException.__new__»
  canon : Manifest.canonical newId = Manifest.canonical "BaseException.__new__"
  quiet : newId.startsWith "lifetime." = false
  newSplit : splitId newId = some (L, "__new__")
  newKind : builtinKind newId = some .builtinFn
  newRow : Manifest.signature? newId = some ⟨.any, L, L, .cls, [⟨"args", .varPos, false⟩, ⟨"kwargs", .varKw, false⟩]⟩
  starL : (L != "*") = true
  hasL : bm.contains (.type L) = true
  noAttr : bm.contains (.type "AttributeError") = false
  noName : bm.contains (.type "NameError") = false
  init : Slot B "__init__" initId
  initEntry : entryFor table initId = some Builtin.«BaseException.__init__»
  initKind : builtinKind initId = some .slot
  initRow : Manifest.signature? initId = some ⟨.positional, "*", B, .self, [⟨"args", .varPos, false⟩]⟩
  noStar : (B != "*") = true
structure EBE (B newId initId : String) (bm : List Value) : Prop where
  ex : ∃ L, EBX B L newId initId bm
theorem EBE.of {B newId initId : String} {bm : List Value} (F : ExcBaseFacts B newId initId bm) : EBE B newId initId bm :=
  ⟨B, F.ends, F.owner, F.entry, F.canon, F.quiet, F.newSplit, F.newKind, F.newRow, F.noStar, F.hasB, F.noAttr, F.noName, F.init, F.initEntry, F.initKind, F.initRow, F.noStar⟩
/-! ### such a class is called: the __new__ that stands with L, then the own __init__ -/
section
variable {M : Model} {prog : Program} {w : World} {A : Around} {E : Value → Shared → Prop} {R : Result → Shared → Prop} {hp : Heap} {gs : Array GenState} {dr : Drawn} {tk : Nat} {os : OsState}
variable {nm q : Str} {C N : Addr} {bs bm bmB : List Value} {hdct : Bool} {sn : List Str} {sub : List Value} {ab : Bool} {col : Option Bool} {dd : Option Addr} {k0 k1 k2 k3 k5 : Option Value} {B L newId i : String}
abbrev Alt (bm bmB : List Value) : Prop := ∀ X : String, bm.contains (.type X) = bmB.contains (.type X)
theorem Alt.has {bm bmB : List Value} (z : Alt bm bmB) {x : Value} {X : String} {b : Bool} (e : bmB.contains (.type X) = b) (n : (Value.type X == x) = false) : (x :: bm).contains (.type X) = b := by
  rw [List.contains_cons, n, z, e, Bool.false_or]
end
section
variable {prog : Program} {w : World} {A : Around} {E : Value → Shared → Prop} {R : Result → Shared → Prop} {K : Frag} {C fI : Addr} {B i newId : String} {bmB : List Value} {f : Str}
variable {h : Heap} {g : Array GenState} {d : Drawn} {t : Nat} {os : OsState}
end
section
variable {prog : Program} {w : World} {A : Around} {E : Value → Shared → Prop} {R : Result → Shared → Prop} {s : Shared} {K : Frag} {C fI : Addr} {B i newId : String} {bmB : List Value} {f : Str} {mg mb : Str → Option Value}
end
end XS
namespace XS
open PySem PySem.Spec PyProof.Rows L2
section
variable {X : Cx} {C fI : Addr} {B i newId : String} {bmB : List Value} {f : Str}
end
end XS

set_option Elab.async false
set_option maxRecDepth 100000
set_option maxHeartbeats 4000000
/-! XT: try with several except clauses, each with or without a name. -/
namespace XT
open PySem PySem.Spec PyProof.Rows L2
/-- a clause: the class, the slot of its name, what its suite makes -/
abbrev Cl := Value × Option Nat × (Addr → Value → Option Addr → TS)
section
variable {X : Cx} {body : List Stmt} {h₀ : ExceptHandler} {hds : List ExceptHandler} {l : List Cl} {pos : Pos} {tb : WX → TS} {Wout : WX}
end
end XT

set_option Elab.async false
set_option maxRecDepth 100000
set_option maxHeartbeats 4000000
/-! L3, part z: exceptions: raise, try, methods and new instances that may raise. -/
namespace L3
open PySem PySem.Spec PyProof.Rows L2
/-! ### a wider base -/
section
variable {K : PySem.W.Frag} {B : Base3} {pn pn0 : Pend} {F F0 H H0 : Hp} {σ σ0 : L2.St} {E E0 : Env3} {G G0 : Reg}
end
section
variable {X : Cx} {B : Base3}
end
end L3

set_option Elab.async false
set_option maxRecDepth 100000
set_option maxHeartbeats 4000000
/-! L3, part z2: try with except clauses; the field of a caught exception. -/
namespace L3
open PySem PySem.Spec PyProof.Rows L2
section
variable {X : Cx} {B : Base3}
end
end L3

set_option Elab.async false
set_option maxRecDepth 100000
set_option maxHeartbeats 4000000
/-! XL: a lambda handed to a def, its table told outright: the heap behind the making is the one ahead of it, or that with one more code object. -/
namespace XL
open PySem PySem.Spec PyProof.Rows L2 LamX
/-- the heap behind the making; c': the lambda's code object -/
inductive Grown (H : Hp) (P : Addr) (q : Str) (ps : Array Value) (c' : Addr) : Hp → Prop
  | same : H c' = some (CodeO c' q) → Grown H P q ps c' H
  | more {ms : Array Value} : H c' = none → TriplesOk (ps ++ ms).toList → (∀ (pos : Pos) (cv : Value), codeAmong pos (ps ++ ms).toList = some cv → codeAmong pos ps.toList = some cv ∨ cv = .ref c') → Grown H P q ps c' (upd (upd H P (.tbl (ps ++ ms))) c' (CodeO c' q))
theorem Grown.code {H H1 : Hp} {P c' : Addr} {q : Str} {ps : Array Value} (g : Grown H P q ps c' H1) : H1 c' = some (CodeO c' q) := by
  cases g with
  | same h => exact h
  | more _ _ _ => exact upd_same
section
variable {X : Cx} {pins : List (Addr × Obj)} {σ : L2.St} {H : Hp} {s : Shared}
end
section
variable {X : Cx}
end
end XL

set_option Elab.async false
set_option maxRecDepth 100000
set_option maxHeartbeats 4000000
/-! XG: promises of defs that are called where no repr is under way (A.guards = []); the end of a law's row over such a promise, with tables of code objects. -/
namespace XG
open PySem PySem.Spec PyProof.Rows L2 LamX
/-- FnOk, where no repr is under way -/
structure FnG (P : Program) (w : World) (K : PySem.W.Frag) (mg : Str → Option Value) (base : Heap) (CX : CXT) (k : Nat) (f : Addr) (fd : FuncData) (ps : List Str) (sp : Sp) : Prop where
  len : ∀ vs H Q E, sp vs H Q E → vs.length = ps.length
  run : ∀ (A : Around) (outer : List Env) (s : Shared) (H : Hp) (args : Args) (us : List Value) (vs : List V) (Q : VK) (E : XK), A.guards = some [] → Room k A → Env0 P w K mg base A outer s H → BindsTo s fd args (ps.zip us) → Vals vs us → sp vs H Q E →
    codeAny (model P w) A (.call (.ref f) args) (CR CX outer P w H s Q E) s
theorem FnG.of {P : Program} {w : World} {K : PySem.W.Frag} {mg : Str → Option Value} {base : Heap} {CX : CXT} {k : Nat} {f : Addr} {fd : FuncData} {ps : List Str} {sp : Sp} (F : FnOk P w K mg base CX k f fd ps sp) : FnG P w K mg base CX k f fd ps sp :=
  ⟨F.len, fun A outer s H args us vs Q E _ hr e0 hb r h => F.run A outer s H args us vs Q E hr e0 hb r h⟩
section
variable {X : Cx} {CX : CXT} {k : Nat} {f : Addr} {fd : FuncData} {ps : List Str} {sp : Sp} {E : L2.St → XK} {x : Str} {p pos : Pos} {e : Expr} {es : List Expr} {t : TA}
end
/-! ### the end -/
/-- what the law's call begins with: its script, the tables of code objects -/
def H₀ (K : PySem.W.Frag) (a : Addr) (vs : List Value) (ns : List Int) (ts : List Addr) : Hp := fun b =>
  if b ∈ ts then some (.tbl #[]) else if b = a ∧ K.lookup a = none then some (.frz { cls := .type "list", data := .seq vs.toArray } (.lst (ns.map V.int))) else none
section
variable {P : Program} {w : World} {K : PySem.W.Frag} {mg mb : Str → Option Value} {CX : CXT} {k : Nat} {fa a : Addr} {cs : List (Addr × Addr)} {fd : FuncData} {x : Str} {sp : Sp} {s₁ : Shared} {vs : List Value} {ns : List Int}
theorem law_end (KX : K.In s₁.heap) (hns : s₁.heap.Ns mainGlobals mg) (hb : s₁.heap.Ns builtinsNs mb) (hbb : ∀ x : Str, x ≠ "__name__" → mb x = bootBuiltins x) (hlim : s₁.heap.NoLimit) (hg : s₁.gens = #[])
    (hT : ∀ p ∈ cs, s₁.heap.get? p.2 = some { cls := .none, data := .fields #[] }) (nT : ∀ p ∈ cs, K.lookup p.2 = none) (C : ∀ p ∈ cs, PySem.W.CodeHd s₁.heap p.1 p.2)
    (hbm : ∃ (bm : Addr) (ob : Obj), mg "__builtins__" = some (.ref bm) ∧ bm ≠ builtinsNs ∧ s₁.heap.get? bm = some ob ∧ ob.cls = .type "module" ∧ ob.dict = some builtinsNs ∧ ob.data = .plain)
    (ha : s₁.heap.get? a = some { cls := .type "list", data := .seq vs.toArray }) (hi : IntsAre vs ns) (hl : ns.length ≤ sizeLine) (hr : Room k callerA)
    (F : ∀ base : Heap, K.In base → base.Ns mainGlobals mg → (∀ p ∈ cs, TabB base mg p.1 p.2) → FnG P w K mg base CX k fa fd [x] sp) (hbind : ∀ (s : Shared) (u : Value), BindsTo s fd ⟨[u], []⟩ [(x, u)])
    (hsp : ∀ H : Hp, (∀ p ∈ cs, H p.2 = some (.tbl #[])) → SqL K H a (ns.map V.int) → sp [.ref a] H (fun v _ => v = .bl true) fun _ _ _ => False)
    (hCX : ∀ H e s', CX [] H s₁ (fun _ _ _ => False) e s' → False) :
    codeAny (model P w) callerA (.call (.ref fa) ⟨[.ref a], []⟩) (fun r s' => r = .ok (.ret (.bool true)) ∧ OldK s₁.heap s'.heap ∧ s'.os = s₁.os ∧ AllBare s'.gens) s₁ := by
  have mem : ∀ {p}, p ∈ cs → p.2 ∈ cs.map (·.2) := fun hp => List.mem_map.mpr ⟨_, hp, rfl⟩
  have tab : ∀ b, b ∈ cs.map (·.2) → s₁.heap.get? b = some { cls := .none, data := .fields #[] } := fun b hb => by
    obtain ⟨p, hp, e⟩ := List.mem_map.mp hb
    exact e ▸ hT p hp
  have na : a ∉ cs.map (·.2) := fun z => by
    have q := ha.symm.trans (tab a z)
    exact nomatch (congrArg Obj.data (Option.some.inj q) : Data.seq vs.toArray _ = Data.fields #[])
  have len : (ns.map V.int).length ≤ sizeLine := by rw [List.length_map]; exact hl
  have rv := vals_ints hi
  -- the three ways of H₀
  have way : ∀ b, (b ∈ cs.map (·.2) ∧ H₀ K a vs ns (cs.map (·.2)) b = some (.tbl #[])) ∨ (b = a ∧ K.lookup a = none ∧ H₀ K a vs ns (cs.map (·.2)) b = some (.frz { cls := .type "list", data := .seq vs.toArray } (.lst (ns.map V.int)))) ∨ (b ∉ cs.map (·.2) ∧ H₀ K a vs ns (cs.map (·.2)) b = none) := fun b => by
    unfold H₀
    by_cases h1 : b ∈ cs.map (·.2)
    · exact .inl ⟨h1, if_pos h1⟩
    · by_cases h2 : b = a ∧ K.lookup a = none
      · exact .inr (.inl ⟨h2.1, h2.2, by rw [if_neg h1, if_pos h2]⟩)
      · exact .inr (.inr ⟨h1, by rw [if_neg h1, if_neg h2]⟩)
  generalize hH : H₀ K a vs ns (cs.map (·.2)) = H at way
  have atT : ∀ p ∈ cs, H p.2 = some (.tbl #[]) := fun p hp => by
    rcases way p.2 with ⟨_, h⟩ | ⟨e, _, _⟩ | ⟨h, _⟩
    · exact h
    · exact absurd (e ▸ mem hp) na
    · exact absurd (mem hp) h
  -- what is neither a list nor an empty record is not tracked
  have free : ∀ {b : Addr} {o : Obj}, s₁.heap.get? b = some o → (∀ vs n, o.data ≠ .seq vs n) → o.data ≠ .fields #[] → H b = none := fun {b o} e h1 h2 => by
    rcases way b with ⟨hb, _⟩ | ⟨hb, _, _⟩ | ⟨_, h⟩
    · have := e.symm.trans (tab b hb)
      cases this
      exact (h2 rfl).elim
    · rw [hb, ha] at e
      cases e
      exact (h1 _ _ rfl).elim
    · exact h
  have stay : ∀ {b : Addr} {o : Obj}, s₁.heap.get? b = some o → H b = none → (hidT s₁.heap H).get? b = some o := fun e n => hidT_get e n
  have nsB : ∀ {b : Addr} {m : Str → Option Value}, s₁.heap.Ns b m → (hidT s₁.heap H).Ns b m := fun {b m} ⟨o, es, ep, e, d, r⟩ =>
    ⟨o, es, ep, stay e (free e (fun _ _ z => nomatch d.symm.trans z) fun z => nomatch d.symm.trans z), d, r⟩
  have kB : K.In (hidT s₁.heap H) := fun b o e => stay (KX b o e) (by
    rcases way b with ⟨hb, _⟩ | ⟨hb, hk, _⟩ | ⟨_, h⟩
    · obtain ⟨p, hp, ep⟩ := List.mem_map.mp hb
      have z := nT p hp
      rw [ep, e] at z
      cases z
    · rw [hb, hk] at e
      cases e
    · exact h)
  have hok : HOk P w H s₁.heap := fun b u e => by
    rcases way b with ⟨hb, h⟩ | ⟨hb, _, h⟩ | ⟨_, h⟩
    · rw [h] at e
      cases e
      exact tab b hb
    · rw [h] at e
      cases e
      rw [hb]
      exact ⟨ha, len, vs, _, rv, ha⟩
    · rw [h] at e
      cases e
  have script : SqL K H a (ns.map V.int) := by
    rcases way a with ⟨hb, _⟩ | ⟨_, _, h⟩ | ⟨hb, h⟩
    · exact absurd hb na
    · exact .inl (.inr ⟨_, h⟩)
    · cases hk : K.lookup a with
      | none =>
        rw [← hH] at h
        unfold H₀ at h
        rw [if_neg hb, if_pos ⟨rfl, hk⟩] at h
        cases h
      | some o =>
        have e := (KX a o hk).symm.trans ha
        cases e
        exact .inr ⟨_, vs.toArray, _, hk, rfl, rfl, rfl, by rw [List.size_toArray, hi.length]; exact hl, by simpa using rv⟩
  have M : L2.Mod K mg (hidT s₁.heap H) := ⟨kB, nsB hns, ⟨mb, nsB hb, hbb⟩, let ⟨mc, h1, h2⟩ := hlim; ⟨mc, nsB h1, h2⟩⟩
  have TB : ∀ p ∈ cs, TabB (hidT s₁.heap H) mg p.1 p.2 := fun p hp => by
    obtain ⟨o, es, ep, eG, dG, _⟩ := id hns
    refine ⟨?_, ?_, fun z => by rw [z, hT p hp] at eG; cases eG; cases dG⟩
    · obtain ⟨o, us, file, tf, flags, tg, inF, text, tt, e1, r1, r2, r3, rest⟩ := C p hp
      exact ⟨o, us, file, tf, flags, tg, inF, text, tt, stay e1 (free e1 (fun _ _ z => nomatch r2.symm.trans z) fun z => by rw [r2] at z; cases z; simp at r3), r1, r2, r3, rest⟩
    · obtain ⟨bm, ob, b1, b2, b3, b4, b5, b6⟩ := hbm
      refine ⟨bm, ob, b1, b2, fun q => ?_, fun q => ?_, stay b3 (free b3 (fun _ _ z => nomatch b6.symm.trans z) fun z => nomatch b6.symm.trans z), b4, b5, b6⟩
      · rw [q, eG] at b3
        cases b3
        exact nomatch dG.symm.trans b6
      · rw [q, hT p hp] at b3
        cases b3
        cases b6
  have e0 : Env0 P w K mg (hidT s₁.heap H) callerA [] s₁ H := ⟨rfl, M, fun b o e => of_hidT e, Nat.le_of_eq (hidT_size _ _), trivial, fun b hb => absurd (show b ∈ ([] : List Addr) from hb) (by simp), hok, .of_eq hg⟩
  refine codeAny_mono ((F _ kB (nsB hns) TB).run callerA [] s₁ H ⟨[.ref a], []⟩ [.ref a] [.ref a] _ _ rfl hr e0 (hbind s₁ (.ref a)) (.cons rfl .nil) (hsp H atT script)) fun res s' h => ?_
  rcases res with err | (_ | _ | _ | u)
  · exact (hCX H err s' h).elim
  · exact False.elim h
  · exact False.elim h
  · exact False.elim h
  obtain ⟨v, H', os, bare, un, hok', r', q⟩ := h
  obtain rfl : v = .bl true := q
  obtain rfl : u = Value.bool true := r'
  have kept : ∀ b o, b ∉ cs.map (·.2) → s₁.heap.get? b = some o → s'.heap.get? b = some o := fun b o nb e => by
    rcases way b with ⟨hb, _⟩ | ⟨_, _, h⟩ | ⟨_, h⟩
    · exact absurd hb nb
    · have e1 := (hok b _ h).1
      have e2 := (hok' b _ (un.frzs b _ _ h)).1
      exact (Option.some.inj (e.symm.trans e1)) ▸ e2
    · exact un.keep b o e h (by intro z; exact absurd (show b ∈ ([] : List Addr) from z) (by simp)) (by simp)
  have grown : ∀ p ∈ cs, ∃ more : Array Value, s'.heap.get? p.2 = some { cls := .none, data := .fields more } := fun p hp => by
    obtain ⟨more, z⟩ := un.tbls p.2 #[] (atT p hp)
    exact ⟨_, hok' p.2 _ z⟩
  refine ⟨rfl, ⟨fun b o e => ?_, fun b o e => ?_⟩, os, bare⟩
  · by_cases hb : b ∈ cs.map (·.2)
    · obtain ⟨p, hp, rfl⟩ := List.mem_map.mp hb
      obtain ⟨more, hm⟩ := grown p hp
      cases e.symm.trans (hT p hp)
      exact .inr (.inl ⟨((C p hp).tab (hT p hp)).isCodeTable, rfl, #[], more, rfl, by rw [Array.empty_append]; exact hm⟩)
    · exact .inl (kept b o hb e)
  · by_cases hb : b ∈ cs.map (·.2)
    · obtain ⟨p, hp, rfl⟩ := List.mem_map.mp hb
      obtain ⟨more, hm⟩ := grown p hp
      exact ⟨_, hm⟩
    · exact ⟨o, kept b o hb e⟩
end
end XG

set_option Elab.async false
set_option maxRecDepth 100000
set_option maxHeartbeats 4000000
/-! L3, part g2: defs called where no repr is under way; repr of nested data; exceptions' words; lambdas. -/
namespace L3
open PySem PySem.Spec PyProof.Rows L2
section
variable {X : Cx} {B : Base3}
end
end L3

set_option Elab.async false
set_option maxRecDepth 100000
set_option maxHeartbeats 4000000
/-! L3, part g3: defs called where no repr is under way. -/
namespace L3
open PySem PySem.Spec PyProof.Rows L2 LamX
structure CalG (P : Program) (w : World) (K : PySem.W.Frag) (mg : Str → Option Value) (base : Heap) (x : Str) (k : Nat) (ps : List Str) (sp : DSp) : Prop where
  ex : ∃ (f : Addr) (fd : FuncData), XG.FnG P w K mg base (L2.CX P w) k f fd ps (LSp K sp) ∧ mg x = some (.ref f) ∧ PySem.W.keepIn K (.ref f) = true ∧ Binds K fd ps [] ∧ ∃ oc od osl, K.lookup f = some ⟨oc, od, .func fd, osl⟩
/-- what the head tells of a def whose code object stands at c -/
structure DefAtC (K : PySem.W.Frag) (mg : Str → Option Value) (x : Str) (st : Stmt) (c : Addr) : Prop where
  ex : ∃ (f : Addr) (oc : Value) (od an : Option Addr) (osl : Array (Option Value)) (kV doc pm ct : Value), mg x = some (.ref f) ∧
    K.lookup f = some ⟨oc, od, .func (PySem.W.fnOf x x (defArgs st) (defBody st) (defScope st) .none kV doc pm an (.ref c) ct), osl⟩ ∧ PySem.W.codeIn K (.ref c) x = true ∧ PySem.W.keepIn K (.ref f) = true
theorem DefAtC.plain {K : PySem.W.Frag} {mg : Str → Option Value} {x : Str} {st : Stmt} {c : Addr} (d : DefAtC K mg x st c) : DefAt K mg x st := by
  obtain ⟨f, oc, od, an, osl, kV, doc, pm, ct, h⟩ := d.ex
  exact ⟨f, oc, od, an, osl, kV, doc, pm, .ref c, ct, h⟩
section
variable {P : Program} {w : World} {K : PySem.W.Frag} {mg : Str → Option Value} {base : Heap}
theorem Cal3.g {x : Str} {k : Nat} {ps : List Str} {sp : DSp} (c : Cal3 P w K mg base x k ps sp) : CalG P w K mg base x k ps sp := by
  obtain ⟨f, fd, F, r⟩ := c.ex
  exact ⟨f, fd, XG.FnG.of F, r⟩
end
section
variable {X : Cx} {B : Base3}
end
end L3

set_option Elab.async false
set_option maxRecDepth 100000
set_option maxHeartbeats 4000000
/-! L3, lambdas: a def that tells the word of the error of a call; a lambda handed to it. -/
namespace L3
open PySem PySem.Spec PyProof.Rows L2 LamX
/-- a constant that such a def answers with -/
inductive WC where
  | s (x : Str) | b (b : Bool)
def WC.c : WC → Const
  | .s y => .str y
  | .b q => .bool q
def WC.d : WC → D
  | .s y => .str y
  | .b q => .bl q
def WC.v : WC → V
  | .s y => .str y
  | .b q => .bl q
theorem WC.rep {K : PySem.W.Frag} {F : Hp} (w : WC) : Rep K F w.d w.v := by
  cases w with
  | s x => exact .str x
  | b b => exact .bl b
theorem After.refl {K : PySem.W.Frag} {F H : Hp} {G : Reg} (w : Wld K F H G) : After K F H G F H G := ⟨w, Same.refl F, fun _ _ h _ => h, fun _ _ _ _ n => n, fun _ h => .inl h, fun _ h => h⟩
/-! ### the clauses -/
section
variable {X : Cx}
end
end L3

set_option Elab.async false
set_option maxRecDepth 100000
set_option maxHeartbeats 4000000
/-! L3, lambdas: the def of words keeps its promise; a lambda handed to it. -/
namespace L3
open PySem PySem.Spec PyProof.Rows L2 LamX
section
variable {X : Cx}
end
end L3

set_option Elab.async false
set_option maxRecDepth 100000
set_option maxHeartbeats 4000000
/-! L3, lambdas: THE RULE for x(lambda: body). -/
namespace L3
open PySem PySem.Spec PyProof.Rows L2 LamX
theorem reg_uniq : ∀ {G : Reg} {b : Addr} {x y : List D}, (G.map (·.1)).Nodup → (b, x) ∈ G → (b, y) ∈ G → x = y
  | [], _, _, _, _, h, _ => nomatch h
  | p :: r, b, x, y, nd, h1, h2 => by
    rw [List.map_cons] at nd
    obtain ⟨n1, n2⟩ := List.nodup_cons.mp nd
    have out : ∀ {z}, (b, z) ∈ r → p.1 ≠ b := fun hz e => n1 (by rw [e]; exact List.mem_map.mpr ⟨_, hz, rfl⟩)
    rcases List.mem_cons.mp h1 with e1 | h1
    · rcases List.mem_cons.mp h2 with e2 | h2
      · rw [← e1] at e2
        cases e2
        rfl
      · exact absurd (by rw [← e1]) (out h2)
    · rcases List.mem_cons.mp h2 with e2 | h2
      · exact absurd (by rw [← e2]) (out h1)
      · exact reg_uniq n2 h1 h2
/-- what a lambda sees of the slots -/
def vals3 (E : Env3) : Env3 := E.map fun s => match s with
  | .val d => .val d
  | _ => .no
section
variable {K : PySem.W.Frag} {B : Base3} {pn : Pend} {F H : Hp} {σ : L2.St} {E : Env3} {G : Reg}
theorem vals3_some {i : Nat} {s : Sl3} (h : (vals3 E)[i]? = some s) : (∃ d, s = .val d ∧ E[i]? = some (.val d)) ∨ s = .no := by
  unfold vals3 at h
  rw [List.getElem?_map] at h
  cases q : E[i]? with
  | none => rw [q] at h; cases h
  | some t =>
    rw [q] at h
    cases t with
    | val d => exact .inl ⟨d, (Option.some.inj h).symm, rfl⟩
    | no => exact .inr (Option.some.inj h).symm
    | own ds => exact .inr (Option.some.inj h).symm
    | ownD ds => exact .inr (Option.some.inj h).symm
    | new nm fs => exact .inr (Option.some.inj h).symm
/-- the plain slots, as a frame of its own -/
theorem St3.fresh (S : St3 K B pn F H σ E G) : St3 K ⟨F, H, G.map (·.1), 0⟩ [] F H σ (vals3 E) G :=
  ⟨S.w, Same.refl F, fun _ _ h _ => h, fun _ _ _ _ n => n, fun _ h => .inl h, fun _ h => h, by unfold vals3; rw [List.length_map]; exact S.len,
    fun i d h => (by
      rcases vals3_some h with ⟨d', e, q⟩ | e
      · cases e; exact S.slot i _ q
      · cases e),
    fun i s d h ho => (by rcases vals3_some h with ⟨d', e, q⟩ | e <;> subst e <;> cases ho),
    fun i j s t d e a h _ ho => (by rcases vals3_some h with ⟨d', e, q⟩ | e <;> subst e <;> cases ho),
    fun a o h => (nomatch h), ⟨List.nodup_nil, fun p h => nomatch h⟩,
    fun nm fs h => (by rcases vals3_some h with ⟨d', e, q⟩ | e <;> cases e)⟩
/-- a register of another kind is written -/
theorem St3.regKeep (S : St3 K B pn F H σ E G) {ds : List D} {a : Addr} {o : HO} (h : (a, ds) ∈ G) (r : RegO K F a o ds) : St3 K B pn F (upd H a o) σ E G := by
  obtain ⟨nF, o0, ea, _⟩ := S.w.reg a ds h
  have ha : a ∈ G.map (·.1) := List.mem_map.mpr ⟨_, h, rfl⟩
  have uniq : ∀ {b : Addr} {es : List D}, (b, es) ∈ G → b = a → es = ds := fun {b es} hb e => by
    subst e
    exact reg_uniq S.w.nd hb h
  refine ⟨⟨fun b u hb => ?_, fun b fs hb => ?_, S.w.nd⟩, S.keepF, fun b u hb hg => ?_, S.unfr, S.regs, S.regk, S.len, S.slot, fun j s d hj ho => ?_, S.ownd, fun b zs hb => ?_, S.pnd, S.news⟩
  · rw [upd_ne (ne_of_none hb nF)]
    exact S.w.sub b u hb
  · obtain ⟨h1, zs, h2, h3⟩ := S.w.reg b fs hb
    by_cases q : b = a
    · rw [uniq hb q, q]
      exact ⟨nF, o, upd_same, r⟩
    · exact ⟨h1, zs, by rw [upd_ne q]; exact h2, h3⟩
  · rcases S.regs a ha with z | z
    · rw [upd_ne (fun q => hg (by rw [q]; exact z))]
      exact S.keepH b u hb hg
    · rw [upd_ne (ne_of_none hb z)]
      exact S.keepH b u hb hg
  · obtain ⟨b, e1, g⟩ := S.own j s d hj ho
    obtain ⟨zs, e2, r2⟩ := g.ex
    exact ⟨b, e1, ⟨g.nF, g.nB, g.nG, g.nP, zs, by rw [upd_ne fun q => g.nG (by rw [q]; exact ha)]; exact e2, r2⟩⟩
  · obtain ⟨h1, h2, h3, h4⟩ := S.pend b zs hb
    exact ⟨by rw [upd_ne fun q => h4 (by rw [q]; exact ha)]; exact h1, h2, h3, h4⟩
/-- behind the making of a lambda -/
theorem St3.grown (S : St3 K B pn F H σ E G) {P c' : Addr} {q : Str} {ps : Array Value} {H1 : Hp} (h : (P, encT q) ∈ G) (hps : H P = some (.tbl ps)) (codes : ∀ (pos : Pos) (cv : Value), codeAmong pos ps.toList = some cv → ∃ c, cv = .ref c ∧ F c = some (CodeO c q)) (g : XL.Grown H P q ps c' H1) :
    ∃ F1, St3 K B pn F1 H1 σ E G ∧ Same F F1 := by
  cases g with
  | same _ => exact ⟨F, S, Same.refl F⟩
  | @more ms n tri cod =>
    obtain ⟨S1, s1⟩ := S.newF (o := CodeO c' q) n
    have ne : P ≠ c' := fun z => by rw [z, n] at hps; cases hps
    have S2 := S1.regKeep (o := .tbl (ps ++ ms)) h (.tbl tri fun pos cv hcv => by
      rcases cod pos cv hcv with z | z
      · obtain ⟨c, e1, e2⟩ := codes pos cv z
        exact ⟨c, e1, s1 _ _ e2⟩
      · exact ⟨c', z, upd_same⟩)
    refine ⟨_, ?_, s1⟩
    have e : upd (upd H c' (CodeO c' q)) P (.tbl (ps ++ ms)) = upd (upd H P (.tbl (ps ++ ms))) c' (CodeO c' q) := by
      funext b
      unfold upd
      by_cases h1 : b = P
      · subst h1; rw [if_pos rfl, if_neg ne, if_pos rfl]
      · rw [if_neg h1]
        by_cases h2 : b = c'
        · rw [if_pos h2, if_pos h2]
        · rw [if_neg h2, if_neg h2, if_neg h1]
    rw [← e]
    exact S2
end
section
variable {X : Cx} {B : Base3}
end
end L3

set_option Elab.async false
set_option maxRecDepth 100000
set_option maxHeartbeats 4000000
/-! L3: the end of a law's row whose defs are called where no repr is under way, with the tables of code objects. -/
namespace L3
open PySem PySem.Spec PyProof.Rows L2 LamX
end L3

set_option Elab.async false
set_option maxRecDepth 100000
set_option maxHeartbeats 4000000
/-! L3: isinstance of any plain value and any class; dicts as constants. -/
namespace L3
open PySem PySem.Spec PyProof.Rows L2
/-! ### isinstance -/
def tyA : D → Option String
  | .non => some "NoneType"
  | .bl _ => some "bool"
  | .int _ => some "int"
  | .str _ => some "str"
  | .tup _ => some "tuple"
  | .lst _ => some "list"
  | .dcK _ _ => some "dict"
  | .dcT _ _ => some "dict"
  | _ => none
def tysA : List String := ["NoneType", "bool", "int", "str", "tuple", "list", "dict"]
theorem kit_knownA : ∀ t ∈ tysA, ∀ n ∈ knownT, kitB t n = some (isT t n) := by decide +kernel
theorem tyA_mem {d : D} {t : String} (h : tyA d = some t) : t ∈ tysA := by
  cases d <;> first | (cases h; done) | (cases h; decide)
/-- what isinstance asks of a value; a locked dict with tuple keys too -/
def TyA (K : PySem.W.Frag) (H : Hp) (v : V) (t : Value) : Prop := TyX K H v t ∨ (∃ a ob kvs, v = .ref a ∧ H a = some (.frz ob (.dT kvs))) ∧ t = .type "dict"
theorem tyXA_of {K : PySem.W.Frag} {F H : Hp} {d : D} {v : V} {t : String} (s : Same F H) (r : RepH K F H d v) (h : tyA d = some t) : TyA K H v (.type t) := by
  cases d with
  | dcK ks ds =>
    cases h
    obtain ⟨a, ob, xs, rfl, h1, _⟩ := r.dck s
    exact .inl (.fDict h1)
  | dcT ks ds =>
    cases h
    obtain ⟨a, ob, xs, rfl, h1, _⟩ := r.dct s
    exact .inr ⟨⟨a, ob, _, rfl, h1⟩, rfl⟩
  | _ => exact .inl (tyX_of s r h)
/-- isinstance(x, c), one class -/
def rIsiF (K : PySem.W.Frag) : List V → Hp → VK → Prop := fun xs H Q => ∃ (a : Addr) (ob : Obj) (kvs : List (List Key × V)) (c : V) (u : Value) (b : Bool), xs = [.ref a, c] ∧ ClsV c u ∧ H a = some (.frz ob (.dT kvs)) ∧ PySem.W.kitOne K (.type "dict") u = some b ∧ Q (.bl b) H
theorem call_isiF {X : Cx} : CallR X (.builtin "isinstance") (rIsiF X.K) := by
  intro pins s σ H xs us Q I r h
  obtain ⟨a, ob, kvs, c, u, b, rfl, k, ea, e, q⟩ := h
  obtain ⟨u1, u2, rfl, r1, r2⟩ := vals2 r
  have e2 := k.eq r2
  subst e2
  cases (show u1 = Value.ref a from r1)
  obtain ⟨_, _, _, ys, _, o, es, ep, h1, h2, _⟩ := (show ObjOk X.prog X.w H s.heap a (.frz ob (.dT kvs)) from I.hok a _ ea)
  exact PySem.W.kia_one PySem.W.kitx_dict I.kIn ⟨o, h1, h2.1⟩ e (fun z => nomatch z) fun tk => ⟨.bl b, H, I.tok tk, rfl, q⟩
/-- a class that no built-in value is of -/
structure IsiO (K : PySem.W.Frag) (n : Str) : Prop where
  ex : ∃ C, ClsN K n C ∧ ∀ t ∈ tysA, PySem.W.kitOne K (.type t) (.ref C) = some false
/-- an instance of n is of no built-in class but object -/
structure IsiT (K : PySem.W.Frag) (n : Str) : Prop where
  ex : ∃ C, ClsN K n C ∧ SlX.SCls K C ∧ SlX.SIsi K C ∧ ∀ t ∈ knownT, PySem.W.kitOne K (.ref C) (.type t) = some false
/-- own: the classes of the text with instances of slots; tbl: which of their instances are of which of the text's classes -/
def bIsiA (own cls : List Str) (tbl : List ((Str × Str) × Bool)) : Reg → List D → (Res → Prop) → Prop := fun _ ds k => match ds with
  | [.obj n1 _, .cls n2] => ∃ b, tbl.lookup (n1, n2) = some b ∧ k (.val (.bl b))
  | [.obj n1 _, .ty n] => n1 ∈ own ∧ n ∈ knownT ∧ k (.val (.bl false))
  | [d, .cls n] => (tyA d).isSome = true ∧ n ∈ cls ∧ k (.val (.bl false))
  | [d, .ty n] => ∃ t, tyA d = some t ∧ n ∈ knownT ∧ k (.val (.bl (isT t n)))
  | _ => False
section
variable {X : Cx} {B : Base3}
theorem call_isiA {own cls : List Str} {tbl : List ((Str × Str) × Bool)} (h1 : ∀ n ∈ own, IsiT X.K n) (h2 : ∀ n ∈ cls, IsiO X.K n) (h3 : ∀ n1 n2 b, tbl.lookup (n1, n2) = some b → Isi3 X.K n1 n2 b) :
    ∃ r, CallR X (.builtin "isinstance") r ∧ RCall X B r (bIsiA own cls tbl) := by
  refine ⟨fun xs H Q => (rIsi X.K xs H Q ∨ rIsiF X.K xs H Q) ∨ ∃ u, SlX.rIsiSl X.K u xs H Q, fun pins s σ H xs us Q I r h => h.elim (fun h => h.elim (fun h => call_isi pins s σ H xs us Q I r h) fun h => call_isiF pins s σ H xs us Q I r h) fun ⟨u, h⟩ => SlX.call_isiSl u pins s σ H xs us Q I r h, fun pn F H σ E G vs ds k Q S r h hk => ?_⟩
  unfold bIsiA at h
  split at h
  · obtain ⟨b, hl, h⟩ := h
    obtain ⟨v, u, rfl, rx, ry⟩ := hl2 r
    obtain ⟨a, C', dx, xs, rfl, hC', hs, _⟩ := rx.obj' S.w.sub
    cases ry.val (fun _ q => nomatch q) with
    | cls hC2 =>
      obtain ⟨C1, C2, g1, g2, g3, g4, g5⟩ := (h3 _ _ b hl).ex
      cases hC'.eq g1
      cases hC2.eq g2
      exact .inr ⟨.ref _, a, _, dx, _, _, b, rfl, rfl, fun w hw => hw, hs, g3, g4, g5, hk _ h _ F H S (Same.refl F) (.bl _)⟩
  · obtain ⟨ho, hn, h⟩ := h
    obtain ⟨v, u, rfl, rx, ry⟩ := hl2 r
    obtain ⟨a, C', dx, xs, rfl, hC', hs, _⟩ := rx.obj' S.w.sub
    cases ry.val (fun _ q => nomatch q) with
    | ty _ =>
      obtain ⟨C1, g1, g2, g3, g4⟩ := (h1 _ ho).ex
      cases hC'.eq g1
      exact .inr ⟨.type _, a, _, dx, _, _, false, rfl, rfl, fun w hw => hw, hs, g2, g3, g4 _ hn, hk _ h _ F H S (Same.refl F) (.bl _)⟩
  · obtain ⟨ht, hn, h⟩ := h
    obtain ⟨v, u, rfl, rx, ry⟩ := hl2 r
    obtain ⟨t, ht⟩ := Option.isSome_iff_exists.mp ht
    cases ry.val (fun _ q => nomatch q) with
    | @cls C2 _ hC2 =>
      obtain ⟨C1, g1, g2⟩ := (h2 _ hn).ex
      cases hC2.eq g1
      rcases tyXA_of S.w.sub rx ht with ty | ⟨⟨a, ob, kvs, rfl, ea⟩, et⟩
      · exact .inl (.inl ⟨_, .ref C2, _, .ref C2, false, rfl, .own C2, ty, g2 t (tyA_mem ht), hk _ h _ F H S (Same.refl F) (.bl _)⟩)
      · cases et
        exact .inl (.inr ⟨a, ob, kvs, .ref C2, .ref C2, false, rfl, .own C2, ea, g2 _ (tyA_mem ht), hk _ h _ F H S (Same.refl F) (.bl _)⟩)
  · obtain ⟨t, ht, hn, h⟩ := h
    obtain ⟨v, u, rfl, rx, ry⟩ := hl2 r
    cases ry.val (fun _ q => nomatch q) with
    | ty _ =>
      rcases tyXA_of S.w.sub rx ht with ty | ⟨⟨a, ob, kvs, rfl, ea⟩, et⟩
      · exact .inl (.inl ⟨_, .ty _, _, .type _, _, rfl, .ty _, ty, kit_ty (kit_knownA t (tyA_mem ht) _ hn), hk _ h _ F H S (Same.refl F) (.bl _)⟩)
      · cases et
        exact .inl (.inr ⟨a, ob, kvs, .ty _, .type _, _, rfl, .ty _, ea, kit_ty (kit_knownA _ (tyA_mem ht) _ hn), hk _ h _ F H S (Same.refl F) (.bl _)⟩)
  · exact h.elim
theorem le_isiA {e e2 : Expr} {ta : DA} {p pos : Pos} (own cls : List Str) (tbl : List ((Str × Str) × Bool)) (h1 : ∀ n ∈ own, IsiT X.K n) (h2 : ∀ n ∈ cls, IsiO X.K n) (h3 : ∀ n1 n2 b, tbl.lookup (n1, n2) = some b → Isi3 X.K n1 n2 b) (hg : Gl X "isinstance") (hm : X.mg "isinstance" = none) (ha : LP X B [e, e2] ta) (he : starEach [e, e2] X.env = (false, eval e X.env) :: starEach [e2] X.env := by rfl) (hpl : (backTo pos (starEach [e2] X.env)).any (·.1) = false := by rfl) :
    LE X B (.Call (.Name "isinstance" p) [e, e2] [] pos) (dCB (bIsiA own cls tbl) ta) := by
  obtain ⟨r, hc, hr⟩ := call_isiA (B := B) h1 h2 h3
  exact le_callB hc hr hg hm (by decide +kernel) ha (by decide) (by decide) he hpl
theorem all_nil {P : Str → Prop} : ∀ n ∈ ([] : List Str), P n := fun _ h => nomatch h
theorem all_cons {P : Str → Prop} {x : Str} {l : List Str} (h : P x) (t : ∀ n ∈ l, P n) : ∀ n ∈ x :: l, P n := fun n hn => by
  rcases List.mem_cons.mp hn with e | hn
  · rw [e]; exact h
  · exact t n hn
end
end L3

set_option Elab.async false
set_option maxRecDepth 100000
set_option maxHeartbeats 4000000
/-! L4: readings that are reckoned: for each plain reading a function, and that it tells the reading. -/
namespace L3
open PySem PySem.Spec PyProof.Rows L2
inductive CR (α : Type) where
  | ok (a : α) (E : Env3) | ex (x : Exc3) (E : Env3) | no
inductive CF where
  | nx (E : Env3) | rt (r : Res) | bk (E : Env3) | ct (E : Env3) | ex (x : Exc3) (E : Env3) | no
/-- what a def gives: a value, an exception, or nothing that is known -/
inductive C1 where
  | ok (r : Res) | ex (x : Exc3) | no
abbrev CE := Env3 → CR Res
abbrev CT := Env3 → CR Bool
abbrev CA := Env3 → CR (List D)
abbrev CP := Env3 → CR (Option Int)
abbrev CS := Env3 → CF
@[inline] def CR.bind {α β : Type} (c : CR α) (f : α → Env3 → CR β) : CR β := match c with
  | .ok a E => f a E
  | .ex x E => .ex x E
  | .no => .no
def CR.sat {α : Type} (dw : DW) (G : Reg) (c : CR α) (k : α → Env3 → Reg → Prop) : Prop := match c with
  | .ok a E => k a E G
  | .ex x E => dw x E G
  | .no => False
def CF.sat (dw : DW) (G : Reg) (c : CF) (D : Ends3) : Prop := match c with
  | .nx E => D.nx E G
  | .rt r => D.rt r G
  | .bk E => D.bk E G
  | .ct E => D.ct E G
  | .ex x E => dw x E G
  | .no => False
def SE (dw : DW) (G : Reg) (t : DE) (c : CE) : Prop := ∀ E k, (c E).sat dw G k → t E G k
def ST (dw : DW) (G : Reg) (t : DT) (c : CT) : Prop := ∀ E k, (c E).sat dw G k → t E G k
def SA (dw : DW) (G : Reg) (t : DA) (c : CA) : Prop := ∀ E k, (c E).sat dw G k → t E G k
def SP (dw : DW) (G : Reg) (t : DO) (c : CP) : Prop := ∀ E k, (c E).sat dw G k → t E G k
def SI (dw : DW) (G : Reg) (t : DI) (c : CA) : Prop := ∀ E k, (c E).sat dw G k → t E G k
def SS (dw : DW) (G : Reg) (t : DSt) (c : CS) : Prop := ∀ D E, (c E).sat dw G D → t D E G
theorem CR.sat_bind {α β : Type} {dw : DW} {G : Reg} {c : CR α} {f : α → Env3 → CR β} {k : β → Env3 → Reg → Prop} (h : (c.bind f).sat dw G k) : c.sat dw G fun a E1 G1 => (f a E1).sat dw G1 k := by
  cases c with
  | ok a E => exact h
  | ex x E => exact h
  | no => exact h
theorem CR.sat_mono {α : Type} {dw : DW} {G : Reg} {c : CR α} {k k' : α → Env3 → Reg → Prop} (h : c.sat dw G k) (hk : ∀ a E, k a E G → k' a E G) : c.sat dw G k' := by
  cases c with
  | ok a E => exact hk a E h
  | ex x E => exact h
  | no => exact h
section
variable {dw : DW} {G : Reg}
/-- first one reading, then what depends on it -/
theorem SE.then {t : DE} {c : CE} (s : SE dw G t c) {α : Type} {f : Res → Env3 → CR α} {E : Env3} {k : α → Env3 → Reg → Prop} {k' : DK} (h : ((c E).bind f).sat dw G k) (hk : ∀ r E1, (f r E1).sat dw G k → k' r E1 G) : t E G k' :=
  s E k' (CR.sat_mono (CR.sat_bind h) fun r E1 h1 => hk r E1 h1)
theorem SA.then {t : DA} {c : CA} (s : SA dw G t c) {α : Type} {f : List D → Env3 → CR α} {E : Env3} {k : α → Env3 → Reg → Prop} {k' : List D → Env3 → Reg → Prop} (h : ((c E).bind f).sat dw G k) (hk : ∀ r E1, (f r E1).sat dw G k → k' r E1 G) : t E G k' :=
  s E k' (CR.sat_mono (CR.sat_bind h) fun r E1 h1 => hk r E1 h1)
theorem SI.then {t : DI} {c : CA} (s : SI dw G t c) {α : Type} {f : List D → Env3 → CR α} {E : Env3} {k : α → Env3 → Reg → Prop} {k' : List D → Env3 → Reg → Prop} (h : ((c E).bind f).sat dw G k) (hk : ∀ r E1, (f r E1).sat dw G k → k' r E1 G) : t E G k' :=
  s E k' (CR.sat_mono (CR.sat_bind h) fun r E1 h1 => hk r E1 h1)
theorem ST.then {t : DT} {c : CT} (s : ST dw G t c) {α : Type} {f : Bool → Env3 → CR α} {E : Env3} {k : α → Env3 → Reg → Prop} {k' : Bool → Env3 → Reg → Prop} (h : ((c E).bind f).sat dw G k) (hk : ∀ r E1, (f r E1).sat dw G k → k' r E1 G) : t E G k' :=
  s E k' (CR.sat_mono (CR.sat_bind h) fun r E1 h1 => hk r E1 h1)
theorem SP.then {t : DO} {c : CP} (s : SP dw G t c) {α : Type} {f : Option Int → Env3 → CR α} {E : Env3} {k : α → Env3 → Reg → Prop} {k' : Option Int → Env3 → Reg → Prop} (h : ((c E).bind f).sat dw G k) (hk : ∀ r E1, (f r E1).sat dw G k → k' r E1 G) : t E G k' :=
  s E k' (CR.sat_mono (CR.sat_bind h) fun r E1 h1 => hk r E1 h1)
/-- an answer that may lack -/
def CR.of {α : Type} (o : Option α) (E : Env3) : CR α := match o with
  | some a => .ok a E
  | none => .no
def isI : Res → Option Int
  | .val (.int i) => some i
  | _ => none
def C1.at (c : C1) (E : Env3) : CR Res := match c with
  | .ok r => .ok r E
  | .ex x => .ex x E
  | .no => .no
end
end L3

set_option Elab.async false
set_option maxRecDepth 100000
set_option maxHeartbeats 4000000
/-! L4, part b: the operators and built-ins, reckoned. -/
namespace L3
open PySem PySem.Spec PyProof.Rows L2
end L3

set_option Elab.async false
set_option maxRecDepth 100000
set_option maxHeartbeats 4000000
/-! L4, part c: statements, loops, comprehensions, defs, reckoned. -/
namespace L3
open PySem PySem.Spec PyProof.Rows L2
section
variable {dw : DW} {G : Reg}
instance (n : Nat) : Decidable (ZN.N234 n) := by unfold ZN.N234; infer_instance
/-- a reading that leaves slot i as it is -/
def Keeps (i : Nat) (c : CE) : Prop := ∀ E d, E[i]? = some (Sl3.val d) → match c E with
  | .ok _ E1 => E1[i]? = some (Sl3.val d)
  | _ => True
/-! what keeps the plain slots -/
def KA {α : Type} (c : Env3 → CR α) : Prop := ∀ (E E1 : Env3) (a : α) (i : Nat) (d : D), c E = .ok a E1 → E[i]? = some (Sl3.val d) → E1[i]? = some (Sl3.val d)
theorem KA.at {a : CE} (h : KA a) (i : Nat) : Keeps i a := fun E d e => by
  cases q : a E with
  | ok r E1 => exact h E E1 r i d q e
  | ex x E1 => exact True.intro
  | no => exact True.intro
end
end L3

set_option Elab.async false
set_option maxRecDepth 100000
set_option maxHeartbeats 4000000
/-! L4, part d: isinstance, repr, ranges as lists, lambdas, reckoned. -/
namespace L3
open PySem PySem.Spec PyProof.Rows L2
section
variable {dw : DW} {G : Reg}
/-! ### what a statement's reckoning shows -/
def isTru : CF → Bool
  | .rt (.val (.bl true)) => true
  | _ => false
theorem tru_of {c : CF} (h : isTru c = true) : c = .rt (.val (.bl true)) := by
  unfold isTru at h
  split at h
  · rfl
  · cases h
theorem SS.tru {t : DSt} {c : CS} (s : SS dw G t c) {E : Env3} {Dn : Ends3} (h : isTru (c E) = true) (hk : Dn.rt (.val (.bl true)) G) : t Dn E G := s Dn E (by rw [tru_of h]; exact hk)
end
end L3
namespace L3
open PySem PySem.Spec PyProof.Rows L2
/-! ### tables of code objects that a promise wants -/
def HP : List (Addr × Str) → Reg → Prop
  | [], _ => True
  | p :: r, G => (p.1, encT p.2) ∈ G ∧ HP r G
end L3

set_option Elab.async false
set_option maxRecDepth 100000
set_option maxHeartbeats 4000000
/-! L5, the end's facts: exceptions' classes, isinstance, defs where no repr is under way. -/
namespace L3
open PySem PySem.Spec PyProof.Rows L2
section
variable {K : PySem.W.Frag} {mg : Str → Option Value}
theorem isiO_mk {n : Str} {C : Addr} (a : PySem.W.nsIn K mainGlobals n = some (some (.ref C))) (e : ∀ t ∈ tysA, PySem.W.kitOne K (.type t) (.ref C) = some false) : IsiO K n := ⟨C, a, e⟩
theorem isiT_mk {n : Str} {C : Addr} (c : SClsN K n) (a : PySem.W.nsIn K mainGlobals n = some (some (.ref C))) (ca : PySem.W.findIn K (.ref C) "__class__" = some (some (.builtin "object.__class__"))) (cn : PySem.W.specialIn K (.builtin "object.__class__") "__get__" = some (some (.builtin "getset_descriptor.__get__"))) (ct : PySem.W.takesIn K (.builtin "object.__class__") = some true) (cm : PySem.W.mroIn K C (.type "object") = some true)
    (e : ∀ t ∈ knownT, PySem.W.kitOne K (.ref C) (.type t) = some false) : IsiT K n := by
  obtain ⟨C', h, sc⟩ := c.ex
  cases ClsN.eq a h
  exact ⟨C, a, sc, ⟨ca, cn, ct, cm⟩, e⟩
end
end L3

set_option Elab.async false
set_option maxRecDepth 100000
set_option maxHeartbeats 4000000
/-! L5: calls without arguments, one of two readings, slots forgotten. -/
namespace L3
open PySem PySem.Spec PyProof.Rows L2
section
variable {X : Cx} {B : Base3}
end
section
open LamX
variable {X : Cx} {B : Base3}
end
end L3

set_option Elab.async false
set_option maxRecDepth 100000
set_option maxHeartbeats 4000000
/-! L6: tools for what is reckoned of values that are not written. -/
namespace L3
open PySem PySem.Spec PyProof.Rows L2
theorem HP.cons {ps : List (Addr × Str)} {G : Reg} {p : Addr × List D} (h : HP ps G) : HP ps (p :: G) := by
  induction ps with
  | nil => trivial
  | cons a r ih => exact ⟨List.mem_cons_of_mem _ h.1, ih h.2⟩
theorem HP.self : ∀ {ps qs : List (Addr × Str)}, (∀ p ∈ ps, p ∈ qs) → HP ps (qs.map fun p => (p.1, encT p.2))
  | [], _, _ => trivial
  | p :: r, qs, h => ⟨List.mem_map.mpr ⟨p, h p List.mem_cons_self, rfl⟩, HP.self fun x hx => h x (List.mem_cons_of_mem _ hx)⟩
mutual
def D.beq : D → D → Bool
  | .non, .non => true
  | .bl a, .bl b => decide (a = b)
  | .int a, .int b => decide (a = b)
  | .str a, .str b => decide (a = b)
  | .ref a, .ref b => decide (a = b)
  | .ty a, .ty b => decide (a = b)
  | .tup a, .tup b => D.beqL a b
  | .lst a, .lst b => D.beqL a b
  | .scr a, .scr b => decide (a = b)
  | .obj n a, .obj m b => decide (n = m) && D.beqL a b
  | .cls a, .cls b => decide (a = b)
  | .tag a, .tag b => decide (a = b)
  | _, _ => false
def D.beqL : List D → List D → Bool
  | [], [] => true
  | a :: r, b :: s => D.beq a b && D.beqL r s
  | _, _ => false
end
/-- it gives that very value -/
def C1.gives (c : C1) (d : D) : Bool := match c with
  | .ok (.val e) => D.beq e d
  | _ => false
theorem spots_le {m n : Int} (h0 : 1 ≤ m) (hn : True) : 0 ≤ (if (if n < m then n else m) > 1 then (if n < m then n else m) else 1) ∧ (if (if n < m then n else m) > 1 then (if n < m then n else m) else 1) ≤ m := by
  by_cases h1 : n < m
  · simp only [if_pos h1]
    split <;> omega
  · simp only [if_neg h1]
    split <;> omega
section
variable {X : Cx} {B : Base3}
end
end L3

set_option Elab.async false
set_option maxRecDepth 100000
set_option maxHeartbeats 4000000
/-! ZE: a dict is no text: == of both. -/
namespace PySem.SeqAt
open PySem Builtin
variable {A : Around} {s : Shared}
end PySem.SeqAt
namespace L3
open PySem PySem.Spec PyProof.Rows L2
section
variable {X : Cx} {B : Base3}
def isDc : D → Bool
  | .dcK _ _ => true
  | _ => false
end
end L3

set_option Elab.async false
set_option maxRecDepth 100000
set_option maxHeartbeats 4000000
/-! LQ: words of errors, told for reckoned calls -/
namespace L3
open PySem PySem.Spec PyProof.Rows L2
theorem sh_ss (ss : List Str) (h : (ss.all strOkC) = true) : D.sh (.lst (ss.map D.str)) = true := by
  refine shC_of (List.all_eq_true.mpr fun x hx => ?_)
  obtain ⟨s, hs, rfl⟩ := List.mem_map.mp hx
  exact List.all_eq_true.mp h s hs
end L3

set_option Elab.async false
set_option maxRecDepth 100000
set_option maxHeartbeats 4000000
/-! GN: next(generator expression, a default): what stands before the first yield. -/
namespace GN
open PySem PySem.Spec PyProof.Rows L2
section
variable {prog : Program} {w : World} {A : Around} {elt target iter c : Expr} {scope : Scope} {pos : Pos} {I : Addr} {cenv : Env} {St : Nat → Shared → Prop} {Done : Shared → Prop} {Out : Value → Shared → Prop}
end
/-- the place of the first pair whose sides differ -/
def fd : List (Int × Int) → Option Nat
  | [] => none
  | p :: ps => if p.1 = p.2 then (fd ps).map (· + 1) else some 0
section
variable {prog : Program} {w : World} {scope : Scope} {xa xb xc : Str} {cenv : Env} {K0 : Shared} {e it C l : Addr} {items : Array Value} {ps : List (Int × Int)}
end
end GN

set_option Elab.async false
set_option maxRecDepth 100000
set_option maxHeartbeats 4000000
/-! GN2: next((a + 1 for a, (b, c) in enumerate(pairs) if b != c), None) over the layer's heap. -/
namespace GN
open PySem PySem.Spec PyProof.Rows L2 GxR
section
variable {X : Cx} {c P : Addr} {xa xb xc : Str} {scope : Scope} {e : Expr} {ta : TA} {k : Nat} {pn pe p1 p2 p3 p4 p5 q1 q2 q3 q4 q5 q6 gpos epos pos cp : Pos} {k1 k2 j1 j2 : Nat}
end
end GN

set_option Elab.async false
set_option maxRecDepth 100000
set_option maxHeartbeats 4000000
/-! L10: next((a + 1 for a, (b, c) in enumerate(pairs) if b != c), None), read over plain values. -/
namespace L3
open PySem PySem.Spec PyProof.Rows L2 LamX
section
variable {K : PySem.W.Frag} {F : Hp}
end
section
variable {X : Cx} {B : Base3}
end
end L3

set_option Elab.async false
set_option maxRecDepth 100000
set_option maxHeartbeats 4000000
/-! ZL: list(zip(..)) of lists and tuples. -/
namespace ZN
open PySem PySem.Spec PyProof.Rows L2
section
variable {prog : Program} {w : World} {A : Around} {E : Value → Shared → Prop} {s : Shared}
/-- a zip with all behind it, at the i-th turn; S: the list that is filled -/
def ZLst (S z TI TO : Nat) (cs : List Src) (i : Nat) (h : Heap) : Prop := IsTup h TI (cs.map fun c => .ref c.it) ∧ (∀ c ∈ cs, ItAt c.k h c.it c.a i) ∧
  ((IsZip h z TI TO .none ∧ ∃ ys : List Value, ys.length = cs.length ∧ IsTup h TO ys) ∨ ∃ (T : Nat) (f : Bool) (oT : Obj), IsZipHeld h z TI TO T f ∧ h.get? T = some oT ∧ T ≠ S ∧ T ≠ z ∧ T ∉ cs.map Src.it) ∧ ∃ o, h.get? TO = some o
theorem ZLst.frame {S z TI TO : Nat} {cs : List Src} {i : Nat} {h h' : Heap} (st : ZLst S z TI TO cs i h) (a1 : TI ≠ S) (a2 : TO ≠ S) (a3 : z ≠ S) (a4 : ∀ c ∈ cs, c.it ≠ S) (k : ∀ b o, b ≠ S → h.get? b = some o → h'.get? b = some o) : ZLst S z TI TO cs i h' := by
  obtain ⟨b1, b2, b3, oO, b4⟩ := st
  refine ⟨k _ _ a1 b1, fun c hc => (b2 c hc).over fun o e => k _ o (a4 c hc) e, ?_, oO, k _ _ a2 b4⟩
  rcases b3 with ⟨c1, ys, c2, c3⟩ | ⟨T, f, oT, c1, c2, c3, c4, c5⟩
  · exact .inl ⟨k _ _ a3 c1, ys, c2, k _ _ a2 c3⟩
  · exact .inr ⟨T, f, oT, k _ _ a3 c1, k _ _ c3 c2, c3, c4, c5⟩
/-- what has been handed out so far, each in a tuple of its own -/
def Rows (n0 : Nat) (S : Nat) (ts : List Nat) (rows : List (List Value)) (h : Heap) : Prop := ts.Nodup ∧ ts.length ≤ rows.length ∧ ∀ (j : Nat) (t : Nat), ts[j]? = some t → n0 ≤ t ∧ t ≠ S ∧ ∃ vs, rows[j]? = some vs ∧ IsTup h t vs
/-- what stands ahead of list(zip(..)) -/
structure Ahead (z TI TO n0 : Nat) (cs : List Src) (xs : Src → Array Value) (rows : List (List Value)) (h : Heap) : Prop where
  D : Apart z TI TO cs
  ne : cs ≠ []
  n : cs.length < 1000
  nz : n0 ≤ z
  nI : n0 ≤ TI
  nO : n0 ≤ TO
  ni : ∀ c ∈ cs, n0 ≤ c.it
  lo : ∀ c ∈ cs, c.a < n0
  sq : ∀ c ∈ cs, SqAt c.k h c.a (xs c)
  row : ∀ (i : Nat) (vs : List Value), rows[i]? = some vs → cs.map (fun c => (xs c)[i]?) = vs.map some
  last : ∃ c ∈ cs, (xs c)[rows.length]? = none
  hz : rows.length ≤ sizeLine
  zip : IsZip h z TI TO .none
  ti : IsTup h TI (cs.map fun c => .ref c.it)
  to : ∃ ys : List Value, ys.length = cs.length ∧ IsTup h TO ys
  it : ∀ c ∈ cs, ItAt c.k h c.it c.a 0
theorem Ahead.keep {z TI TO n0 : Nat} {cs : List Src} {xs : Src → Array Value} {rows : List (List Value)} {h h' : Heap} (a : Ahead z TI TO n0 cs xs rows h) (k : ∀ b o, h.get? b = some o → h'.get? b = some o) : Ahead z TI TO n0 cs xs rows h' :=
  ⟨a.D, a.ne, a.n, a.nz, a.nI, a.nO, a.ni, a.lo, fun c hc => (a.sq c hc).over fun o e => k _ o e, a.row, a.last, a.hz, k _ _ a.zip, k _ _ a.ti, let ⟨ys, e, q⟩ := a.to; ⟨ys, e, k _ _ q⟩, fun c hc => (a.it c hc).over fun o e => k _ o e⟩
theorem Ahead.st {S z TI TO n0 : Nat} {cs : List Src} {xs : Src → Array Value} {rows : List (List Value)} {h : Heap} (a : Ahead z TI TO n0 cs xs rows h) : ZLst S z TI TO cs 0 h :=
  ⟨a.ti, a.it, .inl ⟨a.zip, a.to⟩, let ⟨ys, _, q⟩ := a.to; ⟨_, q⟩⟩
end
end ZN

set_option Elab.async false
set_option maxRecDepth 100000
set_option maxHeartbeats 4000000
/-! ZL2: list(zip(..)) over the layer's heap. -/
namespace ZN
open PySem PySem.Spec PyProof.Rows L2
section
variable {X : Cx} {pins : List (Addr × Obj)} {σ : L2.St} {H H' : Hp} {s : Shared}
end
section
variable {X : Cx} {p p2 pos pos2 : Pos} {e : Expr} {es : List Expr} {ta : TA}
end
end ZN

set_option Elab.async false
set_option maxRecDepth 100000
set_option maxHeartbeats 4000000
/-! L11: list(zip(..)) over plain values. -/
namespace L3
open PySem PySem.Spec PyProof.Rows L2
section
inductive RepT (K : PySem.W.Frag) (F : Hp) : List (List D) → List (List V) → Prop
  | nil : RepT K F [] []
  | cons {d : List D} {r : List V} {ds : List (List D)} {rs : List (List V)} : RepL K F d r → RepT K F ds rs → RepT K F (d :: ds) (r :: rs)
theorem RepT.mono {K : PySem.W.Frag} {F F' : Hp} (e : Same F F') : ∀ {ds : List (List D)} {rs : List (List V)}, RepT K F ds rs → RepT K F' ds rs
  | _, _, .nil => .nil
  | _, _, .cons h t => .cons (RepL.mono e _ _ h) (RepT.mono e t)
theorem RepT.of {K : PySem.W.Frag} {F : Hp} : ∀ {ds : List (List D)} {rs : List (List V)}, ds.length = rs.length → (∀ (i : Nat) d r, ds[i]? = some d → rs[i]? = some r → RepL K F d r) → RepT K F ds rs
  | [], [], _, _ => .nil
  | [], _ :: _, h, _ => by cases h
  | _ :: _, [], h, _ => by cases h
  | d :: ds, r :: rs, h, g => .cons (g 0 d r rfl rfl) (RepT.of (by simpa using h) fun i d r h1 h2 => g (i + 1) d r (by simpa using h1) (by simpa using h2))
variable {K : PySem.W.Frag} {B : Base3} {pn : Pend} {σ : L2.St} {E : Env3} {G : Reg}
end
section
variable {X : Cx} {B : Base3} {K : PySem.W.Frag}
end
end L3

set_option Elab.async false
set_option maxRecDepth 100000
set_option maxHeartbeats 4000000
/-! L7: try with except clauses, reckoned. -/
namespace L3
open PySem PySem.Spec PyProof.Rows L2
section
variable {a : Addr} {x : Exc3} {o : Option Nat}
def hC (d : D) : Exc3 → Option Res := fun _ => some (.val d)
def hF (xt : List (Str × Str)) (f : Str) : Exc3 → Option Res := fun x => match x.2 with
  | some (g, d) => if f = g ∧ xt.contains (x.1, f) = true then some (.val d) else none
  | none => none
end
end L3

set_option Elab.async false
set_option maxRecDepth 100000
set_option maxHeartbeats 4000000
/-! L8: extend, pop, divmod. -/
namespace L3
open PySem PySem.Spec PyProof.Rows L2
section
variable {X : Cx} {B : Base3}
end
/-! ### reckoned -/
section
variable {dw : DW} {G : Reg}
end
end L3

set_option Elab.async false
set_option maxRecDepth 100000
set_option maxHeartbeats 4000000
/-! L9: comprehensions with two fors. -/
namespace L3
open PySem PySem.Spec PyProof.Rows L2
section
variable {K : PySem.W.Frag} {B : Base3}
end
section
variable {X : Cx} {B : Base3}
end
/-! ### reckoned -/
section
variable {dw : DW} {G : Reg}
end
end L3

set_option Elab.async false
set_option maxRecDepth 100000
set_option maxHeartbeats 4000000
/-! L12: == of two instances by their own __eq__; range with three arguments. -/
namespace L3
open PySem PySem.Spec PyProof.Rows L2
def dEqO (nm : Str) (sp : DSp) (ta tb : DE) : DE := fun E G k => ta E G fun x E1 G1 => tb E1 G1 fun y E2 G2 =>
  ∃ fs, x.fz.get E2 = some (.obj nm fs) ∧ ∃ gs, y.get E2 = some (.obj nm gs) ∧ sp [.obj nm fs, .obj nm gs] G2 (fun r G3 => k r E2 G3) (fun _ _ => False)
section
variable {X : Cx} {B : Base3}
theorem notFirst_self (K : PySem.W.Frag) (C : Addr) : PySem.W.notFirst K C (.ref C) = true := by
  unfold PySem.W.notFirst
  rw [Bool.or_eq_true]
  exact .inl (by simp)
theorem eqO_core {nm : Str} {k j : Nat} {sp : DSp} {ta tb : DE} {C g : Addr} {fd : FuncData} {ps : List Str} (hC : ClsN X.K nm C) {σ : L2.St} {H : Hp} {Q : VK} (h : Lift X.K B (dEqO nm sp ta tb) σ H Q) :
    tOp (SlX.rOwn X.K C (fun vs H Q E => LSp X.K sp (vs ++ []) H Q E) (fun _ _ _ => False)) (Lift X.K B ta) (Lift X.K B tb) σ H Q := by
  obtain ⟨pn, F, E, G, k, S, ht, hk⟩ := h
  refine ⟨pn, F, E, G, _, S, ht, fun x E1 G1 h1 v F1 H1 S1 s1 r1 => ?_⟩
  obtain ⟨F1', S1', s1', r1'⟩ := S1.fz r1
  refine ⟨pn, F1', E1, G1, _, S1', h1, fun y E2 G2 ⟨fs, hx, gs, hy, h2⟩ u F2 H2 S2 s2 r2 => ?_⟩
  obtain ⟨a1, C1, dx, xs, rfl, hC1, hs1, ra⟩ := (S2.getH (r1'.onward s2) hx).obj' S2.w.sub
  obtain ⟨b1, C2, dy, ys, rfl, hC2, hs2, rb⟩ := (S2.getH r2 hy).obj' S2.w.sub
  cases hC.eq hC1
  cases hC.eq hC2
  refine ⟨a1, dx, _, b1, _, dy, _, rfl, rfl, hs1, hs2, notFirst_self _ _, F2, G2, [.obj nm fs, .obj nm gs], _, _, S2.w, .cons ra (.cons rb .nil), h2, fun r' G' h3 v F3 H3 A r3 => ?_, fun _ _ z => z.elim⟩
  exact hk _ _ _ h3 v F3 H3 (S2.wldAfter A) (((s1.trans s1').trans s2).trans A.keepF) (S2.retR r3)
theorem le_eqO {nm : Str} {k j : Nat} {sp : DSp} {a b : Expr} {ta tb : DE} {pos : Pos} (p : Meth3 X.prog X.w X.K X.mg X.base nm "__eq__" k sp) (hr : Room j X.A) (hk : k ≤ j) (ha : LE X B a ta) (hb : LE X B b tb) : LE X B (.Compare a [.Eq] [b] pos) (dEqO nm sp ta tb) := by
  obtain ⟨C, g, fd, ps, hC, sc, M, Fn, hbd⟩ := p.ex
  exact ⟨pe_imp (pe_cmpR (SlX.op_own (E := fun _ _ _ => False) (fun _ _ => rfl) M.at_ M.fn (Fn.raw hbd .nil) (hr.mono hk) passF) ha.pe hb.pe (nomark _)) fun σ H Q h => eqO_core (k := k) (j := j) (g := g) (fd := fd) (ps := ps) hC h⟩
end
section
variable {X : Cx} {B : Base3} {K : PySem.W.Frag}
end
section
variable {X : Cx} {B : Base3}
end
end L3

set_option Elab.async false
set_option maxRecDepth 100000
set_option maxHeartbeats 4000000
/-! L13: a list of our own is lent to a call: for its length the list stands as a register. -/
namespace L3
open PySem PySem.Spec PyProof.Rows L2
section
variable {X : Cx} {B : Base3}
end
section
variable {K : PySem.W.Frag} {B : Base3} {pn : Pend} {F H : Hp} {σ : L2.St} {E : Env3} {G : Reg}
theorem St3.back {b : Addr} {ds : List D} (S : St3 K B pn F H σ E (G ++ [(b, ds)])) {i : Nat} (hl : isL ds = true) (hi : E[i]? = some (Sl3.val (.ref b))) (nB : B.H b = none) (nG : b ∉ B.G) :
    St3 K B pn F H σ (E.set i (.own ds)) G := by
  have mG : ∀ a, a ∈ (G ++ [(b, ds)]).map (·.1) ↔ a ∈ G.map (·.1) ∨ a = b := fun a => by
    rw [List.map_append, List.mem_append]; simp
  have nd := S.w.nd
  rw [List.map_append, List.nodup_append] at nd
  have bG : b ∉ G.map (·.1) := fun h => nd.2.2 b h b (by simp) rfl
  obtain ⟨nF, o, ho, ro⟩ := S.w.reg b ds (List.mem_append.mpr (.inr (List.mem_singleton.mpr rfl)))
  obtain ⟨xs, rfl, rx⟩ := ro.lstOf hl
  obtain ⟨v, hv, rv⟩ := S.slot i _ hi
  cases rv
  have nP : b ∉ pn.map (·.1) := fun h => by
    obtain ⟨p, hp, rfl⟩ := List.mem_map.mp h
    exact (S.pend p.1 p.2 hp).2.2.2 ((mG _).mpr (.inr rfl))
  have fb : Fre K B pn F H G b ds := ⟨nF, nB, bG, nP, xs, ho, rx⟩
  have oth : ∀ (j : Nat) (t : Sl3) (d : D), E[j]? = some t → t.ow = some d → ∃ a, σ[j]? = some (some (V.ref a)) ∧ a ≠ b ∧ FreX K B pn F H G a d := fun j t d q ho => by
    obtain ⟨a, ha, g⟩ := S.own j t d q ho
    exact ⟨a, ha, fun z => g.nG ((mG a).mpr (.inr z)), ⟨g.nF, g.nB, fun z => g.nG ((mG a).mpr (.inl z)), g.nP, g.ex⟩⟩
  refine ⟨⟨S.w.sub, fun a es h => S.w.reg a es (List.mem_append.mpr (.inl h)), nd.1⟩, S.keepF, S.keepH, S.unfr, fun a h => S.regs a ((mG a).mpr (.inl h)), fun a h => ?_, by rw [List.length_set]; exact S.len, fun j d h => ?_, fun j t d h ho => ?_, fun j k t u d e a h1 h2 o1 o2 h3 h4 => ?_, fun a o h => ?_, S.pnd, fun nm fs h => ?_⟩
  · rcases (mG a).mp (S.regk a h) with z | rfl
    · exact z
    · exact absurd h nG
  · rcases set_look h with ⟨_, q⟩ | ⟨_, q⟩
    · cases q
    · exact S.slot j d q
  · rcases set_look h with ⟨rfl, q⟩ | ⟨_, q⟩
    · subst q; cases ho; exact ⟨b, hv, fb.x⟩
    · obtain ⟨a, ha, _, g⟩ := oth j t d q ho
      exact ⟨a, ha, g⟩
  · rcases set_look h1 with ⟨rfl, q⟩ | ⟨_, q1⟩
    · rcases set_look h2 with ⟨rfl, _⟩ | ⟨_, q2⟩
      · rfl
      · obtain ⟨c, hc, nc, _⟩ := oth k u e q2 o2
        rw [hv] at h3; cases h3
        rw [hc] at h4; cases h4
        exact absurd rfl nc
    · rcases set_look h2 with ⟨rfl, q⟩ | ⟨_, q2⟩
      · obtain ⟨c, hc, nc, _⟩ := oth j t d q1 o1
        rw [hv] at h4; cases h4
        rw [hc] at h3; cases h3
        exact absurd rfl nc
      · exact S.ownd j k t u d e a q1 q2 o1 o2 h3 h4
  · obtain ⟨h1, h2, h3, h4⟩ := S.pend a o h
    exact ⟨h1, h2, h3, fun z => h4 ((mG a).mpr (.inl z))⟩
  · rcases set_look h with ⟨_, q⟩ | ⟨_, q⟩
    · cases q
    · exact S.news nm fs q
end
/-- a call under a narrower promise -/
theorem Cal3.weak {P : Program} {w : World} {K : PySem.W.Frag} {mg : Str → Option Value} {base : Heap} {x : Str} {k : Nat} {ps : List Str} {sp sp' : DSp} (c : Cal3 P w K mg base x k ps sp) (h : ∀ ds G q e, sp' ds G q e → sp ds G q e) : Cal3 P w K mg base x k ps sp' := by
  obtain ⟨f, fd, F, r⟩ := c.ex
  exact ⟨f, fd, F.imp fun vs H Q E ⟨F0, G, ds, k, kx, h1, h2, h3, h4, h5⟩ => ⟨F0, G, ds, k, kx, h1, h2, h ds G k kx h3, h4, h5⟩, r⟩
end L3

set_option Elab.async false
set_option maxRecDepth 100000
set_option maxHeartbeats 4000000
/-! L14: a, b, c = x, [..], z with a list of our own in the midst; a fresh list handed on as a register. -/
namespace L3
open PySem PySem.Spec PyProof.Rows L2
section
variable {X : Cx} {B : Base3}
end
section
variable {X : Cx}
end
end L3

set_option Elab.async false
set_option maxRecDepth 100000
set_option maxHeartbeats 4000000
/-! L15: pop at a place; len(set(xs)) of a fresh list of ints, all unlike. -/
namespace L3
open PySem PySem.Spec PyProof.Rows L2
section
variable {X : Cx} {B : Base3}
end
end L3

set_option Elab.async false
set_option maxRecDepth 100000
set_option maxHeartbeats 4000000
/-! L17: a, b, c = [..], y, z with a list of our own ahead. -/
namespace L3
open PySem PySem.Spec PyProof.Rows L2
section
variable {X : Cx} {B : Base3}
end
end L3

set_option Elab.async false
set_option maxRecDepth 100000
set_option maxHeartbeats 4000000
/-! ZC3: a comprehension with three fors, by one rule for a loop over any body. -/
namespace ZC
open PySem PySem.Spec L2
open PyProof.Rows hiding St
abbrev Fz : Value → Shared → Prop := fun _ _ => False
abbrev WP {α : Type} (p : Program) (w : World) (A : Around) (m : Sem α) (Q : α → Shared → Prop) (s : Shared) : Prop := wpAny (model p w) A m Q Fz s
theorem up {α : Type} {p : Program} {w : World} {A : Around} {m : Sem α} {Q Q' : α → Shared → Prop} {E : Value → Shared → Prop} {s : Shared} (h : WP p w A m Q s) (k : ∀ a s, Q a s → Q' a s) : wpAny (model p w) A m Q' E s := thnF h k
abbrev tests (ifs : List Expr) (env : Env) : Sem Bool := forIn ifs true fun c r => if r = true then do let ok ← isTrue c env (eval c env); pure (ForInStep.yield ok) else pure (ForInStep.yield r)
section
variable {p : Program} {w : World} {A : Around} {e t0 i0 t1 i1 t2 i2 elt : Expr} {f0 f1 f2 : List Expr} {scope : Scope} {pos : Pos} {it acc : Value} {env : Env} {s : Shared}
/-- one turn of a loop over any body -/
def TurnW (p : Program) (w : World) (A : Around) (t : Expr) (fs : List Expr) (it : Value) (env : Env) (B : (Shared → Prop) → Shared → Prop) (Out Nx : Shared → Prop) (s : Shared) : Prop :=
  WP p w A (pyNext it) (fun r s1 => match r with
    | none => Out s1
    | some v => WP p w A (letOwnedTupleGo t it v) (fun _ s2 => WP p w A (assign t env v) (fun _ s3 => WP p w A (tests fs env) (fun ok s4 => if ok = true then B Nx s4 else Nx s4) s3) s2) s1) s
def e3 (elt t0 i0 : Expr) (f0 : List Expr) (t1 i1 : Expr) (f1 : List Expr) (t2 i2 : Expr) (f2 : List Expr) (scope : Scope) (pos : Pos) : Expr := .ListComp elt [⟨t0, i0, f0, 0⟩, ⟨t1, i1, f1, 0⟩, ⟨t2, i2, f2, 0⟩] scope pos
/-- the body that starts the next loop -/
def BMid (p : Program) (w : World) (A : Around) (e : Expr) (d : Nat) (i : Expr) (acc : Value) (env : Env) (Q : Shared → Prop) (s : Shared) : Prop :=
  WP p w A (eval i env) (fun x s1 => WP p w A (pyIter x) (fun it s2 => codeAny (model p w) A (.compStart e d it acc env) (fun r s3 => match r with | .ok _ => Q s3 | .error _ => False) s2) s1) s
/-- the body that appends -/
def BIn (p : Program) (w : World) (A : Around) (elt : Expr) (acc : Value) (env : Env) (Q : Shared → Prop) (s : Shared) : Prop :=
  WP p w A (eval elt env) (fun x s1 => WP p w A (call (.builtin "list.append") [acc, x]) (fun _ s2 => Q s2) s1) s
theorem turn0 {R : Result → Shared → Prop} {I : Nat → Shared → Prop} {n : Nat} (hs : ∀ x, foldedSetIterable i1 env x = pure x)
    (h : TurnW p w A t0 f0 it env (BMid p w A (e3 elt t0 i0 f0 t1 i1 f1 t2 i2 f2 scope pos) 1 i1 acc env) (fun s => R (.ok .next) s) (fun s => ∃ m, m < n ∧ I m s) s) :
    wpAny (model p w) A (compTurn (e3 elt t0 i0 f0 t1 i1 f1 t2 i2 f2 scope pos) 0 it acc env) (fun fin s' => match fin with | .done f => R (.ok f) s' | .again c' => c' = .compLoop (e3 elt t0 i0 f0 t1 i1 f1 t2 i2 f2 scope pos) 0 it acc env ∧ ∃ m, m < n ∧ I m s') (notedBy (model p w) A env fun e s' => R (.error e) s') s := by
  show wpAny (model p w) A (standAt i0.pos >>= _) _ _ s
  refine wpAny_bind (wpAny_standAt (wpAny_bind (up h fun r s1 h1 => ?_)))
  cases r with
  | none => exact wpAny_pure h1
  | some v =>
    refine wpAny_bind (up h1 fun _ s2 h2 => wpAny_bind (up h2 fun _ s3 h3 => wpAny_bind (up h3 fun ok s4 h4 => ?_)))
    cases ok with
    | false => exact wpAny_pure ⟨rfl, h4⟩
    | true =>
      refine wpAny_bind (up h4 fun x s5 h5 => wpAny_bind (wpAny_standAt (wpAny_bind (wpAny_of_eq (hs x) (wpAny_bind (wpAny_holding (up h5 fun it1 s6 h6 => wpAny_bind (wpAny_runOwn ?_))))))))
      rw [Around.mark_none]
      refine codeAny_mono h6 fun r s' hr => ?_
      cases r with
      | ok f =>
        first
          | exact wpAny_pure ⟨rfl, hr⟩
          | exact wpAny_bind (wpAny_pure (wpAny_pure ⟨rfl, hr⟩))
      | error e => exact hr.elim
theorem turn1 {R : Result → Shared → Prop} {I : Nat → Shared → Prop} {n : Nat} (hs : ∀ x, foldedSetIterable i2 env x = pure x)
    (h : TurnW p w A t1 f1 it env (BMid p w A (e3 elt t0 i0 f0 t1 i1 f1 t2 i2 f2 scope pos) 2 i2 acc env) (fun s => R (.ok .next) s) (fun s => ∃ m, m < n ∧ I m s) s) :
    wpAny (model p w) A (compTurn (e3 elt t0 i0 f0 t1 i1 f1 t2 i2 f2 scope pos) 1 it acc env) (fun fin s' => match fin with | .done f => R (.ok f) s' | .again c' => c' = .compLoop (e3 elt t0 i0 f0 t1 i1 f1 t2 i2 f2 scope pos) 1 it acc env ∧ ∃ m, m < n ∧ I m s') (notedBy (model p w) A env fun e s' => R (.error e) s') s := by
  show wpAny (model p w) A (standAt i1.pos >>= _) _ _ s
  refine wpAny_bind (wpAny_standAt (wpAny_bind (up h fun r s1 h1 => ?_)))
  cases r with
  | none => exact wpAny_pure h1
  | some v =>
    refine wpAny_bind (up h1 fun _ s2 h2 => wpAny_bind (up h2 fun _ s3 h3 => wpAny_bind (up h3 fun ok s4 h4 => ?_)))
    cases ok with
    | false => exact wpAny_pure ⟨rfl, h4⟩
    | true =>
      refine wpAny_bind (up h4 fun x s5 h5 => wpAny_bind (wpAny_standAt (wpAny_bind (wpAny_of_eq (hs x) (wpAny_bind (wpAny_holding (up h5 fun it1 s6 h6 => wpAny_bind (wpAny_runOwn ?_))))))))
      rw [Around.mark_none]
      refine codeAny_mono h6 fun r s' hr => ?_
      cases r with
      | ok f =>
        first
          | exact wpAny_pure ⟨rfl, hr⟩
          | exact wpAny_bind (wpAny_pure (wpAny_pure ⟨rfl, hr⟩))
      | error e => exact hr.elim
theorem turn2 {R : Result → Shared → Prop} {I : Nat → Shared → Prop} {n : Nat}
    (h : TurnW p w A t2 f2 it env (BIn p w A elt acc env) (fun s => R (.ok .next) s) (fun s => ∃ m, m < n ∧ I m s) s) :
    wpAny (model p w) A (compTurn (e3 elt t0 i0 f0 t1 i1 f1 t2 i2 f2 scope pos) 2 it acc env) (fun fin s' => match fin with | .done f => R (.ok f) s' | .again c' => c' = .compLoop (e3 elt t0 i0 f0 t1 i1 f1 t2 i2 f2 scope pos) 2 it acc env ∧ ∃ m, m < n ∧ I m s') (notedBy (model p w) A env fun e s' => R (.error e) s') s := by
  show wpAny (model p w) A (standAt i2.pos >>= _) _ _ s
  refine wpAny_bind (wpAny_standAt (wpAny_bind (up h fun r s1 h1 => ?_)))
  cases r with
  | none => exact wpAny_pure h1
  | some v =>
    refine wpAny_bind (up h1 fun _ s2 h2 => wpAny_bind (up h2 fun _ s3 h3 => wpAny_bind (up h3 fun ok s4 h4 => ?_)))
    cases ok with
    | false => exact wpAny_pure ⟨rfl, h4⟩
    | true => exact wpAny_bind (wpAny_bind (up h4 fun x s5 h5 => wpAny_bind (up h5 fun _ s6 h6 => wpAny_pure (wpAny_pure ⟨rfl, h6⟩))))
/-- the loops, each over its body -/
theorem loop0 {R : Result → Shared → Prop} (hs : ∀ x, foldedSetIterable i1 env x = pure x) (I : Nat → Shared → Prop)
    (h : ∀ n s, I n s → TurnW p w A t0 f0 it env (BMid p w A (e3 elt t0 i0 f0 t1 i1 f1 t2 i2 f2 scope pos) 1 i1 acc env) (fun s => R (.ok .next) s) (fun s => ∃ m, m < n ∧ I m s) s) (n : Nat) (hI : I n s) :
    codeAny (model p w) A (.compLoop (e3 elt t0 i0 f0 t1 i1 f1 t2 i2 f2 scope pos) 0 it acc env) R s :=
  codeAny_loop rfl I (fun n s hI => (show wpAny (model p w) A ((compTurn (e3 elt t0 i0 f0 t1 i1 f1 t2 i2 f2 scope pos) 0 it acc env).onRaise (fun x => do noteFrame x env; theTreesLotGoes x)) _ _ s from wpAny_noted (turn0 hs (h n s hI)))) n hI
theorem loop1 {R : Result → Shared → Prop} (hs : ∀ x, foldedSetIterable i2 env x = pure x) (I : Nat → Shared → Prop)
    (h : ∀ n s, I n s → TurnW p w A t1 f1 it env (BMid p w A (e3 elt t0 i0 f0 t1 i1 f1 t2 i2 f2 scope pos) 2 i2 acc env) (fun s => R (.ok .next) s) (fun s => ∃ m, m < n ∧ I m s) s) (n : Nat) (hI : I n s) :
    codeAny (model p w) A (.compLoop (e3 elt t0 i0 f0 t1 i1 f1 t2 i2 f2 scope pos) 1 it acc env) R s :=
  codeAny_loop rfl I (fun n s hI => (show wpAny (model p w) A ((compTurn (e3 elt t0 i0 f0 t1 i1 f1 t2 i2 f2 scope pos) 1 it acc env).onRaise (fun x => do noteFrame x env; theTreesLotGoes x)) _ _ s from wpAny_noted (turn1 hs (h n s hI)))) n hI
theorem loop2 {R : Result → Shared → Prop} (I : Nat → Shared → Prop)
    (h : ∀ n s, I n s → TurnW p w A t2 f2 it env (BIn p w A elt acc env) (fun s => R (.ok .next) s) (fun s => ∃ m, m < n ∧ I m s) s) (n : Nat) (hI : I n s) :
    codeAny (model p w) A (.compLoop (e3 elt t0 i0 f0 t1 i1 f1 t2 i2 f2 scope pos) 2 it acc env) R s :=
  codeAny_loop rfl I (fun n s hI => (show wpAny (model p w) A ((compTurn (e3 elt t0 i0 f0 t1 i1 f1 t2 i2 f2 scope pos) 2 it acc env).onRaise (fun x => do noteFrame x env; theTreesLotGoes x)) _ _ s from wpAny_noted (turn2 (h n s hI)))) n hI
/-- an inner loop's start, at the second and at the third clause -/
theorem start1 {R : Result → Shared → Prop} (h0 : codeAny (model p w) A (.compLoop (e3 elt t0 i0 f0 t1 i1 f1 t2 i2 f2 scope pos) 1 it acc env) R s)
    (h : wpAny (model p w) A (pyIter it) (fun it' s' => codeAny (model p w) A (.compLoop (e3 elt t0 i0 f0 t1 i1 f1 t2 i2 f2 scope pos) 1 it' acc env) R s') (notedBy (model p w) A env fun x s' => R (.error x) s') s) :
    codeAny (model p w) A (.compStart (e3 elt t0 i0 f0 t1 i1 f1 t2 i2 f2 scope pos) 1 it acc env) R s := by
  refine codeAny_of_tree (show wpAny (model p w) _ ((compStart (e3 elt t0 i0 f0 t1 i1 f1 t2 i2 f2 scope pos) 1 it acc env).onRaise (fun x => do noteFrame x env; standAt theWindowsPlace)) _ _ s from wpAny_notedAt ?_)
  unfold compStart
  refine (show wpAny (model p w) _ (ask >>= _) _ _ s from wpAny_bind (wpAny_askSetting (wpAny_ite ?_)))
  split
  · first
      | exact wpAny_pure (And.intro rfl h0)
      | exact wpAny_bind (wpAny_pure (wpAny_pure (And.intro rfl h0)))
  · refine wpAny_bind (wpAny_rule (show wpAny (model p w) _ (standAt i1.pos >>= _) _ _ s from wpAny_bind (wpAny_standAt (wpAny_bind (wpAny_mono h (fun it' s' h' => wpAny_pure (And.intro rfl h')) fun _ _ x => x)))))
theorem start2 {R : Result → Shared → Prop} (h0 : codeAny (model p w) A (.compLoop (e3 elt t0 i0 f0 t1 i1 f1 t2 i2 f2 scope pos) 2 it acc env) R s)
    (h : wpAny (model p w) A (pyIter it) (fun it' s' => codeAny (model p w) A (.compLoop (e3 elt t0 i0 f0 t1 i1 f1 t2 i2 f2 scope pos) 2 it' acc env) R s') (notedBy (model p w) A env fun x s' => R (.error x) s') s) :
    codeAny (model p w) A (.compStart (e3 elt t0 i0 f0 t1 i1 f1 t2 i2 f2 scope pos) 2 it acc env) R s := by
  refine codeAny_of_tree (show wpAny (model p w) _ ((compStart (e3 elt t0 i0 f0 t1 i1 f1 t2 i2 f2 scope pos) 2 it acc env).onRaise (fun x => do noteFrame x env; standAt theWindowsPlace)) _ _ s from wpAny_notedAt ?_)
  unfold compStart
  refine (show wpAny (model p w) _ (ask >>= _) _ _ s from wpAny_bind (wpAny_askSetting (wpAny_ite ?_)))
  split
  · first
      | exact wpAny_pure (And.intro rfl h0)
      | exact wpAny_bind (wpAny_pure (wpAny_pure (And.intro rfl h0)))
  · refine wpAny_bind (wpAny_rule (show wpAny (model p w) _ (standAt i2.pos >>= _) _ _ s from wpAny_bind (wpAny_standAt (wpAny_bind (wpAny_mono h (fun it' s' h' => wpAny_pure (And.intro rfl h')) fun _ _ x => x)))))
end
abbrev TB := St → Hp → (Hp → Prop) → Prop
/-- a body that leaves the slots outside vs as they were -/
def PBd (Y : Cx) (vs : List Nat) (B : (Shared → Prop) → Shared → Prop) (t : TB) : Prop := ∀ (pins : List (Addr × Obj)) (s : Shared) (σ : St) (H : Hp) (Nx : Hp → Prop) (Q : Shared → Prop), Inv Y pins σ H s → t σ H Nx →
  (∀ σ' H' s', Inv Y pins σ' H' s' → σ.length = σ'.length → (∀ (j : Nat) v, j ∉ vs → σ[j]? = some (some v) → σ'[j]? = some (some v)) → Nx H' → Q s') → B Q s
def tApp (te : TE) (D : Addr) : TB := fun σ H Nx => te σ H fun y H1 => ∃ acc, H1 D = some (.lst acc) ∧ acc.length < sizeLine ∧ Nx (upd H1 D (.lst (acc ++ [y])))
/-- a loop over a body -/
def tTurns (J : It) (g : TG) (tt : TT) (b : TB) (vs : List Nat) (σ : St) (H : Hp) (Nx : Hp → Prop) : Prop := ∃ W : Nat → Nat → Hp → Prop, (∃ m, W 0 m H) ∧ ∀ i m H, W i m H →
  (J.stop i H ∧ Nx H) ∨ (J.go i H ∧ ∃ Nx1 : Hp → Prop, (∀ H', Nx1 H' → ∃ m', m' < m ∧ W (i + 1) m' H') ∧ ∀ x H', J.yld i H x H' → g x (wipe σ vs) H' fun σ2 H2 => wipe σ2 vs = wipe σ vs ∧ tt σ2 H2 fun ok H3 => if ok = true then b σ2 H3 Nx1 else Nx1 H3)
def tFor (wi : TI) (g : TG) (tt : TT) (b : TB) (vs : List Nat) : TB := fun σ H Nx => wi σ H fun J H1 => tTurns J g tt b vs σ H1 Nx
section
variable {Y : Cx} {elt tg : Expr} {te : TE} {D : Addr} {g : TG} {tt : TT} {fs : List Expr} {b : TB} {B : (Shared → Prop) → Shared → Prop} {vs vb : List Nat}
theorem pe_run (hx : Y.xe = Fz) (he : PE Y elt te) {pins : List (Addr × Obj)} {s : Shared} {σ : St} {H : Hp} {Q : VK} (I : Inv Y pins σ H s) (h : te σ H Q) : ∀ {k : Value → Shared → Prop}, (∀ v s', (∃ x H', Inv Y pins σ H' s' ∧ RelV x v ∧ Q x H') → k v s') → WP Y.prog Y.w Y.A (eval elt Y.env) k s := fun {k} hk =>
  wpAny_mono (he.run pins s σ H Q I h) (fun v s' z => hk v s' z) fun v s' z => by rw [hx] at z; exact z
theorem bd_in (hx : Y.xe = Fz) (he : PE Y elt te) : PBd Y vb (BIn Y.prog Y.w Y.A elt (.ref D) Y.env) (tApp te D) := fun pins s σ H Nx Q I h k =>
  pe_run hx he I h fun v s1 ⟨x, H1, I1, r1, acc, hD, hz, nx⟩ => app_ok I1 hD hz r1 fun s2 I2 => k σ _ s2 I2 rfl (fun _ _ _ e => e) nx
/-- the turns of a loop, by what they leave -/
theorem turns (hx : Y.xe = Fz) (hc : Y.calm = true) (pg : PG Y tg g) (pt : PTs Y fs tt) (hb : PBd Y vb B b) (hv : ∀ i ∈ vb, i ∈ vs) {J : It} {fp : List Addr} {it : Addr} {tn : Nat → Heap → Prop} {pins : List (Addr × Obj)} {σ : St} {NxO : Hp → Prop} {Out : Shared → Prop} {W : Nat → Nat → Hp → Prop}
    (T : Turn Y.prog Y.w Y.K tg J fp it tn) (stat : ∀ σ' H' s', Inv Y pins σ' H' s' → (∀ b ∈ fp, H' b = none) → ∀ b ∈ fp, FpOk Y pins H' b)
    (step : ∀ i m H, W i m H → (J.stop i H ∧ NxO H) ∨ (J.go i H ∧ ∃ Nx1 : Hp → Prop, (∀ H', Nx1 H' → ∃ m', m' < m ∧ W (i + 1) m' H') ∧ ∀ x H', J.yld i H x H' → g x (wipe σ vs) H' fun σ2 H2 => wipe σ2 vs = wipe σ vs ∧ tt σ2 H2 fun ok H3 => if ok = true then b σ2 H3 Nx1 else Nx1 H3))
    (out : ∀ s' H', Inv Y pins (wipe σ vs) H' s' → NxO H' → Out s') (n : Nat) (s : Shared) : (∃ i H', Inv Y pins (wipe σ vs) H' s ∧ tn i s.heap ∧ (∀ b ∈ fp, H' b = none) ∧ W i n H') →
    TurnW Y.prog Y.w Y.A tg fs (.ref it) Y.env B Out (fun s => ∃ m, m < n ∧ ∃ i H', Inv Y pins (wipe σ vs) H' s ∧ tn i s.heap ∧ (∀ b ∈ fp, H' b = none) ∧ W i m H') s := by
  rintro ⟨i, H1, I1, t1, n1, w1⟩
  rcases step i n H1 w1 with ⟨st, nx⟩ | ⟨go, Nx1, hN, body⟩
  · refine up (T.done Y rfl rfl rfl hc i pins s _ H1 Fz I1 (stat _ _ _ I1 n1) t1 st) ?_
    rintro r s2 ⟨rfl, I2⟩
    exact out s2 H1 I2 nx
  · refine up (T.item Y rfl rfl rfl hc i pins s _ H1 Fz I1 (stat _ _ _ I1 n1) t1 go) ?_
    rintro r s2 ⟨u, rfl, h2⟩
    refine up h2 fun _ s3 ⟨x, H3, I3, r3, y3, t3, n3⟩ => ?_
    have P3 := I3.pinned (stat _ _ _ I3 n3) (T.obj _ _ t3)
    have gw := wpAny_mono (pg.run _ s3 _ H3 x u _ P3 r3 (body x H3 y3)) (fun _ _ z => z) (fun v s' (z : Y.xe v s') => show Fz v s' by rw [hx] at z; exact z)
    refine up gw fun _ s4 ⟨σ4, H4, I4, hw, q4⟩ => ?_
    have tw := wpAny_mono (pt.run _ s4 σ4 H4 _ I4 q4) (fun _ _ z => z) (fun v s' (z : Y.xe v s') => show Fz v s' by rw [hx] at z; exact z)
    have len : (wipe σ vs).length = σ4.length := by rw [← hw, wipe_length]
    have again : ∀ {σ5 : St} {H5 : Hp} {s5 : Shared}, Inv Y (pins ++ pinsAt fp s3.heap) σ5 H5 s5 → (wipe σ vs).length = σ5.length → (∀ (j : Nat) v, (wipe σ vs)[j]? = some (some v) → σ5[j]? = some (some v)) → Nx1 H5 → ∃ m, m < n ∧ ∃ i H', Inv Y pins (wipe σ vs) H' s5 ∧ tn i s5.heap ∧ (∀ b ∈ fp, H' b = none) ∧ W i m H' := by
      intro σ5 H5 s5 I5 l5 k5 nx5
      obtain ⟨m', lt, w'⟩ := hN H5 nx5
      have held : ∀ a ∈ fp, ∀ o, s3.heap.get? a = some o → s5.heap.get? a = some o ∧ H5 a = none := fun a ha o eo => by
        have z := I5.pin (a, o) (List.mem_append_right _ (List.mem_append_right _ (mem_pinsAt ha eo)))
        exact ⟨z.1, z.2.1⟩
      refine ⟨m', lt, i + 1, H5, I5.unpinned.weak l5 k5, T.keep _ _ _ t3 fun a ha o eo => (held a ha o eo).1, fun a ha => ?_, w'⟩
      obtain ⟨o, eo, _⟩ := T.obj _ _ t3 a ha
      exact (held a ha o eo).2
    have k4 : ∀ (j : Nat) v, (wipe σ vs)[j]? = some (some v) → σ4[j]? = some (some v) ∧ j ∉ vs := fun j v z => wipe_some (by rw [hw]; exact z)
    refine up tw fun ok s5 ⟨H5, I5, q5⟩ => ?_
    cases ok with
    | false => exact again I5 len (fun j v z => (k4 j v z).1) (by simpa using q5)
    | true =>
      rw [if_pos rfl] at q5 ⊢
      exact hb _ s5 σ4 H5 Nx1 _ I5 q5 fun σ' H' s' I' l' kp nx' => again I' (len.trans l') (fun j v z => kp j v (fun m => (k4 j v z).2 (hv j m)) (k4 j v z).1) nx'
/-- an inner loop is a body -/
theorem bd_for {e i : Expr} {d : Nat} {wi : TI} {acc : Value} (hx : Y.xe = Fz) (hc : Y.calm = true) (hi : PI Y tg i wi) (pg : PG Y tg g) (pt : PTs Y fs tt) (hb : PBd Y vb B b) (hv : ∀ i ∈ vb, i ∈ vs)
    (hl : ∀ {R : Result → Shared → Prop} {it : Value} (I : Nat → Shared → Prop), (∀ n s, I n s → TurnW Y.prog Y.w Y.A tg fs it Y.env B (fun s => R (.ok .next) s) (fun s => ∃ m, m < n ∧ I m s) s) → ∀ n s, I n s → codeAny (model Y.prog Y.w) Y.A (.compLoop e d it acc Y.env) R s)
    (hs : ∀ {R : Result → Shared → Prop} {it : Value} {s : Shared}, codeAny (model Y.prog Y.w) Y.A (.compLoop e d it acc Y.env) R s → wpAny (model Y.prog Y.w) Y.A (pyIter it) (fun it' s' => codeAny (model Y.prog Y.w) Y.A (.compLoop e d it' acc Y.env) R s') (notedBy (model Y.prog Y.w) Y.A Y.env fun x s' => R (.error x) s') s → codeAny (model Y.prog Y.w) Y.A (.compStart e d it acc Y.env) R s) :
    PBd Y vs (BMid Y.prog Y.w Y.A e d i acc Y.env) (tFor wi g tt b vs) := by
  intro pins s σ H Nx Q I h k
  refine wpAny_mono (hi.run pins s σ H _ I h) (fun x s1 hx1 => wpAny_mono hx1 (fun itv s2 h2 => ?_) fun v s' z => ?_) fun v s' z => ?_
  · obtain ⟨it, fp, tn, J, H2, rfl, I2, T, t2, f2, W, ⟨m0, w0⟩, step⟩ := h2
    have run : codeAny (model Y.prog Y.w) Y.A (.compLoop e d (.ref it) acc Y.env) (fun r s3 => match r with | .ok _ => Q s3 | .error _ => False) s2 := by
      refine hl _ (fun n s hI => turns (Out := Q) hx hc pg pt hb hv T (fun σ' H' s' I' nn a ha => ⟨nn a ha, (f2 a ha).2⟩) step (fun s' H' I' nx => k (wipe σ vs) H' s' I' (wipe_length σ vs).symm (fun j v hj z => by rw [wipe_out hj]; exact z) nx) n s hI) m0 s2 ⟨0, H2, I2.weak (wipe_length σ vs) (fun j v z => (wipe_some z).1), t2, fun a ha => (f2 a ha).1, w0⟩
    exact hs run (T.self Y.A 0 _ _ _ t2 run)
  · rw [hx] at z; exact z
  · rw [hx] at z; exact z
end
section
variable {X : Cx} {elt t0 i0 t1 i1 t2 i2 : Expr} {f0 f1 f2 : List Expr} {scope : Scope} {own : List (Str × Nat)} {vs1 vs2 : List Nat} {pos : Pos} {w0 w1 w2 : TI} {g0 g1 g2 : TG} {c0 c1 c2 : TT} {te : TE}
/-- the block's three loops -/
theorem three {Y : Cx} {vs : List Nat} {D it : Addr} {J : It} {fp : List Addr} {tn : Nat → Heap → Prop} {σ : St} {H : Hp} {NxO : Hp → Prop} {R : Result → Shared → Prop} {s : Shared} (yx : Y.xe = Fz) (yc : Y.calm = true) (hv1 : ∀ i ∈ vs1, i ∈ vs) (hv2 : ∀ i ∈ vs2, i ∈ vs1)
    (a0 : PG Y t0 g0) (a1 : PTs Y f0 c0) (a2 : PI Y t1 i1 w1) (a3 : PG Y t1 g1) (a4 : PTs Y f1 c1) (a5 : PI Y t2 i2 w2) (a6 : PG Y t2 g2) (a7 : PTs Y f2 c2) (a8 : PE Y elt te) (hs1 : ∀ x, foldedSetIterable i1 Y.env x = pure x) (hs2 : ∀ x, foldedSetIterable i2 Y.env x = pure x)
    (T : Turn Y.prog Y.w Y.K t0 J fp it tn) (stat : ∀ σ' H' s', Inv Y [] σ' H' s' → (∀ b ∈ fp, H' b = none) → ∀ b ∈ fp, FpOk Y [] H' b) (q : tTurns J g0 c0 (tFor w1 g1 c1 (tFor w2 g2 c2 (tApp te D) vs2) vs1) vs σ H NxO)
    (I : Inv Y [] (wipe σ vs) H s) (ht : tn 0 s.heap) (hn : ∀ b ∈ fp, H b = none) (out : ∀ s' H', Inv Y [] (wipe σ vs) H' s' → NxO H' → R (.ok .next) s') :
    codeAny (model Y.prog Y.w) Y.A (.compLoop (e3 elt t0 i0 f0 t1 i1 f1 t2 i2 f2 scope pos) 0 (.ref it) (.ref D) Y.env) R s := by
  obtain ⟨W, ⟨m0, ww⟩, step⟩ := q
  have body2 : PBd Y [] (BIn Y.prog Y.w Y.A elt (.ref D) Y.env) (tApp te D) := bd_in yx a8
  have body1 : PBd Y vs2 (BMid Y.prog Y.w Y.A (e3 elt t0 i0 f0 t1 i1 f1 t2 i2 f2 scope pos) 2 i2 (.ref D) Y.env) (tFor w2 g2 c2 (tApp te D) vs2) := bd_for yx yc a5 a6 a7 body2 (fun i hi => nomatch hi) (fun I hI n s hn => loop2 I hI n hn) (fun p q => start2 p q)
  have body0 : PBd Y vs1 (BMid Y.prog Y.w Y.A (e3 elt t0 i0 f0 t1 i1 f1 t2 i2 f2 scope pos) 1 i1 (.ref D) Y.env) (tFor w1 g1 c1 (tFor w2 g2 c2 (tApp te D) vs2) vs1) := bd_for yx yc a2 a3 a4 body1 hv2 (fun I hI n s hn => loop1 hs2 I hI n hn) (fun p q => start1 p q)
  exact loop0 hs1 (fun n s' => ∃ i H', Inv Y [] (wipe σ vs) H' s' ∧ tn i s'.heap ∧ (∀ b ∈ fp, H' b = none) ∧ W i n H') (fun n s hI => turns yx yc a0 a1 body0 hv1 T stat step out n s hI) m0 ⟨0, H, I, ht, hn, ww⟩
end
end ZC

set_option Elab.async false
set_option maxRecDepth 100000
set_option maxHeartbeats 4000000
/-! L19: comprehensions with three fors. -/
namespace L3
open PySem PySem.Spec PyProof.Rows L2
section
variable {K : PySem.W.Frag} {B : Base3}
end
section
variable {X : Cx} {B : Base3}
end
end L3

set_option Elab.async false
set_option maxRecDepth 100000
set_option maxHeartbeats 4000000
/-! L20: found[i] += e, found a list that its name owns, of whole numbers. -/
namespace L3
open PySem PySem.Spec PyProof.Rows L2
end L3

set_option Elab.async false
set_option maxRecDepth 100000
set_option maxHeartbeats 4000000
/-! L21: str(x), x an instance whose class has a __str__ of its own. -/
namespace L3
open PySem PySem.Spec PyProof.Rows L2
section
variable {X : Cx} {B : Base3}
def rStrOwn (C : Addr) (sp : Sp) (E : XK) : List V → Hp → VK → Prop := fun xs H Q => ∃ a dx vs, xs = [V.ref a] ∧ SlX.Slt H a C dx vs ∧ sp [.ref a] H (fun z H' => ∃ y, z = .str y ∧ Q z H') E
theorem call_strOwn {CX : CXT} {C g : Addr} {n : Nat} {sp : Sp} {E : XK} (hs : PySem.W.findIn X.K (.ref C) "__str__" = some (some (.ref g))) (hf : PySem.W.isFn X.K (.ref g) = true) (F : FnR X.prog X.w X.K X.mg X.base CX n g sp) (hr : Room (n + 2) X.A) (hx : Passes CX X E) : CallR X (.type "str") (rStrOwn C sp E) := by
  intro pins s σ H xs us Q I r h
  obtain ⟨a, dx, vs, rfl, hsl, q⟩ := h
  obtain ⟨u, rfl, ru⟩ := r.one
  cases (show u = Value.ref a from ru)
  obtain ⟨sl, od, _, J, _⟩ := SlX.slt_inst I hsl
  have hr2 : Room n X.A.in1.in1 := (show Room (n + 1) X.A.in1 from Room.in1 hr).in1
  refine PySem.W.kso_call hr2.units0 I.kIn J hs hf (wpAny_mono (wpAny_call (SlX.run_at (us := [.ref a]) (ws := [.ref a]) F hr2 I.env0.in1.in1 hx I (.cons rfl .nil) q)) (fun w s' z => ?_) fun _ _ x => x)
  obtain ⟨z', H', I', rz, y, ey, qz⟩ := z
  subst ey
  obtain ⟨t, e⟩ := (show ∃ t, w = Value.str y t from rz)
  cases e
  exact ⟨.str y, H', I', ⟨t, rfl⟩, qz⟩
def dStrO (nm : Str) (sp : DSp) (ta : DA) : DE := fun E G k => ta E G fun ds E1 G1 => ∃ fs, ds = [.obj nm fs] ∧ sp [.obj nm fs] G1 (fun r G2 => ∃ y, r = .val (.str y) ∧ k r E1 G2) (fun _ _ => False)
theorem le_strO {nm : Str} {k j : Nat} {sp : DSp} {e : Expr} {ta : DA} {p0 pos : Pos} (p : Meth3 X.prog X.w X.K X.mg X.base nm "__str__" k sp) (hr : Room j X.A) (hk : k + 2 ≤ j) (hg : Gl X "str") (hm : X.mg "str" = none) (ha : LP X B [e] ta)
    (he : starEach [e] X.env = (false, eval e X.env) :: starEach [] X.env := by rfl) (hpl : (backTo pos (starEach [] X.env)).any (·.1) = false := by rfl) : LE X B (.Call (.Name "str" p0) [e] [] pos) (dStrO nm sp ta) := by
  obtain ⟨C, g, fd, ps, hC, sc, M, Fn, hbd⟩ := p.ex
  refine ⟨pe_imp (pe_callTy (call_strOwn (E := fun _ _ _ => False) M.at_ M.fn (Fn.raw hbd .nil) (hr.mono hk) passF) hg hm rfl ha.pa (by decide) (by decide) he hpl) fun σ H Q ⟨pn, F, E, G, k', S, ht, hk'⟩ => ⟨pn, F, E, G, _, S, ht, fun ds E1 G1 ⟨fs, ed, h1⟩ vs F1 H1 S1 s1 r1 => ?_⟩⟩
  subst ed
  cases r1 with
  | cons r rr =>
    cases rr
    obtain ⟨a1, C1, dx, xs, rfl, hC1, hs1, ra⟩ := r.obj' S1.w.sub
    cases hC.eq hC1
    refine ⟨a1, dx, _, rfl, hs1, F1, G1, [.obj nm fs], _, _, S1.w, .cons ra .nil, h1, fun r' G' ⟨y, er, h3⟩ v F3 H3 A r3 => ?_, fun _ _ z => z.elim⟩
    subst er
    have r4 := S1.retR r3
    cases r4
    exact ⟨y, rfl, hk' _ _ _ h3 _ F3 H3 (S1.wldAfter A) (s1.trans A.keepF) (.str y)⟩
end
end L3

set_option Elab.async false
set_option maxRecDepth 100000
set_option maxHeartbeats 4000000
/-! L22: x != y of two instances whose class has an __eq__ of its own and no __ne__. -/
namespace L3
open PySem PySem.Spec PyProof.Rows L2
section
variable {prog : Program} {w : World} {A : Around} {E : Value → Shared → Prop} {s : Shared} {K : PySem.W.Frag} {x C L f : Addr} {h₀ : Heap} {m : Str → Option Value} {ox : Obj} {od : Option Obj} {b tb : Value}
theorem ifBound_B {M : Model} {name : Str} {id : String} {args : List Value} {Q : Option Value → Shared → Prop} (X : K.In s.heap) (I : PySem.W.InstAt s.heap x ox C od) (hs : PySem.W.findIn K (.ref C) name = some (some (.builtin id)))
    (hb : ∀ self, bindSpecial (.builtin id) self = pure (.builtin id, [self])) (h : wpAny M A (call (.builtin id) (.ref x :: args)) (fun v => Q (some v)) E s) : wpAny M A (callSpecialIfBound? (.ref x) name args) Q E s := by
  simp only [callSpecialIfBound?, bindSpecialIfBound?]
  refine wpAny_holding (wpAny_bind (wpAny_bind (wpAny_bind (I.type.here ((PySem.W.looks_findIn X hs).here ?_)))))
  refine wpAny_bind (wpAny_askSetting (wpAny_ite ?_))
  have fin : wpAny M A (call (.builtin id) ([.ref x] ++ args) >>= fun v => pure (some v)) Q E s := wpAny_bind (wpAny_mono h (fun v s' h' => wpAny_pure h') fun _ _ h' => h')
  split
  · exact wpAny_bind ((PySem.W.Looks.of_pure (hb _)).here (wpAny_pure (by exact fin)))
  · exact wpAny_tryCatch (wpAny_bind ((PySem.W.Looks.of_pure (hb _)).here (wpAny_pure (by exact fin))))
open Builtin in
/-- what __ne__ of object answers, by the own __eq__ -/
theorem ne_obj {Q : Value → Shared → Prop} (hu : A.in1.units < cLine) (X : K.In s.heap) (I : PySem.W.InstAt s.heap x ox C od) (hm : PySem.W.mroIn K C (.type "object") = some true) (he : PySem.W.findIn K (.ref C) "__eq__" = some (some (.ref f))) (hf : PySem.W.isFn K (.ref f) = true)
    (h : wpAny (model prog w) A.in1 (call (.ref f) [.ref x, b]) (fun v s' => ∃ c, v = .bool c ∧ Q (.bool (!c)) s') E s) : wpAny (model prog w) A (call (.builtin "object.__ne__") [.ref x, b]) Q E s := by
  refine wpAny_call (codeAny_call_builtin PySem.F.cmp_object.ne.plain PySem.F.entry_object_ne (PySem.W.check_slot (i := "object.__ne__") (owner := "object") (n := "__ne__") PySem.F.cmpKind_ne PySem.F.cmpSplit_ne (I.type.andThen (PySem.W.looks_mroIn X hm)) (PySem.F.args_object_ne_2 _ _) ?_))
  unfold Builtin.«object.__ne__»
  refine wpAny_bind (m := slotArgs "__ne__" 1 _) (wpAny_pure ?_)
  refine wpAny_bind (m := cRoomFor _ _) (wpAny_cRoomFor hu ?_)
  refine wpAny_bind (m := callSpecialIfBound? (.ref x) (Str.ofString "__eq__") _) (PySem.W.ifBound_K X I he hf (wpAny_mono h (fun v s' ⟨c, e, hq⟩ => ?_) fun _ _ y => y))
  subst e
  exact wpAny_bind (wpAny_pure (wpAny_pure hq))
theorem ne_K {Q : Value → Shared → Prop} (hu0 : A.units < cLine) (hu : A.in1.units < cLine) (F : Fr h₀ L s.heap m) (X₀ : K.In h₀) (I : PySem.W.InstAt s.heap x ox C od) (hb : PySem.W.Looks (model prog w) s.heap (typeOf b) tb) (hn : PySem.W.notFirst K C tb = true)
    (hs : PySem.W.findIn K (.ref C) "__ne__" = some (some (.builtin "object.__ne__"))) (hm : PySem.W.mroIn K C (.type "object") = some true) (he : PySem.W.findIn K (.ref C) "__eq__" = some (some (.ref f))) (hf : PySem.W.isFn K (.ref f) = true)
    (h : wpAny (model prog w) A.in1 (call (.ref f) [.ref x, b]) (fun v s' => ∃ c, v = .bool c ∧ Q (.bool (!c)) s') E s) : wpAny (model prog w) A (richCompare .NotEq (.ref x) b) Q E s := by
  have X := X₀.keeps F.keep
  have one : wpAny (model prog w) A (tryCompare (.ref x) "__ne__" b) (fun r s' => ∃ v, r = some v ∧ Q v s') E s := by
    unfold tryCompare
    refine wpAny_bind (ifBound_B X I hs (fun self => PySem.F.cmp_object.ne.bind self) (ne_obj (Q := fun v s' => ∃ c, v = .bool c ∧ Q v s') hu X I hm he hf (wpAny_mono h (fun v s' ⟨c, e, hq⟩ => ⟨c, e, _, rfl, hq⟩) fun _ _ y => y) |> fun z => wpAny_mono z (fun v s' ⟨c, e, hq⟩ => ?_) fun _ _ y => y))
    subst e
    exact wpAny_pure ⟨_, rfl, hq⟩
  unfold richCompare
  simp only [oneThing_ref]
  refine wpAny_holding (wpAny_bind (wpAny_cRoomFor hu0 ?_))
  refine wpAny_bind (I.type.here (wpAny_bind (hb.here ?_)))
  split
  · rename_i q
    have e : PySem.W.subIn K tb (.ref C) = some false := by
      rcases Bool.or_eq_true_iff.mp hn with e | e
      · rw [beq_iff_eq.mp e] at q; simp at q
      · exact beq_iff_eq.mp e
    refine wpAny_bind ((PySem.W.looks_subIn X e).here ?_)
    simp only [Bool.false_eq_true, if_false]
    refine wpAny_bind (wpAny_mono one (fun r s' z => ?_) fun _ _ e => e)
    obtain ⟨v, rfl, hq⟩ := z
    exact wpAny_pure hq
  · refine wpAny_bind (wpAny_pure ?_)
    simp only [Bool.false_eq_true, if_false]
    refine wpAny_bind (wpAny_mono one (fun r s' z => ?_) fun _ _ e => e)
    obtain ⟨v, rfl, hq⟩ := z
    exact wpAny_pure hq
end
section
variable {X : Cx} {B : Base3}
def rNeOwn (K : PySem.W.Frag) (C : Addr) (sp : Sp) (E : XK) : R2 := fun x y H Q => ∃ a dx vs b C' dy ws, x = .ref a ∧ y = .ref b ∧ SlX.Slt H a C dx vs ∧ SlX.Slt H b C' dy ws ∧ PySem.W.notFirst K C (.ref C') = true ∧ sp [x, y] H (fun z H' => ∃ c, z = .bl c ∧ Q (.bl (!c)) H') E
theorem op_neOwn {CX : CXT} {C g : Addr} {n : Nat} {sp : Sp} {E : XK} (hne : PySem.W.findIn X.K (.ref C) "__ne__" = some (some (.builtin "object.__ne__"))) (hm : PySem.W.mroIn X.K C (.type "object") = some true) (hs : PySem.W.findIn X.K (.ref C) "__eq__" = some (some (.ref g))) (hf : PySem.W.isFn X.K (.ref g) = true)
    (F : FnR X.prog X.w X.K X.mg X.base CX n g sp) (hr : Room (n + 1) X.A) (hx : Passes CX X E) : OpR X (compareOp .NotEq) (rNeOwn X.K C sp E) := by
  intro pins s σ H x y v u Q I rx ry h
  obtain ⟨a, dx, vs, b, C', dy, ws, rfl, rfl, ha, hb, hn, q⟩ := h
  cases (show v = Value.ref a from rx)
  cases (show u = Value.ref b from ry)
  obtain ⟨sl, od, _, J, _⟩ := SlX.slt_inst I ha
  obtain ⟨sl', od', _, J', _⟩ := SlX.slt_inst I hb
  obtain ⟨m, hF⟩ := I.fr
  have hr1 : Room n X.A.in1 := Room.in1 hr
  refine (show wpAny _ _ (richCompare .NotEq (.ref a) (.ref b)) _ _ _ from ne_K (tb := .ref C') hr.units0 hr1.units0 hF I.ok.mod.kin J J'.type hn hne hm hs hf ?_)
  refine wpAny_mono (wpAny_call (SlX.run_at (us := [.ref a, .ref b]) (ws := [.ref a, .ref b]) F hr1 I.env0.in1 hx I (.cons rfl (.cons rfl .nil)) q)) (fun w s' z => ?_) fun _ _ x => x
  obtain ⟨z', H', I', rz, c, ec, qz⟩ := z
  subst ec
  cases (show w = Value.bool c from rz)
  exact ⟨c, rfl, .bl (!c), H', I', rfl, qz⟩
structure Ne3 (K : PySem.W.Frag) (nm : Str) : Prop where
  ex : ∃ C, ClsN K nm C ∧ PySem.W.findIn K (.ref C) "__ne__" = some (some (.builtin "object.__ne__")) ∧ PySem.W.mroIn K C (.type "object") = some true
def dNeO (nm : Str) (sp : DSp) (ta tb : DE) : DE := fun E G k => ta E G fun x E1 G1 => tb E1 G1 fun y E2 G2 =>
  ∃ fs, x.fz.get E2 = some (.obj nm fs) ∧ ∃ gs, y.get E2 = some (.obj nm gs) ∧ sp [.obj nm fs, .obj nm gs] G2 (fun r G3 => ∃ c, r = .val (.bl c) ∧ k (.val (.bl (!c))) E2 G3) (fun _ _ => False)
theorem neO_core {nm : Str} {sp : DSp} {ta tb : DE} {C : Addr} (hC : ClsN X.K nm C) {σ : L2.St} {H : Hp} {Q : VK} (h : Lift X.K B (dNeO nm sp ta tb) σ H Q) :
    tOp (rNeOwn X.K C (fun vs H Q E => LSp X.K sp (vs ++ []) H Q E) (fun _ _ _ => False)) (Lift X.K B ta) (Lift X.K B tb) σ H Q := by
  obtain ⟨pn, F, E, G, k, S, ht, hk⟩ := h
  refine ⟨pn, F, E, G, _, S, ht, fun x E1 G1 h1 v F1 H1 S1 s1 r1 => ?_⟩
  obtain ⟨F1', S1', s1', r1'⟩ := S1.fz r1
  refine ⟨pn, F1', E1, G1, _, S1', h1, fun y E2 G2 ⟨fs, hx, gs, hy, h2⟩ u F2 H2 S2 s2 r2 => ?_⟩
  obtain ⟨a1, C1, dx, xs, rfl, hC1, hs1, ra⟩ := (S2.getH (r1'.onward s2) hx).obj' S2.w.sub
  obtain ⟨b1, C2, dy, ys, rfl, hC2, hs2, rb⟩ := (S2.getH r2 hy).obj' S2.w.sub
  cases hC.eq hC1
  cases hC.eq hC2
  refine ⟨a1, dx, _, b1, _, dy, _, rfl, rfl, hs1, hs2, notFirst_self _ _, F2, G2, [.obj nm fs, .obj nm gs], _, _, S2.w, .cons ra (.cons rb .nil), h2, fun r' G' ⟨c, er, h3⟩ v F3 H3 A r3 => ?_, fun _ _ z => z.elim⟩
  subst er
  have r4 := S2.retR r3
  cases r4
  exact ⟨c, rfl, hk _ _ _ h3 _ F3 H3 (S2.wldAfter A) (((s1.trans s1').trans s2).trans A.keepF) (.bl _)⟩
theorem lt_neO {nm : Str} {k j : Nat} {sp : DSp} {a b : Expr} {ta tb : DE} {pos : Pos} (p : Meth3 X.prog X.w X.K X.mg X.base nm "__eq__" k sp) (q : Ne3 X.K nm) (hr : Room j X.A) (hk : k + 1 ≤ j) (ha : LE X B a ta) (hb : LE X B b tb) : LT X B (.Compare a [.NotEq] [b] pos) (dTest (dNeO nm sp ta tb)) := by
  obtain ⟨C, g, fd, ps, hC, sc, M, Fn, hbd⟩ := p.ex
  obtain ⟨C', hC', hne, hm⟩ := q.ex
  cases hC.eq hC'
  refine ⟨pt_imp (pt_cmpR (op_neOwn (E := fun _ _ _ => False) hne hm M.at_ M.fn (Fn.raw hbd .nil) (hr.mono hk) passF) ha.pe hb.pe (nomark _)) fun σ H Q ⟨pn, F, E, G, k', S, ht, hk'⟩ => ?_⟩
  refine neO_core (Q := fun x H' => ∃ k, x = .bl k ∧ Q k H') hC ⟨pn, F, E, G, _, S, ht, fun r E1 G1 ⟨b, e1, h1⟩ v F1 H1 S1 s1 r1 => ?_⟩
  subst e1
  cases r1
  exact ⟨b, rfl, hk' _ _ _ h1 F1 H1 S1 s1⟩
end
theorem ne3_mk {K : PySem.W.Frag} {nm : Str} {C : Addr} (a : PySem.W.nsIn K mainGlobals nm = some (some (.ref C))) (hne : PySem.W.findIn K (.ref C) "__ne__" = some (some (.builtin "object.__ne__"))) (cm : PySem.W.mroIn K C (.type "object") = some true) : Ne3 K nm := ⟨C, a, hne, cm⟩
end L3

set_option Elab.async false
set_option maxRecDepth 100000
set_option maxHeartbeats 4000000
/-! L23: a, b, .. = a list of that length. -/
namespace L3
open PySem PySem.Spec PyProof.Rows L2
variable {X : Cx} {B : Base3}
end L3

set_option Elab.async false
set_option maxRecDepth 100000
set_option maxHeartbeats 4000000
/-! L44: a call of a local name that holds a def of the text (told by its name as .cls). -/
namespace L3
open PySem PySem.Spec PyProof.Rows L2
section
variable {X : Cx} {CX : CXT} {k i : Nat} {f : Addr} {fd : FuncData} {ps : List Str} {sp : Sp} {E : L2.St → XK} {x : Str} {e : Expr} {es : List Expr} {t : TA} {p pos : Pos}
end
section
variable {X : Cx} {B : Base3}
end
end L3

set_option Elab.async false
set_option maxRecDepth 100000
set_option maxHeartbeats 4000000
/-! L53: classmethods: C.m(..), C a class of the text; cls(..), cls a local name that holds a class. -/
namespace L3
open PySem PySem.Spec PyProof.Rows L2
/-- what the head tells of a classmethod -/
structure ClmAt (K : PySem.W.Frag) (nm m qual : Str) (st : Stmt) : Prop where
  ex : ∃ (C p f : Addr) (oc : Value) (od an : Option Addr) (osl : Array (Option Value)) (kV doc pm cdv ct : Value), ClsN K nm C ∧ ClX.CRead K C (.type "type") ∧ ClX.CMet K C (.type "type") m p f ∧
    K.lookup f = some ⟨oc, od, .func (PySem.W.fnOf m qual (defArgs st) (defBody st) (defScope st) .none kV doc pm an cdv ct), osl⟩ ∧ PySem.W.codeIn K cdv qual = true ∧ PySem.W.keepIn K (.ref f) = true
theorem clmAt_mk {K : PySem.W.Frag} {nm m qual : Str} {st : Stmt} {C p f : Addr} {rest : List Value} {oc : Value} {od an : Option Addr} {osl : Array (Option Value)} {kV doc pm cdv ct : Value} (a : PySem.W.nsIn K mainGlobals nm = some (some (.ref C)))
    (rd : PySem.W.readsIn K C (.type "type") = true) (ga : PySem.W.specialIn K (.ref C) "__getattribute__" = some (some (.builtin "type.__getattribute__")))
    (fc : PySem.W.findCls K (.ref C) (.type "type") m = some (.get (.builtin "classmethod.__get__") (.ref p) .none (.ref C))) (rc : PySem.W.recIn K p "classmethod" = some (.ref f :: rest)) (fi : PySem.W.fnIn K f = true)
    (l : K.lookup f = some ⟨oc, od, .func (PySem.W.fnOf m qual (defArgs st) (defBody st) (defScope st) .none kV doc pm an cdv ct), osl⟩) (cd : PySem.W.codeIn K cdv qual = true) (kp : PySem.W.keepIn K (.ref f) = true) : ClmAt K nm m qual st :=
  ⟨C, p, f, oc, od, an, osl, kV, doc, pm, cdv, ct, a, ⟨rd, ga⟩, ⟨fc, ⟨rest, rc⟩, fi⟩, l, cd, kp⟩
section
variable {P : Program} {w : World} {K : PySem.W.Frag} {mg : Str → Option Value} {base : Heap}
/-- a classmethod of the class of that name; the class itself is its first argument -/
structure CMeth3 (P : Program) (w : World) (K : PySem.W.Frag) (mg : Str → Option Value) (base : Heap) (nm m : Str) (k : Nat) (sp : DSp) : Prop where
  ex : ∃ (C p g : Addr) (fd : FuncData) (ps : List Str), ClsN K nm C ∧ ClX.CRead K C (.type "type") ∧ ClX.CMet K C (.type "type") m p g ∧ FnOk P w K mg base (L2.CX P w) k g fd ps (LSp K sp) ∧ Binds K fd ps []
theorem cmeth3 {nm m qual : Str} {st : Stmt} {k : Nat} {ps N : List Str} {sp : DSp} (d : ClmAt K nm m qual st)
    (hb : ∀ (kV doc pm : Value) (an : Option Addr) (cdv ct : Value) (us : List Value), us.length = ps.length → bindArgs (PySem.W.fnOf m qual (defArgs st) (defBody st) (defScope st) .none kV doc pm an cdv ct) ⟨us, []⟩ = pure (ps.zip us))
    (S : FnScope N ps (defScope st)) (len : ∀ ds G q e, sp ds G q e → ds.length = ps.length)
    (body : ∀ (f : Addr) (cdv : Value) (A : Around) (outer : List Env) (s : Shared) (H : Hp) (E : XK) (B : Base3) (dw : Exc3 → Reg → Prop), Room k (A.deeper (envOfC qual (defScope st) s.heap.objs.size f cdv)) →
      WOkL (cxOf (L2.CX P w) P w K mg base N qual (defScope st) f cdv A outer s H E) B (fun x _ G => dw x G) →
      ∃ t : DSt, LSs (cxOf (L2.CX P w) P w K mg base N qual (defScope st) f cdv A outer s H E) B (defBody st) t ∧ ∀ ds G q, sp ds G q dw → t { nx := fun _ G' => q (.val .non) G', rt := q } (start3 N ds) G) :
    CMeth3 P w K mg base nm m (k + 1) sp := by
  obtain ⟨C, p, f, oc, od, an, osl, kV, doc, pm, cdv, ct, hC, r, c, l, cd, kp⟩ := d.ex
  have F := fun_mk (st := st) l cd kp
  exact ⟨C, p, f, _, ps, hC, r, c, ok3 F S len (fun cdv A outer s H E B dw hr wk => body f cdv A outer s H E B dw hr wk), F.binds hb⟩
end
def dCMeth (nm : Str) (sp : DSp) (dw : DW) (to : DE) (ta : DA) : DE := fun E G k => to E G fun x E1 G1 => x.get E1 = some (.cls nm) ∧ ta E1 G1 fun ds E2 G2 => sp (.cls nm :: ds) G2 (fun r G3 => k r E2 G3) (fun x G3 => dw x E2 G3)
def dMakeV (nm : Str) (i : Nat) (sp : DSpI) (dw : DW) (ta : DA) : DE := fun E G k => E[i]? = some (.val (.cls nm)) ∧ ta E G fun ds E1 G1 => sp ds G1 (fun fs G2 => k (.val (.obj nm fs)) E1 G2) (fun x G2 => dw x E1 G2)
section
variable {X : Cx} {B : Base3}
theorem le_cmeth {nm m : Str} {k j : Nat} {sp : DSp} {dw : DW} {o e : Expr} {es : List Expr} {to : DE} {ta : DA} {pos apos : Pos} {pl : Sem Bool} (p : CMeth3 X.prog X.w X.K X.mg X.base nm m k sp) (hr : Room j X.A) (hk : k ≤ j) (wk : WOkF X B dw) (ho : LE X B o to) (ha : LA X B (e :: es) ta)
    (hst : starEach (e :: es) X.env = (false, eval e X.env) :: starEach es X.env := by rfl) (hpl : (backTo pos (starEach es X.env)).any (·.1) = false := by rfl)
    (ht : eval (.Call (.Attribute o m apos) (e :: es) [] pos) X.env = (do
      let ov ← eval o X.env
      standAt apos.atName
      let (f, first) ← holding [ov] (getMethod ov m pl)
      callWith pos f first (backTo pos (starEach (e :: es) X.env)) (backToKw pos (keywordEach [] X.env))) := by rfl) :
    LE X B (.Call (.Attribute o m apos) (e :: es) [] pos) (dCMeth nm sp dw to ta) := by
  obtain ⟨C, pp, g, fd, ps, hC, r, M, Fn, hb⟩ := p.ex
  obtain ⟨W, tk, hW⟩ := wk
  refine ⟨pe_imp (ClX.pe_cmeth (E := W) ho.pe r M (Fn.raw hb .nil) (hr.mono hk) (passes_call tk fun _ _ _ _ z => z) ha.pa hst hpl ht) fun σ H Q ⟨pn, F, E, G, k, S, ht, hk⟩ => ⟨pn, F, E, G, _, S, ht, fun x E1 G1 ⟨hx, h1⟩ v F1 H1 S1 s1 r1 => ?_⟩⟩
  have ev : v = .ref C := by
    have r2 := (S1.getH r1 hx).val (fun _ q => nomatch q)
    cases r2 with
    | cls h => rw [hC.eq h]
  refine ⟨ev, pn, F1, E1, G1, _, S1, h1, fun ds E2 G2 h2 vs F2 H2 S2 s2 r2 => ?_⟩
  refine ⟨F2, G2, .cls nm :: ds, _, _, S2.w, by rw [List.append_nil]; exact .cons (.cls hC) r2, h2, fun r' G' h3 v F3 H3 A r3 => ?_, fun x G' h3 cls dd F3 H3 A r3 => ?_⟩
  · exact hk _ _ _ h3 v F3 H3 (S2.wldAfter A) ((s1.trans s2).trans A.keepF) (S2.retR r3)
  · exact hW pn F3 H3 σ E2 G' x cls dd (S2.wldAfter A) r3 h3
end
section
def tMakeV (i : Nat) (C : Addr) (sp : Sp) (dvs : List V) (E : XK) (t : TA) : TE := fun σ H Q => σ[i]? = some (some (.ref C)) ∧ tMake C sp dvs E t σ H Q
variable {X : Cx} {CX : CXT} {k i : Nat} {f C : Addr} {fd : FuncData} {ps : List Str} {ds : List Value} {dvs : List V} {sp : Sp} {E : XK} {x : Str} {e : Expr} {es : List Expr} {t : TA} {p pos : Pos}
theorem pe_makeV (M : Mk X.K C f) (F : FnOk X.prog X.w X.K X.mg X.base CX k f fd ps sp) (hr : Room (k + 1) X.A) (hb : Binds X.K fd ps ds) (hdv : Vals dvs ds) (hx : Passes CX X E) (hN : X.N[i]? = some x) (hv : Vis X.env.scope x) (ha : PA X (e :: es) t)
    (hd : (x == ("__debug__" : Str)) = false := by decide) (hcd : (x == ("__classdict__" : Str)) = false := by decide)
    (he : starEach (e :: es) X.env = (false, eval e X.env) :: starEach es X.env := by rfl) (hpl : (backTo pos (starEach es X.env)).any (·.1) = false := by rfl) : PE X (.Call (.Name x p) (e :: es) [] pos) (tMakeV i C sp dvs E t) := by
  refine ⟨fun pins s σ H Q I h => ?_⟩
  obtain ⟨hs, h⟩ := h
  refine wpAny_Call_Name_kw (thn ((pe_var (pos := p) (i := i) hN hv hd hcd).run pins s σ H (fun v H1 => v = .ref C ∧ H1 = H) I ⟨.ref C, hs, rfl, rfl⟩) fun u s1 ⟨v, H1, I1, r1, ev, eH⟩ => ?_)
  subst ev
  rw [eH] at I1
  cases r1
  refine PySem.W.callWith_K (h₀ := X.base) I.ok.mod.kin M.kp (thn (ha.run pos pins s1 σ H _ I1 h) fun us s2 ⟨vs, H2, I2, r, q⟩ => ⟨I2.kIn, ?_⟩) he hpl
  exact run_make M F hr hb hdv hx I2 r q
end
section
variable {X : Cx} {B : Base3}
theorem le_makeV {x nm : Str} (i : Nat) {k j : Nat} {sp : DSpI} {dw : DW} {ta : DA} {p pos : Pos} {e : Expr} {es : List Expr} (n : New3 X.prog X.w X.K X.mg X.base nm k sp) (hr : Room j X.A) (hk : k + 1 ≤ j) (wk : WOkF X B dw) (ha : LA X B (e :: es) ta)
    (hN : X.N[i]? = some x := by rfl) (hv : Vis X.env.scope x := by first | exact Or.inl rfl | exact Or.inr (Or.inl rfl) | exact Or.inr (Or.inr rfl)) (hd : (x == ("__debug__" : Str)) = false := by decide) (hcd : (x == ("__classdict__" : Str)) = false := by decide)
    (he : starEach (e :: es) X.env = (false, eval e X.env) :: starEach es X.env := by rfl) (hpl : (backTo pos (starEach es X.env)).any (·.1) = false := by rfl) :
    LE X B (.Call (.Name x p) (e :: es) [] pos) (dMakeV nm i sp dw ta) := by
  obtain ⟨C, f, fd, ps, hC, M, hm, hb, Fn⟩ := n.ex
  obtain ⟨W, tk, hW⟩ := wk
  refine ⟨pe_imp (pe_makeV (E := W) (i := i) M Fn (hr.mono hk) hb .nil (passes_call tk fun _ _ _ _ z => z) hN hv ha.pa hd hcd he hpl) fun σ H Q ⟨pn, F, E, G, k, S, ⟨hs, ht⟩, hk⟩ => ?_⟩
  obtain ⟨v, hσ, rv⟩ := S.slot i _ hs
  have ev : v = .ref C := by
    cases rv with
    | cls h => rw [hC.eq h]
  subst ev
  refine ⟨hσ, pn, F, E, G, _, S, ht, fun ds E1 G1 h1 vs F1 H1 S1 s1 r1 x dx nx ndx ne => ?_⟩
  refine ⟨H1, F1, G1, x, C, dx, vs, ds, _, _, by rw [List.append_nil], ⟨nx, ndx, ne, rfl, hC⟩, S1.w, r1, h1, fun fs G' h2 F2 H2 dx' xs A ⟨a1, a2, a3⟩ ⟨b0, b1, b2, b3, b4⟩ r2 => ⟨rfl, ?_⟩, fun x' G' h2 cls dd F2 H2 A r2 => hW pn F2 H2 σ E1 G' x' cls dd (S1.wldAfter A) r2 h2⟩
  have S2 := S1.wldAfter A
  have dom : ∀ {b : Addr}, H1 b = none → b ∉ pn.map (·.1) := fun h hm => by
    obtain ⟨q, hq, rfl⟩ := List.mem_map.mp hm
    have := (S1.pend q.1 q.2 hq).1
    rw [h] at this; cases this
  have noo : ∀ {b : Addr}, H1 b = none → NoOwn σ E1 b := fun h => noOwn_at S1 h
  obtain ⟨S3, s3⟩ := S2.freezeAt b1 (S1.baseNone b0) b2 (dom b0) (noo b0) b4
  have a1' : upd F2 dx' (.xd []) x = none := by rw [upd_ne b3.symm]; exact a1
  obtain ⟨S4, s4⟩ := S3.freezeAt a1' (S1.baseNone nx) a2 (dom nx) (noo nx) a3
  refine hk _ _ _ h2 _ _ _ S4 (((s1.trans A.keepF).trans s3).trans s4) ?_
  exact .obj hC upd_same (s4 _ _ upd_same) (RepL.mono (s3.trans s4) _ _ r2)
end
/-! ### reckoned -/
section
variable {dw : DW} {G : Reg}
end
end L3

set_option Elab.async false
set_option maxRecDepth 100000
set_option maxHeartbeats 4000000
/-! L54: x.partition(y); int(text). -/
namespace L3
open PySem PySem.Spec PyProof.Rows L2
section
variable {X : Cx} {B : Base3}
def parD (a b : Str) : D := .tup [.str (Txt.partition a b).1, .str (Txt.partition a b).2.1, .str (Txt.partition a b).2.2]
def dPartition (to te : DE) : DE := fun E G k => to E G fun x E1 G1 => ∃ a, x = .val (.str a) ∧ te E1 G1 fun y E2 G2 => ∃ b, y = .val (.str b) ∧ (b.length == 0) = false ∧ a.length ≤ sizeLine ∧ k (.val (parD a b)) E2 G2
theorem le_partition {o e : Expr} {to te : DE} {apos pos : Pos} (ho : LE X B o to) (he : LE X B e te) (hs : starEach [e] X.env = [(false, eval e X.env)] := by rfl) (hbase : attributeBase o "partition" X.env (eval o X.env) = eval o X.env := by rfl) (hline : (apos.endLine == pos.line) = true := by rfl) :
    LE X B (.Call (.Attribute o "partition" apos) [e] [] pos) (dPartition to te) :=
  ⟨pe_imp (pe_partition ho.pe he.pe hs hbase hline) fun σ H Q ⟨pn, F, E, G, k, S, ht, hk⟩ => ⟨pn, F, E, G, _, S, ht, fun x E1 G1 ⟨a, ex, h1⟩ v F1 H1 S1 s1 r1 => by
    subst ex
    have r1 : Rep X.K F1 (.str a) v := r1
    cases r1
    refine ⟨⟨a, rfl⟩, pn, F1, E1, G1, _, S1, h1, fun y E2 G2 ⟨b, ey, hb, hz, h2⟩ u F2 H2 S2 s2 r2 => ?_⟩
    subst ey
    have r2 : Rep X.K F2 (.str b) u := r2
    cases r2
    refine ⟨a, b, rfl, rfl, hb, hz, fun p np => ?_⟩
    obtain ⟨S3, s3⟩ := S2.newF (o := .tup [.str (Txt.partition a b).1, .str (Txt.partition a b).2.1, .str (Txt.partition a b).2.2]) np
    exact hk _ _ _ h2 _ _ _ S3 ((s1.trans s2).trans s3) (.tup upd_same (.cons (.str _) (.cons (.str _) (.cons (.str _) .nil))))⟩⟩
def bIntS : Reg → List D → (Res → Prop) → Prop := fun _ ds k => match ds with
  | [.str a] => ∃ n, PySem.intText? a = some n ∧ a.length ≤ 640 ∧ k (.val (.int n))
  | _ => False
theorem le_intStr {e : Expr} {ta : DA} {p pos : Pos} (hg : Gl X "int") (hm : X.mg "int" = none) (ha : LP X B [e] ta) (he : starEach [e] X.env = (false, eval e X.env) :: starEach [] X.env := by rfl) (hpl : (backTo pos (starEach [] X.env)).any (·.1) = false := by rfl) :
    LE X B (.Call (.Name "int" p) [e] [] pos) (dCB bIntS ta) := le_callTy call_int_str (fun pn F H σ E G vs ds k Q S r h hk => by
  unfold bIntS at h
  split at h
  · obtain ⟨n, h1, h2, h⟩ := h
    obtain ⟨v, rfl, rx⟩ := hl1 r
    have rx := rx.val (fun _ q => nomatch q)
    cases rx
    exact ⟨_, n, rfl, h1, h2, hk _ h _ F H S (Same.refl F) (.int _)⟩
  · exact h.elim) hg hm (by decide +kernel) ha (by decide) (by decide) he hpl
def oSlS : D → Option Int → Option Int → (Res → Prop) → Prop := fun d lo hi k => match d with
  | .str z => z.length ≤ sizeLine ∧ k (.val (.str (cutS z lo hi)))
  | _ => False
theorem r_slS : RSl3 X B rSlS oSlS := by
  intro pn F H σ E G x d lo hi k Q S rx h hk
  unfold oSlS at h
  split at h
  · obtain ⟨hz, h⟩ := h
    have rx := rx.val (fun _ q => nomatch q)
    cases rx
    exact ⟨_, rfl, hz, hk _ h _ F H S (Same.refl F) (.str _)⟩
  · exact h.elim
theorem le_cutS {e : Expr} {lo hi : Option Expr} {te : DE} {tl th : DO} {p2 pos : Pos} (he : LE X B e te) (hl : LO X B lo tl) (hh : LO X B hi th) : LE X B (.Subscript e (.Slice lo hi none p2) pos) (dSl oSlS te tl th) := le_slice sl_str r_slS he hl hh
end
end L3

set_option Elab.async false
set_option maxRecDepth 100000
set_option maxHeartbeats 4000000
/-! L38: len(x), y in x, x an instance whose class has a __len__ and a __contains__ of its own. -/
namespace L3
open PySem PySem.Spec PyProof.Rows L2
section
variable {X : Cx} {B : Base3}
end
end L3

set_option Elab.async false
set_option maxRecDepth 100000
set_option maxHeartbeats 4000000
/-! L39: x != t, x an instance whose class has an __eq__ of its own and no __ne__, t a tuple. -/
namespace L3
open PySem PySem.Spec PyProof.Rows L2
section
variable {X : Cx} {B : Base3}
end
end L3

set_option Elab.async false
set_option maxRecDepth 100000
set_option maxHeartbeats 4000000
/-! L55: x == y, x an instance whose class has an __eq__ of its own, y a tuple, a list or a text. -/
namespace L3
open PySem PySem.Spec PyProof.Rows L2
section
variable {X : Cx} {B : Base3}
def rEqOwnA (K : PySem.W.Frag) (C : Addr) (sp : Sp) (E : XK) : R2 := fun x y H Q => ∃ a dx vs t, x = .ref a ∧ SlX.Slt H a C dx vs ∧ TyX K H y t ∧ PySem.W.notFirst K C t = true ∧ sp [x, y] H Q E
theorem op_eqOwnA {CX : CXT} {C g : Addr} {n : Nat} {sp : Sp} {E : XK} (hs : PySem.W.findIn X.K (.ref C) "__eq__" = some (some (.ref g))) (hf : PySem.W.isFn X.K (.ref g) = true)
    (F : FnR X.prog X.w X.K X.mg X.base CX n g sp) (hr : Room n X.A) (hx : Passes CX X E) : OpR X (compareOp .Eq) (rEqOwnA X.K C sp E) := by
  intro pins s σ H x y v u Q I rx ry h
  obtain ⟨a, dx, vs, t, rfl, ha, ty, hn, q⟩ := h
  cases (show v = Value.ref a from rx)
  obtain ⟨sl, od, _, J, _⟩ := SlX.slt_inst I ha
  obtain ⟨m, hF⟩ := I.fr
  obtain ⟨P, kt, hp, _⟩ := kit_of I ry ty
  refine (show wpAny _ _ (richCompare .Eq (.ref a) u) _ _ _ from PySem.W.cmp_K (op := .Eq) (tb := t) hr.units0 hF I.ok.mod.kin J (kt.ty _ _ I.kIn hp) hn hs hf ?_)
  refine wpAny_mono (wpAny_call (run_fnR (us := [.ref a, u]) (vs := [.ref a, y]) F hr hx I (.cons rfl (.cons ry .nil)) q)) (fun w s' z => ?_) fun _ _ x => x
  obtain ⟨z', H', I', rz, qz⟩ := z
  exact SlX.cmpback rz ⟨z', H', I', rz, qz⟩
structure Nf3 (K : PySem.W.Frag) (nm : Str) : Prop where
  ex : ∃ C, ClsN K nm C ∧ ∀ t ∈ ["tuple", "list", "str"], PySem.W.notFirst K C (.type t) = true
theorem nf3_mk {K : PySem.W.Frag} {nm : Str} {C : Addr} (a : PySem.W.nsIn K mainGlobals nm = some (some (.ref C))) (n1 : PySem.W.notFirst K C (.type "tuple") = true) (n2 : PySem.W.notFirst K C (.type "list") = true) (n3 : PySem.W.notFirst K C (.type "str") = true) : Nf3 K nm := ⟨C, a, fun t ht => by
  simp only [List.mem_cons, List.not_mem_nil, or_false] at ht
  rcases ht with rfl | rfl | rfl
  · exact n1
  · exact n2
  · exact n3⟩
/-- a tuple, a list or a text -/
def tyS : D → Option String
  | .tup _ => some "tuple"
  | .lst _ => some "list"
  | .str _ => some "str"
  | _ => none
theorem tyS_of {K : PySem.W.Frag} {F H : Hp} {d : D} {v : V} {t : String} (s : Same F H) (r : Rep K F d v) (h : tyS d = some t) : TyX K H v (.type t) ∧ t ∈ ["tuple", "list", "str"] := by
  have key : tyN d = some t ∧ t ∈ ["tuple", "list", "str"] := by
    cases d <;> first | (cases h; done) | (cases h; exact ⟨rfl, by decide⟩)
  exact ⟨tyX_of s (.inl r) key.1, key.2⟩
def dEqOA (nm : Str) (sp : DSp) (ta tb : DE) : DE := fun E G k => ta E G fun x E1 G1 => tb E1 G1 fun y E2 G2 =>
  ∃ d E3, y.ice E2 = some (d, E3) ∧ ∃ fs, x.fz.get E3 = some (.obj nm fs) ∧ (∃ t, tyS d = some t) ∧ sp [.obj nm fs, d] G2 (fun r G3 => k r E3 G3) (fun _ _ => False)
theorem eqOA_core {nm : Str} {sp : DSp} {ta tb : DE} {C : Addr} (hC : ClsN X.K nm C) (hn : ∀ t ∈ ["tuple", "list", "str"], PySem.W.notFirst X.K C (.type t) = true) {σ : L2.St} {H : Hp} {Q : VK} (h : Lift X.K B (dEqOA nm sp ta tb) σ H Q) :
    tOp (rEqOwnA X.K C (fun vs H Q E => LSp X.K sp (vs ++ []) H Q E) (fun _ _ _ => False)) (Lift X.K B ta) (Lift X.K B tb) σ H Q := by
  obtain ⟨pn, F, E, G, k, S, ht, hk⟩ := h
  refine ⟨pn, F, E, G, _, S, ht, fun x E1 G1 h1 v F1 H1 S1 s1 r1 => ?_⟩
  obtain ⟨F1', S1', s1', r1'⟩ := S1.fz r1
  refine ⟨pn, F1', E1, G1, _, S1', h1, fun y E2 G2 ⟨d, E3, h0, fs, hx, ⟨t, hd⟩, h2⟩ u F2 H2 S2 s2 r2 => ?_⟩
  obtain ⟨F3, S3, s3, r3⟩ := S2.ice r2 h0
  obtain ⟨a1, C1, dx, xs, rfl, hC1, hs1, ra⟩ := (S3.getH (r1'.onward (s2.trans s3)) hx).obj' S3.w.sub
  obtain ⟨ty, hm⟩ := tyS_of S3.w.sub r3 hd
  cases hC.eq hC1
  refine ⟨a1, dx, _, _, rfl, hs1, ty, hn t hm, F3, G2, [.obj nm fs, d], _, _, S3.w, .cons ra (.cons r3 .nil), h2, fun r' G' h3 v F4 H4 A r4 => ?_, fun _ _ z => z.elim⟩
  exact hk _ _ _ h3 v F4 H4 (S3.wldAfter A) ((((s1.trans s1').trans s2).trans s3).trans A.keepF) (S3.retR r4)
theorem le_eqOA {nm : Str} {k j : Nat} {sp : DSp} {a b : Expr} {ta tb : DE} {pos : Pos} (p : Meth3 X.prog X.w X.K X.mg X.base nm "__eq__" k sp) (q : Nf3 X.K nm) (hr : Room j X.A) (hk : k ≤ j) (ha : LE X B a ta) (hb : LE X B b tb) : LE X B (.Compare a [.Eq] [b] pos) (dEqOA nm sp ta tb) := by
  obtain ⟨C, g, fd, ps, hC, sc, M, Fn, hbd⟩ := p.ex
  obtain ⟨C', hC', hn⟩ := q.ex
  cases hC.eq hC'
  exact ⟨pe_imp (pe_cmpR (op_eqOwnA (E := fun _ _ _ => False) M.at_ M.fn (Fn.raw hbd .nil) (hr.mono hk) passF) ha.pe hb.pe (nomark _)) fun σ H Q h => eqOA_core hC hn h⟩
end
end L3

set_option Elab.async false
set_option maxRecDepth 100000
set_option maxHeartbeats 4000000
/-! K04: reckoned defs (printed by gen5.py) -/
namespace K04
open PySem PySem.Spec PyProof.Rows L2 L3
end K04

set_option Elab.async false
set_option maxRecDepth 100000
set_option maxHeartbeats 4000000
set_option exponentiation.threshold 2000
/-! LD: the dice of all laws, over plain values. -/
namespace LD
open PySem PySem.Spec PyProof.Rows L2 L3
/-- the dice stand at a; R: the other registers -/
def Dice (a : Addr) (R G : Reg) : Prop := ∃ l m c : Int, G = (a, [D.int l, D.int m, D.int c]) :: R
def BIG : Int := 2 ^ 600
def sp__law_dice : DSp := fun ds G q _ => ∃ (ns : List Int) (i : Nat), ds = [.scr ns, .int (i : Int)] ∧ ∀ l m c : Int, q (.fr [D.int l, D.int m, D.int c]) G
def sp__law_roll : DSp := fun ds G q _ => ∃ (a : Addr) (R : Reg) (t : Int), ds = [.ref a, .int t] ∧ Dice a R G ∧ 0 < t ∧ t < BIG ∧ ∀ (r : Int) G', 0 ≤ r → r < t → Dice a R G' → q (.val (.int r)) G'
def sp__law_pick : DSp := fun ds G q _ => ∃ (a : Addr) (R : Reg) (es : List D), ds = [.ref a, .lst es] ∧ Dice a R G ∧ es ≠ [] ∧ es.length ≤ 1000 ∧ ∀ d G', d ∈ es → Dice a R G' → q (.val d) G'
theorem len__law_dice : ∀ ds G q e, sp__law_dice ds G q e → ds.length = 2 := fun ds G q e ⟨_, _, h, _⟩ => by rw [h]; rfl
theorem len__law_roll : ∀ ds G q e, sp__law_roll ds G q e → ds.length = 2 := fun ds G q e ⟨_, _, _, h, _⟩ => by rw [h]; rfl
theorem len__law_pick : ∀ ds G q e, sp__law_pick ds G q e → ds.length = 2 := fun ds G q e ⟨_, _, _, h, _⟩ => by rw [h]; rfl
def t__law_dice (dw : Exc3 → Reg → Prop) : DSt :=
  (dSeq (dSet 2 (dIf (dTest (dOp oLt (dVar 1) (dCB bLen (dPCons (dVar 0) dNil)))) (dCB bIntOf (dPCons (dOp oIx (dVar 0) (dVar 1)) dNil)) (dOp oAdd (dOp oMul (dC (.int 83)) (dVar 1)) (dC (.int 29)))))
    (dSeq (dSet 3 (dOp oMod (dCB bMax (dPCons (dC (.int 0)) (dPCons (dOp oSub (dCB bAbs (dPCons (dVar 2) dNil)) (dOp oPow (dC (.int 10)) (dC (.int 16)))) dNil))) (dOp oMul (dOp oPow (dC (.int 10)) (dC (.int 60))) (dOp oPow (dC (.int 10)) (dC (.int 60))))))
    (dRet (dLst (dCons (dVar 3) (dCons (dOp oAdd (dOp oAdd (dOp oAdd (dOp oMul (dOp oMod (dCB bAbs (dPCons (dVar 2) dNil)) (dC (.int 1152921504606846899))) (dC (.int 47))) (dOp oMul (dC (.int 839)) (dVar 1))) (dOp oMul (dC (.int 41)) (dCB bIntOf (dPCons (dOp oLt (dVar 2) (dC (.int 0))) dNil)))) (dC (.int 7))) (dCons (dC (.int 0)) dNil)))))))
def t__law_roll (dw : Exc3 → Reg → Prop) : DSt :=
  (dSeq (dIfS (dTest (dOp oGt (dOp oIx (dVar 0) (dC (.int 0))) (dC (.int 0)))) (dSeq (dSet 2 (dOp oMod (dCB bIntOf (dPCons (dOp oIx (dVar 0) (dC (.int 0))) dNil)) (dVar 1)))
    (dSeq (dStore (dOp oFdiv (dOp oIx (dVar 0) (dC (.int 0))) (dVar 1)) (dVar 0) (dC (.int 0)))
    (dRet (dVar 2)))) dNext)
    (dSeq (dStore (dOp oAdd (dOp oIx (dVar 0) (dC (.int 2))) (dC (.int 1))) (dVar 0) (dC (.int 2)))
    (dSeq (dSet 3 (dOp oMod (dCB bIntOf (dPCons (dOp oAdd (dOp oIx (dVar 0) (dC (.int 1))) (dOp oMul (dC (.int 32452867)) (dOp oIx (dVar 0) (dC (.int 2))))) dNil)) (dC (.int 2305843009213693907))))
    (dSeq (dSet 4 (dOp oAdd (dOp oMul (dOp oMod (dCB bIntOf (dPCons (dOp oAdd (dOp oMul (dVar 3) (dVar 3)) (dOp oMul (dC (.int 97)) (dOp oIx (dVar 0) (dC (.int 2))))) dNil)) (dC (.int 2305843009213693921))) (dC (.int 6700417))) (dVar 3)))
    (dRet (dOp oMod (dCB bIntOf (dPCons (dOp oFdiv (dVar 4) (dC (.int 65536))) dNil)) (dVar 1)))))))
def t__law_pick (dw : Exc3 → Reg → Prop) : DSt :=
  (dRet (dOp oIx (dVar 1) (dCall sp__law_roll (fun x _ G => dw x G) (dCons (dVar 0) (dCons (dCB bLen (dPCons (dVar 1) dNil)) dNil)))))
theorem pow1060 : MulOk (10 ^ (60 : Int).toNat) (10 ^ (60 : Int).toNat) := .inr (by unfold CMulW; decide +kernel)
theorem div_ok {l t : Int} (h : 0 < t) (h2 : t < BIG) : CDivW l t := wide_div h (b := 600) (by unfold BIG at h2; omega) (by decide) (by decide)
local macro_rules | `(tactic| walk_at "ev") => `(tactic| repeat (first | refine ⟨_, rfl, ?_⟩ | refine ⟨_, _, rfl, ?_⟩ | refine ⟨_, look0, ?_⟩ | refine ⟨_, at0, ?_⟩ | refine ⟨_, at1, ?_⟩ | refine ⟨_, at2, ?_⟩ | refine ⟨by decide, ?_⟩ | refine ⟨ltL rfl, ?_⟩ | refine ⟨mulC (by decide), ?_⟩ | refine ⟨mulC' (by decide), ?_⟩ | refine ⟨_, _, _, rfl, ?_⟩ | refine ⟨_, ix0, ?_⟩ | refine ⟨_, ix1, ?_⟩ | refine ⟨_, ix2, ?_⟩ | refine ⟨cpow _ (by decide) (by decide), ?_⟩ | refine ⟨pow1060, ?_⟩))
theorem p__law_roll (N : List Str) (hN : N.length = 5) : ∀ ds G q dw, sp__law_roll ds G q dw → t__law_roll dw { nx := fun _ G' => q (.val .non) G', rt := q } (start3 N ds) G := by
  intro ds G q dw h
  obtain ⟨a, R, t, rfl, ⟨l, m, c, rfl⟩, ht, hb, h⟩ := h
  unfold t__law_roll start3
  rw [hN]
  walk_at "ev"
  refine ifD (fun h1 => ?_) (fun h1 => ?_)
  · walk_at "ev"
    refine ⟨ht, ?_⟩
    walk_at "ev"
    refine ⟨div_ok ht hb, ?_⟩
    walk_at "ev"
    rw [regS]
    walk_at "ev"
    exact h _ _ (Int.emod_nonneg _ (by omega)) (Int.emod_lt_of_pos _ ht) ⟨_, _, _, rfl⟩
  · walk_at "ev"
    rw [regS]
    walk_at "ev"
    refine ⟨mulC ⟨?_, ?_⟩, ?_⟩
    · have := Int.emod_nonneg (m + 32452867 * (c + 1)) (b := 2305843009213693907) (by omega); omega
    · have := Int.emod_lt_of_pos (m + 32452867 * (c + 1)) (b := 2305843009213693907) (by omega); omega
    walk_at "ev"
    refine ⟨div_ok (by decide) (by decide), ?_⟩
    walk_at "ev"
    refine ⟨ht, ?_⟩
    walk_at "ev"
    exact h _ _ (Int.emod_nonneg _ (by omega)) (Int.emod_lt_of_pos _ ht) ⟨_, _, _, rfl⟩
theorem len_big {α : Type} {es : List α} (h : es.length ≤ 1000) : (es.length : Int) < BIG := by unfold BIG; omega
theorem p__law_pick (N : List Str) (hN : N.length = 2) : ∀ ds G q dw, sp__law_pick ds G q dw → t__law_pick dw { nx := fun _ G' => q (.val .non) G', rt := q } (start3 N ds) G := by
  intro ds G q dw h
  obtain ⟨a, R, es, rfl, hd, hne, hle, h⟩ := h
  unfold t__law_pick start3
  rw [hN]
  walk_at "ev"
  refine ⟨a, R, (es.length : Int), rfl, hd, by have := List.length_pos_iff.2 hne; omega, len_big hle, fun r G' h0 h1 hd' => ?_⟩
  obtain ⟨d, e, hm⟩ := atN h0 h1
  walk_at "ev"
  refine ⟨d, e, ?_⟩
  walk_at "ev"
  exact h d G' hm hd'
theorem p__law_dice (N : List Str) (hN : N.length = 4) : ∀ ds G q dw, sp__law_dice ds G q dw → t__law_dice dw { nx := fun _ G' => q (.val .non) G', rt := q } (start3 N ds) G := by
  intro ds G q dw h
  obtain ⟨ns, i, rfl, h⟩ := h
  unfold t__law_dice start3
  rw [hN]
  walk_at "ev"
  refine ifD (fun h1 => ?_) (fun h1 => ?_)
  · obtain ⟨v, e, _⟩ := atN (ds := ns) (Int.natCast_nonneg i) h1
    walk_at "ev"
    refine ⟨v, e, ?_⟩
    walk_at "ev"
    exact h _ _ _
  · walk_at "ev"
    exact h _ _ _
end LD

set_option Elab.async false
set_option maxRecDepth 100000
set_option maxHeartbeats 4000000
/-! LN: whole numbers, primes, letters, points of the program: what they answer where nothing is refused. -/
namespace LN
open PySem PySem.Spec PyProof.Rows L2 L3
local macro_rules | `(tactic| walk_at "ev") => `(tactic| repeat (first | refine ⟨_, rfl, ?_⟩ | refine ⟨_, _, rfl, ?_⟩ | refine ⟨rfl, ?_⟩ | refine And.intro (by assumption) ?_ | refine ⟨by decide, ?_⟩ | refine ⟨ltL rfl, ?_⟩ | refine ⟨_, at0, ?_⟩ | refine ⟨_, at1, ?_⟩ | refine ⟨_, at2, ?_⟩ | refine ⟨_, _, _, rfl, ?_⟩))
def primes : List Int := [2, 3, 5, 7, 11, 13, 17, 19, 23, 29, 31]
/-- the primes of the program -/
def Pr (p : Int) : Prop := p ∈ primes
/-- a point, as a value -/
def pt (ws : List Int) : D := .tup (ws.map D.int)
theorem sh_pt (ws : List Int) : (pt ws).sh = true := by unfold pt; rw [sh_tup]; exact all_shl_ints ws
theorem eqv_pt (xs ys : List Int) : D.eqv (pt xs) (pt ys) = decide (xs = ys) := by unfold pt; rw [eqv_tup, eqvL_ints]
theorem sh_ints (ws : List Int) : (D.lst (ws.map D.int)).sh = true := by rw [sh_lst]; exact all_shl_ints ws
theorem eqv_ints (xs ys : List Int) : D.eqv (.lst (xs.map D.int)) (.lst (ys.map D.int)) = decide (xs = ys) := by rw [eqv_lst, eqvL_ints]
theorem shl_pt {p : D → Bool} (hp : ∀ n, p (.int n) = true) (ws : List Int) : shl p (pt ws) = true := by
  unfold pt
  rw [shl_tup, List.all_map]
  exact List.all_eq_true.2 fun x _ => hp x
def Pt (p : Int) (ws : List Int) : Prop := ws.length ≤ 60 ∧ ∀ x ∈ ws, -1 ≤ x ∧ x < p
def Lim (v : Int) : Prop := -(10 ^ 60) < v ∧ v < 10 ^ 60
theorem Pr.le {p : Int} (h : Pr p) : 2 ≤ p ∧ p ≤ 31 := by
  unfold Pr primes at h
  simp only [List.mem_cons, List.not_mem_nil, or_false] at h
  omega
abbrev tru (q : Res → Reg → Prop) (G : Reg) : Prop := q (.val (.bl true)) G
def sp_is_whole : DSp := fun ds G q _ => ∃ v : Int, ds = [.int v] ∧ tru q G
def sp_is_integer : DSp := fun ds G q _ => ∃ v : Int, ds = [.int v] ∧ Lim v ∧ tru q G
def sp_is_prime : DSp := fun ds G q _ => ∃ v : Int, ds = [.int v] ∧ Pr v ∧ tru q G
def sp_require_prime : DSp := fun ds G q _ => ∃ v : Int, ds = [.int v] ∧ Pr v ∧ q (.val .non) G
theorem len_is_whole : ∀ ds G q e, sp_is_whole ds G q e → ds.length = 1 := fun ds G q e ⟨_, h, _⟩ => by rw [h]; rfl
theorem len_is_integer : ∀ ds G q e, sp_is_integer ds G q e → ds.length = 1 := fun ds G q e ⟨_, h, _⟩ => by rw [h]; rfl
theorem len_is_prime : ∀ ds G q e, sp_is_prime ds G q e → ds.length = 1 := fun ds G q e ⟨_, h, _⟩ => by rw [h]; rfl
theorem len_require_prime : ∀ ds G q e, sp_require_prime ds G q e → ds.length = 1 := fun ds G q e ⟨_, h, _⟩ => by rw [h]; rfl
def t_is_whole (dw : Exc3 → Reg → Prop) : DSt :=
  (dRet (dAndV (dCB bIsi (dPCons (dVar 0) (dPCons (dC (.ty "int")) dNil))) (dNotV (dCB bIsi (dPCons (dVar 0) (dPCons (dC (.ty "bool")) dNil))))))
def t_is_integer (dw : Exc3 → Reg → Prop) : DSt :=
  (dRet (dAndV (dCall sp_is_whole (fun x _ G => dw x G) (dCons (dVar 0) dNil)) (dChain oLt oLt (dUn uNeg (dC (.int (1000000000000000000000000000000000000000000000000000000000000)))) (dVar 0) (dC (.int (1000000000000000000000000000000000000000000000000000000000000))))))
def t_is_prime (dw : Exc3 → Reg → Prop) : DSt :=
  (dRet (dAndV (dCall sp_is_whole (fun x _ G => dw x G) (dCons (dVar 0) dNil)) (dOp (oIn false) (dVar 0) (dC (.ktp [2, 3, 5, 7, 11, 13, 17, 19, 23, 29, 31])))))
def t_require_prime (dw : Exc3 → Reg → Prop) : DSt :=
  (dIfS (dNot (dTest (dCall sp_is_prime (fun x _ G => dw x G) (dCons (dVar 0) dNil)))) dNever dNext)
theorem eqv_mem {v : Int} : ∀ ns : List Int, v ∈ ns → ((ns.map D.int).any fun z => D.eqv z (.int v)) = true
  | [], h => by cases h
  | n :: ns, h => by
    rw [List.map_cons, List.any_cons, eqv_int]
    rcases List.mem_cons.mp h with e | e
    · rw [e, decide_eq_true rfl]; rfl
    · rw [eqv_mem ns e, Bool.or_true]
theorem p_is_whole (N : List Str) (hN : N.length = 1) : ∀ ds G q dw, sp_is_whole ds G q dw → t_is_whole dw { nx := fun _ G' => q (.val .non) G', rt := q } (start3 N ds) G := by
  intro ds G q dw h
  unfold t_is_whole start3
  rw [hN]
  obtain ⟨v, rfl, h⟩ := h
  walk_at "ev"
  exact h
theorem p_is_integer (N : List Str) (hN : N.length = 1) : ∀ ds G q dw, sp_is_integer ds G q dw → t_is_integer dw { nx := fun _ G' => q (.val .non) G', rt := q } (start3 N ds) G := by
  intro ds G q dw h
  unfold t_is_integer start3
  rw [hN]
  obtain ⟨v, rfl, l, h⟩ := h
  walk_at "ev"
  refine ifD (fun _ => ?_) (fun z => absurd l.1 z)
  walk_at "ev"
  exact qT (q := q) (decide_eq_true l.2) h
theorem p_is_prime (N : List Str) (hN : N.length = 1) : ∀ ds G q dw, sp_is_prime ds G q dw → t_is_prime dw { nx := fun _ G' => q (.val .non) G', rt := q } (start3 N ds) G := by
  intro ds G q dw h
  unfold t_is_prime start3
  rw [hN]
  obtain ⟨v, rfl, l, h⟩ := h
  walk_at "ev"
  exact qT (q := q) (eqv_mem primes l) h
theorem p_require_prime (N : List Str) (hN : N.length = 1) : ∀ ds G q dw, sp_require_prime ds G q dw → t_require_prime dw { nx := fun _ G' => q (.val .non) G', rt := q } (start3 N ds) G := by
  intro ds G q dw h
  unfold t_require_prime start3
  rw [hN]
  obtain ⟨v, rfl, l, h⟩ := h
  walk_at "ev"
  exact h
end LN

set_option Elab.async false
/-! RS: plain: power series of whole numbers, as functions; sums, products, powers, a series put into another. -/
namespace RS
abbrev S := Nat → Int
def sm : Nat → (Nat → Int) → Int
  | 0, _ => 0
  | n + 1, f => sm n f + f n
theorem sm_congr : ∀ {n : Nat} {f g : Nat → Int}, (∀ i, i < n → f i = g i) → sm n f = sm n g
  | 0, _, _, _ => rfl
  | n + 1, f, g, h => by rw [sm, sm, sm_congr fun i hi => h i (by omega), h n (by omega)]
theorem sm_front : ∀ (n : Nat) (f : Nat → Int), sm (n + 1) f = f 0 + sm n (fun i => f (i + 1))
  | 0, f => by rw [sm, sm, sm]; omega
  | n + 1, f => by rw [sm, sm_front n f, sm]; omega
theorem sm_rev : ∀ (n : Nat) (f : Nat → Int), sm (n + 1) (fun i => f (n - i)) = sm (n + 1) f
  | 0, f => rfl
  | n + 1, f => by
    rw [sm_front (n + 1) fun i => f (n + 1 - i)]
    have : sm (n + 1) (fun i => f (n + 1 - (i + 1))) = sm (n + 1) (fun i => f (n - i)) := sm_congr fun i _ => by rw [show n + 1 - (i + 1) = n - i by omega]
    rw [this, sm_rev n f]
    show f (n + 1) + sm (n + 1) f = sm (n + 1) f + f (n + 1)
    omega
/-- sums and products -/
def add (f g : S) : S := fun n => f n + g n
def mul (f g : S) : S := fun n => sm (n + 1) fun i => f i * g (n - i)
def one : S := fun n => if n = 0 then 1 else 0
def sc (c : Int) (f : S) : S := fun n => c * f n
def pow (f : S) : Nat → S
  | 0 => one
  | n + 1 => mul (pow f n) f
theorem mul_comm (f g : S) : mul f g = mul g f := funext fun n => by
  show sm (n + 1) (fun i => f i * g (n - i)) = sm (n + 1) (fun i => g i * f (n - i))
  rw [← sm_rev n (fun i => g i * f (n - i))]
  exact sm_congr fun i hi => by rw [show n - (n - i) = i by omega, Int.mul_comm]
/-- f with g in the place of t -/
def comp (f g : S) : S := fun n => sm (n + 1) fun i => f i * pow g i n
end RS

set_option Elab.async false
/-! RT: plain: rows of residues as lists, cut of zeros at the end; their entries as series. -/
namespace RS
def co (xs : List Int) : S := fun i => xs.getD i 0
theorem co_nil (i : Nat) : co [] i = 0 := by unfold co; rw [List.getD_eq_getElem?_getD]; rfl
theorem co_s (x : Int) (xs : List Int) (i : Nat) : co (x :: xs) (i + 1) = co xs i := rfl
theorem co_out {xs : List Int} {i : Nat} (h : xs.length ≤ i) : co xs i = 0 := by
  unfold co
  rw [List.getD_eq_getElem?_getD, List.getElem?_eq_none h]; rfl
theorem co_in {xs : List Int} {i : Nat} (h : i < xs.length) : co xs i = xs[i] := by
  unfold co
  rw [List.getD_eq_getElem?_getD, List.getElem?_eq_getElem h]; rfl
def trimL : List Int → List Int
  | [] => []
  | x :: xs => if trimL xs = [] ∧ x = 0 then [] else x :: trimL xs
theorem trim_len : ∀ xs : List Int, (trimL xs).length ≤ xs.length
  | [] => Nat.le_refl _
  | x :: xs => by
    have := trim_len xs
    unfold trimL
    split
    · exact Nat.zero_le _
    · rw [List.length_cons, List.length_cons]; omega
theorem co_trim : ∀ (xs : List Int) (i : Nat), co (trimL xs) i = co xs i
  | [], _ => rfl
  | x :: xs, i => by
    have ih := co_trim xs
    unfold trimL
    split
    · rename_i h
      rw [co_nil]
      cases i with
      | zero => exact h.2.symm
      | succ i => rw [co_s, ← ih, h.1, co_nil]
    · cases i with
      | zero => rfl
      | succ i => rw [co_s, co_s, ih]
theorem trim_nil : ∀ {xs : List Int}, (∀ i, co xs i = 0) → trimL xs = []
  | [], _ => rfl
  | x :: xs, h => by
    unfold trimL
    rw [if_pos ⟨trim_nil fun i => h (i + 1), h 0⟩]
theorem trim_ext : ∀ {xs ys : List Int}, (∀ i, co xs i = co ys i) → trimL xs = trimL ys
  | [], ys, h => (trim_nil fun i => by rw [← h i, co_nil]).symm
  | x :: xs, [], h => trim_nil fun i => by rw [h i, co_nil]
  | x :: xs, y :: ys, h => by
    have e : x = y := h 0
    unfold trimL
    rw [trim_ext (xs := xs) (ys := ys) fun i => h (i + 1), e]
theorem trim_trim (xs : List Int) : trimL (trimL xs) = trimL xs := trim_ext (co_trim xs)
theorem trim_mem : ∀ {xs : List Int} {x : Int}, x ∈ trimL xs → x ∈ xs
  | [], _, h => h
  | y :: xs, x, h => by
    unfold trimL at h
    split at h
    · cases h
    · rcases List.mem_cons.mp h with rfl | h
      · exact List.mem_cons_self
      · exact List.mem_cons_of_mem _ (trim_mem h)
/-- what a loop from the end cuts -/
theorem trim_take : ∀ {xs : List Int} {k : Nat}, k ≤ xs.length → (∀ i, k ≤ i → co xs i = 0) → (k = 0 ∨ co xs (k - 1) ≠ 0) → xs.take k = trimL xs
  | [], k, hk, _, _ => by rw [List.take_nil]; rfl
  | x :: xs, 0, _, h, _ => (trim_nil fun i => h i (Nat.zero_le i)).symm
  | x :: xs, k + 1, hk, h, h1 => by
    have h1 : co (x :: xs) k ≠ 0 := by
      rcases h1 with z | z
      · exact absurd z (Nat.succ_ne_zero k)
      · exact z
    have ih : xs.take k = trimL xs := trim_take (by rw [List.length_cons] at hk; omega) (fun i hi => h (i + 1) (by omega)) (by
      cases k with
      | zero => exact .inl rfl
      | succ k => exact .inr h1)
    unfold trimL
    rw [List.take_succ_cons, ih]
    by_cases z : trimL xs = [] ∧ x = 0
    · exfalso
      cases k with
      | zero => exact h1 z.2
      | succ k =>
        rw [co_s, ← co_trim, z.1, co_nil] at h1
        exact h1 rfl
    · rw [if_neg z]
theorem trim_last : ∀ {xs : List Int}, trimL xs = [] ∨ ∃ l, (trimL xs).getLast? = some l ∧ l ≠ 0
  | [] => .inl rfl
  | x :: xs => by
    unfold trimL
    split
    · exact .inl rfl
    · rename_i h
      right
      rcases trim_last (xs := xs) with z | ⟨l, hl, l0⟩
      · rw [z]
        exact ⟨x, rfl, fun q => h ⟨z, q⟩⟩
      · exact ⟨l, by rw [List.getLast?_cons, hl]; rfl, l0⟩
theorem trim_self : ∀ {xs : List Int}, (xs = [] ∨ ∃ l, xs.getLast? = some l ∧ l ≠ 0) → trimL xs = xs
  | [], _ => rfl
  | x :: xs, h => by
    obtain ⟨l, hl, l0⟩ : ∃ l, (x :: xs).getLast? = some l ∧ l ≠ 0 := by
      rcases h with z | z
      · cases z
      · exact z
    unfold trimL
    cases xs with
    | nil =>
      rw [if_neg fun z => l0 (by rw [← Option.some.inj hl]; exact z.2)]; rfl
    | cons y ys =>
      have ih := trim_self (xs := y :: ys) (.inr ⟨l, by rw [List.getLast?_cons] at hl; rw [← hl]; cases q : (y :: ys).getLast? with | none => exact absurd q (by simp) | some z => rfl, l0⟩)
      rw [ih, if_neg fun z => by cases z.1]
/-- the first n entries of a series, as residues -/
def mk (p : Int) (n : Nat) (f : S) : List Int := (List.range n).map fun i => f i % p
theorem mk_len (p : Int) (n : Nat) (f : S) : (mk p n f).length = n := by unfold mk; rw [List.length_map, List.length_range]
theorem co_mk (p : Int) (n : Nat) (f : S) (i : Nat) : co (mk p n f) i = if i < n then f i % p else 0 := by
  by_cases h : i < n
  · rw [if_pos h, co_in (by rw [mk_len]; exact h)]
    unfold mk
    rw [List.getElem_map, List.getElem_range]
  · rw [if_neg h, co_out (by rw [mk_len]; omega)]
/-- two series that are alike modulo p -/
def Eqm (p : Int) (f g : S) : Prop := ∀ n, f n % p = g n % p
theorem Eqm.refl {p : Int} (f : S) : Eqm p f f := fun _ => rfl
theorem Eqm.symm {p : Int} {f g : S} (h : Eqm p f g) : Eqm p g f := fun n => (h n).symm
theorem Eqm.trans {p : Int} {f g h : S} (h1 : Eqm p f g) (h2 : Eqm p g h) : Eqm p f h := fun n => (h1 n).trans (h2 n)
theorem sm_mod {p : Int} : ∀ {n : Nat} {f g : Nat → Int}, (∀ i, i < n → f i % p = g i % p) → sm n f % p = sm n g % p
  | 0, _, _, _ => rfl
  | n + 1, f, g, h => by
    rw [sm, sm, Int.add_emod, sm_mod fun i hi => h i (by omega), h n (by omega), ← Int.add_emod]
theorem Eqm.add {p : Int} {f g f' g' : S} (h1 : Eqm p f f') (h2 : Eqm p g g') : Eqm p (RS.add f g) (RS.add f' g') := fun n => by
  show (f n + g n) % p = (f' n + g' n) % p
  rw [Int.add_emod, h1 n, h2 n, ← Int.add_emod]
theorem Eqm.mul {p : Int} {f g f' g' : S} (h1 : Eqm p f f') (h2 : Eqm p g g') : Eqm p (RS.mul f g) (RS.mul f' g') := fun n =>
  sm_mod fun i _ => by rw [Int.mul_emod, h1 i, h2 (n - i), ← Int.mul_emod]
theorem Eqm.pow {p : Int} {f f' : S} (h : Eqm p f f') : ∀ n, Eqm p (RS.pow f n) (RS.pow f' n)
  | 0 => Eqm.refl _
  | n + 1 => (Eqm.pow h n).mul h
theorem Eqm.comp {p : Int} {f g f' g' : S} (h1 : Eqm p f f') (h2 : Eqm p g g') : Eqm p (RS.comp f g) (RS.comp f' g') := fun n =>
  sm_mod fun i _ => by rw [Int.mul_emod, h1 i, Eqm.pow h2 i n, ← Int.mul_emod]
end RS

set_option Elab.async false
/-! RU: plain: series put into another: products, one entry ahead. -/
namespace RS
end RS

set_option Elab.async false
set_option maxRecDepth 100000
set_option maxHeartbeats 4000000
/-! K04: what each def promises -/
namespace K04
open PySem PySem.Spec PyProof.Rows L2 L3 LD LN RS
/-- residues; a row as it is kept -/
def Rsd (p : Int) (xs : List Int) : Prop := ∀ x ∈ xs, 0 ≤ x ∧ x < p
structure Rw (p : Int) (xs : List Int) : Prop where
  res : Rsd p xs
  trm : trimL xs = xs
def Sq (d : D) (xs : List Int) : Prop := d = .lst (xs.map D.int) ∨ d = pt xs
def nrm (p : Int) (n : Nat) (f : RS.S) : List Int := trimL (mk p n f)
/-- the order, the text of a row -/
def ordN : List Int → Option Nat
  | [] => none
  | x :: xs => if x = 0 then (ordN xs).map (· + 1) else some 0
def ordD (xs : List Int) : D := match ordN xs with
  | none => .non
  | some i => .int (i : Int)
def sI (i : Int) : Str := Str.ofString (toString i)
def tmS (e : Int) (i : Nat) : Str := if i = 0 then sI e else (if e = 1 then ("" : Str) else sI e) ++ (if i = 1 then ("t" : Str) else ("t" : Str) ++ ("^" : Str) ++ sI (i : Int))
def tms : Nat → List Int → List Str
  | _, [] => []
  | i, x :: xs => if x = 0 then tms (i + 1) xs else tmS x i :: tms (i + 1) xs
def rtx (xs : List Int) : Str := if tms 0 xs = [] then ("0" : Str) else Txt.join ("+" : Str) (tms 0 xs)
def rwD (p : Int) (xs : List Int) : D := .obj "Row" [pt xs, ordD xs, .int p, .str (rtx xs)]
abbrev reD (xs : List Int) : D := .obj "RowEntries" [pt xs]
/-- the promises: p a prime of the list, rows of at most n entries -/
def sp_is_residue_of : DSp := fun ds G q _ => ∃ p v : Int, ds = [.int p, .int v] ∧ q (.val (.bl (decide (0 ≤ v ∧ v < p)))) G
def sp_are_row_entries : DSp := fun ds G q _ => ∃ (p : Int) (xs : List Int), ds = [.int p, pt xs] ∧ Rw p xs ∧ xs.length ≤ 1000 ∧ q (.val (.bl true)) G
def sp_RowEntries_init : DSpI := fun ds G q _ => ∃ xs : List Int, ds = [pt xs] ∧ q [pt xs] G
def sp_row_trimmed : DSp := fun ds G q _ => ∃ (d : D) (xs : List Int), ds = [d] ∧ Sq d xs ∧ xs.length ≤ 5000 ∧ q (.val (pt (trimL xs))) G
def sp_row_made : DSp := fun ds G q _ => ∃ (p : Int) (d : D) (xs : List Int), ds = [.int p, d] ∧ Sq d xs ∧ Pr p ∧ Rsd p xs ∧ xs.length ≤ 3000 ∧ q (.val (rwD p (trimL xs))) G
def sp_Row_init : DSpI := fun ds G q _ => ∃ (p : Int) (d : D) (xs : List Int), ds = [.int p, d] ∧ Pr p ∧ Rw p xs ∧ (d = reD xs ∧ xs.length ≤ 3000 ∨ d = pt xs ∧ xs.length ≤ 1000) ∧ q [pt xs, ordD xs, .int p, .str (rtx xs)] G
def sp_row_order : DSp := fun ds G q _ => ∃ xs : List Int, ds = [pt xs] ∧ xs.length ≤ 3000 ∧ q (.val (ordD xs)) G
def sp_row_term : DSp := fun ds G q _ => ∃ (e : Int) (i : Nat), ds = [.int e, .int (i : Int)] ∧ 0 ≤ e ∧ e < 100 ∧ i < 10000 ∧ q (.val (.str (tmS e i))) G
def sp_row_text : DSp := fun ds G q _ => ∃ (p : Int) (xs : List Int), ds = [pt xs] ∧ Pr p ∧ Rsd p xs ∧ xs.length ≤ 3000 ∧ q (.val (.str (rtx xs))) G
def sp_require_row_count : DSp := fun ds G q _ => ∃ v l : Int, ds = [.int v, .int l] ∧ l ≤ v ∧ v ≤ 400 ∧ -1000 ≤ l ∧ q (.val .non) G
def sp_Row_entries : DSp := fun ds G q _ => ∃ (p : Int) (xs : List Int), ds = [rwD p xs] ∧ q (.val (pt xs)) G
def sp_Row_order : DSp := fun ds G q _ => ∃ (p : Int) (xs : List Int), ds = [rwD p xs] ∧ q (.val (ordD xs)) G
def sp_Row_eq : DSp := fun ds G q _ => ∃ (p : Int) (xs ys : List Int), ds = [rwD p xs, rwD p ys] ∧ q (.val (.bl (decide (xs = ys)))) G
def sp_Row_str : DSp := fun ds G q _ => ∃ (p : Int) (xs : List Int), ds = [rwD p xs] ∧ (rtx xs).length ≤ sizeLine ∧ q (.val (.str (rtx xs))) G
/-- two rows, and what is made of them -/
abbrev Two (p : Int) (a b : List Int) : Prop := Pr p ∧ Rw p a ∧ Rw p b ∧ a.length ≤ 1000 ∧ b.length ≤ 1000
def sp_Row_minus : DSp := fun ds G q _ => ∃ (p : Int) (a b : List Int), ds = [rwD p a, rwD p b] ∧ Two p a b ∧ q (.val (rwD p (nrm p (max a.length b.length) (add (co a) (sc (-1) (co b)))))) G
def sp_Row_times : DSp := fun ds G q _ => ∃ (p : Int) (a b : List Int), ds = [rwD p a, rwD p b] ∧ Two p a b ∧ q (.val (rwD p (nrm p (a.length + b.length) (mul (co a) (co b))))) G
def sp_Row_raised : DSp := fun ds G q _ => ∃ (p : Int) (a : List Int) (m : Nat), ds = [rwD p a, .int (m : Int)] ∧ Two p a a ∧ m ≤ 10 ∧ a.length ≤ 100 ∧ q (.val (rwD p (nrm p (a.length * m + 1) (pow (co a) m)))) G
def sp_Row_cut : DSp := fun ds G q _ => ∃ (p : Int) (a : List Int) (s : Nat), ds = [rwD p a, .int (s : Int)] ∧ Two p a a ∧ s ≤ 400 ∧ q (.val (rwD p (nrm p s (co a)))) G
def sp_Row_composed : DSp := fun ds G q _ => ∃ (p : Int) (a b : List Int) (s : Nat), ds = [rwD p a, rwD p b, .int (s : Int)] ∧ Two p a b ∧ co b 0 = 0 ∧ s ≤ 400 ∧ q (.val (rwD p (nrm p s (comp (co a) (co b))))) G
def sp__law_trim : DSp := fun ds G q _ => ∃ (d : D) (xs : List Int), ds = [d] ∧ Sq d xs ∧ xs.length ≤ 5000 ∧ q (.val (pt (trimL xs))) G
def sp__law_any_row : DSp := fun ds G q _ => ∃ (a : Addr) (R : Reg) (p : Int) (l : Nat), ds = [.ref a, .int p, .int (l : Int)] ∧ Dice a R G ∧ Pr p ∧ l ≤ 1 ∧ ∀ (xs : List Int) G', Rw p xs → xs.length ≤ 10 → (∀ i, i < l → co xs i = 0) → Dice a R G' → q (.val (pt xs)) G'
def sp__law_are_reckoned : DSp := fun ds G q _ => ∃ (c : Addr) (R : Reg) (p : Int) (a b : List Int), ds = [.ref c, .int p, pt a, pt b] ∧ Dice c R G ∧ Pr p ∧ Rw p a ∧ Rw p b ∧ a.length ≤ 10 ∧ b.length ≤ 10 ∧ ∀ G', Dice c R G' → q (.val (.bl true)) G'
def sp__law_do_fit : DSp := fun ds G q _ => ∃ (c : Addr) (R : Reg) (p : Int) (a b e : List Int), ds = [.ref c, .int p, .lst [pt a, pt b, pt e]] ∧ Dice c R G ∧ Pr p ∧ Rw p a ∧ Rw p b ∧ Rw p e ∧ a.length ≤ 10 ∧ b.length ≤ 10 ∧ e.length ≤ 10 ∧ co e 0 = 0 ∧ ∀ G', Dice c R G' → q (.val (.bl true)) G'
def sp_law : DSp := fun ds G q _ => ∃ ns : List Int, ds = [.scr ns] ∧ ns.length ≤ 63 ∧ ∀ G', q (.val (.bl true)) G'
theorem law_holds : ∀ ns : List Int, ns.length ≤ 63 → sp_law [.scr ns] [] (fun r _ => r = .val (.bl true)) fun _ _ => False := fun ns h => ⟨ns, rfl, h, fun _ => rfl⟩
theorem len_is_residue_of : ∀ ds G q e, sp_is_residue_of ds G q e → ds.length = 2 := fun ds G q e ⟨_, _, h, _⟩ => by rw [h]; rfl
theorem len_are_row_entries : ∀ ds G q e, sp_are_row_entries ds G q e → ds.length = 2 := fun ds G q e ⟨_, _, h, _⟩ => by rw [h]; rfl
theorem len_RowEntries_init : ∀ ds G q e, sp_RowEntries_init ds G q e → ds.length + 1 = 2 := fun ds G q e ⟨_, h, _⟩ => by rw [h]; rfl
theorem len_row_trimmed : ∀ ds G q e, sp_row_trimmed ds G q e → ds.length = 1 := fun ds G q e ⟨_, _, h, _⟩ => by rw [h]; rfl
theorem len_row_made : ∀ ds G q e, sp_row_made ds G q e → ds.length = 2 := fun ds G q e ⟨_, _, _, h, _⟩ => by rw [h]; rfl
theorem len_Row_init : ∀ ds G q e, sp_Row_init ds G q e → ds.length + 1 = 3 := fun ds G q e ⟨_, _, _, h, _⟩ => by rw [h]; rfl
theorem len_row_order : ∀ ds G q e, sp_row_order ds G q e → ds.length = 1 := fun ds G q e ⟨_, h, _⟩ => by rw [h]; rfl
theorem len_row_term : ∀ ds G q e, sp_row_term ds G q e → ds.length = 2 := fun ds G q e ⟨_, _, h, _⟩ => by rw [h]; rfl
theorem len_row_text : ∀ ds G q e, sp_row_text ds G q e → ds.length = 1 := fun ds G q e ⟨_, _, h, _⟩ => by rw [h]; rfl
theorem len_require_row_count : ∀ ds G q e, sp_require_row_count ds G q e → ds.length = 2 := fun ds G q e ⟨_, _, h, _⟩ => by rw [h]; rfl
theorem len_Row_entries : ∀ ds G q e, sp_Row_entries ds G q e → ds.length = 1 := fun ds G q e ⟨_, _, h, _⟩ => by rw [h]; rfl
theorem len_Row_order : ∀ ds G q e, sp_Row_order ds G q e → ds.length = 1 := fun ds G q e ⟨_, _, h, _⟩ => by rw [h]; rfl
theorem len_Row_eq : ∀ ds G q e, sp_Row_eq ds G q e → ds.length = 2 := fun ds G q e ⟨_, _, _, h, _⟩ => by rw [h]; rfl
theorem len_Row_str : ∀ ds G q e, sp_Row_str ds G q e → ds.length = 1 := fun ds G q e ⟨_, _, h, _⟩ => by rw [h]; rfl
theorem len_Row_cut : ∀ ds G q e, sp_Row_cut ds G q e → ds.length = 2 := fun ds G q e ⟨_, _, _, h, _⟩ => by rw [h]; rfl
theorem len__law_trim : ∀ ds G q e, sp__law_trim ds G q e → ds.length = 1 := fun ds G q e ⟨_, _, h, _⟩ => by rw [h]; rfl
theorem len__law_any_row : ∀ ds G q e, sp__law_any_row ds G q e → ds.length = 3 := fun ds G q e ⟨_, _, _, _, h, _⟩ => by rw [h]; rfl
theorem len_law : ∀ ds G q e, sp_law ds G q e → ds.length = 1 := fun ds G q e ⟨_, h, _⟩ => by rw [h]; rfl
end K04

set_option Elab.async false
set_option maxRecDepth 100000
set_option maxHeartbeats 4000000
/-! K04: the plain readings (printed by gen5.py) -/
namespace K04
open PySem PySem.Spec PyProof.Rows L2 L3 LD LN
def t_RowEntries_init (dw : Exc3 → Reg → Prop) : DSt :=
  (dSetA [("RowEntries", 0)] (dVar 1))
def t_row_trimmed (dw : Exc3 → Reg → Prop) : DSt :=
  (dSeq (dSet 1 (dCB bLen (dPCons (dVar 0) dNil)))
    (dSeq (dWhile (dAnd (dTest (dOp oGt (dVar 1) (dC (.int (0))))) (dTest (dOp oEq (dOp oIx (dVar 0) (dOp oSub (dVar 1) (dC (.int (1))))) (dC (.int (0)))))) (dAug 1 oSub (dC (.int (1)))))
    (dRet (dCB bTuple (dPCons (dSl oSl (dVar 0) dNoPart (dPart (dVar 1))) dNil)))))
def t_row_order (dw : Exc3 → Reg → Prop) : DSt :=
  (dSeq (dFor (dEnumA (dCons (dVar 0) dNil)) (gTp 2 (gsCons (gNm 1) (gsCons (gNm 2) gsNil))) (dIfS (dTest (dOp oNe (dVar 2) (dC (.int (0))))) (dRet (dVar 1)) dNext))
    (dRet (dC .non)))
def t_row_term (dw : Exc3 → Reg → Prop) : DSt :=
  (dSeq (dIfS (dTest (dOp oEq (dVar 1) (dC (.int (0))))) (dRet (dCB bStr (dPCons (dVar 0) dNil))) dNext)
    (dSeq (dSet 2 (dIf (dTest (dOp oEq (dVar 0) (dC (.int (1))))) (dC (.str "")) (dCB bStr (dPCons (dVar 0) dNil))))
    (dRet (dIf (dTest (dOp oEq (dVar 1) (dC (.int (1))))) (dOp oAdd (dVar 2) (dC (.str "t"))) (dFstr [(dUn uFmt (dVar 2)), (dUn uFmt (dC (.str "t"))), (dC (.str "^")), (dUn uFmt (dVar 1))])))))
def t_Row_entries (dw : Exc3 → Reg → Prop) : DSt :=
  (dRet (dAttr [("Row", 0)] (dVar 0)))
def t_Row_order (dw : Exc3 → Reg → Prop) : DSt :=
  (dRet (dAttr [("Row", 1)] (dVar 0)))
def t_Row_eq (dw : Exc3 → Reg → Prop) : DSt :=
  (dSeq (dIfS (dNot (dTest (dCB (bIsiA ["RowEntries", "Row"] ["RowEntries", "Row"] [(("RowEntries", "RowEntries"), true), (("RowEntries", "Row"), false), (("Row", "RowEntries"), false), (("Row", "Row"), true)]) (dPCons (dVar 1) (dPCons (dC (.cls "Row")) dNil))))) (dRet (dC (.bl false))) dNext)
    (dRet (dAndV (dOp oEq (dAttr [("Row", 2)] (dVar 0)) (dAttr [("Row", 2)] (dVar 1))) (dOp oEq (dAttr [("Row", 0)] (dVar 0)) (dAttr [("Row", 0)] (dVar 1))))))
def t_Row_str (dw : Exc3 → Reg → Prop) : DSt :=
  (dRet (dUn uFmt (dAttr [("Row", 3)] (dVar 0))))
def t__law_trim (dw : Exc3 → Reg → Prop) : DSt :=
  (dSeq (dSet 1 (dCB bLen (dPCons (dVar 0) dNil)))
    (dSeq (dWhile (dAnd (dTest (dOp oGt (dVar 1) (dC (.int (0))))) (dTest (dOp oEq (dOp oIx (dVar 0) (dOp oSub (dVar 1) (dC (.int (1))))) (dC (.int (0)))))) (dSet 1 (dOp oSub (dVar 1) (dC (.int (1))))))
    (dRet (dCB bTuple (dPCons (dSl oSl (dVar 0) dNoPart (dPart (dVar 1))) dNil)))))
def t_is_residue_of (dw : Exc3 → Reg → Prop) : DSt :=
  (dRet (dAndV (dCall sp_is_whole (fun x _ G => dw x G) (dCons (dVar 1) dNil)) (dChain oLe oLt (dC (.int (0))) (dVar 1) (dVar 0))))
def t_row_text (dw : Exc3 → Reg → Prop) : DSt :=
  (dSeq (dSet 1 (dLc (dEnumA (dCons (dVar 0) dNil)) (gTp 2 (gsCons (gNm 2) (gsCons (gNm 3) gsNil))) (dTest (dOp oNe (dVar 3) (dC (.int (0))))) (dCall sp_row_term dw0 (dCons (dVar 3) (dCons (dVar 2) dNil))) [2, 3]))
    (dRet (dIf (dTest (dOp oNe (dVar 1) (dLst dNil))) (dJoin (dC (.str "+")) (dVar 1)) (dC (.str "0")))))
def t_are_row_entries (dw : Exc3 → Reg → Prop) : DSt :=
  (dSeq (dIfS (dOr (dNot (dTest (dCB (bIsiA ["RowEntries", "Row"] ["RowEntries", "Row"] [(("RowEntries", "RowEntries"), true), (("RowEntries", "Row"), false), (("Row", "RowEntries"), false), (("Row", "Row"), true)]) (dPCons (dVar 1) (dPCons (dC (.ty "tuple")) dNil))))) (dTest (dOp oGt (dCB bLen (dPCons (dVar 1) dNil)) (dC (.int (1000)))))) (dRet (dC (.bl false))) dNext)
    (dSeq (dIfS (dNot (dTest (dCB bAll (dPCons (dLc (dIter (dVar 1)) (gNm 2) dYes (dCall sp_is_residue_of dw0 (dCons (dVar 0) (dCons (dVar 2) dNil))) [2]) dNil)))) (dRet (dC (.bl false))) dNext)
    (dRet (dOrV (dOp oEq (dVar 1) (dTup dNil)) (dOp oNe (dOp oIx (dVar 1) (dUn uNeg (dC (.int (1))))) (dC (.int (0))))))))
def t_require_row_count (dw : Exc3 → Reg → Prop) : DSt :=
  (dIfS (dOr (dNot (dTest (dCall sp_is_integer (fun x _ G => dw x G) (dCons (dVar 0) dNil)))) (dNot (dTest (dChain oLe oLe (dVar 1) (dVar 0) (dC (.int (400))))))) dNever dNext)
def t__law_any_row (dw : Exc3 → Reg → Prop) : DSt :=
  (dSeq (dIfS (dTest (dOp oEq (dCall sp__law_roll (fun x _ G => dw x G) (dCons (dVar 0) (dCons (dC (.int (8))) dNil))) (dC (.int (0))))) (dRet (dTup dNil)) dNext)
    (dSeq (dSet 3 (dOp oAdd (dOp oMul (dLst (dCons (dC (.int (0))) dNil)) (dOp oAdd (dVar 2) (dCall sp__law_pick (fun x _ G => dw x G) (dCons (dVar 0) (dCons (dLst (dCons (dC (.int (0))) (dCons (dC (.int (0))) (dCons (dC (.int (1))) (dCons (dC (.int (3))) dNil))))) dNil))))) (dLc (dRng1 (dCons (dCall sp__law_roll (fun x _ G => dw x G) (dCons (dVar 0) (dCons (dC (.int (5))) dNil))) dNil)) (gNm 4) dYes (dCall sp__law_roll dw0 (dCons (dVar 0) (dCons (dVar 1) dNil))) [4])))
    (dRet (dOp oAdd (dCB bTuple (dPCons (dVar 3) dNil)) (dTup (dCons (dIf (dTest (dOp oGt (dVar 1) (dC (.int (2))))) (dOp oAdd (dC (.int (1))) (dCall sp__law_roll (fun x _ G => dw x G) (dCons (dVar 0) (dCons (dOp oSub (dVar 1) (dC (.int (1)))) dNil)))) (dC (.int (1)))) dNil))))))
def t_Row_init (dw : Exc3 → Reg → Prop) : DSt :=
  (dSeq (dIfS (dTest (dCB (bIsiA ["RowEntries", "Row"] ["RowEntries", "Row"] [(("RowEntries", "RowEntries"), true), (("RowEntries", "Row"), false), (("Row", "RowEntries"), false), (("Row", "Row"), true)]) (dPCons (dVar 2) (dPCons (dC (.cls "RowEntries")) dNil)))) (dSet 3 (dAttr [("RowEntries", 0)] (dVar 2))) (dSeq (dDrop (dCall sp_require_prime (fun x _ G => dw x G) (dCons (dVar 1) dNil)))
    (dSeq (dIfS (dNot (dTest (dCall sp_are_row_entries (fun x _ G => dw x G) (dCons (dVar 1) (dCons (dVar 2) dNil))))) dNever dNext)
    (dSet 3 (dVar 2)))))
    (dSeq (dSetA [("Row", 2)] (dVar 1))
    (dSeq (dSetA [("Row", 0)] (dVar 3))
    (dSeq (dSetA [("Row", 1)] (dCall sp_row_order (fun x _ G => dw x G) (dCons (dVar 3) dNil)))
    (dSetA [("Row", 3)] (dCall sp_row_text (fun x _ G => dw x G) (dCons (dVar 3) dNil)))))))
def t_row_made (dw : Exc3 → Reg → Prop) : DSt :=
  (dRet (dMake "Row" sp_Row_init (dCons (dVar 0) (dCons (dMake "RowEntries" sp_RowEntries_init (dCons (dCall sp_row_trimmed (fun x _ G => dw x G) (dCons (dVar 1) dNil)) dNil)) dNil))))
def t_Row_cut (dw : Exc3 → Reg → Prop) : DSt :=
  (dSeq (dDrop (dCall sp_require_row_count (fun x _ G => dw x G) (dCons (dVar 1) (dCons (dC (.int (0))) dNil))))
    (dRet (dCall sp_row_made (fun x _ G => dw x G) (dCons (dAttr [("Row", 2)] (dVar 0)) (dCons (dSl oSl (dAttr [("Row", 0)] (dVar 0)) dNoPart (dPart (dVar 1))) dNil)))))
def t_law (dw : Exc3 → Reg → Prop) : DSt :=
  (dSeq (dFor (dRng1 (dCons (dCB bMax (dPCons (dC (.int (1))) (dPCons (dCB bMin (dPCons (dC (.int (3))) (dPCons (dCB bLen (dPCons (dVar 0) dNil)) dNil))) dNil))) dNil)) (gNm 1) (dSeq (dSetReg 2 (dCall sp__law_dice (fun x _ G => dw x G) (dCons (dVar 0) (dCons (dVar 1) dNil))))
    (dFor (dRng1 (dCons (dC (.int (2))) dNil)) (gNm 3) (dSeq (dSet 4 (dCall sp__law_pick (fun x _ G => dw x G) (dCons (dVar 2) (dCons (dLst (dCons (dC (.int (2))) (dCons (dC (.int (3))) (dCons (dC (.int (3))) (dCons (dC (.int (5))) (dCons (dC (.int (7))) (dCons (dC (.int (31))) dNil))))))) dNil))))
    (dSeq (dSet 5 (dLst (dCons (dCall sp__law_any_row (fun x _ G => dw x G) (dCons (dVar 2) (dCons (dVar 4) (dCons (dC (.int (0))) dNil)))) (dCons (dCall sp__law_any_row (fun x _ G => dw x G) (dCons (dVar 2) (dCons (dVar 4) (dCons (dC (.int (0))) dNil)))) (dCons (dCall sp__law_any_row (fun x _ G => dw x G) (dCons (dVar 2) (dCons (dVar 4) (dCons (dC (.int (1))) dNil)))) dNil)))))
    (dIfS (dOr (dNot (dTest (dCall sp__law_are_reckoned (fun x _ G => dw x G) (dCons (dVar 2) (dCons (dVar 4) (dCons (dOp oIx (dVar 5) (dC (.int (0)))) (dCons (dOp oIx (dVar 5) (dC (.int (1)))) dNil))))))) (dNot (dTest (dCall sp__law_do_fit (fun x _ G => dw x G) (dCons (dVar 2) (dCons (dVar 4) (dCons (dVar 5) dNil))))))) (dRet (dC (.bl false))) dNext))))))
    (dSeq (dPar 6 7 (dMake "Row" sp_Row_init (dCons (dC (.int (3))) (dCons (dTup (dCons (dC (.int (0))) (dCons (dC (.int (1))) (dCons (dC (.int (2))) dNil)))) dNil))) (dMake "Row" sp_Row_init (dCons (dC (.int (3))) (dCons (dTup (dCons (dC (.int (1))) (dCons (dC (.int (1))) dNil))) dNil))))
    (dSeq (dSet 8 (dLst (dCons (dStrO "Row" sp_Row_str (dPCons (dMeth "Row" sp_Row_times (dVar 6) (dCons (dVar 7) dNil)) dNil)) (dCons (dStrO "Row" sp_Row_str (dPCons (dMeth "Row" sp_Row_composed (dVar 7) (dCons (dVar 6) (dCons (dC (.int (3))) dNil))) dNil)) (dCons (dStrO "Row" sp_Row_str (dPCons (dMeth "Row" sp_Row_raised (dVar 6) (dCons (dC (.int (2))) dNil)) dNil)) (dCons (dStrO "Row" sp_Row_str (dPCons (dMeth "Row" sp_Row_minus (dVar 6) (dCons (dVar 6) dNil)) dNil)) dNil))))))
    (dRet (dOp oEq (dVar 8) (dLst (dCons (dC (.str "t+2t^3")) (dCons (dC (.str "1+t+2t^2")) (dCons (dC (.str "t^2+t^3+t^4")) (dCons (dC (.str "0")) dNil))))))))))
end K04

set_option Elab.async false
set_option maxRecDepth 100000
set_option maxHeartbeats 4000000
/-! K03: reckoned defs (printed by gen5.py) -/
namespace K03
open PySem PySem.Spec PyProof.Rows L2 L3
end K03

set_option maxRecDepth 100000
set_option maxHeartbeats 4000000
/-! LG0: plain facts: Euclid with remainders of the divisor's sign, generators. -/
namespace LG
theorem fm_pos {a b : Int} (h : 0 < b) : 0 ≤ a.fmod b ∧ a.fmod b < b := ⟨Int.fmod_nonneg_of_pos a h, Int.fmod_lt_of_pos a h⟩
theorem fm_neg {a b : Int} (h : b < 0) : b < a.fmod b ∧ a.fmod b ≤ 0 := by
  have e := Int.neg_fmod_neg (-a) (-b)
  rw [Int.neg_neg, Int.neg_neg] at e
  have := fm_pos (a := -a) (b := -b) (by omega)
  omega
theorem fm_lt {a b : Int} (h : b ≠ 0) : (a.fmod b).natAbs < b.natAbs := by
  rcases Int.lt_or_gt_of_ne h with z | z
  · have := fm_neg (a := a) z; omega
  · have := fm_pos (a := a) z; omega
/-- the common divisor by repeated remainders -/
def eu (a b : Int) : Int := if h : b = 0 then a else eu b (a.fmod b)
termination_by b.natAbs
decreasing_by exact fm_lt h
/-! ### generators -/
/-- one more generator y: the divisor so far d, the bound w for y * d -/
def stp (p : Int × Int) (y : Int) : Option (Int × Int) := if eu p.1 y < p.1 ∧ p.2 < y * p.1 then some (eu p.1 y, y * p.1) else none
def run : Int × Int → List Int → Option (Int × Int)
  | p, [] => some p
  | p, y :: ys => match stp p y with
    | some p' => run p' ys
    | none => none
def fin1 : Option (Int × Int) → Bool
  | some p => decide (p.1 = 1)
  | none => false
/-- the look at one place: the divisor before, the generator, those behind -/
def look (d v : Int) (ys : List Int) : Bool := decide (eu d v < d) && fin1 (run (eu d v, v * d) ys)
end LG

set_option Elab.async false
set_option maxRecDepth 100000
set_option maxHeartbeats 4000000
set_option exponentiation.threshold 2000
/-! LG: generators judged by the program: what is_integer, common_of, commons_in, are_orders answer on anything. -/
namespace LG
open PySem PySem.Spec PyProof.Rows L2 L3 LD
open LN (pt sh_pt eqv_pt sh_ints eqv_ints)
local macro_rules | `(tactic| walk_at "ev") => `(tactic| repeat (first | refine lc_stop ?_ | refine for_stop ?_ | refine ⟨_, rfl, ?_⟩ | refine ⟨_, _, rfl, ?_⟩ | refine ⟨rfl, ?_⟩ | refine And.intro (by assumption) ?_ | refine ⟨by decide, ?_⟩ | refine ⟨ltL rfl, ?_⟩ | refine ⟨_, at0, ?_⟩ | refine ⟨_, at1, ?_⟩ | refine ⟨_, at2, ?_⟩ | refine ifT ?_ | refine ifF ?_ | refine ⟨_, _, _, rfl, ?_⟩ | refine ⟨⟨_, rfl⟩, ?_⟩ | refine ⟨_, _, _, _, rfl, ?_⟩))
local macro_rules | `(tactic| walk_at "evn") => `(tactic| repeat (first | refine lc_stop ?_ | refine for_stop ?_ | refine ⟨_, rfl, ?_⟩ | refine ⟨_, _, rfl, ?_⟩ | refine ⟨rfl, ?_⟩ | refine And.intro (by assumption) ?_ | refine ⟨_, at0, ?_⟩ | refine ⟨_, at1, ?_⟩ | refine ⟨_, at2, ?_⟩ | refine ifT ?_ | refine ifF ?_ | refine ⟨_, _, _, rfl, ?_⟩ | refine ⟨⟨_, rfl⟩, ?_⟩ | refine ⟨_, _, _, _, rfl, ?_⟩))
/-- of a class that isinstance knows -/
def Kn (d : D) : Prop := ∃ t, tyN d = some t
def isI : D → Bool
  | .int _ => true
  | _ => false
def isN60 : D → Bool
  | .int i => decide (-(10 ^ 60) < i) && decide (i < 10 ^ 60)
  | _ => false
def Lim (i : Int) : Prop := -(10 ^ 60) < i ∧ i < 10 ^ 60
theorem atm1 {α : Type} {xs : List α} {x : α} (h : xs.getLast? = some x) : atI xs (-1) = some x := by
  have hp : 0 < xs.length := by
    cases xs with
    | nil => cases h
    | cons a b => simp
  unfold atI ixN
  rw [if_neg (by decide), if_pos (by omega), List.getLast?_eq_getElem?] at *
  show xs[((-1 : Int) + xs.length).toNat]? = _
  rw [show ((-1 : Int) + xs.length).toNat = xs.length - 1 by omega]
  exact h
theorem ifND {p : Prop} [Decidable p] {A C : Prop} (h1 : ¬ p → A) (h2 : p → C) : if (!decide p) = true then A else C := by
  by_cases h : p
  · rw [decide_eq_true h]; exact h2 h
  · rw [decide_eq_false h]; exact h1 h
theorem ifNB {b : Bool} {A C : Prop} (h1 : b = false → A) (h2 : b = true → C) : if (!b) = true then A else C := by
  cases b
  · exact h1 rfl
  · exact h2 rfl
def rowF : D → Option D
  | .tup [.int n, .int l, .int m, .int e] => some (.bl (decide (n * m < l * e)))
  | _ => none
theorem mul60 {i j : Int} (h1 : Lim i) (h2 : Lim j) : MulOk i j := by
  have b : ∀ k : Int, Lim k → k.natAbs.log2 < 200 := fun k hk => by
    have : k.natAbs < 2 ^ 200 := by
      have e : (10 : Nat) ^ 60 < 2 ^ 200 := by decide
      unfold Lim at hk
      omega
    rcases Nat.eq_zero_or_pos k.natAbs with z | z
    · rw [z]; decide
    · exact (Nat.log2_lt (by omega)).mpr this
  refine .inr ?_
  unfold CMulW
  have := b i h1
  have := b j h2
  omega
/-! ### promises -/
def sp_is_whole : DSp := fun ds G q _ => ∃ d, ds = [d] ∧ Kn d ∧ q (.val (.bl (isI d))) G
def sp_is_integer : DSp := fun ds G q _ => ∃ d, ds = [d] ∧ Kn d ∧ q (.val (.bl (isN60 d))) G
theorem len_is_whole : ∀ ds G q e, sp_is_whole ds G q e → ds.length = 1 := fun ds G q e ⟨_, h, _⟩ => by rw [h]; rfl
theorem len_is_integer : ∀ ds G q e, sp_is_integer ds G q e → ds.length = 1 := fun ds G q e ⟨_, h, _⟩ => by rw [h]; rfl
def t_is_whole (dw : Exc3 → Reg → Prop) : DSt :=
  (dRet (dAndV (dCB bIsi (dPCons (dVar 0) (dPCons (dC (.ty "int")) dNil))) (dNotV (dCB bIsi (dPCons (dVar 0) (dPCons (dC (.ty "bool")) dNil))))))
def t_is_integer (dw : Exc3 → Reg → Prop) : DSt :=
  (dRet (dAndV (dCall sp_is_whole (fun x _ G => dw x G) (dCons (dVar 0) dNil)) (dChain oLt oLt (dUn uNeg (dC (.int (1000000000000000000000000000000000000000000000000000000000000)))) (dVar 0) (dC (.int (1000000000000000000000000000000000000000000000000000000000000))))))
theorem p_is_whole (N : List Str) (hN : N.length = 1) : ∀ ds G q dw, sp_is_whole ds G q dw → t_is_whole dw { nx := fun _ G' => q (.val .non) G', rt := q } (start3 N ds) G := by
  intro ds G q dw h
  unfold t_is_whole start3
  rw [hN]
  obtain ⟨d, rfl, ⟨t, ht⟩, h⟩ := h
  cases d <;> first
    | (exfalso; cases ht; done)
    | (walk_at "ev"; exact h)
theorem p_is_integer (N : List Str) (hN : N.length = 1) : ∀ ds G q dw, sp_is_integer ds G q dw → t_is_integer dw { nx := fun _ G' => q (.val .non) G', rt := q } (start3 N ds) G := by
  intro ds G q dw h
  unfold t_is_integer start3
  rw [hN]
  obtain ⟨d, rfl, hk, h⟩ := h
  cases d with
  | int i =>
    walk_at "ev"
    refine ifD (fun h1 => ?_) (fun h1 => ?_)
    · walk_at "ev"
      refine qB (q := q) h ?_
      show _ = (decide (-(10 ^ 60) < i) && decide (i < 10 ^ 60))
      rw [decide_eq_true (p := -(10 ^ 60) < i) h1]; rfl
    · walk_at "ev"
      refine qB (q := q) h ?_
      show _ = (decide (-(10 ^ 60) < i) && decide (i < 10 ^ 60))
      rw [decide_eq_false (p := -(10 ^ 60) < i) h1]; rfl
  | _ => first
    | (exfalso; obtain ⟨t, ht⟩ := hk; cases ht; done)
    | (walk_at "ev"; exact h)
theorem row_step {s0 s1 s2 s4 s5 : Sl3} {G : Reg} {n l m e : Int} (q1 : Lim n) (q2 : Lim l) (q3 : Lim m) (q4 : Lim e) {k1 : D → Env3 → Reg → Prop} {k2 : Env3 → Reg → Prop}
    (h1 : ∀ x Ew, rowF (.tup [.int n, .int l, .int m, .int e]) = some x → wipe3 Ew [3, 6, 7, 8] = [s0, s1, s2, .no, s4, s5, .no, .no, .no] → k1 x Ew G) :
    gTp 4 (gsCons (gNm 3) (gsCons (gNm 6) (gsCons (gNm 7) (gsCons (gNm 8) gsNil)))) (.tup [.int n, .int l, .int m, .int e]) [s0, s1, s2, .no, s4, s5, .no, .no, .no] G fun E1 G1 => dYes E1 G1 fun b E2 G2 => if b = true then (dOp oGt (dOp oMul (dVar 6) (dVar 8)) (dOp oMul (dVar 3) (dVar 7))) E2 G2 fun r E3 G3 => ∃ x E4, r.ice E3 = some (x, E4) ∧ k1 x E4 G3 else k2 E2 G2 := by
  have a1 := mul60 q2 q4
  have a2 := mul60 q1 q3
  clear q1 q2 q3 q4
  walk_at "ev"
  exact h1 _ _ rfl rfl
end LG

set_option Elab.async false
set_option maxRecDepth 100000
set_option maxHeartbeats 4000000
set_option exponentiation.threshold 2000
/-! LG2: generators judged by the laws. -/
namespace LG
open PySem PySem.Spec PyProof.Rows L2 L3 LD
open LN (pt sh_pt eqv_pt sh_ints eqv_ints)
local macro_rules | `(tactic| walk_at "ev") => `(tactic| repeat (first | refine lc_stop ?_ | refine for_stop ?_ | refine ⟨_, rfl, ?_⟩ | refine ⟨_, _, rfl, ?_⟩ | refine ⟨rfl, ?_⟩ | refine And.intro (by assumption) ?_ | refine ⟨by decide, ?_⟩ | refine ⟨ltL rfl, ?_⟩ | refine ⟨_, at0, ?_⟩ | refine ⟨_, at1, ?_⟩ | refine ⟨_, at2, ?_⟩ | refine ifT ?_ | refine ifF ?_ | refine ⟨_, _, _, rfl, ?_⟩ | refine ⟨⟨_, rfl⟩, ?_⟩ | refine ⟨_, _, _, _, rfl, ?_⟩))
/-! ### lengths of texts of numbers -/
theorem len60 (i : Int) : (Str.ofString (toString i)).length ≤ 60 ↔ (0 ≤ i → i < 10 ^ 60) ∧ (i < 0 → -(10 ^ 59) < i) := by
  rw [PySem.ofString_length]
  cases i with
  | ofNat m =>
    have e : toString (Int.ofNat m) = Nat.repr m := rfl
    rw [e, Nat.length_repr_le_iff (by decide)]
    have c : ((m : Nat) : Int) = Int.ofNat m := rfl
    rw [← c]
    omega
  | negSucc m =>
    have e : toString (Int.negSucc m) = "-" ++ Nat.repr (m + 1) := rfl
    rw [e, String.length_append]
    have e1 : "-".length = 1 := rfl
    have e2 := Nat.length_repr_le_iff (n := m + 1) (k := 59) (by decide)
    rw [e1]
    constructor
    · intro h
      have := e2.mp (by omega)
      omega
    · intro h
      have := e2.mpr (by omega)
      omega
theorem eqvL_nil_dec (xs : List D) : D.eqv (.lst xs) (.lst []) = decide (xs = []) := by
  rw [eqv_lst]
  cases xs <;> rfl
theorem log300 {i : Int} (h1 : -(10 ^ 300) < i) (h2 : i < 10 ^ 300) : i.natAbs.log2 < 1920 := by
  have e : (10 : Nat) ^ 300 < 2 ^ 1000 := by decide +kernel
  have h : i.natAbs < 2 ^ 1000 := by
    have : i.natAbs < 10 ^ 300 := by omega
    exact Nat.lt_trans this e
  clear e h1 h2
  rcases Nat.eq_zero_or_pos i.natAbs with z | z
  · rw [z]; decide
  · exact Nat.lt_trans ((Nat.log2_lt (Nat.ne_of_gt z)).mpr h) (by decide)
end LG

set_option Elab.async false
set_option maxRecDepth 100000
set_option maxHeartbeats 4000000
set_option exponentiation.threshold 2000
/-! LG3: generators drawn by the laws; the last gap. -/
namespace LG
open PySem PySem.Spec PyProof.Rows L2 L3 LD
open LN (pt sh_pt eqv_pt sh_ints eqv_ints)
local macro_rules | `(tactic| walk_at "ev") => `(tactic| repeat (first | refine lc_stop ?_ | refine for_stop ?_ | refine ⟨_, rfl, ?_⟩ | refine ⟨_, _, rfl, ?_⟩ | refine ⟨rfl, ?_⟩ | refine And.intro (by assumption) ?_ | refine ⟨by decide, ?_⟩ | refine ⟨ltL rfl, ?_⟩ | refine ⟨_, at0, ?_⟩ | refine ⟨_, at1, ?_⟩ | refine ⟨_, at2, ?_⟩ | refine ifT ?_ | refine ifF ?_ | refine ⟨_, _, _, rfl, ?_⟩ | refine ⟨⟨_, rfl⟩, ?_⟩ | refine ⟨_, _, _, _, rfl, ?_⟩))
end LG

set_option Elab.async false
set_option maxRecDepth 100000
set_option maxHeartbeats 4000000
/-! LH0: papers of orders, as plain integers: number = c0 * x + sums of m * g with 0 ≤ m < s, in one way. -/
namespace LG
/-! ### inverses -/
def iv (a m : Int) : Int := match (List.range m.toNat).find? (fun (r : Nat) => decide ((a * (r : Int)) % m = 1)) with
  | some r => (r : Int)
  | none => 0
/-! ### rows: a generator, its share, the divisor behind it; the last first -/
abbrev Rw := Int × Int × Int
def bnd : List Rw → Int
  | [] => 0
  | w :: _ => w.2.1 * w.1
inductive Chn (x : Int) : List Rw → Int → Prop
  | nil : 0 < x → Chn x [] x
  | cons {r : List Rw} {d g s e : Int} : Chn x r d → 0 < g → e = (Int.gcd d g : Int) → d = s * e → 2 ≤ s → bnd r < g → Chn x ((g, s, e) :: r) e
def mm (n : Int) (w : Rw) : Int := (n / w.2.2 * iv (w.1 / w.2.2) w.2.1) % w.2.1
def pp : List Rw → Int → List Int × Int
  | [], n => ([], n)
  | w :: r, n => (mm n w :: (pp r (n - mm n w * w.1)).1, (pp r (n - mm n w * w.1)).2)
def sm : List Rw → List Int → Int
  | w :: r, m :: ms => m * w.1 + sm r ms
  | _, _ => 0
theorem Chn.pos {x : Int} {r : List Rw} {e : Int} (h : Chn x r e) : 0 < x ∧ 0 < e := by
  induction h with
  | nil h => exact ⟨h, h⟩
  | @cons r d g s e h hg he hd hs hb ih =>
    refine ⟨ih.1, ?_⟩
    have h0 : 0 ≤ e := by rw [he]; exact Int.natCast_nonneg _
    rcases Int.lt_or_eq_of_le h0 with z | z
    · exact z
    · rw [← z, Int.mul_zero] at hd
      omega
/-! ### which numbers are orders -/
def Po (r : List Rw) (n : Int) : Prop := 0 ≤ (pp r n).2
theorem Chn.gpos {x : Int} {r : List Rw} {e : Int} (h : Chn x r e) : ∀ w ∈ r, 0 < w.1 := by
  induction h with
  | nil h => exact fun w h => nomatch h
  | @cons r d g s e h hg he hd hs hb ih => exact fun w hw => (List.mem_cons.mp hw).elim (fun z => by rw [z]; exact hg) (ih w)
end LG

set_option Elab.async false
set_option maxRecDepth 100000
set_option maxHeartbeats 4000000
/-! LH1: papers of generators. -/
namespace LG
def rf (d : Int) : List Int → List Rw
  | [] => []
  | y :: ys => (y, d / eu d y, eu d y) :: rf (eu d y) ys
/-- the rows of generators, the last first -/
def rr : List Int → List Rw
  | [] => []
  | x :: ys => (rf x ys).reverse
def g0 (gs : List Int) : Int := gs.headD 0
def Ord (gs : List Int) (n : Int) : Prop := Po (rr gs) n
instance (gs : List Int) (n : Int) : Decidable (Ord gs n) := inferInstanceAs (Decidable (0 ≤ _))
theorem sm_app : ∀ {r q : List Rw} {ms ns : List Int}, r.length = ms.length → sm (r ++ q) (ms ++ ns) = sm r ms + sm q ns
  | [], q, [], ns, _ => by show sm q ns = 0 + sm q ns; rw [Int.zero_add]
  | [], _, _ :: _, _, h => nomatch h
  | _ :: _, _, [], _, h => nomatch h
  | w :: r, q, m :: ms, ns, h => by
    show m * w.1 + sm (r ++ q) (ms ++ ns) = m * w.1 + sm r ms + sm q ns
    rw [sm_app (by simpa using h)]; omega
theorem sm_rev : ∀ {r : List Rw} {ms : List Int}, r.length = ms.length → sm r.reverse ms.reverse = sm r ms
  | [], [], _ => rfl
  | [], _ :: _, h => nomatch h
  | _ :: _, [], h => nomatch h
  | w :: r, m :: ms, h => by
    have h : r.length = ms.length := by simpa using h
    rw [List.reverse_cons, List.reverse_cons, sm_app (by rw [List.length_reverse, List.length_reverse]; exact h), sm_rev h]
    show sm r ms + (m * w.1 + 0) = m * w.1 + sm r ms
    omega
end LG

set_option Elab.async false
set_option maxRecDepth 100000
set_option maxHeartbeats 4000000
/-! LM: comprehensions over a mapped list; zips told by recursion. -/
namespace LM
open PySem PySem.Spec PyProof.Rows L2 L3
theorem ifTq {b : Bool} {A C : Prop} (h : b = true) (hc : A) : if b = true then A else C := by rw [h, if_pos rfl]; exact hc
theorem ifFq {b : Bool} {A C : Prop} (h : b = false) (hc : C) : if b = true then A else C := by rw [h, if_neg Bool.false_ne_true]; exact hc
theorem lc_map {α : Type} {g : DG} {tt : DT} {te : DE} {vs : List Nat} {E : Env3} {G : Reg} (F W : α → D) (P : α → Prop)
    (step : ∀ a (k1 : D → Env3 → Reg → Prop) (k2 : Env3 → Reg → Prop), P a → (∀ Ew, wipe3 Ew vs = E → k1 (W a) Ew G) →
      g (F a) E G fun E1 G1 => tt E1 G1 fun b E2 G2 => if b = true then te E2 G2 fun r E3 G3 => ∃ x E4, r.ice E3 = some (x, E4) ∧ k1 x E4 G3 else k2 E2 G2) :
    ∀ (l : List α) (acc : List D) (k : List D → Env3 → Reg → Prop), (∀ a ∈ l, P a) → k (acc ++ l.map W) E G → dLcL g tt te vs (l.map F) acc E G k
  | [], acc, k, _, h => by simpa using h
  | d :: ds, acc, k, hp, h => step d _ _ (hp d List.mem_cons_self) fun Ew w => by
      rw [w]
      refine lc_map F W P step ds _ k (fun z hz => hp z (List.mem_cons_of_mem _ hz)) ?_
      rw [List.map_cons] at h
      rw [List.append_assoc]
      exact h
theorem lc_map0 {α : Type} {g : DG} {tt : DT} {te : DE} {vs : List Nat} {E : Env3} {G : Reg} (F W : α → D) (P : α → Prop)
    (step : ∀ a (k1 : D → Env3 → Reg → Prop) (k2 : Env3 → Reg → Prop), P a → (∀ Ew, wipe3 Ew vs = E → k1 (W a) Ew G) →
      g (F a) E G fun E1 G1 => tt E1 G1 fun b E2 G2 => if b = true then te E2 G2 fun r E3 G3 => ∃ x E4, r.ice E3 = some (x, E4) ∧ k1 x E4 G3 else k2 E2 G2)
    {l : List α} {k : List D → Env3 → Reg → Prop} (hp : ∀ a ∈ l, P a) (h : k (l.map W) E G) : dLcL g tt te vs (l.map F) [] E G k :=
  lc_map F W P step l [] k hp h
theorem ints_map {α : Type} (f : α → Int) (l : List α) : intsOf (l.map fun i => D.int (f i)) = some (l.map f) := by
  have h := intsOf_map (l.map f)
  rw [List.map_map] at h
  exact h
theorem atI_nat {α : Type} {ds : List α} {i : Nat} {d : α} (h : ds[i]? = some d) : atI ds ((i : Nat) : Int) = some d := by
  have hi : i < ds.length := by
    rw [List.getElem?_eq_some_iff] at h
    exact h.1
  unfold atI ixN
  rw [if_pos (by omega), if_pos (by omega), Int.toNat_natCast]
  exact h
end LM
namespace LG
open PySem PySem.Spec PyProof.Rows L2 L3 LM
theorem Chn.le {x : Int} {r : List Rw} {e : Int} (h : Chn x r e) : e ≤ x ∧ ∀ w ∈ r, 2 ≤ w.2.1 ∧ w.2.1 ≤ x ∧ 0 < w.2.2 ∧ w.2.2 ≤ x := by
  induction h with
  | nil h => exact ⟨Int.le_refl _, fun w h => nomatch h⟩
  | @cons r d g s e h hg he hd hs hb ih =>
    have he0 := (h.cons hg he hd hs hb).pos.2
    have h1 : e * 1 ≤ e * s := Int.mul_le_mul_of_nonneg_left (by omega) (by omega)
    have h2 : s * 1 ≤ s * e := Int.mul_le_mul_of_nonneg_left (by omega) (by omega)
    rw [Int.mul_comm e s] at h1
    refine ⟨by omega, fun w hw => ?_⟩
    rcases List.mem_cons.mp hw with rfl | hw
    · exact ⟨hs, by show s ≤ x; omega, he0, by show e ≤ x; omega⟩
    · exact ih.2 w hw
end LG

set_option Elab.async false
set_option maxRecDepth 100000
set_option maxHeartbeats 4000000
/-! L16: comprehensions with two fors over mapped lists. -/
namespace L3
open PySem PySem.Spec PyProof.Rows L2
theorem rangeD_map (n : Nat) : rangeD 0 n = (List.range n).map fun (k : Nat) => D.int (k : Int) := by
  unfold rangeD
  exact List.map_congr_left fun k _ => by rw [Int.zero_add]
end L3

set_option Elab.async false
set_option maxRecDepth 100000
set_option maxHeartbeats 4000000
set_option exponentiation.threshold 2000
/-! K04: rows cut, told, looked at -/
namespace K04
open PySem PySem.Spec PyProof.Rows L2 L3 LD LM RS
open LN (pt sh_pt eqv_pt sh_ints eqv_ints Pr)
local macro_rules | `(tactic| walk_at "ev") => `(tactic| repeat (first | refine lc_stop ?_ | refine for_stop ?_ | refine ⟨_, rfl, ?_⟩ | refine ⟨_, _, rfl, ?_⟩ | refine ⟨rfl, ?_⟩ | refine And.intro (by assumption) ?_ | refine ⟨by decide, ?_⟩ | refine ⟨ltL rfl, ?_⟩ | refine ⟨_, at0, ?_⟩ | refine ⟨_, at1, ?_⟩ | refine ⟨_, at2, ?_⟩ | refine ifT ?_ | refine ifF ?_ | refine ⟨_, _, _, rfl, ?_⟩ | refine ⟨⟨_, rfl⟩, ?_⟩ | refine ⟨_, _, _, _, rfl, ?_⟩))

theorem p_is_residue_of : ∀ ds G q dw, sp_is_residue_of ds G q dw → t_is_residue_of dw { nx := fun _ G' => q (.val .non) G', rt := q } (start3 ["prime", "value"] ds) G := by
  intro ds G q dw h
  unfold t_is_residue_of
  obtain ⟨p, v, rfl, h⟩ := h
  walk_at "ev"
  refine ifD (fun z => ?_) (fun z => ?_)
  · walk_at "ev"
    rw [show decide (0 ≤ v ∧ v < p) = decide (v < p) by rw [decide_eq_decide]; exact ⟨fun q => q.2, fun q => ⟨z, q⟩⟩] at h
    exact h
  · walk_at "ev"
    rw [decide_eq_false (fun q => z q.1)] at h
    exact h
theorem p_RowEntries_init : ∀ ds G q dw, sp_RowEntries_init ds G q dw → t_RowEntries_init dw { nx := fun E' G' => ∃ gs : List D, E'[0]? = some (Sl3.new "RowEntries" (gs.map some)) ∧ gs ≠ [] ∧ q gs G', rt := fun _ _ => False } (startI "RowEntries" ["self", "entries"] ds) G := by
  intro ds G q dw h
  unfold t_RowEntries_init
  obtain ⟨xs, rfl, h⟩ := h
  walk_at "ev"
  exact ⟨[pt xs], rfl, by simp, h⟩
theorem p_Row_entries : ∀ ds G q dw, sp_Row_entries ds G q dw → t_Row_entries dw { nx := fun _ G' => q (.val .non) G', rt := q } (start3 ["self"] ds) G := by
  intro ds G q dw h
  unfold t_Row_entries
  obtain ⟨p, xs, rfl, h⟩ := h
  walk_at "ev"
  exact h
theorem p_Row_order : ∀ ds G q dw, sp_Row_order ds G q dw → t_Row_order dw { nx := fun _ G' => q (.val .non) G', rt := q } (start3 ["self"] ds) G := by
  intro ds G q dw h
  unfold t_Row_order
  obtain ⟨p, xs, rfl, h⟩ := h
  walk_at "ev"
  exact h
theorem p_Row_str : ∀ ds G q dw, sp_Row_str ds G q dw → t_Row_str dw { nx := fun _ G' => q (.val .non) G', rt := q } (start3 ["self"] ds) G := by
  intro ds G q dw h
  unfold t_Row_str
  obtain ⟨p, xs, rfl, hl, h⟩ := h
  walk_at "ev"
  exact h
theorem p_Row_eq : ∀ ds G q dw, sp_Row_eq ds G q dw → t_Row_eq dw { nx := fun _ G' => q (.val .non) G', rt := q } (start3 ["self", "other"] ds) G := by
  intro ds G q dw h
  unfold t_Row_eq
  obtain ⟨p, xs, ys, rfl, h⟩ := h
  walk_at "ev"
  rw [show D.eqv (.int p) (.int p) = true by rw [eqv_int]; exact decide_eq_true rfl]
  walk_at "ev"
  refine ⟨sh_pt _, sh_pt _, ?_⟩
  rw [eqv_pt]
  walk_at "ev"
  exact h
theorem Sq.len {d : D} {xs : List Int} (h : Sq d xs) {k : Res → Prop} {G : Reg} (hk : k (.val (.int (xs.length : Int)))) : bLen G [d] k := by
  rcases h with rfl | rfl
  · show k (.val (.int ((xs.map D.int).length : Int)))
    rw [List.length_map]; exact hk
  · show k (.val (.int ((xs.map D.int).length : Int)))
    rw [List.length_map]; exact hk
theorem Sq.at {d : D} {xs : List Int} (h : Sq d xs) {k : Res → Prop} {G : Reg} {i : Int} {j : Nat} (hi : i = (j : Int)) (hj : j < xs.length) (hk : k (.val (.int (co xs j)))) : oIx G d (.int i) k := by
  have e : atI (xs.map D.int) i = some (.int (co xs j)) := by
    rw [hi]
    exact LM.atI_nat (by rw [List.getElem?_map, List.getElem?_eq_getElem hj, co_in hj]; rfl)
  rcases h with rfl | rfl
  · exact ⟨_, e, hk⟩
  · exact ⟨_, e, hk⟩
theorem Sq.fz {d : D} {xs : List Int} (h : Sq d xs) (E : Env3) : (Res.val d).fz.get E = some d := rfl
theorem trim_loop {Dn : Ends3} {G : Reg} {d : D} {xs : List Int} {tb : DSt} (hd : Sq d xs) (hl : xs.length ≤ 5000) (hb : ∀ (Dn : Ends3) (k : Int) (G : Reg), Dn.nx [.val d, .val (.int (k - 1))] G → tb Dn [.val d, .val (.int k)] G)
    (h : ∀ k : Nat, k ≤ xs.length → xs.take k = trimL xs → Dn.nx [.val d, .val (.int (k : Int))] G) :
    dWhile (dAnd (dTest (dOp oGt (dVar 1) (dC (.int (0))))) (dTest (dOp oEq (dOp oIx (dVar 0) (dOp oSub (dVar 1) (dC (.int (1))))) (dC (.int (0)))))) tb Dn [.val d, .val (.int (xs.length : Int))] G := by
  refine ⟨xs.length + 1, ?_⟩
  refine wh_ind (fun n E G' => G' = G ∧ ∃ k : Nat, k ≤ n ∧ k ≤ xs.length ∧ (∀ i, k ≤ i → co xs i = 0) ∧ E = [.val d, .val (.int (k : Int))]) (fun n E G1 nx hI hn => ?_) _ _ _ ⟨rfl, xs.length, Nat.le_refl _, Nat.le_refl _, fun i hi => co_out hi, rfl⟩
  obtain ⟨rfl, k, hk, hkl, hz, rfl⟩ := hI
  walk_at "ev"
  refine ifD (fun z => ?_) (fun z => ?_)
  · have k0 : 0 < k := by omega
    walk_at "ev"
    refine Sq.at hd (i := (k : Int) - 1) (j := k - 1) (by omega) (by omega) ?_
    walk_at "ev"
    refine ifE (fun y => ?_) (fun y => ?_)
    · clear h
      refine hb _ _ _ ?_
      refine hn _ _ (n - 1) (by omega) ⟨rfl, k - 1, by omega, by omega, fun i hi => ?_, ?_⟩
      · by_cases q : i = k - 1
        · rw [q]; exact y
        · exact hz i (by omega)
      · rw [show ((k - 1 : Nat) : Int) = (k : Int) - 1 by omega]
    · walk_at "ev"
      exact h k hkl (trim_take hkl hz (.inr y))
  · walk_at "ev"
    exact h k hkl (trim_take hkl hz (.inl (by omega)))
theorem p_row_trimmed : ∀ ds G q dw, sp_row_trimmed ds G q dw → t_row_trimmed dw { nx := fun _ G' => q (.val .non) G', rt := q } (start3 ["entries", "size"] ds) G := by
  intro ds G q dw h
  unfold t_row_trimmed
  obtain ⟨d, xs, rfl, hd, hl, h⟩ := h
  have hS := sizeLine_eq
  walk_at "ev"
  refine hd.len ?_
  walk_at "ev"
  refine trim_loop hd hl (fun Dn k G hk => ?_) (fun k hk e => ?_)
  · walk_at "ev"
    exact hk
  · rcases hd with rfl | rfl
    · walk_at "ev"
      rw [cut_to, ← List.map_take, e]
      exact h
    · walk_at "ev"
      rw [cut_to, ← List.map_take, e]
      exact h
theorem p__law_trim : ∀ ds G q dw, sp__law_trim ds G q dw → t__law_trim dw { nx := fun _ G' => q (.val .non) G', rt := q } (start3 ["_law_row", "_law_size"] ds) G := by
  intro ds G q dw h
  unfold t__law_trim
  obtain ⟨d, xs, rfl, hd, hl, h⟩ := h
  have hS := sizeLine_eq
  walk_at "ev"
  refine hd.len ?_
  walk_at "ev"
  refine trim_loop hd hl (fun Dn k G hk => ?_) (fun k hk e => ?_)
  · walk_at "ev"
    exact hk
  · rcases hd with rfl | rfl
    · walk_at "ev"
      rw [cut_to, ← List.map_take, e]
      walk_at "ev"
      exact h
    · walk_at "ev"
      rw [cut_to, ← List.map_take, e]
      walk_at "ev"
      exact h
/-- a row from an entry on, with the places of its entries -/
def enm : Nat → List Int → List D
  | _, [] => []
  | i, x :: xs => .tup [.int (i : Int), .int x] :: enm (i + 1) xs
theorem enum_enm : ∀ (xs : List Int) (n : Nat), enumFrom n (xs.map D.int) = enm n xs
  | [], _ => rfl
  | x :: xs, n => by rw [List.map_cons, enumFrom, enum_enm xs (n + 1)]; rfl
theorem p_row_order : ∀ ds G q dw, sp_row_order ds G q dw → t_row_order dw { nx := fun _ G' => q (.val .non) G', rt := q } (start3 ["entries", "power", "entry"] ds) G := by
  intro ds G q dw h
  unfold t_row_order
  obtain ⟨xs, rfl, hl, h⟩ := h
  walk_at "ev"
  rw [enum_enm]
  refine .go ?_
  refine for_ind (fun ds E G' => G' = G ∧ ∃ (i : Nat) (ys : List Int) (s1 s2 : Sl3), ds = enm i ys ∧ (ordN xs = (ordN ys).map (· + i)) ∧ E = [.val (pt xs), s1, s2]) (fun E G1 hI => ?_) (fun d0 ds E G1 nx hI hn => ?_) _ _ _ ⟨rfl, 0, xs, _, _, rfl, by cases ordN xs <;> rfl, rfl⟩
  · obtain ⟨rfl, i, ys, s1, s2, e, ho, rfl⟩ := hI
    cases ys with
    | cons y ys => cases e
    | nil =>
      have : ordD xs = .non := by unfold ordD; rw [ho]; rfl
      rw [this] at h
      walk_at "ev"
      exact h
  · obtain ⟨rfl, i, ys, s1, s2, e, ho, rfl⟩ := hI
    cases ys with
    | nil => cases e
    | cons y ys =>
      obtain ⟨rfl, rfl⟩ := List.cons.inj e
      walk_at "ev"
      refine ifNE (fun z => ?_) (fun z => ?_)
      · have : ordD xs = .int (i : Int) := by
          unfold ordD
          rw [ho, ordN, if_neg z]
          show D.int (((0 + i : Nat) : Int)) = _
          rw [Nat.zero_add]
        rw [this] at h
        walk_at "ev"
        exact h
      · refine hn _ _ ⟨rfl, i + 1, ys, _, _, rfl, ?_, rfl⟩
        rw [ho, ordN, if_pos z, Option.map_map]
        congr 1
        funext n
        show n + 1 + i = n + (i + 1)
        omega
end K04

set_option Elab.async false
set_option maxRecDepth 100000
set_option maxHeartbeats 4000000
set_option exponentiation.threshold 2000
/-! K04: rows made, their texts -/
namespace K04
open PySem PySem.Spec PyProof.Rows L2 L3 LD LM RS
open LN (pt sh_pt eqv_pt sh_ints eqv_ints Pr)
local macro_rules | `(tactic| walk_at "ev") => `(tactic| repeat (first | refine lc_stop ?_ | refine for_stop ?_ | refine ⟨_, rfl, ?_⟩ | refine ⟨_, _, rfl, ?_⟩ | refine ⟨rfl, ?_⟩ | refine And.intro (by assumption) ?_ | refine ⟨by decide, ?_⟩ | refine ⟨ltL rfl, ?_⟩ | refine ⟨_, at0, ?_⟩ | refine ⟨_, at1, ?_⟩ | refine ⟨_, at2, ?_⟩ | refine ifT ?_ | refine ifF ?_ | refine ⟨_, _, _, rfl, ?_⟩ | refine ⟨⟨_, rfl⟩, ?_⟩ | refine ⟨_, _, _, _, rfl, ?_⟩))

theorem atm1 {α : Type} {xs : List α} {x : α} (h : xs.getLast? = some x) : atI xs (-1) = some x := by
  have hp : 0 < xs.length := by
    cases xs with
    | nil => cases h
    | cons a b => simp
  unfold atI ixN
  rw [if_neg (by decide), if_pos (by omega), List.getLast?_eq_getElem?] at *
  show xs[((-1 : Int) + xs.length).toNat]? = _
  rw [show ((-1 : Int) + xs.length).toNat = xs.length - 1 by omega]
  exact h
theorem bls_true {α : Type} : ∀ l : List α, blsOf (l.map fun _ => D.bl true) = some (l.map fun _ => true)
  | [] => rfl
  | a :: l => by
    have ih := bls_true l
    show (blsOf (l.map fun _ => D.bl true)).map (true :: ·) = _
    rw [ih]; rfl
theorem all_true {α : Type} : ∀ l : List α, (l.map fun _ => true).all id = true
  | [] => rfl
  | a :: l => by rw [List.map_cons, List.all_cons, all_true l]; rfl
theorem p_are_row_entries : ∀ ds G q dw, sp_are_row_entries ds G q dw → t_are_row_entries dw { nx := fun _ G' => q (.val .non) G', rt := q } (start3 ["prime", "value", "entry"] ds) G := by
  intro ds G q dw h
  unfold t_are_row_entries
  obtain ⟨p, xs, rfl, hr, hl, h⟩ := h
  have hS := sizeLine_eq
  walk_at "ev"
  refine ifFq (decide_eq_false (by rw [List.length_map]; omega)) ?_
  walk_at "ev"
  refine ⟨by rw [List.length_map]; omega, ?_⟩
  refine lc_map0 D.int (fun _ => D.bl true) (fun x => 0 ≤ x ∧ x < p) (fun x k1 k2 hx e2 => ?_) (fun x hx => hr.res x hx) ?_
  · clear h
    walk_at "ev"
    rw [decide_eq_true hx]
    walk_at "ev"
    exact e2 _ rfl
  · walk_at "ev"
    refine ⟨_, bls_true xs, ?_⟩
    rw [show (fun bs : List Bool => bs.all id) (xs.map fun _ => true) = true from all_true xs]
    walk_at "ev"
    refine ⟨sh_pt _, sh_pt [], ?_⟩
    rw [show D.eqv (pt xs) (D.tup []) = decide (xs = []) from eqv_pt xs []]
    walk_at "ev"
    refine ifD (fun z => ?_) (fun z => ?_)
    · walk_at "ev"
      exact h
    · obtain ⟨l, hla, l0⟩ : ∃ l, xs.getLast? = some l ∧ l ≠ 0 := by
        have := trim_last (xs := xs)
        rw [hr.trm] at this
        exact this.resolve_left z
      walk_at "ev"
      refine ⟨_, atm1 (by rw [List.getLast?_map, hla]; rfl), ?_⟩
      walk_at "ev"
      rw [show (!D.eqv (D.int l) (D.int 0)) = true by rw [eqv_int, decide_eq_false l0]; rfl]
      exact h
theorem p_row_made : ∀ ds G q dw, sp_row_made ds G q dw → t_row_made dw { nx := fun _ G' => q (.val .non) G', rt := q } (start3 ["prime", "entries"] ds) G := by
  intro ds G q dw h
  unfold t_row_made
  obtain ⟨p, d, xs, rfl, hd, hp, hr, hl, h⟩ := h
  have h5 : xs.length ≤ 5000 := by omega
  walk_at "ev"
  refine ⟨d, xs, rfl, hd, h5, ?_⟩
  walk_at "ev"
  refine ⟨p, reD (trimL xs), trimL xs, rfl, hp, ⟨fun x hx => hr x (trim_mem hx), trim_trim xs⟩, .inl ⟨rfl, by have := trim_len xs; omega⟩, ?_⟩
  walk_at "ev"
  exact h
theorem p_Row_init : ∀ ds G q dw, sp_Row_init ds G q dw → t_Row_init dw { nx := fun E' G' => ∃ gs : List D, E'[0]? = some (Sl3.new "Row" (gs.map some)) ∧ gs ≠ [] ∧ q gs G', rt := fun _ _ => False } (startI "Row" ["self", "prime", "entries", "row"] ds) G := by
  intro ds G q dw h
  unfold t_Row_init
  obtain ⟨p, d, xs, rfl, hp, hr, hd, h⟩ := h
  rcases hd with ⟨rfl, hl⟩ | ⟨rfl, hl⟩
  · walk_at "ev"
    refine ⟨p, xs, rfl, hp, hr.res, hl, ?_⟩
    walk_at "ev"
    exact ⟨[pt xs, ordD xs, .int p, .str (rtx xs)], rfl, by simp, h⟩
  · have hl3 : xs.length ≤ 3000 := by omega
    walk_at "ev"
    refine ⟨p, xs, rfl, hp, hr.res, hl3, ?_⟩
    walk_at "ev"
    exact ⟨[pt xs, ordD xs, .int p, .str (rtx xs)], rfl, by simp, h⟩
theorem sI_len {i : Int} (h0 : 0 ≤ i) (h1 : i < 100000) : (sI i).length ≤ 60 := (LG.len60 i).mpr ⟨fun _ => by omega, fun z => by omega⟩
theorem log_small {i : Int} (h0 : 0 ≤ i) (h1 : i < 100000) : i.natAbs.log2 < 1920 := LG.log300 (by omega) (by omega)
theorem p_row_term : ∀ ds G q dw, sp_row_term ds G q dw → t_row_term dw { nx := fun _ G' => q (.val .non) G', rt := q } (start3 ["entry", "power", "head"] ds) G := by
  intro ds G q dw h
  unfold t_row_term
  obtain ⟨e, i, rfl, h0, h1, hi, h⟩ := h
  have hS := sizeLine_eq
  have le := sI_len h0 (show e < 100000 by omega)
  have li := sI_len (show 0 ≤ (i : Int) by omega) (show (i : Int) < 100000 by omega)
  have lge := log_small h0 (show e < 100000 by omega)
  have lgi := log_small (show 0 ≤ (i : Int) by omega) (show (i : Int) < 100000 by omega)
  walk_at "ev"
  refine ifE (fun z => ?_) (fun z => ?_)
  · have i0 : i = 0 := by omega
    rw [show tmS e i = sI e from if_pos i0] at h
    walk_at "ev"
    exact h
  have i0 : i ≠ 0 := by omega
  have le' : (Str.ofString (toString e)).length ≤ 60 := le
  have li' : (Str.ofString (toString (i : Int))).length ≤ 60 := li
  have t1 : (Str.ofString "t").length = 1 := rfl
  have t2 : (Str.ofString "^").length = 1 := rfl
  have t0 : (Str.ofString "").length = 0 := rfl
  have e4 : ∀ hd : Str, (Str.empty ++ hd ++ Str.ofString "t" ++ Str.ofString "^" ++ Str.ofString (toString (i : Int)) : Str) = hd ++ (("t" : Str) ++ ("^" : Str) ++ sI (i : Int)) := fun hd => by rw [Str.empty_append, Str.append_assoc, Str.append_assoc, Str.append_assoc]; rfl
  walk_at "ev"
  refine ifE (fun y => ?_) (fun y => ?_)
  · walk_at "ev"
    refine ifE (fun y2 => ?_) (fun y2 => ?_)
    · rw [show tmS e i = (Str.ofString "") ++ ("t" : Str) from (if_neg i0).trans (by rw [if_pos y, if_pos (show i = 1 by omega)])] at h
      walk_at "ev"
      exact h
    · rw [show tmS e i = (Str.ofString "") ++ (("t" : Str) ++ ("^" : Str) ++ sI (i : Int)) from (if_neg i0).trans (by rw [if_pos y, if_neg (show ¬ i = 1 by omega)]), ← e4] at h
      walk_at "ev"
      refine ⟨by rw [Str.empty_append, Str.length_append, Str.length_append, Str.length_append, t0, t1, t2]; omega, ?_⟩
      walk_at "ev"
      exact h
  · walk_at "ev"
    refine ifE (fun y2 => ?_) (fun y2 => ?_)
    · rw [show tmS e i = sI e ++ ("t" : Str) from (if_neg i0).trans (by rw [if_neg y, if_pos (show i = 1 by omega)])] at h
      walk_at "ev"
      refine ⟨by rw [t1]; omega, ?_⟩
      walk_at "ev"
      exact h
    · rw [show tmS e i = sI e ++ (("t" : Str) ++ ("^" : Str) ++ sI (i : Int)) from (if_neg i0).trans (by rw [if_neg y, if_neg (show ¬ i = 1 by omega)]), ← e4] at h
      walk_at "ev"
      refine ⟨by omega, ?_⟩
      walk_at "ev"
      refine ⟨by rw [Str.empty_append]; omega, ?_⟩
      walk_at "ev"
      refine ⟨by rw [Str.empty_append, Str.length_append]; omega, ?_⟩
      walk_at "ev"
      refine ⟨by rw [Str.empty_append, Str.length_append, Str.length_append]; omega, ?_⟩
      walk_at "ev"
      refine ⟨by rw [Str.empty_append, Str.length_append, Str.length_append, Str.length_append]; omega, ?_⟩
      walk_at "ev"
      exact h
end K04

set_option Elab.async false
set_option maxRecDepth 100000
set_option maxHeartbeats 4000000
/-! LR: the text of a tuple or list of ints. -/
namespace LR
open PySem PySem.Spec PyProof.Rows L2 L3
open LN (pt)
theorem ok_of (s : String) : strOkC (Str.ofString s) = true := by
  rw [PySem.Str.ofString_eq_toList]
  refine List.all_eq_true.mpr fun c hc => ?_
  have hc : c ∈ s.toList.map Char.toNat := by simpa using hc
  obtain ⟨x, _, rfl⟩ := List.mem_map.mp hc
  refine Nat.blt_eq.mpr ?_
  have := x.valid
  rcases this with h | h
  · show x.val.toNat < _
    omega
  · show x.val.toNat < _
    omega
theorem ok_app {a b : Str} (h1 : strOkC a = true) (h2 : strOkC b = true) : strOkC (a ++ b) = true := by
  unfold strOkC at *
  rw [PySem.Str.cps_append, Array.toList_append, List.all_append, h1, h2]; rfl
theorem ok_join {s : Str} (hs : strOkC s = true) : ∀ {ts : List Str}, (∀ t ∈ ts, strOkC t = true) → strOkC (Str.join s ts) = true
  | [], _ => rfl
  | [x], h => h x List.mem_cons_self
  | x :: y :: r, h => ok_app (ok_app (h x List.mem_cons_self) hs) (ok_join hs fun t ht => h t (List.mem_cons_of_mem _ ht))
end LR

set_option Elab.async false
set_option maxRecDepth 100000
set_option maxHeartbeats 4000000
set_option exponentiation.threshold 2000
/-! K04: texts of rows -/
namespace K04
open PySem PySem.Spec PyProof.Rows L2 L3 LD LM RS
open LG (ifND)
open LN (pt sh_pt eqv_pt sh_ints eqv_ints Pr)
local macro_rules | `(tactic| walk_at "ev") => `(tactic| repeat (first | refine lc_stop ?_ | refine for_stop ?_ | refine ⟨_, rfl, ?_⟩ | refine ⟨_, _, rfl, ?_⟩ | refine ⟨rfl, ?_⟩ | refine And.intro (by assumption) ?_ | refine ⟨by decide, ?_⟩ | refine ⟨ltL rfl, ?_⟩ | refine ⟨_, at0, ?_⟩ | refine ⟨_, at1, ?_⟩ | refine ⟨_, at2, ?_⟩ | refine ifT ?_ | refine ifF ?_ | refine ⟨_, _, _, rfl, ?_⟩ | refine ⟨⟨_, rfl⟩, ?_⟩ | refine ⟨_, _, _, _, rfl, ?_⟩))

theorem tm_ok (e : Int) (i : Nat) : strOkC (tmS e i) = true := by
  unfold tmS sI
  split
  · exact LR.ok_of _
  · refine LR.ok_app ?_ ?_
    · split
      · exact LR.ok_of ""
      · exact LR.ok_of _
    · split
      · exact LR.ok_of "t"
      · exact LR.ok_app (LR.ok_app (LR.ok_of "t") (LR.ok_of "^")) (LR.ok_of _)
theorem tms_ok : ∀ (xs : List Int) (i : Nat), (tms i xs).all strOkC = true
  | [], _ => rfl
  | x :: xs, i => by
    unfold tms
    split
    · exact tms_ok xs (i + 1)
    · rw [List.all_cons, tm_ok, tms_ok xs (i + 1)]; rfl
theorem tms_len : ∀ (xs : List Int) (i : Nat), (tms i xs).length ≤ xs.length
  | [], _ => Nat.le_refl _
  | x :: xs, i => by
    have := tms_len xs (i + 1)
    unfold tms
    split
    · rw [List.length_cons]; omega
    · rw [List.length_cons, List.length_cons]; omega
theorem tm_len {e : Int} {i : Nat} (h0 : 0 ≤ e) (h1 : e < 100) (hi : i < 10000) : (tmS e i).length ≤ 130 := by
  have le := sI_len h0 (show e < 100000 by omega)
  have li := sI_len (show 0 ≤ (i : Int) by omega) (show (i : Int) < 100000 by omega)
  have t1 : (Str.ofString "t").length = 1 := rfl
  have t2 : (Str.ofString "^").length = 1 := rfl
  have t0 : (Str.ofString "").length = 0 := rfl
  unfold tmS
  split
  · omega
  · rw [Str.length_append]
    have a : (if e = 1 then ("" : Str) else sI e).length ≤ 60 := by
      split
      · omega
      · exact le
    have b : (if i = 1 then ("t" : Str) else ("t" : Str) ++ ("^" : Str) ++ sI (i : Int)).length ≤ 62 := by
      split
      · omega
      · rw [Str.length_append, Str.length_append]; omega
    omega
theorem tms_sum {p : Int} (hp : p ≤ 31) : ∀ (xs : List Int) (i : Nat), (∀ x ∈ xs, 0 ≤ x ∧ x < p) → i + xs.length ≤ 5000 → ((tms i xs).map (·.length)).sum ≤ 130 * xs.length
  | [], _, _, _ => Nat.le_refl _
  | x :: xs, i, h, hi => by
    rw [List.length_cons] at hi ⊢
    have ih := tms_sum hp xs (i + 1) (fun y hy => h y (List.mem_cons_of_mem _ hy)) (by omega)
    have hx := h x List.mem_cons_self
    unfold tms
    split
    · omega
    · have := tm_len hx.1 (show x < 100 by omega) (show i < 10000 by omega)
      rw [List.map_cons, List.sum_cons]; omega
theorem texts_str : ∀ ys : List Str, textsD (.lst (ys.map D.str)) = some ys := by
  intro ys
  show strsOf (ys.map D.str) = some ys
  induction ys with
  | nil => rfl
  | cons y ys ih =>
    show (strsOf (ys.map D.str)).map (y :: ·) = _
    rw [ih]; rfl
theorem p_row_text : ∀ ds G q dw, sp_row_text ds G q dw → t_row_text dw { nx := fun _ G' => q (.val .non) G', rt := q } (start3 ["entries", "terms", "power", "entry"] ds) G := by
  intro ds G q dw h
  unfold t_row_text
  obtain ⟨p, xs, rfl, hp, hr, hl, h⟩ := h
  have hS := sizeLine_eq
  have hp31 := (LN.Pr.le hp).2
  have hsum := tms_sum hp31 xs 0 hr (by omega)
  have htl := tms_len xs 0
  walk_at "ev"
  rw [enum_enm]
  have hel : ∀ (ys : List Int) (i : Nat), (enm i ys).length = ys.length := fun ys => by
    induction ys with
    | nil => intro i; rfl
    | cons y ys ih => intro i; show (enm (i + 1) ys).length + 1 = _; rw [ih, List.length_cons]
  refine ⟨by rw [hel]; omega, ?_⟩
  have lc : ∀ (ys : List Int) (i : Nat) (acc : List D) (k : List D → Env3 → Reg → Prop), (∀ y ∈ ys, 0 ≤ y ∧ y < p) → i + ys.length ≤ 5000 → k (acc ++ (tms i ys).map D.str) [.val (pt xs), .no, .no, .no] G →
      dLcL (gTp 2 (gsCons (gNm 2) (gsCons (gNm 3) gsNil))) (dTest (dOp oNe (dVar 3) (dC (.int (0))))) (dCall sp_row_term dw0 (dCons (dVar 3) (dCons (dVar 2) dNil))) [2, 3] (enm i ys) acc [.val (pt xs), .no, .no, .no] G k := by
    intro ys
    induction ys with
    | nil =>
      intro i acc k _ _ hk
      have hk : k (acc ++ []) _ G := hk
      rw [List.append_nil] at hk
      exact hk
    | cons y ys ih =>
      intro i acc k hy hi hk
      rw [List.length_cons] at hi
      have hy0 := hy y List.mem_cons_self
      have ih2 := ih (i + 1)
      clear h ih
      show (gTp 2 (gsCons (gNm 2) (gsCons (gNm 3) gsNil))) (.tup [.int (i : Int), .int y]) _ _ _
      walk_at "ev"
      refine ifNE (fun z => ?_) (fun z => ?_)
      · walk_at "ev"
        refine ⟨hy0.1, by omega, by omega, ?_⟩
        walk_at "ev"
        refine .go (ih2 _ k (fun w hw => hy w (List.mem_cons_of_mem _ hw)) (by omega) ?_)
        rw [tms, if_neg z, List.map_cons] at hk
        rw [List.append_assoc]
        exact hk
      · refine ih2 acc k (fun w hw => hy w (List.mem_cons_of_mem _ hw)) (by omega) ?_
        rw [tms, if_pos z] at hk
        exact hk
  refine lc xs 0 [] _ hr (by omega) ?_
  rw [List.nil_append]
  have hok := sh_ss (tms 0 xs) (tms_ok xs 0)
  have hrt : rtx xs = if tms 0 xs = [] then ("0" : Str) else Txt.join ("+" : Str) (tms 0 xs) := rfl
  generalize tms 0 xs = ts at hok hrt hsum htl
  rw [hrt] at h
  walk_at "ev"
  rw [LG.eqvL_nil_dec]
  refine ifND (fun z => ?_) (fun z => ?_)
  · have z' : ts ≠ [] := fun q => z (by rw [q]; rfl)
    rw [if_neg z'] at h
    walk_at "ev"
    refine ⟨_, texts_str ts, by rw [show (Str.ofString "+").length = 1 from rfl]; omega, ?_⟩
    walk_at "ev"
    exact h
  · have z' : ts = [] := List.map_eq_nil_iff.mp z
    rw [if_pos z'] at h
    walk_at "ev"
    exact h
end K04

set_option Elab.async false
set_option maxRecDepth 100000
set_option maxHeartbeats 4000000
set_option exponentiation.threshold 2000
/-! K04: sums, multiples -/
namespace K04
open PySem PySem.Spec PyProof.Rows L2 L3 LD LM RS
open LG (ifND)
open LN (pt sh_pt eqv_pt sh_ints eqv_ints Pr)
local macro_rules | `(tactic| walk_at "ev") => `(tactic| repeat (first | refine lc_stop ?_ | refine for_stop ?_ | refine ⟨_, rfl, ?_⟩ | refine ⟨_, _, rfl, ?_⟩ | refine ⟨rfl, ?_⟩ | refine And.intro (by assumption) ?_ | refine ⟨by decide, ?_⟩ | refine ⟨ltL rfl, ?_⟩ | refine ⟨_, at0, ?_⟩ | refine ⟨_, at1, ?_⟩ | refine ⟨_, at2, ?_⟩ | refine ifT ?_ | refine ifF ?_ | refine ⟨_, _, _, rfl, ?_⟩ | refine ⟨⟨_, rfl⟩, ?_⟩ | refine ⟨_, _, _, _, rfl, ?_⟩))

theorem p_require_row_count : ∀ ds G q dw, sp_require_row_count ds G q dw → t_require_row_count dw { nx := fun _ G' => q (.val .non) G', rt := q } (start3 ["value", "least"] ds) G := by
  intro ds G q dw h
  unfold t_require_row_count
  obtain ⟨v, l, rfl, h0, h1, h2, h⟩ := h
  walk_at "ev"
  refine ⟨⟨by omega, by omega⟩, ?_⟩
  walk_at "ev"
  refine ifD (fun _ => ?_) (fun z => absurd h0 z)
  walk_at "ev"
  show if (!decide (v ≤ 400)) = true then _ else _
  rw [decide_eq_true h1]
  walk_at "ev"
  exact h
end K04

set_option Elab.async false
set_option maxRecDepth 100000
set_option maxHeartbeats 4000000
set_option exponentiation.threshold 2000
/-! K04: products -/
namespace K04
open PySem PySem.Spec PyProof.Rows L2 L3 LD LM RS
open LG (ifND)
open LN (pt sh_pt eqv_pt sh_ints eqv_ints Pr)
local macro_rules | `(tactic| walk_at "ev") => `(tactic| repeat (first | refine lc_stop ?_ | refine for_stop ?_ | refine ⟨_, rfl, ?_⟩ | refine ⟨_, _, rfl, ?_⟩ | refine ⟨rfl, ?_⟩ | refine And.intro (by assumption) ?_ | refine ⟨by decide, ?_⟩ | refine ⟨ltL rfl, ?_⟩ | refine ⟨_, at0, ?_⟩ | refine ⟨_, at1, ?_⟩ | refine ⟨_, at2, ?_⟩ | refine ifT ?_ | refine ifF ?_ | refine ⟨_, _, _, rfl, ?_⟩ | refine ⟨⟨_, rfl⟩, ?_⟩ | refine ⟨_, _, _, _, rfl, ?_⟩))

theorem ixN_nat {n k : Nat} (h : k < n) : ixN n (k : Int) = some k := by
  unfold ixN
  rw [if_pos (by omega), if_pos (by omega), Int.toNat_natCast]
/-- the first i rows of a product -/
def part (a b : List Int) (i : Nat) (k : Nat) : Int := sm i fun j => if j ≤ k then co a j * co b (k - j) else 0
end K04

set_option Elab.async false
set_option maxRecDepth 100000
set_option maxHeartbeats 4000000
set_option exponentiation.threshold 2000
/-! K04: products, the walk -/
namespace K04
open PySem PySem.Spec PyProof.Rows L2 L3 LD LM RS
open LG (ifND)
open LN (pt sh_pt eqv_pt sh_ints eqv_ints Pr)
local macro_rules | `(tactic| walk_at "ev") => `(tactic| repeat (first | refine lc_stop ?_ | refine for_stop ?_ | refine ⟨_, rfl, ?_⟩ | refine ⟨_, _, rfl, ?_⟩ | refine ⟨rfl, ?_⟩ | refine And.intro (by assumption) ?_ | refine ⟨by decide, ?_⟩ | refine ⟨ltL rfl, ?_⟩ | refine ⟨_, at0, ?_⟩ | refine ⟨_, at1, ?_⟩ | refine ⟨_, at2, ?_⟩ | refine ifT ?_ | refine ifF ?_ | refine ⟨_, _, _, rfl, ?_⟩ | refine ⟨⟨_, rfl⟩, ?_⟩ | refine ⟨_, _, _, _, rfl, ?_⟩))

end K04

set_option Elab.async false
set_option maxRecDepth 100000
set_option maxHeartbeats 4000000
set_option exponentiation.threshold 2000
/-! K04: methods -/
namespace K04
open PySem PySem.Spec PyProof.Rows L2 L3 LD LM RS
open LG (ifND)
open LN (pt sh_pt eqv_pt sh_ints eqv_ints Pr)
local macro_rules | `(tactic| walk_at "ev") => `(tactic| repeat (first | refine lc_stop ?_ | refine for_stop ?_ | refine ⟨_, rfl, ?_⟩ | refine ⟨_, _, rfl, ?_⟩ | refine ⟨rfl, ?_⟩ | refine And.intro (by assumption) ?_ | refine ⟨by decide, ?_⟩ | refine ⟨ltL rfl, ?_⟩ | refine ⟨_, at0, ?_⟩ | refine ⟨_, at1, ?_⟩ | refine ⟨_, at2, ?_⟩ | refine ifT ?_ | refine ifF ?_ | refine ⟨_, _, _, rfl, ?_⟩ | refine ⟨⟨_, rfl⟩, ?_⟩ | refine ⟨_, _, _, _, rfl, ?_⟩))

theorem p_Row_cut : ∀ ds G q dw, sp_Row_cut ds G q dw → t_Row_cut dw { nx := fun _ G' => q (.val .non) G', rt := q } (start3 ["self", "size"] ds) G := by
  intro ds G q dw h
  unfold t_Row_cut
  obtain ⟨p, a, s, rfl, ⟨hp, ra, _, la, _⟩, hs, h⟩ := h
  walk_at "ev"
  refine ⟨by omega, by omega, by decide, ?_⟩
  walk_at "ev"
  rw [cut_to, ← List.map_take]
  refine ⟨p, pt (a.take s), a.take s, rfl, .inr rfl, hp, fun x hx => ra.res x (List.mem_of_mem_take hx), by rw [List.length_take]; omega, ?_⟩
  walk_at "ev"
  have e : nrm p s (co a) = trimL (a.take s) := trim_ext fun i => by
    rw [co_mk]
    by_cases z : i < s
    · rw [if_pos z]
      have e1 : co (a.take s) i = co a i := by
        unfold co
        rw [List.getD_eq_getElem?_getD, List.getD_eq_getElem?_getD, List.getElem?_take, if_pos z]
      rw [e1]
      by_cases y : i < a.length
      · have := ra.res (a[i]) (List.getElem_mem y)
        rw [co_in y, Int.emod_eq_of_lt this.1 this.2]
      · rw [co_out (by omega)]; rfl
    · rw [if_neg z, co_out (by rw [List.length_take]; omega)]
  rw [e] at h
  exact h
end K04

set_option Elab.async false
set_option maxRecDepth 100000
set_option maxHeartbeats 4000000
/-! K03: what each def promises -/
namespace K03
open PySem PySem.Spec PyProof.Rows L2 L3 LD LN RS K04
def sp_row_figures : DSp := fun ds G q _ => ∃ n : Nat, ds = [.str (sI (n : Int))] ∧ n < 40 ∧ q (.val (.int (n : Int))) G
def sp_row_term_in : DSp := fun ds G q _ => ∃ e i : Nat, ds = [.str (tmS (e : Int) i)] ∧ e < 40 ∧ i < 40 ∧ q (.val (.tup [.int (e : Int), .int (i : Int)])) G
def sp_row_entries_in : DSp := fun ds G q _ => ∃ (p : Int) (xs : List Int), ds = [.int p, .str (rtx xs)] ∧ Pr p ∧ Rw p xs ∧ xs.length ≤ 20 ∧ q (.val (pt xs)) G
def sp_Row_prime : DSp := fun ds G q _ => ∃ (p : Int) (xs : List Int), ds = [rwD p xs] ∧ q (.val (.int p)) G
def sp_Row_degree : DSp := fun ds G q _ => ∃ (p : Int) (xs : List Int), ds = [rwD p xs] ∧ q (.val (.int ((xs.length : Int) - 1))) G
def sp_Row_eq : DSp := fun ds G q _ => ∃ (p : Int) (xs : List Int), (∃ (p' : Int) (ys : List Int), ds = [rwD p xs, rwD p' ys] ∧ q (.val (.bl (decide (p = p' ∧ xs = ys)))) G) ∨ ∃ d, ds = [rwD p xs, d] ∧ (∃ t, tyS d = some t) ∧ q (.val (.bl false)) G
def sp_Row_entry : DSp := fun ds G q _ => ∃ (p i : Int) (xs : List Int), ds = [rwD p xs, .int i] ∧ 0 ≤ i ∧ LN.Lim i ∧ q (.val (.int (if i < xs.length then xs.getD i.toNat 0 else 0))) G
def sp_Row_read : DSp := fun ds G q _ => ∃ (p : Int) (xs : List Int), ds = [.cls "Row", .int p, .str (rtx xs)] ∧ Pr p ∧ Rw p xs ∧ xs.length ≤ 20 ∧ q (.val (rwD p xs)) G
def up (m : Nat) (xs : List Int) : List Int := if xs = [] then [] else List.replicate m 0 ++ xs
def sp_Row_shifted : DSp := fun ds G q _ => ∃ (p : Int) (xs : List Int) (m : Nat), Pr p ∧ Rw p xs ∧ xs.length ≤ 20 ∧ m ≤ 20 ∧
  (ds = [rwD p xs, .int (m : Int)] ∧ q (.val (rwD p (up m xs))) G ∨ 1 ≤ m ∧ ds = [rwD p (up m xs), .int (-(m : Int))] ∧ q (.val (rwD p xs)) G)
def sp__law_order : DSp := fun ds G q _ => ∃ xs : List Int, ds = [pt xs] ∧ xs.length ≤ 1000 ∧ q (.val (ordD xs)) G
def sp__law_row_text : DSp := fun ds G q _ => ∃ (p : Int) (xs : List Int), ds = [pt xs] ∧ Pr p ∧ Rsd p xs ∧ xs.length ≤ 1000 ∧ q (.val (.str (rtx xs))) G
def sp__law_any_row : DSp := fun ds G q _ => ∃ (a : Addr) (R : Reg) (p : Int), ds = [.ref a, .int p] ∧ Dice a R G ∧ Pr p ∧ ∀ (xs : List Int) G', Rw p xs → xs.length ≤ 10 → Dice a R G' → q (.val (pt xs)) G'
def sp__law_is_told : DSp := fun ds G q _ => ∃ (p : Int) (xs : List Int), ds = [.int p, pt xs] ∧ Pr p ∧ Rw p xs ∧ xs.length ≤ 12 ∧ q (.val (.bl true)) G
def sp__law_right : DSp := fun ds G q _ => ∃ (a : Addr) (R : Reg), ds = [.ref a] ∧ Dice a R G ∧ ∀ G', Dice a R G' → q (.val (.bl true)) G'
def sp_law : DSp := fun ds G q _ => ∃ ns : List Int, ds = [.scr ns] ∧ ns.length ≤ 63 ∧ ∀ G', q (.val (.bl true)) G'
theorem len_row_figures : ∀ ds G q e, sp_row_figures ds G q e → ds.length = 1 := fun ds G q e ⟨_, h, _⟩ => by rw [h]; rfl
theorem len_row_term_in : ∀ ds G q e, sp_row_term_in ds G q e → ds.length = 1 := fun ds G q e ⟨_, _, h, _⟩ => by rw [h]; rfl
theorem len_row_entries_in : ∀ ds G q e, sp_row_entries_in ds G q e → ds.length = 2 := fun ds G q e ⟨_, _, h, _⟩ => by rw [h]; rfl
theorem len_Row_prime : ∀ ds G q e, sp_Row_prime ds G q e → ds.length = 1 := fun ds G q e ⟨_, _, h, _⟩ => by rw [h]; rfl
theorem len_Row_degree : ∀ ds G q e, sp_Row_degree ds G q e → ds.length = 1 := fun ds G q e ⟨_, _, h, _⟩ => by rw [h]; rfl
theorem len_Row_eq : ∀ ds G q e, sp_Row_eq ds G q e → ds.length = 2 := fun ds G q e ⟨_, _, h⟩ => by
  rcases h with ⟨_, _, h, _⟩ | ⟨_, h, _⟩
  · rw [h]; rfl
  · rw [h]; rfl
theorem len_Row_entry : ∀ ds G q e, sp_Row_entry ds G q e → ds.length = 2 := fun ds G q e ⟨_, _, _, h, _⟩ => by rw [h]; rfl
theorem len_Row_read : ∀ ds G q e, sp_Row_read ds G q e → ds.length = 3 := fun ds G q e ⟨_, _, h, _⟩ => by rw [h]; rfl
theorem len_Row_shifted : ∀ ds G q e, sp_Row_shifted ds G q e → ds.length = 2 := fun ds G q e ⟨_, _, _, _, _, _, _, h⟩ => by
  rcases h with ⟨h, _⟩ | ⟨_, h, _⟩
  · rw [h]; rfl
  · rw [h]; rfl
theorem len__law_order : ∀ ds G q e, sp__law_order ds G q e → ds.length = 1 := fun ds G q e ⟨_, h, _⟩ => by rw [h]; rfl
theorem len__law_row_text : ∀ ds G q e, sp__law_row_text ds G q e → ds.length = 1 := fun ds G q e ⟨_, _, h, _⟩ => by rw [h]; rfl
theorem len__law_any_row : ∀ ds G q e, sp__law_any_row ds G q e → ds.length = 2 := fun ds G q e ⟨_, _, _, h, _⟩ => by rw [h]; rfl
theorem len__law_is_told : ∀ ds G q e, sp__law_is_told ds G q e → ds.length = 2 := fun ds G q e ⟨_, _, h, _⟩ => by rw [h]; rfl
theorem len__law_right : ∀ ds G q e, sp__law_right ds G q e → ds.length = 1 := fun ds G q e ⟨_, _, h, _⟩ => by rw [h]; rfl
theorem len_law : ∀ ds G q e, sp_law ds G q e → ds.length = 1 := fun ds G q e ⟨_, h, _⟩ => by rw [h]; rfl
theorem law_holds : ∀ ns : List Int, ns.length ≤ 63 → sp_law [.scr ns] [] (fun r _ => r = .val (.bl true)) fun _ _ => False := fun ns hn => ⟨ns, rfl, hn, fun _ => rfl⟩
end K03

set_option Elab.async false
set_option maxRecDepth 100000
set_option maxHeartbeats 4000000
/-! K03: the plain readings (printed by gen5.py) -/
namespace K03
open PySem PySem.Spec PyProof.Rows L2 L3 LD LN K04
def t_row_figures (dw : Exc3 → Reg → Prop) : DSt :=
  (dSeq (dIfS (dOr (dNot (dTest (dChain oLe oLe (dC (.int (1))) (dCB bLen (dPCons (dVar 0) dNil)) (dC (.int (3)))))) (dNot (dTest (dCB bAll (dPCons (dLc (dIter (dVar 0)) (gNm 1) dYes (dOp (oIn false) (dVar 1) (dC (.str "0123456789"))) [1]) dNil))))) (dRet (dC .non)) dNext)
    (dRet (dCB bIntS (dPCons (dVar 0) dNil))))
def t_Row_prime (dw : Exc3 → Reg → Prop) : DSt :=
  (dRet (dAttr [("Row", 2)] (dVar 0)))
def t_Row_degree (dw : Exc3 → Reg → Prop) : DSt :=
  (dRet (dOp oSub (dCB bLen (dPCons (dAttr [("Row", 0)] (dVar 0)) dNil)) (dC (.int (1)))))
def t_Row_eq (dw : Exc3 → Reg → Prop) : DSt :=
  (dSeq (dIfS (dNot (dTest (dCB (bIsiA ["RowEntries", "Row"] ["RowEntries", "Row"] [(("RowEntries", "RowEntries"), true), (("RowEntries", "Row"), false), (("Row", "RowEntries"), false), (("Row", "Row"), true)]) (dPCons (dVar 1) (dPCons (dC (.cls "Row")) dNil))))) (dRet (dC (.bl false))) dNext)
    (dRet (dAndV (dOp oEq (dAttr [("Row", 2)] (dVar 0)) (dAttr [("Row", 2)] (dVar 1))) (dOp oEq (dAttr [("Row", 0)] (dVar 0)) (dAttr [("Row", 0)] (dVar 1))))))
def t__law_order (dw : Exc3 → Reg → Prop) : DSt :=
  (dSeq (dSet 1 (dLc (dEnumA (dCons (dVar 0) dNil)) (gTp 2 (gsCons (gNm 2) (gsCons (gNm 3) gsNil))) (dTest (dOp oNe (dVar 3) (dC (.int (0))))) (dVar 2) [2, 3]))
    (dRet (dIf (dTest (dOp oNe (dVar 1) (dLst dNil))) (dOp oIx (dVar 1) (dC (.int (0)))) (dC .non))))
def t__law_row_text (dw : Exc3 → Reg → Prop) : DSt :=
  (dSeq (dSet 1 (dLst dNil))
    (dSeq (dFor (dEnumA (dCons (dVar 0) dNil)) (gTp 2 (gsCons (gNm 2) (gsCons (gNm 3) gsNil))) (dIfS (dTest (dOp oNe (dVar 3) (dC (.int (0))))) (dSeq (dSet 4 (dIf (dTest (dOp oEq (dVar 2) (dC (.int (0))))) (dC (.str "")) (dIf (dTest (dOp oEq (dVar 2) (dC (.int (1))))) (dC (.str "t")) (dOp oAdd (dC (.str "t^")) (dCB bStr (dPCons (dVar 2) dNil))))))
    (dDrop (dApp 1 (dIf (dAnd (dTest (dOp oEq (dVar 3) (dC (.int (1))))) (dTest (dOp oGt (dVar 2) (dC (.int (0)))))) (dVar 4) (dOp oAdd (dCB bStr (dPCons (dVar 3) dNil)) (dVar 4)))))) dNext))
    (dRet (dIf (dTest (dOp oNe (dVar 1) (dLst dNil))) (dJoin (dC (.str "+")) (dVar 1)) (dC (.str "0"))))))
def t_row_term_in (dw : Exc3 → Reg → Prop) : DSt :=
  (dSeq (dAsg (dPartition (dVar 0) (dC (.str "t"))) (gTp 3 (gsCons (gNm 1) (gsCons (gNm 2) (gsCons (gNm 3) gsNil)))))
    (dSeq (dSet 4 (dIf (dAnd (dTest (dOp oEq (dVar 1) (dC (.str "")))) (dTest (dOp oNe (dVar 2) (dC (.str ""))))) (dC (.int (1))) (dCall sp_row_figures (fun x _ G => dw x G) (dCons (dVar 1) dNil))))
    (dSeq (dIfS (dTest (dOp oEq (dVar 2) (dC (.str "")))) (dRet (dIf (dTest (dOp (oIs false) (dVar 4) (dC .non))) (dC .non) (dTup (dCons (dVar 4) (dCons (dC (.int (0))) dNil))))) dNext)
    (dSeq (dSet 5 (dIf (dTest (dOp oEq (dVar 3) (dC (.str "")))) (dC (.int (1))) (dCall sp_row_figures (fun x _ G => dw x G) (dCons (dSl oSlS (dVar 3) (dPart (dC (.int (1)))) dNoPart) dNil))))
    (dRet (dIf (dOr (dTest (dOp (oIs false) (dVar 4) (dC .non))) (dTest (dOp (oIs false) (dVar 5) (dC .non)))) (dC .non) (dTup (dCons (dVar 4) (dCons (dVar 5) dNil)))))))))
def t_row_entries_in (dw : Exc3 → Reg → Prop) : DSt :=
  (dSeq (dSet 2 (dLc (dIter (dSplit (dVar 1) (dC (.str "+")))) (gNm 6) dYes (dCall sp_row_term_in dw0 (dCons (dVar 6) dNil)) [6]))
    (dSeq (dIfS (dTest (dOp (oIn false) (dC .non) (dVar 2))) (dRet (dC .non)) dNext)
    (dSeq (dSet 3 (dLc (dRng1 (dCons (dOp oAdd (dC (.int (1))) (dCB bMaxL (dPCons (dLc (dIter (dVar 2)) (gTp 2 (gsCons (gNm 4) (gsCons (gNm 5) gsNil))) dYes (dVar 5) [4, 5]) dNil))) dNil)) (gNm 7) dYes (dC (.int (0))) [7]))
    (dSeq (dFor (dIter (dVar 2)) (gTp 2 (gsCons (gNm 4) (gsCons (gNm 5) gsNil))) (dStore (dOp oMod (dVar 4) (dVar 0)) (dVar 3) (dVar 5)))
    (dRet (dCall sp_row_trimmed (fun x _ G => dw x G) (dCons (dVar 3) dNil)))))))
def t_Row_entry (dw : Exc3 → Reg → Prop) : DSt :=
  (dSeq (dIfS (dOr (dNot (dTest (dCall sp_is_integer (fun x _ G => dw x G) (dCons (dVar 1) dNil)))) (dTest (dOp oLt (dVar 1) (dC (.int (0)))))) dNever dNext)
    (dRet (dIf (dTest (dOp oLt (dVar 1) (dCB bLen (dPCons (dAttr [("Row", 0)] (dVar 0)) dNil)))) (dOp oIx (dAttr [("Row", 0)] (dVar 0)) (dVar 1)) (dC (.int (0))))))
def t__law_any_row (dw : Exc3 → Reg → Prop) : DSt :=
  (dSeq (dIfS (dTest (dOp oEq (dCall sp__law_roll (fun x _ G => dw x G) (dCons (dVar 0) (dCons (dC (.int (7))) dNil))) (dC (.int (0))))) (dRet (dTup dNil)) dNext)
    (dSeq (dSet 2 (dOp oAdd (dOp oMul (dLst (dCons (dC (.int (0))) dNil)) (dCall sp__law_pick (fun x _ G => dw x G) (dCons (dVar 0) (dCons (dLst (dCons (dC (.int (0))) (dCons (dC (.int (0))) (dCons (dC (.int (1))) (dCons (dC (.int (2))) (dCons (dC (.int (4))) dNil)))))) dNil)))) (dLc (dRng1 (dCons (dCall sp__law_roll (fun x _ G => dw x G) (dCons (dVar 0) (dCons (dC (.int (6))) dNil))) dNil)) (gNm 3) dYes (dCall sp__law_roll dw0 (dCons (dVar 0) (dCons (dVar 1) dNil))) [3])))
    (dRet (dOp oAdd (dCB bTuple (dPCons (dVar 2) dNil)) (dTup (dCons (dIf (dTest (dOp oGt (dVar 1) (dC (.int (2))))) (dOp oAdd (dC (.int (1))) (dCall sp__law_roll (fun x _ G => dw x G) (dCons (dVar 0) (dCons (dOp oSub (dVar 1) (dC (.int (1)))) dNil)))) (dC (.int (1)))) dNil))))))
def t_Row_read (dw : Exc3 → Reg → Prop) : DSt :=
  (dSeq (dDrop (dCall sp_require_prime (fun x _ G => dw x G) (dCons (dVar 1) dNil)))
    (dSeq (dSet 3 (dIf (dAnd (dTest (dCB (bIsiA ["RowEntries", "Row"] ["RowEntries", "Row"] [(("RowEntries", "RowEntries"), true), (("RowEntries", "Row"), false), (("Row", "RowEntries"), false), (("Row", "Row"), true)]) (dPCons (dVar 2) (dPCons (dC (.ty "str")) dNil)))) (dTest (dOp oLe (dCB bLen (dPCons (dVar 2) dNil)) (dC (.int (9000)))))) (dCall sp_row_entries_in (fun x _ G => dw x G) (dCons (dVar 1) (dCons (dVar 2) dNil))) (dC .non)))
    (dSeq (dIfS (dOr (dTest (dOp (oIs false) (dVar 3) (dC .non))) (dOr (dTest (dOp oGt (dCB bLen (dPCons (dVar 3) dNil)) (dC (.int (1000))))) (dTest (dOp oNe (dCall sp_row_text (fun x _ G => dw x G) (dCons (dVar 3) dNil)) (dVar 2))))) dNever dNext)
    (dRet (dMakeV "Row" 0 sp_Row_init (fun x _ G => dw x G) (dCons (dVar 1) (dCons (dVar 3) dNil)))))))
def t_Row_shifted (dw : Exc3 → Reg → Prop) : DSt :=
  (dSeq (dDrop (dCall sp_require_row_count (fun x _ G => dw x G) (dCons (dVar 1) (dCons (dUn uNeg (dC (.int (400)))) dNil))))
    (dSeq (dIfS (dTest (dOp oGe (dVar 1) (dC (.int (0))))) (dRet (dCall sp_row_made (fun x _ G => dw x G) (dCons (dAttr [("Row", 2)] (dVar 0)) (dCons (dLst (dStar (dLc (dRng1 (dCons (dVar 1) dNil)) (gNm 2) dYes (dC (.int (0))) [2]) (dStar (dAttr [("Row", 0)] (dVar 0)) dNil))) dNil)))) dNext)
    (dSeq (dIfS (dAnd (dTest (dOp (oIs true) (dAttr [("Row", 1)] (dVar 0)) (dC .non))) (dTest (dOp oLt (dAttr [("Row", 1)] (dVar 0)) (dUn uNeg (dVar 1))))) dNever dNext)
    (dRet (dCall sp_row_made (fun x _ G => dw x G) (dCons (dAttr [("Row", 2)] (dVar 0)) (dCons (dSl oSl (dAttr [("Row", 0)] (dVar 0)) (dPart (dUn uNeg (dVar 1))) dNoPart) dNil)))))))
def t__law_is_told (dw : Exc3 → Reg → Prop) : DSt :=
  (dSeq (dSet 2 (dMake "Row" sp_Row_init (dCons (dVar 0) (dCons (dVar 1) dNil))))
    (dSeq (dIfS (dTest (dOp oNe (dLst (dCons (dProp "Row" sp_Row_prime (dVar 2)) (dCons (dProp "Row" sp_Row_entries (dVar 2)) (dCons (dProp "Row" sp_Row_degree (dVar 2)) (dCons (dProp "Row" sp_Row_order (dVar 2)) dNil))))) (dLst (dCons (dVar 0) (dCons (dVar 1) (dCons (dOp oSub (dCB bLen (dPCons (dVar 1) dNil)) (dC (.int (1)))) (dCons (dCall sp__law_order (fun x _ G => dw x G) (dCons (dVar 1) dNil)) dNil))))))) (dRet (dC (.bl false))) dNext)
    (dSeq (dIfS (dOr (dTest (dOp oNe (dStrO "Row" sp_Row_str (dPCons (dVar 2) dNil)) (dCall sp__law_row_text (fun x _ G => dw x G) (dCons (dVar 1) dNil)))) (dTest (dNeO "Row" sp_Row_eq (dCMeth "Row" sp_Row_read (fun x _ G => dw x G) (dC (.cls "Row")) (dCons (dVar 0) (dCons (dCall sp__law_row_text (fun x _ G => dw x G) (dCons (dVar 1) dNil)) dNil))) (dVar 2)))) (dRet (dC (.bl false))) dNext)
    (dSeq (dSet 3 (dOp oAdd (dCB bList (dPCons (dVar 1) dNil)) (dOp oMul (dLst (dCons (dC (.int (0))) dNil)) (dOp oSub (dC (.int (16))) (dCB bLen (dPCons (dVar 1) dNil))))))
    (dSeq (dIfS (dOr (dTest (dOp oNe (dLc (dRng1 (dCons (dC (.int (16))) dNil)) (gNm 7) dYes (dMeth "Row" sp_Row_entry (dVar 2) (dCons (dVar 7) dNil)) [7]) (dVar 3))) (dTest (dOp oNe (dMeth "Row" sp_Row_entry (dVar 2) (dCons (dOp oPow (dC (.int (10))) (dC (.int (50)))) dNil)) (dC (.int (0)))))) (dRet (dC (.bl false))) dNext)
    (dSeq (dFor (dRng1 (dCons (dC (.int (13))) dNil)) (gNm 4) (dIfS (dTest (dOp oNe (dProp "Row" sp_Row_entries (dMeth "Row" sp_Row_cut (dVar 2) (dCons (dVar 4) dNil))) (dCall sp__law_trim (fun x _ G => dw x G) (dCons (dSl oSl (dVar 1) dNoPart (dPart (dVar 4))) dNil)))) (dRet (dC (.bl false))) dNext))
    (dSeq (dFor (dRng1 (dCons (dC (.int (6))) dNil)) (gNm 5) (dSeq (dSet 6 (dMeth "Row" sp_Row_shifted (dVar 2) (dCons (dVar 5) dNil)))
    (dIfS (dOr (dTest (dOp oNe (dProp "Row" sp_Row_entries (dVar 6)) (dIf (dTest (dOp oNe (dVar 1) (dTup dNil))) (dOp oAdd (dOp oMul (dTup (dCons (dC (.int (0))) dNil)) (dVar 5)) (dVar 1)) (dTup dNil)))) (dTest (dNeO "Row" sp_Row_eq (dMeth "Row" sp_Row_shifted (dVar 6) (dCons (dUn uNeg (dVar 5)) dNil)) (dVar 2)))) (dRet (dC (.bl false))) dNext)))
    (dRet (dC (.bl true))))))))))
def t__law_right (dw : Exc3 → Reg → Prop) : DSt :=
  (dSeq (dSet 1 (dCall sp__law_pick (fun x _ G => dw x G) (dCons (dVar 0) (dCons (dLst (dCons (dC (.int (2))) (dCons (dC (.int (2))) (dCons (dC (.int (3))) (dCons (dC (.int (5))) (dCons (dC (.int (7))) (dCons (dC (.int (11))) (dCons (dC (.int (31))) dNil)))))))) dNil))))
    (dSeq (dPar 2 3 (dCall sp__law_any_row (fun x _ G => dw x G) (dCons (dVar 0) (dCons (dVar 1) dNil))) (dCall sp__law_any_row (fun x _ G => dw x G) (dCons (dVar 0) (dCons (dVar 1) dNil))))
    (dSeq (dIfS (dOr (dNot (dTest (dCall sp__law_is_told (fun x _ G => dw x G) (dCons (dVar 1) (dCons (dVar 2) dNil))))) (dNot (dTest (dCall sp__law_is_told (fun x _ G => dw x G) (dCons (dVar 1) (dCons (dVar 3) dNil)))))) (dRet (dC (.bl false))) dNext)
    (dSeq (dPar 4 5 (dMake "Row" sp_Row_init (dCons (dVar 1) (dCons (dVar 2) dNil))) (dMake "Row" sp_Row_init (dCons (dVar 1) (dCons (dVar 3) dNil))))
    (dSeq (dIfS (dOr (dTest (dOp oNe (dEqO "Row" sp_Row_eq (dVar 4) (dVar 5)) (dOp oEq (dVar 2) (dVar 3)))) (dTest (dOp oNe (dOp oEq (dStrO "Row" sp_Row_str (dPCons (dVar 4) dNil)) (dStrO "Row" sp_Row_str (dPCons (dVar 5) dNil))) (dOp oEq (dVar 2) (dVar 3))))) (dRet (dC (.bl false))) dNext)
    (dRet (dNotV (dOrV (dEqOA "Row" sp_Row_eq (dVar 4) (dVar 2)) (dOrV (dEqOA "Row" sp_Row_eq (dVar 4) (dStrO "Row" sp_Row_str (dPCons (dVar 4) dNil))) (dOrV (dEqOA "Row" sp_Row_eq (dVar 4) (dLst dNil)) (dEqO "Row" sp_Row_eq (dVar 4) (dMake "Row" sp_Row_init (dCons (dIf (dTest (dOp oNe (dVar 1) (dC (.int (3))))) (dC (.int (3))) (dC (.int (5)))) (dCons (dTup (dCons (dC (.int (1))) (dCons (dC (.int (1))) (dCons (dC (.int (2))) dNil)))) dNil))))))))))))))
def t_law (dw : Exc3 → Reg → Prop) : DSt :=
  (dSeq (dFor (dRng1 (dCons (dCB bMax (dPCons (dC (.int (1))) (dPCons (dCB bMin (dPCons (dC (.int (3))) (dPCons (dCB bLen (dPCons (dVar 0) dNil)) dNil))) dNil))) dNil)) (gNm 1) (dSeq (dSetReg 2 (dCall sp__law_dice (fun x _ G => dw x G) (dCons (dVar 0) (dCons (dVar 1) dNil))))
    (dIfS (dOr (dNot (dTest (dCall sp__law_right (fun x _ G => dw x G) (dCons (dVar 2) dNil)))) (dNot (dTest (dCall sp__law_right (fun x _ G => dw x G) (dCons (dVar 2) dNil))))) (dRet (dC (.bl false))) dNext)))
    (dSeq (dSet 3 (dCMeth "Row" sp_Row_read (fun x _ G => dw x G) (dC (.cls "Row")) (dCons (dC (.int (3))) (dCons (dC (.str "t+2t^2")) dNil))))
    (dSeq (dSet 4 (dLst (dCons (dProp "Row" sp_Row_entries (dVar 3)) (dCons (dProp "Row" sp_Row_order (dVar 3)) (dCons (dProp "Row" sp_Row_degree (dVar 3)) (dCons (dProp "Row" sp_Row_order (dMake "Row" sp_Row_init (dCons (dC (.int (3))) (dCons (dTup dNil) dNil)))) (dCons (dStrO "Row" sp_Row_str (dPCons (dMake "Row" sp_Row_init (dCons (dC (.int (3))) (dCons (dTup (dCons (dC (.int (1))) (dCons (dC (.int (2))) (dCons (dC (.int (0))) (dCons (dC (.int (1))) dNil))))) dNil))) dNil)) (dCons (dStrO "Row" sp_Row_str (dPCons (dMake "Row" sp_Row_init (dCons (dC (.int (3))) (dCons (dTup dNil) dNil))) dNil)) dNil))))))))
    (dRet (dOp oEq (dVar 4) (dLst (dCons (dTup (dCons (dC (.int (0))) (dCons (dC (.int (1))) (dCons (dC (.int (2))) dNil)))) (dCons (dC (.int (1))) (dCons (dC (.int (2))) (dCons (dC .non) (dCons (dC (.str "1+2t+t^3")) (dCons (dC (.str "0")) dNil))))))))))))
end K03

set_option Elab.async false
set_option maxRecDepth 100000
set_option maxHeartbeats 4000000
/-! K03: plain: terms told and read. -/
namespace K03
open PySem PySem.Spec PyProof.Rows L2 L3 RS K04 TL
def figs : Str := "0123456789"
theorem num_ok : ∀ n : Nat, n < 40 → PySem.intText? (sI (n : Int)) = some (n : Int) ∧ 1 ≤ (sI (n : Int)).length ∧ (sI (n : Int)).length ≤ 3 := by decide +kernel
theorem num_cps : ∀ n : Nat, n < 40 → ∀ c ∈ (sI (n : Int)).cps.toList, c ∈ figs.cps.toList ∧ c ≠ 43 ∧ c ≠ 94 ∧ c ≠ 116 := by decide +kernel
theorem num_ne : ∀ n : Nat, n < 40 → sI (n : Int) ≠ ("" : Str) := by decide +kernel
/-- the head of a term -/
def hdS (e i : Nat) : Str := if e = 1 ∧ i ≠ 0 then ("" : Str) else sI (e : Int)
def tlS (i : Nat) : Str := if i = 1 then ("" : Str) else ("^" : Str) ++ sI (i : Int)
theorem tm_zero (e : Nat) : tmS (e : Int) 0 = sI (e : Int) := if_pos rfl
theorem tm_pos {e i : Nat} (hi : i ≠ 0) : tmS (e : Int) i = hdS e i ++ ("t" : Str) ++ tlS i := by
  unfold tmS hdS tlS
  rw [if_neg hi]
  by_cases h1 : i = 1
  · rw [if_pos h1, if_pos h1]
    have e1 : (if (e : Int) = 1 then ("" : Str) else sI (e : Int)) = (if e = 1 ∧ i ≠ 0 then ("" : Str) else sI (e : Int)) := by
      by_cases h2 : e = 1
      · rw [if_pos (by omega), if_pos ⟨h2, hi⟩]
      · rw [if_neg (by omega), if_neg (fun z => h2 z.1)]
    rw [e1]
    exact (Str.append_empty _).symm
  · rw [if_neg h1, if_neg h1]
    have e1 : (if (e : Int) = 1 then ("" : Str) else sI (e : Int)) = (if e = 1 ∧ i ≠ 0 then ("" : Str) else sI (e : Int)) := by
      by_cases h2 : e = 1
      · rw [if_pos (by omega), if_pos ⟨h2, hi⟩]
      · rw [if_neg (by omega), if_neg (fun z => h2 z.1)]
    rw [e1, Str.append_assoc, Str.append_assoc]
theorem hd_cps {e i : Nat} (he : e < 40) : 116 ∉ TL.tl (hdS e i) := by
  unfold hdS
  split
  · decide
  · exact fun h => (num_cps e he 116 h).2.2.2 rfl
theorem ey : TL.tl ("t" : Str) = 116 :: [] := by decide
theorem par_zero {e : Nat} (he : e < 40) : Txt.partition (tmS (e : Int) 0) ("t" : Str) = (sI (e : Int), Str.empty, Str.empty) := by
  rw [tm_zero]
  exact partition_none ey fun h => (num_cps e he 116 h).2.2.2 rfl
theorem par_pos {e i : Nat} (he : e < 40) (hi : i ≠ 0) : Txt.partition (tmS (e : Int) i) ("t" : Str) = (hdS e i, ("t" : Str), tlS i) := by
  rw [tm_pos hi]
  exact partition_app ey (hd_cps he)
theorem cut_tl : ∀ i : Nat, i < 40 → cutS (("^" : Str) ++ sI (i : Int)) (some 1) none = sI (i : Int) := by decide +kernel
/-- no plus in a term -/
theorem tm_cps {e i : Nat} (he : e < 40) (hi : i < 40) : 43 ∉ TL.tl (tmS (e : Int) i) := by
  by_cases h0 : i = 0
  · subst h0
    rw [tm_zero]
    exact fun h => (num_cps e he 43 h).2.1 rfl
  · rw [tm_pos h0]
    intro h
    unfold TL.tl at h
    rw [Str.cps_append, Str.cps_append, Array.toList_append, Array.toList_append] at h
    rcases List.mem_append.mp h with h | h
    · rcases List.mem_append.mp h with h | h
      · unfold hdS at h
        split at h
        · revert h; decide
        · exact (num_cps e he 43 h).2.1 rfl
      · revert h; decide
    · unfold tlS at h
      split at h
      · revert h; decide
      · rw [Str.cps_append, Array.toList_append] at h
        rcases List.mem_append.mp h with h | h
        · revert h; decide
        · exact (num_cps i hi 43 h).2.1 rfl
/-- the terms of a row -/
def trm : Nat → List Int → List (Nat × Nat)
  | _, [] => []
  | i, x :: xs => if x = 0 then trm (i + 1) xs else (x.toNat, i) :: trm (i + 1) xs
theorem tms_trm {p : Int} : ∀ (xs : List Int) (i : Nat), (∀ x ∈ xs, 0 ≤ x ∧ x < p) → tms i xs = (trm i xs).map fun t => tmS (t.1 : Int) t.2
  | [], _, _ => rfl
  | x :: xs, i, h => by
    have hx := h x List.mem_cons_self
    rw [tms, trm, tms_trm xs (i + 1) fun y hy => h y (List.mem_cons_of_mem _ hy)]
    by_cases z : x = 0
    · rw [if_pos z, if_pos z]
    · rw [if_neg z, if_neg z, List.map_cons]
      show tmS x i :: _ = tmS ((x.toNat : Nat) : Int) i :: _
      rw [Int.toNat_of_nonneg hx.1]
theorem trm_mem {p : Int} : ∀ (xs : List Int) (i : Nat), (∀ x ∈ xs, 0 ≤ x ∧ x < p) → ∀ t ∈ trm i xs, (t.1 : Int) < p ∧ 1 ≤ t.1 ∧ i ≤ t.2 ∧ t.2 < i + xs.length ∧ xs[t.2 - i]? = some (t.1 : Int)
  | [], _, _, t, ht => by cases ht
  | x :: xs, i, h, t, ht => by
    have hx := h x List.mem_cons_self
    have ih := trm_mem xs (i + 1) fun y hy => h y (List.mem_cons_of_mem _ hy)
    have up : ∀ t : Nat × Nat, (t.1 : Int) < p ∧ 1 ≤ t.1 ∧ i + 1 ≤ t.2 ∧ t.2 < i + 1 + xs.length ∧ xs[t.2 - (i + 1)]? = some (t.1 : Int) → (t.1 : Int) < p ∧ 1 ≤ t.1 ∧ i ≤ t.2 ∧ t.2 < i + (x :: xs).length ∧ (x :: xs)[t.2 - i]? = some (t.1 : Int) := fun t ⟨a, b, c, d, e⟩ => by
      refine ⟨a, b, by omega, by rw [List.length_cons]; omega, ?_⟩
      rw [show t.2 - i = (t.2 - (i + 1)) + 1 by omega, List.getElem?_cons_succ]
      exact e
    rw [trm] at ht
    by_cases z : x = 0
    · rw [if_pos z] at ht
      exact up t (ih t ht)
    · rw [if_neg z] at ht
      rcases List.mem_cons.mp ht with rfl | ht
      · refine ⟨?_, ?_, Nat.le_refl _, ?_, ?_⟩
        · show ((x.toNat : Nat) : Int) < p; omega
        · show 1 ≤ x.toNat; omega
        · rw [List.length_cons]; omega
        · show (x :: xs)[i - i]? = some ((x.toNat : Nat) : Int)
          rw [Nat.sub_self, Int.toNat_of_nonneg hx.1]; rfl
      · exact up t (ih t ht)
/-- rows from their terms -/
def putT (f : List Int) (t : Nat × Nat) : List Int := f.set t.2 (t.1 : Int)
theorem put_len : ∀ (ts : List (Nat × Nat)) (f : List Int), (ts.foldl putT f).length = f.length
  | [], _ => rfl
  | t :: ts, f => by rw [List.foldl_cons, put_len ts]; exact List.length_set
theorem set_repl : ∀ (a : List Int) (n : Nat) (v : Int), (a ++ List.replicate (n + 1) 0).set a.length v = (a ++ [v]) ++ List.replicate n 0
  | [], n, v => rfl
  | x :: a, n, v => by
    show x :: (a ++ List.replicate (n + 1) 0).set a.length v = _
    rw [set_repl a n v]; rfl
theorem put_all {p : Int} : ∀ (xs a : List Int) (m : Nat), (∀ x ∈ xs, 0 ≤ x ∧ x < p) → xs.length ≤ m → (∀ x, xs.getLast? = some x → x ≠ 0) → (trm a.length xs).foldl putT (a ++ List.replicate m 0) = a ++ xs ++ List.replicate (m - xs.length) 0
  | [], a, m, _, _, _ => by rw [List.append_nil]; rfl
  | x :: xs, a, 0, _, h, _ => by rw [List.length_cons] at h; omega
  | x :: xs, a, m + 1, h, hm, hl => by
    have hx := h x List.mem_cons_self
    have h' := fun y hy => h y (List.mem_cons_of_mem _ hy)
    rw [List.length_cons] at hm
    have hl' : ∀ y, xs.getLast? = some y → y ≠ 0 := fun y hy => hl y (by rw [List.getLast?_cons, hy]; rfl)
    have ih := put_all xs (a ++ [x]) m h' (by omega) hl'
    rw [List.length_append] at ih
    have e : (a ++ [x]) ++ xs ++ List.replicate (m - xs.length) 0 = a ++ (x :: xs) ++ List.replicate (m + 1 - (x :: xs).length) 0 := by
      rw [List.length_cons, show m + 1 - (xs.length + 1) = m - xs.length by omega, List.append_assoc a [x] xs]; rfl
    rw [← e, ← ih, trm]
    by_cases z : x = 0
    · rw [if_pos z, z]
      congr 1
      rw [List.append_assoc]; rfl
    · rw [if_neg z, List.foldl_cons]
      congr 1
      show (a ++ List.replicate (m + 1) 0).set a.length ((x.toNat : Nat) : Int) = _
      rw [Int.toNat_of_nonneg hx.1, set_repl]
theorem trm_last {p : Int} : ∀ (xs : List Int) (i : Nat), (∀ x ∈ xs, 0 ≤ x ∧ x < p) → (∀ x, xs.getLast? = some x → x ≠ 0) → xs ≠ [] → ∃ t ∈ trm i xs, t.2 + 1 = i + xs.length
  | [], _, _, _, h => absurd rfl h
  | [x], i, h, hl, _ => by
    have z := hl x rfl
    refine ⟨(x.toNat, i), ?_, rfl⟩
    rw [trm, if_neg z]
    exact List.mem_cons_self
  | x :: y :: xs, i, h, hl, _ => by
    obtain ⟨t, ht, e⟩ := trm_last (y :: xs) (i + 1) (fun z hz => h z (List.mem_cons_of_mem _ hz)) (fun z hz => hl z (by rw [List.getLast?_cons_cons]; exact hz)) (by simp)
    refine ⟨t, ?_, by rw [List.length_cons]; omega⟩
    rw [trm]
    split
    · exact ht
    · exact List.mem_cons_of_mem _ ht
theorem last_ne {xs : List Int} (h : trimL xs = xs) : ∀ x, xs.getLast? = some x → x ≠ 0 := fun x hx => by
  rcases RS.trim_last (xs := xs) with z | ⟨l, hl, l0⟩
  · rw [h] at z; rw [z] at hx; cases hx
  · rw [h, hx] at hl
    cases hl
    exact l0
end K03

set_option Elab.async false
set_option maxRecDepth 100000
set_option maxHeartbeats 4000000
set_option exponentiation.threshold 2000
/-! K03: terms read -/
namespace K03
open PySem PySem.Spec PyProof.Rows L2 L3 LD RS K04
open LN (Pt Pr pt sh_pt eqv_pt sh_ints eqv_ints tru)
open LM (ifTq ifFq lc_map0)
open LG (ifND ifNB)
local macro_rules | `(tactic| walk_at "ev") => `(tactic| repeat (first | refine lc_stop ?_ | refine for_stop ?_ | refine ⟨_, rfl, ?_⟩ | refine ⟨_, _, rfl, ?_⟩ | refine ⟨rfl, ?_⟩ | refine And.intro (by assumption) ?_ | refine ⟨by decide, ?_⟩ | refine ⟨ltL rfl, ?_⟩ | refine ⟨_, at0, ?_⟩ | refine ⟨_, at1, ?_⟩ | refine ⟨_, at2, ?_⟩ | refine ifT ?_ | refine ifF ?_ | refine ⟨_, _, _, rfl, ?_⟩ | refine ⟨⟨_, rfl⟩, ?_⟩ | refine ⟨_, _, _, _, rfl, ?_⟩))
theorem p_Row_prime : ∀ ds G q dw, sp_Row_prime ds G q dw → t_Row_prime dw { nx := fun _ G' => q (.val .non) G', rt := q } (start3 ["self"] ds) G := by
  intro ds G q dw h
  unfold t_Row_prime
  obtain ⟨p, xs, rfl, h⟩ := h
  walk_at "ev"
  exact h
theorem p_Row_degree : ∀ ds G q dw, sp_Row_degree ds G q dw → t_Row_degree dw { nx := fun _ G' => q (.val .non) G', rt := q } (start3 ["self"] ds) G := by
  intro ds G q dw h
  unfold t_Row_degree
  obtain ⟨p, xs, rfl, h⟩ := h
  walk_at "ev"
  rw [List.length_map]
  exact h
theorem p_Row_eq : ∀ ds G q dw, sp_Row_eq ds G q dw → t_Row_eq dw { nx := fun _ G' => q (.val .non) G', rt := q } (start3 ["self", "other"] ds) G := by
  intro ds G q dw h
  unfold t_Row_eq
  obtain ⟨p, xs, h⟩ := h
  rcases h with ⟨p', ys, rfl, h⟩ | ⟨d, rfl, ⟨t, ht⟩, h⟩
  · walk_at "ev"
    refine ifE (fun z => ?_) (fun z => ?_)
    · walk_at "ev"
      refine ⟨sh_pt _, sh_pt _, ?_⟩
      rw [eqv_pt]
      walk_at "ev"
      rw [show decide (p = p' ∧ xs = ys) = decide (xs = ys) by by_cases y : xs = ys <;> simp [z, y]] at h
      exact h
    · walk_at "ev"
      rw [decide_eq_false (fun y : p = p' ∧ xs = ys => z y.1)] at h
      exact h
  · cases d with
    | str x =>
      walk_at "ev"
      exact h
    | tup x =>
      walk_at "ev"
      exact h
    | lst x =>
      walk_at "ev"
      exact h
    | _ => cases ht
theorem p_Row_entry : ∀ ds G q dw, sp_Row_entry ds G q dw → t_Row_entry dw { nx := fun _ G' => q (.val .non) G', rt := q } (start3 ["self", "power"] ds) G := by
  intro ds G q dw h
  unfold t_Row_entry
  obtain ⟨p, i, xs, rfl, hi, hlim, h⟩ := h
  walk_at "ev"
  refine ifFq (decide_eq_false (by omega)) ?_
  walk_at "ev"
  rw [List.length_map]
  refine ifD (fun z => ?_) (fun z => ?_)
  · have z : i < (xs.length : Int) := z
    rw [if_pos z] at h
    obtain ⟨j, rfl⟩ : ∃ j : Nat, i = (j : Int) := ⟨i.toNat, by omega⟩
    have hj : j < xs.length := by omega
    walk_at "ev"
    refine ⟨.int (xs.getD j 0), LM.atI_nat (by rw [List.getElem?_map, List.getElem?_eq_getElem hj, List.getD_eq_getElem?_getD, List.getElem?_eq_getElem hj]; rfl), ?_⟩
    walk_at "ev"
    exact h
  · have z : ¬ i < (xs.length : Int) := z
    rw [if_neg z] at h
    walk_at "ev"
    exact h
theorem strsh {s : Str} (h : strOkC s = true) : (D.str s).sh = true := shC_of (d := .str s) h
theorem eqvS (a b : Str) : D.eqv (.str a) (.str b) = decide (a = b) := by
  show (a == b) = _
  by_cases h : a = b
  · rw [decide_eq_true h, h]; exact beq_self_eq_true b
  · rw [decide_eq_false h]; exact beq_false_of_ne h
theorem sh0s : (D.str ("" : Str)).sh = true := strsh (LR.ok_of "")
theorem hd_ok (e i : Nat) : strOkC (hdS e i) = true := by
  unfold hdS
  split
  · exact LR.ok_of ""
  · exact LR.ok_of _
theorem tl_ok (i : Nat) : strOkC (tlS i) = true := by
  unfold tlS
  split
  · exact LR.ok_of ""
  · exact LR.ok_app (LR.ok_of "^") (LR.ok_of _)
theorem tl_ne {i : Nat} (h1 : i ≠ 1) : tlS i ≠ ("" : Str) := by
  unfold tlS
  rw [if_neg h1]
  intro h
  have := congrArg Str.length h
  rw [Str.length_append] at this
  have t1 : (Str.ofString "^").length = 1 := rfl
  have t0 : (Str.ofString "").length = 0 := rfl
  omega
theorem p_row_figures : ∀ ds G q dw, sp_row_figures ds G q dw → t_row_figures dw { nx := fun _ G' => q (.val .non) G', rt := q } (start3 ["text", "sign"] ds) G := by
  intro ds G q dw h
  unfold t_row_figures
  obtain ⟨n, rfl, hn, h⟩ := h
  obtain ⟨h1, h2, h3⟩ := num_ok n hn
  have h4 := num_cps n hn
  have hS := sizeLine_eq
  have e1 : decide ((1 : Int) ≤ ((sI (n : Int)).length : Nat)) = true := decide_eq_true (by omega)
  have e3 : decide ((((sI (n : Int)).length : Nat) : Int) ≤ 3) = true := decide_eq_true (by omega)
  walk_at "ev"
  refine ⟨by omega, ?_⟩
  walk_at "ev"
  refine ifTq e1 ?_
  walk_at "ev"
  rw [show (fun i j : Int => decide (i ≤ j)) (((sI (n : Int)).length : Nat) : Int) 3 = true from e3]
  walk_at "ev"
  have hsl : (strD (sI (n : Int))).length = (sI (n : Int)).length := by unfold strD; rw [List.length_map]; rfl
  refine ⟨by rw [hsl]; omega, ?_⟩
  unfold strD
  refine lc_map0 (fun c : Nat => D.str ⟨#[c]⟩) (fun _ => D.bl true) (fun c => c ∈ figs.cps.toList) (fun c k1 k2 hc e2 => ?_) (fun c hc => (h4 c hc).1) ?_
  · clear h
    walk_at "ev"
    rw [show decide (c ∈ (Str.ofString "0123456789").cps.toList) = true from decide_eq_true hc]
    walk_at "ev"
    exact e2 _ rfl
  walk_at "ev"
  refine ⟨_, bls_true _, ?_⟩
  rw [show (fun bs : List Bool => bs.all id) (((sI (n : Int)).cps.toList).map fun _ => true) = true from all_true _]
  walk_at "ev"
  refine ⟨_, h1, by omega, ?_⟩
  walk_at "ev"
  exact h
theorem p_row_term_in : ∀ ds G q dw, sp_row_term_in ds G q dw → t_row_term_in dw { nx := fun _ G' => q (.val .non) G', rt := q } (start3 ["text", "head", "letter", "tail", "entry", "power"] ds) G := by
  intro ds G q dw h
  unfold t_row_term_in
  obtain ⟨e, i, rfl, he, hi, h⟩ := h
  have hS := sizeLine_eq
  have hln := tm_len (e := (e : Int)) (i := i) (by omega) (by omega) (by omega)
  walk_at "ev"
  refine ⟨by omega, ?_⟩
  by_cases h0 : i = 0
  · subst h0
    unfold parD
    rw [par_zero he]
    walk_at "ev"
    refine ⟨strsh (LR.ok_of _), sh0s, ?_⟩
    refine ⟨_, rfl, ?_⟩
    refine ifQ (eqvS _ _) (fun z => absurd z (num_ne e he)) (fun _ => ?_)
    walk_at "ev"
    refine ⟨strsh rfl, sh0s, ?_⟩
    refine ⟨_, rfl, ?_⟩
    refine ifTq (show D.eqv (.str Str.empty) (.str ("" : Str)) = true by rw [eqvS]; decide) ?_
    walk_at "ev"
    exact h
  · unfold parD
    rw [par_pos he h0]
    have fin : ∀ s : Sl3, (s = .val (.int (e : Int))) → (dSeq (dIfS (dTest (dOp oEq (dVar 2) (dC (.str "")))) (dRet (dIf (dTest (dOp (oIs false) (dVar 4) (dC .non))) (dC .non) (dTup (dCons (dVar 4) (dCons (dC (.int (0))) dNil))))) dNext)
        (dSeq (dSet 5 (dIf (dTest (dOp oEq (dVar 3) (dC (.str "")))) (dC (.int (1))) (dCall sp_row_figures (fun x _ G => dw x G) (dCons (dSl oSlS (dVar 3) (dPart (dC (.int (1)))) dNoPart) dNil))))
        (dRet (dIf (dOr (dTest (dOp (oIs false) (dVar 4) (dC .non))) (dTest (dOp (oIs false) (dVar 5) (dC .non)))) (dC .non) (dTup (dCons (dVar 4) (dCons (dVar 5) dNil)))))))
        { nx := fun x G' => q (Res.val D.non) G', rt := q } [.val (.str (tmS (e : Int) i)), .val (.str (hdS e i)), .val (.str ("t" : Str)), .val (.str (tlS i)), s, .no] G := fun s hs => by
      subst hs
      clear hln
      walk_at "ev"
      refine ⟨strsh (LR.ok_of "t"), sh0s, ?_⟩
      refine ⟨_, rfl, ?_⟩
      refine ifFq (by rw [eqvS]; decide) ?_
      walk_at "ev"
      refine ⟨strsh (tl_ok i), sh0s, ?_⟩
      refine ⟨_, rfl, ?_⟩
      refine ifQ (eqvS _ _) (fun z => ?_) (fun z => ?_)
      · have h1 : i = 1 := by
          by_cases y : i = 1
          · exact y
          · exact absurd z (tl_ne y)
        subst h1
        walk_at "ev"
        exact h
      · have h1 : i ≠ 1 := fun y => z (by subst y; rfl)
        have et : tlS i = ("^" : Str) ++ sI (i : Int) := if_neg h1
        have hl : (tlS i).length ≤ sizeLine := by
          have := (num_ok i hi).2.2
          rw [et, Str.length_append, hS]
          have t1 : (Str.ofString "^").length = 1 := rfl
          omega
        walk_at "ev"
        rw [et, cut_tl i hi]
        walk_at "ev"
        exact h
    walk_at "ev"
    refine ⟨strsh (hd_ok e i), sh0s, ?_⟩
    refine ⟨_, rfl, ?_⟩
    refine ifQ (eqvS _ _) (fun z => ?_) (fun z => ?_)
    · have e1 : e = 1 := by
        by_cases y : e = 1
        · exact y
        · unfold hdS at z
          rw [if_neg (fun w => y w.1)] at z
          exact absurd z (num_ne e he)
      walk_at "ev"
      refine ⟨strsh (LR.ok_of "t"), sh0s, ?_⟩
      refine ⟨_, rfl, ?_⟩
      refine ifTq (show (!D.eqv (.str ("t" : Str)) (.str ("" : Str))) = true by rw [eqvS]; decide) ?_
      subst e1
      exact ⟨show 4 < 6 by decide, _, rfl, fin _ rfl⟩
    · have e1 : hdS e i = sI (e : Int) := by
        unfold hdS
        split
        · rename_i w
          exact absurd (by unfold hdS; rw [if_pos w]) z
        · rfl
      refine ⟨_, _, rfl, e, by rw [← e1], he, ?_⟩
      exact ⟨show 4 < 6 by decide, _, rfl, fin _ rfl⟩
end K03

set_option Elab.async false
set_option maxRecDepth 100000
set_option maxHeartbeats 4000000
set_option exponentiation.threshold 2000
/-! K03: terms read -/
namespace K03
open PySem PySem.Spec PyProof.Rows L2 L3 LD RS K04
open LN (Pt Pr pt sh_pt eqv_pt sh_ints eqv_ints tru)
open LM (ifTq ifFq lc_map0)
open LG (ifND ifNB)
local macro_rules | `(tactic| walk_at "ev") => `(tactic| repeat (first | refine lc_stop ?_ | refine for_stop ?_ | refine ⟨_, rfl, ?_⟩ | refine ⟨_, _, rfl, ?_⟩ | refine ⟨rfl, ?_⟩ | refine And.intro (by assumption) ?_ | refine ⟨by decide, ?_⟩ | refine ⟨ltL rfl, ?_⟩ | refine ⟨_, at0, ?_⟩ | refine ⟨_, at1, ?_⟩ | refine ⟨_, at2, ?_⟩ | refine ifT ?_ | refine ifF ?_ | refine ⟨_, _, _, rfl, ?_⟩ | refine ⟨⟨_, rfl⟩, ?_⟩ | refine ⟨_, _, _, _, rfl, ?_⟩))
def tmD (t : Nat × Nat) : D := .tup [.int (t.1 : Int), .int (t.2 : Int)]
theorem none_in : ∀ ts : List (Nat × Nat), D.among .non (ts.map tmD) = false
  | [] => rfl
  | t :: ts => by
    show (D.eqv .non (tmD t) || D.among .non (ts.map tmD)) = false
    rw [none_in ts]; rfl
theorem sh_tms (ts : List (Nat × Nat)) : (D.lst (ts.map tmD)).sh = true := by
  rw [sh_lst, List.all_map, List.all_eq_true]
  intro t _
  rfl
theorem zeros_map (n : Nat) : (List.range n).map (fun (_ : Nat) => D.int 0) = (List.replicate n (0 : Int)).map D.int := by
  rw [List.map_replicate]
  exact List.map_const' (l := List.range n) ▸ by rw [List.length_range]
theorem rtx_len {p : Int} {xs : List Int} (hp : p ≤ 31) (hr : ∀ x ∈ xs, 0 ≤ x ∧ x < p) (hl : xs.length ≤ 1000) : (rtx xs).length ≤ 200000 := by
  unfold rtx
  split
  · decide
  · have h1 := tms_sum hp xs 0 hr (by omega)
    have h2 := tms_len xs 0
    have h3 := StrLaws.join_length_le ("+" : Str) (tms 0 xs)
    rw [TL.join_eq]
    have t1 : (Str.ofString "+").length = 1 := rfl
    rw [t1] at h3
    omega
theorem core_of {p : Int} {xs : List Int} (hp : p ≤ 31) (hr : Rw p xs) (hl : xs.length ≤ 20) : ∃ ts : List (Nat × Nat), ts ≠ [] ∧ Txt.split (rtx xs) ("+" : Str) = ts.map (fun t => tmS (t.1 : Int) t.2) ∧ (∀ t ∈ ts, (t.1 : Int) < 32 ∧ ((t.1 : Int) < p ∨ t.1 = 0) ∧ t.2 < 20) ∧ ts.length ≤ 20 ∧
      ∃ m : Nat, (∃ t ∈ ts, t.2 = m) ∧ (∀ t ∈ ts, t.2 ≤ m) ∧ trimL (ts.foldl putT (List.replicate (m + 1) 0)) = xs := by
  have ey : TL.tl ("+" : Str) = 43 :: [] := by decide
  by_cases z : xs = []
  · subst z
    refine ⟨[(0, 0)], by simp, ?_, ?_, by decide, 0, ⟨(0, 0), List.mem_cons_self, rfl⟩, ?_, by decide⟩
    · have : rtx [] = Txt.join ("+" : Str) [tmS 0 0] := by decide
      rw [this]
      exact TL.split_join ey (by decide +kernel) (by simp) fun q hq => by
        rw [List.mem_singleton.mp hq]; decide
    · intro t ht
      rw [List.mem_singleton.mp ht]; exact ⟨by decide, .inr rfl, by decide⟩
    · intro t ht
      rw [List.mem_singleton.mp ht]; exact Nat.le_refl _
  · have hlast := last_ne hr.trm
    obtain ⟨t0, h0, e0⟩ := trm_last xs 0 hr.res hlast z
    have hm := trm_mem xs 0 hr.res
    have hts : tms 0 xs = (trm 0 xs).map fun t => tmS (t.1 : Int) t.2 := tms_trm xs 0 hr.res
    have hne : trm 0 xs ≠ [] := fun e => by rw [e] at h0; cases h0
    have hx1 : 1 ≤ xs.length := Nat.pos_of_ne_zero fun e => z (List.length_eq_zero_iff.mp e)
    refine ⟨trm 0 xs, hne, ?_, fun t ht => ?_, ?_, xs.length - 1, ⟨t0, h0, by omega⟩, fun t ht => ?_, ?_⟩
    · unfold rtx
      rw [if_neg (by rw [hts]; exact fun e => hne (List.map_eq_nil_iff.mp e)), hts]
      refine TL.split_join ey (by decide +kernel) (fun e => hne (List.map_eq_nil_iff.mp e)) fun q hq => ?_
      obtain ⟨t, ht, rfl⟩ := List.mem_map.mp hq
      have := hm t ht
      exact tm_cps (by omega) (by omega)
    · have := hm t ht
      exact ⟨by omega, .inl this.1, by omega⟩
    · have := tms_len xs 0
      rw [hts, List.length_map] at this
      omega
    · have := hm t ht
      omega
    · have := put_all xs [] xs.length hr.res (Nat.le_refl _) hlast
      rw [Nat.sub_self] at this
      rw [show xs.length - 1 + 1 = xs.length by omega]
      have e : (trm 0 xs).foldl putT (List.replicate xs.length 0) = xs := by
        have q : [] ++ xs ++ List.replicate 0 (0 : Int) = xs := by simp
        rw [q] at this
        exact this
      rw [e]
      exact hr.trm
theorem p_row_entries_in : ∀ ds G q dw, sp_row_entries_in ds G q dw → t_row_entries_in dw { nx := fun _ G' => q (.val .non) G', rt := q } (start3 ["prime", "text", "terms", "found", "entry", "power", "part", "place"] ds) G := by
  intro ds G q dw h
  unfold t_row_entries_in
  obtain ⟨p, xs, rfl, hp, hr, hl, h⟩ := h
  have hS := sizeLine_eq
  have hp31 := (LN.Pr.le hp).2
  have hp2 := (LN.Pr.le hp).1
  obtain ⟨ts, hne, hsp, hts, htl, m, ⟨tm, htm, em⟩, hmx, hput⟩ := core_of hp31 hr hl
  have hrl := rtx_len hp31 hr.res (by omega)
  have hm20 : m < 20 := by rw [← em]; exact (hts tm htm).2.2
  walk_at "ev"
  refine ⟨by omega, ?_⟩
  rw [hsp, List.map_map]
  walk_at "ev"
  refine ⟨by rw [List.length_map, hS]; omega, ?_⟩
  refine lc_map0 (fun t : Nat × Nat => D.str (tmS (t.1 : Int) t.2)) tmD (fun t => t.1 < 40 ∧ t.2 < 40) (fun t k1 k2 hk e2 => ?_) (fun t ht => by have := hts t ht; omega) ?_
  · clear h
    obtain ⟨hk1, hk2⟩ := hk
    walk_at "ev"
    exact e2 _ rfl
  walk_at "ev"
  refine ⟨sh_tms ts, ?_⟩
  rw [none_in]
  walk_at "ev"
  refine ⟨by rw [List.length_map, hS]; omega, ?_⟩
  refine lc_map0 tmD (fun t => D.int (t.2 : Int)) (fun _ => True) (fun t k1 k2 _ e2 => ?_) (fun _ _ => trivial) ?_
  · clear h
    walk_at "ev"
    exact e2 _ rfl
  walk_at "ev"
  refine ⟨ts.map fun t => (t.2 : Int), LM.ints_map _ ts, by rw [List.length_map]; exact List.length_pos_iff.mpr hne, fun M hM hle => ?_⟩
  have eM : M = (m : Int) := by
    obtain ⟨t, ht, rfl⟩ := List.mem_map.mp hM
    have h1 := hmx t ht
    have h2 := hle (m : Int) (List.mem_map.mpr ⟨tm, htm, by rw [em]⟩)
    omega
  subst eM
  walk_at "ev"
  refine ⟨by omega, by omega, ?_⟩
  rw [show ((1 : Int) + (m : Int)).toNat = m + 1 by omega]
  refine ⟨by rw [rangeD_len, hS]; omega, ?_⟩
  rw [rangeD_map]
  refine lc_map0 (fun k : Nat => D.int (k : Int)) (fun _ => D.int 0) (fun _ => True) (fun t k1 k2 _ e2 => ?_) (fun _ _ => trivial) ?_
  · clear h
    walk_at "ev"
    exact e2 _ rfl
  rw [zeros_map]
  walk_at "ev"
  refine Stop.go ?_
  refine for_ind (fun ds E G2 => G2 = G ∧ ∃ (dn rest : List (Nat × Nat)) (s4 s5 : Sl3), dn ++ rest = ts ∧ ds = rest.map tmD ∧
    E = [.val (.int p), .val (.str (rtx xs)), .val (.lst (ts.map tmD)), .own ((dn.foldl putT (List.replicate (m + 1) 0)).map D.int), s4, s5, .no, .no]) (fun E G2 hI => ?_) (fun d ds E G2 nx hI hn => ?_) _ _ _ ⟨rfl, [], ts, _, _, rfl, rfl, rfl⟩
  · obtain ⟨rfl, dn, rest, s4, s5, e, hd, rfl⟩ := hI
    have : rest = [] := List.map_eq_nil_iff.mp hd.symm
    subst this
    rw [List.append_nil] at e
    subst e
    walk_at "ev"
    refine ⟨_, _, rfl, .inl rfl, by rw [put_len, List.length_replicate]; omega, ?_⟩
    rw [hput]
    walk_at "ev"
    exact h
  · obtain ⟨rfl, dn, rest, s4, s5, e, hd, rfl⟩ := hI
    cases rest with
    | nil => cases hd
    | cons t rest =>
      obtain ⟨e3, e4⟩ := List.cons.inj hd
      subst e3 e4
      have hmem : t ∈ ts := by rw [← e]; simp
      obtain ⟨t1, t2, t3⟩ := hts t hmem
      have t4 := hmx t hmem
      have hmod : (t.1 : Int) % p = (t.1 : Int) := Int.emod_eq_of_lt (by omega) (by omega)
      walk_at "ev"
      refine ⟨by omega, ?_⟩
      rw [hmod]
      walk_at "ev"
      refine ⟨t.2, K04.ixN_nat (by rw [List.length_map, put_len, List.length_replicate]; omega), ?_⟩
      refine hn _ _ ⟨rfl, dn ++ [t], rest, .val (.int (t.1 : Int)), .val (.int (t.2 : Int)), by rw [List.append_assoc]; exact e, rfl, ?_⟩
      rw [List.foldl_append]
      show [_, _, _, Sl3.own (((dn.foldl putT (List.replicate (m + 1) 0)).map D.int).set t.2 (.int (t.1 : Int))), _, _, _, _] = [_, _, _, Sl3.own ((putT (dn.foldl putT (List.replicate (m + 1) 0)) t).map D.int), _, _, _, _]
      unfold putT
      rw [List.map_set]
theorem enm_len : ∀ (ys : List Int) (i : Nat), (enm i ys).length = ys.length
  | [], _ => rfl
  | y :: ys, i => by show (enm (i + 1) ys).length + 1 = _; rw [enm_len ys (i + 1), List.length_cons]
/-- the places of the entries that are not 0 -/
def ordL : Nat → List Int → List Int
  | _, [] => []
  | i, x :: xs => if x = 0 then ordL (i + 1) xs else (i : Int) :: ordL (i + 1) xs
theorem ord_ordL : ∀ (xs : List Int) (i : Nat), (ordN xs).map (fun n => ((n + i : Nat) : Int)) = (ordL i xs).head?
  | [], _ => rfl
  | x :: xs, i => by
    rw [ordN, ordL]
    by_cases z : x = 0
    · rw [if_pos z, if_pos z, ← ord_ordL xs (i + 1), Option.map_map]
      congr 1
      funext n
      show (((n + 1 + i : Nat)) : Int) = ((n + (i + 1) : Nat) : Int)
      congr 1; omega
    · rw [if_neg z, if_neg z]
      show some (((0 + i : Nat)) : Int) = some (i : Int)
      rw [Nat.zero_add]
theorem rtx_short {p : Int} {xs : List Int} (hp : p ≤ 31) (hr : ∀ x ∈ xs, 0 ≤ x ∧ x < p) (hl : xs.length ≤ 20) : (rtx xs).length ≤ 3000 := by
  unfold rtx
  split
  · decide
  · have h1 := tms_sum hp xs 0 hr (by omega)
    have h2 := tms_len xs 0
    have h3 := StrLaws.join_length_le ("+" : Str) (tms 0 xs)
    rw [TL.join_eq]
    have t1 : (Str.ofString "+").length = 1 := rfl
    rw [t1] at h3
    omega
theorem p__law_order : ∀ ds G q dw, sp__law_order ds G q dw → t__law_order dw { nx := fun _ G' => q (.val .non) G', rt := q } (start3 ["_law_row", "_law_found", "_law_at", "_law_entry"] ds) G := by
  intro ds G q dw h
  unfold t__law_order
  obtain ⟨xs, rfl, hl, h⟩ := h
  have hS := sizeLine_eq
  walk_at "ev"
  rw [enum_enm]
  refine ⟨by rw [enm_len, hS]; omega, ?_⟩
  have fin : ∀ ys : List Int, (ordL 0 xs) = ys → Env3 → True := fun _ _ _ => trivial
  clear fin
  have lc : ∀ (ys : List Int) (i : Nat) (acc : List D) (k : List D → Env3 → Reg → Prop), k (acc ++ (ordL i ys).map D.int) [.val (pt xs), .no, .no, .no] G →
      dLcL (gTp 2 (gsCons (gNm 2) (gsCons (gNm 3) gsNil))) (dTest (dOp oNe (dVar 3) (dC (.int (0))))) (dVar 2) [2, 3] (enm i ys) acc [.val (pt xs), .no, .no, .no] G k := by
    intro ys
    induction ys with
    | nil =>
      intro i acc k hk
      have hk : k (acc ++ []) _ G := hk
      rw [List.append_nil] at hk
      exact hk
    | cons y ys ih =>
      intro i acc k hk
      have ih2 := ih (i + 1)
      clear h ih
      show (gTp 2 (gsCons (gNm 2) (gsCons (gNm 3) gsNil))) (.tup [.int (i : Int), .int y]) _ _ _
      walk_at "ev"
      refine ifNE (fun z => ?_) (fun z => ?_)
      · walk_at "ev"
        rw [ordL, if_neg z, List.map_cons] at hk
        refine .go (ih2 _ k ?_)
        rw [List.append_assoc]
        exact hk
      · refine ih2 acc k ?_
        rw [ordL, if_pos z] at hk
        exact hk
  refine lc xs 0 [] _ ?_
  rw [List.nil_append]
  walk_at "ev"
  refine ⟨sh_ints _, sh_ints [], ?_⟩
  refine ⟨_, rfl, ?_⟩
  have hord := ord_ordL xs 0
  refine ifNQ (show D.eqv (.lst ((ordL 0 xs).map D.int)) (.lst []) = decide (ordL 0 xs = []) by cases ordL 0 xs <;> rfl) (fun z => ?_) (fun z => ?_)
  · walk_at "ev"
    cases ho : ordL 0 xs with
    | nil => exact absurd ho z
    | cons a r =>
      rw [ho] at hord
      have e : ordD xs = .int a := by
        unfold ordD
        cases hq : ordN xs with
        | none => rw [hq] at hord; cases hord
        | some n =>
          rw [hq] at hord
          have : (((n + 0 : Nat)) : Int) = a := by simpa using hord
          show D.int (n : Int) = _
          rw [← this]; rfl
      rw [e] at h
      walk_at "ev"
      exact h
  · rw [z] at hord
    have e : ordD xs = .non := by
      unfold ordD
      cases hq : ordN xs with
      | none => rfl
      | some n => rw [hq] at hord; cases hord
    rw [e] at h
    walk_at "ev"
    exact h
theorem rtx_ok (xs : List Int) : strOkC (rtx xs) = true := by
  unfold rtx
  split
  · decide
  · rw [TL.join_eq]
    exact LR.ok_join (LR.ok_of "+") fun t ht => List.all_eq_true.mp (tms_ok xs 0) t ht
theorem p_Row_read : ∀ ds G q dw, sp_Row_read ds G q dw → t_Row_read dw { nx := fun _ G' => q (.val .non) G', rt := q } (start3 ["cls", "prime", "text", "row"] ds) G := by
  intro ds G q dw h
  unfold t_Row_read
  obtain ⟨p, xs, rfl, hp, hr, hl, h⟩ := h
  have hS := sizeLine_eq
  have hp31 := (LN.Pr.le hp).2
  have hrl := rtx_len hp31 hr.res (by omega)
  have hrl2 := rtx_short hp31 hr.res hl
  have h3 : xs.length ≤ 3000 := by omega
  walk_at "ev"
  refine ⟨by omega, ?_⟩
  walk_at "ev"
  refine ifTq (decide_eq_true (by omega)) ?_
  walk_at "ev"
  rw [List.length_map]
  refine ifFq (decide_eq_false (by omega)) ?_
  walk_at "ev"
  refine ⟨p, xs, rfl, hp, hr.res, h3, ?_⟩
  walk_at "ev"
  refine ⟨strsh (rtx_ok xs), strsh (rtx_ok xs), ?_⟩
  refine ⟨_, rfl, ?_⟩
  refine ifFq (by show (!D.eqv (.str (rtx xs)) (.str (rtx xs))) = false; rw [eqvS, decide_eq_true rfl]; rfl) ?_
  walk_at "ev"
  refine ⟨p, pt xs, xs, rfl, hp, hr, .inr ⟨rfl, by omega⟩, ?_⟩
  walk_at "ev"
  exact h
theorem trim_up {m : Nat} {xs : List Int} (h : trimL xs = xs) : trimL (List.replicate m 0 ++ xs) = up m xs := by
  unfold up
  induction m with
  | zero =>
    rw [List.replicate_zero, List.nil_append, h]
    split
    · rename_i z; exact z
    · rfl
  | succ m ih =>
    rw [List.replicate_succ, List.cons_append, trimL, ih]
    by_cases z : xs = []
    · rw [if_pos z, if_pos ⟨rfl, rfl⟩, if_pos z]
    · rw [if_neg z, if_neg z, if_neg (fun y => z (List.append_eq_nil_iff.mp y.1).2)]
theorem ord_up (xs : List Int) : ∀ m, ordN (List.replicate m 0 ++ xs) = (ordN xs).map (· + m)
  | 0 => by
    rw [List.replicate_zero, List.nil_append]
    cases ordN xs <;> rfl
  | m + 1 => by
    rw [List.replicate_succ, List.cons_append, ordN, if_pos rfl, ord_up xs m, Option.map_map]
    congr 1
theorem ord_some : ∀ {xs : List Int}, trimL xs = xs → xs ≠ [] → ∃ n, ordN xs = some n
  | [], _, h => absurd rfl h
  | x :: xs, h, _ => by
    rw [ordN]
    by_cases z : x = 0
    · rw [if_pos z]
      rw [trimL] at h
      by_cases y : trimL xs = [] ∧ x = 0
      · rw [if_pos y] at h; cases h
      · rw [if_neg y] at h
        have h2 := (List.cons.inj h).2
        obtain ⟨n, hn⟩ := ord_some h2 (fun w => y ⟨by rw [w]; rfl, z⟩)
        exact ⟨n + 1, by rw [hn]; rfl⟩
    · rw [if_neg z]; exact ⟨0, rfl⟩
theorem p_Row_shifted : ∀ ds G q dw, sp_Row_shifted ds G q dw → t_Row_shifted dw { nx := fun _ G' => q (.val .non) G', rt := q } (start3 ["self", "many", "place"] ds) G := by
  intro ds G q dw h
  unfold t_Row_shifted
  obtain ⟨p, xs, m, hp, hr, hl, hm, h⟩ := h
  have hS := sizeLine_eq
  have hrs : Rsd p (List.replicate m 0 ++ xs) := fun x hx => by
    rcases List.mem_append.mp hx with hx | hx
    · rw [List.eq_of_mem_replicate hx]
      have := (LN.Pr.le hp).1
      omega
    · exact hr.res x hx
  rcases h with ⟨rfl, h⟩ | ⟨hm1, rfl, h⟩
  · walk_at "ev"
    refine ⟨by omega, by omega, by decide, ?_⟩
    walk_at "ev"
    refine ⟨by omega, by omega, ?_⟩
    rw [show ((m : Int)).toNat = m by omega]
    refine ⟨by rw [rangeD_len, hS]; omega, ?_⟩
    rw [rangeD_map]
    refine lc_map0 (fun k : Nat => D.int (k : Int)) (fun _ => D.int 0) (fun _ => True) (fun t k1 k2 _ e2 => ?_) (fun _ _ => trivial) ?_
    · clear h
      walk_at "ev"
      exact e2 _ rfl
    rw [zeros_map]
    walk_at "ev"
    refine ⟨by rw [List.append_nil, List.length_append, List.length_map, List.length_map, List.length_replicate, hS]; omega, ?_⟩
    rw [List.append_nil, ← List.map_append]
    walk_at "ev"
    refine ⟨p, _, _, rfl, .inl rfl, hp, hrs, by rw [List.length_append, List.length_replicate]; omega, ?_⟩
    rw [trim_up hr.trm]
    walk_at "ev"
    exact h
  · walk_at "ev"
    refine ⟨by omega, by omega, by decide, ?_⟩
    walk_at "ev"
    refine ifFq (decide_eq_false (by omega)) ?_
    have hdrop : (up m xs).drop m = xs := by
      unfold up
      split
      · rename_i z
        rw [z, List.drop_nil]
      · rw [List.drop_append_of_le_length (by rw [List.length_replicate]; exact Nat.le_refl _), List.drop_of_length_le (by rw [List.length_replicate]; exact Nat.le_refl _), List.nil_append]
    have hcut : cutD ((up m xs).map D.int) (some (- -(m : Int))) none = xs.map D.int := by
      rw [show - -(m : Int) = (m : Int) by omega, cut_from, ← List.map_drop, hdrop]
    have tail : (dRet (dCall sp_row_made (fun x _ G => dw x G) (dCons (dAttr [("Row", 2)] (dVar 0)) (dCons (dSl oSl (dAttr [("Row", 0)] (dVar 0)) (dPart (dUn uNeg (dVar 1))) dNoPart) dNil)))) { nx := fun x G' => q (Res.val D.non) G', rt := q } [.val (rwD p (up m xs)), .val (.int (-(m : Int))), .no] G := by
      walk_at "ev"
      rw [hcut]
      walk_at "ev"
      refine ⟨p, pt xs, xs, rfl, .inr rfl, hp, hr.res, by omega, ?_⟩
      rw [hr.trm]
      walk_at "ev"
      exact h
    by_cases z : xs = []
    · subst z
      clear tail
      walk_at "ev"
      rw [show cutD ((up m ([] : List Int)).map D.int) (some (- -(m : Int))) none = [] from hcut]
      walk_at "ev"
      refine ⟨p, pt [], [], rfl, .inr rfl, hp, hr.res, by decide, ?_⟩
      rw [hr.trm]
      walk_at "ev"
      exact h
    · obtain ⟨n, hn⟩ := ord_some hr.trm z
      have e : ordD (up m xs) = .int ((n + m : Nat) : Int) := by
        unfold ordD up
        rw [if_neg z, ord_up, hn]; rfl
      clear h
      walk_at "ev"
      rw [e]
      walk_at "ev"
      rw [e]
      walk_at "ev"
      refine ifFq (decide_eq_false (by omega)) ?_
      exact tail
end K03

set_option Elab.async false
set_option maxRecDepth 100000
set_option maxHeartbeats 4000000
set_option exponentiation.threshold 2000
/-! LP: points near others; points drawn. -/
namespace LP
open PySem PySem.Spec PyProof.Rows L2 L3 LD LN
local macro_rules | `(tactic| walk_at "ev") => `(tactic| repeat (first | refine ⟨_, rfl, ?_⟩ | refine ⟨_, _, rfl, ?_⟩ | refine ⟨rfl, ?_⟩ | refine And.intro (by assumption) ?_ | refine ⟨by decide, ?_⟩ | refine ⟨ltL rfl, ?_⟩ | refine ⟨_, at0, ?_⟩ | refine ⟨_, at1, ?_⟩ | refine ⟨_, at2, ?_⟩ | refine ifT ?_ | refine ifF ?_))

/-- the size of the first j letters once the noughts at their end are off -/
def nz (ws : List Int) : Nat → Nat
  | 0 => 0
  | k + 1 => if ws.getD k 1 = 0 then nz ws k else k + 1
def second (ws : List Int) : Option (List Int) :=
  if nz ws ws.length < 2 ∨ ws.getD (nz ws ws.length - 1) 0 ≠ -1 then none else some (ws.take (nz ws ws.length - 2))
theorem ints_of : ∀ (xs : List D) (p : Int), (∀ x ∈ xs, ∃ v, x = D.int v ∧ -1 ≤ v ∧ v < p) → ∃ ws : List Int, xs = ws.map D.int ∧ ∀ w ∈ ws, -1 ≤ w ∧ w < p
  | [], _, _ => ⟨[], rfl, fun _ h => by cases h⟩
  | x :: xs, p, h => by
    obtain ⟨v, rfl, hv⟩ := h x List.mem_cons_self
    obtain ⟨ws, rfl, hw⟩ := ints_of xs p fun z hz => h z (List.mem_cons_of_mem _ hz)
    exact ⟨v :: ws, rfl, fun w hm => (List.mem_cons.mp hm).elim (fun e => by rw [e]; exact hv) (hw w)⟩
end LP

set_option maxHeartbeats 4000000
/-! LO: plain: words, the orders of both coordinates told backwards, degrees, rows of residues by their entries. -/
namespace LO
/-- a word: nothing, the turn alone, or a last letter above 0 -/
def Wd (ws : List Int) : Prop := ws = [] ∨ ws = [-1] ∨ ∃ l, ws.getLast? = some l ∧ 0 < l
theorem Wd.tail {l : Int} {ws : List Int} (h : Wd (l :: ws)) : Wd ws := by
  rcases h with h | h | ⟨m, e, h⟩
  · cases h
  · cases h; exact .inl rfl
  · cases ws with
    | nil => exact .inl rfl
    | cons w ws =>
      rw [List.getLast?_cons_cons] at e
      exact .inr (.inr ⟨m, e, h⟩)
theorem Wd.drop {ws : List Int} : ∀ (pre : List Int), Wd (pre ++ ws) → Wd ws
  | [], h => h
  | _ :: pre, h => Wd.drop pre (Wd.tail h)
def addO : Option Nat → Option Nat → Option Nat
  | some a, some b => some (a + b)
  | _, _ => none
def stepO (l : Int) (s : Option Nat × Option Nat) : Option Nat × Option Nat :=
  if l = -1 then (addO s.1 s.2, s.1) else if l = 0 then (s.1, addO s.1 s.2) else (s.1, s.1)
/-- the orders of both coordinates at a word -/
def ord2 : List Int → Option Nat × Option Nat
  | [] => (some 1, none)
  | l :: ws => stepO l (ord2 ws)
/-- the count: the lesser one -/
def mn : Option Nat × Option Nat → Nat
  | (some a, some b) => if b < a then b else a
  | (some a, none) => a
  | (none, some b) => b
  | _ => 0
/-! ### degrees -/
def dg : List Int → Nat × Nat
  | [] => (1, 0)
  | l :: ws => if l = -1 then ((dg ws).1 + (dg ws).2, (dg ws).1) else ((dg ws).1, (dg ws).1 + (dg ws).2)
/-! ### rows of residues -/
abbrev co (xs : List Int) (i : Nat) : Int := xs.getD i 0
def Cf (p : Int) (xs : List Int) : Prop := ∀ i, 0 ≤ co xs i ∧ co xs i < p
def Ord (xs : List Int) : Option Nat → Prop
  | none => ∀ i, co xs i = 0
  | some n => co xs n ≠ 0 ∧ ∀ i, i < n → co xs i = 0
theorem co_out {xs : List Int} {i : Nat} (h : xs.length ≤ i) : co xs i = 0 := by
  unfold co
  rw [List.getD_eq_getElem?_getD, List.getElem?_eq_none h]; rfl
theorem co_in {xs : List Int} {i : Nat} (h : i < xs.length) : co xs i = xs[i] := by
  unfold co
  rw [List.getD_eq_getElem?_getD, List.getElem?_eq_getElem h]; rfl
theorem Ord.lt {xs : List Int} {n : Nat} (h : Ord xs (some n)) : n < xs.length := by
  rcases Nat.lt_or_ge n xs.length with z | z
  · exact z
  · exact absurd (co_out z) h.1
theorem Ord.congr {xs ys : List Int} (h : ∀ i, co ys i = co xs i) : ∀ {o : Option Nat}, Ord xs o → Ord ys o
  | none, z => fun i => (h i).trans (z i)
  | some n, z => ⟨by rw [h]; exact z.1, fun i hi => (h i).trans (z.2 i hi)⟩
theorem Ord.uniq {xs : List Int} : ∀ {o o' : Option Nat}, Ord xs o → Ord xs o' → o = o'
  | none, none, _, _ => rfl
  | none, some n, a, b => absurd (a n) b.1
  | some n, none, a, b => absurd (b n) a.1
  | some n, some m, a, b => by
    rcases Nat.lt_trichotomy n m with z | z | z
    · exact absurd (b.2 n z) a.1
    · rw [z]
    · exact absurd (a.2 m z) b.1
theorem co_set {xs : List Int} {j : Nat} {v : Int} (h : j < xs.length) (i : Nat) : co (xs.set j v) i = if i = j then v else co xs i := by
  unfold co
  rw [List.getD_eq_getElem?_getD, List.getD_eq_getElem?_getD, List.getElem?_set]
  by_cases e : i = j
  · subst e
    rw [if_pos rfl, if_pos h, if_pos rfl]; rfl
  · rw [if_neg (fun z => e z.symm), if_neg e]
theorem co_rep (n i : Nat) : co (List.replicate n 0) i = 0 := by
  unfold co
  rw [List.getD_eq_getElem?_getD, List.getElem?_replicate]
  split <;> rfl
def prs : List Nat := [2, 3, 5, 7, 11, 13, 17, 19, 23, 29, 31]
theorem noZeroN : ∀ p ∈ prs, ∀ x, x < p → ∀ y, y < p → x ≠ 0 → y ≠ 0 → x * y % p ≠ 0 := by decide +kernel
/-- no zero divisors -/
theorem noZero {p x y : Int} (hp : p ∈ ([2, 3, 5, 7, 11, 13, 17, 19, 23, 29, 31] : List Int)) (x0 : 0 ≤ x) (x1 : x < p) (y0 : 0 ≤ y) (y1 : y < p) (hx : x ≠ 0) (hy : y ≠ 0) : x * y % p ≠ 0 := by
  obtain ⟨a, rfl⟩ := Int.eq_ofNat_of_zero_le x0
  obtain ⟨b, rfl⟩ := Int.eq_ofNat_of_zero_le y0
  have h0 : 0 ≤ p := by omega
  obtain ⟨n, rfl⟩ := Int.eq_ofNat_of_zero_le h0
  have hn : n ∈ prs := by
    unfold prs
    simp only [List.mem_cons, List.not_mem_nil, or_false] at hp ⊢
    omega
  have := noZeroN n hn a (by omega) b (by omega) (by omega) (by omega)
  intro z
  apply this
  have e : ((a * b % n : Nat) : Int) = ((0 : Nat) : Int) := by
    rw [Int.natCast_emod, Int.natCast_mul]; exact z
  exact_mod_cast e
/-- what stands in the product's row while it is made: rows below i are done, in row i the entries below j -/
structure Mid (p : Int) (xs ys : List Int) (i j : Nat) (zs : List Int) : Prop where
  len : zs.length = xs.length + ys.length - 1
  cf : Cf p zs
  low : ∀ ox oy, Ord xs ox → Ord ys oy → match ox, oy with
    | some a, some b => (∀ k, k < a + b → co zs k = 0) ∧ co zs (a + b) = if i > a ∨ (i = a ∧ j > b) then co xs a * co ys b % p else 0
    | _, _ => ∀ k, co zs k = 0
theorem Mid.start {p : Int} {xs ys : List Int} (hp : 0 < p) : Mid p xs ys 0 0 (List.replicate (xs.length + ys.length - 1) 0) := by
  refine ⟨List.length_replicate, fun i => by rw [co_rep]; omega, fun ox oy hx hy => ?_⟩
  cases ox <;> cases oy <;> simp only
  · exact fun k => co_rep _ _
  · exact fun k => co_rep _ _
  · exact fun k => co_rep _ _
  · refine ⟨fun k _ => co_rep _ _, ?_⟩
    rw [if_neg (by omega)]
    exact co_rep _ _
theorem Mid.row {p : Int} {xs ys zs : List Int} {i : Nat} (h : Mid p xs ys i ys.length zs) : Mid p xs ys (i + 1) 0 zs := by
  refine ⟨h.len, h.cf, fun ox oy hx hy => ?_⟩
  have q := h.low ox oy hx hy
  cases ox with
  | none => exact q
  | some a =>
    cases oy with
    | none => exact q
    | some b =>
      refine ⟨q.1, ?_⟩
      have lt := hy.lt
      have q2 : co zs (a + b) = if i > a ∨ (i = a ∧ ys.length > b) then co xs a * co ys b % p else 0 := q.2
      show co zs (a + b) = if i + 1 > a ∨ (i + 1 = a ∧ 0 > b) then co xs a * co ys b % p else 0
      rw [q2]
      by_cases z : i > a ∨ (i = a ∧ ys.length > b)
      · rw [if_pos z, if_pos (by omega)]
      · rw [if_neg z, if_neg (by omega)]
theorem Mid.step {p : Int} {xs ys zs : List Int} {i j : Nat} (hp : 0 < p) (h : Mid p xs ys i j zs) (hi : i < xs.length) (hj : j < ys.length) :
    Mid p xs ys i (j + 1) (zs.set (i + j) ((co zs (i + j) + co xs i * co ys j) % p)) := by
  have hl : i + j < zs.length := by rw [h.len]; omega
  have hset : ∀ k, co (zs.set (i + j) ((co zs (i + j) + co xs i * co ys j) % p)) k = if k = i + j then (co zs (i + j) + co xs i * co ys j) % p else co zs k := co_set hl
  have same : co xs i * co ys j = 0 → ∀ k, co (zs.set (i + j) ((co zs (i + j) + co xs i * co ys j) % p)) k = co zs k := fun e k => by
    rw [hset, e, Int.add_zero, Int.emod_eq_of_lt (h.cf _).1 (h.cf _).2]
    split
    · rename_i z; rw [z]
    · rfl
  refine ⟨by rw [List.length_set]; exact h.len, fun k => ?_, fun ox oy hx hy => ?_⟩
  · rw [hset]
    split
    · exact ⟨Int.emod_nonneg _ (by omega), Int.emod_lt_of_pos _ hp⟩
    · exact h.cf k
  · have q := h.low ox oy hx hy
    cases ox with
    | none =>
      have z : co xs i * co ys j = 0 := by rw [hx i, Int.zero_mul]
      exact fun k => (same z k).trans (q k)
    | some a =>
      cases oy with
      | none =>
        have z : co xs i * co ys j = 0 := by rw [hy j, Int.mul_zero]
        exact fun k => (same z k).trans (q k)
      | some b =>
        have q1 : ∀ k, k < a + b → co zs k = 0 := q.1
        have q2 : co zs (a + b) = if i > a ∨ (i = a ∧ j > b) then co xs a * co ys b % p else 0 := q.2
        show (∀ k, k < a + b → _ = 0) ∧ _ = if i > a ∨ (i = a ∧ j + 1 > b) then co xs a * co ys b % p else 0
        by_cases c1 : i < a ∨ j < b
        · have z : co xs i * co ys j = 0 := by
            rcases c1 with c | c
            · rw [hx.2 i c, Int.zero_mul]
            · rw [hy.2 j c, Int.mul_zero]
          refine ⟨fun k hk => (same z k).trans (q1 k hk), ?_⟩
          rw [same z, q2]
          by_cases w : i > a ∨ (i = a ∧ j > b)
          · rw [if_pos w, if_pos (by omega)]
          · rw [if_neg w, if_neg (by omega)]
        · by_cases c2 : i = a ∧ j = b
          · obtain ⟨rfl, rfl⟩ := c2
            refine ⟨fun k hk => ?_, ?_⟩
            · rw [hset, if_neg (by omega)]; exact q1 k hk
            · rw [hset, if_pos rfl, q2, if_neg (by omega), if_pos (by omega), Int.zero_add]
          · refine ⟨fun k hk => ?_, ?_⟩
            · rw [hset, if_neg (by omega)]; exact q1 k hk
            · rw [hset, if_neg (by omega), q2]
              by_cases w : i > a ∨ (i = a ∧ j > b)
              · rw [if_pos w, if_pos (by omega)]
              · rw [if_neg w, if_neg (by omega)]
theorem Mid.fin {p : Int} {xs ys zs : List Int} (hp : p ∈ ([2, 3, 5, 7, 11, 13, 17, 19, 23, 29, 31] : List Int)) (cx : Cf p xs) (cy : Cf p ys) (h : Mid p xs ys xs.length 0 zs) {ox oy : Option Nat} (hx : Ord xs ox) (hy : Ord ys oy) : Ord zs (addO ox oy) := by
  have q := h.low ox oy hx hy
  cases ox with
  | none => exact q
  | some a =>
    cases oy with
    | none => exact q
    | some b =>
      have q2 : co zs (a + b) = if xs.length > a ∨ (xs.length = a ∧ 0 > b) then co xs a * co ys b % p else 0 := q.2
      rw [if_pos (.inl hx.lt)] at q2
      exact ⟨by rw [q2]; exact noZero hp (cx a).1 (cx a).2 (cy b).1 (cy b).2 hx.1 hy.1, q.1⟩
end LO

set_option Elab.async false
set_option maxRecDepth 100000
set_option maxHeartbeats 4000000
set_option exponentiation.threshold 2000
/-! LB: branches and their orders; words drawn. -/
namespace LB
open PySem PySem.Spec PyProof.Rows L2 L3 LD LN LP LO
local macro_rules | `(tactic| walk_at "ev") => `(tactic| repeat (first | refine lc_stop ?_ | refine for_stop ?_ | refine ⟨_, rfl, ?_⟩ | refine ⟨_, _, rfl, ?_⟩ | refine ⟨rfl, ?_⟩ | refine And.intro (by assumption) ?_ | refine ⟨by decide, ?_⟩ | refine ⟨ltL rfl, ?_⟩ | refine ⟨_, at0, ?_⟩ | refine ⟨_, at1, ?_⟩ | refine ⟨_, at2, ?_⟩ | refine ifT ?_ | refine ifF ?_ | refine ⟨_, _, _, rfl, ?_⟩ | refine ⟨⟨_, rfl⟩, ?_⟩))
local macro_rules | `(tactic| walk_at "eva") => `(tactic| repeat (first | refine ⟨_, rfl, ?_⟩ | refine ⟨_, _, rfl, ?_⟩ | refine ⟨rfl, ?_⟩ | refine And.intro (by assumption) ?_ | refine ⟨by decide, ?_⟩ | refine ⟨ltL rfl, ?_⟩ | refine ⟨_, at0, ?_⟩ | refine ⟨_, at1, ?_⟩ | refine ⟨_, at2, ?_⟩ | refine ifT ?_ | refine ifF ?_ | refine ⟨_, _, _, rfl, ?_⟩ | refine ⟨⟨_, rfl⟩, ?_⟩))
def oD : Option Nat → D
  | none => .non
  | some a => .int (a : Nat)
end LB

set_option Elab.async false
set_option maxRecDepth 100000
set_option maxHeartbeats 4000000
set_option exponentiation.threshold 2000
/-! LC: the counts of branches. -/
namespace LC
open PySem PySem.Spec PyProof.Rows L2 L3 LD LN LP LO LB
local macro_rules | `(tactic| walk_at "ev") => `(tactic| repeat (first | refine lc_stop ?_ | refine for_stop ?_ | refine ⟨_, rfl, ?_⟩ | refine ⟨_, _, rfl, ?_⟩ | refine ⟨rfl, ?_⟩ | refine And.intro (by assumption) ?_ | refine ⟨by decide, ?_⟩ | refine ⟨ltL rfl, ?_⟩ | refine ⟨_, at0, ?_⟩ | refine ⟨_, at1, ?_⟩ | refine ⟨_, at2, ?_⟩ | refine ifT ?_ | refine ifF ?_ | refine ⟨_, _, _, rfl, ?_⟩ | refine ⟨⟨_, rfl⟩, ?_⟩))
local macro_rules | `(tactic| walk_at "eva") => `(tactic| repeat (first | refine ⟨_, rfl, ?_⟩ | refine ⟨_, _, rfl, ?_⟩ | refine ⟨rfl, ?_⟩ | refine And.intro (by assumption) ?_ | refine ⟨by decide, ?_⟩ | refine ⟨ltL rfl, ?_⟩ | refine ⟨_, at0, ?_⟩ | refine ⟨_, at1, ?_⟩ | refine ⟨_, at2, ?_⟩ | refine ifT ?_ | refine ifF ?_ | refine ⟨_, _, _, rfl, ?_⟩ | refine ⟨⟨_, rfl⟩, ?_⟩))
/-! ### plain -/
/-- the count at a height -/
def cnt (ws : List Int) (i : Nat) : Nat := mn (ord2 (ws.drop i))
/-! ### tall -/
def tall (ws : List Int) (h : Nat) : Bool := decide (1 < cnt ws h) || (second (ws.take h)).isSome
def tl (ws : List Int) : List Nat := (List.range (ws.length + 1)).filter (tall ws)
def tw (ws : List Int) : Nat := (tl ws).foldr (fun h m => if m < h + 1 then h + 1 else m) 0
end LC

set_option Elab.async false
set_option maxRecDepth 100000
set_option maxHeartbeats 4000000
set_option exponentiation.threshold 2000
/-! LC2: the counts of branches, walked. -/
namespace LC
open PySem PySem.Spec PyProof.Rows L2 L3 LD LN LP LO LB
local macro_rules | `(tactic| walk_at "ev") => `(tactic| repeat (first | refine lc_stop ?_ | refine for_stop ?_ | refine ⟨_, rfl, ?_⟩ | refine ⟨_, _, rfl, ?_⟩ | refine ⟨rfl, ?_⟩ | refine And.intro (by assumption) ?_ | refine ⟨by decide, ?_⟩ | refine ⟨ltL rfl, ?_⟩ | refine ⟨_, at0, ?_⟩ | refine ⟨_, at1, ?_⟩ | refine ⟨_, at2, ?_⟩ | refine ifT ?_ | refine ifF ?_ | refine ⟨_, _, _, rfl, ?_⟩ | refine ⟨⟨_, rfl⟩, ?_⟩))
local macro_rules | `(tactic| walk_at "eva") => `(tactic| repeat (first | refine ⟨_, rfl, ?_⟩ | refine ⟨_, _, rfl, ?_⟩ | refine ⟨rfl, ?_⟩ | refine And.intro (by assumption) ?_ | refine ⟨by decide, ?_⟩ | refine ⟨ltL rfl, ?_⟩ | refine ⟨_, at0, ?_⟩ | refine ⟨_, at1, ?_⟩ | refine ⟨_, at2, ?_⟩ | refine ifT ?_ | refine ifF ?_ | refine ⟨_, _, _, rfl, ?_⟩ | refine ⟨⟨_, rfl⟩, ?_⟩))
theorem rep1 (n : Nat) (v : Int) : (List.replicate n [D.int v]).flatten = (List.replicate n v).map D.int := by
  rw [List.map_replicate]
  induction n with
  | zero => rfl
  | succ n ih => rw [List.replicate_succ, List.flatten_cons, ih]; rfl
end LC

set_option Elab.async false
set_option maxRecDepth 100000
set_option maxHeartbeats 4000000
set_option exponentiation.threshold 2000
/-! K04: the law's own rows -/
namespace K04
open PySem PySem.Spec PyProof.Rows L2 L3 LD LM RS
open LG (ifND)
open LN (pt sh_pt eqv_pt sh_ints eqv_ints Pr)
local macro_rules | `(tactic| walk_at "ev") => `(tactic| repeat (first | refine lc_stop ?_ | refine for_stop ?_ | refine ⟨_, rfl, ?_⟩ | refine ⟨_, _, rfl, ?_⟩ | refine ⟨rfl, ?_⟩ | refine And.intro (by assumption) ?_ | refine ⟨by decide, ?_⟩ | refine ⟨ltL rfl, ?_⟩ | refine ⟨_, at0, ?_⟩ | refine ⟨_, at1, ?_⟩ | refine ⟨_, at2, ?_⟩ | refine ifT ?_ | refine ifF ?_ | refine ⟨_, _, _, rfl, ?_⟩ | refine ⟨⟨_, rfl⟩, ?_⟩ | refine ⟨_, _, _, _, rfl, ?_⟩))

end K04

set_option Elab.async false
set_option maxRecDepth 100000
set_option maxHeartbeats 4000000
set_option exponentiation.threshold 2000
/-! K04: rows drawn -/
namespace K04
open PySem PySem.Spec PyProof.Rows L2 L3 LD LM RS
open LG (ifND)
open LN (pt sh_pt eqv_pt sh_ints eqv_ints Pr)
local macro_rules | `(tactic| walk_at "ev") => `(tactic| repeat (first | refine lc_stop ?_ | refine for_stop ?_ | refine ⟨_, rfl, ?_⟩ | refine ⟨_, _, rfl, ?_⟩ | refine ⟨rfl, ?_⟩ | refine And.intro (by assumption) ?_ | refine ⟨by decide, ?_⟩ | refine ⟨ltL rfl, ?_⟩ | refine ⟨_, at0, ?_⟩ | refine ⟨_, at1, ?_⟩ | refine ⟨_, at2, ?_⟩ | refine ifT ?_ | refine ifF ?_ | refine ⟨_, _, _, rfl, ?_⟩ | refine ⟨⟨_, rfl⟩, ?_⟩ | refine ⟨_, _, _, _, rfl, ?_⟩))

theorem ints_ofR : ∀ (xs : List D) (p : Int), (∀ x ∈ xs, ∃ v, x = D.int v ∧ 0 ≤ v ∧ v < p) → ∃ ws : List Int, xs = ws.map D.int ∧ Rsd p ws
  | [], _, _ => ⟨[], rfl, fun _ h => by cases h⟩
  | x :: xs, p, h => by
    obtain ⟨v, rfl, hv⟩ := h x List.mem_cons_self
    obtain ⟨ws, rfl, hw⟩ := ints_ofR xs p fun y hy => h y (List.mem_cons_of_mem _ hy)
    exact ⟨v :: ws, rfl, fun y hy => by
      rcases List.mem_cons.mp hy with rfl | hy
      · exact hv
      · exact hw y hy⟩
theorem p__law_any_row : ∀ ds G q dw, sp__law_any_row ds G q dw → t__law_any_row dw { nx := fun _ G' => q (.val .non) G', rt := q } (start3 ["_law_dice_here", "_law_prime", "_law_least", "_law_entries", "_law_turn"] ds) G := by
  intro ds G q dw h
  unfold t__law_any_row
  obtain ⟨a, R, p, l, rfl, d, hp, hl, h⟩ := h
  have hS := sizeLine_eq
  have hp2 := LN.Pr.le hp
  walk_at "ev"
  refine ⟨a, R, 8, rfl, d, by decide, by decide, fun r G1 r0 r1 d1 => ?_⟩
  walk_at "ev"
  refine ifE (fun z => ?_) (fun z => ?_)
  · walk_at "ev"
    exact h [] _ ⟨(fun x hx => nomatch hx), rfl⟩ (by decide) (fun i _ => co_nil i) d1
  walk_at "ev"
  refine ⟨a, R, _, rfl, d1, by simp, by simp, fun e G2 he d2 => ?_⟩
  have hv : ∃ v : Nat, e = .int (v : Int) ∧ v ≤ 3 := by
    simp only [List.mem_cons, List.not_mem_nil, or_false] at he
    rcases he with rfl | rfl | rfl | rfl
    · exact ⟨0, rfl, by decide⟩
    · exact ⟨0, rfl, by decide⟩
    · exact ⟨1, rfl, by decide⟩
    · exact ⟨3, rfl, by decide⟩
  obtain ⟨v, rfl, hv⟩ := hv
  walk_at "ev"
  have et : ((l : Int) + (v : Int)).toNat = l + v := by omega
  refine ⟨by omega, by omega, by rw [et, List.length_singleton]; omega, ?_⟩
  rw [et, LC.rep1]
  walk_at "ev"
  refine ⟨a, R, 5, rfl, d2, by decide, by decide, fun m G3 m0 m1 d3 => ?_⟩
  walk_at "ev"
  refine ⟨by omega, by omega, ?_⟩
  refine ⟨by rw [rangeD_len]; omega, ?_⟩
  refine lc_reg (E := [.val (.ref a), .val (.int p), .val (.int (l : Int)), .no, .no]) (fun _ => True) (Dice a R) (fun x => ∃ v, x = D.int v ∧ 0 ≤ v ∧ v < p) (fun d G2 k1 k2 _ d2 e1 e2 => ?_) _ _ _ _ (fun _ _ => trivial) d3 (fun xs G4 hx hxl d4 => ?_)
  · clear h
    walk_at "ev"
    refine ⟨a, R, p, rfl, d2, by omega, by unfold BIG; omega, fun w G5 w0 w1 d5 => ?_⟩
    walk_at "ev"
    exact e1 _ _ _ ⟨w, rfl, w0, w1⟩ d5 rfl
  · obtain ⟨ws, rfl, hw⟩ := ints_ofR xs p hx
    rw [rangeD_len, List.length_map] at hxl
    rw [List.nil_append]
    walk_at "ev"
    refine ⟨by rw [List.length_map, List.length_map, List.length_replicate]; omega, ?_⟩
    rw [← List.map_append]
    walk_at "ev"
    have hlen : (List.replicate (l + v) 0 ++ ws).length ≤ 8 := by rw [List.length_append, List.length_replicate]; omega
    have fin : ∀ (w : Int) (G' : Reg), 0 < w → w < p → Dice a R G' → q (.val (.tup ((List.replicate (l + v) 0 ++ ws).map D.int ++ [.int w]))) G' := by
      intro w G' w0 w1 dg
      have := h ((List.replicate (l + v) 0 ++ ws) ++ [w]) G' ⟨fun x hx => ?_, ?_⟩ (by rw [List.length_append, List.length_singleton]; omega) (fun i hi => ?_) dg
      · unfold pt at this
        rw [List.map_append] at this
        exact this
      · rcases List.mem_append.mp hx with hx | hx
        · rcases List.mem_append.mp hx with hx | hx
          · rw [List.eq_of_mem_replicate hx]; omega
          · exact hw x hx
        · rw [List.mem_singleton.mp hx]; omega
      · exact trim_self (.inr ⟨w, by rw [List.getLast?_append]; rfl, by omega⟩)
      · rw [List.append_assoc, co_in (by rw [List.length_append, List.length_replicate]; omega), List.getElem_append_left (by rw [List.length_replicate]; omega), List.getElem_replicate]
    refine ifD (fun p2 => ?_) (fun p2 => ?_)
    · walk_at "ev"
      refine ⟨a, R, p - 1, rfl, d4, by omega, by unfold BIG; omega, fun w G5 w0 w1 d5 => ?_⟩
      walk_at "ev"
      refine ⟨by rw [List.length_map]; show _ + 1 ≤ _; omega, ?_⟩
      walk_at "ev"
      exact fin _ _ (by omega) (by omega) d5
    · walk_at "ev"
      refine ⟨by rw [List.length_map]; show _ + 1 ≤ _; omega, ?_⟩
      walk_at "ev"
      exact fin _ _ (by omega) (by omega) d4
end K04

set_option Elab.async false
set_option maxRecDepth 100000
set_option maxHeartbeats 4000000
set_option exponentiation.threshold 2000
/-! K03: the law -/
namespace K03
open PySem PySem.Spec PyProof.Rows L2 L3 LD RS K04
open LN (Pt Pr pt sh_pt eqv_pt sh_ints eqv_ints tru)
open LM (ifTq ifFq lc_map0)
open LG (ifND ifNB)
local macro_rules | `(tactic| walk_at "ev") => `(tactic| repeat (first | refine lc_stop ?_ | refine for_stop ?_ | refine ⟨_, rfl, ?_⟩ | refine ⟨_, _, rfl, ?_⟩ | refine ⟨rfl, ?_⟩ | refine And.intro (by assumption) ?_ | refine ⟨by decide, ?_⟩ | refine ⟨ltL rfl, ?_⟩ | refine ⟨_, at0, ?_⟩ | refine ⟨_, at1, ?_⟩ | refine ⟨_, at2, ?_⟩ | refine ifT ?_ | refine ifF ?_ | refine ⟨_, _, _, rfl, ?_⟩ | refine ⟨⟨_, rfl⟩, ?_⟩ | refine ⟨_, _, _, _, rfl, ?_⟩))
theorem tmS_tail (y : Int) (i : Nat) : tmS y i = if y = 1 ∧ 0 < i then (if i = 0 then ("" : Str) else if i = 1 then ("t" : Str) else ("t^" : Str) ++ sI (i : Int)) else sI y ++ (if i = 0 then ("" : Str) else if i = 1 then ("t" : Str) else ("t^" : Str) ++ sI (i : Int)) := by
  have fr : ∀ {T : Str}, (if y = 1 ∧ 0 < i then T else T) = T := fun {T} => by split <;> rfl
  have hc : ("t^" : Str) = ("t" : Str) ++ ("^" : Str) := by decide
  unfold tmS
  by_cases h0 : i = 0
  · rw [if_pos h0, if_pos h0, if_neg (show ¬ (y = 1 ∧ 0 < i) from fun q => absurd q.2 (by omega))]
    exact (Str.append_empty _).symm
  · rw [if_neg h0, if_neg h0, hc]
    by_cases h1 : y = 1
    · rw [if_pos h1, if_pos (show y = 1 ∧ 0 < i from ⟨h1, by omega⟩)]
      exact Str.empty_append _
    · rw [if_neg h1, if_neg (show ¬ (y = 1 ∧ 0 < i) from fun q => h1 q.1)]
def tlT (i : Nat) : Str := if i = 0 then ("" : Str) else if i = 1 then ("t" : Str) else ("t^" : Str) ++ sI (i : Int)
theorem tlT_len {i : Nat} (hi : i < 10000) : (tlT i).length ≤ 62 := by
  have li := sI_len (show 0 ≤ (i : Int) by omega) (show (i : Int) < 100000 by omega)
  have t1 : (Str.ofString "t").length = 1 := rfl
  have t2 : (Str.ofString "t^").length = 2 := rfl
  have t0 : (Str.ofString "").length = 0 := rfl
  unfold tlT
  split
  · omega
  · split
    · omega
    · rw [Str.length_append]; omega
@[irreducible] def tApp : DSt :=
  (dDrop (dApp 1 (dIf (dAnd (dTest (dOp oEq (dVar 3) (dC (.int (1))))) (dTest (dOp oGt (dVar 2) (dC (.int (0)))))) (dVar 4) (dOp oAdd (dCB bStr (dPCons (dVar 3) dNil)) (dVar 4)))))
theorem tRow_eq (dw : Exc3 → Reg → Prop) : t__law_row_text dw =
  (dSeq (dSet 1 (dLst dNil))
    (dSeq (dFor (dEnumA (dCons (dVar 0) dNil)) (gTp 2 (gsCons (gNm 2) (gsCons (gNm 3) gsNil))) (dIfS (dTest (dOp oNe (dVar 3) (dC (.int (0))))) (dSeq (dSet 4 (dIf (dTest (dOp oEq (dVar 2) (dC (.int (0))))) (dC (.str "")) (dIf (dTest (dOp oEq (dVar 2) (dC (.int (1))))) (dC (.str "t")) (dOp oAdd (dC (.str "t^")) (dCB bStr (dPCons (dVar 2) dNil))))))
    tApp) dNext))
    (dRet (dIf (dTest (dOp oNe (dVar 1) (dLst dNil))) (dJoin (dC (.str "+")) (dVar 1)) (dC (.str "0")))))) := by
  unfold tApp; rfl
theorem row_step (y : Int) (i : Nat) (ss : List Str) {xs : List Int} {G : Reg} {Dn : Ends3} (h0 : 0 ≤ y) (h1 : y < 100) (hi : i < 10000) (hl : ss.length ≤ 5000) (h : Dn.nx [.val (pt xs), .own ((ss ++ [tmS y i]).map D.str), .val (.int (i : Int)), .val (.int y), .val (.str (tlT i))] G) :
  tApp Dn [.val (pt xs), .own (ss.map D.str), .val (.int (i : Int)), .val (.int y), .val (.str (tlT i))] G := by
  unfold tApp
  have hS := sizeLine_eq
  have ht := tlT_len hi
  have hy := sI_len h0 (show y < 100000 by omega)
  have e : tmS y i = if y = 1 ∧ 0 < i then tlT i else sI y ++ tlT i := tmS_tail y i
  rw [List.map_append, List.map_singleton] at h
  generalize tlT i = T at h ht e
  have oth : ¬ (y = 1 ∧ 0 < i) → (dOp oAdd (dCB bStr (dPCons (dVar 3) dNil)) (dVar 4)
      [Sl3.val (pt xs), Sl3.own (List.map D.str ss), Sl3.val (D.int i), Sl3.val (D.int y), Sl3.val (D.str T)] G
      fun r E1 G1 =>
      ∃ d E2,
        r.ice E1 = some (d, E2) ∧
          ∃ ds,
            E2[1]? = some (Sl3.own ds) ∧
              ds.length < sizeLine ∧ (fun x E1 G1 => Dn.nx E1 G1) (Res.val D.non) (List.set E2 1 (Sl3.own (ds ++ [d]))) G1) := fun z => by
    rw [if_neg z] at e
    rw [e] at h
    have lgy := log_small h0 (show y < 100000 by omega)
    have hy' : (Str.ofString (toString y)).length ≤ 60 := hy
    walk_at "ev"
    refine ⟨by omega, ?_⟩
    walk_at "ev"
    refine ⟨by rw [List.length_map, hS]; omega, ?_⟩
    exact h
  walk_at "ev"
  refine ifE (fun z => ?_) (fun z => ?_)
  · walk_at "ev"
    refine ifD (fun z2 => ?_) (fun z2 => ?_)
    · rw [if_pos ⟨z, by omega⟩] at e
      rw [e] at h
      walk_at "ev"
      refine ⟨by rw [List.length_map, hS]; omega, ?_⟩
      exact h
    · exact oth (by omega)
  · exact oth (by omega)
theorem row_step2 (y : Int) (i : Nat) (ss : List Str) {xs : List Int} {G : Reg} {Dn : Ends3} {T : Str} (hT : T = tlT i) (h0 : 0 ≤ y) (h1 : y < 100) (hi : i < 10000) (hl : ss.length ≤ 5000) (h : Dn.nx [.val (pt xs), .own ((ss ++ [tmS y i]).map D.str), .val (.int (i : Int)), .val (.int y), .val (.str T)] G) :
  tApp Dn [.val (pt xs), .own (ss.map D.str), .val (.int (i : Int)), .val (.int y), .val (.str T)] G := by
  subst hT
  exact row_step y i ss h0 h1 hi hl h
theorem p__law_row_text : ∀ ds G q dw, sp__law_row_text ds G q dw → t__law_row_text dw { nx := fun _ G' => q (.val .non) G', rt := q } (start3 ["_law_row", "_law_words", "_law_power", "_law_entry", "_law_tail"] ds) G := by
  intro ds G q dw h
  rw [tRow_eq]
  obtain ⟨p, xs, rfl, hp, hr, hl, h⟩ := h
  have hS := sizeLine_eq
  have hp31 := (LN.Pr.le hp).2
  have hsum := tms_sum hp31 xs 0 hr (by omega)
  have htl := tms_len xs 0
  walk_at "ev"
  rw [enum_enm]
  refine Stop.go ?_
  refine for_ind (fun ds E G2 => G2 = G ∧ ∃ (i : Nat) (dn ys : List Int) (ss : List Str) (s2 s3 s4 : Sl3), i + ys.length = xs.length ∧ (∀ y ∈ ys, 0 ≤ y ∧ y < p) ∧ ds = enm i ys ∧ ss ++ tms i ys = tms 0 xs ∧ E = [.val (pt xs), .own (ss.map D.str), s2, s3, s4]) (fun E G2 hI => ?_) (fun d ds E G2 nx hI hn => ?_) _ _ _ ⟨rfl, 0, [], xs, [], _, _, _, by omega, hr, rfl, rfl, rfl⟩
  · obtain ⟨rfl, i, dn, ys, ss, s2, s3, s4, hi, hy, e1, e2, rfl⟩ := hI
    cases ys with
    | cons y ys => cases e1
    | nil =>
      have e2 : ss ++ [] = tms 0 xs := e2
      rw [List.append_nil] at e2
      subst e2
      have hok := sh_ss (tms 0 xs) (tms_ok xs 0)
      have hrt : rtx xs = if tms 0 xs = [] then ("0" : Str) else Txt.join ("+" : Str) (tms 0 xs) := rfl
      generalize tms 0 xs = ts at hok hrt hsum htl
      rw [hrt] at h
      walk_at "ev"
      rw [LG.eqvL_nil_dec]
      refine ifND (fun z => ?_) (fun z => ?_)
      · rw [if_neg (fun q => z (by rw [q]; rfl))] at h
        walk_at "ev"
        refine ⟨_, texts_str ts, by rw [show (Str.ofString "+").length = 1 from rfl]; omega, ?_⟩
        walk_at "ev"
        exact h
      · rw [if_pos (List.map_eq_nil_iff.mp z)] at h
        walk_at "ev"
        exact h
  · obtain ⟨rfl, i, dn, ys, ss, s2, s3, s4, hi, hy, e1, e2, rfl⟩ := hI
    cases ys with
    | nil => cases e1
    | cons y ys =>
      obtain ⟨rfl, rfl⟩ := List.cons.inj e1
      rw [List.length_cons] at hi
      have hy0 := hy y List.mem_cons_self
      clear h
      walk_at "ev"
      refine ifNE (fun z => ?_) (fun z => ?_)
      · have e2 : ss ++ (if y = 0 then tms (i + 1) ys else tmS y i :: tms (i + 1) ys) = tms 0 xs := e2
        rw [if_neg z] at e2
        have hss := congrArg List.length e2
        rw [List.length_append] at hss
        have stp : nx _ G2 := hn [.val (pt xs), .own ((ss ++ [tmS y i]).map D.str), .val (.int (i : Int)), .val (.int y), .val (.str (tlT i))] G2 ⟨rfl, i + 1, [], ys, ss ++ [tmS y i], _, _, _, by omega, fun w hw => hy w (List.mem_cons_of_mem _ hw), rfl, by rw [List.append_assoc]; exact e2, rfl⟩
        walk_at "ev"
        refine ifE (fun i0 => ?_) (fun i0 => ?_)
        · have i0 : i = 0 := by omega
          subst i0
          walk_at "ev"
          refine row_step y 0 ss hy0.1 (by omega) (by omega) (by omega) ?_
          exact stp
        walk_at "ev"
        refine ifE (fun i1 => ?_) (fun i1 => ?_)
        · have i1 : i = 1 := by omega
          subst i1
          walk_at "ev"
          refine row_step y 1 ss hy0.1 (by omega) (by omega) (by omega) ?_
          exact stp
        · have et : tlT i = ("t^" : Str) ++ sI (i : Int) := by unfold tlT; rw [if_neg (by omega), if_neg (by omega)]
          have lgi := log_small (show 0 ≤ (i : Int) by omega) (show (i : Int) < 100000 by omega)
          have li' : (Str.ofString (toString (i : Int))).length ≤ 60 := sI_len (show 0 ≤ (i : Int) by omega) (show (i : Int) < 100000 by omega)
          have t2 : (Str.ofString "t^").length = 2 := rfl
          rw [et] at stp
          walk_at "ev"
          refine ⟨by omega, ?_⟩
          walk_at "ev"
          refine row_step2 y i ss et.symm hy0.1 (by omega) (by omega) (by omega) ?_
          exact stp
      · have e2 : ss ++ (if y = 0 then tms (i + 1) ys else tmS y i :: tms (i + 1) ys) = tms 0 xs := e2
        rw [if_pos z] at e2
        exact hn _ _ ⟨rfl, i + 1, [], ys, ss, _, _, _, by omega, fun w hw => hy w (List.mem_cons_of_mem _ hw), rfl, e2, rfl⟩
theorem p__law_any_row : ∀ ds G q dw, sp__law_any_row ds G q dw → t__law_any_row dw { nx := fun _ G' => q (.val .non) G', rt := q } (start3 ["_law_dice_here", "_law_prime", "_law_entries", "_law_turn"] ds) G := by
  intro ds G q dw h
  unfold t__law_any_row
  obtain ⟨a, R, p, rfl, d, hp, h⟩ := h
  have hS := sizeLine_eq
  have hp2 := LN.Pr.le hp
  walk_at "ev"
  refine ⟨a, R, 7, rfl, d, by decide, by decide, fun r G1 r0 r1 d1 => ?_⟩
  walk_at "ev"
  refine ifE (fun z => ?_) (fun z => ?_)
  · walk_at "ev"
    exact h [] _ ⟨(fun x hx => nomatch hx), rfl⟩ (by decide) d1
  walk_at "ev"
  refine ⟨a, R, _, rfl, d1, by simp, by simp, fun e G2 he d2 => ?_⟩
  have hv : ∃ v : Nat, e = .int (v : Int) ∧ v ≤ 4 := by
    simp only [List.mem_cons, List.not_mem_nil, or_false] at he
    rcases he with rfl | rfl | rfl | rfl | rfl
    · exact ⟨0, rfl, by decide⟩
    · exact ⟨0, rfl, by decide⟩
    · exact ⟨1, rfl, by decide⟩
    · exact ⟨2, rfl, by decide⟩
    · exact ⟨4, rfl, by decide⟩
  obtain ⟨v, rfl, hv⟩ := hv
  walk_at "ev"
  have et : ((v : Int)).toNat = v := by omega
  refine ⟨by omega, by omega, by rw [et, List.length_singleton]; omega, ?_⟩
  rw [et, LC.rep1]
  walk_at "ev"
  refine ⟨a, R, 6, rfl, d2, by decide, by decide, fun m G3 m0 m1 d3 => ?_⟩
  walk_at "ev"
  refine ⟨by omega, by omega, ?_⟩
  refine ⟨by rw [rangeD_len]; omega, ?_⟩
  refine lc_reg (E := [.val (.ref a), .val (.int p), .no, .no]) (fun _ => True) (Dice a R) (fun x => ∃ v, x = D.int v ∧ 0 ≤ v ∧ v < p) (fun d G2 k1 k2 _ d2 e1 e2 => ?_) _ _ _ _ (fun _ _ => trivial) d3 (fun xs G4 hx hxl d4 => ?_)
  · clear h
    walk_at "ev"
    refine ⟨a, R, p, rfl, d2, by omega, by unfold BIG; omega, fun w G5 w0 w1 d5 => ?_⟩
    walk_at "ev"
    exact e1 _ _ _ ⟨w, rfl, w0, w1⟩ d5 rfl
  · obtain ⟨ws, rfl, hw⟩ := K04.ints_ofR xs p hx
    rw [rangeD_len, List.length_map] at hxl
    rw [List.nil_append]
    walk_at "ev"
    refine ⟨by rw [List.length_map, List.length_map, List.length_replicate]; omega, ?_⟩
    rw [← List.map_append]
    walk_at "ev"
    have hlen : (List.replicate v 0 ++ ws).length ≤ 9 := by rw [List.length_append, List.length_replicate]; omega
    have fin : ∀ (w : Int) (G' : Reg), 0 < w → w < p → Dice a R G' → q (.val (.tup ((List.replicate v 0 ++ ws).map D.int ++ [.int w]))) G' := by
      intro w G' w0 w1 dg
      have := h ((List.replicate v 0 ++ ws) ++ [w]) G' ⟨fun x hx => ?_, ?_⟩ (by rw [List.length_append, List.length_singleton]; omega) dg
      · unfold pt at this
        rw [List.map_append] at this
        exact this
      · rcases List.mem_append.mp hx with hx | hx
        · rcases List.mem_append.mp hx with hx | hx
          · rw [List.eq_of_mem_replicate hx]; omega
          · exact hw x hx
        · rw [List.mem_singleton.mp hx]; omega
      · exact trim_self (.inr ⟨w, by rw [List.getLast?_append]; rfl, by omega⟩)
    refine ifD (fun p2 => ?_) (fun p2 => ?_)
    · walk_at "ev"
      refine ⟨a, R, p - 1, rfl, d4, by omega, by unfold BIG; omega, fun w G5 w0 w1 d5 => ?_⟩
      walk_at "ev"
      refine ⟨by rw [List.length_map]; show _ + 1 ≤ _; omega, ?_⟩
      walk_at "ev"
      exact fin _ _ (by omega) (by omega) d5
    · walk_at "ev"
      refine ⟨by rw [List.length_map]; show _ + 1 ≤ _; omega, ?_⟩
      walk_at "ev"
      exact fin _ _ (by omega) (by omega) d4
end K03

set_option Elab.async false
set_option maxRecDepth 100000
set_option maxHeartbeats 4000000
set_option exponentiation.threshold 2000
/-! K04: put into another -/
namespace K04
open PySem PySem.Spec PyProof.Rows L2 L3 LD LM RS
open LG (ifND)
open LN (pt sh_pt eqv_pt sh_ints eqv_ints Pr)
local macro_rules | `(tactic| walk_at "ev") => `(tactic| repeat (first | refine lc_stop ?_ | refine for_stop ?_ | refine ⟨_, rfl, ?_⟩ | refine ⟨_, _, rfl, ?_⟩ | refine ⟨rfl, ?_⟩ | refine And.intro (by assumption) ?_ | refine ⟨by decide, ?_⟩ | refine ⟨ltL rfl, ?_⟩ | refine ⟨_, at0, ?_⟩ | refine ⟨_, at1, ?_⟩ | refine ⟨_, at2, ?_⟩ | refine ifT ?_ | refine ifF ?_ | refine ⟨_, _, _, rfl, ?_⟩ | refine ⟨⟨_, rfl⟩, ?_⟩ | refine ⟨_, _, _, _, rfl, ?_⟩))

end K04

set_option Elab.async false
set_option maxRecDepth 100000
set_option maxHeartbeats 4000000
set_option exponentiation.threshold 2000
/-! K04: powers -/
namespace K04
open PySem PySem.Spec PyProof.Rows L2 L3 LD LM RS
open LG (ifND)
open LN (pt sh_pt eqv_pt sh_ints eqv_ints Pr)
local macro_rules | `(tactic| walk_at "ev") => `(tactic| repeat (first | refine lc_stop ?_ | refine for_stop ?_ | refine ⟨_, rfl, ?_⟩ | refine ⟨_, _, rfl, ?_⟩ | refine ⟨rfl, ?_⟩ | refine And.intro (by assumption) ?_ | refine ⟨by decide, ?_⟩ | refine ⟨ltL rfl, ?_⟩ | refine ⟨_, at0, ?_⟩ | refine ⟨_, at1, ?_⟩ | refine ⟨_, at2, ?_⟩ | refine ifT ?_ | refine ifF ?_ | refine ⟨_, _, _, rfl, ?_⟩ | refine ⟨⟨_, rfl⟩, ?_⟩ | refine ⟨_, _, _, _, rfl, ?_⟩))

end K04

set_option Elab.async false
set_option maxRecDepth 100000
set_option maxHeartbeats 4000000
set_option exponentiation.threshold 2000
/-! K04: products by the law; rows put into another by the law -/
namespace K04
open PySem PySem.Spec PyProof.Rows L2 L3 LD LM RS
open LG (ifND)
open LN (pt sh_pt eqv_pt sh_ints eqv_ints Pr)
local macro_rules | `(tactic| walk_at "ev") => `(tactic| repeat (first | refine lc_stop ?_ | refine for_stop ?_ | refine ⟨_, rfl, ?_⟩ | refine ⟨_, _, rfl, ?_⟩ | refine ⟨rfl, ?_⟩ | refine And.intro (by assumption) ?_ | refine ⟨by decide, ?_⟩ | refine ⟨ltL rfl, ?_⟩ | refine ⟨_, at0, ?_⟩ | refine ⟨_, at1, ?_⟩ | refine ⟨_, at2, ?_⟩ | refine ifT ?_ | refine ifF ?_ | refine ⟨_, _, _, rfl, ?_⟩ | refine ⟨⟨_, rfl⟩, ?_⟩ | refine ⟨_, _, _, _, rfl, ?_⟩))

end K04

set_option Elab.async false
set_option maxRecDepth 100000
set_option maxHeartbeats 4000000
set_option exponentiation.threshold 2000
/-! K04: rows put into another by the law; plain: what fits together -/
namespace K04
open PySem PySem.Spec PyProof.Rows L2 L3 LD LM RS
open LG (ifND)
open LN (pt sh_pt eqv_pt sh_ints eqv_ints Pr)
local macro_rules | `(tactic| walk_at "ev") => `(tactic| repeat (first | refine lc_stop ?_ | refine for_stop ?_ | refine ⟨_, rfl, ?_⟩ | refine ⟨_, _, rfl, ?_⟩ | refine ⟨rfl, ?_⟩ | refine And.intro (by assumption) ?_ | refine ⟨by decide, ?_⟩ | refine ⟨ltL rfl, ?_⟩ | refine ⟨_, at0, ?_⟩ | refine ⟨_, at1, ?_⟩ | refine ⟨_, at2, ?_⟩ | refine ifT ?_ | refine ifF ?_ | refine ⟨_, _, _, rfl, ?_⟩ | refine ⟨⟨_, rfl⟩, ?_⟩ | refine ⟨_, _, _, _, rfl, ?_⟩))

theorem co_take {xs : List Int} {s i : Nat} (h : i < s) : co (xs.take s) i = co xs i := by
  unfold co
  rw [List.getD_eq_getElem?_getD, List.getD_eq_getElem?_getD, List.getElem?_take, if_pos h]
end K04

set_option Elab.async false
set_option maxRecDepth 100000
set_option maxHeartbeats 4000000
set_option exponentiation.threshold 2000
/-! K03: rows told -/
namespace K03
open PySem PySem.Spec PyProof.Rows L2 L3 LD RS K04
open LN (Pt Pr pt sh_pt eqv_pt sh_ints eqv_ints tru)
open LM (ifTq ifFq lc_map0)
open LG (ifND ifNB)
local macro_rules | `(tactic| walk_at "ev") => `(tactic| repeat (first | refine lc_stop ?_ | refine for_stop ?_ | refine ⟨_, rfl, ?_⟩ | refine ⟨_, _, rfl, ?_⟩ | refine ⟨rfl, ?_⟩ | refine And.intro (by assumption) ?_ | refine ⟨by decide, ?_⟩ | refine ⟨ltL rfl, ?_⟩ | refine ⟨_, at0, ?_⟩ | refine ⟨_, at1, ?_⟩ | refine ⟨_, at2, ?_⟩ | refine ifT ?_ | refine ifF ?_ | refine ⟨_, _, _, rfl, ?_⟩ | refine ⟨⟨_, rfl⟩, ?_⟩ | refine ⟨_, _, _, _, rfl, ?_⟩))
@[irreducible] def tA5 (dw : Exc3 → Reg → Prop) : DSt :=
  (dSeq (dFor (dRng1 (dCons (dC (.int (6))) dNil)) (gNm 5) (dSeq (dSet 6 (dMeth "Row" sp_Row_shifted (dVar 2) (dCons (dVar 5) dNil)))
    (dIfS (dOr (dTest (dOp oNe (dProp "Row" sp_Row_entries (dVar 6)) (dIf (dTest (dOp oNe (dVar 1) (dTup dNil))) (dOp oAdd (dOp oMul (dTup (dCons (dC (.int (0))) dNil)) (dVar 5)) (dVar 1)) (dTup dNil)))) (dTest (dNeO "Row" sp_Row_eq (dMeth "Row" sp_Row_shifted (dVar 6) (dCons (dUn uNeg (dVar 5)) dNil)) (dVar 2)))) (dRet (dC (.bl false))) dNext)))
    (dRet (dC (.bl true))))
@[irreducible] def tA4 (dw : Exc3 → Reg → Prop) : DSt :=
  (dSeq (dFor (dRng1 (dCons (dC (.int (13))) dNil)) (gNm 4) (dIfS (dTest (dOp oNe (dProp "Row" sp_Row_entries (dMeth "Row" sp_Row_cut (dVar 2) (dCons (dVar 4) dNil))) (dCall sp__law_trim (fun x _ G => dw x G) (dCons (dSl oSl (dVar 1) dNoPart (dPart (dVar 4))) dNil)))) (dRet (dC (.bl false))) dNext))
    (tA5 dw))
@[irreducible] def tA3 (dw : Exc3 → Reg → Prop) : DSt :=
  (dSeq (dSet 3 (dOp oAdd (dCB bList (dPCons (dVar 1) dNil)) (dOp oMul (dLst (dCons (dC (.int (0))) dNil)) (dOp oSub (dC (.int (16))) (dCB bLen (dPCons (dVar 1) dNil))))))
    (dSeq (dIfS (dOr (dTest (dOp oNe (dLc (dRng1 (dCons (dC (.int (16))) dNil)) (gNm 7) dYes (dMeth "Row" sp_Row_entry (dVar 2) (dCons (dVar 7) dNil)) [7]) (dVar 3))) (dTest (dOp oNe (dMeth "Row" sp_Row_entry (dVar 2) (dCons (dOp oPow (dC (.int (10))) (dC (.int (50)))) dNil)) (dC (.int (0)))))) (dRet (dC (.bl false))) dNext)
    (tA4 dw)))
@[irreducible] def tA2 (dw : Exc3 → Reg → Prop) : DSt :=
  (dSeq (dIfS (dOr (dTest (dOp oNe (dStrO "Row" sp_Row_str (dPCons (dVar 2) dNil)) (dCall sp__law_row_text (fun x _ G => dw x G) (dCons (dVar 1) dNil)))) (dTest (dNeO "Row" sp_Row_eq (dCMeth "Row" sp_Row_read (fun x _ G => dw x G) (dC (.cls "Row")) (dCons (dVar 0) (dCons (dCall sp__law_row_text (fun x _ G => dw x G) (dCons (dVar 1) dNil)) dNil))) (dVar 2)))) (dRet (dC (.bl false))) dNext)
    (tA3 dw))
@[irreducible] def tA1 (dw : Exc3 → Reg → Prop) : DSt :=
  (dSeq (dIfS (dTest (dOp oNe (dLst (dCons (dProp "Row" sp_Row_prime (dVar 2)) (dCons (dProp "Row" sp_Row_entries (dVar 2)) (dCons (dProp "Row" sp_Row_degree (dVar 2)) (dCons (dProp "Row" sp_Row_order (dVar 2)) dNil))))) (dLst (dCons (dVar 0) (dCons (dVar 1) (dCons (dOp oSub (dCB bLen (dPCons (dVar 1) dNil)) (dC (.int (1)))) (dCons (dCall sp__law_order (fun x _ G => dw x G) (dCons (dVar 1) dNil)) dNil))))))) (dRet (dC (.bl false))) dNext)
    (tA2 dw))
theorem tA_eq (dw : Exc3 → Reg → Prop) : t__law_is_told dw =
  (dSeq (dSet 2 (dMake "Row" sp_Row_init (dCons (dVar 0) (dCons (dVar 1) dNil))))
    (tA1 dw)) := by
  unfold tA1 tA2 tA3 tA4 tA5; rfl
section
variable {dw : Exc3 → Reg → Prop} {Dn : Ends3} {G : Reg} {p : Int} {xs : List Int}
abbrev Rs (p : Int) (xs : List Int) : Prop := Pr p ∧ Rw p xs ∧ xs.length ≤ 12
theorem p_tA5 (hR : Rs p xs) {s3 s4 s5 s6 : Sl3} (h : Dn.rt (.val (.bl true)) G) : tA5 dw Dn [.val (.int p), .val (pt xs), .val (rwD p xs), s3, s4, s5, s6, .no] G := by
  unfold tA5
  obtain ⟨hp, hr, hl⟩ := hR
  have hS := sizeLine_eq
  walk_at "ev"
  refine .go ?_
  refine for_ind (fun ds E G2 => G2 = G ∧ (∀ d ∈ ds, ∃ k : Nat, d = .int (k : Int) ∧ k < 6) ∧ ∃ s3 s4 s5 s6, E = [.val (.int p), .val (pt xs), .val (rwD p xs), s3, s4, s5, s6, .no]) (fun E G2 hI => ?_) (fun d ds E G2 nx hI hn => ?_) _ _ _ ⟨rfl, fun d hd => ?_, _, _, _, _, rfl⟩
  · obtain ⟨rfl, _, s3, s4, s5, s6, rfl⟩ := hI
    walk_at "ev"
    exact h
  · obtain ⟨rfl, hd, s3, s4, s5, s6, rfl⟩ := hI
    obtain ⟨k, rfl, hk⟩ := hd d List.mem_cons_self
    have hn2 : ∀ s5 s6, nx [.val (.int p), .val (pt xs), .val (rwD p xs), s3, s4, s5, s6, .no] G2 := fun s5 s6 => hn _ _ ⟨rfl, fun z hz => hd z (List.mem_cons_of_mem _ hz), _, _, _, _, rfl⟩
    clear h hn hd
    walk_at "ev"
    refine ⟨p, xs, k, hp, hr, by omega, by omega, .inl ⟨rfl, ?_⟩⟩
    walk_at "ev"
    refine ⟨sh_pt _, sh_pt [], ?_⟩
    refine ⟨_, rfl, ?_⟩
    have hul : (up k xs).length ≤ 18 := by
      unfold up
      split
      · decide
      · rw [List.length_append, List.length_replicate]; omega
    have fin : ∀ (K : Bool → Env3 → Reg → Prop), K false [.val (.int p), .val (pt xs), .val (rwD p xs), s3, s4, .val (.int (k : Int)), .val (rwD p (up k xs)), .no] G2 → (dTest (dNeO "Row" sp_Row_eq (dMeth "Row" sp_Row_shifted (dVar 6) (dCons (dUn uNeg (dVar 5)) dNil)) (dVar 2))) [.val (.int p), .val (pt xs), .val (rwD p xs), s3, s4, .val (.int (k : Int)), .val (rwD p (up k xs)), .no] G2 K := by
      intro K hK
      walk_at "ev"
      refine ⟨p, xs, k, hp, hr, by omega, by omega, ?_⟩
      by_cases k0 : k = 0
      · subst k0
        have e0 : up 0 xs = xs := by unfold up; split <;> simp_all
        refine .inl ⟨by rw [e0]; rfl, ?_⟩
        walk_at "ev"
        refine ⟨p, up 0 xs, .inl ⟨p, xs, rfl, ?_⟩⟩
        rw [decide_eq_true (show p = p ∧ up 0 xs = xs from ⟨rfl, e0⟩)]
        walk_at "ev"
        exact hK
      · refine .inr ⟨by omega, rfl, ?_⟩
        walk_at "ev"
        refine ⟨p, xs, .inl ⟨p, xs, rfl, ?_⟩⟩
        rw [decide_eq_true (show p = p ∧ xs = xs from ⟨rfl, rfl⟩)]
        walk_at "ev"
        exact hK
    refine ifNQ (eqv_pt xs []) (fun z => ?_) (fun z => ?_)
    · have eu : up k xs = List.replicate k 0 ++ xs := if_neg z
      walk_at "ev"
      refine ⟨by omega, by omega, by decide, ?_⟩
      rw [show ((k : Int)).toNat = k by omega, LC.rep1]
      walk_at "ev"
      refine ⟨by rw [List.length_map, List.length_map, List.length_replicate]; omega, ?_⟩
      rw [← List.map_append, ← eu]
      walk_at "ev"
      refine ⟨sh_pt _, sh_pt _, ?_⟩
      refine ⟨_, rfl, ?_⟩
      refine ifFq (by show (!D.eqv (pt (up k xs)) (pt (up k xs))) = false; rw [eqv_pt, decide_eq_true rfl]; rfl) ?_
      refine fin _ ?_
      walk_at "ev"
      exact hn2 _ _
    · have eu : up k xs = [] := if_pos z
      walk_at "ev"
      refine ⟨sh_pt _, sh_pt [], ?_⟩
      refine ⟨_, rfl, ?_⟩
      refine ifFq (by show (!D.eqv (pt (up k xs)) (pt [])) = false; rw [eqv_pt, decide_eq_true eu]; rfl) ?_
      refine fin _ ?_
      walk_at "ev"
      exact hn2 _ _
  · unfold rangeD at hd
    obtain ⟨k, hk, e⟩ := List.mem_map.mp hd
    exact ⟨k, by rw [← e, Int.zero_add], by have := List.mem_range.mp hk; omega⟩
theorem p_tA4 (hR : Rs p xs) {s3 s4 s5 s6 : Sl3} (h : Dn.rt (.val (.bl true)) G) : tA4 dw Dn [.val (.int p), .val (pt xs), .val (rwD p xs), s3, s4, s5, s6, .no] G := by
  unfold tA4
  have hR2 := hR
  obtain ⟨hp, hr, hl⟩ := hR
  have hS := sizeLine_eq
  walk_at "ev"
  refine .go ?_
  refine for_ind (fun ds E G2 => G2 = G ∧ (∀ d ∈ ds, ∃ k : Nat, d = .int (k : Int) ∧ k < 13) ∧ ∃ s3 s4 s5 s6, E = [.val (.int p), .val (pt xs), .val (rwD p xs), s3, s4, s5, s6, .no]) (fun E G2 hI => ?_) (fun d ds E G2 nx hI hn => ?_) _ _ _ ⟨rfl, fun d hd => ?_, _, _, _, _, rfl⟩
  · obtain ⟨rfl, _, s3, s4, s5, s6, rfl⟩ := hI
    exact p_tA5 hR2 h
  · obtain ⟨rfl, hd, s3, s4, s5, s6, rfl⟩ := hI
    obtain ⟨k, rfl, hk⟩ := hd d List.mem_cons_self
    have hn2 : ∀ s4, nx [.val (.int p), .val (pt xs), .val (rwD p xs), s3, s4, s5, s6, .no] G2 := fun s4 => hn _ _ ⟨rfl, fun z hz => hd z (List.mem_cons_of_mem _ hz), _, _, _, _, rfl⟩
    clear h hn hd
    walk_at "ev"
    refine ⟨⟨hp, hr, hr, by omega, by omega⟩, by omega, ?_⟩
    walk_at "ev"
    rw [cut_to, ← List.map_take]
    refine ⟨pt (xs.take k), xs.take k, rfl, .inr rfl, by rw [List.length_take]; omega, ?_⟩
    have en : nrm p k (co xs) = trimL (xs.take k) := trim_ext fun i => by
      rw [co_mk]
      by_cases z : i < k
      · rw [if_pos z, co_take z]
        by_cases y : i < xs.length
        · rw [co_in y]
          exact Int.emod_eq_of_lt (hr.res _ (List.getElem_mem y)).1 (hr.res _ (List.getElem_mem y)).2
        · rw [co_out (by omega)]; rfl
      · rw [if_neg z, co_out (by rw [List.length_take]; omega)]
    rw [en]
    walk_at "ev"
    refine ⟨sh_pt _, sh_pt _, ?_⟩
    refine ⟨_, rfl, ?_⟩
    refine ifFq (by show (!D.eqv (pt (trimL (xs.take k))) (pt (trimL (xs.take k)))) = false; rw [eqv_pt, decide_eq_true rfl]; rfl) ?_
    walk_at "ev"
    exact hn2 _
  · unfold rangeD at hd
    obtain ⟨k, hk, e⟩ := List.mem_map.mp hd
    exact ⟨k, by rw [← e, Int.zero_add], by have := List.mem_range.mp hk; omega⟩
theorem p_tA3 (hR : Rs p xs) {s3 s4 s5 s6 : Sl3} (h : Dn.rt (.val (.bl true)) G) : tA3 dw Dn [.val (.int p), .val (pt xs), .val (rwD p xs), s3, s4, s5, s6, .no] G := by
  unfold tA3
  have hR2 := hR
  obtain ⟨hp, hr, hl⟩ := hR
  have hS := sizeLine_eq
  walk_at "ev"
  rw [List.length_map]
  have et : ((16 : Int) - (xs.length : Int)).toNat = 16 - xs.length := by omega
  refine ⟨by omega, by omega, by rw [et, List.length_singleton]; omega, ?_⟩
  rw [et, LC.rep1]
  walk_at "ev"
  refine ⟨by rw [List.length_map, List.length_map, List.length_replicate]; omega, ?_⟩
  rw [← List.map_append]
  walk_at "ev"
  refine .go ?_
  rw [rangeD_map]
  refine lc_map0 (fun k : Nat => D.int (k : Int)) (fun k => D.int (if (k : Int) < (xs.length : Int) then xs.getD k 0 else 0)) (fun k => k < 16) (fun k k1 k2 hk e2 => ?_) (fun k hk => ?_) ?_
  · clear h
    walk_at "ev"
    refine ⟨by omega, by unfold LN.Lim; omega, ?_⟩
    walk_at "ev"
    exact e2 _ rfl
  · exact List.mem_range.mp hk
  · have el : ((List.range (Int.toNat 16)).map fun (k : Nat) => D.int (if (k : Int) < (xs.length : Int) then xs.getD k 0 else 0)) = (xs ++ List.replicate (16 - xs.length) 0).map D.int := by
      refine List.ext_getElem (by simp; omega) fun i h1 h2 => ?_
      rw [List.getElem_map, List.getElem_map, List.getElem_range]
      by_cases y : i < xs.length
      · rw [if_pos (by omega), List.getElem_append_left y, List.getD_eq_getElem?_getD, List.getElem?_eq_getElem y]; rfl
      · rw [if_neg (by omega), List.getElem_append_right (by omega), List.getElem_replicate]
    rw [el]
    walk_at "ev"
    refine ⟨sh_ints _, sh_ints _, ?_⟩
    refine ⟨_, rfl, ?_⟩
    refine ifFq (by rw [eqv_ints, decide_eq_true rfl]; rfl) ?_
    walk_at "ev"
    rw [oPow_ii]
    refine ⟨cpow 50 (by decide) (by decide), ?_⟩
    have big : (12 : Int) < 10 ^ (50 : Int).toNat := by decide +kernel
    have big2 : (10 : Int) ^ (50 : Int).toNat < 10 ^ 60 := by decide +kernel
    generalize (10 : Int) ^ (50 : Int).toNat = z at big big2
    walk_at "ev"
    refine ⟨by omega, ⟨by omega, big2⟩, ?_⟩
    rw [if_neg (by omega)]
    walk_at "ev"
    exact p_tA4 hR2 h
theorem p_tA2 (hR : Rs p xs) {s3 s4 s5 s6 : Sl3} (h : Dn.rt (.val (.bl true)) G) : tA2 dw Dn [.val (.int p), .val (pt xs), .val (rwD p xs), s3, s4, s5, s6, .no] G := by
  unfold tA2
  have hR2 := hR
  obtain ⟨hp, hr, hl⟩ := hR
  have hS := sizeLine_eq
  walk_at "ev"
  have hrl := rtx_short (LN.Pr.le hp).2 hr.res (by omega)
  refine ⟨by omega, ?_⟩
  walk_at "ev"
  refine ⟨p, xs, rfl, hp, hr.res, by omega, ?_⟩
  walk_at "ev"
  refine ⟨strsh (rtx_ok xs), strsh (rtx_ok xs), ?_⟩
  refine ⟨_, rfl, ?_⟩
  refine ifFq (by show (!D.eqv (.str (rtx xs)) (.str (rtx xs))) = false; rw [eqvS, decide_eq_true rfl]; rfl) ?_
  walk_at "ev"
  refine ⟨p, xs, rfl, hp, hr.res, by omega, ?_⟩
  walk_at "ev"
  refine ⟨by omega, ?_⟩
  walk_at "ev"
  refine ⟨p, xs, .inl ⟨p, xs, rfl, ?_⟩⟩
  rw [decide_eq_true (show p = p ∧ xs = xs from ⟨rfl, rfl⟩)]
  walk_at "ev"
  exact p_tA3 hR2 h
theorem p_tA1 (hR : Rs p xs) {s3 s4 s5 s6 : Sl3} (h : Dn.rt (.val (.bl true)) G) : tA1 dw Dn [.val (.int p), .val (pt xs), .val (rwD p xs), s3, s4, s5, s6, .no] G := by
  unfold tA1
  have hR2 := hR
  obtain ⟨hp, hr, hl⟩ := hR
  have hS := sizeLine_eq
  walk_at "ev"
  refine ⟨by omega, ?_⟩
  walk_at "ev"
  rw [List.length_map]
  have ho : ordD xs = .non ∨ ∃ i, ordD xs = .int i := by
    unfold ordD
    split
    · exact .inl rfl
    · exact .inr ⟨_, rfl⟩
  have hsh : (D.lst [D.int p, pt xs, D.int ((xs.length : Int) - 1), ordD xs]).sh = true := by
    rw [sh_lst, List.all_cons, List.all_cons, List.all_cons, List.all_cons, LN.shl_pt (fun _ => rfl)]
    rcases ho with e | ⟨i, e⟩
    · rw [e]; rfl
    · rw [e]; rfl
  have e4 : D.eqv (ordD xs) (ordD xs) = true := by
    rcases ho with e | ⟨i, e⟩
    · rw [e]; rfl
    · rw [e, eqv_int]; simp
  have heq : D.eqv (.lst [D.int p, pt xs, D.int ((xs.length : Int) - 1), ordD xs]) (.lst [D.int p, pt xs, D.int ((xs.length : Int) - 1), ordD xs]) = true := by
    rw [eqv_lst, eqvL_cons, eqvL_cons, eqvL_cons, eqvL_cons, eqv_pt, e4, eqv_int, eqv_int, decide_eq_true rfl, decide_eq_true rfl, decide_eq_true rfl]; rfl
  refine ⟨hsh, hsh, ?_⟩
  rw [heq]
  walk_at "ev"
  exact p_tA2 hR2 h
end
theorem p__law_is_told : ∀ ds G q dw, sp__law_is_told ds G q dw → t__law_is_told dw { nx := fun _ G' => q (.val .non) G', rt := q } (start3 ["_law_prime", "_law_entries", "_law_row", "_law_due", "_law_size", "_law_many", "_law_later", "_law_power"] ds) G := by
  intro ds G q dw h
  rw [tA_eq]
  obtain ⟨p, xs, rfl, hp, hr, hl, h⟩ := h
  walk_at "ev"
  refine ⟨p, pt xs, xs, rfl, hp, hr, .inr ⟨rfl, by omega⟩, ?_⟩
  walk_at "ev"
  exact p_tA1 ⟨hp, hr, hl⟩ h
end K03

set_option Elab.async false
set_option maxRecDepth 100000
set_option maxHeartbeats 4000000
set_option exponentiation.threshold 2000
/-! K03: the law -/
namespace K03
open PySem PySem.Spec PyProof.Rows L2 L3 LD RS K04
open LN (Pt Pr pt sh_pt eqv_pt sh_ints eqv_ints tru)
open LM (ifTq ifFq lc_map0)
open LG (ifND ifNB)
local macro_rules | `(tactic| walk_at "ev") => `(tactic| repeat (first | refine lc_stop ?_ | refine for_stop ?_ | refine ⟨_, rfl, ?_⟩ | refine ⟨_, _, rfl, ?_⟩ | refine ⟨rfl, ?_⟩ | refine And.intro (by assumption) ?_ | refine ⟨by decide, ?_⟩ | refine ⟨ltL rfl, ?_⟩ | refine ⟨_, at0, ?_⟩ | refine ⟨_, at1, ?_⟩ | refine ⟨_, at2, ?_⟩ | refine ifT ?_ | refine ifF ?_ | refine ⟨_, _, _, rfl, ?_⟩ | refine ⟨⟨_, rfl⟩, ?_⟩ | refine ⟨_, _, _, _, rfl, ?_⟩))
@[irreducible] def tB3 (dw : Exc3 → Reg → Prop) : DSt :=
  (dRet (dNotV (dOrV (dEqOA "Row" sp_Row_eq (dVar 4) (dVar 2)) (dOrV (dEqOA "Row" sp_Row_eq (dVar 4) (dStrO "Row" sp_Row_str (dPCons (dVar 4) dNil))) (dOrV (dEqOA "Row" sp_Row_eq (dVar 4) (dLst dNil)) (dEqO "Row" sp_Row_eq (dVar 4) (dMake "Row" sp_Row_init (dCons (dIf (dTest (dOp oNe (dVar 1) (dC (.int (3))))) (dC (.int (3))) (dC (.int (5)))) (dCons (dTup (dCons (dC (.int (1))) (dCons (dC (.int (1))) (dCons (dC (.int (2))) dNil)))) dNil)))))))))
@[irreducible] def tB2 (dw : Exc3 → Reg → Prop) : DSt :=
  (dSeq (dPar 4 5 (dMake "Row" sp_Row_init (dCons (dVar 1) (dCons (dVar 2) dNil))) (dMake "Row" sp_Row_init (dCons (dVar 1) (dCons (dVar 3) dNil))))
    (dSeq (dIfS (dOr (dTest (dOp oNe (dEqO "Row" sp_Row_eq (dVar 4) (dVar 5)) (dOp oEq (dVar 2) (dVar 3)))) (dTest (dOp oNe (dOp oEq (dStrO "Row" sp_Row_str (dPCons (dVar 4) dNil)) (dStrO "Row" sp_Row_str (dPCons (dVar 5) dNil))) (dOp oEq (dVar 2) (dVar 3))))) (dRet (dC (.bl false))) dNext)
    (tB3 dw)))
@[irreducible] def tB1 (dw : Exc3 → Reg → Prop) : DSt :=
  (dSeq (dIfS (dOr (dNot (dTest (dCall sp__law_is_told (fun x _ G => dw x G) (dCons (dVar 1) (dCons (dVar 2) dNil))))) (dNot (dTest (dCall sp__law_is_told (fun x _ G => dw x G) (dCons (dVar 1) (dCons (dVar 3) dNil)))))) (dRet (dC (.bl false))) dNext)
    (tB2 dw))
theorem tB_eq (dw : Exc3 → Reg → Prop) : t__law_right dw =
  (dSeq (dSet 1 (dCall sp__law_pick (fun x _ G => dw x G) (dCons (dVar 0) (dCons (dLst (dCons (dC (.int (2))) (dCons (dC (.int (2))) (dCons (dC (.int (3))) (dCons (dC (.int (5))) (dCons (dC (.int (7))) (dCons (dC (.int (11))) (dCons (dC (.int (31))) dNil)))))))) dNil))))
    (dSeq (dPar 2 3 (dCall sp__law_any_row (fun x _ G => dw x G) (dCons (dVar 0) (dCons (dVar 1) dNil))) (dCall sp__law_any_row (fun x _ G => dw x G) (dCons (dVar 0) (dCons (dVar 1) dNil))))
    (tB1 dw))) := by
  unfold tB1 tB2 tB3; rfl
@[irreducible] def tC1 (dw : Exc3 → Reg → Prop) : DSt :=
  (dSeq (dSet 3 (dCMeth "Row" sp_Row_read (fun x _ G => dw x G) (dC (.cls "Row")) (dCons (dC (.int (3))) (dCons (dC (.str "t+2t^2")) dNil))))
    (dSeq (dSet 4 (dLst (dCons (dProp "Row" sp_Row_entries (dVar 3)) (dCons (dProp "Row" sp_Row_order (dVar 3)) (dCons (dProp "Row" sp_Row_degree (dVar 3)) (dCons (dProp "Row" sp_Row_order (dMake "Row" sp_Row_init (dCons (dC (.int (3))) (dCons (dTup dNil) dNil)))) (dCons (dStrO "Row" sp_Row_str (dPCons (dMake "Row" sp_Row_init (dCons (dC (.int (3))) (dCons (dTup (dCons (dC (.int (1))) (dCons (dC (.int (2))) (dCons (dC (.int (0))) (dCons (dC (.int (1))) dNil))))) dNil))) dNil)) (dCons (dStrO "Row" sp_Row_str (dPCons (dMake "Row" sp_Row_init (dCons (dC (.int (3))) (dCons (dTup dNil) dNil))) dNil)) dNil))))))))
    (dRet (dOp oEq (dVar 4) (dLst (dCons (dTup (dCons (dC (.int (0))) (dCons (dC (.int (1))) (dCons (dC (.int (2))) dNil)))) (dCons (dC (.int (1))) (dCons (dC (.int (2))) (dCons (dC .non) (dCons (dC (.str "1+2t+t^3")) (dCons (dC (.str "0")) dNil)))))))))))
theorem tC_eq (dw : Exc3 → Reg → Prop) : t_law dw =
  (dSeq (dFor (dRng1 (dCons (dCB bMax (dPCons (dC (.int (1))) (dPCons (dCB bMin (dPCons (dC (.int (3))) (dPCons (dCB bLen (dPCons (dVar 0) dNil)) dNil))) dNil))) dNil)) (gNm 1) (dSeq (dSetReg 2 (dCall sp__law_dice (fun x _ G => dw x G) (dCons (dVar 0) (dCons (dVar 1) dNil))))
    (dIfS (dOr (dNot (dTest (dCall sp__law_right (fun x _ G => dw x G) (dCons (dVar 2) dNil)))) (dNot (dTest (dCall sp__law_right (fun x _ G => dw x G) (dCons (dVar 2) dNil))))) (dRet (dC (.bl false))) dNext)))
    (tC1 dw)) := by
  unfold tC1; rfl
/-- a term read -/
def dec (s : Str) : Option Int × Option Int :=
  ((if (Txt.partition s ("t" : Str)).1 = ("" : Str) then some 1 else PySem.intText? (Txt.partition s ("t" : Str)).1),
    (if (Txt.partition s ("t" : Str)).2.1 = ("" : Str) then some 0 else if (Txt.partition s ("t" : Str)).2.2 = ("" : Str) then some 1 else PySem.intText? (cutS (Txt.partition s ("t" : Str)).2.2 (some 1) none)))
theorem dec_tm {e i : Nat} (he : e < 40) (hi : i < 40) : dec (tmS (e : Int) i) = (some (e : Int), some (i : Int)) := by
  unfold dec
  by_cases h0 : i = 0
  · subst h0
    rw [par_zero he]
    show ((if sI (e : Int) = ("" : Str) then some 1 else PySem.intText? (sI (e : Int))), (if Str.empty = ("" : Str) then some (0 : Int) else _)) = _
    rw [if_neg (num_ne e he), (num_ok e he).1, if_pos (by decide)]; rfl
  · rw [par_pos he h0]
    show ((if hdS e i = ("" : Str) then some 1 else PySem.intText? (hdS e i)), (if ("t" : Str) = ("" : Str) then some (0 : Int) else if tlS i = ("" : Str) then some 1 else PySem.intText? (cutS (tlS i) (some 1) none))) = _
    rw [if_neg (show ¬ ("t" : Str) = ("" : Str) by decide)]
    have e1 : (if hdS e i = ("" : Str) then some (1 : Int) else PySem.intText? (hdS e i)) = some (e : Int) := by
      by_cases y : e = 1
      · subst y
        rw [if_pos (show hdS 1 i = ("" : Str) from if_pos ⟨rfl, h0⟩)]; rfl
      · have z : hdS e i = sI (e : Int) := if_neg fun q => y q.1
        rw [z, if_neg (num_ne e he), (num_ok e he).1]
    have e2 : (if tlS i = ("" : Str) then some (1 : Int) else PySem.intText? (cutS (tlS i) (some 1) none)) = some (i : Int) := by
      by_cases y : i = 1
      · subst y
        rw [if_pos (show tlS 1 = ("" : Str) from rfl)]; rfl
      · have z : tlS i = ("^" : Str) ++ sI (i : Int) := if_neg y
        rw [if_neg (tl_ne y), z, cut_tl i hi, (num_ok i hi).1]
    rw [e1, e2]
theorem tm_inj {t u : Nat × Nat} (h1 : t.1 < 40) (h2 : t.2 < 40) (h3 : u.1 < 40) (h4 : u.2 < 40) (h : tmS (t.1 : Int) t.2 = tmS (u.1 : Int) u.2) : t = u := by
  have := congrArg dec h
  rw [dec_tm h1 h2, dec_tm h3 h4] at this
  injection this with a b
  injection a with a
  injection b with b
  exact Prod.ext (by omega) (by omega)
theorem tms_inj : ∀ {ts us : List (Nat × Nat)}, (∀ t ∈ ts, t.1 < 40 ∧ t.2 < 40) → (∀ t ∈ us, t.1 < 40 ∧ t.2 < 40) → ts.map (fun t => tmS (t.1 : Int) t.2) = us.map (fun t => tmS (t.1 : Int) t.2) → ts = us
  | [], [], _, _, _ => rfl
  | [], u :: us, _, _, h => by cases h
  | t :: ts, [], _, _, h => by cases h
  | t :: ts, u :: us, h1, h2, h => by
    rw [List.map_cons, List.map_cons] at h
    obtain ⟨a, b⟩ := List.cons.inj h
    have q1 := h1 t List.mem_cons_self
    have q2 := h2 u List.mem_cons_self
    rw [tm_inj q1.1 q1.2 q2.1 q2.2 a, tms_inj (fun x hx => h1 x (List.mem_cons_of_mem _ hx)) (fun x hx => h2 x (List.mem_cons_of_mem _ hx)) b]
theorem rtx_inj {p : Int} {xs ys : List Int} (hp : p ≤ 31) (hx : Rw p xs) (hy : Rw p ys) (lx : xs.length ≤ 20) (ly : ys.length ≤ 20) (h : rtx xs = rtx ys) : xs = ys := by
  obtain ⟨ts, _, s1, b1, _, m, ⟨t, ht, et⟩, m1, x1⟩ := core_of hp hx lx
  obtain ⟨us, _, s2, b2, _, n, ⟨u, hu, eu⟩, n1, y1⟩ := core_of hp hy ly
  have e : ts = us := tms_inj (fun t ht => by have := b1 t ht; omega) (fun t ht => by have := b2 t ht; omega) (by rw [← s1, ← s2, h])
  subst e
  have := m1 u hu
  have := n1 t ht
  have e : m = n := by omega
  subst e
  rw [← x1, ← y1]
section
variable {dw : Exc3 → Reg → Prop} {Dn : Ends3} {G : Reg} {p : Int} {xs ys : List Int} {s : Sl3}
theorem rtx_ne {x : List Int} : (D.str (rtx x)).sh = true := strsh (rtx_ok x)
theorem p_tB3 (hx : Rs p xs) (hy : Rs p ys) (h : Dn.rt (.val (.bl true)) G) : tB3 dw Dn [s, .val (.int p), .val (pt xs), .val (pt ys), .val (rwD p xs), .val (rwD p ys)] G := by
  unfold tB3
  have hS := sizeLine_eq
  have hrl := rtx_short (LN.Pr.le hx.1).2 hx.2.1.res (by have := hx.2.2; omega)
  walk_at "ev"
  refine ⟨p, xs, .inr ⟨_, rfl, ⟨_, rfl⟩, ?_⟩⟩
  walk_at "ev"
  refine ⟨by omega, ?_⟩
  walk_at "ev"
  refine ⟨p, xs, .inr ⟨_, rfl, ⟨_, rfl⟩, ?_⟩⟩
  walk_at "ev"
  refine ⟨p, xs, .inr ⟨_, rfl, ⟨_, rfl⟩, ?_⟩⟩
  walk_at "ev"
  have r3 : ∀ c, 3 ≤ c → Rw c [1, 1, 2] := fun c hc => ⟨fun x hx => by
    simp only [List.mem_cons, List.not_mem_nil, or_false] at hx
    omega, by decide⟩
  refine ifNE (fun z => ?_) (fun z => ?_)
  · walk_at "ev"
    refine ⟨3, pt [1, 1, 2], [1, 1, 2], rfl, (show (3 : Int) ∈ LN.primes by decide), r3 3 (by decide), .inr ⟨rfl, by decide⟩, ?_⟩
    walk_at "ev"
    refine ⟨p, xs, .inl ⟨3, [1, 1, 2], rfl, ?_⟩⟩
    rw [decide_eq_false (fun q => z q.1)]
    walk_at "ev"
    exact h
  · walk_at "ev"
    refine ⟨5, pt [1, 1, 2], [1, 1, 2], rfl, (show (5 : Int) ∈ LN.primes by decide), r3 5 (by decide), .inr ⟨rfl, by decide⟩, ?_⟩
    walk_at "ev"
    refine ⟨p, xs, .inl ⟨5, [1, 1, 2], rfl, ?_⟩⟩
    rw [decide_eq_false (fun q => by have := q.1; omega)]
    walk_at "ev"
    exact h
theorem p_tB2 (hx : Rs p xs) (hy : Rs p ys) {s4 s5 : Sl3} (h : Dn.rt (.val (.bl true)) G) : tB2 dw Dn [s, .val (.int p), .val (pt xs), .val (pt ys), s4, s5] G := by
  unfold tB2
  have hS := sizeLine_eq
  have hrl := rtx_short (LN.Pr.le hx.1).2 hx.2.1.res (by have := hx.2.2; omega)
  have hrl2 := rtx_short (LN.Pr.le hx.1).2 hy.2.1.res (by have := hy.2.2; omega)
  walk_at "ev"
  refine ⟨p, pt xs, xs, rfl, hx.1, hx.2.1, .inr ⟨rfl, by have := hx.2.2; omega⟩, ?_⟩
  walk_at "ev"
  refine ⟨p, pt ys, ys, rfl, hx.1, hy.2.1, .inr ⟨rfl, by have := hy.2.2; omega⟩, ?_⟩
  walk_at "ev"
  refine ⟨p, xs, .inl ⟨p, ys, rfl, ?_⟩⟩
  walk_at "ev"
  refine ⟨sh_pt _, sh_pt _, ?_⟩
  rw [eqv_pt, show decide (p = p ∧ xs = ys) = decide (xs = ys) by by_cases z : xs = ys <;> simp [z]]
  walk_at "ev"
  refine ifNBq rfl ?_
  walk_at "ev"
  refine ⟨by omega, ?_⟩
  walk_at "ev"
  refine ⟨by omega, ?_⟩
  walk_at "ev"
  refine ⟨rtx_ne, rtx_ne, ?_⟩
  rw [eqvS]
  walk_at "ev"
  refine ⟨sh_pt _, sh_pt _, ?_⟩
  rw [eqv_pt]
  walk_at "ev"
  refine ifNBq ?_ ?_
  · by_cases z : xs = ys
    · rw [decide_eq_true z, decide_eq_true (by rw [z])]
    · rw [decide_eq_false z, decide_eq_false (fun q => z (rtx_inj (LN.Pr.le hx.1).2 hx.2.1 hy.2.1 (by have := hx.2.2; omega) (by have := hy.2.2; omega) q))]
  walk_at "ev"
  exact p_tB3 hx hy h
theorem p_tB1 (hx : Rs p xs) (hy : Rs p ys) {s4 s5 : Sl3} (h : Dn.rt (.val (.bl true)) G) : tB1 dw Dn [s, .val (.int p), .val (pt xs), .val (pt ys), s4, s5] G := by
  unfold tB1
  walk_at "ev"
  refine ⟨hx.1, hx.2.1, hx.2.2, ?_⟩
  walk_at "ev"
  refine ⟨hx.1, hy.2.1, hy.2.2, ?_⟩
  walk_at "ev"
  exact p_tB2 hx hy h
end
theorem p__law_right : ∀ ds G q dw, sp__law_right ds G q dw → t__law_right dw { nx := fun _ G' => q (.val .non) G', rt := q } (start3 ["_law_dice_here", "_law_prime", "_law_one", "_law_other", "_law_first", "_law_second"] ds) G := by
  intro ds G q dw h
  rw [tB_eq]
  obtain ⟨a, R, rfl, d, h⟩ := h
  walk_at "ev"
  refine ⟨a, R, _, rfl, d, by simp, by simp, fun e G3 he d3 => ?_⟩
  have he : ∃ p : Int, e = .int p ∧ Pr p := by
    simp only [List.mem_cons, List.not_mem_nil, or_false] at he
    rcases he with rfl | rfl | rfl | rfl | rfl | rfl | rfl
    all_goals exact ⟨_, rfl, by unfold LN.Pr; decide⟩
  obtain ⟨p, rfl, hp⟩ := he
  walk_at "ev"
  refine ⟨a, R, p, rfl, d3, hp, fun x G4 rx lx d4 => ?_⟩
  walk_at "ev"
  refine ⟨a, R, p, rfl, d4, hp, fun y G5 ry ly d5 => ?_⟩
  walk_at "ev"
  exact p_tB1 ⟨hp, rx, by omega⟩ ⟨hp, ry, by omega⟩ (h _ d5)
theorem law_end {dw : Exc3 → Reg → Prop} {Dn : Ends3} {G : Reg} {ns : List Int} {s1 s2 : Sl3} (h : Dn.rt (.val (.bl true)) G) : tC1 dw Dn [.val (.scr ns), s1, s2, .no, .no] G := by
  unfold tC1
  have q3 : Pr 3 := (show (3 : Int) ∈ LN.primes by decide)
  have r1 : Rw 3 [0, 1, 2] := ⟨by unfold Rsd; decide, by decide⟩
  have r2 : Rw 3 [] := ⟨by unfold Rsd; decide, by decide⟩
  have r3 : Rw 3 [1, 2, 0, 1] := ⟨by unfold Rsd; decide, by decide⟩
  have text1 : rtx [0, 1, 2] = ("t+2t^2" : Str) := by rfl
  have text2 : rtx [1, 2, 0, 1] = ("1+2t+t^3" : Str) := by rfl
  have text3 : rtx [] = ("0" : Str) := by rfl
  walk_at "ev"
  refine ⟨3, [0, 1, 2], by rw [text1], q3, r1, by decide, ?_⟩
  walk_at "ev"
  refine ⟨3, pt [], [], rfl, q3, r2, .inr ⟨rfl, by decide⟩, ?_⟩
  walk_at "ev"
  refine ⟨3, pt [1, 2, 0, 1], [1, 2, 0, 1], rfl, q3, r3, .inr ⟨rfl, by decide⟩, ?_⟩
  walk_at "ev"
  refine ⟨3, pt [], [], rfl, q3, r2, .inr ⟨rfl, by decide⟩, ?_⟩
  walk_at "ev"
  rw [text2, text3]
  have e1 : ordD [0, 1, 2] = .int 1 := rfl
  have e2 : ordD [] = .non := rfl
  rw [e1, e2]
  refine ⟨shC_of (by decide +kernel), shC_of (by decide +kernel), ?_⟩
  rw [show D.eqv (.lst [pt [0, 1, 2], .int 1, .int ((([0, 1, 2] : List Int).length : Int) - 1), .non, .str ("1+2t+t^3" : Str), .str ("0" : Str)]) (.lst [.tup [.int 0, .int 1, .int 2], .int 1, .int 2, .non, .str ("1+2t+t^3" : Str), .str ("0" : Str)]) = true by decide +kernel]
  walk_at "ev"
  exact h
theorem p_law : ∀ ds G q dw, sp_law ds G q dw → t_law dw { nx := fun _ G' => q (.val .non) G', rt := q } (start3 ["_law_script", "_law_spot", "_law_dice_here", "_law_row", "_law_told"] ds) G := by
  intro ds G q dw h
  rw [tC_eq]
  obtain ⟨ns, rfl, hl, h⟩ := h
  walk_at "ev"
  have hM := spots_le (m := 3) (n := (ns.length : Int)) (by decide) (by decide)
  refine ⟨Int.le_trans (by decide) hM.1, Int.lt_of_le_of_lt hM.2 (by decide), ?_⟩
  refine for_stop (.go ?_)
  refine for_ind (fun ds E G => (∀ d ∈ ds, ∃ k : Nat, d = .int (k : Int)) ∧ ∃ s1 s2, E = [.val (.scr ns), s1, s2, .no, .no]) (fun E G hI => ?_) (fun d ds E G nx hI hn => ?_) _ _ _ ⟨fun d hd => ?_, _, _, rfl⟩
  · obtain ⟨_, s1, s2, rfl⟩ := hI
    exact law_end (h _)
  · obtain ⟨hd, s1, s2, rfl⟩ := hI
    obtain ⟨k, rfl⟩ := hd d List.mem_cons_self
    walk_at "ev"
    intro l m c
    walk_at "ev"
    intro a
    walk_at "ev"
    refine ⟨a, G, rfl, ⟨l, m, c, rfl⟩, fun G3 d3 => ?_⟩
    walk_at "ev"
    refine ⟨a, G, rfl, d3, fun G4 d4 => ?_⟩
    walk_at "ev"
    exact hn _ _ ⟨fun z hz => hd z (List.mem_cons_of_mem _ hz), _, _, rfl⟩
  · unfold rangeD at hd
    obtain ⟨k, _, e⟩ := List.mem_map.mp hd
    exact ⟨k, by rw [← e, Int.zero_add]⟩
end K03

set_option Elab.async false
set_option maxRecDepth 100000
set_option maxHeartbeats 4000000
/-! K03: the derivations (printed by gen5.py) -/
namespace K03
open PySem PySem.Spec PyProof.Rows L2 L3 LamX LD LN K04
def topS (i : Nat) : Stmt := PySem.Challenge.pw_touchtowers_k03_rows_told.main.body.getD i (.Pass ⟨0, 0, 0, 0⟩)
structure Txt (P : Program) (K : PySem.W.Frag) (mg : Str → Option Value) : Prop where
  no_ : True
  n_abs : mg "abs" = none
  n_all : mg "all" = none
  n_bool : mg "bool" = none
  n_enumerate : mg "enumerate" = none
  n_int : mg "int" = none
  n_isinstance : mg "isinstance" = none
  n_len : mg "len" = none
  n_list : mg "list" = none
  n_max : mg "max" = none
  n_min : mg "min" = none
  n_range : mg "range" = none
  n_str : mg "str" = none
  n_tuple : mg "tuple" = none
  g_FIGURES : ∃ t, mg "FIGURES" = some (.str "0123456789" t)
  g_GREAT : ∃ t, mg "GREAT" = some (.int (1000000000000000000000000000000000000000000000000000000000000) t)
  g_LETTER : ∃ t, mg "LETTER" = some (.str "t" t)
  g_MAX_ENTRIES : ∃ t, mg "MAX_ENTRIES" = some (.int (1000) t)
  g_MAX_SIZE : ∃ t, mg "MAX_SIZE" = some (.int (400) t)
  g_MOST_FIGURES : ∃ t, mg "MOST_FIGURES" = some (.int (3) t)
  g_MOST_SIGNS : ∃ t, mg "MOST_SIGNS" = some (.int (9000) t)
  g_PRIMES : TupAt K mg "PRIMES" [2, 3, 5, 7, 11, 13, 17, 19, 23, 29, 31]
  sl_Row_own_entries : SlotAt K "Row" "own_entries" 0
  sl_Row_own_order : SlotAt K "Row" "own_order" 1
  sl_Row_own_prime : SlotAt K "Row" "own_prime" 2
  sl_Row_own_text : SlotAt K "Row" "own_text" 3
  sl_RowEntries_own_tuple : SlotAt K "RowEntries" "own_tuple" 0
  isi_Row_Row : Isi3 K "Row" "Row" true
  isi_Row_RowEntries : Isi3 K "Row" "RowEntries" false
  isi_RowEntries_Row : Isi3 K "RowEntries" "Row" false
  isi_RowEntries_RowEntries : Isi3 K "RowEntries" "RowEntries" true
  k_Row : ∃ C, ClsN K "Row" C ∧ mg "Row" = some (.ref C)
  k_RowEntries : ∃ C, ClsN K "RowEntries" C ∧ mg "RowEntries" = some (.ref C)
  it_Row : IsiT K "Row"
  it_RowEntries : IsiT K "RowEntries"
  io_Row : IsiO K "Row"
  io_RowEntries : IsiO K "RowEntries"
  ne_Row : Ne3 K "Row"
  nf_Row : Nf3 K "Row"
section
variable {P : Program} {w : World} {K : PySem.W.Frag} {mg : Str → Option Value} {base : Heap}
abbrev s_is_whole : Stmt := topS 11
abbrev N_is_whole : List Str := ["value"]
theorem sc_is_whole : FnScope N_is_whole ["value"] (defScope s_is_whole) := ⟨rfl, rfl, rfl, by decide +kernel, rfl, by decide +kernel, by decide +kernel⟩
abbrev s_is_integer : Stmt := topS 12
abbrev N_is_integer : List Str := ["value"]
theorem sc_is_integer : FnScope N_is_integer ["value"] (defScope s_is_integer) := ⟨rfl, rfl, rfl, by decide +kernel, rfl, by decide +kernel, by decide +kernel⟩
abbrev s_is_prime : Stmt := topS 13
abbrev N_is_prime : List Str := ["value"]
theorem sc_is_prime : FnScope N_is_prime ["value"] (defScope s_is_prime) := ⟨rfl, rfl, rfl, by decide +kernel, rfl, by decide +kernel, by decide +kernel⟩
abbrev s_require_prime : Stmt := topS 14
abbrev N_require_prime : List Str := ["value"]
theorem sc_require_prime : FnScope N_require_prime ["value"] (defScope s_require_prime) := ⟨rfl, rfl, rfl, by decide +kernel, rfl, by decide +kernel, by decide +kernel⟩
abbrev s_is_residue_of : Stmt := topS 15
abbrev N_is_residue_of : List Str := ["prime", "value"]
theorem sc_is_residue_of : FnScope N_is_residue_of ["prime", "value"] (defScope s_is_residue_of) := ⟨rfl, rfl, rfl, by decide +kernel, rfl, by decide +kernel, by decide +kernel⟩
abbrev s_RowEntries_init : Stmt := inClass (topS 23) 1
abbrev N_RowEntries_init : List Str := ["self", "entries"]
theorem sc_RowEntries_init : FnScope N_RowEntries_init ["self", "entries"] (defScope s_RowEntries_init) := ⟨rfl, rfl, rfl, by decide +kernel, rfl, by decide +kernel, by decide +kernel⟩
abbrev s_row_trimmed : Stmt := topS 24
abbrev N_row_trimmed : List Str := ["entries", "size"]
theorem sc_row_trimmed : FnScope N_row_trimmed ["entries"] (defScope s_row_trimmed) := ⟨rfl, rfl, rfl, by decide +kernel, rfl, by decide +kernel, by decide +kernel⟩
abbrev s_row_made : Stmt := topS 25
abbrev N_row_made : List Str := ["prime", "entries"]
theorem sc_row_made : FnScope N_row_made ["prime", "entries"] (defScope s_row_made) := ⟨rfl, rfl, rfl, by decide +kernel, rfl, by decide +kernel, by decide +kernel⟩
abbrev s_are_row_entries : Stmt := topS 26
abbrev N_are_row_entries : List Str := ["prime", "value", "entry"]
theorem sc_are_row_entries : FnScope N_are_row_entries ["prime", "value"] (defScope s_are_row_entries) := ⟨rfl, rfl, rfl, by decide +kernel, rfl, by decide +kernel, by decide +kernel⟩
abbrev s_row_order : Stmt := topS 27
abbrev N_row_order : List Str := ["entries", "power", "entry"]
theorem sc_row_order : FnScope N_row_order ["entries"] (defScope s_row_order) := ⟨rfl, rfl, rfl, by decide +kernel, rfl, by decide +kernel, by decide +kernel⟩
abbrev s_row_term : Stmt := topS 28
abbrev N_row_term : List Str := ["entry", "power", "head"]
theorem sc_row_term : FnScope N_row_term ["entry", "power"] (defScope s_row_term) := ⟨rfl, rfl, rfl, by decide +kernel, rfl, by decide +kernel, by decide +kernel⟩
abbrev s_row_text : Stmt := topS 29
abbrev N_row_text : List Str := ["entries", "terms", "power", "entry"]
theorem sc_row_text : FnScope N_row_text ["entries"] (defScope s_row_text) := ⟨rfl, rfl, rfl, by decide +kernel, rfl, by decide +kernel, by decide +kernel⟩
abbrev s_row_figures : Stmt := topS 30
abbrev N_row_figures : List Str := ["text", "sign"]
theorem sc_row_figures : FnScope N_row_figures ["text"] (defScope s_row_figures) := ⟨rfl, rfl, rfl, by decide +kernel, rfl, by decide +kernel, by decide +kernel⟩
abbrev s_row_term_in : Stmt := topS 31
abbrev N_row_term_in : List Str := ["text", "head", "letter", "tail", "entry", "power"]
theorem sc_row_term_in : FnScope N_row_term_in ["text"] (defScope s_row_term_in) := ⟨rfl, rfl, rfl, by decide +kernel, rfl, by decide +kernel, by decide +kernel⟩
abbrev s_row_entries_in : Stmt := topS 32
abbrev N_row_entries_in : List Str := ["prime", "text", "terms", "found", "entry", "power", "part", "place"]
theorem sc_row_entries_in : FnScope N_row_entries_in ["prime", "text"] (defScope s_row_entries_in) := ⟨rfl, rfl, rfl, by decide +kernel, rfl, by decide +kernel, by decide +kernel⟩
abbrev s_require_row_count : Stmt := topS 33
abbrev N_require_row_count : List Str := ["value", "least"]
theorem sc_require_row_count : FnScope N_require_row_count ["value", "least"] (defScope s_require_row_count) := ⟨rfl, rfl, rfl, by decide +kernel, rfl, by decide +kernel, by decide +kernel⟩
abbrev s_Row_init : Stmt := inClass (topS 34) 1
abbrev N_Row_init : List Str := ["self", "prime", "entries", "row"]
theorem sc_Row_init : FnScope N_Row_init ["self", "prime", "entries"] (defScope s_Row_init) := ⟨rfl, rfl, rfl, by decide +kernel, rfl, by decide +kernel, by decide +kernel⟩
abbrev s_Row_read : Stmt := inClass (topS 34) 2
abbrev N_Row_read : List Str := ["cls", "prime", "text", "row"]
theorem sc_Row_read : FnScope N_Row_read ["cls", "prime", "text"] (defScope s_Row_read) := ⟨rfl, rfl, rfl, by decide +kernel, rfl, by decide +kernel, by decide +kernel⟩
abbrev s_Row_prime : Stmt := inClass (topS 34) 3
abbrev N_Row_prime : List Str := ["self"]
theorem sc_Row_prime : FnScope N_Row_prime ["self"] (defScope s_Row_prime) := ⟨rfl, rfl, rfl, by decide +kernel, rfl, by decide +kernel, by decide +kernel⟩
abbrev s_Row_entries : Stmt := inClass (topS 34) 4
abbrev N_Row_entries : List Str := ["self"]
theorem sc_Row_entries : FnScope N_Row_entries ["self"] (defScope s_Row_entries) := ⟨rfl, rfl, rfl, by decide +kernel, rfl, by decide +kernel, by decide +kernel⟩
abbrev s_Row_degree : Stmt := inClass (topS 34) 5
abbrev N_Row_degree : List Str := ["self"]
theorem sc_Row_degree : FnScope N_Row_degree ["self"] (defScope s_Row_degree) := ⟨rfl, rfl, rfl, by decide +kernel, rfl, by decide +kernel, by decide +kernel⟩
abbrev s_Row_order : Stmt := inClass (topS 34) 6
abbrev N_Row_order : List Str := ["self"]
theorem sc_Row_order : FnScope N_Row_order ["self"] (defScope s_Row_order) := ⟨rfl, rfl, rfl, by decide +kernel, rfl, by decide +kernel, by decide +kernel⟩
abbrev s_Row_entry : Stmt := inClass (topS 34) 7
abbrev N_Row_entry : List Str := ["self", "power"]
theorem sc_Row_entry : FnScope N_Row_entry ["self", "power"] (defScope s_Row_entry) := ⟨rfl, rfl, rfl, by decide +kernel, rfl, by decide +kernel, by decide +kernel⟩
abbrev s_Row_shifted : Stmt := inClass (topS 34) 13
abbrev N_Row_shifted : List Str := ["self", "many", "place"]
theorem sc_Row_shifted : FnScope N_Row_shifted ["self", "many"] (defScope s_Row_shifted) := ⟨rfl, rfl, rfl, by decide +kernel, rfl, by decide +kernel, by decide +kernel⟩
abbrev s_Row_cut : Stmt := inClass (topS 34) 14
abbrev N_Row_cut : List Str := ["self", "size"]
theorem sc_Row_cut : FnScope N_Row_cut ["self", "size"] (defScope s_Row_cut) := ⟨rfl, rfl, rfl, by decide +kernel, rfl, by decide +kernel, by decide +kernel⟩
abbrev s_Row_eq : Stmt := inClass (topS 34) 18
abbrev N_Row_eq : List Str := ["self", "other"]
theorem sc_Row_eq : FnScope N_Row_eq ["self", "other"] (defScope s_Row_eq) := ⟨rfl, rfl, rfl, by decide +kernel, rfl, by decide +kernel, by decide +kernel⟩
abbrev s_Row_str : Stmt := inClass (topS 34) 19
abbrev N_Row_str : List Str := ["self"]
theorem sc_Row_str : FnScope N_Row_str ["self"] (defScope s_Row_str) := ⟨rfl, rfl, rfl, by decide +kernel, rfl, by decide +kernel, by decide +kernel⟩
abbrev s__law_dice : Stmt := topS 36
abbrev N__law_dice : List Str := ["_law_script", "_law_spot", "_law_cell", "_law_left"]
theorem sc__law_dice : FnScope N__law_dice ["_law_script", "_law_spot"] (defScope s__law_dice) := ⟨rfl, rfl, rfl, by decide +kernel, rfl, by decide +kernel, by decide +kernel⟩
abbrev s__law_roll : Stmt := topS 37
abbrev N__law_roll : List Str := ["_law_dice_here", "_law_total", "_law_found", "_law_one", "_law_two"]
theorem sc__law_roll : FnScope N__law_roll ["_law_dice_here", "_law_total"] (defScope s__law_roll) := ⟨rfl, rfl, rfl, by decide +kernel, rfl, by decide +kernel, by decide +kernel⟩
abbrev s__law_pick : Stmt := topS 38
abbrev N__law_pick : List Str := ["_law_dice_here", "_law_items"]
theorem sc__law_pick : FnScope N__law_pick ["_law_dice_here", "_law_items"] (defScope s__law_pick) := ⟨rfl, rfl, rfl, by decide +kernel, rfl, by decide +kernel, by decide +kernel⟩
abbrev s__law_trim : Stmt := topS 39
abbrev N__law_trim : List Str := ["_law_row", "_law_size"]
theorem sc__law_trim : FnScope N__law_trim ["_law_row"] (defScope s__law_trim) := ⟨rfl, rfl, rfl, by decide +kernel, rfl, by decide +kernel, by decide +kernel⟩
abbrev s__law_order : Stmt := topS 40
abbrev N__law_order : List Str := ["_law_row", "_law_found", "_law_at", "_law_entry"]
theorem sc__law_order : FnScope N__law_order ["_law_row"] (defScope s__law_order) := ⟨rfl, rfl, rfl, by decide +kernel, rfl, by decide +kernel, by decide +kernel⟩
abbrev s__law_any_row : Stmt := topS 41
abbrev N__law_any_row : List Str := ["_law_dice_here", "_law_prime", "_law_entries", "_law_turn"]
theorem sc__law_any_row : FnScope N__law_any_row ["_law_dice_here", "_law_prime"] (defScope s__law_any_row) := ⟨rfl, rfl, rfl, by decide +kernel, rfl, by decide +kernel, by decide +kernel⟩
abbrev s__law_row_text : Stmt := topS 42
abbrev N__law_row_text : List Str := ["_law_row", "_law_words", "_law_power", "_law_entry", "_law_tail"]
theorem sc__law_row_text : FnScope N__law_row_text ["_law_row"] (defScope s__law_row_text) := ⟨rfl, rfl, rfl, by decide +kernel, rfl, by decide +kernel, by decide +kernel⟩
abbrev s__law_is_told : Stmt := topS 43
abbrev N__law_is_told : List Str := ["_law_prime", "_law_entries", "_law_row", "_law_due", "_law_size", "_law_many", "_law_later", "_law_power"]
theorem sc__law_is_told : FnScope N__law_is_told ["_law_prime", "_law_entries"] (defScope s__law_is_told) := ⟨rfl, rfl, rfl, by decide +kernel, rfl, by decide +kernel, by decide +kernel⟩
abbrev s__law_right : Stmt := topS 44
abbrev N__law_right : List Str := ["_law_dice_here", "_law_prime", "_law_one", "_law_other", "_law_first", "_law_second"]
theorem sc__law_right : FnScope N__law_right ["_law_dice_here"] (defScope s__law_right) := ⟨rfl, rfl, rfl, by decide +kernel, rfl, by decide +kernel, by decide +kernel⟩
abbrev s_law : Stmt := topS 45
abbrev N_law : List Str := ["_law_script", "_law_spot", "_law_dice_here", "_law_row", "_law_told"]
theorem sc_law : FnScope N_law ["_law_script"] (defScope s_law) := ⟨rfl, rfl, rfl, by decide +kernel, rfl, by decide +kernel, by decide +kernel⟩
theorem ok_is_whole (T : Txt P K mg) (d_is_whole : DefAt K mg "is_whole" s_is_whole)  : Cal3 P w K mg base "is_whole" 2 ["value"] sp_is_whole :=
  cal3 d_is_whole (fun _ _ _ _ _ _ us hl => match us, hl with | [_], _ => rfl) sc_is_whole len_is_whole fun f cdv A outer s H E B dw hr wk => ⟨t_is_whole dw,
    (lss_one (ls_ret (le_and (le_isi (by rfl) T.n_isinstance (lp_cons (le_pv (pv 0)) (lp_cons (le_ty (by rfl) T.n_int (by decide +kernel)) lp_nil))) (le_one (le_not (le_isi (by rfl) T.n_isinstance (lp_cons (le_pv (pv 0)) (lp_cons (le_ty (by rfl) T.n_bool (by decide +kernel)) lp_nil)))))))),
    fun ds G q h => p_is_whole N_is_whole rfl ds G q dw h⟩
theorem ok_RowEntries_init (T : Txt P K mg) (d_RowEntries_init : MethAt K "RowEntries" "__init__" "RowEntries.__init__" s_RowEntries_init) (m_RowEntries : MakeAt K mg "RowEntries")  : New3 P w K mg base "RowEntries" 2 sp_RowEntries_init :=
  new3 m_RowEntries d_RowEntries_init (fun _ _ _ _ _ _ us hl => match us, hl with | [_, _], _ => rfl) sc_RowEntries_init (by decide) len_RowEntries_init fun f cdv A outer s H E B dw hr wk => ⟨t_RowEntries_init dw,
    (lss_one (ls_attr [("RowEntries", 0)] (tbl_cons T.sl_RowEntries_own_tuple tbl_nil) (pv 0) (le_pv (pv 1)))),
    fun ds G q h => p_RowEntries_init ds G q dw h⟩
theorem ok_row_trimmed (T : Txt P K mg) (d_row_trimmed : DefAt K mg "row_trimmed" s_row_trimmed)  : Cal3 P w K mg base "row_trimmed" 2 ["entries"] sp_row_trimmed :=
  cal3 d_row_trimmed (fun _ _ _ _ _ _ us hl => match us, hl with | [_], _ => rfl) sc_row_trimmed len_row_trimmed fun f cdv A outer s H E B dw hr wk => ⟨t_row_trimmed dw,
    (lss_cons (ls_set (i := 1) sc_row_trimmed.nd rfl (by first | exact Or.inl rfl | exact Or.inr rfl) (le_len (by rfl) T.n_len (lp_cons (le_pv (pv 0)) lp_nil)))
      (lss_cons (ls_while (passes_of rfl) (LW.lt (lw_and (lt_gt (le_pv (pv 1)) le_int) (lw_and1 (lt_eq hr (le_item (le_pv (pv 0)) (le_sub (le_pv (pv 1)) le_int)) le_int)))) (lss_one (ls_aug (i := 1) sc_row_trimmed.nd rfl (by first | exact Or.inl rfl | exact Or.inr rfl) le_int ip_subI r_sub3)))
      (lss_one (ls_ret (le_tuple (by rfl) T.n_tuple (lp_cons (le_cut (le_pv (pv 0)) lo_none (lo_some (le_pv (pv 1)))) lp_nil)))))),
    fun ds G q h => p_row_trimmed ds G q dw h⟩
theorem ok_row_order (T : Txt P K mg) (d_row_order : DefAt K mg "row_order" s_row_order)  : Cal3 P w K mg base "row_order" 2 ["entries"] sp_row_order :=
  cal3 d_row_order (fun _ _ _ _ _ _ us hl => match us, hl with | [_], _ => rfl) sc_row_order len_row_order fun f cdv A outer s H E B dw hr wk => ⟨t_row_order dw,
    (lss_cons (ls_for (vs := [1, 2]) (passes_of rfl) rfl (li_enumA (by rfl) T.n_enumerate (la_cons (le_pv (pv 0)) la_nil)) (lg_tup rfl (lgs_cons (lg_name (i := 1) sc_row_order.nd rfl (by first | exact Or.inl rfl | exact Or.inr rfl) (by decide)) (lgs_cons (lg_name (i := 2) sc_row_order.nd rfl (by first | exact Or.inl rfl | exact Or.inr rfl) (by decide)) lgs_nil))) (lss_one (ls_if (lt_ne hr (le_pv (pv 2)) le_int) (lss_one (ls_ret (le_pv (pv 1)))) lss_nil)))
      (lss_one (ls_ret le_non))),
    fun ds G q h => p_row_order ds G q dw h⟩
theorem ok_row_term (T : Txt P K mg) (d_row_term : DefAt K mg "row_term" s_row_term)  : Cal3 P w K mg base "row_term" 2 ["entry", "power"] sp_row_term :=
  cal3 d_row_term (fun _ _ _ _ _ _ us hl => match us, hl with | [_, _], _ => rfl) sc_row_term len_row_term fun f cdv A outer s H E B dw hr wk => ⟨t_row_term dw,
    (lss_cons (ls_if (lt_eq hr (le_pv (pv 1)) le_int) (lss_one (ls_ret (le_strOf (by rfl) T.n_str (lp_cons (le_pv (pv 0)) lp_nil)))) lss_nil)
      (lss_cons (ls_set (i := 2) sc_row_term.nd rfl (by first | exact Or.inl rfl | exact Or.inr rfl) (le_ifExp (lt_eq hr (le_pv (pv 0)) le_int) le_str (le_strOf (by rfl) T.n_str (lp_cons (le_pv (pv 0)) lp_nil))))
      (lss_one (ls_ret (le_ifExp (lt_eq hr (le_pv (pv 1)) le_int) (le_add (le_pv (pv 2)) (le_gstr (by rfl) T.g_LETTER)) (le_fstr (.cons (le_fmt (le_pv (pv 2))) (.cons (le_fmt (le_gstr (by rfl) T.g_LETTER)) (.cons le_str (.cons (le_fmt (le_pv (pv 1))) .nil)))))))))),
    fun ds G q h => p_row_term ds G q dw h⟩
theorem ok_row_figures (T : Txt P K mg) (d_row_figures : DefAt K mg "row_figures" s_row_figures)  : Cal3 P w K mg base "row_figures" 2 ["text"] sp_row_figures :=
  cal3 d_row_figures (fun _ _ _ _ _ _ us hl => match us, hl with | [_], _ => rfl) sc_row_figures len_row_figures fun f cdv A outer s H E B dw hr wk => ⟨t_row_figures dw,
    (lss_cons (ls_if (LW.lt (lw_or (lt_not (lt_ch on_le on_le le_int (le_len (by rfl) T.n_len (lp_cons (le_pv (pv 0)) lp_nil)) (le_gint (by rfl) T.g_MOST_FIGURES))) (lw_or1 (lt_not (lt_val (le_all rfl (by rfl) T.n_all (lp_cons (le_lc (own := [("sign", 1)]) rfl sc_row_figures.nd (li_seq (le_pv (pv 0))) (blkOk_by (N := N_row_figures) (sc := defScope s_row_figures) (by decide +kernel)) (fun _ _ _ _ _ => (lg_name (i := 1) sc_row_figures.nd rfl (by first | exact Or.inl rfl | exact Or.inr rfl) (by decide))) (fun _ _ _ _ _ => lts_nil) (fun _ _ _ _ _ => (le_in hr (le_pv (pv 1)) (le_gstr (by rfl) T.g_FIGURES)))) lp_nil))))))) (lss_one (ls_ret le_non)) lss_nil)
      (lss_one (ls_ret (le_intStr (by rfl) T.n_int (lp_cons (le_pv (pv 0)) lp_nil))))),
    fun ds G q h => p_row_figures ds G q dw h⟩
theorem ok_Row_prime (T : Txt P K mg) (d_Row_prime : PropAt K "Row" "prime" "Row.prime" s_Row_prime)  : Prop3 P w K mg base "Row" "prime" 2 sp_Row_prime :=
  prop3 d_Row_prime (fun _ _ _ _ _ _ us hl => match us, hl with | [_], _ => rfl) sc_Row_prime len_Row_prime fun f cdv A outer s H E B dw hr => ⟨t_Row_prime dw,
    (lss_one (ls_ret (le_attr [("Row", 2)] (tbl_cons T.sl_Row_own_prime tbl_nil) (le_pv (pv 0))))),
    fun ds G q h => p_Row_prime ds G q dw h⟩
theorem ok_Row_entries (T : Txt P K mg) (d_Row_entries : PropAt K "Row" "entries" "Row.entries" s_Row_entries)  : Prop3 P w K mg base "Row" "entries" 2 sp_Row_entries :=
  prop3 d_Row_entries (fun _ _ _ _ _ _ us hl => match us, hl with | [_], _ => rfl) sc_Row_entries len_Row_entries fun f cdv A outer s H E B dw hr => ⟨t_Row_entries dw,
    (lss_one (ls_ret (le_attr [("Row", 0)] (tbl_cons T.sl_Row_own_entries tbl_nil) (le_pv (pv 0))))),
    fun ds G q h => p_Row_entries ds G q dw h⟩
theorem ok_Row_degree (T : Txt P K mg) (d_Row_degree : PropAt K "Row" "degree" "Row.degree" s_Row_degree)  : Prop3 P w K mg base "Row" "degree" 2 sp_Row_degree :=
  prop3 d_Row_degree (fun _ _ _ _ _ _ us hl => match us, hl with | [_], _ => rfl) sc_Row_degree len_Row_degree fun f cdv A outer s H E B dw hr => ⟨t_Row_degree dw,
    (lss_one (ls_ret (le_sub (le_len (by rfl) T.n_len (lp_cons (le_attr [("Row", 0)] (tbl_cons T.sl_Row_own_entries tbl_nil) (le_pv (pv 0))) lp_nil)) le_int))),
    fun ds G q h => p_Row_degree ds G q dw h⟩
theorem ok_Row_order (T : Txt P K mg) (d_Row_order : PropAt K "Row" "order" "Row.order" s_Row_order)  : Prop3 P w K mg base "Row" "order" 2 sp_Row_order :=
  prop3 d_Row_order (fun _ _ _ _ _ _ us hl => match us, hl with | [_], _ => rfl) sc_Row_order len_Row_order fun f cdv A outer s H E B dw hr => ⟨t_Row_order dw,
    (lss_one (ls_ret (le_attr [("Row", 1)] (tbl_cons T.sl_Row_own_order tbl_nil) (le_pv (pv 0))))),
    fun ds G q h => p_Row_order ds G q dw h⟩
theorem ok_Row_eq (T : Txt P K mg) (d_Row_eq : MethAt K "Row" "__eq__" "Row.__eq__" s_Row_eq) (q_Row_eq : SClsN K "Row")  : Meth3 P w K mg base "Row" "__eq__" 2 sp_Row_eq :=
  meth3 q_Row_eq d_Row_eq (fun _ _ _ _ _ _ us hl => match us, hl with | [_, _], _ => rfl) sc_Row_eq len_Row_eq fun f cdv A outer s H E B dw hr wk => ⟨t_Row_eq dw,
    (lss_cons (ls_if (lt_not (lt_val (le_isiA ["RowEntries", "Row"] ["RowEntries", "Row"] [(("RowEntries", "RowEntries"), true), (("RowEntries", "Row"), false), (("Row", "RowEntries"), false), (("Row", "Row"), true)] (all_cons T.it_RowEntries (all_cons T.it_Row all_nil)) (all_cons T.io_RowEntries (all_cons T.io_Row all_nil)) (isi_cons T.isi_RowEntries_RowEntries (isi_cons T.isi_RowEntries_Row (isi_cons T.isi_Row_RowEntries (isi_cons T.isi_Row_Row isi_nil)))) (by rfl) T.n_isinstance (lp_cons (le_pv (pv 1)) (lp_cons (le_cls (by rfl) T.k_Row) lp_nil))))) (lss_one (ls_ret le_bl)) lss_nil)
      (lss_one (ls_ret (le_and (le_eq hr (le_attr [("Row", 2)] (tbl_cons T.sl_Row_own_prime tbl_nil) (le_pv (pv 0))) (le_attr [("Row", 2)] (tbl_cons T.sl_Row_own_prime tbl_nil) (le_pv (pv 1)))) (le_one (le_eq hr (le_attr [("Row", 0)] (tbl_cons T.sl_Row_own_entries tbl_nil) (le_pv (pv 0))) (le_attr [("Row", 0)] (tbl_cons T.sl_Row_own_entries tbl_nil) (le_pv (pv 1))))))))),
    fun ds G q h => p_Row_eq ds G q dw h⟩
theorem ok_Row_str (T : Txt P K mg) (d_Row_str : MethAt K "Row" "__str__" "Row.__str__" s_Row_str) (q_Row_str : SClsN K "Row")  : Meth3 P w K mg base "Row" "__str__" 2 sp_Row_str :=
  meth3 q_Row_str d_Row_str (fun _ _ _ _ _ _ us hl => match us, hl with | [_], _ => rfl) sc_Row_str len_Row_str fun f cdv A outer s H E B dw hr wk => ⟨t_Row_str dw,
    (lss_one (ls_ret (le_fstr1 (le_fmt (le_attr [("Row", 3)] (tbl_cons T.sl_Row_own_text tbl_nil) (le_pv (pv 0))))))),
    fun ds G q h => p_Row_str ds G q dw h⟩
theorem ok__law_dice (T : Txt P K mg) (d__law_dice : DefAt K mg "_law_dice" s__law_dice)  : Cal3 P w K mg base "_law_dice" 2 ["_law_script", "_law_spot"] sp__law_dice :=
  cal3 d__law_dice (fun _ _ _ _ _ _ us hl => match us, hl with | [_, _], _ => rfl) sc__law_dice len__law_dice fun f cdv A outer s H E B dw hr wk => ⟨t__law_dice dw,
    (lss_cons (ls_set (i := 2) sc__law_dice.nd rfl (by first | exact Or.inl rfl | exact Or.inr rfl) (le_ifExp (lt_lt (le_pv (pv 1)) (le_len (by rfl) T.n_len (lp_cons (le_pv (pv 0)) lp_nil))) (le_intOf (by rfl) T.n_int (lp_cons (le_item (le_pv (pv 0)) (le_pv (pv 1))) lp_nil)) (le_add (le_mul le_int (le_pv (pv 1))) le_int)))
      (lss_cons (ls_set (i := 3) sc__law_dice.nd rfl (by first | exact Or.inl rfl | exact Or.inr rfl) (le_mod (le_max2 rfl (by rfl) T.n_max (lp_cons le_int (lp_cons (le_sub (le_abs (by rfl) T.n_abs (lp_cons (le_pv (pv 2)) lp_nil)) (le_pow le_int le_int)) lp_nil))) (le_mul (le_pow le_int le_int) (le_pow le_int le_int))))
      (lss_one (ls_ret (le_lst (la_cons (le_pv (pv 3)) (la_cons (le_add (le_add (le_add (le_mul (le_mod (le_abs (by rfl) T.n_abs (lp_cons (le_pv (pv 2)) lp_nil)) le_int) le_int) (le_mul le_int (le_pv (pv 1)))) (le_mul le_int (le_intOf (by rfl) T.n_int (lp_cons (le_lt (le_pv (pv 2)) le_int) lp_nil)))) le_int) (la_cons le_int la_nil)))))))),
    fun ds G q h => p__law_dice N__law_dice rfl ds G q dw h⟩
theorem ok__law_roll (T : Txt P K mg) (d__law_roll : DefAt K mg "_law_roll" s__law_roll)  : Cal3 P w K mg base "_law_roll" 2 ["_law_dice_here", "_law_total"] sp__law_roll :=
  cal3 d__law_roll (fun _ _ _ _ _ _ us hl => match us, hl with | [_, _], _ => rfl) sc__law_roll len__law_roll fun f cdv A outer s H E B dw hr wk => ⟨t__law_roll dw,
    (lss_cons (ls_if (lt_gt (le_item (le_pv (pv 0)) le_int) le_int) (lss_cons (ls_set (i := 2) sc__law_roll.nd rfl (by first | exact Or.inl rfl | exact Or.inr rfl) (le_mod (le_intOf (by rfl) T.n_int (lp_cons (le_item (le_pv (pv 0)) le_int) lp_nil)) (le_pv (pv 1))))
      (lss_cons (ls_store (le_fdiv (le_item (le_pv (pv 0)) le_int) (le_pv (pv 1))) (le_pv (pv 0)) le_int)
      (lss_one (ls_ret (le_pv (pv 2)))))) lss_nil)
      (lss_cons (ls_store (le_add (le_item (le_pv (pv 0)) le_int) le_int) (le_pv (pv 0)) le_int)
      (lss_cons (ls_set (i := 3) sc__law_roll.nd rfl (by first | exact Or.inl rfl | exact Or.inr rfl) (le_mod (le_intOf (by rfl) T.n_int (lp_cons (le_add (le_item (le_pv (pv 0)) le_int) (le_mul le_int (le_item (le_pv (pv 0)) le_int))) lp_nil)) le_int))
      (lss_cons (ls_set (i := 4) sc__law_roll.nd rfl (by first | exact Or.inl rfl | exact Or.inr rfl) (le_add (le_mul (le_mod (le_intOf (by rfl) T.n_int (lp_cons (le_add (le_mul (le_pv (pv 3)) (le_pv (pv 3))) (le_mul le_int (le_item (le_pv (pv 0)) le_int))) lp_nil)) le_int) le_int) (le_pv (pv 3))))
      (lss_one (ls_ret (le_mod (le_intOf (by rfl) T.n_int (lp_cons (le_fdiv (le_pv (pv 4)) le_int) lp_nil)) (le_pv (pv 1))))))))),
    fun ds G q h => p__law_roll N__law_roll rfl ds G q dw h⟩
theorem ok__law_trim (T : Txt P K mg) (d__law_trim : DefAt K mg "_law_trim" s__law_trim)  : Cal3 P w K mg base "_law_trim" 2 ["_law_row"] sp__law_trim :=
  cal3 d__law_trim (fun _ _ _ _ _ _ us hl => match us, hl with | [_], _ => rfl) sc__law_trim len__law_trim fun f cdv A outer s H E B dw hr wk => ⟨t__law_trim dw,
    (lss_cons (ls_set (i := 1) sc__law_trim.nd rfl (by first | exact Or.inl rfl | exact Or.inr rfl) (le_len (by rfl) T.n_len (lp_cons (le_pv (pv 0)) lp_nil)))
      (lss_cons (ls_while (passes_of rfl) (LW.lt (lw_and (lt_gt (le_pv (pv 1)) le_int) (lw_and1 (lt_eq hr (le_item (le_pv (pv 0)) (le_sub (le_pv (pv 1)) le_int)) le_int)))) (lss_one (ls_set (i := 1) sc__law_trim.nd rfl (by first | exact Or.inl rfl | exact Or.inr rfl) (le_sub (le_pv (pv 1)) le_int))))
      (lss_one (ls_ret (le_tuple (by rfl) T.n_tuple (lp_cons (le_cut (le_pv (pv 0)) lo_none (lo_some (le_pv (pv 1)))) lp_nil)))))),
    fun ds G q h => p__law_trim ds G q dw h⟩
theorem ok__law_order (T : Txt P K mg) (d__law_order : DefAt K mg "_law_order" s__law_order)  : Cal3 P w K mg base "_law_order" 2 ["_law_row"] sp__law_order :=
  cal3 d__law_order (fun _ _ _ _ _ _ us hl => match us, hl with | [_], _ => rfl) sc__law_order len__law_order fun f cdv A outer s H E B dw hr wk => ⟨t__law_order dw,
    (lss_cons (ls_setLc (i := 1) (own := [("_law_at", 2), ("_law_entry", 3)]) rfl sc__law_order.nd rfl rfl (sw_true rfl rfl rfl (by decide +kernel)) (li_enumA (by rfl) T.n_enumerate (la_cons (le_pv (pv 0)) la_nil)) (blkOk_by (N := N__law_order) (sc := defScope s__law_order) (by decide +kernel)) (fun _ _ _ _ _ => (lg_tup rfl (lgs_cons (lg_name (i := 2) sc__law_order.nd rfl (by first | exact Or.inl rfl | exact Or.inr rfl) (by decide)) (lgs_cons (lg_name (i := 3) sc__law_order.nd rfl (by first | exact Or.inl rfl | exact Or.inr rfl) (by decide)) lgs_nil)))) (fun _ _ _ _ _ => (lts_one (lt_ne hr (le_pv (pv 3)) le_int))) (fun _ _ _ _ _ => (le_pv (pv 2))))
      (lss_one (ls_ret (le_ifExp (lt_ne hr (le_pv (pv 1)) (le_lst la_nil)) (le_item (le_pv (pv 1)) le_int) le_non)))),
    fun ds G q h => p__law_order ds G q dw h⟩
theorem ok__law_row_text (T : Txt P K mg) (d__law_row_text : DefAt K mg "_law_row_text" s__law_row_text)  : Cal3 P w K mg base "_law_row_text" 2 ["_law_row"] sp__law_row_text :=
  cal3 d__law_row_text (fun _ _ _ _ _ _ us hl => match us, hl with | [_], _ => rfl) sc__law_row_text len__law_row_text fun f cdv A outer s H E B dw hr wk => ⟨t__law_row_text dw,
    (lss_cons (ls_set (i := 1) sc__law_row_text.nd rfl (by first | exact Or.inl rfl | exact Or.inr rfl) (le_lst la_nil))
      (lss_cons (ls_for (vs := [2, 3]) (passes_of rfl) rfl (li_enumA (by rfl) T.n_enumerate (la_cons (le_pv (pv 0)) la_nil)) (lg_tup rfl (lgs_cons (lg_name (i := 2) sc__law_row_text.nd rfl (by first | exact Or.inl rfl | exact Or.inr rfl) (by decide)) (lgs_cons (lg_name (i := 3) sc__law_row_text.nd rfl (by first | exact Or.inl rfl | exact Or.inr rfl) (by decide)) lgs_nil))) (lss_one (ls_if (lt_ne hr (le_pv (pv 3)) le_int) (lss_cons (ls_set (i := 4) sc__law_row_text.nd rfl (by first | exact Or.inl rfl | exact Or.inr rfl) (le_ifExp (lt_eq hr (le_pv (pv 2)) le_int) le_str (le_ifExp (lt_eq hr (le_pv (pv 2)) le_int) le_str (le_add le_str (le_strOf (by rfl) T.n_str (lp_cons (le_pv (pv 2)) lp_nil))))))
      (lss_one (ls_expr (le_append (pv 1) (le_ifExp (LW.lt (lw_and (lt_eq hr (le_pv (pv 3)) le_int) (lw_and1 (lt_gt (le_pv (pv 2)) le_int)))) (le_pv (pv 4)) (le_add (le_strOf (by rfl) T.n_str (lp_cons (le_pv (pv 3)) lp_nil)) (le_pv (pv 4)))))))) lss_nil)))
      (lss_one (ls_ret (le_ifExp (lt_ne hr (le_pv (pv 1)) (le_lst la_nil)) (le_join le_str (le_pv (pv 1))) le_str))))),
    fun ds G q h => p__law_row_text ds G q dw h⟩
theorem ok_is_integer (T : Txt P K mg) (d_is_integer : DefAt K mg "is_integer" s_is_integer) (c_is_whole : Cal3 P w K mg base "is_whole" 2 ["value"] sp_is_whole) : Cal3 P w K mg base "is_integer" 3 ["value"] sp_is_integer :=
  cal3 d_is_integer (fun _ _ _ _ _ _ us hl => match us, hl with | [_], _ => rfl) sc_is_integer len_is_integer fun f cdv A outer s H E B dw hr wk => ⟨t_is_integer dw,
    (lss_one (ls_ret (le_and (le_callC c_is_whole hr (by decide) wk.ok (by rfl) (la_cons (le_pv (pv 0)) la_nil)) (le_one (le_ch on_lt on_lt (le_neg (le_gint (by rfl) T.g_GREAT)) (le_pv (pv 0)) (le_gint (by rfl) T.g_GREAT)))))),
    fun ds G q h => p_is_integer N_is_integer rfl ds G q dw h⟩
theorem ok_is_prime (T : Txt P K mg) (d_is_prime : DefAt K mg "is_prime" s_is_prime) (c_is_whole : Cal3 P w K mg base "is_whole" 2 ["value"] sp_is_whole) : Cal3 P w K mg base "is_prime" 3 ["value"] sp_is_prime :=
  cal3 d_is_prime (fun _ _ _ _ _ _ us hl => match us, hl with | [_], _ => rfl) sc_is_prime len_is_prime fun f cdv A outer s H E B dw hr wk => ⟨t_is_prime dw,
    (lss_one (ls_ret (le_and (le_callC c_is_whole hr (by decide) wk.ok (by rfl) (la_cons (le_pv (pv 0)) la_nil)) (le_one (le_in hr (le_pv (pv 0)) (le_gtup (by rfl) T.g_PRIMES)))))),
    fun ds G q h => p_is_prime N_is_prime rfl ds G q dw h⟩
theorem ok_is_residue_of (T : Txt P K mg) (d_is_residue_of : DefAt K mg "is_residue_of" s_is_residue_of) (c_is_whole : Cal3 P w K mg base "is_whole" 2 ["value"] sp_is_whole) : Cal3 P w K mg base "is_residue_of" 3 ["prime", "value"] sp_is_residue_of :=
  cal3 d_is_residue_of (fun _ _ _ _ _ _ us hl => match us, hl with | [_, _], _ => rfl) sc_is_residue_of len_is_residue_of fun f cdv A outer s H E B dw hr wk => ⟨t_is_residue_of dw,
    (lss_one (ls_ret (le_and (le_callC c_is_whole hr (by decide) wk.ok (by rfl) (la_cons (le_pv (pv 1)) la_nil)) (le_one (le_ch on_le on_lt le_int (le_pv (pv 1)) (le_pv (pv 0))))))),
    fun ds G q h => p_is_residue_of ds G q dw h⟩
theorem ok_row_text (T : Txt P K mg) (d_row_text : DefAt K mg "row_text" s_row_text) (c_row_term : Cal3 P w K mg base "row_term" 2 ["entry", "power"] sp_row_term) : Cal3 P w K mg base "row_text" 3 ["entries"] sp_row_text :=
  cal3 d_row_text (fun _ _ _ _ _ _ us hl => match us, hl with | [_], _ => rfl) sc_row_text len_row_text fun f cdv A outer s H E B dw hr wk => ⟨t_row_text dw,
    (lss_cons (ls_setLc (i := 1) (own := [("power", 2), ("entry", 3)]) rfl sc_row_text.nd rfl rfl (sw_true rfl rfl rfl (by decide +kernel)) (li_enumA (by rfl) T.n_enumerate (la_cons (le_pv (pv 0)) la_nil)) (blkOk_by (N := N_row_text) (sc := defScope s_row_text) (by decide +kernel)) (fun _ _ _ _ _ => (lg_tup rfl (lgs_cons (lg_name (i := 2) sc_row_text.nd rfl (by first | exact Or.inl rfl | exact Or.inr rfl) (by decide)) (lgs_cons (lg_name (i := 3) sc_row_text.nd rfl (by first | exact Or.inl rfl | exact Or.inr rfl) (by decide)) lgs_nil)))) (fun _ _ _ _ _ => (lts_one (lt_ne hr (le_pv (pv 3)) le_int))) (fun _ _ _ _ _ => (le_callC c_row_term hr (by decide) wok0 (by rfl) (la_cons (le_pv (pv 3)) (la_cons (le_pv (pv 2)) la_nil)))))
      (lss_one (ls_ret (le_ifExp (lt_ne hr (le_pv (pv 1)) (le_lst la_nil)) (le_join le_str (le_pv (pv 1))) le_str)))),
    fun ds G q h => p_row_text ds G q dw h⟩
theorem ok_row_term_in (T : Txt P K mg) (d_row_term_in : DefAt K mg "row_term_in" s_row_term_in) (c_row_figures : Cal3 P w K mg base "row_figures" 2 ["text"] sp_row_figures) : Cal3 P w K mg base "row_term_in" 3 ["text"] sp_row_term_in :=
  cal3 d_row_term_in (fun _ _ _ _ _ _ us hl => match us, hl with | [_], _ => rfl) sc_row_term_in len_row_term_in fun f cdv A outer s H E B dw hr wk => ⟨t_row_term_in dw,
    (lss_cons (ls_asg (vs := [1, 2, 3]) (le_partition (le_pv (pv 0)) (le_gstr (by rfl) T.g_LETTER)) (lg_tup rfl (lgs_cons (lg_name (i := 1) sc_row_term_in.nd rfl (by first | exact Or.inl rfl | exact Or.inr rfl) (by decide)) (lgs_cons (lg_name (i := 2) sc_row_term_in.nd rfl (by first | exact Or.inl rfl | exact Or.inr rfl) (by decide)) (lgs_cons (lg_name (i := 3) sc_row_term_in.nd rfl (by first | exact Or.inl rfl | exact Or.inr rfl) (by decide)) lgs_nil)))))
      (lss_cons (ls_set (i := 4) sc_row_term_in.nd rfl (by first | exact Or.inl rfl | exact Or.inr rfl) (le_ifExp (LW.lt (lw_and (lt_eq hr (le_pv (pv 1)) le_str) (lw_and1 (lt_ne hr (le_pv (pv 2)) le_str)))) le_int (le_callC c_row_figures hr (by decide) wk.ok (by rfl) (la_cons (le_pv (pv 1)) la_nil))))
      (lss_cons (ls_if (lt_eq hr (le_pv (pv 2)) le_str) (lss_one (ls_ret (le_ifExp (lt_isN (le_pv (pv 4)) le_non) le_non (le_tup (la_cons (le_pv (pv 4)) (la_cons le_int la_nil)))))) lss_nil)
      (lss_cons (ls_set (i := 5) sc_row_term_in.nd rfl (by first | exact Or.inl rfl | exact Or.inr rfl) (le_ifExp (lt_eq hr (le_pv (pv 3)) le_str) le_int (le_callC c_row_figures hr (by decide) wk.ok (by rfl) (la_cons (le_cutS (le_pv (pv 3)) (lo_some le_int) lo_none) la_nil))))
      (lss_one (ls_ret (le_ifExp (LW.lt (lw_or (lt_isN (le_pv (pv 4)) le_non) (lw_or1 (lt_isN (le_pv (pv 5)) le_non)))) le_non (le_tup (la_cons (le_pv (pv 4)) (la_cons (le_pv (pv 5)) la_nil)))))))))),
    fun ds G q h => p_row_term_in ds G q dw h⟩
theorem ok__law_pick (T : Txt P K mg) (d__law_pick : DefAt K mg "_law_pick" s__law_pick) (c__law_roll : Cal3 P w K mg base "_law_roll" 2 ["_law_dice_here", "_law_total"] sp__law_roll) : Cal3 P w K mg base "_law_pick" 3 ["_law_dice_here", "_law_items"] sp__law_pick :=
  cal3 d__law_pick (fun _ _ _ _ _ _ us hl => match us, hl with | [_, _], _ => rfl) sc__law_pick len__law_pick fun f cdv A outer s H E B dw hr wk => ⟨t__law_pick dw,
    (lss_one (ls_ret (le_item (le_pv (pv 1)) (le_callC c__law_roll hr (by decide) wk.ok (by rfl) (la_cons (le_pv (pv 0)) (la_cons (le_len (by rfl) T.n_len (lp_cons (le_pv (pv 1)) lp_nil)) la_nil)))))),
    fun ds G q h => p__law_pick N__law_pick rfl ds G q dw h⟩
theorem ok_require_prime (T : Txt P K mg) (d_require_prime : DefAt K mg "require_prime" s_require_prime) (c_is_prime : Cal3 P w K mg base "is_prime" 3 ["value"] sp_is_prime) : Cal3 P w K mg base "require_prime" 4 ["value"] sp_require_prime :=
  cal3 d_require_prime (fun _ _ _ _ _ _ us hl => match us, hl with | [_], _ => rfl) sc_require_prime len_require_prime fun f cdv A outer s H E B dw hr wk => ⟨t_require_prime dw,
    (lss_one (ls_if (lt_not (lt_val (le_callC c_is_prime hr (by decide) wk.ok (by rfl) (la_cons (le_pv (pv 0)) la_nil)))) (lss_one ls_never) lss_nil)),
    fun ds G q h => p_require_prime N_require_prime rfl ds G q dw h⟩
theorem ok_are_row_entries (T : Txt P K mg) (d_are_row_entries : DefAt K mg "are_row_entries" s_are_row_entries) (c_is_residue_of : Cal3 P w K mg base "is_residue_of" 3 ["prime", "value"] sp_is_residue_of) : Cal3 P w K mg base "are_row_entries" 4 ["prime", "value"] sp_are_row_entries :=
  cal3 d_are_row_entries (fun _ _ _ _ _ _ us hl => match us, hl with | [_, _], _ => rfl) sc_are_row_entries len_are_row_entries fun f cdv A outer s H E B dw hr wk => ⟨t_are_row_entries dw,
    (lss_cons (ls_if (LW.lt (lw_or (lt_not (lt_val (le_isiA ["RowEntries", "Row"] ["RowEntries", "Row"] [(("RowEntries", "RowEntries"), true), (("RowEntries", "Row"), false), (("Row", "RowEntries"), false), (("Row", "Row"), true)] (all_cons T.it_RowEntries (all_cons T.it_Row all_nil)) (all_cons T.io_RowEntries (all_cons T.io_Row all_nil)) (isi_cons T.isi_RowEntries_RowEntries (isi_cons T.isi_RowEntries_Row (isi_cons T.isi_Row_RowEntries (isi_cons T.isi_Row_Row isi_nil)))) (by rfl) T.n_isinstance (lp_cons (le_pv (pv 1)) (lp_cons (le_ty (by rfl) T.n_tuple (by decide +kernel)) lp_nil))))) (lw_or1 (lt_gt (le_len (by rfl) T.n_len (lp_cons (le_pv (pv 1)) lp_nil)) (le_gint (by rfl) T.g_MAX_ENTRIES))))) (lss_one (ls_ret le_bl)) lss_nil)
      (lss_cons (ls_if (lt_not (lt_val (le_all rfl (by rfl) T.n_all (lp_cons (le_lc (own := [("entry", 2)]) rfl sc_are_row_entries.nd (li_seq (le_pv (pv 1))) (blkOk_by (N := N_are_row_entries) (sc := defScope s_are_row_entries) (by decide +kernel)) (fun _ _ _ _ _ => (lg_name (i := 2) sc_are_row_entries.nd rfl (by first | exact Or.inl rfl | exact Or.inr rfl) (by decide))) (fun _ _ _ _ _ => lts_nil) (fun _ _ _ _ _ => (le_callC c_is_residue_of hr (by decide) wok0 (by rfl) (la_cons (le_pv (pv 0)) (la_cons (le_pv (pv 2)) la_nil))))) lp_nil)))) (lss_one (ls_ret le_bl)) lss_nil)
      (lss_one (ls_ret (le_or (le_eq hr (le_pv (pv 1)) (le_tup la_nil)) (le_one (le_ne hr (le_item (le_pv (pv 1)) (le_neg le_int)) le_int))))))),
    fun ds G q h => p_are_row_entries ds G q dw h⟩
theorem ok_row_entries_in (T : Txt P K mg) (d_row_entries_in : DefAt K mg "row_entries_in" s_row_entries_in) (c_row_term_in : Cal3 P w K mg base "row_term_in" 3 ["text"] sp_row_term_in) (c_row_trimmed : Cal3 P w K mg base "row_trimmed" 2 ["entries"] sp_row_trimmed) : Cal3 P w K mg base "row_entries_in" 4 ["prime", "text"] sp_row_entries_in :=
  cal3 d_row_entries_in (fun _ _ _ _ _ _ us hl => match us, hl with | [_, _], _ => rfl) sc_row_entries_in len_row_entries_in fun f cdv A outer s H E B dw hr wk => ⟨t_row_entries_in dw,
    (lss_cons (ls_setLc (i := 2) (own := [("part", 6)]) rfl sc_row_entries_in.nd rfl rfl (sw_true rfl rfl rfl (by decide +kernel)) (li_seq (le_split (le_pv (pv 1)) le_str)) (blkOk_by (N := N_row_entries_in) (sc := defScope s_row_entries_in) (by decide +kernel)) (fun _ _ _ _ _ => (lg_name (i := 6) sc_row_entries_in.nd rfl (by first | exact Or.inl rfl | exact Or.inr rfl) (by decide))) (fun _ _ _ _ _ => lts_nil) (fun _ _ _ _ _ => (le_callC c_row_term_in hr (by decide) wok0 (by rfl) (la_cons (le_pv (pv 6)) la_nil))))
      (lss_cons (ls_if (lt_in hr le_non (le_pv (pv 2))) (lss_one (ls_ret le_non)) lss_nil)
      (lss_cons (ls_setLc (i := 3) (own := [("place", 7)]) rfl sc_row_entries_in.nd rfl rfl (sw_true rfl rfl rfl (by decide +kernel)) (li_range1 (by rfl) T.n_range (la_cons (le_add le_int (le_maxL rfl (by rfl) T.n_max (lp_cons (le_lc (own := [("entry", 4), ("power", 5)]) rfl sc_row_entries_in.nd (li_seq (le_pv (pv 2))) (blkOk_by (N := N_row_entries_in) (sc := defScope s_row_entries_in) (by decide +kernel)) (fun _ _ _ _ _ => (lg_tup rfl (lgs_cons (lg_name (i := 4) sc_row_entries_in.nd rfl (by first | exact Or.inl rfl | exact Or.inr rfl) (by decide)) (lgs_cons (lg_name (i := 5) sc_row_entries_in.nd rfl (by first | exact Or.inl rfl | exact Or.inr rfl) (by decide)) lgs_nil)))) (fun _ _ _ _ _ => lts_nil) (fun _ _ _ _ _ => (le_pv (pv 5)))) lp_nil))) la_nil)) (blkOk_by (N := N_row_entries_in) (sc := defScope s_row_entries_in) (by decide +kernel)) (fun _ _ _ _ _ => (lg_name (i := 7) sc_row_entries_in.nd rfl (by first | exact Or.inl rfl | exact Or.inr rfl) (by decide))) (fun _ _ _ _ _ => lts_nil) (fun _ _ _ _ _ => le_int))
      (lss_cons (ls_for (vs := [4, 5]) (passes_of rfl) rfl (li_seq (le_pv (pv 2))) (lg_tup rfl (lgs_cons (lg_name (i := 4) sc_row_entries_in.nd rfl (by first | exact Or.inl rfl | exact Or.inr rfl) (by decide)) (lgs_cons (lg_name (i := 5) sc_row_entries_in.nd rfl (by first | exact Or.inl rfl | exact Or.inr rfl) (by decide)) lgs_nil))) (lss_one (ls_store (le_mod (le_pv (pv 4)) (le_pv (pv 0))) (le_pv (pv 3)) (le_pv (pv 5)))))
      (lss_one (ls_ret (le_callC c_row_trimmed hr (by decide) wk.ok (by rfl) (la_cons (le_pv (pv 3)) la_nil)))))))),
    fun ds G q h => p_row_entries_in ds G q dw h⟩
theorem ok_require_row_count (T : Txt P K mg) (d_require_row_count : DefAt K mg "require_row_count" s_require_row_count) (c_is_integer : Cal3 P w K mg base "is_integer" 3 ["value"] sp_is_integer) : Cal3 P w K mg base "require_row_count" 4 ["value", "least"] sp_require_row_count :=
  cal3 d_require_row_count (fun _ _ _ _ _ _ us hl => match us, hl with | [_, _], _ => rfl) sc_require_row_count len_require_row_count fun f cdv A outer s H E B dw hr wk => ⟨t_require_row_count dw,
    (lss_one (ls_if (LW.lt (lw_or (lt_not (lt_val (le_callC c_is_integer hr (by decide) wk.ok (by rfl) (la_cons (le_pv (pv 0)) la_nil)))) (lw_or1 (lt_not (lt_ch on_le on_le (le_pv (pv 1)) (le_pv (pv 0)) (le_gint (by rfl) T.g_MAX_SIZE)))))) (lss_one ls_never) lss_nil)),
    fun ds G q h => p_require_row_count ds G q dw h⟩
theorem ok_Row_entry (T : Txt P K mg) (d_Row_entry : MethAt K "Row" "entry" "Row.entry" s_Row_entry) (q_Row_entry : SClsN K "Row") (c_is_integer : Cal3 P w K mg base "is_integer" 3 ["value"] sp_is_integer) : Meth3 P w K mg base "Row" "entry" 4 sp_Row_entry :=
  meth3 q_Row_entry d_Row_entry (fun _ _ _ _ _ _ us hl => match us, hl with | [_, _], _ => rfl) sc_Row_entry len_Row_entry fun f cdv A outer s H E B dw hr wk => ⟨t_Row_entry dw,
    (lss_cons (ls_if (LW.lt (lw_or (lt_not (lt_val (le_callC c_is_integer hr (by decide) wk.ok (by rfl) (la_cons (le_pv (pv 1)) la_nil)))) (lw_or1 (lt_lt (le_pv (pv 1)) le_int)))) (lss_one ls_never) lss_nil)
      (lss_one (ls_ret (le_ifExp (lt_lt (le_pv (pv 1)) (le_len (by rfl) T.n_len (lp_cons (le_attr [("Row", 0)] (tbl_cons T.sl_Row_own_entries tbl_nil) (le_pv (pv 0))) lp_nil))) (le_item (le_attr [("Row", 0)] (tbl_cons T.sl_Row_own_entries tbl_nil) (le_pv (pv 0))) (le_pv (pv 1))) le_int)))),
    fun ds G q h => p_Row_entry ds G q dw h⟩
theorem ok__law_any_row (T : Txt P K mg) (d__law_any_row : DefAt K mg "_law_any_row" s__law_any_row) (c__law_roll : Cal3 P w K mg base "_law_roll" 2 ["_law_dice_here", "_law_total"] sp__law_roll) (c__law_pick : Cal3 P w K mg base "_law_pick" 3 ["_law_dice_here", "_law_items"] sp__law_pick) : Cal3 P w K mg base "_law_any_row" 4 ["_law_dice_here", "_law_prime"] sp__law_any_row :=
  cal3 d__law_any_row (fun _ _ _ _ _ _ us hl => match us, hl with | [_, _], _ => rfl) sc__law_any_row len__law_any_row fun f cdv A outer s H E B dw hr wk => ⟨t__law_any_row dw,
    (lss_cons (ls_if (lt_eq hr (le_callC c__law_roll hr (by decide) wk.ok (by rfl) (la_cons (le_pv (pv 0)) (la_cons le_int la_nil))) le_int) (lss_one (ls_ret (le_tup la_nil))) lss_nil)
      (lss_cons (ls_set (i := 2) sc__law_any_row.nd rfl (by first | exact Or.inl rfl | exact Or.inr rfl) (le_add (le_mul (le_lst (la_cons le_int la_nil)) (le_callC c__law_pick hr (by decide) wk.ok (by rfl) (la_cons (le_pv (pv 0)) (la_cons (le_lst (la_cons le_int (la_cons le_int (la_cons le_int (la_cons le_int (la_cons le_int la_nil)))))) la_nil)))) (le_lc (own := [("_law_turn", 3)]) rfl sc__law_any_row.nd (li_range1 (by rfl) T.n_range (la_cons (le_callC c__law_roll hr (by decide) wk.ok (by rfl) (la_cons (le_pv (pv 0)) (la_cons le_int la_nil))) la_nil)) (blkOk_by (N := N__law_any_row) (sc := defScope s__law_any_row) (by decide +kernel)) (fun _ _ _ _ _ => (lg_name (i := 3) sc__law_any_row.nd rfl (by first | exact Or.inl rfl | exact Or.inr rfl) (by decide))) (fun _ _ _ _ _ => lts_nil) (fun _ _ _ _ _ => (le_callC c__law_roll hr (by decide) wok0 (by rfl) (la_cons (le_pv (pv 0)) (la_cons (le_pv (pv 1)) la_nil)))))))
      (lss_one (ls_ret (le_add (le_tuple (by rfl) T.n_tuple (lp_cons (le_pv (pv 2)) lp_nil)) (le_tup (la_cons (le_ifExp (lt_gt (le_pv (pv 1)) le_int) (le_add le_int (le_callC c__law_roll hr (by decide) wk.ok (by rfl) (la_cons (le_pv (pv 0)) (la_cons (le_sub (le_pv (pv 1)) le_int) la_nil)))) le_int) la_nil))))))),
    fun ds G q h => p__law_any_row ds G q dw h⟩
theorem ok_Row_init (T : Txt P K mg) (d_Row_init : MethAt K "Row" "__init__" "Row.__init__" s_Row_init) (m_Row : MakeAt K mg "Row") (c_require_prime : Cal3 P w K mg base "require_prime" 4 ["value"] sp_require_prime) (c_are_row_entries : Cal3 P w K mg base "are_row_entries" 4 ["prime", "value"] sp_are_row_entries) (c_row_order : Cal3 P w K mg base "row_order" 2 ["entries"] sp_row_order) (c_row_text : Cal3 P w K mg base "row_text" 3 ["entries"] sp_row_text) : New3 P w K mg base "Row" 5 sp_Row_init :=
  new3 m_Row d_Row_init (fun _ _ _ _ _ _ us hl => match us, hl with | [_, _, _], _ => rfl) sc_Row_init (by decide) len_Row_init fun f cdv A outer s H E B dw hr wk => ⟨t_Row_init dw,
    (lss_cons (ls_if (lt_val (le_isiA ["RowEntries", "Row"] ["RowEntries", "Row"] [(("RowEntries", "RowEntries"), true), (("RowEntries", "Row"), false), (("Row", "RowEntries"), false), (("Row", "Row"), true)] (all_cons T.it_RowEntries (all_cons T.it_Row all_nil)) (all_cons T.io_RowEntries (all_cons T.io_Row all_nil)) (isi_cons T.isi_RowEntries_RowEntries (isi_cons T.isi_RowEntries_Row (isi_cons T.isi_Row_RowEntries (isi_cons T.isi_Row_Row isi_nil)))) (by rfl) T.n_isinstance (lp_cons (le_pv (pv 2)) (lp_cons (le_cls (by rfl) T.k_RowEntries) lp_nil)))) (lss_one (ls_set (i := 3) sc_Row_init.nd rfl (by first | exact Or.inl rfl | exact Or.inr rfl) (le_attr [("RowEntries", 0)] (tbl_cons T.sl_RowEntries_own_tuple tbl_nil) (le_pv (pv 2))))) (lss_cons (ls_expr (le_callC c_require_prime hr (by decide) wk.ok (by rfl) (la_cons (le_pv (pv 1)) la_nil)))
      (lss_cons (ls_if (lt_not (lt_val (le_callC c_are_row_entries hr (by decide) wk.ok (by rfl) (la_cons (le_pv (pv 1)) (la_cons (le_pv (pv 2)) la_nil))))) (lss_one ls_never) lss_nil)
      (lss_one (ls_set (i := 3) sc_Row_init.nd rfl (by first | exact Or.inl rfl | exact Or.inr rfl) (le_pv (pv 2)))))))
      (lss_cons (ls_attr [("Row", 2)] (tbl_cons T.sl_Row_own_prime tbl_nil) (pv 0) (le_pv (pv 1)))
      (lss_cons (ls_attr [("Row", 0)] (tbl_cons T.sl_Row_own_entries tbl_nil) (pv 0) (le_pv (pv 3)))
      (lss_cons (ls_attr [("Row", 1)] (tbl_cons T.sl_Row_own_order tbl_nil) (pv 0) (le_callC c_row_order hr (by decide) wk.ok (by rfl) (la_cons (le_pv (pv 3)) la_nil)))
      (lss_one (ls_attr [("Row", 3)] (tbl_cons T.sl_Row_own_text tbl_nil) (pv 0) (le_callC c_row_text hr (by decide) wk.ok (by rfl) (la_cons (le_pv (pv 3)) la_nil)))))))),
    fun ds G q h => p_Row_init ds G q dw h⟩
theorem ok_row_made (T : Txt P K mg) (d_row_made : DefAt K mg "row_made" s_row_made) (c_row_trimmed : Cal3 P w K mg base "row_trimmed" 2 ["entries"] sp_row_trimmed) (c_RowEntries_init : New3 P w K mg base "RowEntries" 2 sp_RowEntries_init) (c_Row_init : New3 P w K mg base "Row" 5 sp_Row_init) : Cal3 P w K mg base "row_made" 7 ["prime", "entries"] sp_row_made :=
  cal3 d_row_made (fun _ _ _ _ _ _ us hl => match us, hl with | [_, _], _ => rfl) sc_row_made len_row_made fun f cdv A outer s H E B dw hr wk => ⟨t_row_made dw,
    (lss_one (ls_ret (le_make c_Row_init hr (by decide) (by rfl) (la_cons (le_pv (pv 0)) (la_cons (le_make c_RowEntries_init hr (by decide) (by rfl) (la_cons (le_callC c_row_trimmed hr (by decide) wk.ok (by rfl) (la_cons (le_pv (pv 1)) la_nil)) la_nil)) la_nil))))),
    fun ds G q h => p_row_made ds G q dw h⟩
theorem ok_Row_read (T : Txt P K mg) (d_Row_read : ClmAt K "Row" "read" "Row.read" s_Row_read) (c_require_prime : Cal3 P w K mg base "require_prime" 4 ["value"] sp_require_prime) (c_row_entries_in : Cal3 P w K mg base "row_entries_in" 4 ["prime", "text"] sp_row_entries_in) (c_row_text : Cal3 P w K mg base "row_text" 3 ["entries"] sp_row_text) (c_Row_init : New3 P w K mg base "Row" 5 sp_Row_init) : CMeth3 P w K mg base "Row" "read" 7 sp_Row_read :=
  cmeth3 d_Row_read (fun _ _ _ _ _ _ us hl => match us, hl with | [_, _, _], _ => rfl) sc_Row_read len_Row_read fun f cdv A outer s H E B dw hr wk => ⟨t_Row_read dw,
    (lss_cons (ls_expr (le_callC c_require_prime hr (by decide) wk.ok (by rfl) (la_cons (le_pv (pv 1)) la_nil)))
      (lss_cons (ls_set (i := 3) sc_Row_read.nd rfl (by first | exact Or.inl rfl | exact Or.inr rfl) (le_ifExp (LW.lt (lw_and (lt_val (le_isiA ["RowEntries", "Row"] ["RowEntries", "Row"] [(("RowEntries", "RowEntries"), true), (("RowEntries", "Row"), false), (("Row", "RowEntries"), false), (("Row", "Row"), true)] (all_cons T.it_RowEntries (all_cons T.it_Row all_nil)) (all_cons T.io_RowEntries (all_cons T.io_Row all_nil)) (isi_cons T.isi_RowEntries_RowEntries (isi_cons T.isi_RowEntries_Row (isi_cons T.isi_Row_RowEntries (isi_cons T.isi_Row_Row isi_nil)))) (by rfl) T.n_isinstance (lp_cons (le_pv (pv 2)) (lp_cons (le_ty (by rfl) T.n_str (by decide +kernel)) lp_nil)))) (lw_and1 (lt_le (le_len (by rfl) T.n_len (lp_cons (le_pv (pv 2)) lp_nil)) (le_gint (by rfl) T.g_MOST_SIGNS))))) (le_callC c_row_entries_in hr (by decide) wk.ok (by rfl) (la_cons (le_pv (pv 1)) (la_cons (le_pv (pv 2)) la_nil))) le_non))
      (lss_cons (ls_if (LW.lt (lw_or (lt_isN (le_pv (pv 3)) le_non) (lw_or (lt_gt (le_len (by rfl) T.n_len (lp_cons (le_pv (pv 3)) lp_nil)) (le_gint (by rfl) T.g_MAX_ENTRIES)) (lw_or1 (lt_ne hr (le_callC c_row_text hr (by decide) wk.ok (by rfl) (la_cons (le_pv (pv 3)) la_nil)) (le_pv (pv 2))))))) (lss_one ls_never) lss_nil)
      (lss_one (ls_ret (le_makeV 0 c_Row_init hr (by decide) wk (la_cons (le_pv (pv 1)) (la_cons (le_pv (pv 3)) la_nil)))))))),
    fun ds G q h => p_Row_read ds G q dw h⟩
theorem ok_Row_shifted (T : Txt P K mg) (d_Row_shifted : MethAt K "Row" "shifted" "Row.shifted" s_Row_shifted) (q_Row_shifted : SClsN K "Row") (c_require_row_count : Cal3 P w K mg base "require_row_count" 4 ["value", "least"] sp_require_row_count) (c_row_made : Cal3 P w K mg base "row_made" 7 ["prime", "entries"] sp_row_made) : Meth3 P w K mg base "Row" "shifted" 8 sp_Row_shifted :=
  meth3 q_Row_shifted d_Row_shifted (fun _ _ _ _ _ _ us hl => match us, hl with | [_, _], _ => rfl) sc_Row_shifted len_Row_shifted fun f cdv A outer s H E B dw hr wk => ⟨t_Row_shifted dw,
    (lss_cons (ls_expr (le_callC c_require_row_count hr (by decide) wk.ok (by rfl) (la_cons (le_pv (pv 1)) (la_cons (le_neg (le_gint (by rfl) T.g_MAX_SIZE)) la_nil))))
      (lss_cons (ls_if (lt_ge (le_pv (pv 1)) le_int) (lss_one (ls_ret (le_callC c_row_made hr (by decide) wk.ok (by rfl) (la_cons (le_attr [("Row", 2)] (tbl_cons T.sl_Row_own_prime tbl_nil) (le_pv (pv 0))) (la_cons (le_lst (la_star (le_lc (own := [("place", 2)]) rfl sc_Row_shifted.nd (li_range1 (by rfl) T.n_range (la_cons (le_pv (pv 1)) la_nil)) (blkOk_by (N := N_Row_shifted) (sc := defScope s_Row_shifted) (by decide +kernel)) (fun _ _ _ _ _ => (lg_name (i := 2) sc_Row_shifted.nd rfl (by first | exact Or.inl rfl | exact Or.inr rfl) (by decide))) (fun _ _ _ _ _ => lts_nil) (fun _ _ _ _ _ => le_int)) (la_star (le_attr [("Row", 0)] (tbl_cons T.sl_Row_own_entries tbl_nil) (le_pv (pv 0))) la_nil))) la_nil))))) lss_nil)
      (lss_cons (ls_if (LW.lt (lw_and (lt_notN (le_attr [("Row", 1)] (tbl_cons T.sl_Row_own_order tbl_nil) (le_pv (pv 0))) le_non) (lw_and1 (lt_lt (le_attr [("Row", 1)] (tbl_cons T.sl_Row_own_order tbl_nil) (le_pv (pv 0))) (le_neg (le_pv (pv 1))))))) (lss_one ls_never) lss_nil)
      (lss_one (ls_ret (le_callC c_row_made hr (by decide) wk.ok (by rfl) (la_cons (le_attr [("Row", 2)] (tbl_cons T.sl_Row_own_prime tbl_nil) (le_pv (pv 0))) (la_cons (le_cut (le_attr [("Row", 0)] (tbl_cons T.sl_Row_own_entries tbl_nil) (le_pv (pv 0))) (lo_some (le_neg (le_pv (pv 1)))) lo_none) la_nil)))))))),
    fun ds G q h => p_Row_shifted ds G q dw h⟩
theorem ok_Row_cut (T : Txt P K mg) (d_Row_cut : MethAt K "Row" "cut" "Row.cut" s_Row_cut) (q_Row_cut : SClsN K "Row") (c_require_row_count : Cal3 P w K mg base "require_row_count" 4 ["value", "least"] sp_require_row_count) (c_row_made : Cal3 P w K mg base "row_made" 7 ["prime", "entries"] sp_row_made) : Meth3 P w K mg base "Row" "cut" 8 sp_Row_cut :=
  meth3 q_Row_cut d_Row_cut (fun _ _ _ _ _ _ us hl => match us, hl with | [_, _], _ => rfl) sc_Row_cut len_Row_cut fun f cdv A outer s H E B dw hr wk => ⟨t_Row_cut dw,
    (lss_cons (ls_expr (le_callC c_require_row_count hr (by decide) wk.ok (by rfl) (la_cons (le_pv (pv 1)) (la_cons le_int la_nil))))
      (lss_one (ls_ret (le_callC c_row_made hr (by decide) wk.ok (by rfl) (la_cons (le_attr [("Row", 2)] (tbl_cons T.sl_Row_own_prime tbl_nil) (le_pv (pv 0))) (la_cons (le_cut (le_attr [("Row", 0)] (tbl_cons T.sl_Row_own_entries tbl_nil) (le_pv (pv 0))) lo_none (lo_some (le_pv (pv 1)))) la_nil)))))),
    fun ds G q h => p_Row_cut ds G q dw h⟩
theorem ok__law_is_told (T : Txt P K mg) (d__law_is_told : DefAt K mg "_law_is_told" s__law_is_told) (c_Row_init : New3 P w K mg base "Row" 5 sp_Row_init) (c_Row_order : Prop3 P w K mg base "Row" "order" 2 sp_Row_order) (c_Row_degree : Prop3 P w K mg base "Row" "degree" 2 sp_Row_degree) (c_Row_entries : Prop3 P w K mg base "Row" "entries" 2 sp_Row_entries) (c_Row_prime : Prop3 P w K mg base "Row" "prime" 2 sp_Row_prime) (c__law_order : Cal3 P w K mg base "_law_order" 2 ["_law_row"] sp__law_order) (c_Row_str : Meth3 P w K mg base "Row" "__str__" 2 sp_Row_str) (c__law_row_text : Cal3 P w K mg base "_law_row_text" 2 ["_law_row"] sp__law_row_text) (c_Row_eq : Meth3 P w K mg base "Row" "__eq__" 2 sp_Row_eq) (c_Row_read : CMeth3 P w K mg base "Row" "read" 7 sp_Row_read) (c_Row_entry : Meth3 P w K mg base "Row" "entry" 4 sp_Row_entry) (c_Row_cut : Meth3 P w K mg base "Row" "cut" 8 sp_Row_cut) (c__law_trim : Cal3 P w K mg base "_law_trim" 2 ["_law_row"] sp__law_trim) (c_Row_shifted : Meth3 P w K mg base "Row" "shifted" 8 sp_Row_shifted) : Cal3 P w K mg base "_law_is_told" 10 ["_law_prime", "_law_entries"] sp__law_is_told :=
  cal3 d__law_is_told (fun _ _ _ _ _ _ us hl => match us, hl with | [_, _], _ => rfl) sc__law_is_told len__law_is_told fun f cdv A outer s H E B dw hr wk => ⟨t__law_is_told dw,
    (lss_cons (ls_set (i := 2) sc__law_is_told.nd rfl (by first | exact Or.inl rfl | exact Or.inr rfl) (le_make c_Row_init hr (by decide) (by rfl) (la_cons (le_pv (pv 0)) (la_cons (le_pv (pv 1)) la_nil))))
      (lss_cons (ls_if (lt_ne hr (le_lst (la_cons (le_prop c_Row_prime hr (by decide) (le_pv (pv 2))) (la_cons (le_prop c_Row_entries hr (by decide) (le_pv (pv 2))) (la_cons (le_prop c_Row_degree hr (by decide) (le_pv (pv 2))) (la_cons (le_prop c_Row_order hr (by decide) (le_pv (pv 2))) la_nil))))) (le_lst (la_cons (le_pv (pv 0)) (la_cons (le_pv (pv 1)) (la_cons (le_sub (le_len (by rfl) T.n_len (lp_cons (le_pv (pv 1)) lp_nil)) le_int) (la_cons (le_callC c__law_order hr (by decide) wk.ok (by rfl) (la_cons (le_pv (pv 1)) la_nil)) la_nil)))))) (lss_one (ls_ret le_bl)) lss_nil)
      (lss_cons (ls_if (LW.lt (lw_or (lt_ne hr (le_strO c_Row_str hr (by decide) (by rfl) T.n_str (lp_cons (le_pv (pv 2)) lp_nil)) (le_callC c__law_row_text hr (by decide) wk.ok (by rfl) (la_cons (le_pv (pv 1)) la_nil))) (lw_or1 (lt_neO c_Row_eq T.ne_Row hr (by decide) (le_cmeth c_Row_read hr (by decide) wk (le_cls (by rfl) T.k_Row) (la_cons (le_pv (pv 0)) (la_cons (le_callC c__law_row_text hr (by decide) wk.ok (by rfl) (la_cons (le_pv (pv 1)) la_nil)) la_nil))) (le_pv (pv 2)))))) (lss_one (ls_ret le_bl)) lss_nil)
      (lss_cons (ls_set (i := 3) sc__law_is_told.nd rfl (by first | exact Or.inl rfl | exact Or.inr rfl) (le_add (le_list (by rfl) T.n_list (lp_cons (le_pv (pv 1)) lp_nil)) (le_mul (le_lst (la_cons le_int la_nil)) (le_sub le_int (le_len (by rfl) T.n_len (lp_cons (le_pv (pv 1)) lp_nil))))))
      (lss_cons (ls_if (LW.lt (lw_or (lt_ne hr (le_lc (own := [("_law_power", 7)]) rfl sc__law_is_told.nd (li_range1 (by rfl) T.n_range (la_cons le_int la_nil)) (blkOk_by (N := N__law_is_told) (sc := defScope s__law_is_told) (by decide +kernel)) (fun _ _ _ _ _ => (lg_name (i := 7) sc__law_is_told.nd rfl (by first | exact Or.inl rfl | exact Or.inr rfl) (by decide))) (fun _ _ _ _ _ => lts_nil) (fun _ _ _ _ _ => (le_meth c_Row_entry hr (by decide) (le_pv (pv 2)) (la_cons (le_pv (pv 7)) la_nil)))) (le_pv (pv 3))) (lw_or1 (lt_ne hr (le_meth c_Row_entry hr (by decide) (le_pv (pv 2)) (la_cons (le_pow le_int le_int) la_nil)) le_int)))) (lss_one (ls_ret le_bl)) lss_nil)
      (lss_cons (ls_for (vs := [4]) (passes_of rfl) rfl (li_range1 (by rfl) T.n_range (la_cons le_int la_nil)) (lg_name (i := 4) sc__law_is_told.nd rfl (by first | exact Or.inl rfl | exact Or.inr rfl) (by decide)) (lss_one (ls_if (lt_ne hr (le_prop c_Row_entries hr (by decide) (le_meth c_Row_cut hr (by decide) (le_pv (pv 2)) (la_cons (le_pv (pv 4)) la_nil))) (le_callC c__law_trim hr (by decide) wk.ok (by rfl) (la_cons (le_cut (le_pv (pv 1)) lo_none (lo_some (le_pv (pv 4)))) la_nil))) (lss_one (ls_ret le_bl)) lss_nil)))
      (lss_cons (ls_for (vs := [5]) (passes_of rfl) rfl (li_range1 (by rfl) T.n_range (la_cons le_int la_nil)) (lg_name (i := 5) sc__law_is_told.nd rfl (by first | exact Or.inl rfl | exact Or.inr rfl) (by decide)) (lss_cons (ls_set (i := 6) sc__law_is_told.nd rfl (by first | exact Or.inl rfl | exact Or.inr rfl) (le_meth c_Row_shifted hr (by decide) (le_pv (pv 2)) (la_cons (le_pv (pv 5)) la_nil)))
      (lss_one (ls_if (LW.lt (lw_or (lt_ne hr (le_prop c_Row_entries hr (by decide) (le_pv (pv 6))) (le_ifExp (lt_ne hr (le_pv (pv 1)) (le_tup la_nil)) (le_add (le_mul (le_tup (la_cons le_int la_nil)) (le_pv (pv 5))) (le_pv (pv 1))) (le_tup la_nil))) (lw_or1 (lt_neO c_Row_eq T.ne_Row hr (by decide) (le_meth c_Row_shifted hr (by decide) (le_pv (pv 6)) (la_cons (le_neg (le_pv (pv 5))) la_nil)) (le_pv (pv 2)))))) (lss_one (ls_ret le_bl)) lss_nil))))
      (lss_one (ls_ret le_bl))))))))),
    fun ds G q h => p__law_is_told ds G q dw h⟩
theorem ok__law_right (T : Txt P K mg) (d__law_right : DefAt K mg "_law_right" s__law_right) (c__law_pick : Cal3 P w K mg base "_law_pick" 3 ["_law_dice_here", "_law_items"] sp__law_pick) (c__law_any_row : Cal3 P w K mg base "_law_any_row" 4 ["_law_dice_here", "_law_prime"] sp__law_any_row) (c__law_is_told : Cal3 P w K mg base "_law_is_told" 10 ["_law_prime", "_law_entries"] sp__law_is_told) (c_Row_init : New3 P w K mg base "Row" 5 sp_Row_init) (c_Row_eq : Meth3 P w K mg base "Row" "__eq__" 2 sp_Row_eq) (c_Row_str : Meth3 P w K mg base "Row" "__str__" 2 sp_Row_str) : Cal3 P w K mg base "_law_right" 11 ["_law_dice_here"] sp__law_right :=
  cal3 d__law_right (fun _ _ _ _ _ _ us hl => match us, hl with | [_], _ => rfl) sc__law_right len__law_right fun f cdv A outer s H E B dw hr wk => ⟨t__law_right dw,
    (lss_cons (ls_set (i := 1) sc__law_right.nd rfl (by first | exact Or.inl rfl | exact Or.inr rfl) (le_callC c__law_pick hr (by decide) wk.ok (by rfl) (la_cons (le_pv (pv 0)) (la_cons (le_lst (la_cons le_int (la_cons le_int (la_cons le_int (la_cons le_int (la_cons le_int (la_cons le_int (la_cons le_int la_nil)))))))) la_nil))))
      (lss_cons (ls_par (i := 2) (j := 3) rfl sc__law_right.nd rfl rfl (by decide) rfl rfl (le_callC c__law_any_row hr (by decide) wk.ok (by rfl) (la_cons (le_pv (pv 0)) (la_cons (le_pv (pv 1)) la_nil))) (le_callC c__law_any_row hr (by decide) wk.ok (by rfl) (la_cons (le_pv (pv 0)) (la_cons (le_pv (pv 1)) la_nil))) rfl)
      (lss_cons (ls_if (LW.lt (lw_or (lt_not (lt_val (le_callC c__law_is_told hr (by decide) wk.ok (by rfl) (la_cons (le_pv (pv 1)) (la_cons (le_pv (pv 2)) la_nil))))) (lw_or1 (lt_not (lt_val (le_callC c__law_is_told hr (by decide) wk.ok (by rfl) (la_cons (le_pv (pv 1)) (la_cons (le_pv (pv 3)) la_nil)))))))) (lss_one (ls_ret le_bl)) lss_nil)
      (lss_cons (ls_par (i := 4) (j := 5) rfl sc__law_right.nd rfl rfl (by decide) rfl rfl (le_make c_Row_init hr (by decide) (by rfl) (la_cons (le_pv (pv 1)) (la_cons (le_pv (pv 2)) la_nil))) (le_make c_Row_init hr (by decide) (by rfl) (la_cons (le_pv (pv 1)) (la_cons (le_pv (pv 3)) la_nil))) rfl)
      (lss_cons (ls_if (LW.lt (lw_or (lt_ne hr (le_eqO c_Row_eq hr (by decide) (le_pv (pv 4)) (le_pv (pv 5))) (le_eq hr (le_pv (pv 2)) (le_pv (pv 3)))) (lw_or1 (lt_ne hr (le_eq hr (le_strO c_Row_str hr (by decide) (by rfl) T.n_str (lp_cons (le_pv (pv 4)) lp_nil)) (le_strO c_Row_str hr (by decide) (by rfl) T.n_str (lp_cons (le_pv (pv 5)) lp_nil))) (le_eq hr (le_pv (pv 2)) (le_pv (pv 3))))))) (lss_one (ls_ret le_bl)) lss_nil)
      (lss_one (ls_ret (le_not (le_or (le_eqOA c_Row_eq T.nf_Row hr (by decide) (le_pv (pv 4)) (le_pv (pv 2))) (le_or (le_eqOA c_Row_eq T.nf_Row hr (by decide) (le_pv (pv 4)) (le_strO c_Row_str hr (by decide) (by rfl) T.n_str (lp_cons (le_pv (pv 4)) lp_nil))) (le_or (le_eqOA c_Row_eq T.nf_Row hr (by decide) (le_pv (pv 4)) (le_lst la_nil)) (le_one (le_eqO c_Row_eq hr (by decide) (le_pv (pv 4)) (le_make c_Row_init hr (by decide) (by rfl) (la_cons (le_ifExp (lt_ne hr (le_pv (pv 1)) le_int) le_int le_int) (la_cons (le_tup (la_cons le_int (la_cons le_int (la_cons le_int la_nil)))) la_nil)))))))))))))))),
    fun ds G q h => p__law_right ds G q dw h⟩
theorem ok_law (T : Txt P K mg) (d_law : DefAt K mg "law" s_law) (c__law_dice : Cal3 P w K mg base "_law_dice" 2 ["_law_script", "_law_spot"] sp__law_dice) (c__law_right : Cal3 P w K mg base "_law_right" 11 ["_law_dice_here"] sp__law_right) (c_Row_read : CMeth3 P w K mg base "Row" "read" 7 sp_Row_read) (c_Row_str : Meth3 P w K mg base "Row" "__str__" 2 sp_Row_str) (c_Row_init : New3 P w K mg base "Row" 5 sp_Row_init) (c_Row_order : Prop3 P w K mg base "Row" "order" 2 sp_Row_order) (c_Row_degree : Prop3 P w K mg base "Row" "degree" 2 sp_Row_degree) (c_Row_entries : Prop3 P w K mg base "Row" "entries" 2 sp_Row_entries) : Cal3 P w K mg base "law" 12 ["_law_script"] sp_law :=
  cal3 d_law (fun _ _ _ _ _ _ us hl => match us, hl with | [_], _ => rfl) sc_law len_law fun f cdv A outer s H E B dw hr wk => ⟨t_law dw,
    (lss_cons (ls_for (vs := [1]) (passes_of rfl) rfl (li_range1 (by rfl) T.n_range (la_cons (le_max2 rfl (by rfl) T.n_max (lp_cons le_int (lp_cons (le_min2 rfl (by rfl) T.n_min (lp_cons le_int (lp_cons (le_len (by rfl) T.n_len (lp_cons (le_pv (pv 0)) lp_nil)) lp_nil))) lp_nil))) la_nil)) (lg_name (i := 1) sc_law.nd rfl (by first | exact Or.inl rfl | exact Or.inr rfl) (by decide)) (lss_cons (ls_setReg (i := 2) sc_law.nd rfl (by first | exact Or.inl rfl | exact Or.inr rfl) (le_callC c__law_dice hr (by decide) wk.ok (by rfl) (la_cons (le_pv (pv 0)) (la_cons (le_pv (pv 1)) la_nil))))
      (lss_one (ls_if (LW.lt (lw_or (lt_not (lt_val (le_callC c__law_right hr (by decide) wk.ok (by rfl) (la_cons (le_pv (pv 2)) la_nil)))) (lw_or1 (lt_not (lt_val (le_callC c__law_right hr (by decide) wk.ok (by rfl) (la_cons (le_pv (pv 2)) la_nil))))))) (lss_one (ls_ret le_bl)) lss_nil))))
      (lss_cons (ls_set (i := 3) sc_law.nd rfl (by first | exact Or.inl rfl | exact Or.inr rfl) (le_cmeth c_Row_read hr (by decide) wk (le_cls (by rfl) T.k_Row) (la_cons le_int (la_cons le_str la_nil))))
      (lss_cons (ls_set (i := 4) sc_law.nd rfl (by first | exact Or.inl rfl | exact Or.inr rfl) (le_lst (la_cons (le_prop c_Row_entries hr (by decide) (le_pv (pv 3))) (la_cons (le_prop c_Row_order hr (by decide) (le_pv (pv 3))) (la_cons (le_prop c_Row_degree hr (by decide) (le_pv (pv 3))) (la_cons (le_prop c_Row_order hr (by decide) (le_make c_Row_init hr (by decide) (by rfl) (la_cons le_int (la_cons (le_tup la_nil) la_nil)))) (la_cons (le_strO c_Row_str hr (by decide) (by rfl) T.n_str (lp_cons (le_make c_Row_init hr (by decide) (by rfl) (la_cons le_int (la_cons (le_tup (la_cons le_int (la_cons le_int (la_cons le_int (la_cons le_int la_nil))))) la_nil))) lp_nil)) (la_cons (le_strO c_Row_str hr (by decide) (by rfl) T.n_str (lp_cons (le_make c_Row_init hr (by decide) (by rfl) (la_cons le_int (la_cons (le_tup la_nil) la_nil))) lp_nil)) la_nil))))))))
      (lss_one (ls_ret (le_eq hr (le_pv (pv 4)) (le_lst (la_cons (le_tup (la_cons le_int (la_cons le_int (la_cons le_int la_nil)))) (la_cons le_int (la_cons le_int (la_cons le_non (la_cons le_str (la_cons le_str la_nil))))))))))))),
    fun ds G q h => p_law ds G q dw h⟩
theorem all_law (T : Txt P K mg) (d_is_whole : DefAt K mg "is_whole" s_is_whole) (d_RowEntries_init : MethAt K "RowEntries" "__init__" "RowEntries.__init__" s_RowEntries_init) (m_RowEntries : MakeAt K mg "RowEntries") (d_row_trimmed : DefAt K mg "row_trimmed" s_row_trimmed) (d_row_order : DefAt K mg "row_order" s_row_order) (d_row_term : DefAt K mg "row_term" s_row_term) (d_row_figures : DefAt K mg "row_figures" s_row_figures) (d_Row_prime : PropAt K "Row" "prime" "Row.prime" s_Row_prime) (d_Row_entries : PropAt K "Row" "entries" "Row.entries" s_Row_entries) (d_Row_degree : PropAt K "Row" "degree" "Row.degree" s_Row_degree) (d_Row_order : PropAt K "Row" "order" "Row.order" s_Row_order) (d_Row_eq : MethAt K "Row" "__eq__" "Row.__eq__" s_Row_eq) (q_Row_eq : SClsN K "Row") (d_Row_str : MethAt K "Row" "__str__" "Row.__str__" s_Row_str) (q_Row_str : SClsN K "Row") (d__law_dice : DefAt K mg "_law_dice" s__law_dice) (d__law_roll : DefAt K mg "_law_roll" s__law_roll) (d__law_trim : DefAt K mg "_law_trim" s__law_trim) (d__law_order : DefAt K mg "_law_order" s__law_order) (d__law_row_text : DefAt K mg "_law_row_text" s__law_row_text) (d_is_integer : DefAt K mg "is_integer" s_is_integer) (d_is_prime : DefAt K mg "is_prime" s_is_prime) (d_is_residue_of : DefAt K mg "is_residue_of" s_is_residue_of) (d_row_text : DefAt K mg "row_text" s_row_text) (d_row_term_in : DefAt K mg "row_term_in" s_row_term_in) (d__law_pick : DefAt K mg "_law_pick" s__law_pick) (d_require_prime : DefAt K mg "require_prime" s_require_prime) (d_are_row_entries : DefAt K mg "are_row_entries" s_are_row_entries) (d_row_entries_in : DefAt K mg "row_entries_in" s_row_entries_in) (d_require_row_count : DefAt K mg "require_row_count" s_require_row_count) (d_Row_entry : MethAt K "Row" "entry" "Row.entry" s_Row_entry) (q_Row_entry : SClsN K "Row") (d__law_any_row : DefAt K mg "_law_any_row" s__law_any_row) (d_Row_init : MethAt K "Row" "__init__" "Row.__init__" s_Row_init) (m_Row : MakeAt K mg "Row") (d_row_made : DefAt K mg "row_made" s_row_made) (d_Row_read : ClmAt K "Row" "read" "Row.read" s_Row_read) (d_Row_shifted : MethAt K "Row" "shifted" "Row.shifted" s_Row_shifted) (q_Row_shifted : SClsN K "Row") (d_Row_cut : MethAt K "Row" "cut" "Row.cut" s_Row_cut) (q_Row_cut : SClsN K "Row") (d__law_is_told : DefAt K mg "_law_is_told" s__law_is_told) (d__law_right : DefAt K mg "_law_right" s__law_right) (d_law : DefAt K mg "law" s_law) : Cal3 P w K mg base "law" 12 ["_law_script"] sp_law := by
  have c_is_whole : Cal3 P w K mg base "is_whole" 2 ["value"] sp_is_whole := ok_is_whole T d_is_whole 
  have c_RowEntries_init : New3 P w K mg base "RowEntries" 2 sp_RowEntries_init := ok_RowEntries_init T d_RowEntries_init m_RowEntries 
  have c_row_trimmed : Cal3 P w K mg base "row_trimmed" 2 ["entries"] sp_row_trimmed := ok_row_trimmed T d_row_trimmed 
  have c_row_order : Cal3 P w K mg base "row_order" 2 ["entries"] sp_row_order := ok_row_order T d_row_order 
  have c_row_term : Cal3 P w K mg base "row_term" 2 ["entry", "power"] sp_row_term := ok_row_term T d_row_term 
  have c_row_figures : Cal3 P w K mg base "row_figures" 2 ["text"] sp_row_figures := ok_row_figures T d_row_figures 
  have c_Row_prime : Prop3 P w K mg base "Row" "prime" 2 sp_Row_prime := ok_Row_prime T d_Row_prime 
  have c_Row_entries : Prop3 P w K mg base "Row" "entries" 2 sp_Row_entries := ok_Row_entries T d_Row_entries 
  have c_Row_degree : Prop3 P w K mg base "Row" "degree" 2 sp_Row_degree := ok_Row_degree T d_Row_degree 
  have c_Row_order : Prop3 P w K mg base "Row" "order" 2 sp_Row_order := ok_Row_order T d_Row_order 
  have c_Row_eq : Meth3 P w K mg base "Row" "__eq__" 2 sp_Row_eq := ok_Row_eq T d_Row_eq q_Row_eq 
  have c_Row_str : Meth3 P w K mg base "Row" "__str__" 2 sp_Row_str := ok_Row_str T d_Row_str q_Row_str 
  have c__law_dice : Cal3 P w K mg base "_law_dice" 2 ["_law_script", "_law_spot"] sp__law_dice := ok__law_dice T d__law_dice 
  have c__law_roll : Cal3 P w K mg base "_law_roll" 2 ["_law_dice_here", "_law_total"] sp__law_roll := ok__law_roll T d__law_roll 
  have c__law_trim : Cal3 P w K mg base "_law_trim" 2 ["_law_row"] sp__law_trim := ok__law_trim T d__law_trim 
  have c__law_order : Cal3 P w K mg base "_law_order" 2 ["_law_row"] sp__law_order := ok__law_order T d__law_order 
  have c__law_row_text : Cal3 P w K mg base "_law_row_text" 2 ["_law_row"] sp__law_row_text := ok__law_row_text T d__law_row_text 
  have c_is_integer : Cal3 P w K mg base "is_integer" 3 ["value"] sp_is_integer := ok_is_integer T d_is_integer c_is_whole
  have c_is_prime : Cal3 P w K mg base "is_prime" 3 ["value"] sp_is_prime := ok_is_prime T d_is_prime c_is_whole
  have c_is_residue_of : Cal3 P w K mg base "is_residue_of" 3 ["prime", "value"] sp_is_residue_of := ok_is_residue_of T d_is_residue_of c_is_whole
  have c_row_text : Cal3 P w K mg base "row_text" 3 ["entries"] sp_row_text := ok_row_text T d_row_text c_row_term
  have c_row_term_in : Cal3 P w K mg base "row_term_in" 3 ["text"] sp_row_term_in := ok_row_term_in T d_row_term_in c_row_figures
  have c__law_pick : Cal3 P w K mg base "_law_pick" 3 ["_law_dice_here", "_law_items"] sp__law_pick := ok__law_pick T d__law_pick c__law_roll
  have c_require_prime : Cal3 P w K mg base "require_prime" 4 ["value"] sp_require_prime := ok_require_prime T d_require_prime c_is_prime
  have c_are_row_entries : Cal3 P w K mg base "are_row_entries" 4 ["prime", "value"] sp_are_row_entries := ok_are_row_entries T d_are_row_entries c_is_residue_of
  have c_row_entries_in : Cal3 P w K mg base "row_entries_in" 4 ["prime", "text"] sp_row_entries_in := ok_row_entries_in T d_row_entries_in c_row_term_in c_row_trimmed
  have c_require_row_count : Cal3 P w K mg base "require_row_count" 4 ["value", "least"] sp_require_row_count := ok_require_row_count T d_require_row_count c_is_integer
  have c_Row_entry : Meth3 P w K mg base "Row" "entry" 4 sp_Row_entry := ok_Row_entry T d_Row_entry q_Row_entry c_is_integer
  have c__law_any_row : Cal3 P w K mg base "_law_any_row" 4 ["_law_dice_here", "_law_prime"] sp__law_any_row := ok__law_any_row T d__law_any_row c__law_roll c__law_pick
  have c_Row_init : New3 P w K mg base "Row" 5 sp_Row_init := ok_Row_init T d_Row_init m_Row c_require_prime c_are_row_entries c_row_order c_row_text
  have c_row_made : Cal3 P w K mg base "row_made" 7 ["prime", "entries"] sp_row_made := ok_row_made T d_row_made c_row_trimmed c_RowEntries_init c_Row_init
  have c_Row_read : CMeth3 P w K mg base "Row" "read" 7 sp_Row_read := ok_Row_read T d_Row_read c_require_prime c_row_entries_in c_row_text c_Row_init
  have c_Row_shifted : Meth3 P w K mg base "Row" "shifted" 8 sp_Row_shifted := ok_Row_shifted T d_Row_shifted q_Row_shifted c_require_row_count c_row_made
  have c_Row_cut : Meth3 P w K mg base "Row" "cut" 8 sp_Row_cut := ok_Row_cut T d_Row_cut q_Row_cut c_require_row_count c_row_made
  have c__law_is_told : Cal3 P w K mg base "_law_is_told" 10 ["_law_prime", "_law_entries"] sp__law_is_told := ok__law_is_told T d__law_is_told c_Row_init c_Row_order c_Row_degree c_Row_entries c_Row_prime c__law_order c_Row_str c__law_row_text c_Row_eq c_Row_read c_Row_entry c_Row_cut c__law_trim c_Row_shifted
  have c__law_right : Cal3 P w K mg base "_law_right" 11 ["_law_dice_here"] sp__law_right := ok__law_right T d__law_right c__law_pick c__law_any_row c__law_is_told c_Row_init c_Row_eq c_Row_str
  have c_law : Cal3 P w K mg base "law" 12 ["_law_script"] sp_law := ok_law T d_law c__law_dice c__law_right c_Row_read c_Row_str c_Row_init c_Row_order c_Row_degree c_Row_entries
  exact c_law
end
end K03

set_option Elab.async false
namespace K03
open PySem PySem.Spec PyProof.Rows L2 L3 LamX LD LN K04
theorem all_mk {P : Program} {w : World} {K : PySem.W.Frag} {h : Heap} {mg : Str → Option Value} {fa : Addr} (X : K.In h) (G : h.Ns mainGlobals mg) (hfa : mg "law" = some (.ref fa))
    (n_abs : PySem.W.nsIn K mainGlobals "abs" = some none)
    (n_all : PySem.W.nsIn K mainGlobals "all" = some none)
    (n_bool : PySem.W.nsIn K mainGlobals "bool" = some none)
    (n_enumerate : PySem.W.nsIn K mainGlobals "enumerate" = some none)
    (n_int : PySem.W.nsIn K mainGlobals "int" = some none)
    (n_isinstance : PySem.W.nsIn K mainGlobals "isinstance" = some none)
    (n_len : PySem.W.nsIn K mainGlobals "len" = some none)
    (n_list : PySem.W.nsIn K mainGlobals "list" = some none)
    (n_max : PySem.W.nsIn K mainGlobals "max" = some none)
    (n_min : PySem.W.nsIn K mainGlobals "min" = some none)
    (n_range : PySem.W.nsIn K mainGlobals "range" = some none)
    (n_str : PySem.W.nsIn K mainGlobals "str" = some none)
    (n_tuple : PySem.W.nsIn K mainGlobals "tuple" = some none)
    {tk_FIGURES : Tok} (g_FIGURES : PySem.W.nsIn K mainGlobals "FIGURES" = some (some (.str "0123456789" tk_FIGURES)))
    {tk_GREAT : Tok} (g_GREAT : PySem.W.nsIn K mainGlobals "GREAT" = some (some (.int (1000000000000000000000000000000000000000000000000000000000000) tk_GREAT)))
    {tk_LETTER : Tok} (g_LETTER : PySem.W.nsIn K mainGlobals "LETTER" = some (some (.str "t" tk_LETTER)))
    {tk_MAX_ENTRIES : Tok} (g_MAX_ENTRIES : PySem.W.nsIn K mainGlobals "MAX_ENTRIES" = some (some (.int (1000) tk_MAX_ENTRIES)))
    {tk_MAX_SIZE : Tok} (g_MAX_SIZE : PySem.W.nsIn K mainGlobals "MAX_SIZE" = some (some (.int (400) tk_MAX_SIZE)))
    {tk_MOST_FIGURES : Tok} (g_MOST_FIGURES : PySem.W.nsIn K mainGlobals "MOST_FIGURES" = some (some (.int (3) tk_MOST_FIGURES)))
    {tk_MOST_SIGNS : Tok} (g_MOST_SIGNS : PySem.W.nsIn K mainGlobals "MOST_SIGNS" = some (some (.int (9000) tk_MOST_SIGNS)))
    {ad_PRIMES : Addr} {dd_PRIMES : Option Addr} {n_PRIMES_ : Nat} {sl_PRIMES : Array (Option Value)} {tk_PRIMES_0 tk_PRIMES_1 tk_PRIMES_2 tk_PRIMES_3 tk_PRIMES_4 tk_PRIMES_5 tk_PRIMES_6 tk_PRIMES_7 tk_PRIMES_8 tk_PRIMES_9 tk_PRIMES_10 : Tok} (g_PRIMES : PySem.W.nsIn K mainGlobals "PRIMES" = some (some (.ref ad_PRIMES))) (l_PRIMES : K.lookup ad_PRIMES = some ⟨.type "tuple", dd_PRIMES, .seq #[.int (2) tk_PRIMES_0, .int (3) tk_PRIMES_1, .int (5) tk_PRIMES_2, .int (7) tk_PRIMES_3, .int (11) tk_PRIMES_4, .int (13) tk_PRIMES_5, .int (17) tk_PRIMES_6, .int (19) tk_PRIMES_7, .int (23) tk_PRIMES_8, .int (29) tk_PRIMES_9, .int (31) tk_PRIMES_10] n_PRIMES_, sl_PRIMES⟩)
    {C_Row : Addr} (a_Row : PySem.W.nsIn K mainGlobals "Row" = some (some (.ref C_Row)))
    {C_RowEntries : Addr} (a_RowEntries : PySem.W.nsIn K mainGlobals "RowEntries" = some (some (.ref C_RowEntries)))
    (pg_Row : PySem.W.plainGet K C_Row Str.empty = true) (ic_Row : PySem.W.isClsIn K C_Row = true) (po_Row : PySem.W.plainOver K C_Row = true) (sa_Row : PySem.W.findIn K (.ref C_Row) "__setattr__" = some (some (.builtin "object.__setattr__")))
    (pg_RowEntries : PySem.W.plainGet K C_RowEntries Str.empty = true) (ic_RowEntries : PySem.W.isClsIn K C_RowEntries = true) (po_RowEntries : PySem.W.plainOver K C_RowEntries = true) (sa_RowEntries : PySem.W.findIn K (.ref C_RowEntries) "__setattr__" = some (some (.builtin "object.__setattr__")))
    {p_Row_own_entries : Addr} (sat_Row_own_entries : PySem.W.findIn K (.ref C_Row) "own_entries" = some (some (.ref p_Row_own_entries))) (sge_Row_own_entries : PySem.W.specialIn K (.ref p_Row_own_entries) "__get__" = some (some (.builtin "member_descriptor.__get__"))) (stk_Row_own_entries : PySem.W.takesIn K (.ref p_Row_own_entries) = some true) (sty_Row_own_entries : PySem.W.typeIn K (.ref p_Row_own_entries) = some (.type "member_descriptor")) (six_Row_own_entries : PySem.W.slotIn K p_Row_own_entries C_Row = some 0)
    {p_Row_own_order : Addr} (sat_Row_own_order : PySem.W.findIn K (.ref C_Row) "own_order" = some (some (.ref p_Row_own_order))) (sge_Row_own_order : PySem.W.specialIn K (.ref p_Row_own_order) "__get__" = some (some (.builtin "member_descriptor.__get__"))) (stk_Row_own_order : PySem.W.takesIn K (.ref p_Row_own_order) = some true) (sty_Row_own_order : PySem.W.typeIn K (.ref p_Row_own_order) = some (.type "member_descriptor")) (six_Row_own_order : PySem.W.slotIn K p_Row_own_order C_Row = some 1)
    {p_Row_own_prime : Addr} (sat_Row_own_prime : PySem.W.findIn K (.ref C_Row) "own_prime" = some (some (.ref p_Row_own_prime))) (sge_Row_own_prime : PySem.W.specialIn K (.ref p_Row_own_prime) "__get__" = some (some (.builtin "member_descriptor.__get__"))) (stk_Row_own_prime : PySem.W.takesIn K (.ref p_Row_own_prime) = some true) (sty_Row_own_prime : PySem.W.typeIn K (.ref p_Row_own_prime) = some (.type "member_descriptor")) (six_Row_own_prime : PySem.W.slotIn K p_Row_own_prime C_Row = some 2)
    {p_Row_own_text : Addr} (sat_Row_own_text : PySem.W.findIn K (.ref C_Row) "own_text" = some (some (.ref p_Row_own_text))) (sge_Row_own_text : PySem.W.specialIn K (.ref p_Row_own_text) "__get__" = some (some (.builtin "member_descriptor.__get__"))) (stk_Row_own_text : PySem.W.takesIn K (.ref p_Row_own_text) = some true) (sty_Row_own_text : PySem.W.typeIn K (.ref p_Row_own_text) = some (.type "member_descriptor")) (six_Row_own_text : PySem.W.slotIn K p_Row_own_text C_Row = some 3)
    {p_RowEntries_own_tuple : Addr} (sat_RowEntries_own_tuple : PySem.W.findIn K (.ref C_RowEntries) "own_tuple" = some (some (.ref p_RowEntries_own_tuple))) (sge_RowEntries_own_tuple : PySem.W.specialIn K (.ref p_RowEntries_own_tuple) "__get__" = some (some (.builtin "member_descriptor.__get__"))) (stk_RowEntries_own_tuple : PySem.W.takesIn K (.ref p_RowEntries_own_tuple) = some true) (sty_RowEntries_own_tuple : PySem.W.typeIn K (.ref p_RowEntries_own_tuple) = some (.type "member_descriptor")) (six_RowEntries_own_tuple : PySem.W.slotIn K p_RowEntries_own_tuple C_RowEntries = some 0)
    (icn : PySem.W.specialIn K (.builtin "object.__class__") "__get__" = some (some (.builtin "getset_descriptor.__get__"))) (ict : PySem.W.takesIn K (.builtin "object.__class__") = some true)
    (ica_Row : PySem.W.findIn K (.ref C_Row) "__class__" = some (some (.builtin "object.__class__"))) (icm_Row : PySem.W.mroIn K C_Row (.type "object") = some true)
    (ica_RowEntries : PySem.W.findIn K (.ref C_RowEntries) "__class__" = some (some (.builtin "object.__class__"))) (icm_RowEntries : PySem.W.mroIn K C_RowEntries (.type "object") = some true)
    (ik_Row_Row : PySem.W.kitOne K (.ref C_Row) (.ref C_Row) = some true)
    (ik_Row_RowEntries : PySem.W.kitOne K (.ref C_Row) (.ref C_RowEntries) = some false)
    (ik_RowEntries_Row : PySem.W.kitOne K (.ref C_RowEntries) (.ref C_Row) = some false)
    (ik_RowEntries_RowEntries : PySem.W.kitOne K (.ref C_RowEntries) (.ref C_RowEntries) = some true)
    (ikt_Row : ∀ t ∈ knownT, PySem.W.kitOne K (.ref C_Row) (.type t) = some false)
    (ikt_RowEntries : ∀ t ∈ knownT, PySem.W.kitOne K (.ref C_RowEntries) (.type t) = some false)
    (iko_Row : ∀ t ∈ tysA, PySem.W.kitOne K (.type t) (.ref C_Row) = some false)
    (iko_RowEntries : ∀ t ∈ tysA, PySem.W.kitOne K (.type t) (.ref C_RowEntries) = some false)
    (nef_Row : PySem.W.findIn K (.ref C_Row) "__ne__" = some (some (.builtin "object.__ne__"))) (nem_Row : PySem.W.mroIn K C_Row (.type "object") = some true)
    (nf1_Row : PySem.W.notFirst K C_Row (.type "tuple") = true) (nf2_Row : PySem.W.notFirst K C_Row (.type "list") = true) (nf3_Row : PySem.W.notFirst K C_Row (.type "str") = true)
    {f_is_whole : Addr} {oc_is_whole : Value} {od_is_whole an_is_whole : Option Addr} {sl_is_whole : Array (Option Value)} {kV_is_whole dc_is_whole pm_is_whole ct_is_whole : Value} {cd_is_whole : Value} (a_is_whole : PySem.W.nsIn K mainGlobals "is_whole" = some (some (.ref f_is_whole))) (l_is_whole : K.lookup f_is_whole = some ⟨oc_is_whole, od_is_whole, .func (PySem.W.fnOf "is_whole" "is_whole" (defArgs s_is_whole) (defBody s_is_whole) (defScope s_is_whole) .none kV_is_whole dc_is_whole pm_is_whole an_is_whole cd_is_whole ct_is_whole), sl_is_whole⟩) (c_is_whole : PySem.W.codeIn K cd_is_whole "is_whole" = true) (k_is_whole : PySem.W.keepIn K (.ref f_is_whole) = true)
    {f_RowEntries_init : Addr} {oc_RowEntries_init : Value} {od_RowEntries_init an_RowEntries_init : Option Addr} {sl_RowEntries_init : Array (Option Value)} {kV_RowEntries_init dc_RowEntries_init pm_RowEntries_init ct_RowEntries_init : Value} {cd_RowEntries_init : Value} (fi_RowEntries_init : PySem.W.findIn K (.ref C_RowEntries) "__init__" = some (some (.ref f_RowEntries_init))) (fn_RowEntries_init : PySem.W.isFn K (.ref f_RowEntries_init) = true) (l_RowEntries_init : K.lookup f_RowEntries_init = some ⟨oc_RowEntries_init, od_RowEntries_init, .func (PySem.W.fnOf "__init__" "RowEntries.__init__" (defArgs s_RowEntries_init) (defBody s_RowEntries_init) (defScope s_RowEntries_init) .none kV_RowEntries_init dc_RowEntries_init pm_RowEntries_init an_RowEntries_init cd_RowEntries_init ct_RowEntries_init), sl_RowEntries_init⟩) (c_RowEntries_init : PySem.W.codeIn K cd_RowEntries_init "RowEntries.__init__" = true) (k_RowEntries_init : PySem.W.keepIn K (.ref f_RowEntries_init) = true)
    (mk_RowEntries : PySem.W.makesIn K C_RowEntries = true) (kc_RowEntries : PySem.W.keepIn K (.ref C_RowEntries) = true)
    {f_row_trimmed : Addr} {oc_row_trimmed : Value} {od_row_trimmed an_row_trimmed : Option Addr} {sl_row_trimmed : Array (Option Value)} {kV_row_trimmed dc_row_trimmed pm_row_trimmed ct_row_trimmed : Value} {cd_row_trimmed : Value} (a_row_trimmed : PySem.W.nsIn K mainGlobals "row_trimmed" = some (some (.ref f_row_trimmed))) (l_row_trimmed : K.lookup f_row_trimmed = some ⟨oc_row_trimmed, od_row_trimmed, .func (PySem.W.fnOf "row_trimmed" "row_trimmed" (defArgs s_row_trimmed) (defBody s_row_trimmed) (defScope s_row_trimmed) .none kV_row_trimmed dc_row_trimmed pm_row_trimmed an_row_trimmed cd_row_trimmed ct_row_trimmed), sl_row_trimmed⟩) (c_row_trimmed : PySem.W.codeIn K cd_row_trimmed "row_trimmed" = true) (k_row_trimmed : PySem.W.keepIn K (.ref f_row_trimmed) = true)
    {f_row_order : Addr} {oc_row_order : Value} {od_row_order an_row_order : Option Addr} {sl_row_order : Array (Option Value)} {kV_row_order dc_row_order pm_row_order ct_row_order : Value} {cd_row_order : Value} (a_row_order : PySem.W.nsIn K mainGlobals "row_order" = some (some (.ref f_row_order))) (l_row_order : K.lookup f_row_order = some ⟨oc_row_order, od_row_order, .func (PySem.W.fnOf "row_order" "row_order" (defArgs s_row_order) (defBody s_row_order) (defScope s_row_order) .none kV_row_order dc_row_order pm_row_order an_row_order cd_row_order ct_row_order), sl_row_order⟩) (c_row_order : PySem.W.codeIn K cd_row_order "row_order" = true) (k_row_order : PySem.W.keepIn K (.ref f_row_order) = true)
    {f_row_term : Addr} {oc_row_term : Value} {od_row_term an_row_term : Option Addr} {sl_row_term : Array (Option Value)} {kV_row_term dc_row_term pm_row_term ct_row_term : Value} {cd_row_term : Value} (a_row_term : PySem.W.nsIn K mainGlobals "row_term" = some (some (.ref f_row_term))) (l_row_term : K.lookup f_row_term = some ⟨oc_row_term, od_row_term, .func (PySem.W.fnOf "row_term" "row_term" (defArgs s_row_term) (defBody s_row_term) (defScope s_row_term) .none kV_row_term dc_row_term pm_row_term an_row_term cd_row_term ct_row_term), sl_row_term⟩) (c_row_term : PySem.W.codeIn K cd_row_term "row_term" = true) (k_row_term : PySem.W.keepIn K (.ref f_row_term) = true)
    {f_row_figures : Addr} {oc_row_figures : Value} {od_row_figures an_row_figures : Option Addr} {sl_row_figures : Array (Option Value)} {kV_row_figures dc_row_figures pm_row_figures ct_row_figures : Value} {cd_row_figures : Value} (a_row_figures : PySem.W.nsIn K mainGlobals "row_figures" = some (some (.ref f_row_figures))) (l_row_figures : K.lookup f_row_figures = some ⟨oc_row_figures, od_row_figures, .func (PySem.W.fnOf "row_figures" "row_figures" (defArgs s_row_figures) (defBody s_row_figures) (defScope s_row_figures) .none kV_row_figures dc_row_figures pm_row_figures an_row_figures cd_row_figures ct_row_figures), sl_row_figures⟩) (c_row_figures : PySem.W.codeIn K cd_row_figures "row_figures" = true) (k_row_figures : PySem.W.keepIn K (.ref f_row_figures) = true)
    {f_Row_prime : Addr} {oc_Row_prime : Value} {od_Row_prime an_Row_prime : Option Addr} {sl_Row_prime : Array (Option Value)} {kV_Row_prime dc_Row_prime pm_Row_prime ct_Row_prime : Value} {cd_Row_prime : Value} {pp_Row_prime : Addr} {re_Row_prime : List Value} (pa_Row_prime : PySem.W.findIn K (.ref C_Row) "prime" = some (some (.ref pp_Row_prime))) (pe_Row_prime : PySem.W.specialIn K (.ref pp_Row_prime) "__get__" = some (some (.builtin "property.__get__"))) (pt_Row_prime : PySem.W.takesIn K (.ref pp_Row_prime) = some true) (pr_Row_prime : PySem.W.recIn K pp_Row_prime "property" = some (.ref f_Row_prime :: re_Row_prime)) (l_Row_prime : K.lookup f_Row_prime = some ⟨oc_Row_prime, od_Row_prime, .func (PySem.W.fnOf "prime" "Row.prime" (defArgs s_Row_prime) (defBody s_Row_prime) (defScope s_Row_prime) .none kV_Row_prime dc_Row_prime pm_Row_prime an_Row_prime cd_Row_prime ct_Row_prime), sl_Row_prime⟩) (c_Row_prime : PySem.W.codeIn K cd_Row_prime "Row.prime" = true) (k_Row_prime : PySem.W.keepIn K (.ref f_Row_prime) = true)
    {f_Row_entries : Addr} {oc_Row_entries : Value} {od_Row_entries an_Row_entries : Option Addr} {sl_Row_entries : Array (Option Value)} {kV_Row_entries dc_Row_entries pm_Row_entries ct_Row_entries : Value} {cd_Row_entries : Value} {pp_Row_entries : Addr} {re_Row_entries : List Value} (pa_Row_entries : PySem.W.findIn K (.ref C_Row) "entries" = some (some (.ref pp_Row_entries))) (pe_Row_entries : PySem.W.specialIn K (.ref pp_Row_entries) "__get__" = some (some (.builtin "property.__get__"))) (pt_Row_entries : PySem.W.takesIn K (.ref pp_Row_entries) = some true) (pr_Row_entries : PySem.W.recIn K pp_Row_entries "property" = some (.ref f_Row_entries :: re_Row_entries)) (l_Row_entries : K.lookup f_Row_entries = some ⟨oc_Row_entries, od_Row_entries, .func (PySem.W.fnOf "entries" "Row.entries" (defArgs s_Row_entries) (defBody s_Row_entries) (defScope s_Row_entries) .none kV_Row_entries dc_Row_entries pm_Row_entries an_Row_entries cd_Row_entries ct_Row_entries), sl_Row_entries⟩) (c_Row_entries : PySem.W.codeIn K cd_Row_entries "Row.entries" = true) (k_Row_entries : PySem.W.keepIn K (.ref f_Row_entries) = true)
    {f_Row_degree : Addr} {oc_Row_degree : Value} {od_Row_degree an_Row_degree : Option Addr} {sl_Row_degree : Array (Option Value)} {kV_Row_degree dc_Row_degree pm_Row_degree ct_Row_degree : Value} {cd_Row_degree : Value} {pp_Row_degree : Addr} {re_Row_degree : List Value} (pa_Row_degree : PySem.W.findIn K (.ref C_Row) "degree" = some (some (.ref pp_Row_degree))) (pe_Row_degree : PySem.W.specialIn K (.ref pp_Row_degree) "__get__" = some (some (.builtin "property.__get__"))) (pt_Row_degree : PySem.W.takesIn K (.ref pp_Row_degree) = some true) (pr_Row_degree : PySem.W.recIn K pp_Row_degree "property" = some (.ref f_Row_degree :: re_Row_degree)) (l_Row_degree : K.lookup f_Row_degree = some ⟨oc_Row_degree, od_Row_degree, .func (PySem.W.fnOf "degree" "Row.degree" (defArgs s_Row_degree) (defBody s_Row_degree) (defScope s_Row_degree) .none kV_Row_degree dc_Row_degree pm_Row_degree an_Row_degree cd_Row_degree ct_Row_degree), sl_Row_degree⟩) (c_Row_degree : PySem.W.codeIn K cd_Row_degree "Row.degree" = true) (k_Row_degree : PySem.W.keepIn K (.ref f_Row_degree) = true)
    {f_Row_order : Addr} {oc_Row_order : Value} {od_Row_order an_Row_order : Option Addr} {sl_Row_order : Array (Option Value)} {kV_Row_order dc_Row_order pm_Row_order ct_Row_order : Value} {cd_Row_order : Value} {pp_Row_order : Addr} {re_Row_order : List Value} (pa_Row_order : PySem.W.findIn K (.ref C_Row) "order" = some (some (.ref pp_Row_order))) (pe_Row_order : PySem.W.specialIn K (.ref pp_Row_order) "__get__" = some (some (.builtin "property.__get__"))) (pt_Row_order : PySem.W.takesIn K (.ref pp_Row_order) = some true) (pr_Row_order : PySem.W.recIn K pp_Row_order "property" = some (.ref f_Row_order :: re_Row_order)) (l_Row_order : K.lookup f_Row_order = some ⟨oc_Row_order, od_Row_order, .func (PySem.W.fnOf "order" "Row.order" (defArgs s_Row_order) (defBody s_Row_order) (defScope s_Row_order) .none kV_Row_order dc_Row_order pm_Row_order an_Row_order cd_Row_order ct_Row_order), sl_Row_order⟩) (c_Row_order : PySem.W.codeIn K cd_Row_order "Row.order" = true) (k_Row_order : PySem.W.keepIn K (.ref f_Row_order) = true)
    {f_Row_eq : Addr} {oc_Row_eq : Value} {od_Row_eq an_Row_eq : Option Addr} {sl_Row_eq : Array (Option Value)} {kV_Row_eq dc_Row_eq pm_Row_eq ct_Row_eq : Value} {cd_Row_eq : Value} (fi_Row_eq : PySem.W.findIn K (.ref C_Row) "__eq__" = some (some (.ref f_Row_eq))) (fn_Row_eq : PySem.W.isFn K (.ref f_Row_eq) = true) (l_Row_eq : K.lookup f_Row_eq = some ⟨oc_Row_eq, od_Row_eq, .func (PySem.W.fnOf "__eq__" "Row.__eq__" (defArgs s_Row_eq) (defBody s_Row_eq) (defScope s_Row_eq) .none kV_Row_eq dc_Row_eq pm_Row_eq an_Row_eq cd_Row_eq ct_Row_eq), sl_Row_eq⟩) (c_Row_eq : PySem.W.codeIn K cd_Row_eq "Row.__eq__" = true) (k_Row_eq : PySem.W.keepIn K (.ref f_Row_eq) = true)
    {f_Row_str : Addr} {oc_Row_str : Value} {od_Row_str an_Row_str : Option Addr} {sl_Row_str : Array (Option Value)} {kV_Row_str dc_Row_str pm_Row_str ct_Row_str : Value} {cd_Row_str : Value} (fi_Row_str : PySem.W.findIn K (.ref C_Row) "__str__" = some (some (.ref f_Row_str))) (fn_Row_str : PySem.W.isFn K (.ref f_Row_str) = true) (l_Row_str : K.lookup f_Row_str = some ⟨oc_Row_str, od_Row_str, .func (PySem.W.fnOf "__str__" "Row.__str__" (defArgs s_Row_str) (defBody s_Row_str) (defScope s_Row_str) .none kV_Row_str dc_Row_str pm_Row_str an_Row_str cd_Row_str ct_Row_str), sl_Row_str⟩) (c_Row_str : PySem.W.codeIn K cd_Row_str "Row.__str__" = true) (k_Row_str : PySem.W.keepIn K (.ref f_Row_str) = true)
    {f__law_dice : Addr} {oc__law_dice : Value} {od__law_dice an__law_dice : Option Addr} {sl__law_dice : Array (Option Value)} {kV__law_dice dc__law_dice pm__law_dice ct__law_dice : Value} {cd__law_dice : Value} (a__law_dice : PySem.W.nsIn K mainGlobals "_law_dice" = some (some (.ref f__law_dice))) (l__law_dice : K.lookup f__law_dice = some ⟨oc__law_dice, od__law_dice, .func (PySem.W.fnOf "_law_dice" "_law_dice" (defArgs s__law_dice) (defBody s__law_dice) (defScope s__law_dice) .none kV__law_dice dc__law_dice pm__law_dice an__law_dice cd__law_dice ct__law_dice), sl__law_dice⟩) (c__law_dice : PySem.W.codeIn K cd__law_dice "_law_dice" = true) (k__law_dice : PySem.W.keepIn K (.ref f__law_dice) = true)
    {f__law_roll : Addr} {oc__law_roll : Value} {od__law_roll an__law_roll : Option Addr} {sl__law_roll : Array (Option Value)} {kV__law_roll dc__law_roll pm__law_roll ct__law_roll : Value} {cd__law_roll : Value} (a__law_roll : PySem.W.nsIn K mainGlobals "_law_roll" = some (some (.ref f__law_roll))) (l__law_roll : K.lookup f__law_roll = some ⟨oc__law_roll, od__law_roll, .func (PySem.W.fnOf "_law_roll" "_law_roll" (defArgs s__law_roll) (defBody s__law_roll) (defScope s__law_roll) .none kV__law_roll dc__law_roll pm__law_roll an__law_roll cd__law_roll ct__law_roll), sl__law_roll⟩) (c__law_roll : PySem.W.codeIn K cd__law_roll "_law_roll" = true) (k__law_roll : PySem.W.keepIn K (.ref f__law_roll) = true)
    {f__law_trim : Addr} {oc__law_trim : Value} {od__law_trim an__law_trim : Option Addr} {sl__law_trim : Array (Option Value)} {kV__law_trim dc__law_trim pm__law_trim ct__law_trim : Value} {cd__law_trim : Value} (a__law_trim : PySem.W.nsIn K mainGlobals "_law_trim" = some (some (.ref f__law_trim))) (l__law_trim : K.lookup f__law_trim = some ⟨oc__law_trim, od__law_trim, .func (PySem.W.fnOf "_law_trim" "_law_trim" (defArgs s__law_trim) (defBody s__law_trim) (defScope s__law_trim) .none kV__law_trim dc__law_trim pm__law_trim an__law_trim cd__law_trim ct__law_trim), sl__law_trim⟩) (c__law_trim : PySem.W.codeIn K cd__law_trim "_law_trim" = true) (k__law_trim : PySem.W.keepIn K (.ref f__law_trim) = true)
    {f__law_order : Addr} {oc__law_order : Value} {od__law_order an__law_order : Option Addr} {sl__law_order : Array (Option Value)} {kV__law_order dc__law_order pm__law_order ct__law_order : Value} {cd__law_order : Value} (a__law_order : PySem.W.nsIn K mainGlobals "_law_order" = some (some (.ref f__law_order))) (l__law_order : K.lookup f__law_order = some ⟨oc__law_order, od__law_order, .func (PySem.W.fnOf "_law_order" "_law_order" (defArgs s__law_order) (defBody s__law_order) (defScope s__law_order) .none kV__law_order dc__law_order pm__law_order an__law_order cd__law_order ct__law_order), sl__law_order⟩) (c__law_order : PySem.W.codeIn K cd__law_order "_law_order" = true) (k__law_order : PySem.W.keepIn K (.ref f__law_order) = true)
    {f__law_row_text : Addr} {oc__law_row_text : Value} {od__law_row_text an__law_row_text : Option Addr} {sl__law_row_text : Array (Option Value)} {kV__law_row_text dc__law_row_text pm__law_row_text ct__law_row_text : Value} {cd__law_row_text : Value} (a__law_row_text : PySem.W.nsIn K mainGlobals "_law_row_text" = some (some (.ref f__law_row_text))) (l__law_row_text : K.lookup f__law_row_text = some ⟨oc__law_row_text, od__law_row_text, .func (PySem.W.fnOf "_law_row_text" "_law_row_text" (defArgs s__law_row_text) (defBody s__law_row_text) (defScope s__law_row_text) .none kV__law_row_text dc__law_row_text pm__law_row_text an__law_row_text cd__law_row_text ct__law_row_text), sl__law_row_text⟩) (c__law_row_text : PySem.W.codeIn K cd__law_row_text "_law_row_text" = true) (k__law_row_text : PySem.W.keepIn K (.ref f__law_row_text) = true)
    {f_is_integer : Addr} {oc_is_integer : Value} {od_is_integer an_is_integer : Option Addr} {sl_is_integer : Array (Option Value)} {kV_is_integer dc_is_integer pm_is_integer ct_is_integer : Value} {cd_is_integer : Value} (a_is_integer : PySem.W.nsIn K mainGlobals "is_integer" = some (some (.ref f_is_integer))) (l_is_integer : K.lookup f_is_integer = some ⟨oc_is_integer, od_is_integer, .func (PySem.W.fnOf "is_integer" "is_integer" (defArgs s_is_integer) (defBody s_is_integer) (defScope s_is_integer) .none kV_is_integer dc_is_integer pm_is_integer an_is_integer cd_is_integer ct_is_integer), sl_is_integer⟩) (c_is_integer : PySem.W.codeIn K cd_is_integer "is_integer" = true) (k_is_integer : PySem.W.keepIn K (.ref f_is_integer) = true)
    {f_is_prime : Addr} {oc_is_prime : Value} {od_is_prime an_is_prime : Option Addr} {sl_is_prime : Array (Option Value)} {kV_is_prime dc_is_prime pm_is_prime ct_is_prime : Value} {cd_is_prime : Value} (a_is_prime : PySem.W.nsIn K mainGlobals "is_prime" = some (some (.ref f_is_prime))) (l_is_prime : K.lookup f_is_prime = some ⟨oc_is_prime, od_is_prime, .func (PySem.W.fnOf "is_prime" "is_prime" (defArgs s_is_prime) (defBody s_is_prime) (defScope s_is_prime) .none kV_is_prime dc_is_prime pm_is_prime an_is_prime cd_is_prime ct_is_prime), sl_is_prime⟩) (c_is_prime : PySem.W.codeIn K cd_is_prime "is_prime" = true) (k_is_prime : PySem.W.keepIn K (.ref f_is_prime) = true)
    {f_is_residue_of : Addr} {oc_is_residue_of : Value} {od_is_residue_of an_is_residue_of : Option Addr} {sl_is_residue_of : Array (Option Value)} {kV_is_residue_of dc_is_residue_of pm_is_residue_of ct_is_residue_of : Value} {cd_is_residue_of : Value} (a_is_residue_of : PySem.W.nsIn K mainGlobals "is_residue_of" = some (some (.ref f_is_residue_of))) (l_is_residue_of : K.lookup f_is_residue_of = some ⟨oc_is_residue_of, od_is_residue_of, .func (PySem.W.fnOf "is_residue_of" "is_residue_of" (defArgs s_is_residue_of) (defBody s_is_residue_of) (defScope s_is_residue_of) .none kV_is_residue_of dc_is_residue_of pm_is_residue_of an_is_residue_of cd_is_residue_of ct_is_residue_of), sl_is_residue_of⟩) (c_is_residue_of : PySem.W.codeIn K cd_is_residue_of "is_residue_of" = true) (k_is_residue_of : PySem.W.keepIn K (.ref f_is_residue_of) = true)
    {f_row_text : Addr} {oc_row_text : Value} {od_row_text an_row_text : Option Addr} {sl_row_text : Array (Option Value)} {kV_row_text dc_row_text pm_row_text ct_row_text : Value} {cd_row_text : Value} (a_row_text : PySem.W.nsIn K mainGlobals "row_text" = some (some (.ref f_row_text))) (l_row_text : K.lookup f_row_text = some ⟨oc_row_text, od_row_text, .func (PySem.W.fnOf "row_text" "row_text" (defArgs s_row_text) (defBody s_row_text) (defScope s_row_text) .none kV_row_text dc_row_text pm_row_text an_row_text cd_row_text ct_row_text), sl_row_text⟩) (c_row_text : PySem.W.codeIn K cd_row_text "row_text" = true) (k_row_text : PySem.W.keepIn K (.ref f_row_text) = true)
    {f_row_term_in : Addr} {oc_row_term_in : Value} {od_row_term_in an_row_term_in : Option Addr} {sl_row_term_in : Array (Option Value)} {kV_row_term_in dc_row_term_in pm_row_term_in ct_row_term_in : Value} {cd_row_term_in : Value} (a_row_term_in : PySem.W.nsIn K mainGlobals "row_term_in" = some (some (.ref f_row_term_in))) (l_row_term_in : K.lookup f_row_term_in = some ⟨oc_row_term_in, od_row_term_in, .func (PySem.W.fnOf "row_term_in" "row_term_in" (defArgs s_row_term_in) (defBody s_row_term_in) (defScope s_row_term_in) .none kV_row_term_in dc_row_term_in pm_row_term_in an_row_term_in cd_row_term_in ct_row_term_in), sl_row_term_in⟩) (c_row_term_in : PySem.W.codeIn K cd_row_term_in "row_term_in" = true) (k_row_term_in : PySem.W.keepIn K (.ref f_row_term_in) = true)
    {f__law_pick : Addr} {oc__law_pick : Value} {od__law_pick an__law_pick : Option Addr} {sl__law_pick : Array (Option Value)} {kV__law_pick dc__law_pick pm__law_pick ct__law_pick : Value} {cd__law_pick : Value} (a__law_pick : PySem.W.nsIn K mainGlobals "_law_pick" = some (some (.ref f__law_pick))) (l__law_pick : K.lookup f__law_pick = some ⟨oc__law_pick, od__law_pick, .func (PySem.W.fnOf "_law_pick" "_law_pick" (defArgs s__law_pick) (defBody s__law_pick) (defScope s__law_pick) .none kV__law_pick dc__law_pick pm__law_pick an__law_pick cd__law_pick ct__law_pick), sl__law_pick⟩) (c__law_pick : PySem.W.codeIn K cd__law_pick "_law_pick" = true) (k__law_pick : PySem.W.keepIn K (.ref f__law_pick) = true)
    {f_require_prime : Addr} {oc_require_prime : Value} {od_require_prime an_require_prime : Option Addr} {sl_require_prime : Array (Option Value)} {kV_require_prime dc_require_prime pm_require_prime ct_require_prime : Value} {cd_require_prime : Value} (a_require_prime : PySem.W.nsIn K mainGlobals "require_prime" = some (some (.ref f_require_prime))) (l_require_prime : K.lookup f_require_prime = some ⟨oc_require_prime, od_require_prime, .func (PySem.W.fnOf "require_prime" "require_prime" (defArgs s_require_prime) (defBody s_require_prime) (defScope s_require_prime) .none kV_require_prime dc_require_prime pm_require_prime an_require_prime cd_require_prime ct_require_prime), sl_require_prime⟩) (c_require_prime : PySem.W.codeIn K cd_require_prime "require_prime" = true) (k_require_prime : PySem.W.keepIn K (.ref f_require_prime) = true)
    {f_are_row_entries : Addr} {oc_are_row_entries : Value} {od_are_row_entries an_are_row_entries : Option Addr} {sl_are_row_entries : Array (Option Value)} {kV_are_row_entries dc_are_row_entries pm_are_row_entries ct_are_row_entries : Value} {cd_are_row_entries : Value} (a_are_row_entries : PySem.W.nsIn K mainGlobals "are_row_entries" = some (some (.ref f_are_row_entries))) (l_are_row_entries : K.lookup f_are_row_entries = some ⟨oc_are_row_entries, od_are_row_entries, .func (PySem.W.fnOf "are_row_entries" "are_row_entries" (defArgs s_are_row_entries) (defBody s_are_row_entries) (defScope s_are_row_entries) .none kV_are_row_entries dc_are_row_entries pm_are_row_entries an_are_row_entries cd_are_row_entries ct_are_row_entries), sl_are_row_entries⟩) (c_are_row_entries : PySem.W.codeIn K cd_are_row_entries "are_row_entries" = true) (k_are_row_entries : PySem.W.keepIn K (.ref f_are_row_entries) = true)
    {f_row_entries_in : Addr} {oc_row_entries_in : Value} {od_row_entries_in an_row_entries_in : Option Addr} {sl_row_entries_in : Array (Option Value)} {kV_row_entries_in dc_row_entries_in pm_row_entries_in ct_row_entries_in : Value} {cd_row_entries_in : Value} (a_row_entries_in : PySem.W.nsIn K mainGlobals "row_entries_in" = some (some (.ref f_row_entries_in))) (l_row_entries_in : K.lookup f_row_entries_in = some ⟨oc_row_entries_in, od_row_entries_in, .func (PySem.W.fnOf "row_entries_in" "row_entries_in" (defArgs s_row_entries_in) (defBody s_row_entries_in) (defScope s_row_entries_in) .none kV_row_entries_in dc_row_entries_in pm_row_entries_in an_row_entries_in cd_row_entries_in ct_row_entries_in), sl_row_entries_in⟩) (c_row_entries_in : PySem.W.codeIn K cd_row_entries_in "row_entries_in" = true) (k_row_entries_in : PySem.W.keepIn K (.ref f_row_entries_in) = true)
    {f_require_row_count : Addr} {oc_require_row_count : Value} {od_require_row_count an_require_row_count : Option Addr} {sl_require_row_count : Array (Option Value)} {kV_require_row_count dc_require_row_count pm_require_row_count ct_require_row_count : Value} {cd_require_row_count : Value} (a_require_row_count : PySem.W.nsIn K mainGlobals "require_row_count" = some (some (.ref f_require_row_count))) (l_require_row_count : K.lookup f_require_row_count = some ⟨oc_require_row_count, od_require_row_count, .func (PySem.W.fnOf "require_row_count" "require_row_count" (defArgs s_require_row_count) (defBody s_require_row_count) (defScope s_require_row_count) .none kV_require_row_count dc_require_row_count pm_require_row_count an_require_row_count cd_require_row_count ct_require_row_count), sl_require_row_count⟩) (c_require_row_count : PySem.W.codeIn K cd_require_row_count "require_row_count" = true) (k_require_row_count : PySem.W.keepIn K (.ref f_require_row_count) = true)
    {f_Row_entry : Addr} {oc_Row_entry : Value} {od_Row_entry an_Row_entry : Option Addr} {sl_Row_entry : Array (Option Value)} {kV_Row_entry dc_Row_entry pm_Row_entry ct_Row_entry : Value} {cd_Row_entry : Value} (fi_Row_entry : PySem.W.findIn K (.ref C_Row) "entry" = some (some (.ref f_Row_entry))) (fn_Row_entry : PySem.W.isFn K (.ref f_Row_entry) = true) (l_Row_entry : K.lookup f_Row_entry = some ⟨oc_Row_entry, od_Row_entry, .func (PySem.W.fnOf "entry" "Row.entry" (defArgs s_Row_entry) (defBody s_Row_entry) (defScope s_Row_entry) .none kV_Row_entry dc_Row_entry pm_Row_entry an_Row_entry cd_Row_entry ct_Row_entry), sl_Row_entry⟩) (c_Row_entry : PySem.W.codeIn K cd_Row_entry "Row.entry" = true) (k_Row_entry : PySem.W.keepIn K (.ref f_Row_entry) = true)
    {f__law_any_row : Addr} {oc__law_any_row : Value} {od__law_any_row an__law_any_row : Option Addr} {sl__law_any_row : Array (Option Value)} {kV__law_any_row dc__law_any_row pm__law_any_row ct__law_any_row : Value} {cd__law_any_row : Value} (a__law_any_row : PySem.W.nsIn K mainGlobals "_law_any_row" = some (some (.ref f__law_any_row))) (l__law_any_row : K.lookup f__law_any_row = some ⟨oc__law_any_row, od__law_any_row, .func (PySem.W.fnOf "_law_any_row" "_law_any_row" (defArgs s__law_any_row) (defBody s__law_any_row) (defScope s__law_any_row) .none kV__law_any_row dc__law_any_row pm__law_any_row an__law_any_row cd__law_any_row ct__law_any_row), sl__law_any_row⟩) (c__law_any_row : PySem.W.codeIn K cd__law_any_row "_law_any_row" = true) (k__law_any_row : PySem.W.keepIn K (.ref f__law_any_row) = true)
    {f_Row_init : Addr} {oc_Row_init : Value} {od_Row_init an_Row_init : Option Addr} {sl_Row_init : Array (Option Value)} {kV_Row_init dc_Row_init pm_Row_init ct_Row_init : Value} {cd_Row_init : Value} (fi_Row_init : PySem.W.findIn K (.ref C_Row) "__init__" = some (some (.ref f_Row_init))) (fn_Row_init : PySem.W.isFn K (.ref f_Row_init) = true) (l_Row_init : K.lookup f_Row_init = some ⟨oc_Row_init, od_Row_init, .func (PySem.W.fnOf "__init__" "Row.__init__" (defArgs s_Row_init) (defBody s_Row_init) (defScope s_Row_init) .none kV_Row_init dc_Row_init pm_Row_init an_Row_init cd_Row_init ct_Row_init), sl_Row_init⟩) (c_Row_init : PySem.W.codeIn K cd_Row_init "Row.__init__" = true) (k_Row_init : PySem.W.keepIn K (.ref f_Row_init) = true)
    (mk_Row : PySem.W.makesIn K C_Row = true) (kc_Row : PySem.W.keepIn K (.ref C_Row) = true)
    {f_row_made : Addr} {oc_row_made : Value} {od_row_made an_row_made : Option Addr} {sl_row_made : Array (Option Value)} {kV_row_made dc_row_made pm_row_made ct_row_made : Value} {cd_row_made : Value} (a_row_made : PySem.W.nsIn K mainGlobals "row_made" = some (some (.ref f_row_made))) (l_row_made : K.lookup f_row_made = some ⟨oc_row_made, od_row_made, .func (PySem.W.fnOf "row_made" "row_made" (defArgs s_row_made) (defBody s_row_made) (defScope s_row_made) .none kV_row_made dc_row_made pm_row_made an_row_made cd_row_made ct_row_made), sl_row_made⟩) (c_row_made : PySem.W.codeIn K cd_row_made "row_made" = true) (k_row_made : PySem.W.keepIn K (.ref f_row_made) = true)
    {f_Row_read : Addr} {oc_Row_read : Value} {od_Row_read an_Row_read : Option Addr} {sl_Row_read : Array (Option Value)} {kV_Row_read dc_Row_read pm_Row_read ct_Row_read : Value} {cd_Row_read : Value} {pp_Row_read : Addr} {re_Row_read : List Value} (cr_Row_read : PySem.W.readsIn K C_Row (.type "type") = true) (cg_Row_read : PySem.W.specialIn K (.ref C_Row) "__getattribute__" = some (some (.builtin "type.__getattribute__"))) (cf_Row_read : PySem.W.findCls K (.ref C_Row) (.type "type") "read" = some (.get (.builtin "classmethod.__get__") (.ref pp_Row_read) .none (.ref C_Row))) (cx_Row_read : PySem.W.recIn K pp_Row_read "classmethod" = some (.ref f_Row_read :: re_Row_read)) (ci_Row_read : PySem.W.fnIn K f_Row_read = true) (l_Row_read : K.lookup f_Row_read = some ⟨oc_Row_read, od_Row_read, .func (PySem.W.fnOf "read" "Row.read" (defArgs s_Row_read) (defBody s_Row_read) (defScope s_Row_read) .none kV_Row_read dc_Row_read pm_Row_read an_Row_read cd_Row_read ct_Row_read), sl_Row_read⟩) (c_Row_read : PySem.W.codeIn K cd_Row_read "Row.read" = true) (k_Row_read : PySem.W.keepIn K (.ref f_Row_read) = true)
    {f_Row_shifted : Addr} {oc_Row_shifted : Value} {od_Row_shifted an_Row_shifted : Option Addr} {sl_Row_shifted : Array (Option Value)} {kV_Row_shifted dc_Row_shifted pm_Row_shifted ct_Row_shifted : Value} {cd_Row_shifted : Value} (fi_Row_shifted : PySem.W.findIn K (.ref C_Row) "shifted" = some (some (.ref f_Row_shifted))) (fn_Row_shifted : PySem.W.isFn K (.ref f_Row_shifted) = true) (l_Row_shifted : K.lookup f_Row_shifted = some ⟨oc_Row_shifted, od_Row_shifted, .func (PySem.W.fnOf "shifted" "Row.shifted" (defArgs s_Row_shifted) (defBody s_Row_shifted) (defScope s_Row_shifted) .none kV_Row_shifted dc_Row_shifted pm_Row_shifted an_Row_shifted cd_Row_shifted ct_Row_shifted), sl_Row_shifted⟩) (c_Row_shifted : PySem.W.codeIn K cd_Row_shifted "Row.shifted" = true) (k_Row_shifted : PySem.W.keepIn K (.ref f_Row_shifted) = true)
    {f_Row_cut : Addr} {oc_Row_cut : Value} {od_Row_cut an_Row_cut : Option Addr} {sl_Row_cut : Array (Option Value)} {kV_Row_cut dc_Row_cut pm_Row_cut ct_Row_cut : Value} {cd_Row_cut : Value} (fi_Row_cut : PySem.W.findIn K (.ref C_Row) "cut" = some (some (.ref f_Row_cut))) (fn_Row_cut : PySem.W.isFn K (.ref f_Row_cut) = true) (l_Row_cut : K.lookup f_Row_cut = some ⟨oc_Row_cut, od_Row_cut, .func (PySem.W.fnOf "cut" "Row.cut" (defArgs s_Row_cut) (defBody s_Row_cut) (defScope s_Row_cut) .none kV_Row_cut dc_Row_cut pm_Row_cut an_Row_cut cd_Row_cut ct_Row_cut), sl_Row_cut⟩) (c_Row_cut : PySem.W.codeIn K cd_Row_cut "Row.cut" = true) (k_Row_cut : PySem.W.keepIn K (.ref f_Row_cut) = true)
    {f__law_is_told : Addr} {oc__law_is_told : Value} {od__law_is_told an__law_is_told : Option Addr} {sl__law_is_told : Array (Option Value)} {kV__law_is_told dc__law_is_told pm__law_is_told ct__law_is_told : Value} {cd__law_is_told : Value} (a__law_is_told : PySem.W.nsIn K mainGlobals "_law_is_told" = some (some (.ref f__law_is_told))) (l__law_is_told : K.lookup f__law_is_told = some ⟨oc__law_is_told, od__law_is_told, .func (PySem.W.fnOf "_law_is_told" "_law_is_told" (defArgs s__law_is_told) (defBody s__law_is_told) (defScope s__law_is_told) .none kV__law_is_told dc__law_is_told pm__law_is_told an__law_is_told cd__law_is_told ct__law_is_told), sl__law_is_told⟩) (c__law_is_told : PySem.W.codeIn K cd__law_is_told "_law_is_told" = true) (k__law_is_told : PySem.W.keepIn K (.ref f__law_is_told) = true)
    {f__law_right : Addr} {oc__law_right : Value} {od__law_right an__law_right : Option Addr} {sl__law_right : Array (Option Value)} {kV__law_right dc__law_right pm__law_right ct__law_right : Value} {cd__law_right : Value} (a__law_right : PySem.W.nsIn K mainGlobals "_law_right" = some (some (.ref f__law_right))) (l__law_right : K.lookup f__law_right = some ⟨oc__law_right, od__law_right, .func (PySem.W.fnOf "_law_right" "_law_right" (defArgs s__law_right) (defBody s__law_right) (defScope s__law_right) .none kV__law_right dc__law_right pm__law_right an__law_right cd__law_right ct__law_right), sl__law_right⟩) (c__law_right : PySem.W.codeIn K cd__law_right "_law_right" = true) (k__law_right : PySem.W.keepIn K (.ref f__law_right) = true)
    {f_law : Addr} {oc_law : Value} {od_law an_law : Option Addr} {sl_law : Array (Option Value)} {kV_law dc_law pm_law ct_law : Value} {cd_law : Value} (a_law : PySem.W.nsIn K mainGlobals "law" = some (some (.ref f_law))) (l_law : K.lookup f_law = some ⟨oc_law, od_law, .func (PySem.W.fnOf "law" "law" (defArgs s_law) (defBody s_law) (defScope s_law) .none kV_law dc_law pm_law an_law cd_law ct_law), sl_law⟩) (c_law : PySem.W.codeIn K cd_law "law" = true) (k_law : PySem.W.keepIn K (.ref f_law) = true) :
    ∃ fd : FuncData, (∀ (s : Shared) (v : Value), BindsTo s fd ⟨[v], []⟩ [("_law_script", v)]) ∧ ∀ base : Heap, K.In base → base.Ns mainGlobals mg → FnOk P w K mg base (L2.CX P w) 12 fa fd ["_law_script"] (LSp K sp_law) := by
  have q_Row : SClsN K "Row" := scls_mk a_Row pg_Row ic_Row po_Row sa_Row
  have q_RowEntries : SClsN K "RowEntries" := scls_mk a_RowEntries pg_RowEntries ic_RowEntries po_RowEntries sa_RowEntries
  have T : Txt P K mg := ⟨trivial, PySem.W.mg_none_of X G n_abs, PySem.W.mg_none_of X G n_all, PySem.W.mg_none_of X G n_bool, PySem.W.mg_none_of X G n_enumerate, PySem.W.mg_none_of X G n_int, PySem.W.mg_none_of X G n_isinstance, PySem.W.mg_none_of X G n_len, PySem.W.mg_none_of X G n_list, PySem.W.mg_none_of X G n_max, PySem.W.mg_none_of X G n_min, PySem.W.mg_none_of X G n_range, PySem.W.mg_none_of X G n_str, PySem.W.mg_none_of X G n_tuple, ⟨_, PySem.W.mg_of X G g_FIGURES⟩, ⟨_, PySem.W.mg_of X G g_GREAT⟩, ⟨_, PySem.W.mg_of X G g_LETTER⟩, ⟨_, PySem.W.mg_of X G g_MAX_ENTRIES⟩, ⟨_, PySem.W.mg_of X G g_MAX_SIZE⟩, ⟨_, PySem.W.mg_of X G g_MOST_FIGURES⟩, ⟨_, PySem.W.mg_of X G g_MOST_SIGNS⟩, tupAt_mk (its := [.int (2) tk_PRIMES_0, .int (3) tk_PRIMES_1, .int (5) tk_PRIMES_2, .int (7) tk_PRIMES_3, .int (11) tk_PRIMES_4, .int (13) tk_PRIMES_5, .int (17) tk_PRIMES_6, .int (19) tk_PRIMES_7, .int (23) tk_PRIMES_8, .int (29) tk_PRIMES_9, .int (31) tk_PRIMES_10]) X G g_PRIMES l_PRIMES (.cons ⟨_, rfl⟩ (.cons ⟨_, rfl⟩ (.cons ⟨_, rfl⟩ (.cons ⟨_, rfl⟩ (.cons ⟨_, rfl⟩ (.cons ⟨_, rfl⟩ (.cons ⟨_, rfl⟩ (.cons ⟨_, rfl⟩ (.cons ⟨_, rfl⟩ (.cons ⟨_, rfl⟩ (.cons ⟨_, rfl⟩ .nil))))))))))) (by rw [sizeLine_eq]; exact Nat.le_of_ble_eq_true rfl), slot_mk q_Row a_Row sat_Row_own_entries sge_Row_own_entries stk_Row_own_entries sty_Row_own_entries six_Row_own_entries (by decide), slot_mk q_Row a_Row sat_Row_own_order sge_Row_own_order stk_Row_own_order sty_Row_own_order six_Row_own_order (by decide), slot_mk q_Row a_Row sat_Row_own_prime sge_Row_own_prime stk_Row_own_prime sty_Row_own_prime six_Row_own_prime (by decide), slot_mk q_Row a_Row sat_Row_own_text sge_Row_own_text stk_Row_own_text sty_Row_own_text six_Row_own_text (by decide), slot_mk q_RowEntries a_RowEntries sat_RowEntries_own_tuple sge_RowEntries_own_tuple stk_RowEntries_own_tuple sty_RowEntries_own_tuple six_RowEntries_own_tuple (by decide), isi_mk q_Row a_Row a_Row ica_Row icn ict icm_Row ik_Row_Row, isi_mk q_Row a_Row a_RowEntries ica_Row icn ict icm_Row ik_Row_RowEntries, isi_mk q_RowEntries a_RowEntries a_Row ica_RowEntries icn ict icm_RowEntries ik_RowEntries_Row, isi_mk q_RowEntries a_RowEntries a_RowEntries ica_RowEntries icn ict icm_RowEntries ik_RowEntries_RowEntries, cls_mk X G a_Row, cls_mk X G a_RowEntries, isiT_mk q_Row a_Row ica_Row icn ict icm_Row ikt_Row, isiT_mk q_RowEntries a_RowEntries ica_RowEntries icn ict icm_RowEntries ikt_RowEntries, isiO_mk a_Row iko_Row, isiO_mk a_RowEntries iko_RowEntries, ne3_mk a_Row nef_Row nem_Row, nf3_mk a_Row nf1_Row nf2_Row nf3_Row⟩
  have e := hfa.symm.trans (PySem.W.mg_of X G a_law)
  cases e
  refine ⟨PySem.W.fnOf "law" "law" (defArgs s_law) (defBody s_law) (defScope s_law) .none kV_law dc_law pm_law an_law cd_law ct_law, fun s v => .of_eq rfl, fun base _ _ => ?_⟩
  exact ok_at (all_law (P := P) (w := w) (base := base) T (defAt_mk X G a_is_whole l_is_whole c_is_whole k_is_whole) (methAt_mk a_RowEntries fi_RowEntries_init fn_RowEntries_init l_RowEntries_init c_RowEntries_init k_RowEntries_init) (make_mk X G a_RowEntries mk_RowEntries kc_RowEntries) (defAt_mk X G a_row_trimmed l_row_trimmed c_row_trimmed k_row_trimmed) (defAt_mk X G a_row_order l_row_order c_row_order k_row_order) (defAt_mk X G a_row_term l_row_term c_row_term k_row_term) (defAt_mk X G a_row_figures l_row_figures c_row_figures k_row_figures) (propAt_mk q_Row a_Row pa_Row_prime pe_Row_prime pt_Row_prime pr_Row_prime l_Row_prime c_Row_prime k_Row_prime) (propAt_mk q_Row a_Row pa_Row_entries pe_Row_entries pt_Row_entries pr_Row_entries l_Row_entries c_Row_entries k_Row_entries) (propAt_mk q_Row a_Row pa_Row_degree pe_Row_degree pt_Row_degree pr_Row_degree l_Row_degree c_Row_degree k_Row_degree) (propAt_mk q_Row a_Row pa_Row_order pe_Row_order pt_Row_order pr_Row_order l_Row_order c_Row_order k_Row_order) (methAt_mk a_Row fi_Row_eq fn_Row_eq l_Row_eq c_Row_eq k_Row_eq) q_Row (methAt_mk a_Row fi_Row_str fn_Row_str l_Row_str c_Row_str k_Row_str) q_Row (defAt_mk X G a__law_dice l__law_dice c__law_dice k__law_dice) (defAt_mk X G a__law_roll l__law_roll c__law_roll k__law_roll) (defAt_mk X G a__law_trim l__law_trim c__law_trim k__law_trim) (defAt_mk X G a__law_order l__law_order c__law_order k__law_order) (defAt_mk X G a__law_row_text l__law_row_text c__law_row_text k__law_row_text) (defAt_mk X G a_is_integer l_is_integer c_is_integer k_is_integer) (defAt_mk X G a_is_prime l_is_prime c_is_prime k_is_prime) (defAt_mk X G a_is_residue_of l_is_residue_of c_is_residue_of k_is_residue_of) (defAt_mk X G a_row_text l_row_text c_row_text k_row_text) (defAt_mk X G a_row_term_in l_row_term_in c_row_term_in k_row_term_in) (defAt_mk X G a__law_pick l__law_pick c__law_pick k__law_pick) (defAt_mk X G a_require_prime l_require_prime c_require_prime k_require_prime) (defAt_mk X G a_are_row_entries l_are_row_entries c_are_row_entries k_are_row_entries) (defAt_mk X G a_row_entries_in l_row_entries_in c_row_entries_in k_row_entries_in) (defAt_mk X G a_require_row_count l_require_row_count c_require_row_count k_require_row_count) (methAt_mk a_Row fi_Row_entry fn_Row_entry l_Row_entry c_Row_entry k_Row_entry) q_Row (defAt_mk X G a__law_any_row l__law_any_row c__law_any_row k__law_any_row) (methAt_mk a_Row fi_Row_init fn_Row_init l_Row_init c_Row_init k_Row_init) (make_mk X G a_Row mk_Row kc_Row) (defAt_mk X G a_row_made l_row_made c_row_made k_row_made) (clmAt_mk a_Row cr_Row_read cg_Row_read cf_Row_read cx_Row_read ci_Row_read l_Row_read c_Row_read k_Row_read) (methAt_mk a_Row fi_Row_shifted fn_Row_shifted l_Row_shifted c_Row_shifted k_Row_shifted) q_Row (methAt_mk a_Row fi_Row_cut fn_Row_cut l_Row_cut c_Row_cut k_Row_cut) q_Row (defAt_mk X G a__law_is_told l__law_is_told c__law_is_told k__law_is_told) (defAt_mk X G a__law_right l__law_right c__law_right k__law_right) (defAt_mk X G a_law l_law c_law k_law)) (PySem.W.mg_of X G a_law) l_law
end K03
def PySem.W.Fast.tw1044208819907372926 : Nat := 0
def PySem.W.Fast.tw8065008909021282547 : Nat := 0
def PySem.W.Fast.tw16963702224719381346 : Nat := 0
def PySem.W.Fast.tw2969091409411278885 : Nat := 0
def PySem.W.Fast.tw7308082559333531436 : Nat := 0
def PySem.W.Fast.tw9203742062329365465 : Nat := 0
def PySem.W.Fast.tw1607101139206470333 : Nat := 0
def PySem.W.Fast.tw2271281220460157810 : Nat := 0
def PySem.W.Fast.tw14479598437575033172 : Nat := 0
def PySem.W.Fast.tw18130805263861104880 : Nat := 0
def PySem.W.Fast.tw3058696229777454112 : Nat := 0
def PySem.W.Fast.tw156117251886354737 : Nat := 0
def PySem.W.Fast.tw10177591036026494361 : Nat := 0
def PySem.W.Fast.tw14802585927815810372 : Nat := 0
def PySem.W.Fast.tw2622592854638699622 : Nat := 0
def PySem.W.Fast.tw13350353331866298564 : Nat := 0
def PySem.W.Fast.tw6728261065131233544 : Nat := 0
def PySem.W.Fast.tw343089389406327562 : Nat := 0
open PySem PySem.W PyProof.Rows in
set_option maxRecDepth 100000 in
set_option maxHeartbeats 0 in
theorem PySem.Challenge.cw_touchtowers_k03_rows_told_holds : PySem.Challenge.rw_touchtowers_k03_rows_told.Holds := by
  w_on; o_law; k_head; (case hw => w_witness2)
  k_fill
  refine L3.walk3 (l := PySem.Challenge.rw_touchtowers_k03_rows_told) (k := 12) (x := "_law_script") (sp := K03.sp_law) rfl (by decide) rfl ⟨rfl, by decide, by decide⟩ (fun w h Y => PySem.W.kIn_of Y) ?F K03.law_holds
  case F =>
    intro w mg fa h KX G hmg
    refine' K03.all_mk KX G hmg ?n_abs ?n_all ?n_bool ?n_enumerate ?n_int ?n_isinstance ?n_len ?n_list ?n_max ?n_min ?n_range ?n_str ?n_tuple ?g_FIGURES ?g_GREAT ?g_LETTER ?g_MAX_ENTRIES ?g_MAX_SIZE ?g_MOST_FIGURES ?g_MOST_SIGNS ?g_PRIMES ?l_PRIMES ?a_Row ?a_RowEntries ?pg_Row ?ic_Row ?po_Row ?sa_Row ?pg_RowEntries ?ic_RowEntries ?po_RowEntries ?sa_RowEntries ?sat_Row_own_entries ?sge_Row_own_entries ?stk_Row_own_entries ?sty_Row_own_entries ?six_Row_own_entries ?sat_Row_own_order ?sge_Row_own_order ?stk_Row_own_order ?sty_Row_own_order ?six_Row_own_order ?sat_Row_own_prime ?sge_Row_own_prime ?stk_Row_own_prime ?sty_Row_own_prime ?six_Row_own_prime ?sat_Row_own_text ?sge_Row_own_text ?stk_Row_own_text ?sty_Row_own_text ?six_Row_own_text ?sat_RowEntries_own_tuple ?sge_RowEntries_own_tuple ?stk_RowEntries_own_tuple ?sty_RowEntries_own_tuple ?six_RowEntries_own_tuple ?icn ?ict ?ica_Row ?icm_Row ?ica_RowEntries ?icm_RowEntries ?ik_Row_Row ?ik_Row_RowEntries ?ik_RowEntries_Row ?ik_RowEntries_RowEntries ?ikt_Row ?ikt_RowEntries ?iko_Row ?iko_RowEntries ?nef_Row ?nem_Row ?nf1_Row ?nf2_Row ?nf3_Row ?a_is_whole ?l_is_whole ?c_is_whole ?k_is_whole ?fi_RowEntries_init ?fn_RowEntries_init ?l_RowEntries_init ?c_RowEntries_init ?k_RowEntries_init ?mk_RowEntries ?kc_RowEntries ?a_row_trimmed ?l_row_trimmed ?c_row_trimmed ?k_row_trimmed ?a_row_order ?l_row_order ?c_row_order ?k_row_order ?a_row_term ?l_row_term ?c_row_term ?k_row_term ?a_row_figures ?l_row_figures ?c_row_figures ?k_row_figures ?pa_Row_prime ?pe_Row_prime ?pt_Row_prime ?pr_Row_prime ?l_Row_prime ?c_Row_prime ?k_Row_prime ?pa_Row_entries ?pe_Row_entries ?pt_Row_entries ?pr_Row_entries ?l_Row_entries ?c_Row_entries ?k_Row_entries ?pa_Row_degree ?pe_Row_degree ?pt_Row_degree ?pr_Row_degree ?l_Row_degree ?c_Row_degree ?k_Row_degree ?pa_Row_order ?pe_Row_order ?pt_Row_order ?pr_Row_order ?l_Row_order ?c_Row_order ?k_Row_order ?fi_Row_eq ?fn_Row_eq ?l_Row_eq ?c_Row_eq ?k_Row_eq ?fi_Row_str ?fn_Row_str ?l_Row_str ?c_Row_str ?k_Row_str ?a__law_dice ?l__law_dice ?c__law_dice ?k__law_dice ?a__law_roll ?l__law_roll ?c__law_roll ?k__law_roll ?a__law_trim ?l__law_trim ?c__law_trim ?k__law_trim ?a__law_order ?l__law_order ?c__law_order ?k__law_order ?a__law_row_text ?l__law_row_text ?c__law_row_text ?k__law_row_text ?a_is_integer ?l_is_integer ?c_is_integer ?k_is_integer ?a_is_prime ?l_is_prime ?c_is_prime ?k_is_prime ?a_is_residue_of ?l_is_residue_of ?c_is_residue_of ?k_is_residue_of ?a_row_text ?l_row_text ?c_row_text ?k_row_text ?a_row_term_in ?l_row_term_in ?c_row_term_in ?k_row_term_in ?a__law_pick ?l__law_pick ?c__law_pick ?k__law_pick ?a_require_prime ?l_require_prime ?c_require_prime ?k_require_prime ?a_are_row_entries ?l_are_row_entries ?c_are_row_entries ?k_are_row_entries ?a_row_entries_in ?l_row_entries_in ?c_row_entries_in ?k_row_entries_in ?a_require_row_count ?l_require_row_count ?c_require_row_count ?k_require_row_count ?fi_Row_entry ?fn_Row_entry ?l_Row_entry ?c_Row_entry ?k_Row_entry ?a__law_any_row ?l__law_any_row ?c__law_any_row ?k__law_any_row ?fi_Row_init ?fn_Row_init ?l_Row_init ?c_Row_init ?k_Row_init ?mk_Row ?kc_Row ?a_row_made ?l_row_made ?c_row_made ?k_row_made ?cr_Row_read ?cg_Row_read ?cf_Row_read ?cx_Row_read ?ci_Row_read ?l_Row_read ?c_Row_read ?k_Row_read ?fi_Row_shifted ?fn_Row_shifted ?l_Row_shifted ?c_Row_shifted ?k_Row_shifted ?fi_Row_cut ?fn_Row_cut ?l_Row_cut ?c_Row_cut ?k_Row_cut ?a__law_is_told ?l__law_is_told ?c__law_is_told ?k__law_is_told ?a__law_right ?l__law_right ?c__law_right ?k__law_right ?a_law ?l_law ?c_law ?k_law
    (case n_abs => k_is)
    (case n_all => k_is)
    (case n_bool => k_is)
    (case n_enumerate => k_is)
    (case n_int => k_is)
    (case n_isinstance => k_is)
    (case n_len => k_is)
    (case n_list => k_is)
    (case n_max => k_is)
    (case n_min => k_is)
    (case n_range => k_is)
    (case n_str => k_is)
    (case n_tuple => k_is)
    (case g_FIGURES => k_is)
    (case g_GREAT => k_is)
    (case g_LETTER => k_is)
    (case g_MAX_ENTRIES => k_is)
    (case g_MAX_SIZE => k_is)
    (case g_MOST_FIGURES => k_is)
    (case g_MOST_SIGNS => k_is)
    (case g_PRIMES => k_is)
    (case l_PRIMES => k_is)
    (case a_Row => k_is)
    (case a_RowEntries => k_is)
    (case pg_Row => k_is)
    (case ic_Row => k_is)
    (case po_Row => k_is)
    (case sa_Row => k_is)
    (case pg_RowEntries => k_is)
    (case ic_RowEntries => k_is)
    (case po_RowEntries => k_is)
    (case sa_RowEntries => k_is)
    (case sat_Row_own_entries => k_is)
    (case sge_Row_own_entries => k_is)
    (case stk_Row_own_entries => k_is)
    (case sty_Row_own_entries => k_is)
    (case six_Row_own_entries => k_is)
    (case sat_Row_own_order => k_is)
    (case sge_Row_own_order => k_is)
    (case stk_Row_own_order => k_is)
    (case sty_Row_own_order => k_is)
    (case six_Row_own_order => k_is)
    (case sat_Row_own_prime => k_is)
    (case sge_Row_own_prime => k_is)
    (case stk_Row_own_prime => k_is)
    (case sty_Row_own_prime => k_is)
    (case six_Row_own_prime => k_is)
    (case sat_Row_own_text => k_is)
    (case sge_Row_own_text => k_is)
    (case stk_Row_own_text => k_is)
    (case sty_Row_own_text => k_is)
    (case six_Row_own_text => k_is)
    (case sat_RowEntries_own_tuple => k_is)
    (case sge_RowEntries_own_tuple => k_is)
    (case stk_RowEntries_own_tuple => k_is)
    (case sty_RowEntries_own_tuple => k_is)
    (case six_RowEntries_own_tuple => k_is)
    (case icn => k_is)
    (case ict => k_is)
    (case ica_Row => k_is)
    (case icm_Row => k_is)
    (case ica_RowEntries => k_is)
    (case icm_RowEntries => k_is)
    (case ik_Row_Row => first | rfl | decide +kernel | k_is)
    (case ik_Row_RowEntries => first | rfl | decide +kernel | k_is)
    (case ik_RowEntries_Row => first | rfl | decide +kernel | k_is)
    (case ik_RowEntries_RowEntries => first | rfl | decide +kernel | k_is)
    (case ikt_Row => first | decide +kernel | (intro t ht; simp only [L3.knownT, L3.tysA, List.mem_cons, List.not_mem_nil, or_false] at ht; rcases ht with rfl | rfl | rfl | rfl | rfl | rfl | rfl | rfl <;> first | rfl | decide +kernel | k_is))
    (case ikt_RowEntries => first | decide +kernel | (intro t ht; simp only [L3.knownT, L3.tysA, List.mem_cons, List.not_mem_nil, or_false] at ht; rcases ht with rfl | rfl | rfl | rfl | rfl | rfl | rfl | rfl <;> first | rfl | decide +kernel | k_is))
    (case iko_Row => first | decide +kernel | (intro t ht; simp only [L3.knownT, L3.tysA, List.mem_cons, List.not_mem_nil, or_false] at ht; rcases ht with rfl | rfl | rfl | rfl | rfl | rfl | rfl | rfl <;> first | rfl | decide +kernel | k_is))
    (case iko_RowEntries => first | decide +kernel | (intro t ht; simp only [L3.knownT, L3.tysA, List.mem_cons, List.not_mem_nil, or_false] at ht; rcases ht with rfl | rfl | rfl | rfl | rfl | rfl | rfl | rfl <;> first | rfl | decide +kernel | k_is))
    (case nef_Row => k_is)
    (case nem_Row => k_is)
    (case nf1_Row => k_is)
    (case nf2_Row => k_is)
    (case nf3_Row => k_is)
    (case a_is_whole => k_is)
    (case l_is_whole => k_is)
    (case c_is_whole => k_is)
    (case k_is_whole => k_is)
    (case fi_RowEntries_init => k_is)
    (case fn_RowEntries_init => k_is)
    (case l_RowEntries_init => k_is)
    (case c_RowEntries_init => k_is)
    (case k_RowEntries_init => k_is)
    (case mk_RowEntries => k_is)
    (case kc_RowEntries => k_is)
    (case a_row_trimmed => k_is)
    (case l_row_trimmed => k_is)
    (case c_row_trimmed => k_is)
    (case k_row_trimmed => k_is)
    (case a_row_order => k_is)
    (case l_row_order => k_is)
    (case c_row_order => k_is)
    (case k_row_order => k_is)
    (case a_row_term => k_is)
    (case l_row_term => k_is)
    (case c_row_term => k_is)
    (case k_row_term => k_is)
    (case a_row_figures => k_is)
    (case l_row_figures => k_is)
    (case c_row_figures => k_is)
    (case k_row_figures => k_is)
    (case pa_Row_prime => k_is)
    (case pe_Row_prime => k_is)
    (case pt_Row_prime => k_is)
    (case pr_Row_prime => k_is)
    (case l_Row_prime => k_is)
    (case c_Row_prime => k_is)
    (case k_Row_prime => k_is)
    (case pa_Row_entries => k_is)
    (case pe_Row_entries => k_is)
    (case pt_Row_entries => k_is)
    (case pr_Row_entries => k_is)
    (case l_Row_entries => k_is)
    (case c_Row_entries => k_is)
    (case k_Row_entries => k_is)
    (case pa_Row_degree => k_is)
    (case pe_Row_degree => k_is)
    (case pt_Row_degree => k_is)
    (case pr_Row_degree => k_is)
    (case l_Row_degree => k_is)
    (case c_Row_degree => k_is)
    (case k_Row_degree => k_is)
    (case pa_Row_order => k_is)
    (case pe_Row_order => k_is)
    (case pt_Row_order => k_is)
    (case pr_Row_order => k_is)
    (case l_Row_order => k_is)
    (case c_Row_order => k_is)
    (case k_Row_order => k_is)
    (case fi_Row_eq => k_is)
    (case fn_Row_eq => k_is)
    (case l_Row_eq => k_is)
    (case c_Row_eq => k_is)
    (case k_Row_eq => k_is)
    (case fi_Row_str => k_is)
    (case fn_Row_str => k_is)
    (case l_Row_str => k_is)
    (case c_Row_str => k_is)
    (case k_Row_str => k_is)
    (case a__law_dice => k_is)
    (case l__law_dice => k_is)
    (case c__law_dice => k_is)
    (case k__law_dice => k_is)
    (case a__law_roll => k_is)
    (case l__law_roll => k_is)
    (case c__law_roll => k_is)
    (case k__law_roll => k_is)
    (case a__law_trim => k_is)
    (case l__law_trim => k_is)
    (case c__law_trim => k_is)
    (case k__law_trim => k_is)
    (case a__law_order => k_is)
    (case l__law_order => k_is)
    (case c__law_order => k_is)
    (case k__law_order => k_is)
    (case a__law_row_text => k_is)
    (case l__law_row_text => k_is)
    (case c__law_row_text => k_is)
    (case k__law_row_text => k_is)
    (case a_is_integer => k_is)
    (case l_is_integer => k_is)
    (case c_is_integer => k_is)
    (case k_is_integer => k_is)
    (case a_is_prime => k_is)
    (case l_is_prime => k_is)
    (case c_is_prime => k_is)
    (case k_is_prime => k_is)
    (case a_is_residue_of => k_is)
    (case l_is_residue_of => k_is)
    (case c_is_residue_of => k_is)
    (case k_is_residue_of => k_is)
    (case a_row_text => k_is)
    (case l_row_text => k_is)
    (case c_row_text => k_is)
    (case k_row_text => k_is)
    (case a_row_term_in => k_is)
    (case l_row_term_in => k_is)
    (case c_row_term_in => k_is)
    (case k_row_term_in => k_is)
    (case a__law_pick => k_is)
    (case l__law_pick => k_is)
    (case c__law_pick => k_is)
    (case k__law_pick => k_is)
    (case a_require_prime => k_is)
    (case l_require_prime => k_is)
    (case c_require_prime => k_is)
    (case k_require_prime => k_is)
    (case a_are_row_entries => k_is)
    (case l_are_row_entries => k_is)
    (case c_are_row_entries => k_is)
    (case k_are_row_entries => k_is)
    (case a_row_entries_in => k_is)
    (case l_row_entries_in => k_is)
    (case c_row_entries_in => k_is)
    (case k_row_entries_in => k_is)
    (case a_require_row_count => k_is)
    (case l_require_row_count => k_is)
    (case c_require_row_count => k_is)
    (case k_require_row_count => k_is)
    (case fi_Row_entry => k_is)
    (case fn_Row_entry => k_is)
    (case l_Row_entry => k_is)
    (case c_Row_entry => k_is)
    (case k_Row_entry => k_is)
    (case a__law_any_row => k_is)
    (case l__law_any_row => k_is)
    (case c__law_any_row => k_is)
    (case k__law_any_row => k_is)
    (case fi_Row_init => k_is)
    (case fn_Row_init => k_is)
    (case l_Row_init => k_is)
    (case c_Row_init => k_is)
    (case k_Row_init => k_is)
    (case mk_Row => k_is)
    (case kc_Row => k_is)
    (case a_row_made => k_is)
    (case l_row_made => k_is)
    (case c_row_made => k_is)
    (case k_row_made => k_is)
    (case cr_Row_read => k_is)
    (case cg_Row_read => k_is)
    (case cf_Row_read => k_is)
    (case cx_Row_read => k_is)
    (case ci_Row_read => k_is)
    (case l_Row_read => k_is)
    (case c_Row_read => k_is)
    (case k_Row_read => k_is)
    (case fi_Row_shifted => k_is)
    (case fn_Row_shifted => k_is)
    (case l_Row_shifted => k_is)
    (case c_Row_shifted => k_is)
    (case k_Row_shifted => k_is)
    (case fi_Row_cut => k_is)
    (case fn_Row_cut => k_is)
    (case l_Row_cut => k_is)
    (case c_Row_cut => k_is)
    (case k_Row_cut => k_is)
    (case a__law_is_told => k_is)
    (case l__law_is_told => k_is)
    (case c__law_is_told => k_is)
    (case k__law_is_told => k_is)
    (case a__law_right => k_is)
    (case l__law_right => k_is)
    (case c__law_right => k_is)
    (case k__law_right => k_is)
    (case a_law => k_is)
    (case l_law => k_is)
    (case c_law => k_is)
    (case k_law => k_is)

