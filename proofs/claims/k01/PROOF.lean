import PyProof.Rows.All
import HandS.Zip
import HandS.Iter
import HandS.IterVal
import Wide.All
import OpenK.AllK
import Wide.FinOn
import PyProof.EqAt
import PyProof.EqKinds
import PyProof.TupleCall
import HandS.Base
import HandS.Call
import HandS.List
import HandS.Comp
import HandS.Exc
import HandS.ExcOwn
import HandS.Ends
import HandS.Words
import HandS.TryMany
import HandS.TryOnly
import HandS.SlotsOwn
import HandS.Lambda
import HandS.Wide
import HandS.TupAny
import HandS.TupMul
import HandS.IsInst
import HandS.Deep
import HandS.Text
import HandS.WordsExc
import HandS.Style
import HandS.Star
import HandS.FStr
import HandS.RaiseMore
import HandS.SortInts
import KE.GoesEnum
import HandS.Conv
import KE.KExcSuper
import KE.KExcLine
import HandS.ExcField
import HandS.EndTab
import PyProof.ListStr
import PyProof.Rows.FactsExc_KeyError
import HandS.AnyAll
import HandS.GenList
import KE.KDictIter
import KE.KDictZip
import HandS.CallLocal
import KE.KTupSum
import PySem.Challenge.RW_touchtowers_k01_errors_and_what_they_kee
set_option linter.all false
set_option Elab.async false
set_option maxRecDepth 100000
set_option maxHeartbeats 4000000
/-! ZN: zip of any number of lists and tuples, at the library's level. -/
namespace ZN
open PySem PySem.Spec PyProof.Rows L2
inductive Kd where
  | l | t
def ItAt : Kd → Heap → Addr → Addr → Nat → Prop
  | .l, h, it, a, i => h.IsListIter it a i
  | .t, h, it, a, i => h.IsTupleIter it a i
def SqAt : Kd → Heap → Addr → Array Value → Prop
  | .l, h, a, xs => h.IsList a xs
  | .t, h, a, xs => h.IsTuple a xs
structure Src where
  k : Kd
  it : Nat
  a : Nat
abbrev IsTup (h : Heap) (T : Addr) (vs : List Value) : Prop := h.get? T = some { cls := .type "tuple", data := .seq vs.toArray }
theorem ItAt.over {k : Kd} {h h' : Heap} {it a : Addr} {i : Nat} (x : ItAt k h it a i) (e : ∀ o, h.get? it = some o → h'.get? it = some o) : ItAt k h' it a i := by
  cases k with
  | l => exact Heap.IsListIter.at x e
  | t => exact Heap.IsTupleIter.at x e
theorem SqAt.over {k : Kd} {h h' : Heap} {a : Addr} {xs : Array Value} (x : SqAt k h a xs) (e : ∀ o, h.get? a = some o → h'.get? a = some o) : SqAt k h' a xs := by
  cases k with
  | l => exact Heap.IsList.at x e
  | t => exact Heap.IsTuple.at x e
structure Apart (z TI TO : Addr) (cs : List Src) : Prop where
  TIz : TI ≠ z
  TOz : TO ≠ z
  TITO : TI ≠ TO
  TIi : ∀ c ∈ cs, TI ≠ c.it
  TOi : ∀ c ∈ cs, TO ≠ c.it
  iz : ∀ c ∈ cs, c.it ≠ z
  az : ∀ c ∈ cs, c.a ≠ z
  aTO : ∀ c ∈ cs, c.a ≠ TO
  ai : ∀ c ∈ cs, ∀ d ∈ cs, c.a ≠ d.it
  nd : (cs.map Src.it).Nodup
section
variable {prog : Program} {w : World} {A : Around} {E : Value → Shared → Prop} {s : Shared}
end
end ZN

set_option Elab.async false
set_option maxRecDepth 100000
set_option maxHeartbeats 4000000
/-! ZN2: zip of any number of lists and tuples, over the layer's heap. -/
namespace ZN
open PySem PySem.Spec PyProof.Rows L2
def SqK (K : PySem.W.Frag) : Kd → Hp → Nat → List V → Prop
  | .l, H, a, xs => SqL K H a xs
  | .t, H, a, xs => SqT K H a xs
structure CS where
  k : Kd
  a : Nat
  xs : List V
abbrev CS.key (c : CS) : Kd × Nat := (c.k, c.a)
abbrev Src.key (c : Src) : Kd × Nat := (c.k, c.a)
theorem SqAt.inj {k : Kd} {h : Heap} {a : Addr} {xs ys : Array Value} (h1 : SqAt k h a xs) (h2 : SqAt k h a ys) : xs = ys := by
  cases k with
  | l =>
    obtain ⟨o, e, _, n, d⟩ := h1
    obtain ⟨o', e', _, n', d'⟩ := h2
    rw [e] at e'; cases e'
    rw [d] at d'; cases d'; rfl
  | t =>
    obtain ⟨o, e, _, n, d⟩ := h1
    obtain ⟨o', e', _, n', d'⟩ := h2
    rw [e] at e'; cases e'
    rw [d] at d'; cases d'; rfl
section
variable {X : Cx} {pins : List (Addr × Obj)} {σ : L2.St} {H : Hp} {s : Shared}
end
end ZN

set_option Elab.async false
set_option maxRecDepth 100000
set_option maxHeartbeats 4000000
/-! ZN3: zip(..) as what is walked, as a value, a name that holds one. -/
namespace ZN
open PySem PySem.Spec PyProof.Rows L2
/-! ### many cells laid, many forgotten -/
section
variable {X : Cx} {pins : List (Addr × Obj)} {σ : L2.St} {H : Hp} {s : Shared}
end
/-! ### the cells of a zip -/
def itO (k : Kd) (it a : Nat) : HO := .ext fun h => ItAt k h it a 0
def tupO (T : Nat) (vs : List Value) : HO := .ext fun h => IsTup h T vs
def zipO (z TI TO : Nat) : HO := .ext fun h => IsZip h z TI TO .none
def refsZ (b n : Nat) : List Value := (List.range n).map fun j => .ref (b + j)
/-- what stands at x, of the zip laid from b on -/
def cellZ (b : Nat) (ps : List (Kd × Nat)) (x : Nat) : Option HO :=
  if x = b + ps.length + 2 then some (zipO x (b + ps.length) (b + ps.length + 1))
  else if x = b + ps.length + 1 then some (tupO x (ps.map fun _ => .none))
  else if x = b + ps.length then some (tupO x (refsZ b ps.length))
  else if b ≤ x then (ps[x - b]?).map fun p => itO p.1 x p.2 else none
def N234 (n : Nat) : Prop := n = 2 ∨ n = 3 ∨ n = 4
section
variable {X : Cx} {p pos tpos : Pos} {elts : List Expr} {kk : Nat} {e : Expr} {es : List Expr} {ta : TA}
end
end ZN

set_option Elab.async false
set_option maxRecDepth 100000
set_option maxHeartbeats 4000000
/-! L3, part a: plain values over the hand layer's abstract heap; the frame's plain state; its steps. -/
namespace L3
open PySem PySem.Spec PyProof.Rows L2

/-- plain data -/
inductive D where
  | non | bl (b : Bool) | int (i : Int) | str (x : Str) | ref (a : Addr) | ty (n : String)
  | tup (ds : List D) | lst (ds : List D) | scr (ns : List Int)
  /-- an instance of a class with slots, all of them filled -/
  | obj (nm : Str) (fs : List D)
  /-- a class of the text -/
  | cls (nm : Str)
  /-- a dict with keys of ints and texts; with keys of tuples of such -/
  | dcK (ks : List Key) (ds : List D) | dcT (ks : List (List Key)) (ds : List D)
  /-- a tuple of ints of the module -/
  | ktp (ns : List Int)
  /-- no value: the head of a register that is no list -/
  | tag (n : Nat)

/-- the class of that name -/
def ClsN (K : PySem.W.Frag) (nm : Str) (C : Addr) : Prop := PySem.W.nsIn K mainGlobals nm = some (some (.ref C))
mutual
inductive Rep (K : PySem.W.Frag) (F : Hp) : D → V → Prop
  | non : Rep K F .non .non
  | bl (b : Bool) : Rep K F (.bl b) (.bl b)
  | int (i : Int) : Rep K F (.int i) (.int i)
  | str (x : Str) : Rep K F (.str x) (.str x)
  | ref (a : Addr) : Rep K F (.ref a) (.ref a)
  | ty (n : String) : Rep K F (.ty n) (.ty n)
  | tup {a : Addr} {xs : List V} {ds : List D} : F a = some (.tup xs) → RepL K F ds xs → Rep K F (.tup ds) (.ref a)
  | ktp {a : Addr} {ns : List Int} : SqT K F a (ns.map V.int) → Rep K F (.ktp ns) (.ref a)
  | scr {a : Addr} {ns : List Int} : SqL K F a (ns.map V.int) → Rep K F (.scr ns) (.ref a)
  | lst {a : Addr} {xs : List V} {ds : List D} : Rd F a (.lst xs) → RepL K F ds xs → Rep K F (.lst ds) (.ref a)
  | obj {a C dx : Addr} {nm : Str} {xs : List V} {fs : List D} : ClsN K nm C → F a = some (SlX.SlO a C dx (xs.map some)) → F dx = some (.xd []) → RepL K F fs xs → Rep K F (.obj nm fs) (.ref a)
  | cls {C : Addr} {nm : Str} : ClsN K nm C → Rep K F (.cls nm) (.ref C)
  | dcK {a : Addr} {ob : Obj} {ks : List Key} {xs : List V} {ds : List D} : F a = some (.frz ob (.dK (ks.zip xs))) → ks.length = xs.length → RepL K F ds xs → Rep K F (.dcK ks ds) (.ref a)
  | dcT {a : Addr} {ob : Obj} {ks : List (List Key)} {xs : List V} {ds : List D} : F a = some (.frz ob (.dT (ks.zip xs))) → ks.length = xs.length → RepL K F ds xs → Rep K F (.dcT ks ds) (.ref a)
inductive RepL (K : PySem.W.Frag) (F : Hp) : List D → List V → Prop
  | nil : RepL K F [] []
  | cons {d : D} {ds : List D} {v : V} {vs : List V} : Rep K F d v → RepL K F ds vs → RepL K F (d :: ds) (v :: vs)
end

theorem sameT {K : PySem.W.Frag} {H H' : Hp} {a : Addr} {xs : List V} (e : Same H H') (h : SqT K H a xs) : SqT K H' a xs := by
  rcases h with (h | ⟨o, h⟩) | h
  · exact .inl (.inl (e _ _ h))
  · exact .inl (.inr ⟨o, e _ _ h⟩)
  · exact .inr h
theorem sameR {H H' : Hp} {a : Addr} {u : HO} (e : Same H H') (h : Rd H a u) : Rd H' a u := by
  rcases h with h | ⟨o, h⟩
  · exact .inl (e _ _ h)
  · exact .inr ⟨o, e _ _ h⟩
mutual
theorem Rep.mono {K : PySem.W.Frag} {F F' : Hp} (e : Same F F') : ∀ (d : D) (v : V), Rep K F d v → Rep K F' d v
  | .non, _, h => by cases h; exact .non
  | .bl _, _, h => by cases h; exact .bl _
  | .int _, _, h => by cases h; exact .int _
  | .str _, _, h => by cases h; exact .str _
  | .ref _, _, h => by cases h; exact .ref _
  | .ty _, _, h => by cases h; exact .ty _
  | .scr _, _, h => by
    cases h with
    | scr hs => exact .scr (e.seq hs)
  | .tup ds, _, h => by
    cases h with
    | tup hs ha => exact .tup (e _ _ hs) (RepL.mono e ds _ ha)
  | .ktp ns, _, h => by
    cases h with
    | ktp hs => exact .ktp (sameT e hs)
  | .lst ds, _, h => by
    cases h with
    | lst hs ha => exact .lst (sameR e hs) (RepL.mono e ds _ ha)
  | .tag _, _, h => by cases h
  | .cls _, _, h => by
    cases h with
    | cls hc => exact .cls hc
  | .obj _ fs, _, h => by
    cases h with
    | obj h1 h2 h3 ha => exact .obj h1 (e _ _ h2) (e _ _ h3) (RepL.mono e fs _ ha)
  | .dcK _ ds, _, h => by
    cases h with
    | dcK h1 h2 ha => exact .dcK (e _ _ h1) h2 (RepL.mono e ds _ ha)
  | .dcT _ ds, _, h => by
    cases h with
    | dcT h1 h2 ha => exact .dcT (e _ _ h1) h2 (RepL.mono e ds _ ha)
theorem RepL.mono {K : PySem.W.Frag} {F F' : Hp} (e : Same F F') : ∀ (ds : List D) (vs : List V), RepL K F ds vs → RepL K F' ds vs
  | [], _, h => by cases h; exact .nil
  | d :: ds, _, h => by
    cases h with
    | cons h1 h2 => exact .cons (Rep.mono e d _ h1) (RepL.mono e ds _ h2)
end
section
variable {K : PySem.W.Frag} {F : Hp}
theorem RepL.length : ∀ {ds : List D} {vs : List V}, RepL K F ds vs → ds.length = vs.length
  | _, _, .nil => rfl
  | _, _, .cons _ t => congrArg (· + 1) (RepL.length t)
theorem RepL.append : ∀ {ds es : List D} {vs us : List V}, RepL K F ds vs → RepL K F es us → RepL K F (ds ++ es) (vs ++ us)
  | _, _, _, _, .nil, s => s
  | _, _, _, _, .cons r t, s => .cons r (RepL.append t s)
theorem RepL.take : ∀ {ds : List D} {vs : List V} (n : Nat), RepL K F ds vs → RepL K F (ds.take n) (vs.take n)
  | _, _, 0, _ => .nil
  | _, _, _ + 1, .nil => .nil
  | _, _, n + 1, .cons r t => .cons r (RepL.take n t)
theorem RepL.drop : ∀ {ds : List D} {vs : List V} (n : Nat), RepL K F ds vs → RepL K F (ds.drop n) (vs.drop n)
  | _, _, 0, r => r
  | _, _, _ + 1, .nil => .nil
  | _, _, n + 1, .cons _ t => RepL.drop n t
theorem RepL.get : ∀ {ds : List D} {vs : List V} {i : Nat} {d : D}, RepL K F ds vs → ds[i]? = some d → ∃ v, vs[i]? = some v ∧ Rep K F d v
  | _, _, _, _, .nil, e => by simp at e
  | _, _, 0, _, .cons r _, e => by simp at e; subst e; exact ⟨_, rfl, r⟩
  | _, _, i + 1, d, .cons _ t, e => by
    obtain ⟨u, h1, h2⟩ := RepL.get (i := i) (d := d) t (by simpa using e)
    exact ⟨u, by simpa using h1, h2⟩
theorem RepL.set : ∀ {ds : List D} {vs : List V} {d : D} {v : V} (i : Nat), Rep K F d v → RepL K F ds vs → RepL K F (ds.set i d) (vs.set i v)
  | _, _, _, _, _, _, .nil => .nil
  | _, _, _, _, 0, r, .cons _ t => .cons r t
  | _, _, _, _, i + 1, r, .cons q t => .cons q (RepL.set i r t)
theorem RepL.reverse {ds : List D} {vs : List V} (h : RepL K F ds vs) : RepL K F ds.reverse vs.reverse := by
  induction ds generalizing vs with
  | nil => cases h; exact .nil
  | cons d r ih =>
    cases h with
    | cons h1 h2 => rw [List.reverse_cons, List.reverse_cons]; exact (ih h2).append (.cons h1 .nil)
theorem RepL.rep {ds : List D} {vs : List V} (h : RepL K F ds vs) : ∀ k : Nat, RepL K F (List.replicate k ds).flatten (List.replicate k vs).flatten
  | 0 => .nil
  | k + 1 => by rw [List.replicate_succ, List.replicate_succ, List.flatten_cons, List.flatten_cons]; exact h.append (RepL.rep h k)
theorem RepL.ints : ∀ (ns : List Int), RepL K F (ns.map D.int) (ns.map V.int)
  | [] => .nil
  | n :: r => .cons (.int n) (RepL.ints r)
end

/-! ### the frame's plain state -/
inductive Sl3 where
  | no | val (d : D) | own (ds : List D)
  /-- a dict that only this slot holds -/
  | ownD (d : D)
  /-- the instance that __init__ is filling -/
  | new (nm : Str) (fs : List (Option D))
abbrev Env3 := List Sl3
/-- what a slot alone holds -/
def Sl3.ow : Sl3 → Option D
  | .own ds => some (.lst ds)
  | .ownD d => some d
  | _ => none
/-- an object that may change, and what it holds -/
def RepB (K : PySem.W.Frag) (F : Hp) : D → HO → Prop
  | .lst ds, o => ∃ xs, o = .lst xs ∧ RepL K F ds xs
  | .dcT ks ds, o => ∃ (ob : Obj) (xs : List V), o = .frz ob (.dT (ks.zip xs)) ∧ ks.length = xs.length ∧ RepL K F ds xs
  | .dcK ks ds, o => ∃ (ob : Obj) (xs : List V), o = .frz ob (.dK (ks.zip xs)) ∧ ks.length = xs.length ∧ RepL K F ds xs
  | _, _ => False
theorem RepB.mono {K : PySem.W.Frag} {F F' : Hp} {d : D} {o : HO} (e : Same F F') (h : RepB K F d o) : RepB K F' d o := by
  cases d with
  | lst ds => obtain ⟨xs, h1, h2⟩ := h; exact ⟨xs, h1, RepL.mono e _ _ h2⟩
  | dcT ks ds => obtain ⟨ob, xs, h1, h2, h3⟩ := h; exact ⟨ob, xs, h1, h2, RepL.mono e _ _ h3⟩
  | dcK ks ds => obtain ⟨ob, xs, h1, h2, h3⟩ := h; exact ⟨ob, xs, h1, h2, RepL.mono e _ _ h3⟩
  | _ => exact h.elim
/-- .. as a value, once it stands still -/
theorem RepB.rep {K : PySem.W.Frag} {F : Hp} {d : D} {o : HO} {a : Addr} (h : RepB K F d o) (e : F a = some o) : Rep K F d (.ref a) := by
  cases d with
  | lst ds => obtain ⟨xs, h1, h2⟩ := h; subst h1; exact .lst (Rd.of e) h2
  | dcT ks ds => obtain ⟨ob, xs, h1, h2, h3⟩ := h; subst h1; exact .dcT e h2 h3
  | dcK ks ds => obtain ⟨ob, xs, h1, h2, h3⟩ := h; subst h1; exact .dcK e h2 h3
  | _ => exact h.elim
abbrev Reg := List (Addr × List D)
abbrev Pend := List (Addr × HO)
structure Base3 where
  F : Hp
  H : Hp
  G : List Addr
  /-- where the instance stands that __init__ is filling -/
  nw : Addr

/-- no tuple -/
def isTp : HO → Bool
  | .tup _ => true
  | _ => false
/-- how the cells of a zip are told in a register -/
def encP (ps : List (ZN.Kd × Nat)) : List D := ps.map fun p => .tup [.bl (match p.1 with | .l => true | .t => false), .int p.2]
def encZ (b : Nat) (ps : List (ZN.Kd × Nat)) (dss : List (List D)) : List D := .tag 0 :: .int b :: .lst (encP ps) :: dss.map D.lst
inductive RepLs (K : PySem.W.Frag) (F : Hp) : List (List D) → List ZN.CS → Prop
  | nil : RepLs K F [] []
  | cons {ds : List D} {c : ZN.CS} {dss : List (List D)} {css : List ZN.CS} : ZN.SqK K c.k F c.a c.xs → RepL K F ds c.xs → RepLs K F dss css → RepLs K F (ds :: dss) (c :: css)
theorem sqK_same {K : PySem.W.Frag} {F F' : Hp} (e : Same F F') {k : ZN.Kd} {a : Nat} {xs : List V} (h : ZN.SqK K k F a xs) : ZN.SqK K k F' a xs := by
  cases k with
  | l => exact e.seq h
  | t => exact sameT e h
theorem RepLs.mono {K : PySem.W.Frag} {F F' : Hp} (e : Same F F') : ∀ {dss : List (List D)} {css : List ZN.CS}, RepLs K F dss css → RepLs K F' dss css
  | _, _, .nil => .nil
  | _, _, .cons h1 h2 h3 => .cons (sqK_same e h1) (RepL.mono e _ _ h2) (RepLs.mono e h3)
/-- how a table of code objects is told in a register -/
def encT (q : Str) : List D := [.tag 1, .str q]
/-- what a register tells: a list; a cell of a zip; a table of code objects -/
inductive RegO (K : PySem.W.Frag) (F : Hp) (a : Addr) : HO → List D → Prop
  | lst {xs : List V} {ds : List D} : RepL K F ds xs → RegO K F a (.lst xs) ds
  | zip {b : Nat} {css : List ZN.CS} {dss : List (List D)} {o : HO} : ZN.cellZ b (css.map ZN.CS.key) a = some o → ZN.N234 css.length → (∀ c ∈ css, c.a < b) → RepLs K F dss css → RegO K F a o (encZ b (css.map ZN.CS.key) dss)
  | tbl {q : Str} {ps : Array Value} : TriplesOk ps.toList → (∀ (pos : Pos) (cv : Value), codeAmong pos ps.toList = some cv → ∃ c, cv = .ref c ∧ F c = some (LamX.CodeO c q)) → RegO K F a (.tbl ps) (encT q)
theorem RegO.mono {K : PySem.W.Frag} {F F' : Hp} {a : Addr} {o : HO} {ds : List D} (e : Same F F') (h : RegO K F a o ds) : RegO K F' a o ds := by
  cases h with
  | lst r => exact .lst (RepL.mono e _ _ r)
  | zip h1 h2 h3 h4 => exact .zip h1 h2 h3 (h4.mono e)
  | tbl h1 h2 => exact .tbl h1 fun pos cv hc => by obtain ⟨c, e1, e2⟩ := h2 pos cv hc; exact ⟨c, e1, e _ _ e2⟩
/-- a register that is a list's -/
def isL : List D → Bool
  | .tag _ :: _ => false
  | _ => true
theorem RegO.lstOf {K : PySem.W.Frag} {F : Hp} {a : Addr} {o : HO} {ds : List D} (h : RegO K F a o ds) (hl : isL ds = true) : ∃ xs, o = .lst xs ∧ RepL K F ds xs := by
  cases h with
  | lst r => exact ⟨_, rfl, r⟩
  | zip h1 h2 h3 h4 => cases hl
  | tbl h1 h2 => cases hl
theorem RegO.nt {K : PySem.W.Frag} {F : Hp} {a : Addr} {o : HO} {ds : List D} (h : RegO K F a o ds) : isTp o = false := by
  cases h with
  | lst r => rfl
  | zip h1 h2 h3 h4 =>
    unfold ZN.cellZ at h1
    split at h1
    · cases h1; rfl
    split at h1
    · cases h1; rfl
    split at h1
    · cases h1; rfl
    split at h1
    · obtain ⟨p, _, rfl⟩ := Option.map_eq_some_iff.mp h1; rfl
    · cases h1
  | tbl h1 h2 => rfl
/-- the list of a register -/
def lookL (G : Reg) (a : Addr) : Option (List D) := match G.lookup a with
  | some ds => if isL ds = true then some ds else none
  | none => none
theorem lookL_iff {G : Reg} {a : Addr} {ds : List D} (h : lookL G a = some ds) : G.lookup a = some ds ∧ isL ds = true := by
  unfold lookL at h
  split at h
  · rename_i e hl
    split at h
    · rename_i hi; cases h; exact ⟨hl, hi⟩
    · cases h
  · cases h
structure Wld (K : PySem.W.Frag) (F H : Hp) (G : Reg) : Prop where
  sub : Same F H
  reg : ∀ (a : Addr) (ds : List D), (a, ds) ∈ G → F a = none ∧ ∃ o, H a = some o ∧ RegO K F a o ds
  nd : (G.map (·.1)).Nodup

/-- an object that stands free: nothing else names it -/
structure FreX (K : PySem.W.Frag) (B : Base3) (pn : Pend) (F H : Hp) (G : Reg) (a : Addr) (d : D) : Prop where
  nF : F a = none
  nB : B.H a = none
  nG : a ∉ G.map (·.1)
  nP : a ∉ pn.map (·.1)
  ex : ∃ o, H a = some o ∧ RepB K F d o
/-- a list that stands free: nothing else names it -/
structure Fre (K : PySem.W.Frag) (B : Base3) (pn : Pend) (F H : Hp) (G : Reg) (a : Addr) (ds : List D) : Prop where
  nF : F a = none
  nB : B.H a = none
  nG : a ∉ G.map (·.1)
  nP : a ∉ pn.map (·.1)
  ex : ∃ xs, H a = some (.lst xs) ∧ RepL K F ds xs
theorem Fre.x {K : PySem.W.Frag} {B : Base3} {pn : Pend} {F H : Hp} {G : Reg} {a : Addr} {ds : List D} (f : Fre K B pn F H G a ds) : FreX K B pn F H G a (.lst ds) :=
  ⟨f.nF, f.nB, f.nG, f.nP, by obtain ⟨xs, e, r⟩ := f.ex; exact ⟨_, e, xs, rfl, r⟩⟩
theorem FreX.l {K : PySem.W.Frag} {B : Base3} {pn : Pend} {F H : Hp} {G : Reg} {a : Addr} {ds : List D} (f : FreX K B pn F H G a (.lst ds)) : Fre K B pn F H G a ds :=
  ⟨f.nF, f.nB, f.nG, f.nP, by obtain ⟨o, e, xs, eo, r⟩ := f.ex; subst eo; exact ⟨xs, e, r⟩⟩

/-- the slots that are filled so far -/
def RepO (K : PySem.W.Frag) (F : Hp) (fs : List (Option D)) (vs : List (Option V)) : Prop := fs.length = vs.length ∧ ∀ (i : Nat) (d : D), fs[i]? = some (some d) → ∃ v, vs[i]? = some (some v) ∧ Rep K F d v
def NewAt (K : PySem.W.Frag) (nw : Addr) (pn : Pend) (F : Hp) (o : Option (Option V)) (nm : Str) (fs : List (Option D)) : Prop :=
  ∃ (a C dx : Addr) (vs : List (Option V)), (a = nw ∧ o = some (some (V.ref a))) ∧ dx ≠ a ∧ ClsN K nm C ∧ RepO K F fs vs ∧ ((vs = [] ∧ (a, HO.ins C dx []) ∈ pn ∧ (dx, HO.own a) ∈ pn) ∨ ((a, SlX.SlO a C dx vs) ∈ pn ∧ (dx, HO.xd []) ∈ pn))
structure St3 (K : PySem.W.Frag) (B : Base3) (pn : Pend) (F H : Hp) (σ : L2.St) (E : Env3) (G : Reg) : Prop where
  w : Wld K F H G
  keepF : Same B.F F
  keepH : ∀ (a : Addr) (o : HO), B.H a = some o → a ∉ B.G → H a = some o
  unfr : ∀ (a : Addr) (o : HO), B.H a = some o → isTp o = false → B.F a = none → F a = none
  regs : ∀ a, a ∈ G.map (·.1) → a ∈ B.G ∨ B.H a = none
  regk : ∀ a, a ∈ B.G → a ∈ G.map (·.1)
  len : E.length = σ.length
  slot : ∀ (i : Nat) (d : D), E[i]? = some (Sl3.val d) → ∃ v, σ[i]? = some (some v) ∧ Rep K F d v
  own : ∀ (i : Nat) (s : Sl3) (d : D), E[i]? = some s → s.ow = some d → ∃ a, σ[i]? = some (some (V.ref a)) ∧ FreX K B pn F H G a d
  ownd : ∀ (i j : Nat) (s t : Sl3) (d e : D) (a : Addr), E[i]? = some s → E[j]? = some t → s.ow = some d → t.ow = some e → σ[i]? = some (some (V.ref a)) → σ[j]? = some (some (V.ref a)) → i = j
  pend : ∀ (a : Addr) (o : HO), (a, o) ∈ pn → H a = some o ∧ F a = none ∧ B.H a = none ∧ a ∉ G.map (·.1)
  pnd : (pn.map (·.1)).Nodup ∧ ∀ p ∈ pn, isTp p.2 = false
  news : ∀ (nm : Str) (fs : List (Option D)), E[0]? = some (Sl3.new nm fs) → NewAt K B.nw pn F σ[0]? nm fs
theorem RepO.mono {K : PySem.W.Frag} {F F' : Hp} (s : Same F F') {fs : List (Option D)} {vs : List (Option V)} (h : RepO K F fs vs) : RepO K F' fs vs :=
  ⟨h.1, fun i d e => by obtain ⟨v, h1, h2⟩ := h.2 i d e; exact ⟨v, h1, Rep.mono s _ _ h2⟩⟩
theorem NewAt.mono {K : PySem.W.Frag} {nw : Addr} {F F' : Hp} {pn : Pend} {o : Option (Option V)} {nm : Str} {fs : List (Option D)} (s : Same F F') (h : NewAt K nw pn F o nm fs) : NewAt K nw pn F' o nm fs := by
  obtain ⟨a, C, dx, vs, h1, h2, h3, h4, h5⟩ := h
  exact ⟨a, C, dx, vs, h1, h2, h3, h4.mono s, h5⟩
theorem NewAt.push {K : PySem.W.Frag} {nw : Addr} {F : Hp} {pn : Pend} {p : Addr × HO} {o : Option (Option V)} {nm : Str} {fs : List (Option D)} (h : NewAt K nw pn F o nm fs) : NewAt K nw (p :: pn) F o nm fs := by
  obtain ⟨a, C, dx, vs, h1, h2, h3, h4, h5⟩ := h
  exact ⟨a, C, dx, vs, h1, h2, h3, h4, h5.imp (fun ⟨x, y, z⟩ => ⟨x, List.mem_cons_of_mem _ y, List.mem_cons_of_mem _ z⟩) fun ⟨y, z⟩ => ⟨List.mem_cons_of_mem _ y, List.mem_cons_of_mem _ z⟩⟩
inductive Dat : HO → Prop
  | lst {xs : List V} : Dat (.lst xs)
  | dT {ob : Obj} {k : List (List Key × V)} : Dat (.frz ob (.dT k))
  | dK {ob : Obj} {k : List (Key × V)} : Dat (.frz ob (.dK k))
  | dTu {k : List (List Key × V)} : Dat (.dT k)
  | dKu {k : List (Key × V)} : Dat (.dK k)
theorem RepB.dat {K : PySem.W.Frag} {F : Hp} {d : D} {o : HO} (h : RepB K F d o) : Dat o := by
  cases d with
  | lst ds => obtain ⟨xs, rfl, _⟩ := h; exact .lst
  | dcT ks ds => obtain ⟨ob, xs, rfl, _⟩ := h; exact .dT
  | dcK ks ds => obtain ⟨ob, xs, rfl, _⟩ := h; exact .dK
  | _ => exact h.elim
theorem Dat.nt {o : HO} (h : Dat o) : isTp o = false := by cases h <;> rfl
theorem NewAt.pop {K : PySem.W.Frag} {nw : Addr} {F : Hp} {pn : Pend} {b : Addr} {u : HO} {o : Option (Option V)} {nm : Str} {fs : List (Option D)} (hd : Dat u) (h : NewAt K nw ((b, u) :: pn) F o nm fs) : NewAt K nw pn F o nm fs := by
  obtain ⟨a, C, dx, vs, h1, h2, h3, h4, h5⟩ := h
  refine ⟨a, C, dx, vs, h1, h2, h3, h4, h5.imp (fun ⟨x, y, z⟩ => ⟨x, ?_, ?_⟩) fun ⟨y, z⟩ => ⟨?_, ?_⟩⟩
  all_goals first
    | exact (List.mem_cons.mp y).elim (fun e => by cases e; cases hd) id
    | exact (List.mem_cons.mp z).elim (fun e => by cases e; cases hd) id

/-- no slot of ours holds the list at a -/
def NoOwn (σ : L2.St) (E : Env3) (a : Addr) : Prop := ∀ (i : Nat) (s : Sl3) (d : D), E[i]? = some s → s.ow = some d → σ[i]? ≠ some (some (V.ref a))
theorem St3.ownL {K : PySem.W.Frag} {B : Base3} {pn : Pend} {F H : Hp} {σ : L2.St} {E : Env3} {G : Reg} (S : St3 K B pn F H σ E G) (i : Nat) (ds : List D) (h : E[i]? = some (Sl3.own ds)) : ∃ a, σ[i]? = some (some (V.ref a)) ∧ Fre K B pn F H G a ds := by
  obtain ⟨a, h1, f⟩ := S.own i _ _ h rfl
  exact ⟨a, h1, f.l⟩
theorem same_upd {F : Hp} {p : Addr} {o : HO} (n : F p = none) : Same F (upd F p o) := fun b u h => by
  rw [upd_ne (ne_of_none h n)]; exact h

section
variable {K : PySem.W.Frag} {B : Base3} {pn : Pend} {F H : Hp} {σ : L2.St} {E : Env3} {G : Reg}
theorem regMem {a : Addr} {G : Reg} (h : a ∈ G.map (·.1)) : ∃ ds, (a, ds) ∈ G := by
  obtain ⟨p, hp, rfl⟩ := List.mem_map.mp h
  exact ⟨p.2, hp⟩
theorem Wld.regH (w : Wld K F H G) {a : Addr} (h : a ∈ G.map (·.1)) : ∃ o, H a = some o := by
  obtain ⟨ds, hd⟩ := regMem h
  obtain ⟨_, xs, e, _⟩ := w.reg a ds hd
  exact ⟨_, e⟩
theorem St3.baseNone (S : St3 K B pn F H σ E G) {p : Addr} (n : H p = none) : B.H p = none := by
  cases q : B.H p with
  | none => rfl
  | some o =>
    by_cases hg : p ∈ B.G
    · obtain ⟨o', e⟩ := S.w.regH (S.regk p hg)
      rw [n] at e; cases e
    · have := S.keepH p o q hg
      rw [n] at this; cases this
theorem Wld.fNone (w : Wld K F H G) {p : Addr} (n : H p = none) : F p = none := by
  cases q : F p with
  | none => rfl
  | some o => have := w.sub p o q; rw [n] at this; cases this
/-- an object laid at a free place, frozen at once -/
theorem St3.newF (S : St3 K B pn F H σ E G) {p : Addr} {o : HO} (n : H p = none) : St3 K B pn (upd F p o) (upd H p o) σ E G ∧ Same F (upd F p o) := by
  have nF := S.w.fNone n
  have sF : Same F (upd F p o) := same_upd nF
  have sH : Same H (upd H p o) := same_upd n
  have nB := S.baseNone n
  refine ⟨⟨⟨fun a u h => ?_, fun a ds h => ?_, S.w.nd⟩, fun a u h => sF _ _ (S.keepF a u h), fun a u h hg => sH _ _ (S.keepH a u h hg), fun a u h ht h2 => ?_, S.regs, S.regk, S.len, fun i d h => ?_, fun i s d h ho => ?_, S.ownd, fun a xs h => ?_, S.pnd, fun nm fs h => (S.news nm fs h).mono sF⟩, sF⟩
  · unfold upd at h ⊢
    split at h
    · rename_i e; rw [if_pos e]; exact h
    · rename_i e; rw [if_neg e]; exact S.w.sub a u h
  · obtain ⟨h1, xs, h2, h3⟩ := S.w.reg a ds h
    have ne : a ≠ p := ne_of_none h2 n
    exact ⟨by rw [upd_ne ne]; exact h1, xs, by rw [upd_ne ne]; exact h2, RegO.mono sF h3⟩
  · have ne : a ≠ p := ne_of_none h nB
    rw [upd_ne ne]; exact S.unfr a u h ht h2
  · obtain ⟨v, h1, h2⟩ := S.slot i d h
    exact ⟨v, h1, Rep.mono sF _ _ h2⟩
  · obtain ⟨a, h1, f⟩ := S.own i s d h ho
    obtain ⟨xs, e, r⟩ := f.ex
    have ne : a ≠ p := ne_of_none e n
    exact ⟨a, h1, ⟨by rw [upd_ne ne]; exact f.nF, f.nB, f.nG, f.nP, xs, by rw [upd_ne ne]; exact e, RepB.mono sF r⟩⟩
  · obtain ⟨h1, h2, h3, h4⟩ := S.pend a xs h
    have ne : a ≠ p := ne_of_none h1 n
    exact ⟨by rw [upd_ne ne]; exact h1, by rw [upd_ne ne]; exact h2, h3, h4⟩
/-- an object laid at a free place, left free -/
theorem St3.newU (S : St3 K B pn F H σ E G) {p : Addr} {o : HO} (n : H p = none) : St3 K B pn F (upd H p o) σ E G := by
  have nF := S.w.fNone n
  have sH : Same H (upd H p o) := same_upd n
  refine ⟨⟨fun a u h => sH _ _ (S.w.sub a u h), fun a ds h => ?_, S.w.nd⟩, S.keepF, fun a u h hg => sH _ _ (S.keepH a u h hg), S.unfr, S.regs, S.regk, S.len, S.slot, fun i s d h ho => ?_, S.ownd, fun a xs h => ?_, S.pnd, S.news⟩
  · obtain ⟨h1, xs, h2, h3⟩ := S.w.reg a ds h
    exact ⟨h1, xs, sH _ _ h2, h3⟩
  · obtain ⟨a, h1, f⟩ := S.own i s d h ho
    obtain ⟨xs, e, r⟩ := f.ex
    exact ⟨a, h1, ⟨f.nF, f.nB, f.nG, f.nP, xs, sH _ _ e, r⟩⟩
  · obtain ⟨h1, h2⟩ := S.pend a xs h
    exact ⟨sH _ _ h1, h2⟩
theorem St3.newNo (S : St3 K B pn F H σ E G) {p : Addr} (n : H p = none) : NoOwn σ E p := fun i s d h ho e => by
  obtain ⟨a, h1, f⟩ := S.own i s d h ho
  rw [e] at h1
  cases h1
  obtain ⟨xs, q, _⟩ := f.ex
  rw [n] at q; cases q
theorem St3.newFreX (S : St3 K B pn F H σ E G) {p : Addr} {o : HO} {d : D} (n : H p = none) (r : RepB K F d o) : FreX K B pn F (upd H p o) G p d ∧ NoOwn σ E p := by
  refine ⟨⟨S.w.fNone n, S.baseNone n, fun h => ?_, fun h => ?_, o, upd_same, r⟩, S.newNo n⟩
  · obtain ⟨o, q⟩ := S.w.regH h
    rw [n] at q; cases q
  · obtain ⟨q, hq, rfl⟩ := List.mem_map.mp h
    have := (S.pend q.1 q.2 hq).1
    rw [n] at this; cases this
theorem St3.newFre (S : St3 K B pn F H σ E G) {p : Addr} {xs : List V} {ds : List D} (n : H p = none) (r : RepL K F ds xs) : Fre K B pn F (upd H p (.lst xs)) G p ds ∧ NoOwn σ E p := by
  obtain ⟨f, no⟩ := S.newFreX (d := .lst ds) n ⟨xs, rfl, r⟩
  exact ⟨f.l, no⟩
/-- an object that nothing of ours names freezes -/
theorem St3.freezeAt (S : St3 K B pn F H σ E G) {a : Addr} {o : HO} (nF : F a = none) (nB : B.H a = none) (nG : a ∉ G.map (·.1)) (nP : a ∉ pn.map (·.1)) (no : NoOwn σ E a) (e : H a = some o) : St3 K B pn (upd F a o) H σ E G ∧ Same F (upd F a o) := by
  have sF : Same F (upd F a o) := same_upd nF
  refine ⟨⟨⟨fun b u h => ?_, fun b es h => ?_, S.w.nd⟩, fun b u h => sF _ _ (S.keepF b u h), S.keepH, fun b u h ht h2 => ?_, S.regs, S.regk, S.len, fun i d h => ?_, fun i s d h ho => ?_, S.ownd, fun b ys h => ?_, S.pnd, fun nm fs h => (S.news nm fs h).mono sF⟩, sF⟩
  · unfold upd at h
    split at h
    · rename_i q; subst q; rw [e]; exact h
    · exact S.w.sub b u h
  · obtain ⟨h1, ys, h2, h3⟩ := S.w.reg b es h
    have ne : b ≠ a := fun z => nG (by rw [← z]; exact List.mem_map.mpr ⟨_, h, rfl⟩)
    exact ⟨by rw [upd_ne ne]; exact h1, ys, h2, RegO.mono sF h3⟩
  · rw [upd_ne (ne_of_none h nB)]; exact S.unfr b u h ht h2
  · obtain ⟨v, h1, h2⟩ := S.slot i d h
    exact ⟨v, h1, Rep.mono sF _ _ h2⟩
  · obtain ⟨b, h1, g⟩ := S.own i s d h ho
    obtain ⟨ys, e2, r2⟩ := g.ex
    have ne : b ≠ a := fun z => no i s d h ho (by rw [← z]; exact h1)
    exact ⟨b, h1, ⟨by rw [upd_ne ne]; exact g.nF, g.nB, g.nG, g.nP, ys, e2, RepB.mono sF r2⟩⟩
  · obtain ⟨h1, h2, h3, h4⟩ := S.pend b ys h
    have ne : b ≠ a := fun z => nP (by rw [← z]; exact List.mem_map.mpr ⟨_, h, rfl⟩)
    exact ⟨h1, by rw [upd_ne ne]; exact h2, h3, h4⟩
/-- a free object freezes -/
theorem St3.freezeX (S : St3 K B pn F H σ E G) {a : Addr} {d : D} (f : FreX K B pn F H G a d) (no : NoOwn σ E a) : ∃ F', St3 K B pn F' H σ E G ∧ Same F F' ∧ Rep K F' d (.ref a) := by
  obtain ⟨o, e, r⟩ := f.ex
  obtain ⟨S2, s⟩ := S.freezeAt f.nF f.nB f.nG f.nP no e
  exact ⟨_, S2, s, (r.mono s).rep upd_same⟩
/-- a free list freezes -/
theorem St3.freeze (S : St3 K B pn F H σ E G) {a : Addr} {ds : List D} (f : Fre K B pn F H G a ds) (no : NoOwn σ E a) : ∃ F', St3 K B pn F' H σ E G ∧ Same F F' ∧ Rep K F' (.lst ds) (.ref a) := S.freezeX f.x no
/-- a slot's content becomes unknown to us -/
theorem St3.forget (S : St3 K B pn F H σ E G) (i : Nat) : St3 K B pn F H σ (E.set i Sl3.no) G := by
  have look : ∀ {j : Nat} {s : Sl3}, s ≠ Sl3.no → (E.set i Sl3.no)[j]? = some s → E[j]? = some s := fun {j s} hs h => by
    by_cases q : i = j
    · subst q
      rw [List.getElem?_set] at h
      simp only [if_true] at h
      split at h
      · cases h; exact absurd rfl hs
      · cases h
    · rw [List.getElem?_set_ne q] at h; exact h
  have ne : ∀ {s : Sl3} {d : D}, s.ow = some d → s ≠ Sl3.no := fun h q => by subst q; cases h
  exact ⟨S.w, S.keepF, S.keepH, S.unfr, S.regs, S.regk, by rw [List.length_set]; exact S.len, fun j d h => S.slot j d (look (fun q => nomatch q) h), fun j s d h ho => S.own j s d (look (ne ho) h) ho,
    fun j k s t d e a h1 h2 o1 o2 => S.ownd j k s t d e a (look (ne o1) h1) (look (ne o2) h2) o1 o2, S.pend, S.pnd, fun nm fs h => S.news nm fs (look (fun q => nomatch q) h)⟩
theorem set_look {E : Env3} {i j : Nat} {s t : Sl3} (h : (E.set i t)[j]? = some s) : (i = j ∧ s = t) ∨ (i ≠ j ∧ E[j]? = some s) := by
  by_cases q : i = j
  · subst q
    rw [List.getElem?_set] at h
    simp only [if_true] at h
    split at h
    · cases h; exact .inl ⟨rfl, rfl⟩
    · cases h
  · rw [List.getElem?_set_ne q] at h; exact .inr ⟨q, h⟩
/-- a slot that owns an object freezes it -/
theorem St3.freezeSlotX (S : St3 K B pn F H σ E G) {i : Nat} {s : Sl3} {d : D} {v : V} (h : E[i]? = some s) (ho : s.ow = some d) (hv : σ[i]? = some (some v)) : ∃ F', St3 K B pn F' H σ (E.set i (Sl3.val d)) G ∧ Same F F' ∧ Rep K F' d v := by
  obtain ⟨a, h1, f⟩ := S.own i s d h ho
  rw [hv] at h1
  cases h1
  have S2 := S.forget i
  obtain ⟨F', S3, sm, r⟩ := S2.freezeX f (fun j t e hj ht q => by
    rcases set_look hj with ⟨_, z⟩ | ⟨ne, z⟩
    · subst z; cases ht
    · exact ne (S.ownd i j s t d e a h z ho ht hv q))
  refine ⟨F', ⟨S3.w, S3.keepF, S3.keepH, S3.unfr, S3.regs, S3.regk, by rw [List.length_set]; exact S.len, fun j e hj => ?_, fun j t e hj ht => ?_, fun j k t u e g b h1 h2 o1 o2 => ?_, S3.pend, S3.pnd, fun nm fs h => ?_⟩, sm, r⟩
  · rcases set_look hj with ⟨q, z⟩ | ⟨ne, z⟩
    · cases z; subst q; exact ⟨_, hv, r⟩
    · exact S3.slot j e (by rw [List.getElem?_set_ne ne]; exact z)
  · rcases set_look hj with ⟨q, z⟩ | ⟨ne, z⟩
    · subst z; cases ht
    · exact S3.own j t e (by rw [List.getElem?_set_ne ne]; exact z) ht
  · rcases set_look h1 with ⟨q, z⟩ | ⟨ne, z⟩
    · subst z; cases o1
    · rcases set_look h2 with ⟨q', z'⟩ | ⟨ne', z'⟩
      · subst z'; cases o2
      · exact S.ownd j k t u e g b z z' o1 o2
  · rcases set_look h with ⟨q, z⟩ | ⟨ne, z⟩
    · cases z
    · exact S3.news nm fs (by rw [List.getElem?_set_ne ne]; exact z)
theorem St3.freezeSlot (S : St3 K B pn F H σ E G) {i : Nat} {ds : List D} {v : V} (h : E[i]? = some (Sl3.own ds)) (hv : σ[i]? = some (some v)) : ∃ F', St3 K B pn F' H σ (E.set i (Sl3.val (.lst ds))) G ∧ Same F F' ∧ Rep K F' (.lst ds) v := S.freezeSlotX h rfl hv
theorem setσ_look {σ : L2.St} {i j : Nat} {v : Option V} : i < σ.length → (σ.set i v)[j]? = if i = j then some v else σ[j]? := fun hl => by
  by_cases q : i = j
  · subst q; rw [List.getElem?_set_self hl, if_pos rfl]
  · rw [List.getElem?_set_ne q, if_neg q]
theorem lt_of_look {α : Type} {l : List α} {i : Nat} {x : α} (h : l[i]? = some x) : i < l.length := (List.getElem?_eq_some_iff.mp h).1
/-- a slot is set to a value -/
theorem St3.setVal (S : St3 K B pn F H σ E G) {i : Nat} {d : D} {v : V} (hi : i < σ.length) (r : Rep K F d v) : St3 K B pn F H (σ.set i (some v)) (E.set i (Sl3.val d)) G := by
  refine ⟨S.w, S.keepF, S.keepH, S.unfr, S.regs, S.regk, by rw [List.length_set, List.length_set]; exact S.len, fun j e h => ?_, fun j s e h ho => ?_, fun j k s t e g a h1 h2 o1 o2 h3 h4 => ?_, S.pend, S.pnd, fun nm fs h => ?_⟩
  · rw [setσ_look hi]
    rcases set_look h with ⟨q, z⟩ | ⟨ne, z⟩
    · cases z; rw [if_pos q]; exact ⟨v, rfl, r⟩
    · rw [if_neg ne]; exact S.slot j e z
  · rw [setσ_look hi]
    rcases set_look h with ⟨q, z⟩ | ⟨ne, z⟩
    · subst z; cases ho
    · rw [if_neg ne]; exact S.own j s e z ho
  · rcases set_look h1 with ⟨q, z⟩ | ⟨ne, z⟩
    · subst z; cases o1
    rcases set_look h2 with ⟨q', z'⟩ | ⟨ne', z'⟩
    · subst z'; cases o2
    rw [setσ_look hi, if_neg ne] at h3
    rw [setσ_look hi, if_neg ne'] at h4
    exact S.ownd j k s t e g a z z' o1 o2 h3 h4
  · rcases set_look h with ⟨q, z⟩ | ⟨ne, z⟩
    · cases z
    · rw [setσ_look hi, if_neg ne]; exact S.news nm fs z
/-- a slot takes a free object -/
theorem St3.setOwnX (S : St3 K B pn F H σ E G) {i : Nat} {s : Sl3} {d : D} {a : Addr} (hi : i < σ.length) (f : FreX K B pn F H G a d) (hs : s.ow = some d) (no : NoOwn σ E a) : St3 K B pn F H (σ.set i (some (V.ref a))) (E.set i s) G := by
  refine ⟨S.w, S.keepF, S.keepH, S.unfr, S.regs, S.regk, by rw [List.length_set, List.length_set]; exact S.len, fun j e h => ?_, fun j t e h ho => ?_, fun j k t u e g b h1 h2 o1 o2 h3 h4 => ?_, S.pend, S.pnd, fun nm fs h => ?_⟩
  · rw [setσ_look hi]
    rcases set_look h with ⟨q, z⟩ | ⟨ne, z⟩
    · subst z; cases hs
    · rw [if_neg ne]; exact S.slot j e z
  · rw [setσ_look hi]
    rcases set_look h with ⟨q, z⟩ | ⟨ne, z⟩
    · subst z
      rw [hs] at ho
      cases ho
      rw [if_pos q]; exact ⟨a, rfl, f⟩
    · rw [if_neg ne]; exact S.own j t e z ho
  · rw [setσ_look hi] at h3 h4
    rcases set_look h1 with ⟨q, z⟩ | ⟨ne, z⟩
    · rcases set_look h2 with ⟨q', z'⟩ | ⟨ne', z'⟩
      · omega
      · rw [if_pos q] at h3
        rw [if_neg ne'] at h4
        cases h3
        exact absurd h4 (no k u g z' o2)
    · rcases set_look h2 with ⟨q', z'⟩ | ⟨ne', z'⟩
      · rw [if_neg ne] at h3
        rw [if_pos q'] at h4
        cases h4
        exact absurd h3 (no j t e z o1)
      · rw [if_neg ne] at h3
        rw [if_neg ne'] at h4
        exact S.ownd j k t u e g b z z' o1 o2 h3 h4
  · rcases set_look h with ⟨q, z⟩ | ⟨ne, z⟩
    · subst z; cases hs
    · rw [setσ_look hi, if_neg ne]; exact S.news nm fs z
/-- a slot takes a free list -/
theorem St3.setOwn (S : St3 K B pn F H σ E G) {i : Nat} {ds : List D} {a : Addr} (hi : i < σ.length) (f : Fre K B pn F H G a ds) (no : NoOwn σ E a) : St3 K B pn F H (σ.set i (some (V.ref a))) (E.set i (Sl3.own ds)) G := S.setOwnX hi f.x rfl no
/-- the object that a slot owns is written -/
theorem St3.ownWriteX (S : St3 K B pn F H σ E G) {i : Nat} {s t : Sl3} {d e : D} {a : Addr} {o : HO} (h : E[i]? = some s) (hs : s.ow = some d) (hv : σ[i]? = some (some (V.ref a))) (ht : t.ow = some e) (r : RepB K F e o) : St3 K B pn F (upd H a o) σ (E.set i t) G := by
  obtain ⟨a', h1, f⟩ := S.own i s d h hs
  rw [hv] at h1
  cases h1
  obtain ⟨xs, ea, _⟩ := f.ex
  refine ⟨⟨fun b u hb => ?_, fun b fs hb => ?_, S.w.nd⟩, S.keepF, fun b u hb hg => ?_, S.unfr, S.regs, S.regk, by rw [List.length_set]; exact S.len, fun j g hj => ?_, fun j u g hj hu => ?_, fun j k u w g g' b h1 h2 o1 o2 h3 h4 => ?_, fun b zs hb => ?_, S.pnd, fun nm fs h => ?_⟩
  · have ne : b ≠ a := ne_of_none hb f.nF
    rw [upd_ne ne]; exact S.w.sub b u hb
  · obtain ⟨h1, zs, h2, h3⟩ := S.w.reg b fs hb
    have ne : b ≠ a := fun z => f.nG (by rw [← z]; exact List.mem_map.mpr ⟨_, hb, rfl⟩)
    exact ⟨h1, zs, by rw [upd_ne ne]; exact h2, h3⟩
  · have ne : b ≠ a := ne_of_none hb f.nB
    rw [upd_ne ne]; exact S.keepH b u hb hg
  · rcases set_look hj with ⟨q, z⟩ | ⟨ne, z⟩
    · subst z; cases ht
    · exact S.slot j g z
  · rcases set_look hj with ⟨q, z⟩ | ⟨ne, z⟩
    · subst z
      rw [ht] at hu
      cases hu
      subst q
      exact ⟨a, hv, ⟨f.nF, f.nB, f.nG, f.nP, o, upd_same, r⟩⟩
    · obtain ⟨b, e1, g2⟩ := S.own j u g z hu
      obtain ⟨zs, e2, r2⟩ := g2.ex
      have nab : b ≠ a := fun q => ne (S.ownd i j s u d g a h z hs hu hv (by rw [← q]; exact e1))
      exact ⟨b, e1, ⟨g2.nF, g2.nB, g2.nG, g2.nP, zs, by rw [upd_ne nab]; exact e2, r2⟩⟩
  · have w1 : ∃ s' d', E[j]? = some s' ∧ s'.ow = some d' := by
      rcases set_look h1 with ⟨q, z⟩ | ⟨ne, z⟩
      · subst q; exact ⟨_, _, h, hs⟩
      · exact ⟨_, _, z, o1⟩
    have w2 : ∃ s' d', E[k]? = some s' ∧ s'.ow = some d' := by
      rcases set_look h2 with ⟨q, z⟩ | ⟨ne, z⟩
      · subst q; exact ⟨_, _, h, hs⟩
      · exact ⟨_, _, z, o2⟩
    obtain ⟨_, _, w1, p1⟩ := w1
    obtain ⟨_, _, w2, p2⟩ := w2
    exact S.ownd j k _ _ _ _ b w1 w2 p1 p2 h3 h4
  · obtain ⟨h1, h2, h3, h4⟩ := S.pend b zs hb
    have ne : b ≠ a := fun z => f.nP (by rw [← z]; exact List.mem_map.mpr ⟨_, hb, rfl⟩)
    exact ⟨by rw [upd_ne ne]; exact h1, h2, h3, h4⟩
  · rcases set_look h with ⟨q, z⟩ | ⟨ne, z⟩
    · subst z; cases ht
    · exact S.news nm fs z
/-- the list that a slot owns is written -/
theorem St3.ownWrite (S : St3 K B pn F H σ E G) {i : Nat} {ds es : List D} {a : Addr} {ys : List V} (h : E[i]? = some (Sl3.own ds)) (hv : σ[i]? = some (some (V.ref a))) (r : RepL K F es ys) : St3 K B pn F (upd H a (.lst ys)) σ (E.set i (Sl3.own es)) G :=
  S.ownWriteX h rfl hv (t := Sl3.own es) (e := .lst es) rfl ⟨ys, rfl, r⟩
def regSet : Reg → Addr → List D → Reg
  | [], _, _ => []
  | (b, ds) :: r, a, es => if b = a then (a, es) :: r else (b, ds) :: regSet r a es
theorem regSet_dom (a : Addr) (es : List D) : ∀ G : Reg, (regSet G a es).map (·.1) = G.map (·.1)
  | [] => rfl
  | (b, ds) :: r => by
    unfold regSet
    by_cases h : b = a
    · rw [if_pos h, List.map_cons, List.map_cons]; subst h; rfl
    · rw [if_neg h, List.map_cons, List.map_cons, regSet_dom a es r]
theorem regSet_mem {a b : Addr} {es fs : List D} : ∀ {G : Reg}, (G.map (·.1)).Nodup → (b, fs) ∈ regSet G a es → (b = a ∧ fs = es) ∨ ((b, fs) ∈ G ∧ b ≠ a)
  | [], _, h => by cases h
  | (c, ds) :: r, nd, h => by
    unfold regSet at h
    rw [List.map_cons] at nd
    have nd' := List.nodup_cons.mp nd
    by_cases q : c = a
    · rw [if_pos q] at h
      rcases List.mem_cons.mp h with h | h
      · cases h; exact .inl ⟨rfl, rfl⟩
      · refine .inr ⟨List.mem_cons_of_mem _ h, fun e => nd'.1 ?_⟩
        show c ∈ _
        rw [q, ← e]
        exact List.mem_map.mpr ⟨_, h, rfl⟩
    · rw [if_neg q] at h
      rcases List.mem_cons.mp h with h | h
      · cases h; exact .inr ⟨List.mem_cons_self, q⟩
      · rcases regSet_mem nd'.2 h with z | ⟨z, ne⟩
        · exact .inl z
        · exact .inr ⟨List.mem_cons_of_mem _ z, ne⟩
/-- a register is written -/
theorem St3.regWrite (S : St3 K B pn F H σ E G) {ds es : List D} {a : Addr} {ys : List V} (h : (a, ds) ∈ G) (r : RepL K F es ys) : St3 K B pn F (upd H a (.lst ys)) σ E (regSet G a es) := by
  obtain ⟨nF, xs, ea, _⟩ := S.w.reg a ds h
  have ha : a ∈ G.map (·.1) := List.mem_map.mpr ⟨_, h, rfl⟩
  refine ⟨⟨fun b u hb => ?_, fun b fs hb => ?_, by rw [regSet_dom]; exact S.w.nd⟩, S.keepF, fun b u hb hg => ?_, S.unfr, by rw [regSet_dom]; exact S.regs, by rw [regSet_dom]; exact S.regk, S.len, S.slot, fun j s d hj ho => ?_, S.ownd, fun b zs hb => ?_, S.pnd, S.news⟩
  · have ne : b ≠ a := ne_of_none hb nF
    rw [upd_ne ne]; exact S.w.sub b u hb
  · rcases regSet_mem S.w.nd hb with ⟨e1, e2⟩ | ⟨hp, q⟩
    · subst e1 e2
      exact ⟨nF, _, upd_same, .lst r⟩
    · obtain ⟨h1, zs, h2, h3⟩ := S.w.reg b fs hp
      exact ⟨h1, zs, by rw [upd_ne q]; exact h2, h3⟩
  · rcases S.regs a ha with z | z
    · have ne : b ≠ a := fun q => hg (by rw [q]; exact z)
      rw [upd_ne ne]; exact S.keepH b u hb hg
    · have ne : b ≠ a := ne_of_none hb z
      rw [upd_ne ne]; exact S.keepH b u hb hg
  · obtain ⟨b, e1, g⟩ := S.own j s d hj ho
    obtain ⟨zs, e2, r2⟩ := g.ex
    have nab : b ≠ a := fun q => g.nG (by rw [q]; exact ha)
    exact ⟨b, e1, ⟨g.nF, g.nB, by rw [regSet_dom]; exact g.nG, g.nP, zs, by rw [upd_ne nab]; exact e2, r2⟩⟩
  · obtain ⟨h1, h2, h3, h4⟩ := S.pend b zs hb
    have ne : b ≠ a := fun z => h4 (by rw [z]; exact ha)
    exact ⟨by rw [upd_ne ne]; exact h1, h2, h3, by rw [regSet_dom]; exact h4⟩
/-- a free list becomes pending, comes back -/
theorem St3.pendOn (S : St3 K B pn F H σ E G) {a : Addr} {o : HO} (hF : F a = none) (hB : B.H a = none) (hG : a ∉ G.map (·.1)) (hP : a ∉ pn.map (·.1)) (hH : H a = some o) (no : NoOwn σ E a) (nt : isTp o = false := by rfl) : St3 K B ((a, o) :: pn) F H σ E G := by
  refine ⟨S.w, S.keepF, S.keepH, S.unfr, S.regs, S.regk, S.len, S.slot, fun i s d h ho => ?_, S.ownd, fun b ys h => ?_, ?_, fun nm fs h => (S.news nm fs h).push⟩
  · obtain ⟨b, h1, f⟩ := S.own i s d h ho
    refine ⟨b, h1, ⟨f.nF, f.nB, f.nG, ?_, f.ex⟩⟩
    rw [List.map_cons]
    intro z
    rcases List.mem_cons.mp z with z | z
    · have z' : b = a := z
      exact no i s d h ho (by rw [← z']; exact h1)
    · exact f.nP z
  · rcases List.mem_cons.mp h with h | h
    · cases h; exact ⟨hH, hF, hB, hG⟩
    · exact S.pend b ys h
  · rw [List.map_cons]
    refine ⟨List.nodup_cons.mpr ⟨hP, S.pnd.1⟩, fun p hp => ?_⟩
    rcases List.mem_cons.mp hp with q | q
    · subst q; exact nt
    · exact S.pnd.2 p q
theorem St3.pendOff {a : Addr} {o : HO} (S : St3 K B ((a, o) :: pn) F H σ E G) (hd : Dat o := by exact .lst) : St3 K B pn F H σ E G ∧ F a = none ∧ B.H a = none ∧ a ∉ G.map (·.1) ∧ a ∉ pn.map (·.1) ∧ H a = some o ∧ NoOwn σ E a := by
  obtain ⟨h1, h2, h3, h4⟩ := S.pend a _ List.mem_cons_self
  have nd := S.pnd.1
  rw [List.map_cons] at nd
  refine ⟨⟨S.w, S.keepF, S.keepH, S.unfr, S.regs, S.regk, S.len, S.slot, fun i s d h ho => ?_, S.ownd, fun b ys h => S.pend b ys (List.mem_cons_of_mem _ h), ⟨(List.nodup_cons.mp nd).2, fun p hp => S.pnd.2 p (List.mem_cons_of_mem _ hp)⟩, fun nm fs h => (S.news nm fs h).pop hd⟩, h2, h3, h4, (List.nodup_cons.mp nd).1, h1, fun i s d h ho e => ?_⟩
  · obtain ⟨b, h1, f⟩ := S.own i s d h ho
    exact ⟨b, h1, ⟨f.nF, f.nB, f.nG, fun z => f.nP (by rw [List.map_cons]; exact List.mem_cons_of_mem _ z), f.ex⟩⟩
  · obtain ⟨b, e1, f⟩ := S.own i s d h ho
    rw [e] at e1
    cases e1
    exact f.nP (by rw [List.map_cons]; exact List.mem_cons_self)
/-- a pending list is written -/
theorem St3.pendWrite {a : Addr} {xs ys : List V} (S : St3 K B ((a, .lst xs) :: pn) F H σ E G) : St3 K B ((a, .lst ys) :: pn) F (upd H a (.lst ys)) σ E G := by
  obtain ⟨S0, hF, hB, hG, hP, hH, no⟩ := S.pendOff
  have S1 : St3 K B pn F (upd H a (.lst ys)) σ E G := by
    refine ⟨⟨fun b u hb => ?_, fun b fs hb => ?_, S.w.nd⟩, S.keepF, fun b u hb hg => ?_, S.unfr, S.regs, S.regk, S.len, S.slot, fun j s d hj ho => ?_, S.ownd, fun b zs hb => ?_, S0.pnd, S0.news⟩
    · have ne : b ≠ a := ne_of_none hb hF
      rw [upd_ne ne]; exact S.w.sub b u hb
    · obtain ⟨h1, zs, h2, h3⟩ := S.w.reg b fs hb
      have ne : b ≠ a := fun z => hG (by rw [← z]; exact List.mem_map.mpr ⟨_, hb, rfl⟩)
      exact ⟨h1, zs, by rw [upd_ne ne]; exact h2, h3⟩
    · have ne : b ≠ a := ne_of_none hb hB
      rw [upd_ne ne]; exact S.keepH b u hb hg
    · obtain ⟨b, e1, g⟩ := S0.own j s d hj ho
      obtain ⟨zs, e2, r2⟩ := g.ex
      have nab : b ≠ a := fun q => no j s d hj ho (by rw [← q]; exact e1)
      exact ⟨b, e1, ⟨g.nF, g.nB, g.nG, g.nP, zs, by rw [upd_ne nab]; exact e2, r2⟩⟩
    · obtain ⟨h1, h2, h3, h4⟩ := S0.pend b zs hb
      have ne : b ≠ a := fun z => hP (by rw [← z]; exact List.mem_map.mpr ⟨_, hb, rfl⟩)
      exact ⟨by rw [upd_ne ne]; exact h1, h2, h3, h4⟩
  exact S1.pendOn hF hB hG hP upd_same no
end
end L3

set_option Elab.async false
set_option maxRecDepth 100000
set_option maxHeartbeats 4000000
/-! L3, part b: judgements over plain values. -/
namespace L3
open PySem PySem.Spec PyProof.Rows L2

/-- what an expression gives: a value; the list that a slot owns; a list that stands free -/
inductive Res where
  | val (d : D) | sl (i : Nat) | fr (ds : List D)
  /-- a dict that stands free -/
  | frD (d : D)
abbrev DK := Res → Env3 → Reg → Prop
abbrev DE := Env3 → Reg → DK → Prop
abbrev DT := Env3 → Reg → (Bool → Env3 → Reg → Prop) → Prop
abbrev DA := Env3 → Reg → (List D → Env3 → Reg → Prop) → Prop
/-- an exception: its class's name, the field that it keeps -/
abbrev Exc3 := Str × Option (Str × D)
abbrev DW := Exc3 → Env3 → Reg → Prop

section
variable (K : PySem.W.Frag) (B : Base3) (pn : Pend) (F H : Hp) (σ : L2.St) (E : Env3) (G : Reg)
def RepR : Res → V → Prop
  | .val d, v => Rep K F d v
  | .sl i, v => σ[i]? = some (some v)
  | .fr ds, v => ∃ a, v = .ref a ∧ Fre K B pn F H G a ds ∧ NoOwn σ E a
  | .frD d, v => ∃ a, v = .ref a ∧ FreX K B pn F H G a d ∧ NoOwn σ E a
def RepH : D → V → Prop := fun d v => Rep K F d v ∨ ∃ a o, v = .ref a ∧ H a = some o ∧ RepB K F d o
end
/-- what it is worth where it is used -/
def Res.get (r : Res) (E : Env3) : Option D := match r with
  | .val d => some d
  | .fr ds => some (.lst ds)
  | .frD d => some d
  | .sl i => match E[i]? with
    | some (Sl3.val d) => some d
    | some (Sl3.own ds) => some (.lst ds)
    | some (Sl3.ownD d) => some d
    | _ => none
/-- frozen -/
def Res.fz : Res → Res
  | .val d => .val d
  | .sl i => .sl i
  | .fr ds => .val (.lst ds)
  | .frD d => .val d
/-- .. for good: the value, the slots behind it -/
def Res.ice (r : Res) (E : Env3) : Option (D × Env3) := match r with
  | .val d => some (d, E)
  | .fr ds => some (.lst ds, E)
  | .frD d => some (d, E)
  | .sl i => match E[i]? with
    | some (Sl3.val d) => some (d, E)
    | some (Sl3.own ds) => some (.lst ds, E.set i (Sl3.val (.lst ds)))
    | some (Sl3.ownD d) => some (d, E.set i (Sl3.val d))
    | _ => none

inductive RepHL (K : PySem.W.Frag) (F H : Hp) : List D → List V → Prop
  | nil : RepHL K F H [] []
  | cons {d : D} {ds : List D} {v : V} {vs : List V} : RepH K F H d v → RepHL K F H ds vs → RepHL K F H (d :: ds) (v :: vs)

section
variable {K : PySem.W.Frag} {B : Base3} {pn : Pend} {F F' H H' : Hp} {σ : L2.St} {E E' : Env3} {G G' : Reg}
theorem RepH.mono {d : D} {v : V} (r : RepH K F H d v) (e : Same F F') (h : ∀ a o, H a = some o → H' a = some o) : RepH K F' H' d v := by
  rcases r with r | ⟨a, o, rfl, h1, h2⟩
  · exact .inl (Rep.mono e _ _ r)
  · exact .inr ⟨a, o, rfl, h _ _ h1, h2.mono e⟩
theorem St3.resolve (S : St3 K B pn F H σ E G) {i : Nat} {v : V} {d : D} (hv : σ[i]? = some (some v)) (h : (Res.sl i).get E = some d) : RepH K F H d v := by
  unfold Res.get at h
  dsimp only at h
  split at h
  · rename_i d' q
    cases h
    obtain ⟨v', h1, h2⟩ := S.slot i d q
    rw [hv] at h1
    cases h1
    exact .inl h2
  · rename_i ds q
    cases h
    obtain ⟨a, h1, f⟩ := S.own i _ _ q rfl
    rw [hv] at h1
    cases h1
    obtain ⟨o, h2, h3⟩ := f.ex
    exact .inr ⟨a, o, rfl, h2, h3⟩
  · rename_i d' q
    cases h
    obtain ⟨a, h1, f⟩ := S.own i _ _ q rfl
    rw [hv] at h1
    cases h1
    obtain ⟨o, h2, h3⟩ := f.ex
    exact .inr ⟨a, o, rfl, h2, h3⟩
  · cases h
theorem St3.getH (S : St3 K B pn F H σ E G) {r : Res} {v : V} {d : D} (hr : RepR K B pn F H σ E G r v) (h : r.get E = some d) : RepH K F H d v := by
  cases r with
  | val d' => cases h; exact .inl hr
  | sl i => exact S.resolve hr h
  | fr ds =>
    cases h
    obtain ⟨a, rfl, f, _⟩ := hr
    obtain ⟨xs, h2, h3⟩ := f.ex
    exact .inr ⟨a, _, rfl, h2, xs, rfl, h3⟩
  | frD d' =>
    cases h
    obtain ⟨a, rfl, f, _⟩ := hr
    obtain ⟨o, h2, h3⟩ := f.ex
    exact .inr ⟨a, o, rfl, h2, h3⟩
/-- a free list freezes; the others stand -/
theorem St3.fz (S : St3 K B pn F H σ E G) {r : Res} {v : V} (hr : RepR K B pn F H σ E G r v) : ∃ F', St3 K B pn F' H σ E G ∧ Same F F' ∧ RepR K B pn F' H σ E G r.fz v := by
  cases r with
  | val d => exact ⟨F, S, Same.refl F, hr⟩
  | sl i => exact ⟨F, S, Same.refl F, hr⟩
  | fr ds =>
    obtain ⟨a, rfl, f, no⟩ := hr
    exact S.freeze f no
  | frD d =>
    obtain ⟨a, rfl, f, no⟩ := hr
    exact S.freezeX f no
/-- what is frozen keeps its sense further on -/
theorem RepR.onward {r : Res} {v : V} (hr : RepR K B pn F H σ E G r.fz v) (e : Same F F') : RepR K B pn F' H' σ E' G' r.fz v := by
  cases r with
  | val d => exact Rep.mono e _ _ hr
  | sl i => exact hr
  | fr ds => exact Rep.mono e _ _ hr
  | frD d => exact Rep.mono e _ _ hr
theorem St3.ice (S : St3 K B pn F H σ E G) {r : Res} {v : V} {d : D} {E' : Env3} (hr : RepR K B pn F H σ E G r v) (h : r.ice E = some (d, E')) : ∃ F', St3 K B pn F' H σ E' G ∧ Same F F' ∧ Rep K F' d v := by
  cases r with
  | val d' => cases h; exact ⟨F, S, Same.refl F, hr⟩
  | fr ds =>
    cases h
    obtain ⟨a, rfl, f, no⟩ := hr
    exact S.freeze f no
  | frD d' =>
    cases h
    obtain ⟨a, rfl, f, no⟩ := hr
    exact S.freezeX f no
  | sl i =>
    unfold Res.ice at h
    dsimp only at h
    split at h
    · rename_i d' q
      cases h
      obtain ⟨v', h1, h2⟩ := S.slot i d q
      have hr' : σ[i]? = some (some v) := hr
      rw [hr'] at h1
      cases h1
      exact ⟨F, S, Same.refl F, h2⟩
    · rename_i ds q
      cases h
      exact S.freezeSlot q hr
    · rename_i d' q
      cases h
      exact S.freezeSlotX q rfl hr
    · cases h
end

/-! ### the lifted readings -/
section
variable (K : PySem.W.Frag) (B : Base3)
def Lift (te : DE) : TE := fun σ H Q => ∃ pn F E G k, St3 K B pn F H σ E G ∧ te E G k ∧
  ∀ r E' G', k r E' G' → ∀ v F' H', St3 K B pn F' H' σ E' G' → Same F F' → RepR K B pn F' H' σ E' G' r v → Q v H'
def LiftT (tt : DT) : TT := fun σ H Q => ∃ pn F E G k, St3 K B pn F H σ E G ∧ tt E G k ∧
  ∀ b E' G', k b E' G' → ∀ F' H', St3 K B pn F' H' σ E' G' → Same F F' → Q b H'
/-- arguments, frozen -/
def LiftA (ta : DA) : TA := fun σ H Q => ∃ pn F E G k, St3 K B pn F H σ E G ∧ ta E G k ∧
  ∀ ds E' G', k ds E' G' → ∀ vs F' H', St3 K B pn F' H' σ E' G' → Same F F' → RepL K F' ds vs → Q vs H'
/-- arguments, as they stand at the call -/
def LiftP (ta : DA) : TA := fun σ H Q => ∃ pn F E G k, St3 K B pn F H σ E G ∧ ta E G k ∧
  ∀ ds E' G', k ds E' G' → ∀ vs F' H', St3 K B pn F' H' σ E' G' → Same F F' → RepHL K F' H' ds vs → Q vs H'
end
section
variable (X : Cx) (B : Base3)
structure LE (e : Expr) (te : DE) : Prop where
  pe : PE X e (Lift X.K B te)
structure LT (e : Expr) (tt : DT) : Prop where
  pt : PT X e (LiftT X.K B tt)
/-- a test whatever its 'whole' is -/
structure LW (e : Expr) (tt : DT) : Prop where
  pw : PW X e (LiftT X.K B tt)
structure LA (es : List Expr) (ta : DA) : Prop where
  pa : PA X es (LiftA X.K B ta)
structure LP (es : List Expr) (ta : DA) : Prop where
  pa : PA X es (LiftP X.K B ta)
end
section
variable {X : Cx}
theorem pe_imp {e : Expr} {t t' : TE} (h : PE X e t) (hi : ∀ σ H Q, t' σ H Q → t σ H Q) : PE X e t' := ⟨fun pins s σ H Q I hw => h.run pins s σ H Q I (hi σ H Q hw)⟩
theorem pt_imp {e : Expr} {t t' : TT} (h : PT X e t) (hi : ∀ σ H Q, t' σ H Q → t σ H Q) : PT X e t' := ⟨fun pins s σ H Q I hw => h.run pins s σ H Q I (hi σ H Q hw)⟩
theorem pw_imp {e : Expr} {t t' : TT} (h : PW X e t) (hi : ∀ σ H Q, t' σ H Q → t σ H Q) : PW X e t' := ⟨fun wh pins s σ H Q I hw => h.run wh pins s σ H Q I (hi σ H Q hw)⟩
theorem pa_imp {e : List Expr} {t t' : TA} (h : PA X e t) (hi : ∀ σ H Q, t' σ H Q → t σ H Q) : PA X e t' := ⟨fun pos pins s σ H Q I hw => h.run pos pins s σ H Q I (hi σ H Q hw)⟩
theorem ps_imp {e : Stmt} {t t' : TS} (h : PS X e t) (hi : ∀ D σ H, t' D σ H → t D σ H) : PS X e t' := ⟨fun pins s σ H D I hw => h.run pins s σ H D I (hi D σ H hw)⟩
theorem pss_imp {e : List Stmt} {t t' : TS} (h : PSs X e t) (hi : ∀ D σ H, t' D σ H → t D σ H) : PSs X e t' := ⟨fun pins s σ H D I hw => h.run pins s σ H D I (hi D σ H hw)⟩
end

/-! ### names, constants -/
def dVar (i : Nat) : DE := fun E G k => match E[i]? with
  | some (Sl3.val d) => k (.val d) E G
  | some (Sl3.own _) => k (.sl i) E G
  | some (Sl3.ownD _) => k (.sl i) E G
  | _ => False
def dC (d : D) : DE := fun E G k => k (.val d) E G
section
variable {X : Cx} {B : Base3}
theorem le_pv {i : Nat} {e : Expr} (h : PE X e (tVar i)) : LE X B e (dVar i) := ⟨pe_imp h fun σ H Q ⟨pn, F, E, G, k, S, ht, hk⟩ => by
  unfold dVar at ht
  split at ht
  · rename_i d q
    obtain ⟨v, h1, h2⟩ := S.slot i d q
    exact ⟨v, h1, hk _ _ _ ht v F H S (Same.refl F) h2⟩
  · rename_i ds q
    obtain ⟨a, h1, h2⟩ := S.own i _ _ q rfl
    exact ⟨_, h1, hk _ _ _ ht _ F H S (Same.refl F) h1⟩
  · rename_i d q
    obtain ⟨a, h1, h2⟩ := S.own i _ _ q rfl
    exact ⟨_, h1, hk _ _ _ ht _ F H S (Same.refl F) h1⟩
  · exact ht.elim⟩
theorem le_c {d : D} {v : V} {e : Expr} (h : PE X e (tC v)) (r : ∀ F, Rep X.K F d v) : LE X B e (dC d) := ⟨pe_imp h fun σ H Q ⟨pn, F, E, G, k, S, ht, hk⟩ =>
  hk _ _ _ ht v F H S (Same.refl F) (r F)⟩
theorem le_int {i j pos} : LE X B (.Constant (.int i) j pos) (dC (.int i)) := le_c pe_int fun _ => .int i
theorem le_bl {b j pos} : LE X B (.Constant (.bool b) j pos) (dC (.bl b)) := le_c pe_bl fun _ => .bl b
theorem le_non {j pos} : LE X B (.Constant .none j pos) (dC .non) := le_c pe_non fun _ => .non
theorem le_str {x j pos} : LE X B (.Constant (.str x) j pos) (dC (.str x)) := le_c pe_str fun _ => .str x
end

/-! ### operators -/
/-- what an operator's reading makes of plain operands -/
def ROp (X : Cx) (B : Base3) (r : R2) (rd : Reg → D → D → (Res → Prop) → Prop) : Prop :=
  ∀ pn F H σ E G x y d e k Q, St3 X.K B pn F H σ E G → RepH X.K F H d x → RepH X.K F H e y → rd G d e k →
    (∀ res, k res → ∀ v F' H', St3 X.K B pn F' H' σ E G → Same F F' → RepR X.K B pn F' H' σ E G res v → Q v H') → r x y H Q
def dOp (rd : Reg → D → D → (Res → Prop) → Prop) (ta tb : DE) : DE := fun E G k => ta E G fun x E1 G1 => tb E1 G1 fun y E2 G2 =>
  ∃ d, x.fz.get E2 = some d ∧ ∃ e, y.get E2 = some e ∧ rd G2 d e fun r => k r E2 G2
section
variable {X : Cx} {B : Base3}
/-- two operands -/
theorem two {ta tb : DE} {σ : L2.St} {H : Hp} {Q : VK} {r : R2} {rd : Reg → D → D → (Res → Prop) → Prop} (hr : ROp X B r rd) (h : Lift X.K B (dOp rd ta tb) σ H Q) : tOp r (Lift X.K B ta) (Lift X.K B tb) σ H Q := by
  obtain ⟨pn, F, E, G, k, S, ht, hk⟩ := h
  refine ⟨pn, F, E, G, _, S, ht, fun x E1 G1 h1 v F1 H1 S1 s1 r1 => ?_⟩
  obtain ⟨F1', S1', s1', r1'⟩ := S1.fz r1
  refine ⟨pn, F1', E1, G1, _, S1', h1, fun y E2 G2 h2 u F2 H2 S2 s2 r2 => ?_⟩
  obtain ⟨d, hd, e, he, h3⟩ := h2
  refine hr pn F2 H2 σ E2 G2 v u d e _ Q S2 (S2.getH (r1'.onward s2) hd) (S2.getH r2 he) h3 fun res hres z F' H' S' s' rr => ?_
  exact hk _ _ _ hres z F' H' S' ((s1.trans s1').trans (s2.trans s')) rr
theorem le_op {op : Operator} {r : R2} {rd : Reg → D → D → (Res → Prop) → Prop} {a b : Expr} {ta tb : DE} {pos : Pos} (ho : OpR X (binaryOp op) r) (hr : ROp X B r rd) (ha : LE X B a ta) (hb : LE X B b tb) : LE X B (.BinOp a op b pos) (dOp rd ta tb) :=
  ⟨pe_imp (pe_op ho ha.pe hb.pe) fun _ _ _ h => two hr h⟩
theorem le_cmp {op : CmpOp} {r : R2} {rd : Reg → D → D → (Res → Prop) → Prop} {a b : Expr} {ta tb : DE} {pos : Pos} (ho : OpR X (compareOp op) r) (hr : ROp X B r rd) (ha : LE X B a ta) (hb : LE X B b tb) (hm : behindInMarks op b = false) : LE X B (.Compare a [op] [b] pos) (dOp rd ta tb) :=
  ⟨pe_imp (pe_cmpR ho ha.pe hb.pe hm) fun _ _ _ h => two hr h⟩
theorem le_ix {r : R2} {rd : Reg → D → D → (Res → Prop) → Prop} {a b : Expr} {ta tb : DE} {pos : Pos} (ho : IxR X r) (hr : ROp X B r rd) (ha : LE X B a ta) (hb : LE X B b tb) (hs : PlainIx b) : LE X B (.Subscript a b pos) (dOp rd ta tb) :=
  ⟨pe_imp (pe_ix ho ha.pe hb.pe hs) fun _ _ _ h => two hr h⟩

/-! ### tests -/
def dTest (te : DE) : DT := fun E G k => te E G fun r E1 G1 => ∃ b, r = .val (.bl b) ∧ k b E1 G1
theorem lt_val {e : Expr} {te : DE} (h : LE X B e te) (he : ∀ whole, isTrue e X.env whole = (do let v ← whole; standAt e.pos; holding [v] (truthy v)) := by intro _; rfl) : LT X B e (dTest te) :=
  ⟨pt_imp (pt_val h.pe he) fun σ H Q ⟨pn, F, E, G, k, S, ht, hk⟩ => ⟨pn, F, E, G, _, S, ht, fun r E1 G1 ⟨b, e1, h1⟩ v F1 H1 S1 s1 r1 => by
    subst e1
    cases r1
    exact ⟨b, rfl, hk _ _ _ h1 F1 H1 S1 s1⟩⟩⟩
theorem lt_cmp {op : CmpOp} {r : R2} {rd : Reg → D → D → (Res → Prop) → Prop} {a b : Expr} {ta tb : DE} {pos : Pos} (ho : OpR X (compareOp op) r) (hr : ROp X B r rd) (ha : LE X B a ta) (hb : LE X B b tb) (hm : behindInMarks op b = false) : LT X B (.Compare a [op] [b] pos) (dTest (dOp rd ta tb)) :=
  ⟨pt_imp (pt_cmpR ho ha.pe hb.pe hm) fun σ H Q ⟨pn, F, E, G, k, S, ht, hk⟩ => by
    refine two (Q := fun x H' => ∃ k, x = .bl k ∧ Q k H') hr ⟨pn, F, E, G, _, S, ht, fun r E1 G1 ⟨b, e1, h1⟩ v F1 H1 S1 s1 r1 => ?_⟩
    subst e1
    cases r1
    exact ⟨b, rfl, hk _ _ _ h1 F1 H1 S1 s1⟩⟩
def dNot (t : DT) : DT := fun E G k => t E G fun b E1 G1 => k (!b) E1 G1
def dAnd (t u : DT) : DT := fun E G k => t E G fun b E1 G1 => if b = true then u E1 G1 k else k false E1 G1
def dOr (t u : DT) : DT := fun E G k => t E G fun b E1 G1 => if b = true then k true E1 G1 else u E1 G1 k
theorem LW.lt {e : Expr} {t : DT} (h : LW X B e t) : LT X B e t := ⟨h.pw.pt⟩
theorem lt_not {a : Expr} {t : DT} {pos : Pos} (ha : LT X B a t) : LT X B (.UnaryOp .Not a pos) (dNot t) :=
  ⟨pt_imp (pt_not ha.pt) fun σ H Q ⟨pn, F, E, G, k, S, ht, hk⟩ => ⟨pn, F, E, G, _, S, ht, fun b E1 G1 h1 F1 H1 S1 s1 => hk _ _ _ h1 F1 H1 S1 s1⟩⟩
theorem lw_or1 {a : Expr} {t : DT} {pos : Pos} (ha : LT X B a t) : LW X B (.BoolOp .Or [a] pos) t := ⟨pw_or1 ha.pt⟩
theorem lw_or {a b : Expr} {rest : List Expr} {t u : DT} {pos : Pos} (ha : LT X B a t) (hb : LW X B (.BoolOp .Or (b :: rest) pos) u) : LW X B (.BoolOp .Or (a :: b :: rest) pos) (dOr t u) :=
  ⟨pw_imp (pw_or ha.pt hb.pw) fun σ H Q ⟨pn, F, E, G, k, S, ht, hk⟩ => ⟨pn, F, E, G, _, S, ht, fun b E1 G1 h1 F1 H1 S1 s1 => by
    cases b with
    | true => exact hk _ _ _ h1 F1 H1 S1 s1
    | false => exact ⟨pn, F1, E1, G1, k, S1, h1, fun b' E2 G2 h2 F2 H2 S2 s2 => hk _ _ _ h2 F2 H2 S2 (s1.trans s2)⟩⟩⟩
/-- .. as values -/
def dAndV (ta tb : DE) : DE := fun E G k => ta E G fun r E1 G1 => ∃ b, r = .val (.bl b) ∧ if b = true then tb E1 G1 k else k (.val (.bl false)) E1 G1
def dOrV (ta tb : DE) : DE := fun E G k => ta E G fun r E1 G1 => ∃ b, r = .val (.bl b) ∧ if b = true then k (.val (.bl true)) E1 G1 else tb E1 G1 k
def dNotV (ta : DE) : DE := fun E G k => ta E G fun r E1 G1 => ∃ b, r = .val (.bl b) ∧ k (.val (.bl (!b))) E1 G1
def dIf (t : DT) (ta tb : DE) : DE := fun E G k => t E G fun b E1 G1 => if b = true then ta E1 G1 k else tb E1 G1 k
theorem le_ifExp {c a b : Expr} {t : DT} {ta tb : DE} {pos : Pos} (hc : LT X B c t) (ha : LE X B a ta) (hb : LE X B b tb) : LE X B (.IfExp c a b pos) (dIf t ta tb) :=
  ⟨pe_imp (pe_ifExp hc.pt ha.pe hb.pe) fun σ H Q ⟨pn, F, E, G, k, S, ht, hk⟩ => ⟨pn, F, E, G, _, S, ht, fun b E1 G1 h1 F1 H1 S1 s1 => by
    cases b with
    | true => exact ⟨pn, F1, E1, G1, k, S1, h1, fun b' E2 G2 h2 v F2 H2 S2 s2 r2 => hk _ _ _ h2 v F2 H2 S2 (s1.trans s2) r2⟩
    | false => exact ⟨pn, F1, E1, G1, k, S1, h1, fun b' E2 G2 h2 v F2 H2 S2 s2 r2 => hk _ _ _ h2 v F2 H2 S2 (s1.trans s2) r2⟩⟩⟩
/-- unary -/
def RUn (X : Cx) (B : Base3) (r : V → Hp → VK → Prop) (rd : D → (Res → Prop) → Prop) : Prop :=
  ∀ pn F H σ E G x d k Q, St3 X.K B pn F H σ E G → RepH X.K F H d x → rd d k →
    (∀ res, k res → ∀ v F' H', St3 X.K B pn F' H' σ E G → Same F F' → RepR X.K B pn F' H' σ E G res v → Q v H') → r x H Q
def dUn (rd : D → (Res → Prop) → Prop) (ta : DE) : DE := fun E G k => ta E G fun x E1 G1 => ∃ d, x.get E1 = some d ∧ rd d fun r => k r E1 G1
theorem le_un {op : UnaryOp} {r : V → Hp → VK → Prop} {rd : D → (Res → Prop) → Prop} {a : Expr} {ta : DE} {pos : Pos} (ho : UnR X (unaryOp op) r) (hr : RUn X B r rd) (ha : LE X B a ta) : LE X B (.UnaryOp op a pos) (dUn rd ta) :=
  ⟨pe_imp (pe_un ho ha.pe) fun σ H Q ⟨pn, F, E, G, k, S, ht, hk⟩ => ⟨pn, F, E, G, _, S, ht, fun x E1 G1 ⟨d, hd, h1⟩ v F1 H1 S1 s1 r1 =>
    hr pn F1 H1 σ E1 G1 v d _ Q S1 (S1.getH r1 hd) h1 fun res hres u F2 H2 S2 s2 r2 => hk _ _ _ hres u F2 H2 S2 (s1.trans s2) r2⟩⟩
/-- a < b < c -/
def dChain (rd rd' : Reg → D → D → (Res → Prop) → Prop) (ta tb tc : DE) : DE := fun E G k => ta E G fun x E1 G1 => tb E1 G1 fun y E2 G2 =>
  ∃ d, x.fz.get E2 = some d ∧ ∃ e, y.fz.get E2 = some e ∧ rd G2 d e fun r => ∃ b, r = .val (.bl b) ∧
    if b = true then tc E2 G2 fun z E3 G3 => ∃ e', y.fz.get E3 = some e' ∧ ∃ f, z.get E3 = some f ∧ rd' G3 e' f fun r => k r E3 G3 else k (.val (.bl false)) E2 G2
end
end L3

set_option Elab.async false
set_option maxRecDepth 100000
set_option maxHeartbeats 4000000
/-! L3, part c: chains, arguments, displays, slices, calls, statements, loops, comprehensions, defs. -/
namespace L3
open PySem PySem.Spec PyProof.Rows L2

section
variable {X : Cx} {B : Base3}
/-! ### arguments -/
def dNil : DA := fun E G k => k [] E G
def dCons (ta : DE) (tr : DA) : DA := fun E G k => ta E G fun x E1 G1 => ∃ d E2, x.ice E1 = some (d, E2) ∧ tr E2 G1 fun ds E3 G3 => k (d :: ds) E3 G3
def dPCons (ta : DE) (tr : DA) : DA := fun E G k => ta E G fun x E1 G1 => tr E1 G1 fun ds E3 G3 => ∃ d, x.fz.get E3 = some d ∧ k (d :: ds) E3 G3
theorem la_nil : LA X B [] dNil := ⟨pa_imp pa_nil fun σ H Q ⟨pn, F, E, G, k, S, ht, hk⟩ => hk _ _ _ ht _ F H S (Same.refl F) .nil⟩
theorem lp_nil : LP X B [] dNil := ⟨pa_imp pa_nil fun σ H Q ⟨pn, F, E, G, k, S, ht, hk⟩ => hk _ _ _ ht _ F H S (Same.refl F) .nil⟩
theorem la_cons {e : Expr} {es : List Expr} {ta : DE} {tr : DA} (ha : LE X B e ta) (hr : LA X B es tr) (hs : starEach (e :: es) X.env = (false, eval e X.env) :: starEach es X.env := by rfl) : LA X B (e :: es) (dCons ta tr) :=
  ⟨pa_imp (pa_cons ha.pe hr.pa hs) fun σ H Q ⟨pn, F, E, G, k, S, ht, hk⟩ => ⟨pn, F, E, G, _, S, ht, fun x E1 G1 ⟨d, E2, h0, h1⟩ v F1 H1 S1 s1 r1 => by
    obtain ⟨F1', S1', s1', r1'⟩ := S1.ice r1 h0
    exact ⟨pn, F1', E2, G1, _, S1', h1, fun ds E3 G3 h3 vs F3 H3 S3 s3 r3 => hk _ _ _ h3 _ F3 H3 S3 ((s1.trans s1').trans s3) (.cons (Rep.mono s3 _ _ r1') r3)⟩⟩⟩
theorem lp_cons {e : Expr} {es : List Expr} {ta : DE} {tr : DA} (ha : LE X B e ta) (hr : LP X B es tr) (hs : starEach (e :: es) X.env = (false, eval e X.env) :: starEach es X.env := by rfl) : LP X B (e :: es) (dPCons ta tr) :=
  ⟨pa_imp (pa_cons ha.pe hr.pa hs) fun σ H Q ⟨pn, F, E, G, k, S, ht, hk⟩ => ⟨pn, F, E, G, _, S, ht, fun x E1 G1 h1 v F1 H1 S1 s1 r1 => by
    obtain ⟨F1', S1', s1', r1'⟩ := S1.fz r1
    exact ⟨pn, F1', E1, G1, _, S1', h1, fun ds E3 G3 ⟨d, hd, h3⟩ vs F3 H3 S3 s3 r3 => hk _ _ _ h3 _ F3 H3 S3 ((s1.trans s1').trans s3) (.cons (S3.getH (r1'.onward s3) hd) r3)⟩⟩⟩

/-! ### displays -/
def dTup (ta : DA) : DE := fun E G k => ta E G fun ds E1 G1 => ds.length ≤ sizeLine ∧ k (.val (.tup ds)) E1 G1
def dLst (ta : DA) : DE := fun E G k => ta E G fun ds E1 G1 => ds.length ≤ sizeLine ∧ k (.fr ds) E1 G1
theorem le_tup {es : List Expr} {ta : DA} {x1 pos} (h : LA X B es ta) : LE X B (.Tuple es x1 pos) (dTup ta) :=
  ⟨pe_imp (pe_tup h.pa) fun σ H Q ⟨pn, F, E, G, k, S, ht, hk⟩ => ⟨pn, F, E, G, _, S, ht, fun ds E1 G1 ⟨hz, h1⟩ vs F1 H1 S1 s1 r1 => by
    refine ⟨by rw [← r1.length]; exact hz, fun p np => ?_⟩
    obtain ⟨S2, s2⟩ := S1.newF (o := .tup vs) np
    exact hk _ _ _ h1 _ _ _ S2 (s1.trans s2) (.tup upd_same (RepL.mono s2 _ _ r1))⟩⟩
theorem le_lst {es : List Expr} {ta : DA} {pos} (h : LA X B es ta) : LE X B (.List es pos) (dLst ta) :=
  ⟨pe_imp (pe_lst h.pa) fun σ H Q ⟨pn, F, E, G, k, S, ht, hk⟩ => ⟨pn, F, E, G, _, S, ht, fun ds E1 G1 ⟨hz, h1⟩ vs F1 H1 S1 s1 r1 => by
    refine ⟨by rw [← r1.length]; exact hz, fun p np => ?_⟩
    obtain ⟨f, no⟩ := S1.newFre np r1
    exact hk _ _ _ h1 _ _ _ (S1.newU np) s1 ⟨p, rfl, f, no⟩⟩⟩

/-! ### slices -/
abbrev DO := Env3 → Reg → (Option Int → Env3 → Reg → Prop) → Prop
def dNoPart : DO := fun E G k => k none E G
def dPart (ta : DE) : DO := fun E G k => ta E G fun r E1 G1 => ∃ i, r = .val (.int i) ∧ k (some i) E1 G1
def dSl (rd : D → Option Int → Option Int → (Res → Prop) → Prop) (te : DE) (tl th : DO) : DE := fun E G k => te E G fun x E1 G1 => tl E1 G1 fun lo E2 G2 => th E2 G2 fun hi E3 G3 =>
  ∃ d, x.fz.get E3 = some d ∧ rd d lo hi fun r => k r E3 G3
/-! ### calls of built-ins -/
def RCall (X : Cx) (B : Base3) (r : List V → Hp → VK → Prop) (rd : Reg → List D → (Res → Prop) → Prop) : Prop :=
  ∀ pn F H σ E G vs ds k Q, St3 X.K B pn F H σ E G → RepHL X.K F H ds vs → rd G ds k →
    (∀ res, k res → ∀ v F' H', St3 X.K B pn F' H' σ E G → Same F F' → RepR X.K B pn F' H' σ E G res v → Q v H') → r vs H Q
def dCB (rd : Reg → List D → (Res → Prop) → Prop) (ta : DA) : DE := fun E G k => ta E G fun ds E1 G1 => rd G1 ds fun r => k r E1 G1
theorem le_cb {r : List V → Hp → VK → Prop} {rd : Reg → List D → (Res → Prop) → Prop} {es : List Expr} {e : Expr} {ta : DA} (h : PE X e (tCB r (LiftP X.K B ta))) (hr : RCall X B r rd) : LE X B e (dCB rd ta) :=
  ⟨pe_imp h fun σ H Q ⟨pn, F, E, G, k, S, ht, hk⟩ => ⟨pn, F, E, G, _, S, ht, fun ds E1 G1 h1 vs F1 H1 S1 s1 r1 =>
    hr pn F1 H1 σ E1 G1 vs ds _ Q S1 r1 h1 fun res hres u F4 H4 S4 s4 r4 => hk _ _ _ hres u F4 H4 S4 (s1.trans s4) r4⟩⟩
theorem le_callB {r : List V → Hp → VK → Prop} {rd : Reg → List D → (Res → Prop) → Prop} {x : Str} {id : String} {e : Expr} {es : List Expr} {ta : DA} {p pos : Pos} (hc : CallR X (.builtin id) r) (hr : RCall X B r rd) (hg : Gl X x) (hm : X.mg x = none) (hv : bootBuiltins x = some (.builtin id)) (ha : LP X B (e :: es) ta) (hn : x ≠ "__name__" := by decide) (hdb : (x == ("__debug__" : Str)) = false := by decide)
    (he : starEach (e :: es) X.env = (false, eval e X.env) :: starEach es X.env := by rfl) (hpl : (backTo pos (starEach es X.env)).any (·.1) = false := by rfl) : LE X B (.Call (.Name x p) (e :: es) [] pos) (dCB rd ta) :=
  le_cb (es := es) (pe_callB hc hg hm hv ha.pa hn hdb he hpl) hr
theorem le_callTy {r : List V → Hp → VK → Prop} {rd : Reg → List D → (Res → Prop) → Prop} {x : Str} {T : String} {e : Expr} {es : List Expr} {ta : DA} {p pos : Pos} (hc : CallR X (.type T) r) (hr : RCall X B r rd) (hg : Gl X x) (hm : X.mg x = none) (hv : bootBuiltins x = some (.type T)) (ha : LP X B (e :: es) ta) (hn : x ≠ "__name__" := by decide) (hdb : (x == ("__debug__" : Str)) = false := by decide)
    (he : starEach (e :: es) X.env = (false, eval e X.env) :: starEach es X.env := by rfl) (hpl : (backTo pos (starEach es X.env)).any (·.1) = false := by rfl) : LE X B (.Call (.Name x p) (e :: es) [] pos) (dCB rd ta) :=
  le_cb (es := es) (pe_callTy hc hg hm hv ha.pa hn hdb he hpl) hr
end

/-! ### promises -/
abbrev DSp := List D → Reg → (Res → Reg → Prop) → (Exc3 → Reg → Prop) → Prop
structure After (K : PySem.W.Frag) (F H : Hp) (G : Reg) (F' H' : Hp) (G' : Reg) : Prop where
  w : Wld K F' H' G'
  keepF : Same F F'
  keepH : ∀ (a : Addr) (o : HO), H a = some o → a ∉ G.map (·.1) → H' a = some o
  unfr : ∀ (a : Addr) (o : HO), H a = some o → isTp o = false → F a = none → F' a = none
  regs : ∀ a, a ∈ G'.map (·.1) → a ∈ G.map (·.1) ∨ H a = none
  regk : ∀ a, a ∈ G.map (·.1) → a ∈ G'.map (·.1)
/-- what comes back -/
def RetV (K : PySem.W.Frag) (H F' H' : Hp) (G' : Reg) : Res → V → Prop
  | .val d, v => Rep K F' d v
  | .fr ds, v => ∃ a xs, v = .ref a ∧ F' a = none ∧ H a = none ∧ a ∉ G'.map (·.1) ∧ H' a = some (.lst xs) ∧ RepL K F' ds xs
  | .frD d, v => ∃ a o, v = .ref a ∧ F' a = none ∧ H a = none ∧ a ∉ G'.map (·.1) ∧ H' a = some o ∧ RepB K F' d o
  | .sl _, _ => False
def RepX (K : PySem.W.Frag) (F : Hp) (x : Exc3) (cls : Value) (dd : Option Addr) : Prop := (∃ C, ClsN K x.1 C ∧ cls = .ref C) ∧ match x.2 with
  | none => True
  | some (f, d) => ∃ a v, dd = some a ∧ F a = some (.xd [(f, v)]) ∧ Rep K F d v
def LSp (K : PySem.W.Frag) (sp : DSp) : Sp := fun vs H Q E => ∃ F G ds k kx, Wld K F H G ∧ RepL K F ds vs ∧ sp ds G k kx ∧
  (∀ r G', k r G' → ∀ v F' H', After K F H G F' H' G' → RetV K H F' H' G' r v → Q v H') ∧
  (∀ x G', kx x G' → ∀ cls dd F' H', After K F H G F' H' G' → RepX K F' x cls dd → E cls dd H')
/-- what this frame wishes of an exception -/
def WOk (X : Cx) (B : Base3) (dw : DW) : Prop := ∃ W : WX, Takes X W ∧ ∀ pn F H σ E G x cls dd, St3 X.K B pn F H σ E G → RepX X.K F x cls dd → dw x E G → W cls dd σ H
/-- .. whatever the slots hold -/
def WOkF (X : Cx) (B : Base3) (dw : DW) : Prop := ∃ W : XK, Takes X (fun cls dd _ H => W cls dd H) ∧ ∀ pn F H σ E G x cls dd, St3 X.K B pn F H σ E G → RepX X.K F x cls dd → dw x E G → W cls dd H
theorem WOkF.ok {X : Cx} {B : Base3} {dw : DW} (h : WOkF X B dw) : WOk X B dw := by
  obtain ⟨W, tk, hW⟩ := h
  exact ⟨fun cls dd _ H => W cls dd H, tk, fun pn F H σ E G x cls dd S rx hx => hW pn F H σ E G x cls dd S rx hx⟩
/-- what was not there as the def began was not locked -/
def Lk (X : Cx) (B : Base3) : Prop := ∀ d, B.H d = none → ∀ o u, X.H_0 d ≠ some (.frz o u)
structure WOkL (X : Cx) (B : Base3) (dw : DW) : Prop where
  f : WOkF X B dw
  lk : Lk X B
theorem WOkL.ok {X : Cx} {B : Base3} {dw : DW} (h : WOkL X B dw) : WOk X B dw := h.f.ok
instance {X : Cx} {B : Base3} {dw : DW} : CoeOut (WOkL X B dw) (WOkF X B dw) := ⟨WOkL.f⟩
theorem lk_self {X : Cx} {F : Hp} {G : List Addr} {n : Addr} : Lk X ⟨F, X.H_0, G, n⟩ := fun d h o u e => by
  have h : X.H_0 d = none := h
  rw [h] at e; cases e
section
variable {X : Cx} {B : Base3}
theorem St3.wldAfter {K : PySem.W.Frag} {pn : Pend} {F H F' H' : Hp} {σ : L2.St} {E : Env3} {G G' : Reg} (S : St3 K B pn F H σ E G) (A : After K F H G F' H' G') : St3 K B pn F' H' σ E G' := by
  have hG : ∀ a o, B.H a = some o → a ∉ B.G → a ∉ G.map (·.1) := fun a o h hn hm => by
    rcases S.regs a hm with z | z
    · exact hn z
    · rw [h] at z; cases z
  have hHs : ∀ a o, B.H a = some o → isTp o = false → ∃ o', H a = some o' ∧ isTp o' = false := fun a o h ht => by
    by_cases hg : a ∈ B.G
    · obtain ⟨ds, hm⟩ := regMem (S.regk a hg)
      obtain ⟨_, o', h3, h4⟩ := S.w.reg a ds hm
      exact ⟨o', h3, h4.nt⟩
    · exact ⟨o, S.keepH a o h hg, ht⟩
  refine ⟨A.w, fun a o h => A.keepF a o (S.keepF a o h), fun a o h hn => A.keepH a o (S.keepH a o h hn) (hG a o h hn), fun a o h ht h2 => ?_, fun a h => ?_, fun a h => A.regk a (S.regk a h), S.len, fun i d h => ?_, fun i s d h ho => ?_, S.ownd, fun a xs h => ?_, S.pnd, fun nm fs h => (S.news nm fs h).mono A.keepF⟩
  · obtain ⟨o', e, ht'⟩ := hHs a o h ht
    exact A.unfr a o' e ht' (S.unfr a o h ht h2)
  · rcases A.regs a h with z | z
    · exact S.regs a z
    · exact .inr (S.baseNone z)
  · obtain ⟨v, h1, h2⟩ := S.slot i d h
    exact ⟨v, h1, Rep.mono A.keepF _ _ h2⟩
  · obtain ⟨a, h1, f⟩ := S.own i s d h ho
    obtain ⟨xs, e, r⟩ := f.ex
    refine ⟨a, h1, ⟨A.unfr a _ e r.dat.nt f.nF, f.nB, fun hm => ?_, f.nP, xs, A.keepH a _ e f.nG, RepB.mono A.keepF r⟩⟩
    rcases A.regs a hm with z | z
    · exact f.nG z
    · rw [e] at z; cases z
  · obtain ⟨h1, h2, h3, h4⟩ := S.pend a xs h
    refine ⟨A.keepH a _ h1 h4, A.unfr a _ h1 (S.pnd.2 _ h) h2, h3, fun hm => ?_⟩
    rcases A.regs a hm with z | z
    · exact h4 z
    · rw [h1] at z; cases z
/-- what a call gives, in the caller's eyes -/
theorem St3.retR {K : PySem.W.Frag} {pn : Pend} {F H F' H' : Hp} {σ : L2.St} {E : Env3} {G G' : Reg} (S : St3 K B pn F H σ E G) {r : Res} {v : V} (h : RetV K H F' H' G' r v) : RepR K B pn F' H' σ E G' r v := by
  cases r with
  | val d => exact h
  | sl i => exact h.elim
  | fr ds =>
    obtain ⟨a, xs, rfl, h1, h2, h3, h4, h5⟩ := h
    refine ⟨a, rfl, ⟨h1, S.baseNone h2, h3, fun hm => ?_, xs, h4, h5⟩, S.newNo h2⟩
    obtain ⟨q, hq, rfl⟩ := List.mem_map.mp hm
    have := (S.pend q.1 q.2 hq).1
    rw [h2] at this; cases this
  | frD d =>
    obtain ⟨a, o, rfl, h1, h2, h3, h4, h5⟩ := h
    refine ⟨a, rfl, ⟨h1, S.baseNone h2, h3, fun hm => ?_, o, h4, h5⟩, S.newNo h2⟩
    obtain ⟨q, hq, rfl⟩ := List.mem_map.mp hm
    have := (S.pend q.1 q.2 hq).1
    rw [h2] at this; cases this
def dCall (sp : DSp) (dw : DW) (ta : DA) : DE := fun E G k => ta E G fun ds E1 G1 => sp ds G1 (fun r G2 => k r E1 G2) (fun x G2 => dw x E1 G2)
theorem le_call {sp : DSp} {dw : DW} {ta : DA} {j : Nat} {f : Addr} {fd : FuncData} {ps : List Str} {x : Str} {p pos : Pos} {e : Expr} {es : List Expr} (Fn : FnOk X.prog X.w X.K X.mg X.base (L2.CX X.prog X.w) j f fd ps (LSp X.K sp)) (hr : Room j X.A) (wk : WOk X B dw) (hg : Gl X x) (hm : X.mg x = some (.ref f)) (hk : PySem.W.keepIn X.K (.ref f) = true) (hb : Binds X.K fd ps [])
    (ha : LA X B (e :: es) ta) (hdb : (x == ("__debug__" : Str)) = false := by decide) (he : starEach (e :: es) X.env = (false, eval e X.env) :: starEach es X.env := by rfl) (hpl : (backTo pos (starEach es X.env)).any (·.1) = false := by rfl) :
    LE X B (.Call (.Name x p) (e :: es) [] pos) (dCall sp dw ta) := by
  obtain ⟨W, tk, hW⟩ := wk
  refine ⟨pe_imp (pe_callS Fn hr hg hm hk hb (fun σ => passAt tk σ) ha.pa hdb he hpl) fun σ H Q ⟨pn, F, E, G, k, S, ht, hk⟩ => ⟨pn, F, E, G, _, S, ht, fun ds E1 G1 h1 vs F1 H1 S1 s1 r1 => ?_⟩⟩
  refine ⟨F1, G1, ds, _, _, S1.w, r1, h1, fun r G' h2 v F2 H2 A r2 => ?_, fun x G' h2 cls dd F2 H2 A r2 => ?_⟩
  · exact hk _ _ _ h2 v F2 H2 (S1.wldAfter A) (s1.trans A.keepF) (S1.retR r2)
  · exact hW pn F2 H2 σ E1 G' x cls dd (S1.wldAfter A) r2 h2
/-- no exception is wished for -/
def dw0 : DW := fun _ _ _ => False
theorem takesF {X : Cx} : Takes X (fun _ _ _ _ => False) := fun _ _ x => by
  obtain ⟨_, _, _, _, _, _, _, _, _, _, _, _, _, _, _, _, z⟩ := x
  exact z.elim
theorem wok0 : WOk X B dw0 := ⟨fun _ _ _ _ => False, takesF, fun _ _ _ _ _ _ _ _ _ _ _ h => h⟩
end
end L3

set_option Elab.async false
set_option maxRecDepth 100000
set_option maxHeartbeats 4000000
/-! L3, part d: statements, loops, comprehensions, defs. -/
namespace L3
open PySem PySem.Spec PyProof.Rows L2

structure Ends3 where
  nx : Env3 → Reg → Prop
  rt : Res → Reg → Prop
  bk : Env3 → Reg → Prop := fun _ _ => False
  ct : Env3 → Reg → Prop := fun _ _ => False
abbrev DSt := Ends3 → Env3 → Reg → Prop
def RetR (K : PySem.W.Frag) (B : Base3) (pn : Pend) (F H : Hp) (G : Reg) : Res → V → Prop
  | .val d, v => Rep K F d v
  | .fr ds, v => ∃ a, v = .ref a ∧ Fre K B pn F H G a ds
  | .frD d, v => ∃ a, v = .ref a ∧ FreX K B pn F H G a d
  | .sl _, _ => False
structure EndsOk (K : PySem.W.Frag) (B : Base3) (F : Hp) (D3 : Ends3) (D : Ends) : Prop where
  nx : ∀ {pn : Pend} E' G', D3.nx E' G' → ∀ σ' F' H', St3 K B pn F' H' σ' E' G' → Same F F' → D.nx σ' H'
  rt : ∀ {pn : Pend} r G', D3.rt r G' → ∀ v F' H' σ' E', St3 K B pn F' H' σ' E' G' → Same F F' → RetR K B pn F' H' G' r v → D.rt v H'
  bk : ∀ {pn : Pend} E' G', D3.bk E' G' → ∀ σ' F' H', St3 K B pn F' H' σ' E' G' → Same F F' → D.bk σ' H'
  ct : ∀ {pn : Pend} E' G', D3.ct E' G' → ∀ σ' F' H', St3 K B pn F' H' σ' E' G' → Same F F' → D.ct σ' H'
theorem EndsOk.mono {K : PySem.W.Frag} {B : Base3} {F F' : Hp} {D3 : Ends3} {D : Ends} (h : EndsOk K B F D3 D) (s : Same F F') : EndsOk K B F' D3 D :=
  ⟨fun E' G' q σ' F2 H' S s' => h.nx E' G' q σ' F2 H' S (s.trans s'), fun r G' q v F2 H' σ' E' S s' => h.rt r G' q v F2 H' σ' E' S (s.trans s'), fun E' G' q σ' F2 H' S s' => h.bk E' G' q σ' F2 H' S (s.trans s'), fun E' G' q σ' F2 H' S s' => h.ct E' G' q σ' F2 H' S (s.trans s')⟩
def LiftS (K : PySem.W.Frag) (B : Base3) (ts : DSt) : TS := fun D σ H => ∃ pn F E G D3, St3 K B pn F H σ E G ∧ ts D3 E G ∧ EndsOk K B F D3 D
structure LS (X : Cx) (B : Base3) (st : Stmt) (ts : DSt) : Prop where
  ps : PS X st (LiftS X.K B ts)
structure LSs (X : Cx) (B : Base3) (st : List Stmt) (ts : DSt) : Prop where
  pss : PSs X st (LiftS X.K B ts)

def dNext : DSt := fun D E G => D.nx E G
def dSeq (t u : DSt) : DSt := fun D E G => t { D with nx := u D } E G
def dIfS (c : DT) (t u : DSt) : DSt := fun D E G => c E G fun b E1 G1 => if b = true then t D E1 G1 else u D E1 G1
def dDrop (te : DE) : DSt := fun D E G => te E G fun _ E1 G1 => D.nx E1 G1
def Res.out (r : Res) (E : Env3) : Option Res := match r with
  | .val d => some (.val d)
  | .fr ds => some (.fr ds)
  | .frD d => some (.frD d)
  | .sl i => match E[i]? with
    | some (Sl3.val d) => some (.val d)
    | some (Sl3.own ds) => some (.fr ds)
    | some (Sl3.ownD d) => some (.frD d)
    | _ => none
def dRet (te : DE) : DSt := fun D E G => te E G fun r E1 G1 => ∃ r', r.out E1 = some r' ∧ D.rt r' G1
def dRetN : DSt := fun D _ G => D.rt (.val .non) G
def dBreak : DSt := fun D E G => D.bk E G
def dCont : DSt := fun D E G => D.ct E G
def dNever : DSt := fun _ _ _ => False
/-- what a slot takes -/
def Res.put (r : Res) (i : Nat) (E : Env3) : Option Env3 := match r with
  | .val d => some (E.set i (Sl3.val d))
  | .fr ds => some (E.set i (Sl3.own ds))
  | .frD d => some (E.set i (Sl3.ownD d))
  | .sl j => match E[j]? with
    | some (Sl3.val d) => some (E.set i (Sl3.val d))
    | some (Sl3.own ds) => some ((E.set j (Sl3.val (.lst ds))).set i (Sl3.val (.lst ds)))
    | some (Sl3.ownD d) => some ((E.set j (Sl3.val d)).set i (Sl3.val d))
    | _ => none
def dSet (i : Nat) (te : DE) : DSt := fun D E G => te E G fun r E1 G1 => i < E1.length ∧ ∃ E2, r.put i E1 = some E2 ∧ D.nx E2 G1
section
variable {K : PySem.W.Frag} {B : Base3} {pn : Pend} {F H : Hp} {σ : L2.St} {E : Env3} {G : Reg}
theorem St3.put (S : St3 K B pn F H σ E G) {r : Res} {v : V} {i : Nat} {E2 : Env3} (hi : i < E.length) (hr : RepR K B pn F H σ E G r v) (h : r.put i E = some E2) : ∃ F', St3 K B pn F' H (σ.set i (some v)) E2 G ∧ Same F F' := by
  rw [S.len] at hi
  cases r with
  | val d => cases h; exact ⟨F, S.setVal hi hr, Same.refl F⟩
  | fr ds =>
    cases h
    obtain ⟨a, rfl, f, no⟩ := hr
    exact ⟨F, S.setOwn hi f no, Same.refl F⟩
  | frD d =>
    cases h
    obtain ⟨a, rfl, f, no⟩ := hr
    exact ⟨F, S.setOwnX hi f rfl no, Same.refl F⟩
  | sl j =>
    have hr' : σ[j]? = some (some v) := hr
    unfold Res.put at h
    dsimp only at h
    split at h
    · rename_i d q
      cases h
      obtain ⟨v', h1, h2⟩ := S.slot j d q
      rw [hr'] at h1
      cases h1
      exact ⟨F, S.setVal hi h2, Same.refl F⟩
    · rename_i ds q
      cases h
      obtain ⟨F', S', s', r'⟩ := S.freezeSlot q hr'
      exact ⟨F', S'.setVal hi r', s'⟩
    · rename_i d q
      cases h
      obtain ⟨F', S', s', r'⟩ := S.freezeSlotX q rfl hr'
      exact ⟨F', S'.setVal hi r', s'⟩
    · cases h
theorem St3.outR (S : St3 K B pn F H σ E G) {r r' : Res} {v : V} (hr : RepR K B pn F H σ E G r v) (h : r.out E = some r') : RetR K B pn F H G r' v := by
  cases r with
  | val d => cases h; exact hr
  | fr ds =>
    cases h
    obtain ⟨a, rfl, f, no⟩ := hr
    exact ⟨a, rfl, f⟩
  | frD d =>
    cases h
    obtain ⟨a, rfl, f, no⟩ := hr
    exact ⟨a, rfl, f⟩
  | sl j =>
    have hr' : σ[j]? = some (some v) := hr
    unfold Res.out at h
    dsimp only at h
    split at h
    · rename_i d q
      cases h
      obtain ⟨v', h1, h2⟩ := S.slot j d q
      rw [hr'] at h1
      cases h1
      exact h2
    · rename_i ds q
      cases h
      obtain ⟨a, h1, f⟩ := S.ownL j ds q
      rw [hr'] at h1
      cases h1
      exact ⟨a, rfl, f⟩
    · rename_i d q
      cases h
      obtain ⟨a, h1, f⟩ := S.own j _ _ q rfl
      rw [hr'] at h1
      cases h1
      exact ⟨a, rfl, f⟩
    · cases h
/-- a free list becomes a register -/
theorem St3.promote (S : St3 K B pn F H σ E G) {a : Addr} {ds : List D} (f : Fre K B pn F H G a ds) (no : NoOwn σ E a) : St3 K B pn F H σ E ((a, ds) :: G) := by
  obtain ⟨xs, e, r⟩ := f.ex
  refine ⟨⟨S.w.sub, fun b es h => ?_, by rw [List.map_cons]; exact List.nodup_cons.mpr ⟨f.nG, S.w.nd⟩⟩, S.keepF, S.keepH, S.unfr, fun b h => ?_, fun b h => by rw [List.map_cons]; exact List.mem_cons_of_mem _ (S.regk b h), S.len, S.slot, fun i s d h ho => ?_, S.ownd, fun b ys h => ?_, S.pnd, S.news⟩
  · rcases List.mem_cons.mp h with h | h
    · cases h; exact ⟨f.nF, _, e, .lst r⟩
    · exact S.w.reg b es h
  · rw [List.map_cons] at h
    rcases List.mem_cons.mp h with h | h
    · have h' : b = a := h
      rw [h']; exact .inr f.nB
    · exact S.regs b h
  · obtain ⟨b, e1, g⟩ := S.own i s d h ho
    refine ⟨b, e1, ⟨g.nF, g.nB, ?_, g.nP, g.ex⟩⟩
    rw [List.map_cons]
    intro z
    rcases List.mem_cons.mp z with z | z
    · have z' : b = a := z
      exact no i s d h ho (by rw [← z']; exact e1)
    · exact g.nG z
  · obtain ⟨h1, h2, h3, h4⟩ := S.pend b ys h
    refine ⟨h1, h2, h3, ?_⟩
    rw [List.map_cons]
    intro z
    rcases List.mem_cons.mp z with z | z
    · have z' : b = a := z
      exact f.nP (by rw [← z']; exact List.mem_map.mpr ⟨_, h, rfl⟩)
    · exact h4 z
end
section
variable {X : Cx} {B : Base3}
theorem lss_nil : LSs X B [] dNext := ⟨pss_imp pss_nil fun D σ H ⟨pn, F, E, G, D3, S, h, ok⟩ => ok.nx E G h σ F H S (Same.refl F)⟩
theorem lss_cons {st : Stmt} {rest : List Stmt} {t u : DSt} (h1 : LS X B st t) (h2 : LSs X B rest u) : LSs X B (st :: rest) (dSeq t u) :=
  ⟨pss_imp (pss_cons h1.ps h2.pss) fun D σ H ⟨pn, F, E, G, D3, S, h, ok⟩ => ⟨pn, F, E, G, { D3 with nx := u D3 }, S, h, ⟨fun E' G' q σ' F' H' S' s' => ⟨_, F', E', G', D3, S', q, ok.mono s'⟩, ok.rt, ok.bk, ok.ct⟩⟩⟩
theorem lss_one {st : Stmt} {t : DSt} (h1 : LS X B st t) : LSs X B [st] t := ⟨pss_one h1.ps⟩
theorem ls_if {c : Expr} {a b : List Stmt} {tc : DT} {t u : DSt} {pos} (hc : LT X B c tc) (ha : LSs X B a t) (hb : LSs X B b u) : LS X B (.If c a b pos) (dIfS tc t u) :=
  ⟨ps_imp (ps_if hc.pt ha.pss hb.pss) fun D σ H ⟨pn, F, E, G, D3, S, h, ok⟩ => ⟨pn, F, E, G, _, S, h, fun b E1 G1 h1 F1 H1 S1 s1 => by
    cases b with
    | true => exact ⟨pn, F1, E1, G1, D3, S1, h1, ok.mono s1⟩
    | false => exact ⟨pn, F1, E1, G1, D3, S1, h1, ok.mono s1⟩⟩⟩
theorem ls_expr {e : Expr} {te : DE} {pos : Pos} (he : LE X B e te) (hs : swapsWith e none pos.line X.env = pure false := by rfl) : LS X B (.Expr e pos) (dDrop te) :=
  ⟨ps_imp (ps_expr he.pe hs) fun D σ H ⟨pn, F, E, G, D3, S, h, ok⟩ => ⟨pn, F, E, G, _, S, h, fun r E1 G1 h1 v F1 H1 S1 s1 r1 => ok.nx E1 G1 h1 σ F1 H1 S1 s1⟩⟩
theorem ls_ret {e : Expr} {te : DE} {pos} (he : LE X B e te) : LS X B (.Return (some e) pos) (dRet te) :=
  ⟨ps_imp (ps_ret he.pe) fun D σ H ⟨pn, F, E, G, D3, S, h, ok⟩ => ⟨pn, F, E, G, _, S, h, fun r E1 G1 ⟨r', hr', h1⟩ v F1 H1 S1 s1 r1 => ok.rt r' G1 h1 v F1 H1 σ E1 S1 s1 (S1.outR r1 hr')⟩⟩
theorem ls_set {i : Nat} {x : Str} {e : Expr} {te : DE} {pos pos' : Pos} (hN : X.N.Nodup) (hi : X.N[i]? = some x) (hx : Loc X.env.scope x) (he : LE X B e te) (hs : swapsWith e (some (.Name x pos')) pos.line X.env = pure false := by rfl) (hf : X.fn x = true ∨ X.env.scope.names.lookup x = some .local := by first | exact .inl rfl | exact .inr rfl | assumption) :
    LS X B (.Assign [.Name x pos'] e pos) (dSet i te) :=
  ⟨ps_imp (ps_set hN hi hx he.pe hs hf) fun D σ H ⟨pn, F, E, G, D3, S, h, ok⟩ => ⟨pn, F, E, G, _, S, h, fun r E1 G1 ⟨hi, E2, hp, h1⟩ v F1 H1 S1 s1 r1 => by
    obtain ⟨F2, S2, s2⟩ := S1.put hi r1 hp
    exact ok.nx E2 G1 h1 _ F2 H1 S2 (s1.trans s2)⟩⟩
/-- name = a free list, which becomes a register -/
def dSetReg (i : Nat) (te : DE) : DSt := fun D E G => te E G fun r E1 G1 => i < E1.length ∧ ∃ ds, r = .fr ds ∧ ∀ a, D.nx (E1.set i (Sl3.val (.ref a))) ((a, ds) :: G1)
/-- name op= e -/
def dAug (i : Nat) (rd : Reg → D → D → (Res → Prop) → Prop) (te : DE) : DSt := fun D E G => ∃ d, E[i]? = some (Sl3.val d) ∧ te E G fun y E1 G1 => E1[i]? = some (Sl3.val d) ∧ ∃ e, y.get E1 = some e ∧
  rd G1 d e fun r => ∃ z, r = .val z ∧ D.nx (E1.set i (Sl3.val z)) G1
/-! ### targets -/
abbrev DG := D → Env3 → Reg → (Env3 → Reg → Prop) → Prop
def LiftG (K : PySem.W.Frag) (B : Base3) (vs : List Nat) (g : DG) : TG := fun v σ H Q => ∃ pn F E G k d, St3 K B pn F H σ E G ∧ Rep K F d v ∧ g d E G k ∧
  ∀ E' G', k E' G' → ∀ σ' F' H', St3 K B pn F' H' σ' E' G' → Same F F' → wipe σ' vs = wipe σ vs → Q σ' H'
structure LG (X : Cx) (B : Base3) (vs : List Nat) (tg : Expr) (g : DG) : Prop where
  pg : PG X tg (LiftG X.K B vs g)
theorem pg_imp {tg : Expr} {t t' : TG} (h : PG X tg t) (hi : ∀ v σ H Q, t' v σ H Q → t v σ H Q) : PG X tg t' := ⟨fun pins s σ H v u Q I r hw => h.run pins s σ H v u Q I r (hi v σ H Q hw)⟩
def gNm (i : Nat) : DG := fun d E G k => i < E.length ∧ k (E.set i (Sl3.val d)) G
theorem wipe_get {σ : L2.St} : ∀ {vs : List Nat} {j : Nat}, (wipe σ vs)[j]? = if j ∈ vs then (σ[j]?).map (fun _ => none) else σ[j]?
  | [], j => by simp [wipe]
  | v :: vs, j => by
    unfold wipe
    by_cases q : v = j
    · subst q
      rw [if_pos List.mem_cons_self]
      by_cases hv : v < σ.length
      · rw [List.getElem?_set_self (by rw [wipe_length]; exact hv), List.getElem?_eq_getElem hv]; rfl
      · rw [List.getElem?_eq_none (by rw [List.length_set, wipe_length]; omega), List.getElem?_eq_none (by omega)]; rfl
    · rw [List.getElem?_set_ne q, wipe_get]
      by_cases h : j ∈ vs
      · rw [if_pos h, if_pos (List.mem_cons_of_mem _ h)]
      · rw [if_neg h, if_neg (fun z => by rcases List.mem_cons.mp z with z | z; exact q z.symm; exact h z)]
theorem wipe_set {σ : L2.St} {vs : List Nat} {i : Nat} {v : Option V} (h : i ∈ vs) : wipe (σ.set i v) vs = wipe σ vs := by
  apply List.ext_getElem?
  intro j
  rw [wipe_get, wipe_get]
  by_cases q : j ∈ vs
  · rw [if_pos q, if_pos q]
    by_cases e : i = j
    · subst e
      by_cases hv : i < σ.length
      · rw [List.getElem?_set_self hv, List.getElem?_eq_getElem hv]; rfl
      · rw [List.getElem?_eq_none (by rw [List.length_set]; omega), List.getElem?_eq_none (by omega)]
    · rw [List.getElem?_set_ne e]
  · rw [if_neg q, if_neg q, List.getElem?_set_ne (fun (z : i = j) => q (z ▸ h))]
theorem lg_name {i : Nat} {x : Str} {vs : List Nat} {pos : Pos} (hN : X.N.Nodup) (hi : X.N[i]? = some x) (hx : Loc X.env.scope x) (hv : i ∈ vs) (hf : X.fn x = true ∨ X.env.scope.names.lookup x = some .local := by first | exact .inl rfl | exact .inr rfl | assumption) : LG X B vs (.Name x pos) (gNm i) :=
  ⟨pg_imp (pg_name hN hi hx hf) fun v σ H Q ⟨pn, F, E, G, k, d, S, r, ⟨hl, h⟩, hk⟩ => hk _ _ h _ F H (S.setVal (by rw [← S.len]; exact hl) r) (Same.refl F) (wipe_set hv)⟩
/-- several targets -/
abbrev DGs := List D → Env3 → Reg → (Env3 → Reg → Prop) → Prop
def gsNil : DGs := fun ds E G k => ds = [] ∧ k E G
def gsCons (g : DG) (gs : DGs) : DGs := fun ds E G k => ∃ d r, ds = d :: r ∧ g d E G fun E1 G1 => gs r E1 G1 k
def gTp (n : Nat) (gs : DGs) : DG := fun d E G k => ∃ ds, d = .tup ds ∧ ds.length = n ∧ gs ds E G k
/-- target = value (a tuple target) -/
def dAsg (te : DE) (g : DG) : DSt := fun D E G => te E G fun r E1 G1 => ∃ d E2, r.ice E1 = some (d, E2) ∧ g d E2 G1 D.nx
end
end L3

set_option Elab.async false
set_option maxRecDepth 100000
set_option maxHeartbeats 4000000
/-! L3, part e: what is walked; loops; comprehensions; defs. -/
namespace L3
open PySem PySem.Spec PyProof.Rows L2

/-- an iterator J gives the items ds, one by one -/
structure Wk (K : PySem.W.Frag) (B : Base3) (J : It) (ds : List D) (F0 : Hp) : Prop where
  go : ∀ pn F H σ E G i, St3 K B pn F H σ E G → Same F0 F → i < ds.length → J.go i H
  yld : ∀ pn F H σ E G i x H', St3 K B pn F H σ E G → Same F0 F → i < ds.length → J.yld i H x H' → ∃ F', St3 K B pn F' H' σ E G ∧ Same F F' ∧ ∃ d, ds[i]? = some d ∧ Rep K F' d x
  stop : ∀ pn F H σ E G i, St3 K B pn F H σ E G → Same F0 F → ds.length ≤ i → J.stop i H
abbrev DI := Env3 → Reg → (List D → Env3 → Reg → Prop) → Prop
def LiftI (K : PySem.W.Frag) (B : Base3) (di : DI) : TI := fun σ H R => ∃ pn F E G k, St3 K B pn F H σ E G ∧ di E G k ∧
  ∀ ds E' G', k ds E' G' → ∀ J F' H', St3 K B pn F' H' σ E' G' → Same F F' → Wk K B J ds F' → R J H'
structure LI (X : Cx) (B : Base3) (tg e : Expr) (di : DI) : Prop where
  pi : PI X tg e (LiftI X.K B di)
theorem pi_imp {X : Cx} {tg e : Expr} {t t' : TI} (h : PI X tg e t) (hi : ∀ σ H R, t' σ H R → t σ H R) : PI X tg e t' := ⟨fun pins s σ H R I hw => h.run pins s σ H R I (hi σ H R hw)⟩
section
variable {X : Cx} {B : Base3} {K : PySem.W.Frag}
def rangeD (lo : Int) (n : Nat) : List D := (List.range n).map fun (i : Nat) => D.int (lo + (i : Int))
theorem wk_rng {F0 : Hp} {lo : Int} {n : Nat} : Wk K B (Itr lo n) (rangeD lo n) F0 := by
  refine ⟨fun pn F H σ E G i S s h => ?_, fun pn F H σ E G i x H' S s hi h => ?_, fun pn F H σ E G i S s h => ?_⟩
  · show i < n
    simpa [rangeD] using h
  · obtain ⟨rfl, rfl⟩ := h
    have hi' : i < n := by simpa [rangeD] using hi
    exact ⟨F, S, Same.refl F, D.int (lo + (i : Int)), by simp [rangeD, hi'], .int _⟩
  · show n ≤ i
    simpa [rangeD] using h
def strD (x : Str) : List D := x.cps.toList.map fun c => D.str ⟨#[c]⟩
def iterD : D → Option (List D)
  | .lst ds => some ds
  | .tup ds => some ds
  | .str x => some (strD x)
  | .scr ns => some (ns.map D.int)
  | _ => none
def dIter (te : DE) : DI := fun E G k => te E G fun r E1 G1 => ∃ d E2, r.ice E1 = some (d, E2) ∧ ∃ ds, iterD d = some ds ∧ k ds E2 G1
def dRng1 (ta : DA) : DI := fun E G k => ta E G fun ds E1 G1 => ∃ j : Int, ds = [.int j] ∧ -(2 ^ 62) ≤ j ∧ j < 2 ^ 62 ∧ k (rangeD 0 j.toNat) E1 G1
def dRng2 (ta : DA) : DI := fun E G k => ta E G fun ds E1 G1 => ∃ i j : Int, ds = [.int i, .int j] ∧ (-(2 ^ 62) ≤ i ∧ i < 2 ^ 62 ∧ -(2 ^ 62) ≤ j ∧ j < 2 ^ 62) ∧ k (rangeD i (j - i).toNat) E1 G1
theorem li_range1 {tg a : Expr} {ta : DA} {p pos : Pos} (hg : Gl X "range") (hm : X.mg "range" = none) (ha : LA X B [a] ta) (hs : starEach [a] X.env = [(false, eval a X.env)] := by rfl) : LI X B tg (.Call (.Name "range" p) [a] [] pos) (dRng1 ta) :=
  ⟨pi_imp (pi_range1 hg hm ha.pa hs) fun σ H R ⟨pn, F, E, G, k, S, h, hk⟩ => ⟨pn, F, E, G, _, S, h, fun ds E1 G1 ⟨j, e, q1, q2, h1⟩ vs F1 H1 S1 s1 r1 => by
    subst e
    cases r1 with
    | cons r rr =>
      cases rr
      cases r
      exact ⟨j, rfl, q1, q2, hk _ _ _ h1 _ F1 H1 S1 s1 wk_rng⟩⟩⟩
/-! ### for -/
def dForL (g : DG) (tb : DSt) : List D → DSt
  | [], D, E, G => D.nx E G
  | d :: ds, D, E, G => g d E G fun E1 G1 => tb { D with nx := fun E2 G2 => dForL g tb ds D E2 G2, ct := fun E2 G2 => dForL g tb ds D E2 G2, bk := D.nx } E1 G1
def dFor (di : DI) (g : DG) (tb : DSt) : DSt := fun D E G => di E G fun ds E1 G1 => dForL g tb ds D E1 G1
theorem ls_for {tg iter : Expr} {body : List Stmt} {di : DI} {g : DG} {vs : List Nat} {tb : DSt} {pos : Pos} (hp : PassesOwn (model X.prog X.w) X.A X.env X.xe) (hc : X.calm = true) (hi : LI X B tg iter di) (hg : LG X B vs tg g) (hb : LSs X B body tb)
    (hs : ∀ x, foldedSetIterable iter X.env x = pure x := by intro _; rfl) : LS X B (.For tg iter body [] pos) (dFor di g tb) :=
  ⟨ps_imp (ps_for hp hc hi.pi hg.pg hb.pss hs) fun D σ H ⟨pn, F, E, G, D3, S, h, ok⟩ => ⟨pn, F, E, G, _, S, h, fun ds E1 G1 h1 J F1 H1 S1 s1 wk => by
    refine ⟨fun i m σ' H' => ∃ pn F' E' G', St3 X.K B pn F' H' σ' E' G' ∧ Same F1 F' ∧ m = ds.length - i ∧ i ≤ ds.length ∧ dForL g tb (ds.drop i) D3 E' G', ⟨ds.length, pn, F1, E1, G1, S1, Same.refl F1, rfl, Nat.zero_le _, h1⟩, ?_⟩
    rintro i m σ2 H2 ⟨pn, F2, E2, G2, S2, s2, rfl, hi, h2⟩
    by_cases hlt : i < ds.length
    · refine .inr ⟨wk.go pn F2 H2 σ2 E2 G2 i S2 s2 hlt, fun σ' H' => ∃ pn F' E' G', St3 X.K B pn F' H' σ' E' G' ∧ Same F1 F' ∧ dForL g tb (ds.drop (i + 1)) D3 E' G', fun σ' H' ⟨pn, F', E', G', S', s', h'⟩ => ⟨ds.length - (i + 1), by omega, pn, F', E', G', S', s', rfl, hlt, h'⟩, fun x H' y => ?_⟩
      obtain ⟨F3, S3, s3, d, hd, rd⟩ := wk.yld pn F2 H2 σ2 E2 G2 i x H' S2 s2 hlt y
      rw [List.drop_eq_getElem_cons hlt] at h2
      have ed : ds[i] = d := by
        rw [List.getElem?_eq_getElem hlt] at hd
        exact Option.some.inj hd
      rw [ed] at h2
      refine ⟨pn, F3, E2, G2, _, d, S3, rd, h2, fun E4 G4 h4 σ4 F4 H4 S4 s4 _ => ?_⟩
      have ss : Same F1 F4 := (s2.trans s3).trans s4
      refine ⟨pn, F4, E4, G4, _, S4, h4, ⟨fun E5 G5 q σ5 F5 H5 S5 s5 => ⟨_, F5, E5, G5, S5, ss.trans s5, q⟩, fun r G5 q v F5 H5 σ5 E5 S5 s5 rr => ok.rt r G5 q v F5 H5 σ5 E5 S5 ((s1.trans ss).trans s5) rr, fun E5 G5 q σ5 F5 H5 S5 s5 => ok.nx E5 G5 q σ5 F5 H5 S5 ((s1.trans ss).trans s5), fun E5 G5 q σ5 F5 H5 S5 s5 => ⟨_, F5, E5, G5, S5, ss.trans s5, q⟩⟩⟩
    · have e : i = ds.length := by omega
      subst e
      rw [List.drop_length] at h2
      exact .inl ⟨wk.stop pn F2 H2 σ2 E2 G2 _ S2 s2 (Nat.le_refl _), ok.nx E2 G2 h2 σ2 F2 H2 S2 (s1.trans s2)⟩⟩⟩

/-! ### while -/
def dWhN (c : DT) (tb : DSt) : Nat → DSt
  | 0, _, _, _ => False
  | n + 1, D, E, G => c E G fun b E1 G1 => if b = true then tb { D with nx := fun E2 G2 => dWhN c tb n D E2 G2, ct := fun E2 G2 => dWhN c tb n D E2 G2, bk := D.nx } E1 G1 else D.nx E1 G1
def dWhile (c : DT) (tb : DSt) : DSt := fun D E G => ∃ n, dWhN c tb n D E G
/-! ### comprehensions -/
def wipe3 (E : Env3) : List Nat → Env3
  | [] => E
  | v :: vs => (wipe3 E vs).set v Sl3.no
theorem wipe3_length (E : Env3) : ∀ vs : List Nat, (wipe3 E vs).length = E.length
  | [] => rfl
  | v :: vs => by unfold wipe3; rw [List.length_set, wipe3_length E vs]
theorem wipe3_some {E : Env3} {i : Nat} {s : Sl3} (hs : s ≠ Sl3.no) : ∀ {vs : List Nat}, (wipe3 E vs)[i]? = some s → E[i]? = some s ∧ i ∉ vs
  | [], h => ⟨h, by simp⟩
  | v :: vs, h => by
    unfold wipe3 at h
    rcases set_look h with ⟨_, z⟩ | ⟨ne, z⟩
    · exact absurd z hs
    · obtain ⟨h1, h2⟩ := wipe3_some hs z
      exact ⟨h1, by simp only [List.mem_cons, not_or]; exact ⟨fun e => ne e.symm, h2⟩⟩
theorem wipe3_val {E : Env3} {i : Nat} {vs : List Nat} {d : D} (h : (wipe3 E vs)[i]? = some (Sl3.val d)) : E[i]? = some (Sl3.val d) ∧ i ∉ vs := wipe3_some (s := Sl3.val d) (fun q => nomatch q) h
theorem wipe3_own {E : Env3} {i : Nat} {vs : List Nat} {d : List D} (h : (wipe3 E vs)[i]? = some (Sl3.own d)) : E[i]? = some (Sl3.own d) ∧ i ∉ vs := wipe3_some (s := Sl3.own d) (fun q => nomatch q) h
theorem wipe3_ow {E : Env3} {i : Nat} {vs : List Nat} {s : Sl3} {d : D} (h : (wipe3 E vs)[i]? = some s) (ho : s.ow = some d) : E[i]? = some s ∧ i ∉ vs := wipe3_some (fun q => by subst q; cases ho) h
/-- other slots, alike outside vs -/
theorem St3.wipeS {pn : Pend} {F H : Hp} {σ σ' : L2.St} {E : Env3} {G : Reg} (S : St3 K B pn F H σ E G) (vs : List Nat) (hl : σ'.length = σ.length) (w : ∀ i, i ∉ vs → σ'[i]? = σ[i]?) : St3 K B pn F H σ' (wipe3 E vs) G := by
  refine ⟨S.w, S.keepF, S.keepH, S.unfr, S.regs, S.regk, by rw [wipe3_length, hl]; exact S.len, fun i d h => ?_, fun i s d h ho => ?_, fun i j s t d e a h1 h2 o1 o2 h3 h4 => ?_, S.pend, S.pnd, fun nm fs h => ?_⟩
  · obtain ⟨h1, h2⟩ := wipe3_val h
    rw [w i h2]; exact S.slot i d h1
  · obtain ⟨h1, h2⟩ := wipe3_ow h ho
    rw [w i h2]; exact S.own i s d h1 ho
  · obtain ⟨q1, n1⟩ := wipe3_ow h1 o1
    obtain ⟨q2, n2⟩ := wipe3_ow h2 o2
    rw [w i n1] at h3
    rw [w j n2] at h4
    exact S.ownd i j s t d e a q1 q2 o1 o2 h3 h4
  · obtain ⟨h1, h2⟩ := wipe3_some (s := Sl3.new nm fs) (fun q => nomatch q) h
    rw [w 0 h2]; exact S.news nm fs h1
theorem wipe_out' {σ : L2.St} {vs : List Nat} {i : Nat} (h : i ∉ vs) : (wipe σ vs)[i]? = σ[i]? := by
  rw [wipe_get, if_neg h]
def LiftTs (X : Cx) (B : Base3) (ifs : List Expr) (tt : DT) : Prop := PTs X ifs (LiftT X.K B tt)
def dYes : DT := fun E G k => k true E G
theorem lts_nil : LiftTs X B [] dYes := ⟨fun pins s σ H Q I ⟨pn, F, E, G, k, S, h, hk⟩ => pts_nil.run pins s σ H Q I (hk _ _ _ h F H S (Same.refl F))⟩
def dLcL (g : DG) (tt : DT) (te : DE) (vs : List Nat) : List D → List D → Env3 → Reg → (List D → Env3 → Reg → Prop) → Prop
  | [], acc, E, G, k => k acc E G
  | d :: ds, acc, E, G, k => g d E G fun E1 G1 => tt E1 G1 fun b E2 G2 => if b = true then te E2 G2 fun r E3 G3 => ∃ x E4, r.ice E3 = some (x, E4) ∧ dLcL g tt te vs ds (acc ++ [x]) (wipe3 E4 vs) G3 k else dLcL g tt te vs ds acc (wipe3 E2 vs) G2 k
def dLc (di : DI) (g : DG) (tt : DT) (te : DE) (vs : List Nat) : DE := fun E G k => di E G fun ds E1 G1 => ds.length ≤ sizeLine ∧ dLcL g tt te vs ds [] (wipe3 E1 vs) G1 fun acc E2 G2 => k (.fr acc) E2 G2
theorem lc3 {di : DI} {g : DG} {tt : DT} {te : DE} {vs : List Nat} {σ : L2.St} {H : Hp} {Q : VK} (h : Lift K B (dLc di g tt te vs) σ H Q) : tLc (LiftI K B di) (LiftG K B vs g) (LiftT K B tt) (Lift K B te) vs σ H Q := by
  obtain ⟨pn, F, E, G, k, S, h, hk⟩ := h
  refine ⟨pn, F, E, G, _, S, h, fun ds E1 G1 ⟨hz, h1⟩ J F1 H1 S1 s1 wk D nD => ?_⟩
  -- the state of the loop: the list at D pending
  have f0 := S1.newFre (xs := []) (ds := []) nD .nil
  have S1' : St3 K B ((D, HO.lst []) :: pn) F1 (upd H1 D (.lst [])) (wipe σ vs) (wipe3 E1 vs) G1 :=
    ((S1.newU nD).pendOn f0.1.nF f0.1.nB f0.1.nG f0.1.nP upd_same f0.2).wipeS vs (wipe_length σ vs) (fun i hi => wipe_out' hi)
  refine ⟨fun i m H' => ∃ F' E' G' acc xs, St3 K B ((D, HO.lst xs) :: pn) F' H' (wipe σ vs) E' G' ∧ (∀ i ∈ vs, ∀ s, E'[i]? = some s → s = Sl3.no) ∧ Same F1 F' ∧ RepL K F' acc xs ∧ acc.length ≤ i ∧ m = ds.length - i ∧ i ≤ ds.length ∧ dLcL g tt te vs (ds.drop i) acc E' G' (fun acc E2 G2 => k (.fr acc) E2 G2), ⟨ds.length, F1, wipe3 E1 vs, G1, [], [], S1', ?w, Same.refl F1, .nil, Nat.zero_le _, rfl, Nat.zero_le _, h1⟩, ?_⟩
  case w =>
    intro i hi s hs
    cases s with
    | no => rfl
    | val d => exact absurd hi (wipe3_val hs).2
    | own d => exact absurd hi (wipe3_own hs).2
    | ownD d => exact absurd hi (wipe3_ow hs rfl).2
    | new nm fs => exact absurd hi (wipe3_some (s := Sl3.new nm fs) (fun q => nomatch q) hs).2
  rintro i m H2 ⟨F2, E2, G2, acc, xs, S2, hw2, s2, ra, hal, rfl, hi, h2⟩
  by_cases hlt : i < ds.length
  · refine .inr ⟨wk.go _ F2 H2 _ E2 G2 i S2 s2 hlt, fun H' => ∃ F' E' G' acc xs, St3 K B ((D, HO.lst xs) :: pn) F' H' (wipe σ vs) E' G' ∧ (∀ i ∈ vs, ∀ s, E'[i]? = some s → s = Sl3.no) ∧ Same F1 F' ∧ RepL K F' acc xs ∧ acc.length ≤ i + 1 ∧ dLcL g tt te vs (ds.drop (i + 1)) acc E' G' (fun acc E2 G2 => k (.fr acc) E2 G2), fun H' ⟨F', E', G', acc', xs', S', w', s', r', l', h'⟩ => ⟨ds.length - (i + 1), by omega, F', E', G', acc', xs', S', w', s', r', l', rfl, hlt, h'⟩, fun x H' y => ?_⟩
    obtain ⟨F3, S3, s3, d, hd, rd⟩ := wk.yld _ F2 H2 _ E2 G2 i x H' S2 s2 hlt y
    rw [List.drop_eq_getElem_cons hlt] at h2
    have ed : ds[i] = d := by
      rw [List.getElem?_eq_getElem hlt] at hd
      exact Option.some.inj hd
    rw [ed] at h2
    refine ⟨_, F3, E2, G2, _, d, S3, rd, h2, fun E4 G4 h4 σ4 F4 H4 S4 s4 w4 => ?_⟩
    have ww : wipe (wipe σ vs) vs = wipe σ vs := by
      apply List.ext_getElem?
      intro j
      rw [wipe_get, wipe_get]
      by_cases q : j ∈ vs
      · rw [if_pos q, if_pos q]; cases σ[j]? <;> rfl
      · rw [if_neg q]
    have w4' : wipe σ4 vs = wipe σ vs := by rw [w4, ww]
    refine ⟨w4', ?_⟩
    have back : ∀ {F' H' E' G' ys}, St3 K B ((D, HO.lst ys) :: pn) F' H' σ4 E' G' → St3 K B ((D, HO.lst ys) :: pn) F' H' (wipe σ vs) (wipe3 E' vs) G' := fun S' => by
      rw [← w4']
      exact S'.wipeS vs (wipe_length σ4 vs) (fun i hi => wipe_out' hi)
    have wno : ∀ (E' : Env3), ∀ i ∈ vs, ∀ s, (wipe3 E' vs)[i]? = some s → s = Sl3.no := fun E' i hi s hs => by
      cases s with
      | no => rfl
      | val d => exact absurd hi (wipe3_val hs).2
      | own d => exact absurd hi (wipe3_own hs).2
      | ownD d => exact absurd hi (wipe3_ow hs rfl).2
      | new nm fs => exact absurd hi (wipe3_some (s := Sl3.new nm fs) (fun q => nomatch q) hs).2
    refine ⟨_, F4, E4, G4, _, S4, h4, fun b E5 G5 h5 F5 H5 S5 s5 => ?_⟩
    have s15 : Same F1 F5 := ((s2.trans s3).trans s4).trans s5
    have s25 : Same F2 F5 := (s3.trans s4).trans s5
    cases b with
    | false => exact ⟨F5, _, G5, acc, xs, back S5, wno _, s15, RepL.mono s25 _ _ ra, by omega, h5⟩
    | true =>
      refine ⟨_, F5, E5, G5, _, S5, h5, fun r E6 G6 ⟨x', E7, hx, h6⟩ v F6 H6 S6 s6 r6 => ?_⟩
      obtain ⟨F7, S7, s7, r7⟩ := S6.ice r6 hx
      have s27 : Same F2 F7 := (s25.trans s6).trans s7
      have ra' := RepL.mono s27 _ _ ra
      refine ⟨xs, S7.pendOff.2.2.2.2.2.1, ?_, F7, _, G6, acc ++ [x'], xs ++ [v], (back (S7.pendWrite (ys := xs ++ [v]))), wno _, (s15.trans s6).trans s7, ra'.append (.cons r7 .nil), by rw [List.length_append]; show acc.length + 1 ≤ i + 1; omega, h6⟩
      have := ra.length
      omega
  · have e : i = ds.length := by omega
    subst e
    rw [List.drop_length] at h2
    obtain ⟨S3, hF, hB, hG, hP, hH, no⟩ := S2.pendOff
    have S4 : St3 K B pn F2 H2 σ E2 G2 := by
      have q := S3.wipeS (σ' := σ) vs (wipe_length σ vs).symm (fun i hi => (wipe_out' hi).symm)
      have eq : wipe3 E2 vs = E2 := by
        apply List.ext_getElem?
        intro j
        cases q2 : E2[j]? with
        | none =>
          apply List.getElem?_eq_none
          rw [wipe3_length]
          exact List.getElem?_eq_none_iff.mp q2
        | some s =>
          have hj := lt_of_look q2
          cases q3 : (wipe3 E2 vs)[j]? with
          | none =>
            have := List.getElem?_eq_none_iff.mp q3
            rw [wipe3_length] at this
            omega
          | some t =>
            cases t with
            | no =>
              by_cases hm : j ∈ vs
              · rw [hw2 j hm s q2]
              · have : ∀ (vs : List Nat), j ∉ vs → (wipe3 E2 vs)[j]? = E2[j]? := by
                  intro vs
                  induction vs with
                  | nil => intro _; rfl
                  | cons v r ih =>
                    intro hm
                    unfold wipe3
                    rw [List.getElem?_set_ne (fun z => hm (by rw [z]; exact List.mem_cons_self))]
                    exact ih (fun z => hm (List.mem_cons_of_mem _ z))
                rw [this vs hm, q2] at q3
                exact q3.symm
            | val d => rw [← (wipe3_val q3).1]; exact q2
            | own d => rw [← (wipe3_own q3).1]; exact q2
            | ownD d => rw [← (wipe3_ow q3 rfl).1]; exact q2
            | new nm fs => rw [← (wipe3_some (s := Sl3.new nm fs) (fun q => nomatch q) q3).1]; exact q2
      rw [eq] at q
      exact q
    refine .inl ⟨wk.stop _ F2 H2 _ E2 G2 _ S2 s2 (Nat.le_refl _), hk _ _ _ h2 _ F2 H2 S4 (s1.trans s2) ⟨D, rfl, ⟨hF, hB, hG, hP, xs, hH, ra⟩, fun j t es hj ht e => ?_⟩⟩
    by_cases hm : j ∈ vs
    · have z := hw2 j hm _ hj
      subst z
      cases ht
    · exact no j t es hj ht (by rw [wipe_out' hm]; exact e)
end
end L3

set_option Elab.async false
set_option maxRecDepth 100000
set_option maxHeartbeats 4000000
/-! L3, part f: comprehensions as values, defs; the operators. -/
namespace L3
open PySem PySem.Spec PyProof.Rows L2
section
variable {X : Cx} {B : Base3}
theorem le_lc {elt tg iter : Expr} {ifs : List Expr} {scope : Scope} {own : List (Str × Nat)} {pos : Pos} {di : DI} {g : DG} {tt : DT} {te : DE} (hc : X.calm = true) (hN : X.N.Nodup) (hi : LI X B tg iter di) (ok : BlkOk X.N X.env.scope scope own)
    (hg : ∀ (s : Shared) (H : Hp) (C : Addr) (cl : List (Str × Addr)) (fp : List Addr), LG (X.blk s H scope (compEnvC scope cl C X.env) fp) B (own.map (·.2)) tg g) (ht : ∀ (s : Shared) (H : Hp) (C : Addr) (cl : List (Str × Addr)) (fp : List Addr), LiftTs (X.blk s H scope (compEnvC scope cl C X.env) fp) B ifs tt)
    (he : ∀ (s : Shared) (H : Hp) (C : Addr) (cl : List (Str × Addr)) (fp : List Addr), LE (X.blk s H scope (compEnvC scope cl C X.env) fp) B elt te) (hs : ∀ x, foldedSetIterable iter X.env x = pure x := by intro _; rfl) :
    LE X B (.ListComp elt [⟨tg, iter, ifs, 0⟩] scope pos) (dLc di g tt te (own.map (·.2))) :=
  ⟨pe_imp (pe_lc hc hN hi.pi ok (fun s H C cl fp => (hg s H C cl fp).pg) (fun s H C cl fp => (show PTs _ ifs (LiftT X.K B tt) from ht s H C cl fp)) (fun s H C cl fp => (he s H C cl fp).pe) hs) fun σ H Q h => lc3 h⟩
end

/-! ### defs -/
def start3 (N : List Str) (ds : List D) : Env3 := ds.map Sl3.val ++ List.replicate (N.length - ds.length) Sl3.no
section
variable {P : Program} {w : World} {K : PySem.W.Frag} {mg : Str → Option Value} {base : Heap}
theorem start_st {N : List Str} {F H : Hp} {G : Reg} {ds : List D} {vs : List V} (wl : Wld K F H G) (r : RepL K F ds vs) : St3 K ⟨F, H, G.map (·.1), 0⟩ [] F H (L2.start N vs) (start3 N ds) G := by
  have hl := r.length
  have look : ∀ {i : Nat} {s : Sl3}, (start3 N ds)[i]? = some s → (∃ d, ds[i]? = some d ∧ s = Sl3.val d) ∨ s = Sl3.no := fun {i s} h => by
    unfold start3 at h
    by_cases q : i < ds.length
    · rw [List.getElem?_append_left (by simpa using q), List.getElem?_map] at h
      rw [List.getElem?_eq_getElem q] at h ⊢
      exact .inl ⟨_, rfl, (Option.some.inj h).symm⟩
    · rw [List.getElem?_append_right (by simpa using Nat.le_of_not_lt q)] at h
      have := List.mem_of_getElem? h
      exact .inr (List.eq_of_mem_replicate this)
  refine ⟨wl, Same.refl F, fun a o h _ => h, fun a o _ _ h => h, fun a h => .inl h, fun a h => h, ?_, fun i d h => ?_, fun i s d h ho => ?_, fun i j s t d e a h _ ho => ?_, fun a xs h => (by cases h), ⟨List.nodup_nil, fun p h => (by cases h)⟩, fun nm fs h => (look h).elim (fun ⟨_, _, z⟩ => by cases z) fun z => by cases z⟩
  · unfold start3 L2.start
    simp only [List.length_append, List.length_map, List.length_replicate, hl]
  · rcases look h with ⟨d', h1, h2⟩ | z
    · cases h2
      obtain ⟨v, h3, h4⟩ := r.get h1
      refine ⟨v, ?_, h4⟩
      have hlt := lt_of_look h3
      unfold L2.start
      rw [List.getElem?_append_left (by simpa using hlt), List.getElem?_map, h3]
      rfl
    · cases z
  · rcases look h with ⟨d', h1, h2⟩ | z
    · subst h2; cases ho
    · subst z; cases ho
  · rcases look h with ⟨d', h1, h2⟩ | z
    · subst h2; cases ho
    · subst z; cases ho
theorem St3.afterB {F H F' H' : Hp} {G G' : Reg} {pn : Pend} {σ : L2.St} {E : Env3} (S : St3 K ⟨F, H, G.map (·.1), 0⟩ pn F' H' σ E G') : After K F H G F' H' G' :=
  ⟨S.w, S.keepF, S.keepH, S.unfr, S.regs, S.regk⟩
/-- THE RULE for a def: its body as a term of rules, and what it makes of plain values -/
theorem ok3 {x qual : Str} {st : Stmt} {f : Addr} {fd : FuncData} {N ps : List Str} {k : Nat} {sp : DSp} (F : Fun K x qual st f fd) (S : FnScope N ps (defScope st)) (len : ∀ ds G q e, sp ds G q e → ds.length = ps.length)
    (body : ∀ (cdv : Value) (A : Around) (outer : List Env) (s : Shared) (H : Hp) (E : XK) (B : Base3) (dw : Exc3 → Reg → Prop), Room k (A.deeper (envOfC qual (defScope st) s.heap.objs.size f cdv)) →
      WOkL (cxOf (L2.CX P w) P w K mg base N qual (defScope st) f cdv A outer s H E) B (fun x _ G => dw x G) →
      ∃ t : DSt, LSs (cxOf (L2.CX P w) P w K mg base N qual (defScope st) f cdv A outer s H E) B (defBody st) t ∧ ∀ ds G q, sp ds G q dw → t { nx := fun _ G' => q (.val .non) G', rt := q } (start3 N ds) G) :
    FnOk P w K mg base (L2.CX P w) (k + 1) f fd ps (LSp K sp) := by
  refine F.okX S (fun vs H Q E h => ?_) (fun cdv A outer s H vs Q E hr h => ?_)
  · obtain ⟨F, G, ds, q, e, _, r, h, _⟩ := h
    rw [← r.length]
    exact len _ _ _ _ h
  · obtain ⟨F, G, ds, q, e, wl, r, h, hq, he⟩ := h
    have wk : WOkL (cxOf (L2.CX P w) P w K mg base N qual (defScope st) f cdv A outer s H E) ⟨F, H, G.map (·.1), 0⟩ (fun x _ G => e x G) :=
      ⟨⟨fun cls d H => E cls d H, takes_of rfl rfl rfl rfl, fun pn F' H' σ E' G' x cls dd S' rx hx => he x G' hx cls dd F' H' S'.afterB rx⟩, lk_self⟩
    obtain ⟨t, hb, ht⟩ := body cdv A outer s H E ⟨F, H, G.map (·.1), 0⟩ e hr wk
    refine ⟨_, hb.pss, ⟨[], F, start3 N ds, G, _, start_st wl r, ht ds G q h, ⟨fun E' G' h' σ' F' H' S' _ => hq _ _ h' _ F' H' S'.afterB .non, fun r' G' h' v F' H' σ' E' S' _ rr => hq _ _ h' v F' H' S'.afterB ?_, fun _ _ z => z.elim, fun _ _ z => z.elim⟩⟩⟩
    cases r' with
    | val d => exact rr
    | fr es =>
      obtain ⟨a, rfl, f⟩ := rr
      obtain ⟨xs, h1, h2⟩ := f.ex
      exact ⟨a, xs, rfl, f.nF, f.nB, f.nG, h1, h2⟩
    | frD d =>
      obtain ⟨a, rfl, f⟩ := rr
      obtain ⟨o, h1, h2⟩ := f.ex
      exact ⟨a, o, rfl, f.nF, f.nB, f.nG, h1, h2⟩
    | sl i => exact rr.elim
end

/-! ### plain data that can be compared -/
mutual
def D.py : D → PyData
  | .non => .none
  | .bl b => .bool b
  | .int i => .int i
  | .str x => .str x
  | .ref _ => .none
  | .ty _ => .none
  | .scr _ => .none
  | .obj _ _ => .none
  | .cls _ => .none
  | .dcK _ _ => .none
  | .dcT _ _ => .none
  | .ktp _ => .none
  | .tag _ => .none
  | .tup ds => .tuple (pyL ds)
  | .lst ds => .list (pyL ds)
def pyL : List D → List PyData
  | [] => []
  | d :: ds => d.py :: pyL ds
end
def shl (p : D → Bool) : D → Bool
  | .tup ds => ds.all p
  | .lst ds => ds.all p
  | .ref _ => false
  | .ty _ => false
  | .scr _ => false
  | .obj _ _ => false
  | .cls _ => false
  | .dcK _ _ => false
  | .dcT _ _ => false
  | .ktp _ => false
  | .tag _ => false
  | .str x => PyData.strOk x
  | _ => true
def sh0 : D → Bool
  | .tup ds => ds.isEmpty
  | .lst ds => ds.isEmpty
  | .ref _ => false
  | .ty _ => false
  | .scr _ => false
  | .obj _ _ => false
  | .cls _ => false
  | .dcK _ _ => false
  | .dcT _ _ => false
  | .ktp _ => false
  | .tag _ => false
  | .str x => PyData.strOk x
  | _ => true
def D.sh : D → Bool := shl (shl (shl (shl (shl sh0))))
/-- as sh, told so that the kernel reckons it -/
def strOkC (x : Str) : Bool := x.cps.toList.all fun c => Nat.blt c 0x110000
theorem strOkC_of {x : Str} (h : strOkC x = true) : PyData.strOk x = true := by
  unfold PyData.strOk
  rw [Array.all_eq_true']
  intro c hc
  have := List.all_eq_true.mp h c (Array.mem_toList_iff.mpr hc)
  exact decide_eq_true (Nat.blt_eq.mp this)
def shlC (p : D → Bool) : D → Bool
  | .tup ds => ds.all p
  | .lst ds => ds.all p
  | .str x => strOkC x
  | .non => true
  | .bl _ => true
  | .int _ => true
  | _ => false
def sh0C : D → Bool
  | .tup ds => ds.isEmpty
  | .lst ds => ds.isEmpty
  | .str x => strOkC x
  | .non => true
  | .bl _ => true
  | .int _ => true
  | _ => false
def D.shC : D → Bool := shlC (shlC (shlC (shlC (shlC sh0C))))
theorem sh0C_of : ∀ {d : D}, sh0C d = true → sh0 d = true := fun {d} h => by
  cases d <;> first | exact h | exact strOkC_of h | cases h
theorem shlC_of {p q : D → Bool} (hp : ∀ {d : D}, p d = true → q d = true) : ∀ {d : D}, shlC p d = true → shl q d = true := fun {d} h => by
  cases d with
  | tup ds => exact List.all_eq_true.mpr fun x hx => hp (List.all_eq_true.mp h x hx)
  | lst ds => exact List.all_eq_true.mpr fun x hx => hp (List.all_eq_true.mp h x hx)
  | str x => exact strOkC_of h
  | _ => first | rfl | cases h
theorem shC_of {d : D} (h : d.shC = true) : d.sh = true := shlC_of (fun h => shlC_of (fun h => shlC_of (fun h => shlC_of (fun h => shlC_of sh0C_of h) h) h) h) h
def D.eqv (d e : D) : Bool := PyData.eqv d.py e.py
def ShOk (p : D → Bool) (m : Nat) : Prop := ∀ (K : PySem.W.Frag) (F : Hp) (d : D) (v : V), p d = true → Rep K F d v → Dp K F v d.py ∧ d.py.canLay0 = true ∧ d.py.depth ≤ m
theorem sh0_ok : ShOk sh0 1 := by
  intro K F d v h r
  cases r with
  | non => exact ⟨.non, rfl, by simp [D.py, PyData.depth]⟩
  | bl b => exact ⟨.bl b, rfl, by simp [D.py, PyData.depth]⟩
  | int b => exact ⟨.int b, rfl, by simp [D.py, PyData.depth]⟩
  | str b => exact ⟨.str b, h, by simp [D.py, PyData.depth]⟩
  | ref a => cases h
  | ty n => cases h
  | scr n => cases h
  | obj _ _ _ _ => cases h
  | cls _ => cases h
  | dcK _ _ _ => cases h
  | dcT _ _ _ => cases h
  | ktp _ => cases h
  | @tup a xs ds hs ha =>
    cases ds with
    | nil => cases ha; exact ⟨.tup (SqT.of hs) .nil, rfl, by simp [D.py, pyL, PyData.depth, PyData.depthAll]⟩
    | cons _ _ => cases h
  | @lst a xs ds hs ha =>
    cases ds with
    | nil => cases ha; exact ⟨.lst (.inl hs) .nil, rfl, by simp [D.py, pyL, PyData.depth, PyData.depthAll]⟩
    | cons _ _ => cases h
theorem shl_all {p : D → Bool} {m : Nat} (hp : ShOk p m) {K : PySem.W.Frag} {F : Hp} : ∀ (ds : List D) (vs : List V), ds.all p = true → RepL K F ds vs → DpAll K F vs (pyL ds) ∧ PyData.canLayAll0 (pyL ds) = true ∧ PyData.depthAll (pyL ds) ≤ m
  | [], _, _, r => by cases r; exact ⟨.nil, rfl, Nat.zero_le _⟩
  | d :: ds, _, h, r => by
    cases r with
    | cons r1 r2 =>
      rw [List.all_cons, Bool.and_eq_true] at h
      obtain ⟨h1, h2, h3⟩ := hp K F d _ h.1 r1
      obtain ⟨q1, q2, q3⟩ := shl_all hp ds _ h.2 r2
      exact ⟨.cons h1 q1, by simp [pyL, PyData.canLayAll0, h2, q2], by simp only [pyL, PyData.depthAll]; exact Nat.max_le.mpr ⟨h3, q3⟩⟩
theorem shl_ok {p : D → Bool} {m : Nat} (hp : ShOk p m) : ShOk (shl p) (m + 1) := by
  intro K F d v h r
  cases r with
  | non => exact ⟨.non, rfl, by simp [D.py, PyData.depth]⟩
  | bl b => exact ⟨.bl b, rfl, by simp [D.py, PyData.depth]⟩
  | int b => exact ⟨.int b, rfl, by simp [D.py, PyData.depth]⟩
  | str b => exact ⟨.str b, h, by simp [D.py, PyData.depth]⟩
  | ref a => cases h
  | ty n => cases h
  | scr n => cases h
  | obj _ _ _ _ => cases h
  | cls _ => cases h
  | dcK _ _ _ => cases h
  | dcT _ _ _ => cases h
  | ktp _ => cases h
  | @tup a xs ds hs ha =>
    obtain ⟨h1, h2, h3⟩ := shl_all hp ds xs h ha
    exact ⟨.tup (SqT.of hs) h1, by simpa [D.py, PyData.canLay0] using h2, by simp only [D.py, PyData.depth]; omega⟩
  | @lst a xs ds hs ha =>
    obtain ⟨h1, h2, h3⟩ := shl_all hp ds xs h ha
    exact ⟨.lst (.inl hs) h1, by simpa [D.py, PyData.canLay0] using h2, by simp only [D.py, PyData.depth]; omega⟩
theorem sh_ok : ShOk D.sh 6 := shl_ok (shl_ok (shl_ok (shl_ok (shl_ok sh0_ok))))
mutual
theorem Dp.mono3 {K : PySem.W.Frag} {F F' : Hp} (e : Same F F') : ∀ (d : PyData) (v : V), Dp K F v d → Dp K F' v d
  | .none, _, h => by cases h; exact .non
  | .bool _, _, h => by cases h; exact .bl _
  | .int _, _, h => by cases h; exact .int _
  | .str _, _, h => by cases h; exact .str _
  | .list ds, _, h => by
    cases h with
    | lst hs ha => exact .lst (e.seq hs) (DpAll.mono3 e ds _ ha)
  | .tuple ds, _, h => by
    cases h with
    | tup hs ha => exact .tup (sameT e hs) (DpAll.mono3 e ds _ ha)
  | .dict _, _, h => by cases h
theorem DpAll.mono3 {K : PySem.W.Frag} {F F' : Hp} (e : Same F F') : ∀ (ds : List PyData) (vs : List V), DpAll K F vs ds → DpAll K F' vs ds
  | [], _, h => by cases h; exact .nil
  | d :: ds, _, h => by
    cases h with
    | cons h1 h2 => exact .cons (Dp.mono3 e d _ h1) (DpAll.mono3 e ds _ h2)
end
theorem sh_H {K : PySem.W.Frag} {F H : Hp} {d : D} {v : V} (s : Same F H) (h : d.sh = true) (r : RepH K F H d v) : Dp K H v d.py ∧ SeqAt.shaped d.py = true := by
  have fin : ∀ {d : D}, Dp K H v d.py ∧ d.py.canLay0 = true ∧ d.py.depth ≤ 6 → Dp K H v d.py ∧ SeqAt.shaped d.py = true := fun {d} ⟨a, b, c⟩ => ⟨a, by unfold SeqAt.shaped; rw [b, Bool.true_and]; exact decide_eq_true (by omega)⟩
  rcases r with r | ⟨a, o, rfl, h1, h2⟩
  · obtain ⟨q1, q2, q3⟩ := sh_ok K F d v h r
    exact fin ⟨Dp.mono3 s _ _ q1, q2, q3⟩
  · obtain ⟨ds, rfl⟩ : ∃ ds, d = .lst ds := by
      cases d with
      | lst ds => exact ⟨ds, rfl⟩
      | dcT ks ds => cases h
      | dcK ks ds => cases h
      | _ => exact h2.elim
    obtain ⟨xs, rfl, h2⟩ := h2
    obtain ⟨q1, q2, q3⟩ := shl_all (shl_ok (shl_ok (shl_ok (shl_ok sh0_ok)))) ds xs h (RepL.mono s _ _ h2)
    refine fin (d := .lst ds) ⟨.lst (SqL.of h1) q1, by simpa [D.py, PyData.canLay0] using q2, by simp only [D.py, PyData.depth]; omega⟩
theorem RepH.lst {K : PySem.W.Frag} {F H : Hp} {ds : List D} {v : V} (r : RepH K F H (.lst ds) v) (s : Same F H) : ∃ a xs, v = .ref a ∧ Rd H a (.lst xs) ∧ RepL K F ds xs := by
  rcases r with r | ⟨a, o, rfl, h1, h2⟩
  · cases r with
    | lst hs ha => exact ⟨_, _, rfl, sameR s hs, ha⟩
  · obtain ⟨xs, rfl, h2⟩ := h2
    exact ⟨a, xs, rfl, Rd.of h1, h2⟩
theorem RepH.dck {K : PySem.W.Frag} {F H : Hp} {ks : List Key} {ds : List D} {v : V} (r : RepH K F H (.dcK ks ds) v) (s : Same F H) : ∃ a ob xs, v = .ref a ∧ H a = some (.frz ob (.dK (ks.zip xs))) ∧ ks.length = xs.length ∧ RepL K F ds xs := by
  rcases r with r | ⟨a, o, rfl, h1, h2⟩
  · cases r with
    | dcK e hl ha => exact ⟨_, _, _, rfl, s _ _ e, hl, ha⟩
  · obtain ⟨ob, xs, rfl, hl, h2⟩ := h2
    exact ⟨a, ob, xs, rfl, h1, hl, h2⟩
/-- a dict -/
def D.isDc : D → Bool
  | .dcT _ _ => true
  | .dcK _ _ => true
  | _ => false
theorem RepH.val {K : PySem.W.Frag} {F H : Hp} {d : D} {v : V} (r : RepH K F H d v) (n : ∀ ds, d ≠ .lst ds) (m : d.isDc = false := by rfl) : Rep K F d v := by
  rcases r with r | ⟨a, o, rfl, h1, h2⟩
  · exact r
  · cases d with
    | lst ds => exact absurd rfl (n ds)
    | dcT ks ds => cases m
    | dcK ks ds => cases m
    | _ => exact h2.elim
theorem RepH.tup {K : PySem.W.Frag} {F H : Hp} {ds : List D} {v : V} (r : RepH K F H (.tup ds) v) (s : Same F H) : ∃ a xs, v = .ref a ∧ SqT K H a xs ∧ RepL K F ds xs := by
  cases r.val (fun _ q => nomatch q) with
  | tup hs ha => exact ⟨_, _, rfl, SqT.of (s _ _ hs), ha⟩
theorem RepH.ktp {K : PySem.W.Frag} {F H : Hp} {ns : List Int} {v : V} (r : RepH K F H (.ktp ns) v) (s : Same F H) : ∃ a, v = .ref a ∧ SqT K H a (ns.map V.int) := by
  cases r.val (fun _ q => nomatch q) with
  | ktp hs => exact ⟨_, rfl, sameT s hs⟩
theorem RepH.int {K : PySem.W.Frag} {F H : Hp} {i : Int} {v : V} (r : RepH K F H (.int i) v) : v = .int i := by
  cases r.val (fun _ q => nomatch q); rfl
theorem RepH.bl {K : PySem.W.Frag} {F H : Hp} {i : Bool} {v : V} (r : RepH K F H (.bl i) v) : v = .bl i := by
  cases r.val (fun _ q => nomatch q); rfl
theorem RepH.str {K : PySem.W.Frag} {F H : Hp} {i : Str} {v : V} (r : RepH K F H (.str i) v) : v = .str i := by
  cases r.val (fun _ q => nomatch q); rfl
theorem RepH.non {K : PySem.W.Frag} {F H : Hp} {v : V} (r : RepH K F H .non v) : v = .non := by
  cases r.val (fun _ q => nomatch q); rfl
end L3

set_option Elab.async false
set_option maxRecDepth 100000
set_option maxHeartbeats 4000000
/-! L3, part g: operators, subscripts, built-ins over plain values. -/
namespace L3
open PySem PySem.Spec PyProof.Rows L2
section
variable {X : Cx} {B : Base3}
/-! ### list + list, list * int: also of a list that is locked -/
def rCatR : R2 := fun x y H Q => ∃ l b xs zs, x = .ref l ∧ y = .ref b ∧ Rd H l (.lst xs) ∧ Rd H b (.lst zs) ∧ xs.length + zs.length ≤ sizeLine ∧ ∀ p, H p = none → Q (.ref p) (upd H p (.lst (xs ++ zs)))
theorem op_catR : OpR X (binaryOp .Add) rCatR := by
  intro pins s σ H x y v u Q I rx ry h
  obtain ⟨l, b, xs, zs, rfl, rfl, hH, hB, hz, q⟩ := h
  cases rx
  cases ry
  obtain ⟨z, its, n, r, e⟩ := hH.ok I.hok
  obtain ⟨z2, its2, n2, r2, e2⟩ := hB.ok I.hok
  have hl := r.length
  have hl2 := r2.length
  refine PySem.P.add_list e e2 ?_ (by rw [List.size_toArray, List.size_toArray]; omega)
  have ea : its.toArray ++ its2.toArray = (its ++ its2).toArray := by simp
  rw [ea]
  exact ⟨.ref _, _, I.lnew (t' := s.toks) (r.append r2) (by rw [List.length_append]; omega), rfl, q _ I.fresh⟩
def rRepR : R2 := fun x y H Q => ∃ l k xs, x = .ref l ∧ y = .int k ∧ Rd H l (.lst xs) ∧ -(2 ^ 63) ≤ k ∧ k < 2 ^ 63 ∧ xs.length * k.toNat ≤ sizeLine ∧
  ∀ p, H p = none → Q (.ref p) (upd H p (.lst (List.replicate k.toNat xs).flatten))
theorem op_repR : OpR X (binaryOp .Mult) rRepR := by
  intro pins s σ H x y v u Q I rx ry h
  obtain ⟨l, k, xs, rfl, rfl, hH, h1, h2, hz, q⟩ := h
  cases rx
  obtain ⟨t, rfl⟩ := ry
  obtain ⟨z, its, n, r, e⟩ := hH.ok I.hok
  have hl := r.length
  have hlen : its.toArray.size * k.toNat ≤ sizeLine := by rw [List.size_toArray, ← hl]; exact hz
  have hcap : ¬ its.toArray.size * k.toNat > (2 ^ 63 - 1) / 8 := by
    have : (sizeLine : Nat) ≤ (2 ^ 63 - 1) / 8 := by decide
    omega
  have hfit : ¬ (!Builtin.List.listFitsIndex k) = true := by
    rw [fitsIndex_both h1 h2]
    exact Bool.false_ne_true
  have hlong : ¬ Builtin.List.listTooLong (its.toArray.size * k.toNat) = true := by
    rw [notLongL hlen]
    exact Bool.false_ne_true
  have hnew : List.foldl (fun x1 x2 => x1 ++ x2) #[] (List.replicate (if its.toArray.isEmpty = true then 0 else k.toNat) its.toArray) = (List.replicate k.toNat its).flatten.toArray := by
    have f0 : ∀ m : Nat, List.foldl (fun x1 x2 => x1 ++ x2) #[] (List.replicate m its.toArray) = (List.replicate m its).flatten.toArray := fun m => by
      have := foldl_rep its m []
      rw [List.nil_append] at this
      exact this
    rw [f0]
    cases its with
    | nil => simp
    | cons a r' => rw [if_neg (by simp)]
  refine wpAny_binaryOp_repeat_ref (T := "list") (U := "int") (by decide) ⟨_, e, rfl⟩ (fun s' => typeIs_int s' k t) noFill_list_mul F.fills_int_mul F.slot_int_rmul repeat_list F.slot_int_index.lookup
    (call_meets F.slot_int_rmul (typeIs_int s k t) F.entry_int_rmul (F.args_int_rmul_2 _ _) (int___rmul___int_list k t l its.toArray n)
      ⟨e, rfl, ⟨_, e, rfl⟩, call_meets F.slot_list_mul ⟨_, e, rfl⟩ F.entry_list_mul (F.args_list_mul_2 _ _) (AutoListH.list___mul___list_int_3 l its.toArray n k t hfit hcap hlong) ⟨e, ?_⟩⟩)
  rw [hnew]
  exact ⟨.ref _, _, I.lnew (t' := s.toks) (r.rep k.toNat) (by rw [PyProof.Rows.lm_len_rep_flat, Nat.mul_comm]; exact hz), rfl, q _ I.fresh⟩

/-! ### + - * // % ** -/
def oAdd : Reg → D → D → (Res → Prop) → Prop := fun _ d e k => match d, e with
  | .int i, .int j => k (.val (.int (i + j)))
  | .str a, .str b => a.length + b.length ≤ sizeLine ∧ k (.val (.str (a ++ b)))
  | .tup a, .tup b => a.length + b.length ≤ sizeLine ∧ k (.val (.tup (a ++ b)))
  | .lst a, .lst b => a.length + b.length ≤ sizeLine ∧ k (.fr (a ++ b))
  | _, _ => False
def rAdd3 (K : PySem.W.Frag) : R2 := fun x y H Q => rI0 (fun i j => .int (i + j)) x y H Q ∨ (∃ i j, x = .str i ∧ y = .str j ∧ i.length + j.length ≤ sizeLine ∧ Q (.str (i ++ j)) H) ∨ rCatA K x y H Q ∨ rCatR x y H Q
theorem op_add3 : OpR X (binaryOp .Add) (rAdd3 X.K) := op_add.or (op_add_str.or (op_catA.or op_catR))
theorem r_add3 : ROp X B (rAdd3 X.K) oAdd := by
  intro pn F H σ E G x y d e k Q S rx ry h hk
  unfold oAdd at h
  split at h
  · rw [rx.int, ry.int]
    exact .inl ⟨_, _, rfl, rfl, hk _ h _ F H S (Same.refl F) (.int _)⟩
  · rw [rx.str, ry.str]
    exact .inr (.inl ⟨_, _, rfl, rfl, h.1, hk _ h.2 _ F H S (Same.refl F) (.str _)⟩)
  · rename_i a b
    obtain ⟨p, xs, rfl, hs, ra⟩ := rx.tup S.w.sub
    obtain ⟨p2, ys, rfl, hs2, rb⟩ := ry.tup S.w.sub
    have rx' := rx.val (fun _ q => nomatch q)
    have ry' := ry.val (fun _ q => nomatch q)
    refine .inr (.inr (.inl ⟨p, p2, xs, ys, rfl, rfl, hs, hs2, by rw [← ra.length, ← rb.length]; exact h.1, fun e => ?_, fun _ e => ?_, fun _ _ q nq => ?_⟩))
    · have ea : a = [] := by cases a with | nil => rfl | cons _ _ => rw [e] at ra; cases ra
      subst ea
      exact hk _ h.2 _ F H S (Same.refl F) ry'
    · have eb : b = [] := by cases b with | nil => rfl | cons _ _ => rw [e] at rb; cases rb
      subst eb
      rw [List.append_nil] at h
      exact hk _ h.2 _ F H S (Same.refl F) rx'
    · obtain ⟨S2, s2⟩ := S.newF (o := .tup (xs ++ ys)) nq
      exact hk _ h.2 _ _ _ S2 s2 (.tup upd_same (RepL.mono s2 _ _ (ra.append rb)))
  · obtain ⟨p, xs, rfl, hs, ra⟩ := rx.lst S.w.sub
    obtain ⟨p2, ys, rfl, hs2, rb⟩ := ry.lst S.w.sub
    refine .inr (.inr (.inr ⟨p, p2, xs, ys, rfl, rfl, hs, hs2, by rw [← ra.length, ← rb.length]; exact h.1, fun q nq => ?_⟩))
    obtain ⟨f, no⟩ := S.newFre nq (ra.append rb)
    exact hk _ h.2 _ _ _ (S.newU nq) (Same.refl F) ⟨q, rfl, f, no⟩
  · exact h.elim
theorem le_add {a b : Expr} {ta tb : DE} {pos} (ha : LE X B a ta) (hb : LE X B b tb) : LE X B (.BinOp a .Add b pos) (dOp oAdd ta tb) := le_op op_add3 r_add3 ha hb

def oSub : Reg → D → D → (Res → Prop) → Prop := fun _ d e k => match d, e with
  | .int i, .int j => k (.val (.int (i - j)))
  | _, _ => False
/-- an operator of ints -/
theorem r_ii {C : Int → Int → Prop} {g : Int → Int → Int} {rd : Reg → D → D → (Res → Prop) → Prop} (h : ∀ G d e k, rd G d e k → ∃ i j, d = .int i ∧ e = .int j ∧ C i j ∧ k (.val (.int (g i j)))) : ROp X B (rI C fun i j => .int (g i j)) rd := by
  intro pn F H σ E G x y d e k Q S rx ry hr hk
  obtain ⟨i, j, rfl, rfl, hc, q⟩ := h _ _ _ _ hr
  exact ⟨i, j, rx.int, ry.int, hc, hk _ q _ F H S (Same.refl F) (.int _)⟩
theorem r_ii0 {g : Int → Int → Int} {rd : Reg → D → D → (Res → Prop) → Prop} (h : ∀ G d e k, rd G d e k → ∃ i j, d = .int i ∧ e = .int j ∧ k (.val (.int (g i j)))) : ROp X B (rI0 fun i j => .int (g i j)) rd := by
  intro pn F H σ E G x y d e k Q S rx ry hr hk
  obtain ⟨i, j, rfl, rfl, q⟩ := h _ _ _ _ hr
  exact ⟨i, j, rx.int, ry.int, hk _ q _ F H S (Same.refl F) (.int _)⟩
theorem r_ib0 {g : Int → Int → Bool} {rd : Reg → D → D → (Res → Prop) → Prop} (h : ∀ G d e k, rd G d e k → ∃ i j, d = .int i ∧ e = .int j ∧ k (.val (.bl (g i j)))) : ROp X B (rI0 fun i j => .bl (g i j)) rd := by
  intro pn F H σ E G x y d e k Q S rx ry hr hk
  obtain ⟨i, j, rfl, rfl, q⟩ := h _ _ _ _ hr
  exact ⟨i, j, rx.int, ry.int, hk _ q _ F H S (Same.refl F) (.bl _)⟩
theorem r_sub3 : ROp X B (rI0 fun i j => .int (i - j)) oSub := r_ii0 fun G d e k h => by
  unfold oSub at h
  split at h
  · exact ⟨_, _, rfl, rfl, h⟩
  · exact h.elim
theorem le_sub {a b : Expr} {ta tb : DE} {pos} (ha : LE X B a ta) (hb : LE X B b tb) : LE X B (.BinOp a .Sub b pos) (dOp oSub ta tb) := le_op op_sub r_sub3 ha hb

/-- a product's size: one factor within 2 ^ 64, or both together below a million bits -/
def MulOk (i j : Int) : Prop := CMul i j ∨ CMulW i j
theorem op_mulI : OpR X (binaryOp .Mult) (rI MulOk fun i j => .int (i * j)) := by
  intro pins s σ H x y v u Q I rx ry h
  obtain ⟨i, j, rfl, rfl, hc, q⟩ := h
  rcases hc with hc | hc
  · exact op_mul pins s σ H _ _ v u Q I rx ry ⟨i, j, rfl, rfl, hc, q⟩
  · exact op_mulW pins s σ H _ _ v u Q I rx ry ⟨i, j, rfl, rfl, hc, q⟩
/-- the built-in at count one hands the tuple itself back -/
theorem tup_times_one (l : Addr) (its : Array Value) (n : Nat) (dd : Option Addr) (sl : Array (Option Value)) (u : Tok) :
    Meets (Builtin.«tuple.__mul__» ⟨[Value.ref l, Value.int 1 u], []⟩) (fun _ R s =>
      s.heap.get? l = some ⟨.type "tuple", dd, .seq its n, sl⟩ ∧ R (.ok (.ret (Value.ref l))) s) := by
  refine .of_wp fun prog w A R s h => ?_
  obtain ⟨hp, g, d, tk, os⟩ := s
  obtain ⟨hl, h⟩ := h
  have f1 := AutoSeq1.idx_int
  wp_walk using wpAny_loadPart' hl
  exact ⟨_, rfl, h⟩
theorem tup_times_none (l : Addr) (its : Array Value) (n : Nat) (dd : Option Addr) (sl : Array (Option Value)) (u : Tok) (hn : its.isEmpty = false) :
    Meets (Builtin.«tuple.__mul__» ⟨[Value.ref l, Value.int 0 u], []⟩) (fun _ R s =>
      s.heap.get? l = some ⟨.type "tuple", dd, .seq its n, sl⟩ ∧
      R (.ok (.ret (Value.ref s.heap.objs.size))) { s with heap := s.heap.push { cls := Value.type "tuple", data := Data.seq #[] }, toks := s.toks }) := by
  refine .of_wp fun prog w A R s h => ?_
  obtain ⟨hp, g, d, tk, os⟩ := s
  obtain ⟨hl, h⟩ := h
  have f1 := AutoSeq1.idx_int
  wp_walk using wpAny_loadPart' hl
  exact ⟨_, rfl, h⟩
def rRep01 (K : PySem.W.Frag) : R2 := fun x y H Q => ∃ l k xs, x = .ref l ∧ y = .int k ∧ SqT K H l xs ∧ xs ≠ [] ∧ (k = 1 ∧ Q (.ref l) H ∨ k = 0 ∧ ∀ p, H p = none → Q (.ref p) (upd H p (.tup [])))
theorem op_rep01 : OpR X (binaryOp .Mult) (rRep01 X.K) := by
  intro ps s σ H x y v u Q I rx ry hc
  obtain ⟨l, k, xs, rfl, rfl, sq, ne, hc⟩ := hc
  cases rx
  obtain ⟨t, rfl⟩ := ry
  obtain ⟨its, rr, ⟨⟨cl, dd, dt, sl⟩, g, c1, n, c2⟩, -⟩ := I.tuple sq
  simp only at c1 c2
  subst c1 c2
  have nn : its.toArray.isEmpty = false := by
    cases its with
    | nil => cases rr; exact absurd rfl ne
    | cons a b => rfl
  rcases hc with ⟨rfl, q⟩ | ⟨rfl, q⟩
  · exact wpAny_binaryOp_repeat_ref (T := "tuple") (U := "int") (by decide) ⟨_, g, rfl⟩ (fun _ => typeIs_int _ _ _) noFill_tuple_mul F.fills_int_mul F.slot_int_rmul repeat_tuple F.slot_int_index.lookup
      (call_meets F.slot_int_rmul (typeIs_int _ _ _) F.entry_int_rmul (F.args_int_rmul_2 _ _) (int_rmul_tuple _ _ _ _ _ _ _)
        ⟨g, rfl, ⟨_, g, rfl⟩, call_meets F.slot_tuple_mul ⟨_, g, rfl⟩ F.entry_tuple_mul (F.args_tuple_mul_2 _ _) (tup_times_one _ _ _ _ _ _)
          ⟨g, .ref l, _, I, rfl, q⟩⟩)
  · exact wpAny_binaryOp_repeat_ref (T := "tuple") (U := "int") (by decide) ⟨_, g, rfl⟩ (fun _ => typeIs_int _ _ _) noFill_tuple_mul F.fills_int_mul F.slot_int_rmul repeat_tuple F.slot_int_index.lookup
      (call_meets F.slot_int_rmul (typeIs_int _ _ _) F.entry_int_rmul (F.args_int_rmul_2 _ _) (int_rmul_tuple _ _ _ _ _ _ _)
        ⟨g, rfl, ⟨_, g, rfl⟩, call_meets F.slot_tuple_mul ⟨_, g, rfl⟩ F.entry_tuple_mul (F.args_tuple_mul_2 _ _) (tup_times_none _ _ _ _ _ _ nn)
          ⟨g, .ref s.heap.objs.size, _, I.laid (t' := s.toks) (o := .tup []) (fun b ob q => Heap.get?_push_of_some _ q) (Nat.le_refl _) ⟨by decide, _, .nil, IsTup.new _ _⟩, rfl, q _ (I.hok.fresh (Nat.le_refl _))⟩⟩)
def oMul : Reg → D → D → (Res → Prop) → Prop := fun _ d e k => match d, e with
  | .int i, .int j => MulOk i j ∧ k (.val (.int (i * j)))
  | .lst a, .int j => -(2 ^ 63) ≤ j ∧ j < 2 ^ 63 ∧ a.length * j.toNat ≤ sizeLine ∧ k (.fr (List.replicate j.toNat a).flatten)
  | .tup a, .int j => a ≠ [] ∧ 0 ≤ j ∧ j ≤ 1000 ∧ a.length ≤ 1000 ∧ k (.val (.tup (List.replicate j.toNat a).flatten))
  | _, _ => False
def rMul3 (K : PySem.W.Frag) : R2 := fun x y H Q => rI MulOk (fun i j => .int (i * j)) x y H Q ∨ rRepR x y H Q ∨ rRepT K x y H Q ∨ rRep01 K x y H Q
theorem op_mul3 : OpR X (binaryOp .Mult) (rMul3 X.K) := op_mulI.or (op_repR.or (op_repT.or op_rep01))
theorem r_mul3 : ROp X B (rMul3 X.K) oMul := by
  intro pn F H σ E G x y d e k Q S rx ry h hk
  unfold oMul at h
  split at h
  · exact .inl ⟨_, _, rx.int, ry.int, h.1, hk _ h.2 _ F H S (Same.refl F) (.int _)⟩
  · obtain ⟨h1, h2, h3, h4⟩ := h
    obtain ⟨p, xs, rfl, hs, ra⟩ := rx.lst S.w.sub
    refine .inr (.inl ⟨p, _, xs, rfl, ry.int, hs, h1, h2, by rw [← ra.length]; exact h3, fun q nq => ?_⟩)
    obtain ⟨f, no⟩ := S.newFre nq (ra.rep _)
    exact hk _ h4 _ _ _ (S.newU nq) (Same.refl F) ⟨q, rfl, f, no⟩
  · rename_i a j
    obtain ⟨h0, h1, h2, h3, h4⟩ := h
    obtain ⟨p, xs, rfl, hs, ra⟩ := rx.tup S.w.sub
    have hne : xs ≠ [] := fun e => h0 (by rw [e] at ra; cases ra; rfl)
    rcases (by omega : j = 0 ∨ j = 1 ∨ 2 ≤ j) with rfl | rfl | h1
    · refine .inr (.inr (.inr ⟨p, _, xs, rfl, ry.int, hs, hne, .inr ⟨rfl, fun q nq => ?_⟩⟩))
      obtain ⟨S2, s2⟩ := S.newF nq
      exact hk _ h4 _ _ _ S2 s2 (.tup upd_same .nil)
    · rw [show (List.replicate (Int.toNat 1) a).flatten = a from by simp [List.replicate]] at h4
      exact .inr (.inr (.inr ⟨p, _, xs, rfl, ry.int, hs, hne, .inl ⟨rfl, hk _ h4 _ _ _ S (Same.refl F) (rx.val (fun _ q => nomatch q))⟩⟩))
    refine .inr (.inr (.inl ⟨p, _, xs, rfl, ry.int, hs, hne, h1, h2, by rw [← ra.length]; exact h3, fun q nq => ?_⟩))
    · obtain ⟨S2, s2⟩ := S.newF nq
      exact hk _ h4 _ _ _ S2 s2 (.tup upd_same (RepL.mono s2 _ _ (ra.rep _)))
  · exact h.elim
theorem le_mul {a b : Expr} {ta tb : DE} {pos} (ha : LE X B a ta) (hb : LE X B b tb) : LE X B (.BinOp a .Mult b pos) (dOp oMul ta tb) := le_op op_mul3 r_mul3 ha hb
def oFdiv : Reg → D → D → (Res → Prop) → Prop := fun _ d e k => match d, e with
  | .int i, .int j => CDivW i j ∧ k (.val (.int (i / j)))
  | _, _ => False
theorem r_fdiv3 : ROp X B (rI CDivW fun i j => .int (i / j)) oFdiv := r_ii fun G d e k h => by
  unfold oFdiv at h
  split at h
  · exact ⟨_, _, rfl, rfl, h.1, h.2⟩
  · exact h.elim
theorem le_fdiv {a b : Expr} {ta tb : DE} {pos} (ha : LE X B a ta) (hb : LE X B b tb) : LE X B (.BinOp a .FloorDiv b pos) (dOp oFdiv ta tb) := le_op op_fdivW r_fdiv3 ha hb
def oMod : Reg → D → D → (Res → Prop) → Prop := fun _ d e k => match d, e with
  | .int i, .int j => 0 < j ∧ k (.val (.int (i % j)))
  | _, _ => False
theorem r_mod3 : ROp X B (rI (fun _ j => 0 < j) fun i j => .int (i % j)) oMod := r_ii fun G d e k h => by
  unfold oMod at h
  split at h
  · exact ⟨_, _, rfl, rfl, h.1, h.2⟩
  · exact h.elim
theorem le_mod {a b : Expr} {ta tb : DE} {pos} (ha : LE X B a ta) (hb : LE X B b tb) : LE X B (.BinOp a .Mod b pos) (dOp oMod ta tb) := le_op op_mod r_mod3 ha hb
/-- .. by a divisor of any sign -/
def oModN : Reg → D → D → (Res → Prop) → Prop := fun _ d e k => match d, e with
  | .int i, .int j => j ≠ 0 ∧ k (.val (.int (i.fmod j)))
  | _, _ => False
def oPow : Reg → D → D → (Res → Prop) → Prop := fun _ d e k => match d, e with
  | .int i, .int j => CPow i j ∧ k (.val (.int (i ^ j.toNat)))
  | _, _ => False
theorem r_pow3 : ROp X B (rI CPow fun i j => .int (i ^ j.toNat)) oPow := r_ii fun G d e k h => by
  unfold oPow at h
  split at h
  · exact ⟨_, _, rfl, rfl, h.1, h.2⟩
  · exact h.elim
theorem le_pow {a b : Expr} {ta tb : DE} {pos} (ha : LE X B a ta) (hb : LE X B b tb) : LE X B (.BinOp a .Pow b pos) (dOp oPow ta tb) := le_op op_pow r_pow3 ha hb

/-! ### order -/
def oCmpI (p : Int → Int → Bool) : Reg → D → D → (Res → Prop) → Prop := fun _ d e k => match d, e with
  | .int i, .int j => k (.val (.bl (p i j)))
  | _, _ => False
theorem r_cmpI {p : Int → Int → Bool} : ROp X B (rI0 fun i j => .bl (p i j)) (oCmpI p) := r_ib0 fun G d e k h => by
  unfold oCmpI at h
  split at h
  · exact ⟨_, _, rfl, rfl, h⟩
  · exact h.elim
abbrev oLt := oCmpI fun i j => decide (i < j)
abbrev oGt := oCmpI fun i j => decide (j < i)
/-! ### ==, in, is -/
def oEq : Reg → D → D → (Res → Prop) → Prop := fun _ d e k => d.sh = true ∧ e.sh = true ∧ k (.val (.bl (D.eqv d e)))
def oNe : Reg → D → D → (Res → Prop) → Prop := fun _ d e k => d.sh = true ∧ e.sh = true ∧ k (.val (.bl (!D.eqv d e)))
theorem r_eq3 : ROp X B (rEqD X.K) oEq := by
  intro pn F H σ E G x y d e k Q S rx ry ⟨h1, h2, h⟩ hk
  obtain ⟨a1, a2⟩ := sh_H S.w.sub h1 rx
  obtain ⟨b1, b2⟩ := sh_H S.w.sub h2 ry
  exact ⟨_, _, a1, b1, a2, b2, hk _ h _ F H S (Same.refl F) (.bl _)⟩
theorem r_ne3 : ROp X B (rNeD X.K) oNe := by
  intro pn F H σ E G x y d e k Q S rx ry ⟨h1, h2, h⟩ hk
  obtain ⟨a1, a2⟩ := sh_H S.w.sub h1 rx
  obtain ⟨b1, b2⟩ := sh_H S.w.sub h2 ry
  exact ⟨_, _, a1, b1, a2, b2, hk _ h _ F H S (Same.refl F) (.bl _)⟩
def D.among (d : D) (ds : List D) : Bool := ds.any fun z => D.eqv z d
def oIn (neg : Bool) : Reg → D → D → (Res → Prop) → Prop := fun _ d e k => match e with
  | .lst ds => d.sh = true ∧ (D.lst ds).sh = true ∧ k (.val (.bl (if neg then !d.among ds else d.among ds)))
  | .tup ds => d.sh = true ∧ (D.tup ds).sh = true ∧ k (.val (.bl (if neg then !d.among ds else d.among ds)))
  | .str z => ∃ c : Nat, d = .str ⟨#[c]⟩ ∧ k (.val (.bl (if neg then !decide (c ∈ z.cps.toList) else decide (c ∈ z.cps.toList))))
  | .ktp ns => d.sh = true ∧ k (.val (.bl (if neg then !d.among (ns.map D.int) else d.among (ns.map D.int))))
  | _ => False
def D.isN : D → Bool
  | .non => true
  | _ => false
def oIs (neg : Bool) : Reg → D → D → (Res → Prop) → Prop := fun _ d e k => e.isN = true ∧ k (.val (.bl (if neg then !d.isN else d.isN)))
/-! ### -x -/
def uNeg : D → (Res → Prop) → Prop := fun d k => match d with
  | .int i => k (.val (.int (-i)))
  | _ => False
theorem le_neg {a : Expr} {ta : DE} {pos} (ha : LE X B a ta) : LE X B (.UnaryOp .USub a pos) (dUn uNeg ta) := le_un un_neg (fun pn F H σ E G x d k Q S rx h hk => by
  unfold uNeg at h
  split at h
  · exact ⟨_, rx.int, hk _ h _ F H S (Same.refl F) (.int _)⟩
  · exact h.elim) ha

/-! ### a[i] -/
def oIx : Reg → D → D → (Res → Prop) → Prop := fun G d e k => match d, e with
  | .lst ds, .int i => ∃ v, atI ds i = some v ∧ k (.val v)
  | .tup ds, .int i => ∃ v, atI ds i = some v ∧ k (.val v)
  | .str z, .int i => z.length ≤ sizeLine ∧ ∃ c, atI z.cps.toList i = some c ∧ k (.val (.str ⟨#[c]⟩))
  | .scr ns, .int i => ∃ v, atI ns i = some v ∧ k (.val (.int v))
  | .ref a, .int i => ∃ ds, lookL G a = some ds ∧ ∃ v, atI ds i = some v ∧ k (.val v)
  | _, _ => False
theorem lookup_mem {G : Reg} {a : Addr} {ds : List D} (h : G.lookup a = some ds) : (a, ds) ∈ G := by
  induction G with
  | nil => cases h
  | cons p r ih =>
    rw [List.lookup_cons] at h
    split at h
    · rename_i q
      have e : a = p.1 := by simpa using q
      cases h
      rw [e]
      exact List.mem_cons_self
    · exact List.mem_cons_of_mem _ (ih h)
theorem at_rep {K : PySem.W.Frag} {F : Hp} {ds : List D} {vs : List V} {i : Int} {d : D} (r : RepL K F ds vs) (h : atI ds i = some d) : ∃ v, atI vs i = some v ∧ Rep K F d v := by
  unfold atI at h ⊢
  rw [← r.length]
  cases q : ixN ds.length i with
  | none => rw [q] at h; cases h
  | some j =>
    rw [q] at h
    exact r.get (by simpa using h)
theorem r_ix3 : ROp X B (rIx X.K) oIx := by
  intro pn F H σ E G x y d e k Q S rx ry h hk
  unfold oIx at h
  split at h
  · obtain ⟨v, hv, h⟩ := h
    obtain ⟨p, xs, rfl, hs, ra⟩ := rx.lst S.w.sub
    obtain ⟨u, hu, ru⟩ := at_rep ra hv
    exact .inl ⟨p, xs, _, u, rfl, ry.int, .inl hs, hu, hk _ h _ F H S (Same.refl F) ru⟩
  · obtain ⟨v, hv, h⟩ := h
    obtain ⟨p, xs, rfl, hs, ra⟩ := rx.tup S.w.sub
    obtain ⟨u, hu, ru⟩ := at_rep ra hv
    exact .inr (.inl ⟨p, xs, _, u, rfl, ry.int, hs, hu, hk _ h _ F H S (Same.refl F) ru⟩)
  · obtain ⟨hz, c, hc, h⟩ := h
    exact .inr (.inr ⟨_, _, c, rx.str, ry.int, hz, hc, hk _ h _ F H S (Same.refl F) (.str _)⟩)
  · rename_i ns i
    obtain ⟨v, hv, h⟩ := h
    cases rx.val (fun _ q => nomatch q) with
    | scr hs =>
      have hv' : atI (ns.map V.int) i = some (.int v) := by
        unfold atI at hv ⊢
        rw [List.length_map]
        cases q : ixN ns.length i with
        | none => rw [q] at hv; cases hv
        | some j =>
          rw [q] at hv
          have hv2 : ns[j]? = some v := by simpa using hv
          simp [hv2]
      exact .inl ⟨_, _, _, _, rfl, ry.int, S.w.sub.seq hs, hv', hk _ h _ F H S (Same.refl F) (.int _)⟩
  · obtain ⟨ds, hl, v, hv, h⟩ := h
    obtain ⟨_, o, hs, ro⟩ := S.w.reg _ ds (lookup_mem (lookL_iff hl).1)
    obtain ⟨xs, rfl, ra⟩ := ro.lstOf (lookL_iff hl).2
    obtain ⟨u, hu, ru⟩ := at_rep ra hv
    cases rx.val (fun _ q => nomatch q)
    exact .inl ⟨_, xs, _, u, rfl, ry.int, SqL.of hs, hu, hk _ h _ F H S (Same.refl F) ru⟩
  · exact h.elim
theorem le_item {a b : Expr} {ta tb : DE} {pos} (ha : LE X B a ta) (hb : LE X B b tb) (hs : PlainIx b := by exact fun _ _ => rfl) : LE X B (.Subscript a b pos) (dOp oIx ta tb) := le_ix ix_seq r_ix3 ha hb hs

/-! ### a[lo:hi] -/
def cutD (ds : List D) (lo hi : Option Int) : List D := (ds.drop (HT.sIx ds.length 0 lo)).take (HT.sIx ds.length ds.length hi - HT.sIx ds.length 0 lo)
def oSl : D → Option Int → Option Int → (Res → Prop) → Prop := fun d lo hi k => match d with
  | .lst ds => k (.fr (cutD ds lo hi))
  | .tup ds => k (.val (.tup (cutD ds lo hi)))
  | _ => False
end
end L3

set_option Elab.async false
set_option maxRecDepth 100000
set_option maxHeartbeats 4000000
/-! L3, part h: built-ins over plain values; lists changed by their owner; the dice. -/
namespace L3
open PySem PySem.Spec PyProof.Rows L2
section
variable {X : Cx} {B : Base3}
theorem hl1 {K : PySem.W.Frag} {F H : Hp} {d : D} {vs : List V} (r : RepHL K F H [d] vs) : ∃ v, vs = [v] ∧ RepH K F H d v := by
  cases r with
  | cons a b => cases b; exact ⟨_, rfl, a⟩
theorem hl2 {K : PySem.W.Frag} {F H : Hp} {d e : D} {vs : List V} (r : RepHL K F H [d, e] vs) : ∃ v u, vs = [v, u] ∧ RepH K F H d v ∧ RepH K F H e u := by
  cases r with
  | cons a b =>
    obtain ⟨u, rfl, h⟩ := hl1 b
    exact ⟨_, u, rfl, a, h⟩

/-! ### len -/
def bLen : Reg → List D → (Res → Prop) → Prop := fun _ ds k => match ds with
  | [.lst xs] => k (.val (.int xs.length))
  | [.tup xs] => k (.val (.int xs.length))
  | [.str z] => z.length ≤ sizeLine ∧ k (.val (.int z.length))
  | [.scr ns] => k (.val (.int ns.length))
  | _ => False
def rLen3 (K : PySem.W.Frag) : List V → Hp → VK → Prop := fun xs H Q => (∃ p ys, xs = [.ref p] ∧ (SqL K H p ys ∨ SqT K H p ys) ∧ Q (.int ys.length) H) ∨ ∃ z, xs = [.str z] ∧ z.length ≤ sizeLine ∧ Q (.int z.length) H
theorem call_len3 : CallR X (.builtin "len") (rLen3 X.K) := call_len_seq.or call_len_str
theorem r_len3 : RCall X B (rLen3 X.K) bLen := by
  intro pn F H σ E G vs ds k Q S r h hk
  unfold bLen at h
  split at h
  · obtain ⟨v, rfl, rx⟩ := hl1 r
    obtain ⟨p, xs, rfl, hs, ra⟩ := rx.lst S.w.sub
    refine .inl ⟨p, xs, rfl, .inl (.inl hs), ?_⟩
    rw [← ra.length]
    exact hk _ h _ F H S (Same.refl F) (.int _)
  · obtain ⟨v, rfl, rx⟩ := hl1 r
    obtain ⟨p, xs, rfl, hs, ra⟩ := rx.tup S.w.sub
    refine .inl ⟨p, xs, rfl, .inr hs, ?_⟩
    rw [← ra.length]
    exact hk _ h _ F H S (Same.refl F) (.int _)
  · obtain ⟨v, rfl, rx⟩ := hl1 r
    rw [rx.str]
    exact .inr ⟨_, rfl, h.1, hk _ h.2 _ F H S (Same.refl F) (.int _)⟩
  · obtain ⟨v, rfl, rx⟩ := hl1 r
    cases rx.val (fun _ q => nomatch q) with
    | scr hs =>
      refine .inl ⟨_, _, rfl, .inl (S.w.sub.seq hs), ?_⟩
      rw [List.length_map]
      exact hk _ h _ F H S (Same.refl F) (.int _)
  · exact h.elim
theorem le_len {e : Expr} {ta : DA} {p pos : Pos} (hg : Gl X "len") (hm : X.mg "len" = none) (ha : LP X B [e] ta) (he : starEach [e] X.env = (false, eval e X.env) :: starEach [] X.env := by rfl) (hpl : (backTo pos (starEach [] X.env)).any (·.1) = false := by rfl) :
    LE X B (.Call (.Name "len" p) [e] [] pos) (dCB bLen ta) := le_callB call_len3 r_len3 hg hm PySem.boot_len ha (by decide) (by decide) he hpl

/-! ### of one int, of two -/
def bInt1 (g : Int → Int) : Reg → List D → (Res → Prop) → Prop := fun _ ds k => match ds with
  | [.int i] => k (.val (.int (g i)))
  | _ => False
def bAbs := bInt1 fun i => if i < 0 then -i else i
theorem le_abs {e : Expr} {ta : DA} {p pos : Pos} (hg : Gl X "abs") (hm : X.mg "abs" = none) (ha : LP X B [e] ta) (he : starEach [e] X.env = (false, eval e X.env) :: starEach [] X.env := by rfl) (hpl : (backTo pos (starEach [] X.env)).any (·.1) = false := by rfl) :
    LE X B (.Call (.Name "abs" p) [e] [] pos) (dCB bAbs ta) := le_callB call_abs (fun pn F H σ E G vs ds k Q S r h hk => by
  unfold bAbs bInt1 at h
  split at h
  · obtain ⟨v, rfl, rx⟩ := hl1 r
    rw [rx.int]
    exact ⟨_, rfl, hk _ h _ F H S (Same.refl F) (.int _)⟩
  · exact h.elim) hg hm (by decide +kernel) ha (by decide) (by decide) he hpl
def bIntOf : Reg → List D → (Res → Prop) → Prop := fun _ ds k => match ds with
  | [.int i] => k (.val (.int i))
  | [.bl b] => k (.val (.int (if b then 1 else 0)))
  | _ => False
theorem le_intOf {e : Expr} {ta : DA} {p pos : Pos} (hg : Gl X "int") (hm : X.mg "int" = none) (ha : LP X B [e] ta) (he : starEach [e] X.env = (false, eval e X.env) :: starEach [] X.env := by rfl) (hpl : (backTo pos (starEach [] X.env)).any (·.1) = false := by rfl) :
    LE X B (.Call (.Name "int" p) [e] [] pos) (dCB bIntOf ta) := le_callTy call_int1 (fun pn F H σ E G vs ds k Q S r h hk => by
  unfold bIntOf at h
  split at h
  · obtain ⟨v, rfl, rx⟩ := hl1 r
    rw [rx.int]
    exact .inl ⟨_, rfl, hk _ h _ F H S (Same.refl F) (.int _)⟩
  · obtain ⟨v, rfl, rx⟩ := hl1 r
    rw [rx.bl]
    exact .inr ⟨_, rfl, hk _ h _ F H S (Same.refl F) (.int _)⟩
  · exact h.elim) hg hm (by decide +kernel) ha (by decide) (by decide) he hpl
def bInt2 (g : Int → Int → Int) : Reg → List D → (Res → Prop) → Prop := fun _ ds k => match ds with
  | [.int i, .int j] => k (.val (.int (g i j)))
  | _ => False
def bMax := bInt2 fun i j => if j > i then j else i
def bMin := bInt2 fun i j => if j < i then j else i
theorem le_max2 {e e2 : Expr} {ta : DA} {p pos : Pos} (hc : X.calm = true) (hg : Gl X "max") (hm : X.mg "max" = none) (ha : LP X B [e, e2] ta) (he : starEach [e, e2] X.env = (false, eval e X.env) :: starEach [e2] X.env := by rfl) (hpl : (backTo pos (starEach [e2] X.env)).any (·.1) = false := by rfl) :
    LE X B (.Call (.Name "max" p) [e, e2] [] pos) (dCB bMax ta) := le_callB (call_max2 hc) (fun pn F H σ E G vs ds k Q S r h hk => by
  unfold bMax bInt2 at h
  split at h
  · obtain ⟨v, u, rfl, rx, ry⟩ := hl2 r
    rw [rx.int, ry.int]
    exact ⟨_, _, rfl, hk _ h _ F H S (Same.refl F) (.int _)⟩
  · exact h.elim) hg hm (by decide +kernel) ha (by decide) (by decide) he hpl
theorem le_min2 {e e2 : Expr} {ta : DA} {p pos : Pos} (hc : X.calm = true) (hg : Gl X "min") (hm : X.mg "min" = none) (ha : LP X B [e, e2] ta) (he : starEach [e, e2] X.env = (false, eval e X.env) :: starEach [e2] X.env := by rfl) (hpl : (backTo pos (starEach [e2] X.env)).any (·.1) = false := by rfl) :
    LE X B (.Call (.Name "min" p) [e, e2] [] pos) (dCB bMin ta) := le_callB (call_min2 hc) (fun pn F H σ E G vs ds k Q S r h hk => by
  unfold bMin bInt2 at h
  split at h
  · obtain ⟨v, u, rfl, rx, ry⟩ := hl2 r
    rw [rx.int, ry.int]
    exact ⟨_, _, rfl, hk _ h _ F H S (Same.refl F) (.int _)⟩
  · exact h.elim) hg hm (by decide +kernel) ha (by decide) (by decide) he hpl

/-! ### list, tuple, all, any, sum -/
def bList : Reg → List D → (Res → Prop) → Prop := fun _ ds k => match ds with
  | [.lst xs] => k (.fr xs)
  | [.tup xs] => k (.fr xs)
  | _ => False
def bTuple : Reg → List D → (Res → Prop) → Prop := fun _ ds k => match ds with
  | [.lst xs] => k (.val (.tup xs))
  | [.tup xs] => k (.val (.tup xs))
  | _ => False
/-- the truth values of a list -/
def blsOf : List D → Option (List Bool)
  | [] => some []
  | .bl b :: r => (blsOf r).map (b :: ·)
  | _ :: _ => none
theorem blsOf_map : ∀ bs : List Bool, blsOf (bs.map D.bl) = some bs
  | [] => rfl
  | b :: r => by rw [List.map_cons, blsOf, blsOf_map r]; rfl
def intsOf : List D → Option (List Int)
  | [] => some []
  | .int b :: r => (intsOf r).map (b :: ·)
  | _ :: _ => none
theorem intsOf_map : ∀ bs : List Int, intsOf (bs.map D.int) = some bs
  | [] => rfl
  | b :: r => by rw [List.map_cons, intsOf, intsOf_map r]; rfl
def bBool (g : List Bool → Bool) : Reg → List D → (Res → Prop) → Prop := fun _ ds k => match ds with
  | [.lst xs] => ∃ bs, blsOf xs = some bs ∧ k (.val (.bl (g bs)))
  | _ => False
def bAll := bBool fun bs => bs.all id
def bAny := bBool fun bs => bs.any id
def bSum : Reg → List D → (Res → Prop) → Prop := fun _ ds k => match ds with
  | [.lst xs] => ∃ bs, intsOf xs = some bs ∧ k (.val (.int bs.sum))
  | _ => False
/-! ### isinstance of a built-in class -/
def tyN : D → Option String
  | .non => some "NoneType"
  | .bl _ => some "bool"
  | .int _ => some "int"
  | .str _ => some "str"
  | .tup _ => some "tuple"
  | .lst _ => some "list"
  | _ => none
def isT (t n : String) : Bool := t == n || (t == "bool" && n == "int")
def knownT : List String := ["int", "bool", "str", "tuple", "list", "dict"]
def bIsi : Reg → List D → (Res → Prop) → Prop := fun _ ds k => match ds with
  | [d, .ty n] => ∃ t, tyN d = some t ∧ n ∈ knownT ∧ k (.val (.bl (isT t n)))
  | _ => False
end
end L3

set_option Elab.async false
set_option maxRecDepth 100000
set_option maxHeartbeats 4000000
/-! L3, part i: a[i] = v; a.append(v); a, b = x, y. -/
namespace L3
open PySem PySem.Spec PyProof.Rows L2
section
variable {X : Cx} {B : Base3}
/-- o[i] = v, o a register or an owned list -/
def dStore (te to ti : DE) : DSt := fun D E G => te E G fun v E1 G1 => ∃ d E2, v.ice E1 = some (d, E2) ∧ to E2 G1 fun o E3 G2 => ti E3 G2 fun i E4 G3 => ∃ k, i = .val (.int k) ∧
  match o with
  | .val (.ref a) => ∃ ds, lookL G3 a = some ds ∧ ∃ j, ixN ds.length k = some j ∧ D.nx E4 (regSet G3 a (ds.set j d))
  | .sl s => ∃ ds, E4[s]? = some (Sl3.own ds) ∧ ∃ j, ixN ds.length k = some j ∧ D.nx (E4.set s (Sl3.own (ds.set j d))) G3
  | _ => False
theorem ls_store {o i e : Expr} {to ti te : DE} {pos pos' : Pos} (he : LE X B e te) (ho : LE X B o to) (hi : LE X B i ti)
    (hs : swapsWithSole [.Subscript o i pos'] e pos.line X.env = pure false := by rfl) (hw : swappedStores [.Subscript o i pos'] e X.env = pure none := by rfl)
    (h1 : (assignEach [.Subscript o i pos'] X.env).map (·.2) = [assign (.Subscript o i pos') X.env] := by rfl)
    (ha : ∀ v, assign (.Subscript o i pos') X.env v = (do
      let ov ← holding [v] (eval o X.env)
      let iv ← holding [v, ov] (eval i X.env)
      standAt pos'
      holding [v, ov, iv] (setItem ov iv v)
      release [v, ov, iv] []) := by intro _; rfl) : LS X B (.Assign [.Subscript o i pos'] e pos) (dStore te to ti) :=
  ⟨ps_imp (ps_asg he.pe (pg_sub ho.pe hi.pe set_list ha) hs hw h1) fun D σ H ⟨pn, F, E, G, D3, S, h, ok⟩ => ⟨pn, F, E, G, _, S, h, fun r E1 G1 ⟨d, E2, hd, h1⟩ v F1 H1 S1 s1 r1 => by
    obtain ⟨F1', S1', s1', r1'⟩ := S1.ice r1 hd
    refine ⟨pn, F1', E2, G1, _, S1', h1, fun ro E3 G2 h2 ov F2 H2 S2 s2 r2 => ?_⟩
    refine ⟨pn, F2, E3, G2, _, S2, h2, fun ri E4 G3 h3 iv F3 H3 S3 s3 r3 => ?_⟩
    obtain ⟨k, e1, h3⟩ := h3
    subst e1
    cases r3
    have rd : Rep X.K F3 d v := Rep.mono (s2.trans s3) _ _ r1'
    have ss : Same F F3 := (s1.trans s1').trans (s2.trans s3)
    cases ro with
    | fr ds => exact h3.elim
    | frD ds => exact h3.elim
    | val z =>
      cases z with
      | ref a =>
        cases r2
        obtain ⟨ds, hl, j, hj, h4⟩ := h3
        have hm := lookup_mem (lookL_iff hl).1
        obtain ⟨_, o, hx, ro⟩ := S3.w.reg a ds hm
        obtain ⟨xs, rfl, rx⟩ := ro.lstOf (lookL_iff hl).2
        refine ⟨a, xs, k, j, rfl, rfl, hx, by rw [← rx.length]; exact hj, ?_⟩
        exact ok.nx _ _ h4 σ F3 _ (S3.regWrite hm (rx.set j rd)) ss
      | _ => exact h3.elim
    | sl s =>
      obtain ⟨ds, hl, j, hj, h4⟩ := h3
      obtain ⟨a, ha', f⟩ := S3.ownL s ds hl
      have r2' : σ[s]? = some (some ov) := r2
      rw [r2'] at ha'
      cases ha'
      obtain ⟨xs, hx, rx⟩ := f.ex
      refine ⟨a, xs, k, j, rfl, rfl, hx, by rw [← rx.length]; exact hj, ?_⟩
      exact ok.nx _ _ h4 σ F3 _ (S3.ownWrite hl r2' (rx.set j rd)) ss⟩⟩
/-- a.append(e), a a name whose list it owns -/
def dApp (i : Nat) (te : DE) : DE := fun E G k => (∃ ds, E[i]? = some (Sl3.own ds)) ∧ te E G fun r E1 G1 => ∃ d E2, r.ice E1 = some (d, E2) ∧ ∃ ds, E2[i]? = some (Sl3.own ds) ∧ ds.length < sizeLine ∧ k (.val .non) (E2.set i (Sl3.own (ds ++ [d]))) G1
/-! ### a, b = x, y -/
def Res.fin (r : Res) (E : Env3) : Option (Res × Env3) := match r with
  | .val d => some (.val d, E)
  | .fr ds => some (.fr ds, E)
  | .frD d => some (.frD d, E)
  | .sl i => match E[i]? with
    | some (Sl3.val d) => some (.val d, E)
    | some (Sl3.own ds) => some (.val (.lst ds), E.set i (Sl3.val (.lst ds)))
    | some (Sl3.ownD d) => some (.val d, E.set i (Sl3.val d))
    | _ => none
def dPar (i j : Nat) (ta tb : DE) : DSt := fun D E G => ta E G fun x E1 G1 => ∃ x' E2, x.fin E1 = some (x', E2) ∧ tb E2 G1 fun y E3 G2 => ∃ y' E4, y.fin E3 = some (y', E4) ∧ i < E4.length ∧ j < E4.length ∧
  ∃ E5, x'.put i E4 = some E5 ∧ ∃ E6, y'.put j E5 = some E6 ∧ D.nx E6 G2
end
end L3

set_option Elab.async false
set_option maxRecDepth 100000
set_option maxHeartbeats 4000000
/-! L3, part j: short words for a generated derivation. -/
namespace L3
open PySem PySem.Spec PyProof.Rows L2
/-- a def of the module that keeps a promise over plain values -/
structure Cal3 (P : Program) (w : World) (K : PySem.W.Frag) (mg : Str → Option Value) (base : Heap) (x : Str) (k : Nat) (ps : List Str) (sp : DSp) : Prop where
  ex : ∃ (f : Addr) (fd : FuncData), FnOk P w K mg base (L2.CX P w) k f fd ps (LSp K sp) ∧ mg x = some (.ref f) ∧ PySem.W.keepIn K (.ref f) = true ∧ Binds K fd ps [] ∧ ∃ oc od osl, K.lookup f = some ⟨oc, od, .func fd, osl⟩
/-- what the head tells of a def -/
structure DefAt (K : PySem.W.Frag) (mg : Str → Option Value) (x : Str) (st : Stmt) : Prop where
  ex : ∃ (f : Addr) (oc : Value) (od an : Option Addr) (osl : Array (Option Value)) (kV doc pm cdv ct : Value), mg x = some (.ref f) ∧
    K.lookup f = some ⟨oc, od, .func (PySem.W.fnOf x x (defArgs st) (defBody st) (defScope st) .none kV doc pm an cdv ct), osl⟩ ∧ PySem.W.codeIn K cdv x = true ∧ PySem.W.keepIn K (.ref f) = true
theorem defAt_mk {K : PySem.W.Frag} {h : Heap} {mg : Str → Option Value} {x : Str} {st : Stmt} (X : K.In h) (G : h.Ns mainGlobals mg) {f : Addr} {oc : Value} {od an : Option Addr} {osl : Array (Option Value)} {kV doc pm cdv ct : Value}
    (a : PySem.W.nsIn K mainGlobals x = some (some (.ref f))) (l : K.lookup f = some ⟨oc, od, .func (PySem.W.fnOf x x (defArgs st) (defBody st) (defScope st) .none kV doc pm an cdv ct), osl⟩) (c : PySem.W.codeIn K cdv x = true) (k : PySem.W.keepIn K (.ref f) = true) : DefAt K mg x st :=
  ⟨f, oc, od, an, osl, kV, doc, pm, cdv, ct, PySem.W.mg_of X G a, l, c, k⟩
section
variable {P : Program} {w : World} {K : PySem.W.Frag} {mg : Str → Option Value} {base : Heap}
theorem cal3 {x : Str} {st : Stmt} {k : Nat} {ps N : List Str} {sp : DSp} (d : DefAt K mg x st)
    (hb : ∀ (kV doc pm : Value) (an : Option Addr) (cdv ct : Value) (us : List Value), us.length = ps.length → bindArgs (PySem.W.fnOf x x (defArgs st) (defBody st) (defScope st) .none kV doc pm an cdv ct) ⟨us, []⟩ = pure (ps.zip us))
    (S : FnScope N ps (defScope st)) (len : ∀ ds G q e, sp ds G q e → ds.length = ps.length)
    (body : ∀ (f : Addr) (cdv : Value) (A : Around) (outer : List Env) (s : Shared) (H : Hp) (E : XK) (B : Base3) (dw : Exc3 → Reg → Prop), Room k (A.deeper (envOfC x (defScope st) s.heap.objs.size f cdv)) →
      WOkL (cxOf (L2.CX P w) P w K mg base N x (defScope st) f cdv A outer s H E) B (fun x _ G => dw x G) →
      ∃ t : DSt, LSs (cxOf (L2.CX P w) P w K mg base N x (defScope st) f cdv A outer s H E) B (defBody st) t ∧ ∀ ds G q, sp ds G q dw → t { nx := fun _ G' => q (.val .non) G', rt := q } (start3 N ds) G) :
    Cal3 P w K mg base x (k + 1) ps sp := by
  obtain ⟨f, oc, od, an, osl, kV, doc, pm, cdv, ct, hm, l, c, kp⟩ := d.ex
  have F := fun_mk (st := st) l c kp
  exact ⟨f, _, ok3 F S len (fun cdv A outer s H E B dw hr wk => body f cdv A outer s H E B dw hr wk), hm, kp, F.binds hb, _, _, _, l⟩
end
section
variable {X : Cx} {B : Base3}
theorem le_callC {x : Str} {k j : Nat} {ps : List Str} {sp : DSp} {dw : DW} {ta : DA} {p pos : Pos} {e : Expr} {es : List Expr} (c : Cal3 X.prog X.w X.K X.mg X.base x k ps sp) (hr : Room j X.A) (hk : k ≤ j) (wk : WOk X B dw) (hg : Gl X x) (ha : LA X B (e :: es) ta)
    (hdb : (x == ("__debug__" : Str)) = false := by decide) (he : starEach (e :: es) X.env = (false, eval e X.env) :: starEach es X.env := by rfl) (hpl : (backTo pos (starEach es X.env)).any (·.1) = false := by rfl) :
    LE X B (.Call (.Name x p) (e :: es) [] pos) (dCall sp dw ta) := by
  obtain ⟨f, fd, Fn, hm, kp, hb, -⟩ := c.ex
  exact le_call Fn (hr.mono hk) wk hg hm kp hb ha hdb he hpl
variable {a b c : Expr} {ta tb tc : DE} {pos : Pos}
/-! comparisons, as values and as tests -/
theorem le_lt (ha : LE X B a ta) (hb : LE X B b tb) : LE X B (.Compare a [.Lt] [b] pos) (dOp oLt ta tb) := le_cmp op_lt r_cmpI ha hb (nomark _)
theorem le_eq {k : Nat} (hr : Room k X.A) (ha : LE X B a ta) (hb : LE X B b tb) : LE X B (.Compare a [.Eq] [b] pos) (dOp oEq ta tb) := le_cmp (op_eqD hr.units) r_eq3 ha hb (nomark _)
theorem lt_lt (ha : LE X B a ta) (hb : LE X B b tb) : LT X B (.Compare a [.Lt] [b] pos) (dTest (dOp oLt ta tb)) := lt_cmp op_lt r_cmpI ha hb (nomark _)
theorem lt_gt (ha : LE X B a ta) (hb : LE X B b tb) : LT X B (.Compare a [.Gt] [b] pos) (dTest (dOp oGt ta tb)) := lt_cmp op_gt r_cmpI ha hb (nomark _)
theorem lt_ne {k : Nat} (hr : Room k X.A) (ha : LE X B a ta) (hb : LE X B b tb) : LT X B (.Compare a [.NotEq] [b] pos) (dTest (dOp oNe ta tb)) := lt_cmp (op_neD hr.units) r_ne3 ha hb (nomark _)
def oAddI : Reg → D → D → (Res → Prop) → Prop := fun _ d e k => match d, e with
  | .int i, .int j => k (.val (.int (i + j)))
  | _, _ => False
end
end L3

set_option Elab.async false
set_option maxRecDepth 100000
set_option maxHeartbeats 4000000
/-! L3, part k: the readings, evaluated by simp. -/
namespace L3
open PySem PySem.Spec PyProof.Rows L2
section
variable {E : Env3} {G : Reg} {k : DK} {ta tb tc te to ti : DE} {t u : DT} {s s' : DSt} {Dn : Ends3} {i j : Nat} {tr : DA} {ka : List D → Env3 → Reg → Prop} {kb : Bool → Env3 → Reg → Prop} {rd rd' : Reg → D → D → (Res → Prop) → Prop}
@[simp] theorem start3_cons {x : Str} {N : List Str} {d : D} {ds : List D} : start3 (x :: N) (d :: ds) = Sl3.val d :: start3 N ds := by
  unfold start3; simp
@[simp] theorem start3_none {x : Str} {N : List Str} : start3 (x :: N) [] = Sl3.no :: start3 N [] := by
  unfold start3; simp [List.replicate_succ]
@[simp] theorem start3_nil : start3 [] [] = [] := rfl
@[simp] theorem dSeq_eq : dSeq s s' Dn E G = s { Dn with nx := s' Dn } E G := rfl
@[simp] theorem dNext_eq : dNext Dn E G = Dn.nx E G := rfl
@[simp] theorem dIfS_eq : dIfS t s s' Dn E G = t E G fun b E1 G1 => if b = true then s Dn E1 G1 else s' Dn E1 G1 := rfl
@[simp] theorem dDrop_eq : dDrop te Dn E G = te E G fun _ E1 G1 => Dn.nx E1 G1 := rfl
@[simp] theorem dRet_eq : dRet te Dn E G = te E G fun r E1 G1 => ∃ r', r.out E1 = some r' ∧ Dn.rt r' G1 := rfl
@[simp] theorem dRetN_eq : dRetN Dn E G = Dn.rt (.val .non) G := rfl
@[simp] theorem dBreak_eq : dBreak Dn E G = Dn.bk E G := rfl
@[simp] theorem dCont_eq : dCont Dn E G = Dn.ct E G := rfl
@[simp] theorem dNever_eq : dNever Dn E G = False := rfl
@[simp] theorem dSet_eq : dSet i te Dn E G = te E G fun r E1 G1 => i < E1.length ∧ ∃ E2, r.put i E1 = some E2 ∧ Dn.nx E2 G1 := rfl
@[simp] theorem dSetReg_eq : dSetReg i te Dn E G = te E G fun r E1 G1 => i < E1.length ∧ ∃ ds, r = .fr ds ∧ ∀ a, Dn.nx (E1.set i (Sl3.val (.ref a))) ((a, ds) :: G1) := rfl
@[simp] theorem dAug_eq : dAug i rd te Dn E G = ∃ d, E[i]? = some (Sl3.val d) ∧ te E G fun y E1 G1 => E1[i]? = some (Sl3.val d) ∧ ∃ e, y.get E1 = some e ∧ rd G1 d e fun r => ∃ z, r = .val z ∧ Dn.nx (E1.set i (Sl3.val z)) G1 := rfl
@[simp] theorem dStore_eq : dStore te to ti Dn E G = te E G fun v E1 G1 => ∃ d E2, v.ice E1 = some (d, E2) ∧ to E2 G1 fun o E3 G2 => ti E3 G2 fun i E4 G3 => ∃ k, i = .val (.int k) ∧
  match o with
  | .val (.ref a) => ∃ ds, lookL G3 a = some ds ∧ ∃ j, ixN ds.length k = some j ∧ Dn.nx E4 (regSet G3 a (ds.set j d))
  | .sl s => ∃ ds, E4[s]? = some (Sl3.own ds) ∧ ∃ j, ixN ds.length k = some j ∧ Dn.nx (E4.set s (Sl3.own (ds.set j d))) G3
  | _ => False := rfl
@[simp] theorem dPar_eq : dPar i j ta tb Dn E G = ta E G fun x E1 G1 => ∃ x' E2, x.fin E1 = some (x', E2) ∧ tb E2 G1 fun y E3 G2 => ∃ y' E4, y.fin E3 = some (y', E4) ∧ i < E4.length ∧ j < E4.length ∧
  ∃ E5, x'.put i E4 = some E5 ∧ ∃ E6, y'.put j E5 = some E6 ∧ Dn.nx E6 G2 := rfl
@[simp] theorem dAsg_eq {g : DG} : dAsg te g Dn E G = te E G fun r E1 G1 => ∃ d E2, r.ice E1 = some (d, E2) ∧ g d E2 G1 Dn.nx := rfl
@[simp] theorem dFor_eq {di : DI} {g : DG} : dFor di g s Dn E G = di E G fun ds E1 G1 => dForL g s ds Dn E1 G1 := rfl
@[simp] theorem dForL_nil {g : DG} : dForL g s [] Dn E G = Dn.nx E G := rfl
@[simp] theorem dWhile_eq : dWhile t s Dn E G = ∃ n, dWhN t s n Dn E G := rfl
@[simp] theorem dVar_eq : dVar i E G k = match E[i]? with
  | some (Sl3.val d) => k (.val d) E G
  | some (Sl3.own _) => k (.sl i) E G
  | some (Sl3.ownD _) => k (.sl i) E G
  | _ => False := rfl
@[simp] theorem dC_eq {d : D} : dC d E G k = k (.val d) E G := rfl
@[simp] theorem dOp_eq : dOp rd ta tb E G k = ta E G fun x E1 G1 => tb E1 G1 fun y E2 G2 => ∃ d, x.fz.get E2 = some d ∧ ∃ e, y.get E2 = some e ∧ rd G2 d e fun r => k r E2 G2 := rfl
@[simp] theorem dTest_eq : dTest te E G kb = te E G fun r E1 G1 => ∃ b, r = .val (.bl b) ∧ kb b E1 G1 := rfl
@[simp] theorem dNot_eq : dNot t E G kb = t E G fun b E1 G1 => kb (!b) E1 G1 := rfl
@[simp] theorem dAnd_eq : dAnd t u E G kb = t E G fun b E1 G1 => if b = true then u E1 G1 kb else kb false E1 G1 := rfl
@[simp] theorem dOr_eq : dOr t u E G kb = t E G fun b E1 G1 => if b = true then kb true E1 G1 else u E1 G1 kb := rfl
@[simp] theorem dAndV_eq : dAndV ta tb E G k = ta E G fun r E1 G1 => ∃ b, r = .val (.bl b) ∧ if b = true then tb E1 G1 k else k (.val (.bl false)) E1 G1 := rfl
@[simp] theorem dOrV_eq : dOrV ta tb E G k = ta E G fun r E1 G1 => ∃ b, r = .val (.bl b) ∧ if b = true then k (.val (.bl true)) E1 G1 else tb E1 G1 k := rfl
@[simp] theorem dNotV_eq : dNotV ta E G k = ta E G fun r E1 G1 => ∃ b, r = .val (.bl b) ∧ k (.val (.bl (!b))) E1 G1 := rfl
@[simp] theorem dIf_eq : dIf t ta tb E G k = t E G fun b E1 G1 => if b = true then ta E1 G1 k else tb E1 G1 k := rfl
@[simp] theorem dUn_eq {rd : D → (Res → Prop) → Prop} : dUn rd ta E G k = ta E G fun x E1 G1 => ∃ d, x.get E1 = some d ∧ rd d fun r => k r E1 G1 := rfl
@[simp] theorem dChain_eq : dChain rd rd' ta tb tc E G k = ta E G fun x E1 G1 => tb E1 G1 fun y E2 G2 =>
  ∃ d, x.fz.get E2 = some d ∧ ∃ e, y.fz.get E2 = some e ∧ rd G2 d e fun r => ∃ b, r = .val (.bl b) ∧
    if b = true then tc E2 G2 fun z E3 G3 => ∃ e', y.fz.get E3 = some e' ∧ ∃ f, z.get E3 = some f ∧ rd' G3 e' f fun r => k r E3 G3 else k (.val (.bl false)) E2 G2 := rfl
@[simp] theorem dNil_eq : dNil E G ka = ka [] E G := rfl
@[simp] theorem dCons_eq : dCons ta tr E G ka = ta E G fun x E1 G1 => ∃ d E2, x.ice E1 = some (d, E2) ∧ tr E2 G1 fun ds E3 G3 => ka (d :: ds) E3 G3 := rfl
@[simp] theorem dPCons_eq : dPCons ta tr E G ka = ta E G fun x E1 G1 => tr E1 G1 fun ds E3 G3 => ∃ d, x.fz.get E3 = some d ∧ ka (d :: ds) E3 G3 := rfl
@[simp] theorem dTup_eq : dTup tr E G k = tr E G fun ds E1 G1 => ds.length ≤ sizeLine ∧ k (.val (.tup ds)) E1 G1 := rfl
@[simp] theorem dLst_eq : dLst tr E G k = tr E G fun ds E1 G1 => ds.length ≤ sizeLine ∧ k (.fr ds) E1 G1 := rfl
@[simp] theorem dNoPart_eq {ko : Option Int → Env3 → Reg → Prop} : dNoPart E G ko = ko none E G := rfl
@[simp] theorem dPart_eq {ko : Option Int → Env3 → Reg → Prop} : dPart ta E G ko = ta E G fun r E1 G1 => ∃ i, r = .val (.int i) ∧ ko (some i) E1 G1 := rfl
@[simp] theorem dSl_eq {rd : D → Option Int → Option Int → (Res → Prop) → Prop} {tl th : DO} : dSl rd te tl th E G k = te E G fun x E1 G1 => tl E1 G1 fun lo E2 G2 => th E2 G2 fun hi E3 G3 =>
  ∃ d, x.fz.get E3 = some d ∧ rd d lo hi fun r => k r E3 G3 := rfl
@[simp] theorem dCB_eq {rd : Reg → List D → (Res → Prop) → Prop} : dCB rd tr E G k = tr E G fun ds E1 G1 => rd G1 ds fun r => k r E1 G1 := rfl
@[simp] theorem dCall_eq {sp : DSp} {dw : DW} : dCall sp dw tr E G k = tr E G fun ds E1 G1 => sp ds G1 (fun r G2 => k r E1 G2) (fun x G2 => dw x E1 G2) := rfl
@[simp] theorem dApp_eq : dApp i te E G k = ((∃ ds, E[i]? = some (Sl3.own ds)) ∧ te E G fun r E1 G1 => ∃ d E2, r.ice E1 = some (d, E2) ∧ ∃ ds, E2[i]? = some (Sl3.own ds) ∧ ds.length < sizeLine ∧ k (.val .non) (E2.set i (Sl3.own (ds ++ [d]))) G1) := rfl
@[simp] theorem dIter_eq {kl : List D → Env3 → Reg → Prop} : dIter te E G kl = te E G fun r E1 G1 => ∃ d E2, r.ice E1 = some (d, E2) ∧ ∃ ds, iterD d = some ds ∧ kl ds E2 G1 := rfl
@[simp] theorem dRng1_eq {kl : List D → Env3 → Reg → Prop} : dRng1 tr E G kl = tr E G fun ds E1 G1 => ∃ j : Int, ds = [.int j] ∧ -(2 ^ 62) ≤ j ∧ j < 2 ^ 62 ∧ kl (rangeD 0 j.toNat) E1 G1 := rfl
@[simp] theorem dRng2_eq {kl : List D → Env3 → Reg → Prop} : dRng2 tr E G kl = tr E G fun ds E1 G1 => ∃ i j : Int, ds = [.int i, .int j] ∧ (-(2 ^ 62) ≤ i ∧ i < 2 ^ 62 ∧ -(2 ^ 62) ≤ j ∧ j < 2 ^ 62) ∧ kl (rangeD i (j - i).toNat) E1 G1 := rfl
@[simp] theorem gNm_eq {d : D} {kk : Env3 → Reg → Prop} : gNm i d E G kk = (i < E.length ∧ kk (E.set i (Sl3.val d)) G) := rfl
@[simp] theorem gTp_eq {n : Nat} {gs : DGs} {d : D} {kk : Env3 → Reg → Prop} : gTp n gs d E G kk = ∃ ds, d = .tup ds ∧ ds.length = n ∧ gs ds E G kk := rfl
@[simp] theorem gsNil_eq {ds : List D} {kk : Env3 → Reg → Prop} : gsNil ds E G kk = (ds = [] ∧ kk E G) := rfl
@[simp] theorem gsCons_eq {g : DG} {gs : DGs} {ds : List D} {kk : Env3 → Reg → Prop} : gsCons g gs ds E G kk = ∃ d r, ds = d :: r ∧ g d E G fun E1 G1 => gs r E1 G1 kk := rfl
@[simp] theorem dYes_eq : dYes E G kb = kb true E G := rfl
@[simp] theorem dLc_eq {di : DI} {g : DG} {vs : List Nat} : dLc di g t te vs E G k = di E G fun ds E1 G1 => ds.length ≤ sizeLine ∧ dLcL g t te vs ds [] (wipe3 E1 vs) G1 fun acc E2 G2 => k (.fr acc) E2 G2 := rfl
@[simp] theorem dLcL_nil {g : DG} {vs : List Nat} {acc : List D} {kl : List D → Env3 → Reg → Prop} : dLcL g t te vs [] acc E G kl = kl acc E G := rfl
@[simp] theorem wipe3_nil : wipe3 E [] = E := rfl
@[simp] theorem wipe3_cons {v : Nat} {vs : List Nat} : wipe3 E (v :: vs) = (wipe3 E vs).set v Sl3.no := rfl
/-! what is given -/
variable {d e : D} {ds es : List D}
@[simp] theorem get_val : (Res.val d).get E = some d := rfl
@[simp] theorem get_fr : (Res.fr ds).get E = some (.lst ds) := rfl
@[simp] theorem get_sl : (Res.sl i).get E = match E[i]? with
    | some (Sl3.val d) => some d
    | some (Sl3.own ds) => some (.lst ds)
    | some (Sl3.ownD d) => some d
    | _ => none := rfl
@[simp] theorem fz_val : (Res.val d).fz = .val d := rfl
@[simp] theorem fz_fr : (Res.fr ds).fz = .val (.lst ds) := rfl
@[simp] theorem fz_sl : (Res.sl i).fz = .sl i := rfl
@[simp] theorem ice_val : (Res.val d).ice E = some (d, E) := rfl
@[simp] theorem ice_fr : (Res.fr ds).ice E = some (.lst ds, E) := rfl
@[simp] theorem ice_sl : (Res.sl i).ice E = match E[i]? with
    | some (Sl3.val d) => some (d, E)
    | some (Sl3.own ds) => some (.lst ds, E.set i (Sl3.val (.lst ds)))
    | some (Sl3.ownD d) => some (d, E.set i (Sl3.val d))
    | _ => none := rfl
@[simp] theorem out_val : (Res.val d).out E = some (.val d) := rfl
@[simp] theorem out_fr : (Res.fr ds).out E = some (.fr ds) := rfl
@[simp] theorem out_sl : (Res.sl i).out E = match E[i]? with
    | some (Sl3.val d) => some (.val d)
    | some (Sl3.own ds) => some (.fr ds)
    | some (Sl3.ownD d) => some (.frD d)
    | _ => none := rfl
@[simp] theorem put_val : (Res.val d).put i E = some (E.set i (Sl3.val d)) := rfl
@[simp] theorem put_fr : (Res.fr ds).put i E = some (E.set i (Sl3.own ds)) := rfl
@[simp] theorem put_sl : (Res.sl j).put i E = match E[j]? with
    | some (Sl3.val d) => some (E.set i (Sl3.val d))
    | some (Sl3.own ds) => some ((E.set j (Sl3.val (.lst ds))).set i (Sl3.val (.lst ds)))
    | some (Sl3.ownD d) => some ((E.set j (Sl3.val d)).set i (Sl3.val d))
    | _ => none := rfl
@[simp] theorem fin_val : (Res.val d).fin E = some (.val d, E) := rfl
@[simp] theorem fin_fr : (Res.fr ds).fin E = some (.fr ds, E) := rfl
@[simp] theorem fin_sl : (Res.sl i).fin E = match E[i]? with
    | some (Sl3.val d) => some (.val d, E)
    | some (Sl3.own ds) => some (.val (.lst ds), E.set i (Sl3.val (.lst ds)))
    | some (Sl3.ownD d) => some (.val d, E.set i (Sl3.val d))
    | _ => none := rfl
/-! operators -/
variable {kr : Res → Prop} {a b : Int} {x y : Str}
@[simp] theorem oAdd_ii : oAdd G (.int a) (.int b) kr = kr (.val (.int (a + b))) := rfl
@[simp] theorem oAdd_ss : oAdd G (.str x) (.str y) kr = (x.length + y.length ≤ sizeLine ∧ kr (.val (.str (x ++ y)))) := rfl
@[simp] theorem oAdd_tt : oAdd G (.tup ds) (.tup es) kr = (ds.length + es.length ≤ sizeLine ∧ kr (.val (.tup (ds ++ es)))) := rfl
@[simp] theorem oAdd_ll : oAdd G (.lst ds) (.lst es) kr = (ds.length + es.length ≤ sizeLine ∧ kr (.fr (ds ++ es))) := rfl
@[simp] theorem oAddI_ii : oAddI G (.int a) (.int b) kr = kr (.val (.int (a + b))) := rfl
@[simp] theorem oSub_ii : oSub G (.int a) (.int b) kr = kr (.val (.int (a - b))) := rfl
@[simp] theorem oMul_ii : oMul G (.int a) (.int b) kr = (MulOk a b ∧ kr (.val (.int (a * b)))) := rfl
@[simp] theorem oMul_li : oMul G (.lst ds) (.int b) kr = (-(2 ^ 63) ≤ b ∧ b < 2 ^ 63 ∧ ds.length * b.toNat ≤ sizeLine ∧ kr (.fr (List.replicate b.toNat ds).flatten)) := rfl
@[simp] theorem oFdiv_ii : oFdiv G (.int a) (.int b) kr = (CDivW a b ∧ kr (.val (.int (a / b)))) := rfl
@[simp] theorem oMod_ii : oMod G (.int a) (.int b) kr = (0 < b ∧ kr (.val (.int (a % b)))) := rfl
@[simp] theorem oModN_ii : oModN G (.int a) (.int b) kr = (b ≠ 0 ∧ kr (.val (.int (a.fmod b)))) := rfl
@[simp] theorem oPow_ii : oPow G (.int a) (.int b) kr = (CPow a b ∧ kr (.val (.int (a ^ b.toNat)))) := rfl
@[simp] theorem oCmpI_ii {p : Int → Int → Bool} : oCmpI p G (.int a) (.int b) kr = kr (.val (.bl (p a b))) := rfl
@[simp] theorem oEq_eq : oEq G d e kr = (d.sh = true ∧ e.sh = true ∧ kr (.val (.bl (D.eqv d e)))) := rfl
@[simp] theorem oNe_eq : oNe G d e kr = (d.sh = true ∧ e.sh = true ∧ kr (.val (.bl (!D.eqv d e)))) := rfl
@[simp] theorem oIn_l {n : Bool} : oIn n G d (.lst ds) kr = (d.sh = true ∧ (D.lst ds).sh = true ∧ kr (.val (.bl (if n then !d.among ds else d.among ds)))) := rfl
@[simp] theorem oIn_t {n : Bool} : oIn n G d (.tup ds) kr = (d.sh = true ∧ (D.tup ds).sh = true ∧ kr (.val (.bl (if n then !d.among ds else d.among ds)))) := rfl
@[simp] theorem oIs_eq {n : Bool} : oIs n G d e kr = (e.isN = true ∧ kr (.val (.bl (if n then !d.isN else d.isN)))) := rfl
@[simp] theorem isN_non : D.isN .non = true := rfl
@[simp] theorem isN_int : D.isN (.int a) = false := rfl
@[simp] theorem isN_tup : D.isN (.tup ds) = false := rfl
@[simp] theorem isN_lst : D.isN (.lst ds) = false := rfl
@[simp] theorem isN_str : D.isN (.str x) = false := rfl
@[simp] theorem isN_bl {b : Bool} : D.isN (.bl b) = false := rfl
@[simp] theorem uNeg_i : uNeg (.int a) kr = kr (.val (.int (-a))) := rfl
@[simp] theorem oIx_li : oIx G (.lst ds) (.int a) kr = ∃ v, atI ds a = some v ∧ kr (.val v) := rfl
@[simp] theorem oIx_ti : oIx G (.tup ds) (.int a) kr = ∃ v, atI ds a = some v ∧ kr (.val v) := rfl
@[simp] theorem oIx_sc {ns : List Int} : oIx G (.scr ns) (.int a) kr = ∃ v, atI ns a = some v ∧ kr (.val (.int v)) := rfl
@[simp] theorem oIx_ri {p : Addr} : oIx G (.ref p) (.int a) kr = ∃ ds, lookL G p = some ds ∧ ∃ v, atI ds a = some v ∧ kr (.val v) := rfl
@[simp] theorem oSl_l {lo hi : Option Int} : oSl (.lst ds) lo hi kr = kr (.fr (cutD ds lo hi)) := rfl
@[simp] theorem oSl_t {lo hi : Option Int} : oSl (.tup ds) lo hi kr = kr (.val (.tup (cutD ds lo hi))) := rfl
@[simp] theorem bLen_l : bLen G [.lst ds] kr = kr (.val (.int ds.length)) := rfl
@[simp] theorem bLen_t : bLen G [.tup ds] kr = kr (.val (.int ds.length)) := rfl
@[simp] theorem bLen_s : bLen G [.str x] kr = (x.length ≤ sizeLine ∧ kr (.val (.int x.length))) := rfl
@[simp] theorem bLen_c {ns : List Int} : bLen G [.scr ns] kr = kr (.val (.int ns.length)) := rfl
@[simp] theorem bAbs_i : bAbs G [.int a] kr = kr (.val (.int (if a < 0 then -a else a))) := rfl
@[simp] theorem bIntOf_i : bIntOf G [.int a] kr = kr (.val (.int a)) := rfl
@[simp] theorem bIntOf_b {b : Bool} : bIntOf G [.bl b] kr = kr (.val (.int (if b then 1 else 0))) := rfl
@[simp] theorem bMax_i : bMax G [.int a, .int b] kr = kr (.val (.int (if b > a then b else a))) := rfl
@[simp] theorem bMin_i : bMin G [.int a, .int b] kr = kr (.val (.int (if b < a then b else a))) := rfl
@[simp] theorem bList_l : bList G [.lst ds] kr = kr (.fr ds) := rfl
@[simp] theorem bList_t : bList G [.tup ds] kr = kr (.fr ds) := rfl
@[simp] theorem bTuple_l : bTuple G [.lst ds] kr = kr (.val (.tup ds)) := rfl
@[simp] theorem bTuple_t : bTuple G [.tup ds] kr = kr (.val (.tup ds)) := rfl
@[simp] theorem bAll_l : bAll G [.lst ds] kr = ∃ bs, blsOf ds = some bs ∧ kr (.val (.bl (bs.all id))) := rfl
@[simp] theorem bAny_l : bAny G [.lst ds] kr = ∃ bs, blsOf ds = some bs ∧ kr (.val (.bl (bs.any id))) := rfl
@[simp] theorem bSum_l : bSum G [.lst ds] kr = ∃ bs, intsOf ds = some bs ∧ kr (.val (.int bs.sum)) := rfl
@[simp] theorem bIsi_eq {n : String} : bIsi G [d, .ty n] kr = ∃ t, tyN d = some t ∧ n ∈ knownT ∧ kr (.val (.bl (isT t n))) := rfl
@[simp] theorem tyN_non : tyN .non = some "NoneType" := rfl
@[simp] theorem tyN_bl {b : Bool} : tyN (.bl b) = some "bool" := rfl
@[simp] theorem tyN_int : tyN (.int a) = some "int" := rfl
@[simp] theorem tyN_str : tyN (.str x) = some "str" := rfl
@[simp] theorem tyN_tup : tyN (.tup ds) = some "tuple" := rfl
@[simp] theorem tyN_lst : tyN (.lst ds) = some "list" := rfl
@[simp] theorem known1 : "int" ∈ knownT := by decide
@[simp] theorem known2 : "bool" ∈ knownT := by decide
@[simp] theorem known3 : "str" ∈ knownT := by decide
@[simp] theorem known4 : "tuple" ∈ knownT := by decide
@[simp] theorem known5 : "list" ∈ knownT := by decide
@[simp] theorem isT_def {t n : String} : isT t n = (t == n || (t == "bool" && n == "int")) := rfl
@[simp] theorem iterD_l : iterD (.lst ds) = some ds := rfl
@[simp] theorem iterD_t : iterD (.tup ds) = some ds := rfl
@[simp] theorem iterD_s : iterD (.str x) = some (strD x) := rfl
@[simp] theorem blsOf_m (bs : List Bool) : blsOf (bs.map D.bl) = some bs := blsOf_map bs
@[simp] theorem intsOf_m (bs : List Int) : intsOf (bs.map D.int) = some bs := intsOf_map bs
/-! places -/
@[simp] theorem at0 {α : Type} {a : α} {r : List α} : atI (a :: r) (0 : Int) = some a := by
  have : atI (a :: r) ((0 : Nat) : Int) = some a := atI_nat rfl
  simpa using this
@[simp] theorem at1 {α : Type} {a b : α} {r : List α} : atI (a :: b :: r) (1 : Int) = some b := by
  have : atI (a :: b :: r) ((1 : Nat) : Int) = some b := atI_nat rfl
  simpa using this
@[simp] theorem at2 {α : Type} {a b c : α} {r : List α} : atI (a :: b :: c :: r) (2 : Int) = some c := by
  have : atI (a :: b :: c :: r) ((2 : Nat) : Int) = some c := atI_nat rfl
  simpa using this
theorem ix_nat {n j : Nat} (h : j < n) : ixN n (j : Int) = some j := by
  unfold ixN
  rw [if_pos (by omega), if_pos (by omega)]
  simp
@[simp] theorem ix0 {n : Nat} : ixN (n + 1) (0 : Int) = some 0 := by
  have := ix_nat (n := n + 1) (j := 0) (by omega)
  simpa using this
@[simp] theorem ix1 {n : Nat} : ixN (n + 1 + 1) (1 : Int) = some 1 := by
  have := ix_nat (n := n + 1 + 1) (j := 1) (by omega)
  simpa using this
@[simp] theorem ix2 {n : Nat} : ixN (n + 1 + 1 + 1) (2 : Int) = some 2 := by
  have := ix_nat (n := n + 1 + 1 + 1) (j := 2) (by omega)
  simpa using this
@[simp] theorem regSet_head {p : Addr} {R : Reg} : regSet ((p, ds) :: R) p es = (p, es) :: R := by
  unfold regSet; simp
/-! == -/
@[simp] theorem sh_int : D.sh (.int a) = true := rfl
@[simp] theorem sh_bl {b : Bool} : D.sh (.bl b) = true := rfl
@[simp] theorem sh_non : D.sh .non = true := rfl
@[simp] theorem sh_tup : D.sh (.tup ds) = ds.all (shl (shl (shl (shl sh0)))) := rfl
@[simp] theorem sh_lst : D.sh (.lst ds) = ds.all (shl (shl (shl (shl sh0)))) := rfl
@[simp] theorem shl_int {p : D → Bool} : shl p (.int a) = true := rfl
@[simp] theorem shl_bl {p : D → Bool} {b : Bool} : shl p (.bl b) = true := rfl
@[simp] theorem shl_non {p : D → Bool} : shl p .non = true := rfl
@[simp] theorem shl_tup {p : D → Bool} : shl p (.tup ds) = ds.all p := rfl
@[simp] theorem shl_lst {p : D → Bool} : shl p (.lst ds) = ds.all p := rfl
@[simp] theorem sh0_int : sh0 (.int a) = true := rfl
@[simp] theorem all_shl_ints {p : D → Bool} (ns : List Int) : (ns.map D.int).all (shl p) = true := by
  rw [List.all_map, List.all_eq_true]; intro x _; rfl
@[simp] theorem eqv_int : D.eqv (.int a) (.int b) = decide (a = b) := by
  unfold D.eqv D.py PyData.eqv; exact Bool.beq_eq_decide_eq a b
@[simp] theorem eqv_bl {b c : Bool} : D.eqv (.bl b) (.bl c) = (b == c) := rfl
def eqvL : List D → List D → Bool
  | [], [] => true
  | x :: xs, y :: ys => D.eqv x y && eqvL xs ys
  | _, _ => false
theorem eqvL_eq : ∀ (xs ys : List D), PyData.eqvAll (pyL xs) (pyL ys) = eqvL xs ys
  | [], [] => rfl
  | [], _ :: _ => rfl
  | _ :: _, [] => rfl
  | x :: xs, y :: ys => by
    show (PyData.eqv x.py y.py && PyData.eqvAll (pyL xs) (pyL ys)) = _
    rw [eqvL_eq xs ys]; rfl
@[simp] theorem eqv_tup : D.eqv (.tup ds) (.tup es) = eqvL ds es := by
  unfold D.eqv D.py PyData.eqv; exact eqvL_eq ds es
@[simp] theorem eqv_lst : D.eqv (.lst ds) (.lst es) = eqvL ds es := by
  unfold D.eqv D.py PyData.eqv; exact eqvL_eq ds es
@[simp] theorem eqvL_nil : eqvL [] [] = true := rfl
@[simp] theorem eqvL_cons : eqvL (d :: ds) (e :: es) = (D.eqv d e && eqvL ds es) := rfl
@[simp] theorem eqvL_nc : eqvL [] (e :: es) = false := rfl
@[simp] theorem eqvL_cn : eqvL (d :: ds) [] = false := rfl
@[simp] theorem eqvL_ints : ∀ xs ys : List Int, eqvL (xs.map D.int) (ys.map D.int) = decide (xs = ys)
  | [], [] => rfl
  | [], _ :: _ => rfl
  | _ :: _, [] => rfl
  | x :: xs, y :: ys => by
    rw [List.map_cons, List.map_cons, eqvL, eqvL_ints xs ys, eqv_int]
    by_cases h : x = y
    · subst h; simp
    · simp [h]
@[simp] theorem eqvL_ints_nil {xs : List Int} : eqvL (xs.map D.int) [] = decide (xs = []) := eqvL_ints xs []
@[simp] theorem eqvL_nil_ints {xs : List Int} : eqvL [] (xs.map D.int) = decide ([] = xs) := eqvL_ints [] xs
end
theorem mulOk_left {i j : Int} (h1 : -(2 ^ 64) < i) (h2 : i < 2 ^ 64) : MulOk i j := .inl (.inl ⟨h1, h2⟩)
theorem mulOk_right {i j : Int} (h1 : -(2 ^ 64) < j) (h2 : j < 2 ^ 64) : MulOk i j := .inl (.inr ⟨h1, h2⟩)
end L3

set_option Elab.async false
set_option maxRecDepth 100000
set_option maxHeartbeats 4000000
set_option exponentiation.threshold 2000
/-! L3, part l: the end of a walk; loops by invariants; small steps for the plain reading. -/
namespace L3
open PySem PySem.Spec PyProof.Rows L2
/-! ### loops -/
theorem for_ind {g : DG} {tb : DSt} {Dn : Ends3} (I : List D → Env3 → Reg → Prop) (hend : ∀ E G, I [] E G → Dn.nx E G)
    (step : ∀ d ds E G (nx : Env3 → Reg → Prop), I (d :: ds) E G → (∀ E' G', I ds E' G' → nx E' G') → g d E G fun E1 G1 => tb { Dn with nx := nx, ct := nx, bk := Dn.nx } E1 G1) :
    ∀ ds E G, I ds E G → dForL g tb ds Dn E G
  | [], E, G, h => hend E G h
  | d :: ds, E, G, h => step d ds E G _ h fun E' G' h' => for_ind I hend step ds E' G' h'
/-- a comprehension whose parts leave the registers as they are -/
theorem lc_pure {g : DG} {tt : DT} {te : DE} {vs : List Nat} {E : Env3} {G : Reg} (P : D → Prop) (f : D → Option D)
    (step : ∀ d (k1 : D → Env3 → Reg → Prop) (k2 : Env3 → Reg → Prop), P d → (∀ x Ew, f d = some x → wipe3 Ew vs = E → k1 x Ew G) → (∀ Ew, f d = none → wipe3 Ew vs = E → k2 Ew G) →
      g d E G fun E1 G1 => tt E1 G1 fun b E2 G2 => if b = true then te E2 G2 fun r E3 G3 => ∃ x E4, r.ice E3 = some (x, E4) ∧ k1 x E4 G3 else k2 E2 G2) :
    ∀ (ds acc : List D) (k : List D → Env3 → Reg → Prop), (∀ d ∈ ds, P d) → k (acc ++ ds.filterMap f) E G → dLcL g tt te vs ds acc E G k
  | [], acc, k, _, h => by simpa using h
  | d :: ds, acc, k, hp, h => step d _ _ (hp d List.mem_cons_self)
      (fun x Ew e w => by
        rw [w]
        refine lc_pure P f step ds _ k (fun z hz => hp z (List.mem_cons_of_mem _ hz)) ?_
        rw [List.filterMap_cons_some e] at h
        rw [List.append_assoc]
        exact h)
      fun Ew e w => by
        rw [w]
        refine lc_pure P f step ds _ k (fun z hz => hp z (List.mem_cons_of_mem _ hz)) ?_
        rw [List.filterMap_cons_none e] at h
        exact h
theorem lc_pure0 {g : DG} {tt : DT} {te : DE} {vs : List Nat} {E : Env3} {G : Reg} (P : D → Prop) (f : D → Option D)
    (step : ∀ d (k1 : D → Env3 → Reg → Prop) (k2 : Env3 → Reg → Prop), P d → (∀ x Ew, f d = some x → wipe3 Ew vs = E → k1 x Ew G) → (∀ Ew, f d = none → wipe3 Ew vs = E → k2 Ew G) →
      g d E G fun E1 G1 => tt E1 G1 fun b E2 G2 => if b = true then te E2 G2 fun r E3 G3 => ∃ x E4, r.ice E3 = some (x, E4) ∧ k1 x E4 G3 else k2 E2 G2)
    {ds : List D} {k : List D → Env3 → Reg → Prop} (hp : ∀ d ∈ ds, P d) (h : k (ds.filterMap f) E G) : dLcL g tt te vs ds [] E G k :=
  lc_pure P f step ds [] k hp h
/-! ### steps -/
/-- a goal that the step words leave alone -/
inductive Stop (p : Prop) : Prop
  | go (h : p)
  | no (h : False)
theorem Stop.of {p : Prop} : Stop p → p
  | .go h => h
  | .no h => h.elim
theorem lc_stop {g : DG} {tt : DT} {te : DE} {vs : List Nat} {ds acc : List D} {E : Env3} {G : Reg} {k : List D → Env3 → Reg → Prop} (h : Stop (dLcL g tt te vs ds acc E G k)) : dLcL g tt te vs ds acc E G k := h.of
theorem for_stop {g : DG} {tb : DSt} {ds : List D} {Dn : Ends3} {E : Env3} {G : Reg} (h : Stop (dForL g tb ds Dn E G)) : dForL g tb ds Dn E G := h.of
theorem ifD {p : Prop} [Decidable p] {A C : Prop} (h1 : p → A) (h2 : ¬ p → C) : if decide p = true then A else C := by
  by_cases h : p
  · rw [decide_eq_true h, if_pos rfl]; exact h1 h
  · rw [decide_eq_false h, if_neg Bool.false_ne_true]; exact h2 h
theorem ifT {A C : Prop} (h : A) : if true = true then A else C := h
theorem ifF {A C : Prop} (h : C) : if false = true then A else C := h
theorem look0 {a : Addr} {l : Int} {ds : List D} {R : Reg} : lookL ((a, D.int l :: ds) :: R) a = some (D.int l :: ds) := by simp [lookL, List.lookup, isL]
theorem mulC {i j : Int} (h : -(2 ^ 64) < i ∧ i < 2 ^ 64) : MulOk i j := mulOk_left h.1 h.2
theorem mulC' {i j : Int} (h : -(2 ^ 64) < j ∧ j < 2 ^ 64) : MulOk i j := mulOk_right h.1 h.2
theorem cpow (n : Int) (h : 0 ≤ n) (h2 : n ≤ 1000000) : CPow 10 n := ⟨h, h2, by decide⟩
theorem ltL {a b : Nat} (h : Nat.ble (a + 1) b = true) : a < b := Nat.le_of_ble_eq_true h
theorem regS {p : Addr} {R : Reg} {ds es : List D} : regSet ((p, ds) :: R) p es = (p, es) :: R := regSet_head
theorem atN {α : Type} {ds : List α} {r : Int} (h0 : 0 ≤ r) (h : r < (ds.length : Int)) : ∃ d, atI ds r = some d ∧ d ∈ ds := by
  obtain ⟨j, rfl⟩ := Int.eq_ofNat_of_zero_le h0
  have hj : j < ds.length := by exact_mod_cast h
  refine ⟨ds[j], ?_, List.getElem_mem hj⟩
  unfold atI
  rw [ix_nat hj]
  exact List.getElem?_eq_getElem hj
theorem qT {q : Res → Reg → Prop} {G : Reg} {b : Bool} (hb : b = true) (h : q (.val (.bl true)) G) : q (.val (.bl b)) G := by rw [hb]; exact h
end L3

set_option Elab.async false
set_option maxRecDepth 100000
set_option maxHeartbeats 4000000
/-! L3, part m: slices, plainly. -/
namespace L3
open PySem PySem.Spec PyProof.Rows L2
end L3

set_option Elab.async false
set_option maxRecDepth 100000
set_option maxHeartbeats 4000000
/-! L3, part n: instances of classes with slots: read, filled by __init__, made. -/
namespace L3
open PySem PySem.Spec PyProof.Rows L2
theorem ClsN.eq {K : PySem.W.Frag} {nm : Str} {C C' : Addr} (h : ClsN K nm C) (h' : ClsN K nm C') : C = C' := by
  unfold ClsN at h h'
  rw [h] at h'
  cases h'
  rfl
section
variable {X : Cx} {B : Base3}
theorem RepH.obj {K : PySem.W.Frag} {F H : Hp} {nm : Str} {fs : List D} {v : V} (r : RepH K F H (.obj nm fs) v) (s : Same F H) : ∃ a C dx xs, v = .ref a ∧ ClsN K nm C ∧ SlX.Slt H a C dx (xs.map some) ∧ RepL K F fs xs := by
  rcases r with r | ⟨_, _, _, _, e⟩
  · cases r with
    | obj h1 h2 h3 h4 => exact ⟨_, _, _, _, rfl, h1, .inr ⟨s _ _ h2, s _ _ h3⟩, h4⟩
  · exact e.elim
/-! ### self.f = e in __init__ -/
def putO (i : Nat) (d : D) (fs : List (Option D)) : List (Option D) := (fs ++ List.replicate (i + 1 - fs.length) none).set i (some d)
theorem putO_get {i j : Nat} {d e : D} {fs : List (Option D)} (h : (putO i d fs)[j]? = some (some e)) : (i = j ∧ e = d) ∨ (i ≠ j ∧ fs[j]? = some (some e)) := by
  unfold putO at h
  by_cases q : i = j
  · subst q
    rw [List.getElem?_set] at h
    simp only [if_true] at h
    split at h
    · cases h; exact .inl ⟨rfl, rfl⟩
    · cases h
  · rw [List.getElem?_set_ne q] at h
    refine .inr ⟨q, ?_⟩
    by_cases z : j < fs.length
    · rw [List.getElem?_append_left z] at h; exact h
    · rw [List.getElem?_append_right (by omega)] at h
      have := List.mem_of_getElem? h
      have := List.eq_of_mem_replicate this
      cases this
theorem RepO.put {K : PySem.W.Frag} {F : Hp} {fs : List (Option D)} {vs : List (Option V)} (h : RepO K F fs vs) (i : Nat) {d : D} {v : V} (r : Rep K F d v) : RepO K F (putO i d fs) (SlX.putS i v vs) := by
  refine ⟨?_, fun j e he => ?_⟩
  · unfold putO SlX.putS
    simp only [List.length_set, List.length_append, List.length_replicate, h.1]
  · rcases putO_get he with ⟨q, rfl⟩ | ⟨q, z⟩
    · subst q
      exact ⟨v, SlX.putS_get _ _ _, r⟩
    · obtain ⟨u, h1, h2⟩ := h.2 j e z
      exact ⟨u, (SlX.putS_ne (fun w => q w.symm)).mpr h1, h2⟩
end
end L3

set_option Elab.async false
set_option maxRecDepth 100000
set_option maxHeartbeats 4000000
/-! L3, part o: an instance is made: the promise of its __init__. -/
namespace L3
open PySem PySem.Spec PyProof.Rows L2
section
variable {P : Program} {w : World} {K : PySem.W.Frag} {mg : Str → Option Value} {base : Heap}
end
section
variable {X : Cx} {B : Base3}
end
end L3

set_option Elab.async false
set_option maxRecDepth 100000
set_option maxHeartbeats 4000000
/-! L3, part p: properties, methods, isinstance of instances. -/
namespace L3
open PySem PySem.Spec PyProof.Rows L2
section
variable {P : Program} {w : World} {K : PySem.W.Frag} {mg : Str → Option Value} {base : Heap}
end
section
variable {X : Cx} {B : Base3}
end
end L3

set_option Elab.async false
set_option maxRecDepth 100000
set_option maxHeartbeats 4000000
/-! L3, part q: zip and enumerate. -/
namespace L3
open PySem PySem.Spec PyProof.Rows L2
section
variable {X : Cx} {B : Base3} {K : PySem.W.Frag}
end
end L3

set_option Elab.async false
set_option maxRecDepth 100000
set_option maxHeartbeats 4000000
/-! L3, part r: starred items, texts of numbers, f-strings, join. -/
namespace L3
open PySem PySem.Spec PyProof.Rows L2
section
variable {X : Cx} {B : Base3}
end
end L3

set_option Elab.async false
set_option maxRecDepth 100000
set_option maxHeartbeats 4000000
/-! L3, part s: join and split. -/
namespace L3
open PySem PySem.Spec PyProof.Rows L2
section
variable {X : Cx} {B : Base3}
end
end L3

set_option Elab.async false
set_option maxRecDepth 100000
set_option maxHeartbeats 4000000
/-! L3, part t: what the head tells of a class with slots. -/
namespace L3
open PySem PySem.Spec PyProof.Rows L2
section
variable {P : Program} {w : World} {K : PySem.W.Frag} {mg : Str → Option Value} {base : Heap}
theorem cls_mk {h : Heap} {nm : Str} {C : Addr} (X : K.In h) (G : h.Ns mainGlobals mg) (a : PySem.W.nsIn K mainGlobals nm = some (some (.ref C))) : ∃ C, ClsN K nm C ∧ mg nm = some (.ref C) := ⟨C, a, PySem.W.mg_of X G a⟩
end
end L3

set_option Elab.async false
set_option maxRecDepth 100000
set_option maxHeartbeats 4000000
/-! L3, part u: the least, the greatest of a list of ints; sorted. -/
namespace L3
open PySem PySem.Spec PyProof.Rows L2
section
variable {X : Cx} {B : Base3}
end
end L3

set_option Elab.async false
set_option maxRecDepth 100000
set_option maxHeartbeats 4000000
/-! L3, part v: t[::-1] of a tuple. -/
namespace L3
open PySem PySem.Spec PyProof.Rows L2 HT
section
variable {prog : Program} {w : World} {A : Around} {E : Value → Shared → Prop} {s : Shared}
end
section
variable {X : Cx}
end
end L3

set_option Elab.async false
set_option maxRecDepth 100000
set_option maxHeartbeats 4000000
/-! L3, part w: enumerate of a tuple. -/
namespace L3
open PySem PySem.Spec PyProof.Rows L2
section
variable {X : Cx} {B : Base3} {K : PySem.W.Frag}
end
end L3

set_option Elab.async false
set_option maxRecDepth 100000
set_option maxHeartbeats 4000000
/-! L3, part x: list(range(..)), tuple(range(..)); another name of a def. -/
namespace L3
open PySem PySem.Spec PyProof.Rows L2
section
variable {X : Cx} {B : Base3}
end
end L3

set_option Elab.async false
set_option maxRecDepth 100000
set_option maxHeartbeats 4000000
/-! L3, part y: zip of any number of lists and tuples: walked, as a value under a name; repr of plain things. -/
namespace L3
open PySem PySem.Spec PyProof.Rows L2
section
variable {K : PySem.W.Frag} {F : Hp}
theorem RepLs.length : ∀ {dss : List (List D)} {css : List ZN.CS}, RepLs K F dss css → dss.length = css.length
  | _, _, .nil => rfl
  | _, _, .cons _ _ t => congrArg (· + 1) (RepLs.length t)
theorem RepLs.sq : ∀ {dss : List (List D)} {css : List ZN.CS}, RepLs K F dss css → ∀ c ∈ css, ZN.SqK K c.k F c.a c.xs
  | _, _, .nil => fun c h => (nomatch h)
  | _, _, .cons h1 _ t => fun c h => by
    rcases List.mem_cons.mp h with e | h
    · rw [e]; exact h1
    · exact RepLs.sq t c h
end
section
variable {X : Cx} {B : Base3} {K : PySem.W.Frag}
end
end L3

set_option Elab.async false
set_option maxRecDepth 100000
set_option maxHeartbeats 4000000
/-! XS: an own exception over a built-in one whose __init__ says super().__init__(text) and then self.f = v: made, and raised. -/
namespace XS
open PySem PySem.W PySem.Calls PyProof.Rows PySem.HandSPX Builtin Builtin.ObjectAttr
/-- what is known of the built-in class B, whose __new__ is L's -/
structure EBX (B L newId initId : String) (bm : List Value) : Prop where
  ends : newId.endsWith ".__new__" = true
  owner : newId.dropRight 8 = L
  entry : entryFor table newId = some Builtin.«BaseException.__new__»
  canon : Manifest.canonical newId = Manifest.canonical "BaseException.__new__"
  quiet : newId.startsWith "lifetime." = false
  newSplit : splitId newId = some (L, "__new__")
  newKind : builtinKind newId = some .builtinFn
  newRow : Manifest.signature? newId = some ⟨.any, L, L, .cls, [⟨"args", .varPos, false⟩, ⟨"kwargs", .varKw, false⟩]⟩
  starL : (L != "*") = true
  hasL : bm.contains (.type L) = true
  noAttr : bm.contains (.type "AttributeError") = false
  noName : bm.contains (.type "NameError") = false
  init : Slot B "__init__" initId
  initEntry : entryFor table initId = some Builtin.«BaseException.__init__»
  initKind : builtinKind initId = some .slot
  initRow : Manifest.signature? initId = some ⟨.positional, "*", B, .self, [⟨"args", .varPos, false⟩]⟩
  noStar : (B != "*") = true
structure EBE (B newId initId : String) (bm : List Value) : Prop where
  ex : ∃ L, EBX B L newId initId bm
theorem EBE.of {B newId initId : String} {bm : List Value} (F : ExcBaseFacts B newId initId bm) : EBE B newId initId bm :=
  ⟨B, F.ends, F.owner, F.entry, F.canon, F.quiet, F.newSplit, F.newKind, F.newRow, F.noStar, F.hasB, F.noAttr, F.noName, F.init, F.initEntry, F.initKind, F.initRow, F.noStar⟩
/-- what is known of the built-in class B -/
structure BaseX (B i newId : String) (bmB : List Value) : Prop where
  kf : KxsFacts B i
  fb : EBE B newId i bmB
  sf : StoreFacts B bmB "object.__setattr__" "object"
/-! ### such a class is called: the __new__ that stands with L, then the own __init__ -/
section
variable {M : Model} {prog : Program} {w : World} {A : Around} {E : Value → Shared → Prop} {R : Result → Shared → Prop} {hp : Heap} {gs : Array GenState} {dr : Drawn} {tk : Nat} {os : OsState}
variable {nm q : Str} {C N : Addr} {bs bm bmB : List Value} {hdct : Bool} {sn : List Str} {sub : List Value} {ab : Bool} {col : Option Bool} {dd : Option Addr} {k0 k1 k2 k3 k5 : Option Value} {B L newId i : String}
abbrev Alt (bm bmB : List Value) : Prop := ∀ X : String, bm.contains (.type X) = bmB.contains (.type X)
theorem Alt.has {bm bmB : List Value} (z : Alt bm bmB) {x : Value} {X : String} {b : Bool} (e : bmB.contains (.type X) = b) (n : (Value.type X == x) = false) : (x :: bm).contains (.type X) = b := by
  rw [List.contains_cons, n, z, e, Bool.false_or]
theorem check_newX (Z : EBX B L newId i bmB) (z : Alt bm bmB) {xs : List Value} {Q : Unit → Shared → Prop}
    (o : hp.get? C = some (excClassObj nm q C N bs bm hdct sn sub ab col dd k0 k1 k2 k3 k5 newId)) (k : Q () ⟨hp, gs, dr, tk, os⟩) : wpAny M A (checkBuiltinCall newId ⟨.ref C :: xs, []⟩) Q E ⟨hp, gs, dr, tk, os⟩ := by
  have e1 := z.has (x := .ref C) Z.hasL rfl; have e2 := Z.starL
  simp only [checkBuiltinCall, Z.newKind, Z.newRow, Z.newSplit]
  repeat (first | (refine wpAny_isSubtype_exc o ?_; rw [e1]) | refine wpAny_loadPart_at o ?_ | refine wpAny_madeBy_exc o ?_ | refine wpAny_staticBase_exc o ?_ | simp only [bne_self_eq_false, Bool.false_eq_true, if_false] | wp_step)
  exact k
theorem newX (Z : EBX B L newId i bmB) (z : Alt bm bmB) {xs : List Value} (o : hp.get? C = some (excClassObj nm q C N bs bm hdct sn sub ab col dd k0 k1 k2 k3 k5 newId)) (fit : xs.length ≤ sizeLine)
    (k : R (.ok (.ret (.ref (hp.objs.size + 1)))) ⟨(hp.push (kdv_tup xs)).push (excO C hp.objs.size), gs, dr, tk, os⟩) : codeAny (model prog w) A (.builtin newId ⟨.ref C :: xs, []⟩) R ⟨hp, gs, dr, tk, os⟩ := by
  have e0 := Z.ends; have e1 := z.has (x := .ref C) Z.hasL rfl; have e2 := z.has (x := .ref C) Z.noAttr rfl; have e3 := z.has (x := .ref C) Z.noName rfl
  have hrest := fit
  refine PySem.codeAny_builtinAt Z.entry ?_
  unfold Builtin.«BaseException.__new__»; refine PySem.wpAt_bind ?_
  show PySem.wpAt _ _ _ (PySem.stack >>= _) _ _ _
  refine PySem.wpAt_bind (PySem.wpAt_stack fun pa be => PySem.wpAt_of_wpAny ?_)
  wp_walk
  refine PySem.wpAt_of_wpAny ?_
  rw [Z.owner]
  repeat (first | with_reducible refine wpAny_loadPart_at o ?_ | with_reducible refine wpAny_madeHere_exc Z.canon o ?_ | (with_reducible refine wpAny_isSubtype_exc o ?_; first | rw [e1] | rw [e2] | rw [e3]) | wp_step)
  show R _ _
  rw [Heap.size_push]; exact k
theorem type_callX (Z : EBX B L newId i bmB) (z : Alt bm bmB) {xs : List Value} {fI : Addr} {Q : Fin → Shared → Prop} (o : hp.get? C = some (excClassObj nm q C N bs bm hdct sn sub ab col dd k0 k1 k2 k3 k5 newId))
    (li : PySem.W.Looks (model prog w) hp (typeLookup (.ref C) "__init__") (some (.ref fI))) (lb : ∀ y, PySem.W.Looks (model prog w) hp (bindSpecial (.ref fI) y) (.ref fI, [y])) (fit : xs.length ≤ sizeLine)
    (k : codeAny (model prog w) A (.call (.ref fI) ⟨.ref (hp.objs.size + 1) :: xs, []⟩) (fun r s' => match r with | .error e => E e s' | .ok (.ret v) => v = .none ∧ Q (.done (.ret (.ref (hp.objs.size + 1)))) s' | .ok _ => False)
      ⟨(hp.push (kdv_tup xs)).push (excO C hp.objs.size), gs, dr, tk, os⟩) : wpAny (model prog w) A (Builtin.«type.__call__» ⟨.ref C :: xs, []⟩) Q E ⟨hp, gs, dr, tk, os⟩ := by
  repeat (first | with_reducible refine wpAny_madeBy_exc o ?_ | with_reducible refine wpAny_loadPart_at o ?_ | wp_step)
  refine codeAny_call_builtin_code (Code.quiet_builtin _ Z.quiet) (check_newX Z z o (newX Z z o fit ?_))
  show wpAny _ _ _ _ _ _
  have up : ∀ b u, hp.get? b = some u → ((hp.push (kdv_tup xs)).push (excO C hp.objs.size)).get? b = some u := fun b u e => Heap.get?_push_of_some _ (Heap.get?_push_of_some _ e)
  have o2 := up _ _ o; have j1 := li.keeps up; have j2 := (lb (.ref (hp.objs.size + 1))).keeps up
  have there : ((hp.push (kdv_tup xs)).push (excO C hp.objs.size)).get? (hp.objs.size + 1) = some (excO C hp.objs.size) := by heap_get
  have self : (Value.ref C :: bm).contains (.ref C) = true := by rw [List.contains_cons, beq_self_eq_true, Bool.true_or]
  unfold isInstance
  repeat (first | (with_reducible refine wpAny_isSubtype_exc o2 ?_; rw [self]) | with_reducible refine wpAny_loadPart_at there ?_ | wp_step)
  show wpAny _ _ (typeLookup (.ref C) _) _ _ _
  refine j1.at (wpAny_holding (wpAny_bind (j2.at ?_)))
  refine wpAny_bind (wpAny_call (codeAny_mono k fun r s' y => ?_))
  match r, y with
  | .error e, y => exact y
  | .ok (.ret v), y =>
    obtain ⟨e, y⟩ := y
    cases e
    first
      | exact wpAny_pure (wpAny_pure y)
      | (wp_walk; exact y)
theorem callX (Z : EBX B L newId i bmB) (z : Alt bm bmB) {xs : List Value} {fI : Addr} (o : hp.get? C = some (excClassObj nm q C N bs bm hdct sn sub ab col dd k0 k1 k2 k3 k5 newId))
    (li : PySem.W.Looks (model prog w) hp (typeLookup (.ref C) "__init__") (some (.ref fI))) (lb : ∀ y, PySem.W.Looks (model prog w) hp (bindSpecial (.ref fI) y) (.ref fI, [y])) (fit : xs.length ≤ sizeLine)
    (k : codeAny (model prog w) (A.under (.builtin "type.__call__" ⟨.ref C :: xs, []⟩)) (.call (.ref fI) ⟨.ref (hp.objs.size + 1) :: xs, []⟩) (PySem.W.InitBack (hp.objs.size + 1) R) ⟨(hp.push (kdv_tup xs)).push (excO C hp.objs.size), gs, dr, tk, os⟩) :
    codeAny (model prog w) A (.call (.ref C) ⟨xs, []⟩) R ⟨hp, gs, dr, tk, os⟩ := by
  have g1 := tc_bind (.ref C); have g2 := tc_lookup
  have ty : (⟨hp, gs, dr, tk, os⟩ : Shared).TypeIs (.ref C) "type" := ⟨_, o, rfl⟩
  refine codeAny_of_tree (show wpAny _ _ (callAny (.ref C) _) _ _ _ from ?_)
  repeat (any_goals (first | with_reducible refine wpAny_loadPart_at o ?_ | assumption | wp_step))
  refine ⟨rfl, codeAny_call_builtin_at (Code.quiet_builtin _ (by decide +kernel)) entry_typeCall (wpAny_check_type_call_sub o (type_callX Z z o li lb fit (codeAny_mono k fun r s' y => ?_)))⟩
  match r, y with
  | .error e, y => exact y
  | .ok (.ret v), y => exact y
theorem check_boundX (Z : EBX B L newId i bmB) {e : Addr} {oe : Obj} {xs : List Value} {Q : Unit → Shared → Prop} (o : hp.get? C = some (excClassObj nm q C N bs bm hdct sn sub ab col dd k0 k1 k2 k3 k5 newId)) (he : hp.get? e = some oe) (hc : oe.cls = .ref C)
    (k : Q () ⟨hp, gs, dr, tk, os⟩) : wpAny M A (checkBoundCall i ⟨.ref e :: xs, []⟩) Q E ⟨hp, gs, dr, tk, os⟩ := by
  have st := Z.noStar
  simp only [checkBoundCall, Z.initRow, Z.initKind]
  repeat (first | with_reducible refine wpAny_loadPart_at o ?_ | (with_reducible refine wpAny_loadPart_at he ?_; rw [hc]) | wp_step)
  refine wpAny_onRaise ?_
  have free : ∀ (a b : String) (n : Nat), Bind.check ⟨.positional, "*", B, .self, [⟨"args", .varPos, false⟩]⟩ a b n (List.map (fun y => y.fst) ({ pos := Value.ref e :: xs } : Args).kw) = pure () := fun a b n => check_star_args _ _ _ _ _ _
  rw [free]
  exact wpAny_pure k
end
/-- the body of such an __init__ -/
def supBody (m sN vN f : Str) (j : Nat) (p0 p1 p2 p3 p4 p5 q1 q2 q3 q4 : Pos) : List Stmt :=
  [.Expr (.Call (.Attribute (.Call (.Name "super" p0) [] [] p1) "__init__" p2) [.Constant (.str m) j p3] [] p4) p5,
   .Assign [.Attribute (.Name sN q1) f q2] (.Name vN q3) q4]
/-- how the call super().__init__(text) is read in that def's frame -/
def SupEv (qual : Str) (scope : Scope) (cda cc : Addr) (m : Str) (j : Nat) (p0 p1 p2 p3 p4 : Pos) : Prop := ∀ L fI : Addr, ∃ pl : Sem Bool,
  eval (.Call (.Attribute (.Call (.Name "super" p0) [] [] p1) "__init__" p2) [.Constant (.str m) j p3] [] p4) (ksEnv qual scope L fI (.ref cda) cc) = (do
      let ov ← attributeBase (.Call (.Name "super" p0) [] [] p1) "__init__" (ksEnv qual scope L fI (.ref cda) cc) (eval (.Call (.Name "super" p0) [] [] p1) (ksEnv qual scope L fI (.ref cda) cc))
      standAt p2.atName
      let (f, first) ← holding [ov] (getMethod ov "__init__" pl)
      callWith p4 f first (backTo p4 (starEach [.Constant (.str m) j p3] (ksEnv qual scope L fI (.ref cda) cc))) [])
/-- what the written part says of the class at C, its __init__ at fI -/
structure SupTxt (prog : Program) (K : Frag) (B i newId : String) (bmB : List Value) (C fI : Addr) (f : Str) : Prop where
  bx : BaseX B i newId bmB
  cls : excInitIn K C bmB newId = true
  hd : ∃ cd, clsIn K C = some cd ∧ cd.hasDict = true
  over : excOver K C bmB = true
  sa : findIn K (.ref C) "__setattr__" = some (some (.builtin "object.__setattr__"))
  noF : findIn K (.ref C) f = some none
  tk : takerIn K C f = some none
  iC : findIn K (.ref C) "__init__" = some (some (.ref fI))
  tC : typeIn K (.ref fI) = some (.type "function")
  kC : keepIn K (.ref C) = true
  exC : subIn K (.ref C) (.type "BaseException") = some true
  tyC : typeIn K (.ref C) = some (.type "type")
  sup : ks_superIn K C C "__init__" = some (some (.builtin i))
  subB : subIn K (.ref C) (.type B) = some true
  mroC : mroIn K C (.ref C) = some true
  opq : nsIn K cStatics "thirdparty.any" = some none
  fn : ∃ (oc : Value) (od : Option Addr) (qual : Str) (params : Arguments) (scope : Scope) (doc pm : Value) (an : Option Addr) (cda : Addr) (ct : Value) (osl : Array (Option Value)) (cc : Addr) (m sN vN : Str) (j : Nat) (p0 p1 p2 p3 p4 p5 q1 q2 q3 q4 : Pos),
    K.lookup fI = some ⟨oc, od, .func (ksFn "__init__" qual params (supBody m sN vN f j p0 p1 p2 p3 p4 p5 q1 q2 q3 q4) scope .none .none doc pm an (.ref cda) ct cc), osl⟩ ∧ codeIn K (.ref cda) qual = true ∧
    (∀ u v : Value, bindArgs (ksFn "__init__" qual params (supBody m sN vN f j p0 p1 p2 p3 p4 p5 q1 q2 q3 q4) scope .none .none doc pm an (.ref cda) ct cc) ⟨[u, v], []⟩ = pure [(sN, u), (vN, v)]) ∧
    (params.posonlyargs ++ params.args).head?.map (·.arg) = some sN ∧ sN ≠ vN ∧ scope.kind = .function ∧ scope.isCoroutine = false ∧ scope.isGenerator = false ∧ (∀ x ∈ scope.names, x.2 ≠ .cell) ∧
    scope.names.lookup sN = some .local ∧ scope.names.lookup vN = some .local ∧ scope.names.lookup ("super" : Str) = some .globalImplicit ∧ scope.names.lookup ("__class__" : Str) = some .free ∧
    (sN == ("__debug__" : Str)) = false ∧ (vN == ("__debug__" : Str)) = false ∧
    (∃ cl cld csl, K.lookup cc = some ⟨cl, cld, .cell (some (.ref C)), csl⟩) ∧
    (∃ ccl cdd vs ccs file tf, K.lookup cda = some ⟨ccl, cdd, .fields vs, ccs⟩ ∧ vs[2]? = some (.str file tf) ∧ ((prog.main.file : Str) == file) = true) ∧ SupEv qual scope cda cc m j p0 p1 p2 p3 p4
  htop : (prog.main.scope.names.lookup ("super" : Str)).isSome = false
/-- what __init__ leaves of a fresh exception at x -/
structure InitEnd (h h' : Heap) (x C dx : Addr) (f : Str) (v : Value) : Prop where
  keep : ∀ b o, b ≠ x → h.get? b = some o → h'.get? b = some o
  obj : ∃ t1 : Addr, h'.get? x = some { cls := .ref C, dict := some dx, data := .fields #[.ref t1, .none, .none, .none, .bool false, .none] }
  dbig : h.objs.size ≤ dx
  dne : dx ≠ x
  ns : h'.Ns1 dx (fun y => if y = f then some v else none)
section
variable {prog : Program} {w : World} {A : Around} {E : Value → Shared → Prop} {R : Result → Shared → Prop} {K : Frag} {C fI : Addr} {B i newId : String} {bmB : List Value} {f : Str}
variable {h : Heap} {g : Array GenState} {d : Drawn} {t : Nat} {os : OsState}
/-- the call of the bound built-in __init__ -/
theorem call_mw (T : SupTxt prog K B i newId bmB C fI f) {u e t0 : Addr} {rest : List Value} {Q : Value → Shared → Prop} (X : K.In h) (he : h.get? e = some (excO C t0)) (hu : h.get? u = some (kxs_mw i e)) (hrest : rest.length ≤ sizeLine)
    (hq : ∀ h' t1, (∀ b o, b ≠ e → h.get? b = some o → h'.get? b = some o) → h'.get? e = some (excO C t1) → Q .none ⟨h', g, d, t, os⟩) :
    wpAny (model prog w) A (call (.ref u) rest) Q E ⟨h, g, d, t, os⟩ := by
  obtain ⟨nm, N', qn, bs, bm, hdct, sn, sub, ab, col, dd, k0, k1, k2, k3, k5, hC, hT⟩ := excInit_of X T.cls
  refine wpAny_call (codeAny_of_tree ?_)
  show wpAny _ A.in1 (callAny (.ref u) ⟨rest, []⟩) _ _ _
  simp only [callAny]
  refine wpAny_bind (wpAny_load hu ?_)
  simp only [kxs_mw, show (Value.type "method-wrapper" == Value.type "method" || Value.type "method-wrapper" == Value.type "builtin_function_or_method" || Value.type "method-wrapper" == Value.type "method-wrapper") = true by decide, if_true]
  refine KFB.if_so (by decide) ?_
  refine wpAny_bind (check_boundX T.bx.fb.ex.choose_spec hC he rfl ?_)
  refine wpAny_bind (wpAny_pure (wpAny_pure ?_))
  refine ⟨plainId_quiet T.bx.fb.ex.choose_spec.init.plain _, codeAny_builtin T.bx.fb.ex.choose_spec.initEntry ?_⟩
  exact exc_init_tree (cls := .ref C) (t0 := t0) (dv := none) (c2 := .none) (c3 := .none) (b4 := .bool false) he hrest fun h' a b _ => hq h' _ a b
/-- self.f = v on a fresh exception -/
theorem osa_sup (T : SupTxt prog K B i newId bmB C fI f) {tk : Tok} {v : Value} {x : Addr} {fv : Array Value}
    (X : K.In h) (hx : h.get? x = some { cls := .ref C, data := .fields fv })
    (hq : ∀ h' tk' dx, (∀ b o, b ≠ x → h.get? b = some o → h'.get? b = some o) → h.objs.size ≤ dx → dx ≠ x → h'.get? x = some { cls := .ref C, dict := some dx, data := .fields fv } →
      h'.Ns1 dx (fun y => if y = f then some v else none) → R (.ok (.ret .none)) ⟨h', g, d, tk', os⟩) :
    codeAny (model prog w) A (.call (.builtin "object.__setattr__") ⟨[.ref x, .str f tk, v], []⟩) R ⟨h, g, d, t, os⟩ := by
  have I : W.InstAt h x { cls := .ref C, data := .fields fv } C none := ⟨hx, rfl, rfl, trivial⟩
  have hxs : x ≠ h.objs.size := Nat.ne_of_lt (Heap.lt_size hx)
  obtain ⟨cd, hcd, hh⟩ := T.hd
  refine osa_openX T.bx.sf X I T.over T.tk fun b => ?_
  have hcls : W.Looks (model prog w) h (classData C) cd := W.looks_clsIn X hcd
  obtain ⟨nm, bs, mro, ns, qn, hd, sn, sb, ab, col, del⟩ := cd
  dsimp only at hh
  subst hh
  dsimp only
  unfold storeInOwnDict Builtin.ObjectAttr.ownDictForStores
  repeat (first | with_reducible refine HandSPX.store_in_new ?_ ?_ | with_reducible refine wpAny_loadPart_at hx ?_ | with_reducible refine hcls.at ?_ | wp_step)
  · exact ⟨_, #[], _, (Heap.get?_update_ne _ _ _ _ hxs.symm).trans (Heap.get?_push_at rfl rfl), rfl, fun e he => absurd he (by simp), fun _ => rfl⟩
  · intro h' tk' hn' hs
    have hx₁ : (h.push { cls := .type "dict", data := .dict #[] }).get? x = some { cls := .ref C, data := .fields fv } := Heap.get?_push_of_some _ hx
    refine hq h' tk' h.objs.size (fun b o hb ho => ?_) (Nat.le_refl _) hxs.symm ?_ hn'
    · exact (hs.2 b (Nat.ne_of_lt (Heap.lt_size ho))).trans ((Heap.get?_update_ne _ _ _ _ hb).trans (Heap.get?_push_of_some _ ho))
    · exact (hs.2 x hxs).trans (Heap.get?_update_self _ hx₁ rfl)
end
section
variable {prog : Program} {w : World} {A : Around} {E : Value → Shared → Prop} {R : Result → Shared → Prop} {s : Shared} {K : Frag} {C fI : Addr} {B i newId : String} {bmB : List Value} {f : Str} {mg mb : Str → Option Value}
theorem sup_init (T : SupTxt prog K B i newId bmB C fI f) {x t0 : Addr} {v : Value} (X : K.In s.heap) (G : s.heap.Ns mainGlobals mg) (hms : mg "super" = none) (Gb : s.heap.Ns builtinsNs mb) (hbs : mb "super" = some (.type "super")) (hlim : s.heap.NoLimit)
    (hx : s.heap.get? x = some (excO C t0)) (hnx : K.lookup x = none) (hroom : A.depth < recursionLimit)
    (hq : ∀ h' tk dx, InitEnd s.heap h' x C dx f v → R (.ok (.ret .none)) { s with heap := h', toks := tk }) :
    codeAny (model prog w) A (.call (.ref fI) ⟨[.ref x, v], []⟩) R s := by
  obtain ⟨oc, od, qual, params, scope, doc, pm, an, cda, ct, osl, cc, m, sN, vN, j, p0, p1, p2, p3, p4, p5, q1, q2, q3, q4, ho, hcd, hbind, hpar, hne, hk, hco, hgen, hcell, hsN, hvN, hsu, hcl, hd1, hd2, ⟨cl, cld, csl, hcc⟩, ⟨ccl, cdd, vs, ccs, file, tf, hcda, hvs, hfile⟩, hev⟩ := T.fn
  obtain ⟨cd, hcd2, hhd⟩ := T.hd
  refine ks_codeAny_call_defAt (fd := ksFn "__init__" qual params (supBody m sN vN f j p0 p1 p2 p3 p4 p5 q1 q2 q3 q4) scope .none .none doc pm an (.ref cda) ct cc) (body := supBody m sN vN f j p0 p1 p2 p3 p4 p5 q1 q2 q3 q4) (binds := [(sN, .ref x), (vN, v)]) hroom (X _ _ ho) rfl hlim (codeRec_of X hcd) rfl (BindsTo.of_eq (hbind _ _)) hcell ?hloc (fun h₁ hns kp => ?_) hco hgen hk
  case hloc =>
    intro y hy
    rcases List.mem_cons.mp hy with e | hy
    · rw [e]; exact hsN
    · rcases List.mem_cons.mp hy with e | hy
      · rw [e]; exact hvN
      · cases hy
  have xlt : x < s.heap.objs.size := Heap.lt_size hx
  have hx₁ := kp _ _ hx
  have X₁ : K.In h₁ := X.keeps kp
  have hxC : x ≠ C := fun z => by
    unfold clsIn at hcd2
    split at hcd2
    · rename_i c' d' cd' sl' ho'
      rw [← z, hnx] at ho'
      cases ho'
    · cases hcd2
  obtain ⟨oD, hD1, hD2⟩ : ∃ oD, h₁.get? C = some oD ∧ oD.data = .cls cd := by
    unfold clsIn at hcd2
    split at hcd2
    · rename_i c' d' cd' sl' ho'
      cases hcd2
      exact ⟨_, X₁ _ _ ho', rfl⟩
    · cases hcd2
  obtain ⟨ar, har, hars⟩ := Option.map_eq_some_iff.mp hpar
  have lk1 : ([(sN, Value.ref x), (vN, v)] : List (Str × Value)).reverse.lookup sN = some (.ref x) := by
    have q : (sN == vN) = false := by simpa using hne
    simp [List.lookup, q]
  have lk2 : ([(sN, Value.ref x), (vN, v)] : List (Str × Value)).reverse.lookup vN = some v := by simp [List.lookup]
  show _root_.PySem.wpAt (model prog w) (A.deeper (ksEnv qual scope s.heap.objs.size fI (.ref cda) cc)) (.func _ (ksEnv qual scope s.heap.objs.size fI (.ref cda) cc)) (execs (supBody m sN vN f j p0 p1 p2 p3 p4 p5 q1 q2 q3 q4) (ksEnv qual scope s.heap.objs.size fI (.ref cda) cc)) _ _ _
  obtain ⟨pl, hev⟩ := hev s.heap.objs.size fI
  refine ks_wpAt_execs_cons (ks_wpAt_Expr_any (ks_wpAt_MethodCall (pl := pl) ?_ hev) (by unfold interactive; rw [show (ksEnv qual scope s.heap.objs.size fI (.ref cda) cc).scope.kind = .function from hk]; rfl))
  refine ks_wpAt_super_base hsu hcl (by decide) rfl (X₁ _ _ ho) rfl har rfl (X₁ _ _ hcda) rfl hvs hfile T.htop ?_
  refine ks_loadName_global hk hsu (loadGlobal_builtin (env := ksEnv qual scope s.heap.objs.size fI (.ref cda) cc) (G.keeps kp) hms (Gb.keeps kp) hbs ⟨rfl, ?_⟩)
  refine wpAny_loadName_free hk hcl rfl ⟨_, X₁ _ _ hcc, rfl⟩ ?_
  refine wpAny_loadName_local hk (by rw [hars]; exact hsN) hns (by rw [hars]; exact lk1) ?_
  refine ks_wpAny_isType_cls hD1 hD2 ⟨rfl, ?_⟩
  refine ks_wpAny_call_super hD1 hD2 hx₁ rfl (fun c e => nomatch e) (looks_mroIn X₁ T.mroC) (fun h₂ e₂ k₂ => ?_)
  have X₂ : K.In h₂ := X₁.keeps k₂
  have hsup := T.sup
  unfold ks_superIn at hsup
  rw [hcd2] at hsup
  have hx₂ := k₂ _ _ hx₁
  have hI : W.Looks (model prog w) h₂ (isInstance (.ref x) (.type B)) true := (show W.InstAt h₂ x (excO C t0) C none from ⟨hx₂, rfl, rfl, trivial⟩).type.andThen (looks_subIn X₂ T.subB)
  refine kxs_getMethod T.bx.kf e₂ (looks_opaque X₂ T.opq) (l₀ := cd.mro) (fun A Q E s k q => wpAny_bind ((looks_clsIn X₂ hcd2) A _ E s k (wpAny_pure q))) rfl X₂ hsup hI hxC (by decide) ?_
  refine kxs_callWith (i := i) (x := x) rfl ?_
  refine evalArgs_plain ?_
  show wpAny _ _ (spliced ((false, eval (.Constant (.str m) j p3) (ksEnv qual scope s.heap.objs.size fI (.ref cda) cc)) :: backTo p4 (starEach [] (ksEnv qual scope s.heap.objs.size fI (.ref cda) cc)))) _ _ _
  refine Calls.spliced_cons (wpAny_Constant_str ?_)
  refine Calls.spliced_nil ?_
  have k₃ : ∀ b o, h₂.get? b = some o → (h₂.push (kxs_mw i x)).get? b = some o := fun b o e => Heap.get?_push_of_some _ e
  refine ⟨Heap.get?_push_size _ rfl, ?_⟩
  refine call_mw T (X₂.keeps k₃) (k₃ _ _ hx₂) (Heap.get?_push_size _ rfl) (by show 1 ≤ sizeLine; rw [sizeLine_eq]; omega) fun h₄ t1 k₄ hx₄ => ?_
  have xL : s.heap.objs.size ≠ x := Nat.ne_of_gt xlt
  have k14 : ∀ b o, b ≠ x → h₁.get? b = some o → h₄.get? b = some o := fun b o hb e => k₄ b o hb (k₃ _ _ (k₂ _ _ e))
  have hn₄ : h₄.Ns s.heap.objs.size (fun y => ([(sN, Value.ref x), (vN, v)] : List (Str × Value)).reverse.lookup y) := hns.at fun o e => k14 _ o xL e
  have X₄ : K.In h₄ := fun b o e => k14 b o (fun z => by rw [z, hnx] at e; cases e) (X₁ b o e)
  refine ks_wpAt_execs_cons (ks_wpAt_Assign_Attr ?_)
  refine wpAt_of_wpAny ?_
  refine wpAny_Name (wpAny_loadName_local hk hvN hn₄ lk2 ?_) hd2
  refine wpAny_Name (wpAny_loadName_local hk hsN hn₄ lk1 ?_) hd1
  refine set_plain (od := none) X₄ ⟨hx₄, rfl, rfl, trivial⟩ T.sa ?_
  refine osa_sup T X₄ hx₄ fun h₅ tk dx k₅ dn dne hx₅ hn₅ => ?_
  refine wpAt_of_wpAny (wpAny_execs_nil ?_)
  exact hq h₅ tk dx ⟨fun b o hb e => k₅ b o hb (k14 b o hb (kp b o e)), ⟨t1, hx₅⟩, Nat.le_of_lt (Nat.lt_of_lt_of_le hn₄.lt dn), dne, hn₅⟩
/-- a made exception -/
structure OwnMade (h h' : Heap) (e C d : Addr) (f : Str) (v : Value) : Prop where
  keep : ∀ b o, h.get? b = some o → h'.get? b = some o
  new : h.objs.size ≤ e
  obj : ∃ oe vs, h'.get? e = some oe ∧ oe.cls = .ref C ∧ oe.dict = some d ∧ oe.data = .fields vs ∧ vs[1]? = some .none
  dbig : h.objs.size ≤ d
  dne : d ≠ e
  ns : h'.Ns1 d (fun y => if y = f then some v else none)
theorem sup_made (T : SupTxt prog K B i newId bmB C fI f) {v : Value} (X : K.In s.heap) (G : s.heap.Ns mainGlobals mg) (hms : mg "super" = none) (Gb : s.heap.Ns builtinsNs mb) (hbs : mb "super" = some (.type "super")) (hlim : s.heap.NoLimit)
    (hroom : A.depth + 1 < recursionLimit)
    (hq : ∀ h' tk e d, OwnMade s.heap h' e C d f v → R (.ok (.ret (.ref e))) { s with heap := h', toks := tk }) :
    codeAny (model prog w) A (.call (.ref C) ⟨[v], []⟩) R s := by
  obtain ⟨nm, N', qn, bs, bm, hdct, sn, sub, ab, col, dd, k0, k1, k2, k3, k5, hC, hT⟩ := excInit_of X T.cls
  obtain ⟨hp, g, dr, tk, os⟩ := s
  have k : ∀ b o, hp.get? b = some o → ((hp.push (kdv_tup [v])).push (excO C hp.objs.size)).get? b = some o := fun b o e => Heap.get?_push_of_some _ (Heap.get?_push_of_some _ e)
  have hget : ((hp.push (kdv_tup [v])).push (excO C hp.objs.size)).get? (hp.objs.size + 1) = some (excO C hp.objs.size) := by heap_get
  have hnx : K.lookup (hp.objs.size + 1) = none := by
    cases e : K.lookup (hp.objs.size + 1) with
    | none => rfl
    | some o =>
      have z : hp.get? (hp.objs.size + 1) = some o := X _ _ e
      exact absurd (Nat.lt_of_succ_lt (Heap.lt_size z)) (Nat.lt_irrefl _)
  refine callX T.bx.fb.ex.choose_spec hT hC (looks_findIn X T.iC) (fun self => bind_fn X self T.tC) (by show 1 ≤ sizeLine; rw [sizeLine_eq]; omega) ?_
  refine sup_init (mg := mg) (mb := mb) (s := ⟨(hp.push (kdv_tup [v])).push (excO C hp.objs.size), g, dr, tk, os⟩) T (X.keeps k) (G.keeps k) hms (Gb.keeps k) hbs (hlim.keeps k) hget hnx ?_ fun h' tk' dx ⟨k', hx, dn, dne, hns⟩ => ?_
  · show A.depth + 1 < recursionLimit
    exact hroom
  · have old : ∀ b o, hp.get? b = some o → h'.get? b = some o := fun b o e => k' b o (Nat.ne_of_lt (Nat.lt_succ_of_lt (Heap.lt_size e))) (k b o e)
    have z : hp.objs.size + 1 + 1 ≤ dx := by
      first
        | (simpa only [Heap.size_push] using dn)
        | exact dn
        | (have q := dn; rw [Heap.size_push, Heap.size_push] at q; exact q)
    obtain ⟨t1, hx⟩ := hx
    exact ⟨rfl, hq h' tk' (hp.objs.size + 1) dx ⟨old, Nat.le_succ _, ⟨_, _, hx, rfl, rfl, rfl, rfl⟩, Nat.le_trans (Nat.le_trans (Nat.le_succ _) (Nat.le_succ _)) z, dne, hns⟩⟩
end
end XS
namespace XS
open PySem PySem.Spec PyProof.Rows L2
theorem relO_one {v : V} {v' : Value} (r : RelV v v') (f g : Str) : RelO (List.lookup g [(f, v)]) (if g = f then some v' else none) := by
  by_cases hw : g = f
  · subst hw
    rw [if_pos rfl]
    have q : List.lookup g [(g, v)] = some v := by simp [List.lookup]
    rw [q]
    exact r
  · rw [if_neg hw]
    have qw : (g == f) = false := by simpa using hw
    have q2 : List.lookup g [(f, v)] = none := by simp [List.lookup, qw]
    rw [q2]
    trivial
section
variable {X : Cx} {C fI : Addr} {B i newId : String} {bmB : List Value} {f : Str}
/-- x(e) -/
def tMkS (C : Addr) (f : Str) (ta : TA) : L2.St → Hp → XK → Prop := fun σ H Q => ta σ H fun vs H1 => ∃ v, vs = [v] ∧ ∀ d, H1 d = none → Q (.ref C) (some d) (upd H1 d (.xd [(f, v)]))
theorem pmk_sup {x : Str} {a : Expr} {ta : TA} {p pos : Pos} {k : Nat} (T : SupTxt X.prog X.K B i newId bmB C fI f) (gC : X.mg x = some (.ref C)) (hms : X.mg "super" = none) (hr : Room k X.A) (ha : PA X [a] ta) (hg : Gl X x) (hdb : (x == ("__debug__" : Str)) = false := by decide)
    (he : starEach (a :: []) X.env = (false, eval a X.env) :: starEach [] X.env := by rfl) (hpl : (backTo pos (starEach [] X.env)).any (·.1) = false := by rfl) :
    PMk X (.Call (.Name x p) [a] [] pos) (tMkS C f ta) := by
  intro pins s σ H Q I h
  refine wpAny_Call_Name_kw (ld_glob I hg gC ?_ hdb)
  refine PySem.W.callWith_K (h₀ := X.base) I.ok.mod.kin T.kC (thn (ha.run pos pins s σ H _ I h) fun us s1 hh => ?_) he hpl
  obtain ⟨vs, H1, I1, r1, v, ev, q1⟩ := hh
  subst ev
  refine ⟨I1.kIn, ?_⟩
  cases r1 with
  | cons rv rn =>
    rename_i v' us'
    cases rn
    show wpAny _ _ (call (.ref C) [v']) _ _ _
    have hlim := I1.nolimit
    obtain ⟨mb, b1, b2⟩ := I1.mod.blt
    have G1 : s1.heap.Ns mainGlobals X.mg := I1.mod.glob.keeps I1.bk
    have Gb : s1.heap.Ns builtinsNs mb := b1.keeps I1.bk
    have hbs : mb "super" = some (.type "super") := (b2 "super" (by decide)).trans (by first | boot_by_name | rfl | kernel_rfl)
    obtain ⟨hp, g, dr, tk, os⟩ := s1
    refine wpAny_call (sup_made (s := ⟨hp, g, dr, tk, os⟩) T I1.kIn G1 hms Gb hbs hlim (by have := hr.dp; omega) fun h' tk' e d M => ?_)
    show MkP X pins σ Q (.ref e) ⟨h', g, dr, tk', os⟩
    obtain ⟨oe, fv, hoe, hc, hd, hdat, h1⟩ := M.obj
    have hns := M.ns
    obtain ⟨G', g1, g2⟩ := restrict h' fun b => decide (b ≠ e)
    have gk : ∀ b, b ≠ e → G'.get? b = h'.get? b := fun b hb => g1 b (decide_eq_true hb)
    have ge : G'.get? e = none := g2 e (by simp)
    have old : ∀ b o, hp.get? b = some o → G'.get? b = some o := fun b o q => (gk b (Nat.ne_of_lt (Nat.lt_of_lt_of_le (Heap.lt_size q) M.new))).trans (M.keep b o q)
    have ob : ObjOk X.prog X.w (upd H1 d (.xd [(f, v)])) G' d (.xd [(f, v)]) :=
      ⟨_, hns.at (fun o q => (gk d M.dne).trans q), fun g => relO_one rv f g⟩
    have J : Inv X pins σ (upd H1 d (.xd [(f, v)])) ⟨G', g, dr, tk', os⟩ := I1.laid (t' := tk') old M.dbig ob
    refine ⟨e, oe, fv, ⟨G', g, dr, tk', os⟩, _, .ref C, some d, rfl, J, fun b o q => ?_, ge, hoe, ⟨hc, hd⟩, hdat, h1, ?_, rfl, I1.bare, raises_own T.exC T.tyC, q1 d (I1.hok.fresh M.dbig)⟩
    · by_cases hb : b = e
      · have q' : G'.get? b = some o := q
        rw [hb, ge] at q'; cases q'
      · exact (gk b hb).symm.trans q
    · rw [upd_ne (Ne.symm M.dne)]
      exact I1.hok.fresh M.new
end
end XS

set_option Elab.async false
set_option maxRecDepth 100000
set_option maxHeartbeats 4000000
/-! XT: try with several except clauses, each with or without a name. -/
namespace XT
open PySem PySem.Spec PyProof.Rows L2
/-- a clause: the class, the slot of its name, what its suite makes -/
abbrev Cl := Value × Option Nat × (Addr → Value → Option Addr → TS)
def wMix (K : PySem.W.Frag) (Wout : WX) (D : Ends) : List Cl → WX
  | [] => Wout
  | (c, none, ts) :: r => fun cls d σ H => ∃ b, PySem.W.exmOne K cls c = some b ∧ (b = true → ∀ a, H a = none → ts a cls d D σ H) ∧ (b = false → wMix K Wout D r cls d σ H)
  | (c, some i, ts) :: r => fun cls d σ H => ∃ b, PySem.W.exmOne K cls c = some b ∧
      (b = true → ∀ a, H a = none → ts a cls d { nx := fun σ' H' => D.nx (σ'.set i none) H', rt := D.rt, bk := fun σ' H' => D.bk (σ'.set i none) H', ct := fun σ' H' => D.ct (σ'.set i none) H' } (σ.set i (some (.ref a))) H) ∧ (b = false → wMix K Wout D r cls d σ H)
inductive HdsMix (X : Cx) : List ExceptHandler → List Cl → Prop
  | nil : HdsMix X [] []
  | cons {x : Str} {c : Value} {ts : Addr → Value → Option Addr → TS} {b₀ : Stmt} {suite : List Stmt} {np pos' : Pos} {hds : List ExceptHandler} {l : List Cl} (hc : Names X x c)
      (hsu : ∀ (a : Addr) (oe : Obj) (cls : Value) (d : Option Addr) (pn : List (Addr × Obj)), Zc cls d oe → (∃ vs, oe.data = .fields vs) → PSs (X.suite a ((a, oe) :: pn)) (b₀ :: suite) (ts a cls d)) (r : HdsMix X hds l) :
      HdsMix X (.ExceptHandler (some (.Name x np)) none (b₀ :: suite) pos' :: hds) ((c, none, ts) :: l)
  | as {x n : Str} {c : Value} {i : Nat} {ts : Addr → Value → Option Addr → TS} {b₀ : Stmt} {suite : List Stmt} {np pos' : Pos} {hds : List ExceptHandler} {l : List Cl} (hc : Names X x c) (hN : X.N.Nodup) (hi : X.N[i]? = some n) (hln : X.env.kindOf n = some .local)
      (hsu : ∀ (a : Addr) (oe : Obj) (cls : Value) (d : Option Addr) (pn : List (Addr × Obj)), Zc cls d oe → (∃ vs, oe.data = .fields vs) → PSs (X.suite a ((a, oe) :: pn)) (b₀ :: suite) (ts a cls d)) (r : HdsMix X hds l) :
      HdsMix X (.ExceptHandler (some (.Name x np)) (some n) (b₀ :: suite) pos' :: hds) ((c, some i, ts) :: l)
section
variable {X : Cx} {body : List Stmt} {h₀ : ExceptHandler} {hds : List ExceptHandler} {l : List Cl} {pos : Pos} {tb : WX → TS} {Wout : WX}
theorem ps_try_mix (hs : X.stack = X.env :: X.outer) (hf : X.env.frame = some X.env.locals) (tk : Takes X Wout)
    (hb : ∀ (W : WX) (pn : List (Addr × Obj)) (xe : Value → Shared → Prop), Takes (X.tr pn xe) W → PassesOwn (model X.prog X.w) X.A X.env xe → PSs (X.tr pn xe) body (tb W))
    (hh : HdsMix X (h₀ :: hds) l) : PS X (.Try body (h₀ :: hds) [] [] pos) (fun D σ H => tb (wMix X.K Wout D l) D σ H) := by
  refine ⟨fun pins s σ H D I h => ?_⟩
  have ok := I.ok
  have hfr : X.A.frames = some (X.env :: X.outer) := by rw [ok.frames, hs]
  refine wpAny_Try_except ?_
  refine wpAny_mono ((hb (wMix X.K Wout D l) (X.pn ++ pins) (fun e s₁ => wpAny (model X.prog X.w) X.A (noteFrame e X.env) (fun _ s₂ => wpAny (model X.prog X.w) X.A (setFlight e none) (fun _ s₃ =>
    wpAny (model X.prog X.w) X.A (handleBy e X.env (h₀ :: hds)) (SP X pins D) X.xe s₃) X.xe s₂) X.xe s₁) (fun u s' xx => ?_) PassesOwn.looking).run [] s σ H D (I.toTry _) h) (fun f s1 hsp => ?_) (fun e s1 he => he)
  · obtain ⟨a, B, sI, pins', σ', H', cls, d, rfl, J', nb, up, sky, na, os, ag, w⟩ := xx
    have J : Inv X pins σ' H' sI := J'.ofTry ok
    have sky' : Sky B (X.env :: X.outer) a (Zc cls d) X.env.locals s'.heap := by rw [← hs]; exact sky
    show wpAny (model X.prog X.w) X.A (noteFrame (.ref a) X.env) _ _ _
    refine Sky.land Zc.steady hfr hf sky' fun h3 fl3 up3 => ?_
    have J3 : Inv X pins σ' H' { s' with heap := h3 } := J.landed nb fl3.1 (up.trans up3) os ag
    obtain ⟨oe3, vs3, he3, hz3, hd3⟩ := fl3.there
    have notFr : ∀ {h : Heap} {o : Obj} {vs : Array Value}, h.FunFrames B (X.env :: X.outer) → h.get? a = some o → o.data = .fields vs → a ∉ frs (X.env :: X.outer) := fun {h o vs} ff e dd hm => by
      obtain ⟨_, o', e', hnf⟩ := ff.mem hm
      rw [e] at e'; cases e'
      exact hnf _ dd
    have nfr := notFr fl3.2.2.1 he3 hd3
    have nL : a ≠ X.env.locals := fun z => nfr (List.mem_filterMap.mpr ⟨X.env, List.mem_cons_self, by rw [hf, z]⟩)
    have nF : a ∉ X.fs := fun hm => by
      obtain ⟨e, he, q⟩ := List.mem_filterMap.mp hm
      exact nfr (List.mem_filterMap.mpr ⟨e, List.mem_cons_of_mem _ he, q⟩)
    have S3 := J3.suite he3 hd3 na nL nF
    have test : ∀ {x : Str} {c : Value} {np : Pos}, Names X x c → ∀ {Q : Value → Shared → Prop} {E : Value → Shared → Prop}, Q c { s' with heap := h3 } → wpAny (model X.prog X.w) (X.A.mark (some (.ref a))) (eval (.Name x np) X.env) Q E { s' with heap := h3 } := fun {x c np} hc {Q E} q => by
      obtain ⟨hg, hdbg, hm | ⟨hm, hv, hnn⟩⟩ := hc
      · exact ld_glob (X := X.suite a ((a, oe3) :: (X.pn ++ pins))) S3 hg hm q hdbg
      · exact ld_blt (X := X.suite a ((a, oe3) :: (X.pn ++ pins))) S3 hg hm hv q hnn hdbg
    have LT : ∀ {c : Value}, PySem.W.Looks (model X.prog X.w) h3 (typeOf (.ref a)) cls := fun {c} A Q E s k q => wpAny_typeOf_ref (k _ _ he3) (by rw [hz3.1]; exact q)
    have go : ∀ {hds' : List ExceptHandler} {l' : List Cl}, HdsMix X hds' l' → wMix X.K Wout D l' cls d σ' H' →
        wpAny (model X.prog X.w) X.A (handleBy (.ref a) X.env hds') (SP X pins D) X.xe { s' with heap := h3 } := by
      intro hds' l' hk
      induction hk with
      | nil =>
        intro w
        refine wpAny_handleBy_nil ?_
        obtain ⟨k1, k2, k3, oe, vs, T, oT, ts', he, hz, hd, h1, hr⟩ := id fl3
        unfold PySem.passOn
        refine wpAny_bind (wpAny_field he hd h1 ?_)
        rw [if_neg (show ¬ ((Value.ref T == Value.none) = true) from by simp)]
        have fin : wpAny (model X.prog X.w) X.A (setFlight (.ref a) X.env.frame) (fun _ s4 => wpAny (model X.prog X.w) X.A (throw (.ref a) : Sem Flow) (SP X pins D) X.xe s4) X.xe { s' with heap := h3 } := by
          rw [hf]
          refine HandSPX.setFlight_upZ fl3 fun h4 hh4 up4 => wpAny_throw (tk _ _ ?_)
          exact ⟨a, B, sI, pins, σ', H', cls, d, rfl, J, nb, (up.trans up3).trans up4, .inr (.inr (by rw [hs]; exact hh4)), na, os, ag, w⟩
        first
          | exact wpAny_bind (wpAny_pure (wpAny_bind fin))
          | exact wpAny_bind fin
      | @cons x c ts b₀ suite np pos' hds2 l2 hc hsu r ih =>
        intro w
        obtain ⟨b, hb1, hyes, hno⟩ := w
        refine wpAny_handleBy_cons (codeAny_handlers_test ?_) (by intro q; cases q)
        have LM := PySem.W.exm_one (M := model X.prog X.w) (J3.kIn) (LT (c := c)) hb1
        refine test hc (LM.here ?_)
        cases b with
        | true =>
          refine codeAny_handlers_suite ?_
          refine HandSPX.lands_againZ fl3 fun h4 fl4 up4 => ?_
          have J4 : Inv X pins σ' H' { s' with heap := h4 } := J.landed nb fl4.1 ((up.trans up3).trans up4) os ag
          obtain ⟨oe4, vs4, he4, hz4, hd4⟩ := fl4.there
          have S4 := J4.suite he4 hd4 na nL nF
          refine wpAny_mono ((hsu a oe4 cls d (X.pn ++ pins) hz4 ⟨_, hd4⟩).run [] _ _ H' _ S4 (hyes rfl a na)) (fun f s6 hsp => ?_) (fun _ _ z => False.elim z)
          cases f with
          | next =>
            obtain ⟨σ6, H6, S6, q6⟩ := hsp
            exact ⟨_, _, S6.unsuite ok, q6⟩
          | brk =>
            obtain ⟨σ6, H6, S6, q6⟩ := hsp
            exact ⟨_, _, S6.unsuite ok, q6⟩
          | cont =>
            obtain ⟨σ6, H6, S6, q6⟩ := hsp
            exact ⟨_, _, S6.unsuite ok, q6⟩
          | ret u =>
            obtain ⟨v6, σ6, H6, S6, r6, q6⟩ := hsp
            exact ⟨_, _, _, S6.unsuite ok, r6, q6⟩
        | false =>
          show wpAny _ X.A (handleBy (.ref a) X.env hds2) _ _ _
          exact ih (hno rfl)
      | @as x n c i ts b₀ suite np pos' hds2 l2 hc hN hi hln hsu r ih =>
        intro w
        obtain ⟨b, hb1, hyes, hno⟩ := w
        have hloc : Loc X.env.scope n := .inl hln
        refine wpAny_handleBy_cons (codeAny_handlers_test ?_) (by intro q; cases q)
        have LM := PySem.W.exm_one (M := model X.prog X.w) (J3.kIn) (LT (c := c)) hb1
        refine test hc (LM.here ?_)
        cases b with
        | true =>
          refine codeAny_handlers_suite_as ?_
          refine HandSPX.lands_againZ fl3 fun h4 fl4 up4 => ?_
          have J4 : Inv X pins σ' H' { s' with heap := h4 } := J.landed nb fl4.1 ((up.trans up3).trans up4) os ag
          obtain ⟨oe4, vs4, he4, hz4, hd4⟩ := fl4.there
          have S4 := J4.suite he4 hd4 na nL nF
          refine store_ok (X := X.suite a ((a, oe4) :: (X.pn ++ pins))) (v := .ref a) S4 hN hi hloc rfl (fun s5 S5 => ?_) (.inr hln)
          refine wpAny_mono ((hsu a oe4 cls d (X.pn ++ pins) hz4 ⟨_, hd4⟩).run [] s5 _ H' _ S5 (hyes rfl a na)) (fun f s6 hsp => ?_) (fun _ _ z => False.elim z)
          have end_ : ∀ {σ6 : L2.St} {H6 : Hp} {Q : Shared → Prop}, Inv (X.suite a ((a, oe4) :: (X.pn ++ pins))) [] σ6 H6 s6 → (∀ s7, Inv X pins (σ6.set i none) H6 s7 → Q s7) →
              wpAny (model X.prog X.w) X.A (do bindName X.env n .none; unbindBehindTheSuite X.env n pos') (fun _ s7 => Q s7) X.xe s6 := fun {σ6 H6 Q} S6 hq => gone_ok (S6.unsuite ok) hN hi hln hq
          cases f with
          | next =>
            obtain ⟨σ6, H6, S6, q6⟩ := hsp
            exact end_ S6 fun s7 J7 => ⟨_, _, J7, q6⟩
          | brk =>
            obtain ⟨σ6, H6, S6, q6⟩ := hsp
            exact end_ S6 fun s7 J7 => ⟨_, _, J7, q6⟩
          | cont =>
            obtain ⟨σ6, H6, S6, q6⟩ := hsp
            exact end_ S6 fun s7 J7 => ⟨_, _, J7, q6⟩
          | ret u =>
            obtain ⟨v6, σ6, H6, S6, r6, q6⟩ := hsp
            exact end_ S6 fun s7 J7 => ⟨_, _, _, J7, r6, q6⟩
        | false =>
          show wpAny _ X.A (handleBy (.ref a) X.env hds2) _ _ _
          exact ih (hno rfl)
    exact go hh w
  · cases f with
    | next =>
      obtain ⟨σ', H', J', q⟩ := hsp
      exact wpAny_execs_nil ⟨σ', H', J'.ofTry ok, q⟩
    | brk =>
      obtain ⟨σ', H', J', q⟩ := hsp
      exact ⟨σ', H', J'.ofTry ok, q⟩
    | cont =>
      obtain ⟨σ', H', J', q⟩ := hsp
      exact ⟨σ', H', J'.ofTry ok, q⟩
    | ret u =>
      obtain ⟨v, σ', H', J', r, q⟩ := hsp
      exact ⟨v, σ', H', J'.ofTry ok, r, q⟩
end
end XT

set_option Elab.async false
set_option maxRecDepth 100000
set_option maxHeartbeats 4000000
/-! L3, part z: exceptions: raise, try, methods and new instances that may raise. -/
namespace L3
open PySem PySem.Spec PyProof.Rows L2
/-! ### a wider base -/
section
variable {K : PySem.W.Frag} {B : Base3} {pn pn0 : Pend} {F F0 H H0 : Hp} {σ σ0 : L2.St} {E E0 : Env3} {G G0 : Reg}
theorem St3.inB (S : St3 K B pn F H σ E G) : St3 K { B with F := F } pn F H σ E G :=
  ⟨S.w, Same.refl F, S.keepH, fun a o h ht n => n, S.regs, S.regk, S.len, S.slot, fun i s d h ho => by obtain ⟨a, e, f⟩ := S.own i s d h ho; exact ⟨a, e, f.nF, f.nB, f.nG, f.nP, f.ex⟩, S.ownd, S.pend, S.pnd, S.news⟩
theorem St3.ofB (S0 : St3 K B pn0 F0 H0 σ0 E0 G0) (S : St3 K { B with F := F0 } pn F H σ E G) : St3 K B pn F H σ E G ∧ Same F0 F :=
  ⟨⟨S.w, S0.keepF.trans S.keepF, S.keepH, fun a o h ht n => S.unfr a o h ht (S0.unfr a o h ht n), S.regs, S.regk, S.len, S.slot, fun i s d h ho => by obtain ⟨a, e, f⟩ := S.own i s d h ho; exact ⟨a, e, f.nF, f.nB, f.nG, f.nP, f.ex⟩, S.ownd, S.pend, S.pnd, S.news⟩, S.keepF⟩
end
/-! ### raise -/
/-- the class x of the text, without own __init__ -/
structure Own0 (K : PySem.W.Frag) (mg : Str → Option Value) (x : Str) : Prop where
  ex : ∃ (C : Addr) (B newId initId : String) (bmB : List Value), ClsN K x C ∧ mg x = some (.ref C) ∧ ExcBaseFacts B newId initId bmB ∧ PySem.W.excIn K C bmB newId = true ∧ PySem.W.keepIn K (.ref C) = true ∧
    PySem.W.subIn K (.ref C) (.type "BaseException") = some true ∧ PySem.W.typeIn K (.ref C) = some (.type "type")
/-- the class x of the text, whose __init__ keeps its argument as f -/
structure Own1 (prog : Program) (K : PySem.W.Frag) (mg : Str → Option Value) (x f : Str) : Prop where
  ex : ∃ (C fI : Addr) (B i newId : String) (bmB : List Value), ClsN K x C ∧ mg x = some (.ref C) ∧ mg "super" = none ∧ XS.SupTxt prog K B i newId bmB C fI f
def dRaise (dw : DW) (nm : Str) : DSt := fun _ E G => dw (nm, none) E G
def dRaise1 (dw : DW) (nm f : Str) (ta : DA) : DSt := fun _ E G => ta E G fun ds E1 G1 => ∃ d, ds = [d] ∧ dw (nm, some (f, d)) E1 G1
section
variable {X : Cx} {B : Base3}
theorem ls_raise {dw : DW} {x m : Str} {j : Nat} {p p2 pos pos2 : Pos} (hc : X.calm = true) (o : Own0 X.K X.mg x) (wk : WOk X B dw) (hg : Gl X x) (hdb : (x == ("__debug__" : Str)) = false := by decide) :
    LS X B (.Raise (some (.Call (.Name x p) [.Constant (.str m) j p2] [] pos)) none pos2) (dRaise dw x) := by
  obtain ⟨C, Bn, newId, initId, bmB, hC, gC, F, q, kC, e1, e2⟩ := o.ex
  obtain ⟨W, tk, hW⟩ := wk
  exact ⟨ps_imp (ps_raise hc tk (pmk_own F q gC kC (raises_own e1 e2) hg hdb)) fun D σ H ⟨pn, F, E, G, D3, S, h, ok⟩ => hW pn F H σ E G (x, none) (.ref C) none S ⟨⟨C, hC, rfl⟩, trivial⟩ h⟩
theorem ls_raise1 {dw : DW} {x f : Str} {a : Expr} {ta : DA} {k : Nat} {p pos pos2 : Pos} (hc : X.calm = true) (o : Own1 X.prog X.K X.mg x f) (hr : Room k X.A) (wk : WOk X B dw) (ha : LA X B [a] ta) (hg : Gl X x) (hdb : (x == ("__debug__" : Str)) = false := by decide)
    (he : starEach (a :: []) X.env = (false, eval a X.env) :: starEach [] X.env := by rfl) (hpl : (backTo pos (starEach [] X.env)).any (·.1) = false := by rfl) :
    LS X B (.Raise (some (.Call (.Name x p) [a] [] pos)) none pos2) (dRaise1 dw x f ta) := by
  obtain ⟨C, fI, Bn, i, newId, bmB, hC, gC, ms, T⟩ := o.ex
  obtain ⟨W, tk, hW⟩ := wk
  refine ⟨ps_imp (ps_raise hc tk (XS.pmk_sup (ta := LiftA X.K B ta) T gC ms hr ha.pa hg hdb he hpl)) fun D σ H ⟨pn, F, E, G, D3, S, h, ok⟩ => ?_⟩
  refine ⟨pn, F, E, G, _, S, h, fun ds E1 G1 ⟨d, e, h1⟩ vs F1 H1 S1 s1 r1 => ?_⟩
  subst e
  cases r1 with
  | @cons _ _ v _ r1 r2 =>
    cases r2
    refine ⟨v, rfl, fun dd hd => ?_⟩
    obtain ⟨S2, s2⟩ := S1.newF (o := .xd [(f, v)]) hd
    exact hW pn _ _ σ E1 G1 (x, some (f, d)) (.ref C) (some dd) S2 ⟨⟨C, hC, rfl⟩, dd, v, rfl, upd_same, Rep.mono s2 _ _ r1⟩ h1
end
end L3

set_option Elab.async false
set_option maxRecDepth 100000
set_option maxHeartbeats 4000000
/-! L3, part z2: try with except clauses; the field of a caught exception. -/
namespace L3
open PySem PySem.Spec PyProof.Rows L2
/-- a clause: the class's name, the slot of the clause's name, what its suite makes of the exception -/
abbrev Cl3 := Str × Option Nat × (Addr → Exc3 → DSt)
def hRd (em : List ((Str × Str) × Bool)) (out : DW) (D : Ends3) : List Cl3 → DW
  | [] => out
  | (c, none, ts) :: r => fun x E G => ∃ b, em.lookup (x.1, c) = some b ∧ if b = true then ∀ a, ts a x D E G else hRd em out D r x E G
  | (c, some i, ts) :: r => fun x E G => ∃ b, em.lookup (x.1, c) = some b ∧ if b = true then i < E.length ∧ ∀ a, ts a x { nx := fun E' G' => D.nx (E'.set i Sl3.no) G', rt := D.rt, bk := fun E' G' => D.bk (E'.set i Sl3.no) G', ct := fun E' G' => D.ct (E'.set i Sl3.no) G' } (E.set i (Sl3.val (.ref a))) G
      else hRd em out D r x E G
def dTry (em : List ((Str × Str) × Bool)) (out : DW) (tb : DW → DSt) (hs : List Cl3) : DSt := fun D E G => tb (hRd em out D hs) D E G
/-- which clause takes which class -/
def EmT (K : PySem.W.Frag) (em : List ((Str × Str) × Bool)) : Prop := ∀ n1 n2 b, em.lookup (n1, n2) = some b → ∀ C1 C2, ClsN K n1 C1 → ClsN K n2 C2 → PySem.W.exmOne K (.ref C1) (.ref C2) = some b
structure Em3 (K : PySem.W.Frag) (n1 n2 : Str) (b : Bool) : Prop where
  ex : ∃ C1 C2, ClsN K n1 C1 ∧ ClsN K n2 C2 ∧ PySem.W.exmOne K (.ref C1) (.ref C2) = some b
theorem emT_nil {K : PySem.W.Frag} : EmT K [] := fun _ _ _ h => by cases h
theorem emT_cons {K : PySem.W.Frag} {n1 n2 : Str} {b : Bool} {em : List ((Str × Str) × Bool)} (h : Em3 K n1 n2 b) (t : EmT K em) : EmT K (((n1, n2), b) :: em) := fun m1 m2 c hl D1 D2 h1 h2 => by
  by_cases q : (m1, m2) = (n1, n2)
  · cases q
    have : c = b := by simpa [List.lookup] using hl.symm
    subst this
    obtain ⟨C1, C2, g1, g2, e⟩ := h.ex
    cases h1.eq g1
    cases h2.eq g2
    exact e
  · rw [List.lookup_cons, show ((m1, m2) == (n1, n2)) = false from beq_eq_false_iff_ne.mpr q] at hl
    exact t _ _ _ hl _ _ h1 h2
/-- a name goes -/
theorem St3.dropSlot {K : PySem.W.Frag} {B : Base3} {pn : Pend} {F H : Hp} {σ : L2.St} {E : Env3} {G : Reg} (S : St3 K B pn F H σ E G) (i : Nat) : St3 K B pn F H (σ.set i none) (E.set i Sl3.no) G := by
  have S2 := S.forget i
  have go : ∀ {j : Nat} {s : Sl3}, s ≠ Sl3.no → (E.set i Sl3.no)[j]? = some s → (σ.set i none)[j]? = σ[j]? := fun {j s} hs h => by
    rcases set_look h with ⟨q, z⟩ | ⟨ne, z⟩
    · exact absurd z hs
    · exact List.getElem?_set_ne ne
  exact ⟨S2.w, S2.keepF, S2.keepH, S2.unfr, S2.regs, S2.regk, by rw [List.length_set, List.length_set]; exact S.len,
    fun j d h => by rw [go (s := Sl3.val d) (fun q => nomatch q) h]; exact S2.slot j d h, fun j s d h ho => by rw [go (s := s) (fun q => by subst q; cases ho) h]; exact S2.own j s d h ho,
    fun j k s t d e a h1 h2 o1 o2 h3 h4 => S2.ownd j k s t d e a h1 h2 o1 o2 (by rw [← go (s := s) (fun q => by subst q; cases o1) h1]; exact h3) (by rw [← go (s := t) (fun q => by subst q; cases o2) h2]; exact h4), S2.pend, S2.pnd,
    fun nm fs h => by rw [go (s := Sl3.new nm fs) (fun q => nomatch q) h]; exact S2.news nm fs h⟩
section
variable {X : Cx} {B : Base3}
/-- what a suite makes, among abstract heaps -/
def tsL (K : PySem.W.Frag) (B : Base3) (ts : Addr → Exc3 → DSt) : Addr → Value → Option Addr → TS := fun a cls d D σ H => ∃ pn F E G D3 x, St3 K B pn F H σ E G ∧ RepX K F x cls d ∧ ts a x D3 E G ∧ EndsOk K B F D3 D
theorem EndsOk.inB {K : PySem.W.Frag} {pn0 : Pend} {F H : Hp} {σ : L2.St} {E : Env3} {G : Reg} (S0 : St3 K B pn0 F H σ E G) {D3 : Ends3} {D : Ends} (h : EndsOk K B F D3 D) : EndsOk K { B with F := F } F D3 D :=
  ⟨fun E' G' q σ' F' H' S s => h.nx E' G' q σ' F' H' (S0.ofB S).1 s, fun r G' q v F' H' σ' E' S s rr => h.rt r G' q v F' H' σ' E' (S0.ofB S).1 s (by
      cases r with
      | val d => exact rr
      | fr ds => obtain ⟨a, e, f⟩ := rr; exact ⟨a, e, f.nF, f.nB, f.nG, f.nP, f.ex⟩
      | frD ds => obtain ⟨a, e, f⟩ := rr; exact ⟨a, e, f.nF, f.nB, f.nG, f.nP, f.ex⟩
      | sl i => exact rr),
    fun E' G' q σ' F' H' S s => h.bk E' G' q σ' F' H' (S0.ofB S).1 s, fun E' G' q σ' F' H' S s => h.ct E' G' q σ' F' H' (S0.ofB S).1 s⟩
/-- the clauses -/
inductive Hds3 (X : Cx) (B : Base3) : List ExceptHandler → List Cl3 → Prop
  | nil : Hds3 X B [] []
  | cons {x : Str} {ts : Addr → Exc3 → DSt} {b₀ : Stmt} {suite : List Stmt} {np pos' : Pos} {hds : List ExceptHandler} {l : List Cl3} (hc : ∃ C, ClsN X.K x C ∧ X.mg x = some (.ref C)) (hg : Gl X x) (hdb : (x == ("__debug__" : Str)) = false)
      (hsu : ∀ (a : Addr) (oe : Obj) (x : Exc3) (cls : Value) (d : Option Addr) (pn : List (Addr × Obj)) (B' : Base3), Zc cls d oe → (∃ vs, oe.data = .fields vs) → RepX X.K B'.F x cls d → LSs (X.suite a ((a, oe) :: pn)) B' (b₀ :: suite) (ts a x)) (r : Hds3 X B hds l) :
      Hds3 X B (.ExceptHandler (some (.Name x np)) none (b₀ :: suite) pos' :: hds) ((x, none, ts) :: l)
  | as {x n : Str} {i : Nat} {ts : Addr → Exc3 → DSt} {b₀ : Stmt} {suite : List Stmt} {np pos' : Pos} {hds : List ExceptHandler} {l : List Cl3} (hc : ∃ C, ClsN X.K x C ∧ X.mg x = some (.ref C)) (hg : Gl X x) (hdb : (x == ("__debug__" : Str)) = false)
      (hN : X.N.Nodup) (hi : X.N[i]? = some n) (hln : X.env.kindOf n = some .local)
      (hsu : ∀ (a : Addr) (oe : Obj) (x : Exc3) (cls : Value) (d : Option Addr) (pn : List (Addr × Obj)) (B' : Base3), Zc cls d oe → (∃ vs, oe.data = .fields vs) → RepX X.K B'.F x cls d → LSs (X.suite a ((a, oe) :: pn)) B' (b₀ :: suite) (ts a x)) (r : Hds3 X B hds l) :
      Hds3 X B (.ExceptHandler (some (.Name x np)) (some n) (b₀ :: suite) pos' :: hds) ((x, some i, ts) :: l)
/-- the clauses, as the hand layer's -/
inductive Cls3 (K : PySem.W.Frag) (B : Base3) : List Cl3 → List XT.Cl → Prop
  | nil : Cls3 K B [] []
  | cons {x : Str} {C : Addr} {o : Option Nat} {ts : Addr → Exc3 → DSt} {l : List Cl3} {m : List XT.Cl} : ClsN K x C → Cls3 K B l m → Cls3 K B ((x, o, ts) :: l) ((.ref C, o, tsL K B ts) :: m)
theorem Hds3.mix {hds : List ExceptHandler} {l : List Cl3} (h : Hds3 X B hds l) : ∃ m, XT.HdsMix X hds m ∧ Cls3 X.K B l m := by
  induction h with
  | nil => exact ⟨[], .nil, .nil⟩
  | @cons x ts b₀ suite np pos' hds l hc hg hdb hsu r ih =>
    obtain ⟨m, h1, h2⟩ := ih
    obtain ⟨C, hC, hm⟩ := hc
    refine ⟨(.ref C, none, tsL X.K B ts) :: m, .cons ⟨hg, hdb, .inl hm⟩ (fun a oe cls d pn hz hf => ?_) h1, .cons hC h2⟩
    refine ⟨fun pins s σ H D I ⟨pn', F, E, G, D3, x', S, hx, ht, ok⟩ => ?_⟩
    exact (hsu a oe x' cls d pn { B with F := F } hz hf hx).pss.run pins s σ H D I ⟨pn', F, E, G, D3, S.inB, ht, ok.inB S⟩
  | @as x n i ts b₀ suite np pos' hds l hc hg hdb hN hi hln hsu r ih =>
    obtain ⟨m, h1, h2⟩ := ih
    obtain ⟨C, hC, hm⟩ := hc
    refine ⟨(.ref C, some i, tsL X.K B ts) :: m, .as ⟨hg, hdb, .inl hm⟩ hN hi hln (fun a oe cls d pn hz hf => ?_) h1, .cons hC h2⟩
    refine ⟨fun pins s σ H D I ⟨pn', F, E, G, D3, x', S, hx, ht, ok⟩ => ?_⟩
    exact (hsu a oe x' cls d pn { B with F := F } hz hf hx).pss.run pins s σ H D I ⟨pn', F, E, G, D3, S.inB, ht, ok.inB S⟩
/-- an exception's reading, through the clauses -/
theorem hRd_ok {K : PySem.W.Frag} {em : List ((Str × Str) × Bool)} (hem : EmT K em) {out : DW} {Wout : WX} (hout : ∀ pn F H σ E G x cls dd, St3 K B pn F H σ E G → RepX K F x cls dd → out x E G → Wout cls dd σ H) {D3 : Ends3} {D : Ends} :
    ∀ {l : List Cl3} {m : List XT.Cl}, Cls3 K B l m → ∀ {pn : Pend} {F H : Hp} {σ : L2.St} {E : Env3} {G : Reg} {x : Exc3} {cls : Value} {dd : Option Addr}, St3 K B pn F H σ E G → RepX K F x cls dd → EndsOk K B F D3 D → hRd em out D3 l x E G → XT.wMix K Wout D m cls dd σ H
  | _, _, .nil, pn, F, H, σ, E, G, x, cls, dd, S, rx, ok, h => hout _ _ _ _ _ _ _ _ _ S rx h
  | _, _, .cons (o := none) (ts := ts) hC r, pn, F, H, σ, E, G, x, cls, dd, S, rx, ok, h => by
    obtain ⟨b, hl, h⟩ := h
    obtain ⟨⟨C1, hC1, rfl⟩, _⟩ := id rx
    refine ⟨b, hem _ _ _ hl _ _ hC1 hC, fun hb a _ => ?_, fun hb => ?_⟩
    · rw [if_pos hb] at h
      exact ⟨pn, F, E, G, D3, x, S, rx, h a, ok⟩
    · rw [if_neg (by rw [hb]; exact Bool.false_ne_true)] at h
      exact hRd_ok hem hout r S rx ok h
  | _, _, .cons (o := some i) (ts := ts) hC r, pn, F, H, σ, E, G, x, cls, dd, S, rx, ok, h => by
    obtain ⟨b, hl, h⟩ := h
    obtain ⟨⟨C1, hC1, rfl⟩, _⟩ := id rx
    refine ⟨b, hem _ _ _ hl _ _ hC1 hC, fun hb a _ => ?_, fun hb => ?_⟩
    · rw [if_pos hb] at h
      obtain ⟨hi, h⟩ := h
      have hi' : i < σ.length := by rw [← S.len]; exact hi
      refine ⟨pn, F, E.set i (.val (.ref a)), G, _, x, S.setVal hi' (.ref a), rx, h a, ⟨fun E' G' q σ' F' H' S' s => ?_, fun r G' q v F' H' σ' E' S' s rr => ok.rt r G' q v F' H' σ' E' S' s rr, fun E' G' q σ' F' H' S' s => ?_, fun E' G' q σ' F' H' S' s => ?_⟩⟩
      · exact ok.nx _ _ q _ _ _ (S'.dropSlot i) s
      · exact ok.bk _ _ q _ _ _ (S'.dropSlot i) s
      · exact ok.ct _ _ q _ _ _ (S'.dropSlot i) s
    · rw [if_neg (by rw [hb]; exact Bool.false_ne_true)] at h
      exact hRd_ok hem hout r S rx ok h
/-- THE RULE for a try with except clauses -/
theorem ls_try {em : List ((Str × Str) × Bool)} {out : DW} {tb : DW → DSt} {body : List Stmt} {h₀ : ExceptHandler} {hds : List ExceptHandler} {l : List Cl3} {pos : Pos} (hem : EmT X.K em) (hs : X.stack = X.env :: X.outer) (hf : X.env.frame = some X.env.locals) (wk : WOk X B out)
    (hb : ∀ (B' : Base3) (pn : List (Addr × Obj)) (xe : Value → Shared → Prop) (dw : DW), PassesOwn (model X.prog X.w) X.A X.env xe → WOk (X.tr pn xe) B' dw → LSs (X.tr pn xe) B' body (tb dw)) (hh : Hds3 X B (h₀ :: hds) l) :
    LS X B (.Try body (h₀ :: hds) [] [] pos) (dTry em out tb l) := by
  obtain ⟨W, tk, hW⟩ := wk
  obtain ⟨m, hm1, hm2⟩ := hh.mix
  refine ⟨ps_imp (XT.ps_try_mix hs hf tk (tb := fun W D σ H => ∃ pn F E G D3 dw, St3 X.K B pn F H σ E G ∧ tb dw D3 E G ∧ EndsOk X.K B F D3 D ∧ (∀ pn' F' H' σ' E' G' x cls dd, St3 X.K { B with F := F } pn' F' H' σ' E' G' → RepX X.K F' x cls dd → dw x E' G' → W cls dd σ' H')) (fun W pn xe tk' hp => ?_) hm1) fun D σ H ⟨pn, F, E, G, D3, S, h, ok⟩ => ?_⟩
  · refine ⟨fun pins s σ H D I ⟨pn', F, E, G, D3, dw, S, ht, ok, hw⟩ => ?_⟩
    exact (hb { B with F := F } pn xe dw hp ⟨W, tk', hw⟩).pss.run pins s σ H D I ⟨pn', F, E, G, D3, S.inB, ht, ok.inB S⟩
  · refine ⟨pn, F, E, G, D3, _, S, h, ok, fun pn' F' H' σ' E' G' x cls dd S' rx hx => ?_⟩
    obtain ⟨S'', s⟩ := S.ofB S'
    exact hRd_ok hem hW hm2 S'' rx (ok.mono s) hx
/-- the field of the caught exception -/
def dXf (xt : List (Str × Str)) (a : Addr) (x : Exc3) (f : Str) (te : DE) : DE := fun E G k => (x.1, f) ∈ xt ∧ te E G fun r E1 G1 => r.get E1 = some (.ref a) ∧ ∃ d, x.2 = some (f, d) ∧ k (.val d) E1 G1
def XfT (K : PySem.W.Frag) (xt : List (Str × Str)) : Prop := ∀ p ∈ xt, ∀ C, ClsN K p.1 C → XfC K C ∧ PySem.W.findIn K (.ref C) p.2 = some none
structure Xf3 (K : PySem.W.Frag) (n f : Str) : Prop where
  ex : ∃ C, ClsN K n C ∧ XfC K C ∧ PySem.W.findIn K (.ref C) f = some none
theorem xfT_nil {K : PySem.W.Frag} : XfT K [] := fun _ h => by cases h
theorem xfT_cons {K : PySem.W.Frag} {n f : Str} {xt : List (Str × Str)} (h : Xf3 K n f) (t : XfT K xt) : XfT K ((n, f) :: xt) := fun p hp C hC => by
  rcases List.mem_cons.mp hp with e | hp
  · subst e
    obtain ⟨C1, g1, g2⟩ := h.ex
    cases hC.eq g1
    exact g2
  · exact t p hp C hC
theorem le_xf {xt : List (Str × Str)} (hxt : XfT X.K xt) {a : Addr} {oe : Obj} {x : Exc3} {cls : Value} {d : Option Addr} {pn : List (Addr × Obj)} {e : Expr} {te : DE} {f : Str} {pos : Pos} (hz : Zc cls d oe) (hf : ∃ vs, oe.data = .fields vs) (hx : RepX X.K B.F x cls d)
    (he : LE (X.suite a ((a, oe) :: pn)) B e te) (hb : attributeBase e f X.env (eval e X.env) = eval e X.env := by rfl) :
    LE (X.suite a ((a, oe) :: pn)) B (.Attribute e f pos) (dXf xt a x f te) := by
  obtain ⟨⟨C, hC, rfl⟩, h2⟩ := hx
  by_cases hm : (x.1, f) ∈ xt
  · obtain ⟨T, hno⟩ := hxt _ hm C hC
    refine ⟨pe_imp (pe_xf T hno hz hf he.pe hb) fun σ H Q ⟨pn', F, E, G, k, S, ⟨_, ht⟩, hk⟩ => ⟨pn', F, E, G, _, S, ht, fun r E1 G1 ⟨h1, dd, h3, h4⟩ v F1 H1 S1 s1 r1 => ?_⟩⟩
    rw [h3] at h2
    obtain ⟨b, u, e1, e2, e3⟩ := h2
    have rv : RepH X.K F1 H1 (.ref a) v := S1.getH r1 h1
    have rv2 := rv.val (fun _ q => nomatch q)
    cases rv2
    refine ⟨rfl, rfl, b, _, u, e1, S1.w.sub _ _ (S1.keepF _ _ e2), ?_, hk _ _ _ h4 u F1 H1 S1 s1 (Rep.mono S1.keepF _ _ e3)⟩
    simp [List.lookup]
  · exact ⟨pe_imp (t := fun _ _ _ => False) ⟨fun _ _ _ _ _ _ z => z.elim⟩ fun σ H Q ⟨pn', F, E, G, k, S, ⟨z, _⟩, hk⟩ => hm z⟩
end
end L3

set_option Elab.async false
set_option maxRecDepth 100000
set_option maxHeartbeats 4000000
/-! XL: a lambda handed to a def, its table told outright: the heap behind the making is the one ahead of it, or that with one more code object. -/
namespace XL
open PySem PySem.Spec PyProof.Rows L2 LamX
/-- the heap behind the making; c': the lambda's code object -/
inductive Grown (H : Hp) (P : Addr) (q : Str) (ps : Array Value) (c' : Addr) : Hp → Prop
  | same : H c' = some (CodeO c' q) → Grown H P q ps c' H
  | more {ms : Array Value} : H c' = none → TriplesOk (ps ++ ms).toList → (∀ (pos : Pos) (cv : Value), codeAmong pos (ps ++ ms).toList = some cv → codeAmong pos ps.toList = some cv ∨ cv = .ref c') → Grown H P q ps c' (upd (upd H P (.tbl (ps ++ ms))) c' (CodeO c' q))
theorem Grown.code {H H1 : Hp} {P c' : Addr} {q : Str} {ps : Array Value} (g : Grown H P q ps c' H1) : H1 c' = some (CodeO c' q) := by
  cases g with
  | same h => exact h
  | more _ _ _ => exact upd_same
section
variable {X : Cx} {pins : List (Addr × Obj)} {σ : L2.St} {H : Hp} {s : Shared}
end
section
variable {X : Cx}
end
end XL

set_option Elab.async false
set_option maxRecDepth 100000
set_option maxHeartbeats 4000000
/-! XG: promises of defs that are called where no repr is under way (A.guards = []); the end of a law's row over such a promise, with tables of code objects. -/
namespace XG
open PySem PySem.Spec PyProof.Rows L2 LamX
/-- FnOk, where no repr is under way -/
structure FnG (P : Program) (w : World) (K : PySem.W.Frag) (mg : Str → Option Value) (base : Heap) (CX : CXT) (k : Nat) (f : Addr) (fd : FuncData) (ps : List Str) (sp : Sp) : Prop where
  len : ∀ vs H Q E, sp vs H Q E → vs.length = ps.length
  run : ∀ (A : Around) (outer : List Env) (s : Shared) (H : Hp) (args : Args) (us : List Value) (vs : List V) (Q : VK) (E : XK), A.guards = some [] → Room k A → Env0 P w K mg base A outer s H → BindsTo s fd args (ps.zip us) → Vals vs us → sp vs H Q E →
    codeAny (model P w) A (.call (.ref f) args) (CR CX outer P w H s Q E) s
theorem FnG.of {P : Program} {w : World} {K : PySem.W.Frag} {mg : Str → Option Value} {base : Heap} {CX : CXT} {k : Nat} {f : Addr} {fd : FuncData} {ps : List Str} {sp : Sp} (F : FnOk P w K mg base CX k f fd ps sp) : FnG P w K mg base CX k f fd ps sp :=
  ⟨F.len, fun A outer s H args us vs Q E _ hr e0 hb r h => F.run A outer s H args us vs Q E hr e0 hb r h⟩
section
variable {X : Cx} {CX : CXT} {k : Nat} {f : Addr} {fd : FuncData} {ps : List Str} {sp : Sp} {E : L2.St → XK} {x : Str} {p pos : Pos} {e : Expr} {es : List Expr} {t : TA}
/-- its call -/
theorem pe_callG (F : FnG X.prog X.w X.K X.mg X.base CX k f fd ps sp) (hgd : X.A.guards = some []) (hr : Room k X.A) (hg : Gl X x) (hm : X.mg x = some (.ref f)) (hk : PySem.W.keepIn X.K (.ref f) = true) (hb : Binds X.K fd ps []) (hx : ∀ σ, PassesAt CX X σ (E σ))
    (ha : PA X (e :: es) t) (hdb : (x == ("__debug__" : Str)) = false := by decide) (he : starEach (e :: es) X.env = (false, eval e X.env) :: starEach es X.env := by rfl) (hpl : (backTo pos (starEach es X.env)).any (·.1) = false := by rfl) :
    PE X (.Call (.Name x p) (e :: es) [] pos) (tCallS sp E t) := by
  refine ⟨fun pins s σ H Q I h => wpAny_Call_Name_kw (ld_glob I hg hm (PySem.W.callWith_K (h₀ := X.base) I.ok.mod.kin hk (thn (ha.run pos pins s σ H _ I h) fun us s1 ⟨vs, H1, J, r, q⟩ => ⟨J.kIn, ?_⟩) he hpl) hdb)⟩
  have lu : us.length = ps.length := r.length.symm.trans (F.len _ _ _ _ q)
  have b := hb s1 us J.kIn (by rw [List.append_nil]; exact lu)
  rw [List.append_nil] at b
  refine wpAny_call (codeAny_mono (F.run X.A X.stack s1 H1 ⟨us, []⟩ us vs Q (E σ) hgd hr J.env0 b r q) fun res s2 hq => ?_)
  rcases res with err | (_ | _ | _ | u)
  · exact hx σ pins H1 s1 err s2 J hq
  · exact False.elim hq
  · exact False.elim hq
  · exact False.elim hq
  · exact J.after hq
end
/-! ### the end -/
/-- what the law's call begins with: its script, the tables of code objects -/
def H₀ (K : PySem.W.Frag) (a : Addr) (vs : List Value) (ns : List Int) (ts : List Addr) : Hp := fun b =>
  if b ∈ ts then some (.tbl #[]) else if b = a ∧ K.lookup a = none then some (.frz { cls := .type "list", data := .seq vs.toArray } (.lst (ns.map V.int))) else none
section
variable {P : Program} {w : World} {K : PySem.W.Frag} {mg mb : Str → Option Value} {CX : CXT} {k : Nat} {fa a : Addr} {cs : List (Addr × Addr)} {fd : FuncData} {x : Str} {sp : Sp} {s₁ : Shared} {vs : List Value} {ns : List Int}
theorem law_end (KX : K.In s₁.heap) (hns : s₁.heap.Ns mainGlobals mg) (hb : s₁.heap.Ns builtinsNs mb) (hbb : ∀ x : Str, x ≠ "__name__" → mb x = bootBuiltins x) (hlim : s₁.heap.NoLimit) (hg : s₁.gens = #[])
    (hT : ∀ p ∈ cs, s₁.heap.get? p.2 = some { cls := .none, data := .fields #[] }) (nT : ∀ p ∈ cs, K.lookup p.2 = none) (C : ∀ p ∈ cs, PySem.W.CodeHd s₁.heap p.1 p.2)
    (hbm : ∃ (bm : Addr) (ob : Obj), mg "__builtins__" = some (.ref bm) ∧ bm ≠ builtinsNs ∧ s₁.heap.get? bm = some ob ∧ ob.cls = .type "module" ∧ ob.dict = some builtinsNs ∧ ob.data = .plain)
    (ha : s₁.heap.get? a = some { cls := .type "list", data := .seq vs.toArray }) (hi : IntsAre vs ns) (hl : ns.length ≤ sizeLine) (hr : Room k callerA)
    (F : ∀ base : Heap, K.In base → base.Ns mainGlobals mg → (∀ p ∈ cs, TabB base mg p.1 p.2) → FnG P w K mg base CX k fa fd [x] sp) (hbind : ∀ (s : Shared) (u : Value), BindsTo s fd ⟨[u], []⟩ [(x, u)])
    (hsp : ∀ H : Hp, (∀ p ∈ cs, H p.2 = some (.tbl #[])) → SqL K H a (ns.map V.int) → sp [.ref a] H (fun v _ => v = .bl true) fun _ _ _ => False)
    (hCX : ∀ H e s', CX [] H s₁ (fun _ _ _ => False) e s' → False) :
    codeAny (model P w) callerA (.call (.ref fa) ⟨[.ref a], []⟩) (fun r s' => r = .ok (.ret (.bool true)) ∧ OldK s₁.heap s'.heap ∧ s'.os = s₁.os ∧ AllBare s'.gens) s₁ := by
  have mem : ∀ {p}, p ∈ cs → p.2 ∈ cs.map (·.2) := fun hp => List.mem_map.mpr ⟨_, hp, rfl⟩
  have tab : ∀ b, b ∈ cs.map (·.2) → s₁.heap.get? b = some { cls := .none, data := .fields #[] } := fun b hb => by
    obtain ⟨p, hp, e⟩ := List.mem_map.mp hb
    exact e ▸ hT p hp
  have na : a ∉ cs.map (·.2) := fun z => by
    have q := ha.symm.trans (tab a z)
    exact nomatch (congrArg Obj.data (Option.some.inj q) : Data.seq vs.toArray _ = Data.fields #[])
  have len : (ns.map V.int).length ≤ sizeLine := by rw [List.length_map]; exact hl
  have rv := vals_ints hi
  -- the three ways of H₀
  have way : ∀ b, (b ∈ cs.map (·.2) ∧ H₀ K a vs ns (cs.map (·.2)) b = some (.tbl #[])) ∨ (b = a ∧ K.lookup a = none ∧ H₀ K a vs ns (cs.map (·.2)) b = some (.frz { cls := .type "list", data := .seq vs.toArray } (.lst (ns.map V.int)))) ∨ (b ∉ cs.map (·.2) ∧ H₀ K a vs ns (cs.map (·.2)) b = none) := fun b => by
    unfold H₀
    by_cases h1 : b ∈ cs.map (·.2)
    · exact .inl ⟨h1, if_pos h1⟩
    · by_cases h2 : b = a ∧ K.lookup a = none
      · exact .inr (.inl ⟨h2.1, h2.2, by rw [if_neg h1, if_pos h2]⟩)
      · exact .inr (.inr ⟨h1, by rw [if_neg h1, if_neg h2]⟩)
  generalize hH : H₀ K a vs ns (cs.map (·.2)) = H at way
  have atT : ∀ p ∈ cs, H p.2 = some (.tbl #[]) := fun p hp => by
    rcases way p.2 with ⟨_, h⟩ | ⟨e, _, _⟩ | ⟨h, _⟩
    · exact h
    · exact absurd (e ▸ mem hp) na
    · exact absurd (mem hp) h
  -- what is neither a list nor an empty record is not tracked
  have free : ∀ {b : Addr} {o : Obj}, s₁.heap.get? b = some o → (∀ vs n, o.data ≠ .seq vs n) → o.data ≠ .fields #[] → H b = none := fun {b o} e h1 h2 => by
    rcases way b with ⟨hb, _⟩ | ⟨hb, _, _⟩ | ⟨_, h⟩
    · have := e.symm.trans (tab b hb)
      cases this
      exact (h2 rfl).elim
    · rw [hb, ha] at e
      cases e
      exact (h1 _ _ rfl).elim
    · exact h
  have stay : ∀ {b : Addr} {o : Obj}, s₁.heap.get? b = some o → H b = none → (hidT s₁.heap H).get? b = some o := fun e n => hidT_get e n
  have nsB : ∀ {b : Addr} {m : Str → Option Value}, s₁.heap.Ns b m → (hidT s₁.heap H).Ns b m := fun {b m} ⟨o, es, ep, e, d, r⟩ =>
    ⟨o, es, ep, stay e (free e (fun _ _ z => nomatch d.symm.trans z) fun z => nomatch d.symm.trans z), d, r⟩
  have kB : K.In (hidT s₁.heap H) := fun b o e => stay (KX b o e) (by
    rcases way b with ⟨hb, _⟩ | ⟨hb, hk, _⟩ | ⟨_, h⟩
    · obtain ⟨p, hp, ep⟩ := List.mem_map.mp hb
      have z := nT p hp
      rw [ep, e] at z
      cases z
    · rw [hb, hk] at e
      cases e
    · exact h)
  have hok : HOk P w H s₁.heap := fun b u e => by
    rcases way b with ⟨hb, h⟩ | ⟨hb, _, h⟩ | ⟨_, h⟩
    · rw [h] at e
      cases e
      exact tab b hb
    · rw [h] at e
      cases e
      rw [hb]
      exact ⟨ha, len, vs, _, rv, ha⟩
    · rw [h] at e
      cases e
  have script : SqL K H a (ns.map V.int) := by
    rcases way a with ⟨hb, _⟩ | ⟨_, _, h⟩ | ⟨hb, h⟩
    · exact absurd hb na
    · exact .inl (.inr ⟨_, h⟩)
    · cases hk : K.lookup a with
      | none =>
        rw [← hH] at h
        unfold H₀ at h
        rw [if_neg hb, if_pos ⟨rfl, hk⟩] at h
        cases h
      | some o =>
        have e := (KX a o hk).symm.trans ha
        cases e
        exact .inr ⟨_, vs.toArray, _, hk, rfl, rfl, rfl, by rw [List.size_toArray, hi.length]; exact hl, by simpa using rv⟩
  have M : L2.Mod K mg (hidT s₁.heap H) := ⟨kB, nsB hns, ⟨mb, nsB hb, hbb⟩, let ⟨mc, h1, h2⟩ := hlim; ⟨mc, nsB h1, h2⟩⟩
  have TB : ∀ p ∈ cs, TabB (hidT s₁.heap H) mg p.1 p.2 := fun p hp => by
    obtain ⟨o, es, ep, eG, dG, _⟩ := id hns
    refine ⟨?_, ?_, fun z => by rw [z, hT p hp] at eG; cases eG; cases dG⟩
    · obtain ⟨o, us, file, tf, flags, tg, inF, text, tt, e1, r1, r2, r3, rest⟩ := C p hp
      exact ⟨o, us, file, tf, flags, tg, inF, text, tt, stay e1 (free e1 (fun _ _ z => nomatch r2.symm.trans z) fun z => by rw [r2] at z; cases z; simp at r3), r1, r2, r3, rest⟩
    · obtain ⟨bm, ob, b1, b2, b3, b4, b5, b6⟩ := hbm
      refine ⟨bm, ob, b1, b2, fun q => ?_, fun q => ?_, stay b3 (free b3 (fun _ _ z => nomatch b6.symm.trans z) fun z => nomatch b6.symm.trans z), b4, b5, b6⟩
      · rw [q, eG] at b3
        cases b3
        exact nomatch dG.symm.trans b6
      · rw [q, hT p hp] at b3
        cases b3
        cases b6
  have e0 : Env0 P w K mg (hidT s₁.heap H) callerA [] s₁ H := ⟨rfl, M, fun b o e => of_hidT e, Nat.le_of_eq (hidT_size _ _), trivial, fun b hb => absurd (show b ∈ ([] : List Addr) from hb) (by simp), hok, .of_eq hg⟩
  refine codeAny_mono ((F _ kB (nsB hns) TB).run callerA [] s₁ H ⟨[.ref a], []⟩ [.ref a] [.ref a] _ _ rfl hr e0 (hbind s₁ (.ref a)) (.cons rfl .nil) (hsp H atT script)) fun res s' h => ?_
  rcases res with err | (_ | _ | _ | u)
  · exact (hCX H err s' h).elim
  · exact False.elim h
  · exact False.elim h
  · exact False.elim h
  obtain ⟨v, H', os, bare, un, hok', r', q⟩ := h
  obtain rfl : v = .bl true := q
  obtain rfl : u = Value.bool true := r'
  have kept : ∀ b o, b ∉ cs.map (·.2) → s₁.heap.get? b = some o → s'.heap.get? b = some o := fun b o nb e => by
    rcases way b with ⟨hb, _⟩ | ⟨_, _, h⟩ | ⟨_, h⟩
    · exact absurd hb nb
    · have e1 := (hok b _ h).1
      have e2 := (hok' b _ (un.frzs b _ _ h)).1
      exact (Option.some.inj (e.symm.trans e1)) ▸ e2
    · exact un.keep b o e h (by intro z; exact absurd (show b ∈ ([] : List Addr) from z) (by simp)) (by simp)
  have grown : ∀ p ∈ cs, ∃ more : Array Value, s'.heap.get? p.2 = some { cls := .none, data := .fields more } := fun p hp => by
    obtain ⟨more, z⟩ := un.tbls p.2 #[] (atT p hp)
    exact ⟨_, hok' p.2 _ z⟩
  refine ⟨rfl, ⟨fun b o e => ?_, fun b o e => ?_⟩, os, bare⟩
  · by_cases hb : b ∈ cs.map (·.2)
    · obtain ⟨p, hp, rfl⟩ := List.mem_map.mp hb
      obtain ⟨more, hm⟩ := grown p hp
      cases e.symm.trans (hT p hp)
      exact .inr (.inl ⟨((C p hp).tab (hT p hp)).isCodeTable, rfl, #[], more, rfl, by rw [Array.empty_append]; exact hm⟩)
    · exact .inl (kept b o hb e)
  · by_cases hb : b ∈ cs.map (·.2)
    · obtain ⟨p, hp, rfl⟩ := List.mem_map.mp hb
      obtain ⟨more, hm⟩ := grown p hp
      exact ⟨_, hm⟩
    · exact ⟨o, kept b o hb e⟩
end
end XG

set_option Elab.async false
set_option maxRecDepth 100000
set_option maxHeartbeats 4000000
/-! L3, part g2: defs called where no repr is under way; repr of nested data; exceptions' words; lambdas. -/
namespace L3
open PySem PySem.Spec PyProof.Rows L2
/-! ### repr of nested data -/
def rReprG (K : PySem.W.Frag) : List V → Hp → VK → Prop := fun xs H Q => (∃ v d, xs = [v] ∧ Dp K H v d ∧ d.depth ≤ 64 ∧ d.showable = true ∧ d.hasDict = false ∧ d.shown.length ≤ sizeLine ∧ Q (.str d.shown) H) ∨ ∃ a, xs = [.ref a] ∧ Rd H a (.dK []) ∧ Q (.str "{}") H
section
variable {X : Cx} {B : Base3}
theorem call_reprG (hgd : X.A.guards = some []) (hu : X.A.units + 200 < cLine) : CallR X (.builtin "repr") (rReprG X.K) := by
  intro pins s σ H xs us Q I r h
  rcases h with ⟨v, d, e, hd, hdep, hs, hno, hz, q⟩ | ⟨a, e, hr, q⟩
  rotate_left
  · subst e
    obtain ⟨u, rfl, ru⟩ := vals1 r
    obtain rfl : u = Value.ref a := ru
    obtain ⟨_, hsys, vs, hkv, o, es, ep, e1, e2, e3, _, e4, _⟩ := hr.ok I.hok
    cases hkv
    have e5 : es.toList = [] := List.length_eq_zero_iff.mp e4.length
    have rd : Reads s.heap (.ref a) (.dict []) ([a] ++ []) := .dict (as := []) (bs := []) (kvs := []) e1 e2.1 e3 (by rw [e5]; exact .nil) (by rw [e5]; exact .nil)
    have hsh : (PyData.dict []).shown = "{}" := by decide +kernel
    exact repr_of_reads' rd rfl (fun _ hm => by
      rw [List.append_nil, List.mem_singleton] at hm
      rw [hm] at hsys
      rw [beq_self_eq_true] at hsys
      cases hsys) hgd (by simp only [PyData.depth, PyData.depthKv]; omega) (fun _ _ e => e) (fun h' u' tk k => ⟨.str "{}", H, I.kept k, ⟨_, by rw [hsh]⟩, q⟩) (by rw [hsh, sizeLine_eq]; decide +kernel)
  subst e
  obtain ⟨u, rfl, ru⟩ := vals1 r
  obtain ⟨as, rd⟩ := Dp.reads I d v u hd ru
  have fin : ∀ h' u' tk, (∀ b o, s.heap.get? b = some o → h'.get? b = some o) → EP X pins σ Q (.str d.shown u') { s with heap := h', toks := tk } := fun h' u' tk k => ⟨.str d.shown, H, I.kept k, ⟨_, rfl⟩, q⟩
  cases rd with
  | none => exact PySem.P.repr_of_none ⟨.str _, H, I.tok _, ⟨_, rfl⟩, q⟩
  | bool b => exact PySem.P.repr_of_bool ⟨.str _, H, I.tok _, ⟨_, rfl⟩, q⟩
  | int i t => exact PySem.P.repr_of_int (of_decide_eq_true hs) ⟨.str _, H, I.tok _, ⟨_, rfl⟩, q⟩
  | str x t => exact PySem.P.repr_of_str ⟨.str _, H, I.tok _, ⟨_, rfl⟩, q⟩ hz
  | list h1 h2 h3 h4 => exact repr_of_reads' (.list h1 h2 h3 h4) hs (PyData.noDict_hsm hno) hgd (by omega) (fun _ _ e => e) fin hz
  | tuple h1 h2 h3 h4 => exact repr_of_reads' (.tuple h1 h2 h3 h4) hs (PyData.noDict_hsm hno) hgd (by omega) (fun _ _ e => e) fin hz
  | dict h1 h2 h3 h4 h5 => cases hno
/-- repr of plain data -/
def isE : D → Bool
  | .dcK [] [] => true
  | _ => false
/-- the text of a value -/
def rpr (d : D) : Option Str := if isE d then some "{}" else if d.shC && d.py.showable && Nat.ble d.py.shown.length 100000 then some d.py.shown else none
def bReprG : Reg → List D → (Res → Prop) → Prop := fun _ ds k => match ds with
  | [d] => ∃ s, rpr d = some s ∧ k (.val (.str s))
  | _ => False
theorem isE_of {d : D} (h : isE d = true) : d = .dcK [] [] := by
  unfold isE at h
  split at h
  · rfl
  · cases h
theorem rpr_reads {K : PySem.W.Frag} {F H : Hp} {d : D} {v : V} {x : Str} {Q : VK} (sub : Same F H) (h : rpr d = some x) (rx : RepH K F H d v) (hq : Q (.str x) H) : rReprG K [v] H Q := by
  unfold rpr at h
  split at h
  · rename_i he
    rw [isE_of he] at rx
    obtain ⟨a, ob, xs, rfl, h1, h2, h3⟩ := rx.dck sub
    cases h3
    cases Option.some.inj h
    exact .inr ⟨_, rfl, .inr ⟨ob, h1⟩, hq⟩
  · split at h
    · rename_i h1
      rw [Bool.and_eq_true, Bool.and_eq_true] at h1
      obtain ⟨d1, d2⟩ := sh_H sub (shC_of h1.1.1) rx
      cases Option.some.inj h
      exact .inl ⟨v, _, rfl, d1, SeqAt.depth_of_shaped d2, h1.1.2, PyData.hasDict_of_canLay _ (SeqAt.canLay_of_shaped d2), Nat.le_trans (Nat.le_of_ble_eq_true h1.2) (by rw [sizeLine_eq]; decide), hq⟩
    · cases h
theorem le_reprG {j : Nat} {e : Expr} {ta : DA} {p pos : Pos} (hgd : X.A.guards = some []) (hr : Room j X.A) (hg : Gl X "repr") (hm : X.mg "repr" = none) (ha : LP X B [e] ta) (he : starEach [e] X.env = (false, eval e X.env) :: starEach [] X.env := by rfl) (hpl : (backTo pos (starEach [] X.env)).any (·.1) = false := by rfl) :
    LE X B (.Call (.Name "repr" p) [e] [] pos) (dCB bReprG ta) := le_callB (call_reprG hgd (by have := hr.un; omega)) (fun pn F H σ E G vs ds k Q S r h hk => by
  unfold bReprG at h
  split at h
  · obtain ⟨v, rfl, rx⟩ := hl1 r
    obtain ⟨x, h1, h4⟩ := h
    exact rpr_reads S.w.sub h1 rx (hk _ h4 _ F H S (Same.refl F) (.str _))
  · exact h.elim) hg hm (by decide +kernel) ha (by decide) (by decide) he hpl
end
end L3

set_option Elab.async false
set_option maxRecDepth 100000
set_option maxHeartbeats 4000000
/-! L3, part g3: defs called where no repr is under way. -/
namespace L3
open PySem PySem.Spec PyProof.Rows L2 LamX
structure CalG (P : Program) (w : World) (K : PySem.W.Frag) (mg : Str → Option Value) (base : Heap) (x : Str) (k : Nat) (ps : List Str) (sp : DSp) : Prop where
  ex : ∃ (f : Addr) (fd : FuncData), XG.FnG P w K mg base (L2.CX P w) k f fd ps (LSp K sp) ∧ mg x = some (.ref f) ∧ PySem.W.keepIn K (.ref f) = true ∧ Binds K fd ps [] ∧ ∃ oc od osl, K.lookup f = some ⟨oc, od, .func fd, osl⟩
/-- what the head tells of a def whose code object stands at c -/
structure DefAtC (K : PySem.W.Frag) (mg : Str → Option Value) (x : Str) (st : Stmt) (c : Addr) : Prop where
  ex : ∃ (f : Addr) (oc : Value) (od an : Option Addr) (osl : Array (Option Value)) (kV doc pm ct : Value), mg x = some (.ref f) ∧
    K.lookup f = some ⟨oc, od, .func (PySem.W.fnOf x x (defArgs st) (defBody st) (defScope st) .none kV doc pm an (.ref c) ct), osl⟩ ∧ PySem.W.codeIn K (.ref c) x = true ∧ PySem.W.keepIn K (.ref f) = true
theorem DefAtC.plain {K : PySem.W.Frag} {mg : Str → Option Value} {x : Str} {st : Stmt} {c : Addr} (d : DefAtC K mg x st c) : DefAt K mg x st := by
  obtain ⟨f, oc, od, an, osl, kV, doc, pm, ct, h⟩ := d.ex
  exact ⟨f, oc, od, an, osl, kV, doc, pm, .ref c, ct, h⟩
theorem defAtC_mk {K : PySem.W.Frag} {h : Heap} {mg : Str → Option Value} {x : Str} {st : Stmt} (X : K.In h) (G : h.Ns mainGlobals mg) {f c : Addr} {oc : Value} {od an : Option Addr} {osl : Array (Option Value)} {kV doc pm ct : Value}
    (a : PySem.W.nsIn K mainGlobals x = some (some (.ref f))) (l : K.lookup f = some ⟨oc, od, .func (PySem.W.fnOf x x (defArgs st) (defBody st) (defScope st) .none kV doc pm an (.ref c) ct), osl⟩) (cd : PySem.W.codeIn K (.ref c) x = true) (k : PySem.W.keepIn K (.ref f) = true) : DefAtC K mg x st c :=
  ⟨f, oc, od, an, osl, kV, doc, pm, ct, PySem.W.mg_of X G a, l, cd, k⟩
section
variable {P : Program} {w : World} {K : PySem.W.Frag} {mg : Str → Option Value} {base : Heap}
theorem Cal3.g {x : Str} {k : Nat} {ps : List Str} {sp : DSp} (c : Cal3 P w K mg base x k ps sp) : CalG P w K mg base x k ps sp := by
  obtain ⟨f, fd, F, r⟩ := c.ex
  exact ⟨f, fd, XG.FnG.of F, r⟩
/-- the promise of a def, from its body, at the very place where it is called -/
theorem okG {x : Str} {st : Stmt} {f : Addr} {fd : FuncData} {N ps : List Str} {k : Nat} {sp : DSp} {cdv : Value} (F : L2.Fun K x x st f fd) (hcd : ∃ oc od kV doc pm an ct osl, fd = PySem.W.fnOf x x (defArgs st) (defBody st) (defScope st) .none kV doc pm an cdv ct ∧ K.lookup f = some ⟨oc, od, .func fd, osl⟩ ∧ PySem.W.codeIn K cdv x = true)
    (S : FnScope N ps (defScope st)) (len : ∀ ds G q e, sp ds G q e → ds.length = ps.length)
    (body : ∀ (A : Around) (outer : List Env) (s : Shared) (H : Hp) (E : XK) (B : Base3) (dw : Exc3 → Reg → Prop), (A.deeper (envOfC x (defScope st) s.heap.objs.size f cdv)).guards = some [] → Room k (A.deeper (envOfC x (defScope st) s.heap.objs.size f cdv)) →
      WOkL (cxOf (L2.CX P w) P w K mg base N x (defScope st) f cdv A outer s H E) B (fun x _ G => dw x G) →
      ∃ t : DSt, LSs (cxOf (L2.CX P w) P w K mg base N x (defScope st) f cdv A outer s H E) B (defBody st) t ∧ ∀ ds G q, sp ds G q dw → t { nx := fun _ G' => q (.val .non) G', rt := q } (start3 N ds) G) :
    XG.FnG P w K mg base (L2.CX P w) (k + 1) f fd ps (LSp K sp) := by
  obtain ⟨oc, od, kV, doc, pm, an, ct, osl, e, lk, hc⟩ := hcd
  subst e
  have hl : ∀ vs H Q E, LSp K sp vs H Q E → vs.length = ps.length := fun vs H Q E h => by
    obtain ⟨F, G, ds, q, e, _, r, h, _⟩ := h
    exact r.length.symm.trans (len _ _ _ _ h)
  refine ⟨hl, fun A outer s H args us vs Q E hgd hr e0 hb r h => run_ofS lk hc S hr e0 hb r (hl _ _ _ _ h) fun hr' => ?_⟩
  obtain ⟨F, G, ds, q, e, wl, rl, h, hq, he⟩ := h
  have wk : WOkL (cxOf (L2.CX P w) P w K mg base N x (defScope st) f cdv A outer s H E) ⟨F, H, G.map (·.1), 0⟩ (fun x _ G => e x G) :=
    ⟨⟨fun cls d H => E cls d H, takes_of rfl rfl rfl rfl, fun pn F' H' σ E' G' x cls dd S' rx hx => he x G' hx cls dd F' H' S'.afterB rx⟩, lk_self⟩
  obtain ⟨t, ht, hs⟩ := body A outer s H E ⟨F, H, G.map (·.1), 0⟩ e hgd hr' wk
  refine ⟨_, ht.pss, ⟨[], F, start3 N ds, G, _, start_st wl rl, hs ds G q h, ⟨fun E' G' h' σ' F' H' S' _ => hq _ _ h' _ F' H' S'.afterB .non, fun r' G' h' v F' H' σ' E' S' _ rr => hq _ _ h' v F' H' S'.afterB ?_, fun _ _ z => z.elim, fun _ _ z => z.elim⟩⟩⟩
  cases r' with
  | val d => exact rr
  | fr es =>
    obtain ⟨a, rfl, f⟩ := rr
    obtain ⟨xs, h1, h2⟩ := f.ex
    exact ⟨a, xs, rfl, f.nF, f.nB, f.nG, h1, h2⟩
  | frD d =>
    obtain ⟨a, rfl, f⟩ := rr
    obtain ⟨o, h1, h2⟩ := f.ex
    exact ⟨a, o, rfl, f.nF, f.nB, f.nG, h1, h2⟩
  | sl i => exact rr.elim
theorem calG {x : Str} {st : Stmt} {c : Addr} {k : Nat} {ps N : List Str} {sp : DSp} (d : DefAtC K mg x st c)
    (hb : ∀ (kV doc pm : Value) (an : Option Addr) (cdv ct : Value) (us : List Value), us.length = ps.length → bindArgs (PySem.W.fnOf x x (defArgs st) (defBody st) (defScope st) .none kV doc pm an cdv ct) ⟨us, []⟩ = pure (ps.zip us))
    (S : FnScope N ps (defScope st)) (len : ∀ ds G q e, sp ds G q e → ds.length = ps.length)
    (body : ∀ (f : Addr) (A : Around) (outer : List Env) (s : Shared) (H : Hp) (E : XK) (B : Base3) (dw : Exc3 → Reg → Prop), (A.deeper (envOfC x (defScope st) s.heap.objs.size f (.ref c))).guards = some [] → Room k (A.deeper (envOfC x (defScope st) s.heap.objs.size f (.ref c))) →
      WOkL (cxOf (L2.CX P w) P w K mg base N x (defScope st) f (.ref c) A outer s H E) B (fun x _ G => dw x G) →
      ∃ t : DSt, LSs (cxOf (L2.CX P w) P w K mg base N x (defScope st) f (.ref c) A outer s H E) B (defBody st) t ∧ ∀ ds G q, sp ds G q dw → t { nx := fun _ G' => q (.val .non) G', rt := q } (start3 N ds) G) :
    CalG P w K mg base x (k + 1) ps sp := by
  obtain ⟨f, oc, od, an, osl, kV, doc, pm, ct, hm, l, cd, kp⟩ := d.ex
  have F := fun_mk (st := st) l cd kp
  exact ⟨f, _, okG F ⟨_, _, _, _, _, _, _, _, rfl, l, cd⟩ S len (fun A outer s H E B dw hgd hr wk => body f A outer s H E B dw hgd hr wk), hm, kp, F.binds hb, _, _, _, l⟩
end
section
variable {X : Cx} {B : Base3}
theorem le_callG {x : Str} {k j : Nat} {ps : List Str} {sp : DSp} {dw : DW} {ta : DA} {p pos : Pos} {e : Expr} {es : List Expr} (c : CalG X.prog X.w X.K X.mg X.base x k ps sp) (hgd : X.A.guards = some []) (hr : Room j X.A) (hk : k ≤ j) (wk : WOk X B dw) (hg : Gl X x) (ha : LA X B (e :: es) ta)
    (hdb : (x == ("__debug__" : Str)) = false := by decide) (he : starEach (e :: es) X.env = (false, eval e X.env) :: starEach es X.env := by rfl) (hpl : (backTo pos (starEach es X.env)).any (·.1) = false := by rfl) :
    LE X B (.Call (.Name x p) (e :: es) [] pos) (dCall sp dw ta) := by
  obtain ⟨f, fd, Fn, hm, kp, hb, -⟩ := c.ex
  obtain ⟨W, tk, hW⟩ := wk
  refine ⟨pe_imp (XG.pe_callG Fn hgd (hr.mono hk) hg hm kp hb (fun σ => passAt tk σ) ha.pa hdb he hpl) fun σ H Q ⟨pn, F, E, G, k, S, ht, hk⟩ => ⟨pn, F, E, G, _, S, ht, fun ds E1 G1 h1 vs F1 H1 S1 s1 r1 => ?_⟩⟩
  refine ⟨F1, G1, ds, _, _, S1.w, r1, h1, fun r G' h2 v F2 H2 A r2 => ?_, fun x G' h2 cls dd F2 H2 A r2 => ?_⟩
  · exact hk _ _ _ h2 v F2 H2 (S1.wldAfter A) (s1.trans A.keepF) (S1.retR r2)
  · exact hW pn F2 H2 σ E1 G' x cls dd (S1.wldAfter A) r2 h2
end
end L3

set_option Elab.async false
set_option maxRecDepth 100000
set_option maxHeartbeats 4000000
/-! L3, lambdas: a def that tells the word of the error of a call; a lambda handed to it. -/
namespace L3
open PySem PySem.Spec PyProof.Rows L2 LamX
/-- a constant that such a def answers with -/
inductive WC where
  | s (x : Str) | b (b : Bool)
def WC.c : WC → Const
  | .s y => .str y
  | .b q => .bool q
def WC.d : WC → D
  | .s y => .str y
  | .b q => .bl q
def WC.v : WC → V
  | .s y => .str y
  | .b q => .bl q
theorem pe_wc {X : Cx} {w : WC} {j : Nat} {pos : Pos} : PE X (.Constant w.c j pos) (tC w.v) := by
  cases w with
  | s x => exact pe_str
  | b b => exact pe_bl
theorem WC.rep {K : PySem.W.Frag} {F : Hp} (w : WC) : Rep K F w.d w.v := by
  cases w with
  | s x => exact .str x
  | b b => exact .bl b
/-- a clause: except cls: return res | except cls as e: return res + repr(e.fld) -/
structure WCl where
  cls : Str
  res : WC
  fld : Option Str
theorem After.refl {K : PySem.W.Frag} {F H : Hp} {G : Reg} (w : Wld K F H G) : After K F H G F H G := ⟨w, Same.refl F, fun _ _ h _ => h, fun _ _ _ _ n => n, fun _ h => .inl h, fun _ h => h⟩
/-! ### the clauses -/
section
variable {X : Cx}
/-- the clauses of the text -/
inductive WHds (X : Cx) : List ExceptHandler → List WCl → Prop
  | nil : WHds X [] []
  | cons {x : Str} {w : WC} {j : Nat} {np p1 p2 pos' : Pos} {hds : List ExceptHandler} {l : List WCl} (hc : ∃ C, ClsN X.K x C ∧ X.mg x = some (.ref C)) (hg : Gl X x) (hdb : (x == ("__debug__" : Str)) = false) (r : WHds X hds l) :
      WHds X (.ExceptHandler (some (.Name x np)) none [.Return (some (.Constant w.c j p1)) p2] pos' :: hds) (⟨x, w, none⟩ :: l)
  | as {x n f w : Str} {i j : Nat} {np p1 p2 p3 p4 p5 p6 p7 pos' : Pos} {hds : List ExceptHandler} {l : List WCl} (hc : ∃ C, ClsN X.K x C ∧ X.mg x = some (.ref C)) (hg : Gl X x) (hdb : (x == ("__debug__" : Str)) = false)
      (hN : X.N.Nodup) (hi : X.N[i]? = some n) (hln : X.env.kindOf n = some .local) (hvis : Vis X.env.scope n) (hn1 : (n == ("__debug__" : Str)) = false) (hn2 : (n == ("__classdict__" : Str)) = false) (xf : Xf3 X.K x f) (hrg : Gl X "repr") (hrm : X.mg "repr" = none)
      (hst : starEach [.Attribute (.Name n p5) f p6] X.env = [(false, eval (.Attribute (.Name n p5) f p6) X.env)]) (hab : attributeBase (.Name n p5) f X.env (eval (.Name n p5) X.env) = eval (.Name n p5) X.env) (hpl : (backTo p7 (starEach [] X.env)).any (·.1) = false) (r : WHds X hds l) :
      WHds X (.ExceptHandler (some (.Name x np)) (some n) [.Return (some (.BinOp (.Constant (.str w) j p1) .Add (.Call (.Name "repr" p4) [.Attribute (.Name n p5) f p6] [] p7) p3)) p2] pos' :: hds) (⟨x, .s w, some f⟩ :: l)
def rAddS : R2 := fun x y H Q => ∃ i j, x = .str i ∧ y = .str j ∧ i.length + j.length ≤ sizeLine ∧ Q (.str (i ++ j)) H
/-- the clauses, read -/
inductive WRel (K : PySem.W.Frag) (n : Nat) : List WCl → List XT.Cl → Prop
  | nil : WRel K n [] []
  | cons {x : Str} {w : WC} {C : Addr} {l : List WCl} {m : List XT.Cl} : ClsN K x C → WRel K n l m → WRel K n (⟨x, w, none⟩ :: l) ((.ref C, none, fun _ _ _ => tRet (tC w.v)) :: m)
  | as {x w f : Str} {C : Addr} {i : Nat} {l : List WCl} {m : List XT.Cl} : ClsN K x C → i < n → WRel K n l m →
      WRel K n (⟨x, .s w, some f⟩ :: l) ((.ref C, some i, fun a cls d => tRet (tOp rAddS (tC (.str w)) (tCB (rReprG K) (tCons (tXf a cls d C f (tVar i)) tNil)))) :: m)
theorem WHds.mix (hgd : X.A.guards = some []) (hu : X.A.units + 200 < cLine) {hds : List ExceptHandler} {l : List WCl} (h : WHds X hds l) : ∃ m, XT.HdsMix X hds m ∧ WRel X.K X.N.length l m := by
  induction h with
  | nil => exact ⟨[], .nil, .nil⟩
  | cons hc hg hdb r ih =>
    obtain ⟨m, h1, h2⟩ := ih
    obtain ⟨C, hC, hm⟩ := hc
    exact ⟨_, .cons ⟨hg, hdb, .inl hm⟩ (fun a oe cls d pn hz hf => pss_one (ps_ret pe_wc)) h1, .cons hC h2⟩
  | @as x n f w i j np p1 p2 p3 p4 p5 p6 p7 pos' hds l hc hg hdb hN hi hln hvis hn1 hn2 xf hrg hrm hst hab hpl r ih =>
    obtain ⟨m, h1, h2⟩ := ih
    obtain ⟨C, hC, hm⟩ := hc
    obtain ⟨C', hC', T, hno⟩ := xf.ex
    cases hC.eq hC'
    refine ⟨_, .as ⟨hg, hdb, .inl hm⟩ hN hi hln (fun a oe cls d pn hz hf => ?_) h1, .as hC (lt_of_look hi) h2⟩
    refine pss_one (ps_ret (pe_op (r := rAddS) op_add_str pe_str ?_))
    exact pe_callB (X := X.suite a ((a, oe) :: pn)) (call_reprG (X := X.suite a ((a, oe) :: pn)) hgd hu) hrg hrm (by decide +kernel) (pa_cons (pe_xf T hno hz hf (pe_var (X := X.suite a ((a, oe) :: pn)) hi hvis hn1 hn2) hab) pa_nil hst) (by decide) (by decide) hst hpl
end
end L3

set_option Elab.async false
set_option maxRecDepth 100000
set_option maxHeartbeats 4000000
/-! L3, lambdas: the def of words keeps its promise; a lambda handed to it. -/
namespace L3
open PySem PySem.Spec PyProof.Rows L2 LamX
section
variable {X : Cx}
end
end L3

set_option Elab.async false
set_option maxRecDepth 100000
set_option maxHeartbeats 4000000
/-! L3, lambdas: THE RULE for x(lambda: body). -/
namespace L3
open PySem PySem.Spec PyProof.Rows L2 LamX
theorem reg_uniq : ∀ {G : Reg} {b : Addr} {x y : List D}, (G.map (·.1)).Nodup → (b, x) ∈ G → (b, y) ∈ G → x = y
  | [], _, _, _, _, h, _ => nomatch h
  | p :: r, b, x, y, nd, h1, h2 => by
    rw [List.map_cons] at nd
    obtain ⟨n1, n2⟩ := List.nodup_cons.mp nd
    have out : ∀ {z}, (b, z) ∈ r → p.1 ≠ b := fun hz e => n1 (by rw [e]; exact List.mem_map.mpr ⟨_, hz, rfl⟩)
    rcases List.mem_cons.mp h1 with e1 | h1
    · rcases List.mem_cons.mp h2 with e2 | h2
      · rw [← e1] at e2
        cases e2
        rfl
      · exact absurd (by rw [← e1]) (out h2)
    · rcases List.mem_cons.mp h2 with e2 | h2
      · exact absurd (by rw [← e2]) (out h1)
      · exact reg_uniq n2 h1 h2
/-- what a lambda sees of the slots -/
def vals3 (E : Env3) : Env3 := E.map fun s => match s with
  | .val d => .val d
  | _ => .no
section
variable {K : PySem.W.Frag} {B : Base3} {pn : Pend} {F H : Hp} {σ : L2.St} {E : Env3} {G : Reg}
theorem vals3_some {i : Nat} {s : Sl3} (h : (vals3 E)[i]? = some s) : (∃ d, s = .val d ∧ E[i]? = some (.val d)) ∨ s = .no := by
  unfold vals3 at h
  rw [List.getElem?_map] at h
  cases q : E[i]? with
  | none => rw [q] at h; cases h
  | some t =>
    rw [q] at h
    cases t with
    | val d => exact .inl ⟨d, (Option.some.inj h).symm, rfl⟩
    | no => exact .inr (Option.some.inj h).symm
    | own ds => exact .inr (Option.some.inj h).symm
    | ownD ds => exact .inr (Option.some.inj h).symm
    | new nm fs => exact .inr (Option.some.inj h).symm
/-- the plain slots, as a frame of its own -/
theorem St3.fresh (S : St3 K B pn F H σ E G) : St3 K ⟨F, H, G.map (·.1), 0⟩ [] F H σ (vals3 E) G :=
  ⟨S.w, Same.refl F, fun _ _ h _ => h, fun _ _ _ _ n => n, fun _ h => .inl h, fun _ h => h, by unfold vals3; rw [List.length_map]; exact S.len,
    fun i d h => (by
      rcases vals3_some h with ⟨d', e, q⟩ | e
      · cases e; exact S.slot i _ q
      · cases e),
    fun i s d h ho => (by rcases vals3_some h with ⟨d', e, q⟩ | e <;> subst e <;> cases ho),
    fun i j s t d e a h _ ho => (by rcases vals3_some h with ⟨d', e, q⟩ | e <;> subst e <;> cases ho),
    fun a o h => (nomatch h), ⟨List.nodup_nil, fun p h => nomatch h⟩,
    fun nm fs h => (by rcases vals3_some h with ⟨d', e, q⟩ | e <;> cases e)⟩
/-- a register of another kind is written -/
theorem St3.regKeep (S : St3 K B pn F H σ E G) {ds : List D} {a : Addr} {o : HO} (h : (a, ds) ∈ G) (r : RegO K F a o ds) : St3 K B pn F (upd H a o) σ E G := by
  obtain ⟨nF, o0, ea, _⟩ := S.w.reg a ds h
  have ha : a ∈ G.map (·.1) := List.mem_map.mpr ⟨_, h, rfl⟩
  have uniq : ∀ {b : Addr} {es : List D}, (b, es) ∈ G → b = a → es = ds := fun {b es} hb e => by
    subst e
    exact reg_uniq S.w.nd hb h
  refine ⟨⟨fun b u hb => ?_, fun b fs hb => ?_, S.w.nd⟩, S.keepF, fun b u hb hg => ?_, S.unfr, S.regs, S.regk, S.len, S.slot, fun j s d hj ho => ?_, S.ownd, fun b zs hb => ?_, S.pnd, S.news⟩
  · rw [upd_ne (ne_of_none hb nF)]
    exact S.w.sub b u hb
  · obtain ⟨h1, zs, h2, h3⟩ := S.w.reg b fs hb
    by_cases q : b = a
    · rw [uniq hb q, q]
      exact ⟨nF, o, upd_same, r⟩
    · exact ⟨h1, zs, by rw [upd_ne q]; exact h2, h3⟩
  · rcases S.regs a ha with z | z
    · rw [upd_ne (fun q => hg (by rw [q]; exact z))]
      exact S.keepH b u hb hg
    · rw [upd_ne (ne_of_none hb z)]
      exact S.keepH b u hb hg
  · obtain ⟨b, e1, g⟩ := S.own j s d hj ho
    obtain ⟨zs, e2, r2⟩ := g.ex
    exact ⟨b, e1, ⟨g.nF, g.nB, g.nG, g.nP, zs, by rw [upd_ne fun q => g.nG (by rw [q]; exact ha)]; exact e2, r2⟩⟩
  · obtain ⟨h1, h2, h3, h4⟩ := S.pend b zs hb
    exact ⟨by rw [upd_ne fun q => h4 (by rw [q]; exact ha)]; exact h1, h2, h3, h4⟩
/-- behind the making of a lambda -/
theorem St3.grown (S : St3 K B pn F H σ E G) {P c' : Addr} {q : Str} {ps : Array Value} {H1 : Hp} (h : (P, encT q) ∈ G) (hps : H P = some (.tbl ps)) (codes : ∀ (pos : Pos) (cv : Value), codeAmong pos ps.toList = some cv → ∃ c, cv = .ref c ∧ F c = some (CodeO c q)) (g : XL.Grown H P q ps c' H1) :
    ∃ F1, St3 K B pn F1 H1 σ E G ∧ Same F F1 := by
  cases g with
  | same _ => exact ⟨F, S, Same.refl F⟩
  | @more ms n tri cod =>
    obtain ⟨S1, s1⟩ := S.newF (o := CodeO c' q) n
    have ne : P ≠ c' := fun z => by rw [z, n] at hps; cases hps
    have S2 := S1.regKeep (o := .tbl (ps ++ ms)) h (.tbl tri fun pos cv hcv => by
      rcases cod pos cv hcv with z | z
      · obtain ⟨c, e1, e2⟩ := codes pos cv z
        exact ⟨c, e1, s1 _ _ e2⟩
      · exact ⟨c', z, upd_same⟩)
    refine ⟨_, ?_, s1⟩
    have e : upd (upd H c' (CodeO c' q)) P (.tbl (ps ++ ms)) = upd (upd H P (.tbl (ps ++ ms))) c' (CodeO c' q) := by
      funext b
      unfold upd
      by_cases h1 : b = P
      · subst h1; rw [if_pos rfl, if_neg ne, if_pos rfl]
      · rw [if_neg h1]
        by_cases h2 : b = c'
        · rw [if_pos h2, if_pos h2]
        · rw [if_neg h2, if_neg h2, if_neg h1]
    rw [← e]
    exact S2
end
section
variable {X : Cx} {B : Base3}
end
end L3

set_option Elab.async false
set_option maxRecDepth 100000
set_option maxHeartbeats 4000000
/-! L3: the end of a law's row whose defs are called where no repr is under way, with the tables of code objects. -/
namespace L3
open PySem PySem.Spec PyProof.Rows L2 LamX
/-- what the law's end is told of its tables and of its promise -/
structure EndG (l : PySem.W.OpenLaw) (q : Program) (w : World) (K : PySem.W.Frag) (k n : Nat) (x : Str) (mg : Str → Option Value) (fa : Addr) : Prop where
  ex : ∃ (fd : FuncData) (ts : List (Str × Addr × Addr × Str)) (sp : DSp), (∀ t ∈ ts, PySem.W.tabIn K t.1 = some (t.2.1, t.2.2.1) ∧ (∃ d, (recsOf q).find? (fun e => e.name == t.1) = some d) ∧ K.lookup t.2.2.1 = none) ∧ (ts.map (·.2.2.1)).Nodup ∧
    (∀ (s : Shared) (u : Value), BindsTo s fd ⟨[u], []⟩ [(x, u)]) ∧ (∀ base : Heap, K.In base → base.Ns mainGlobals mg → (∀ t ∈ ts, TabB base mg t.2.1 t.2.2.1) → XG.FnG l.prog w K mg base (L2.CX l.prog w) k fa fd [x] (LSp K sp)) ∧
    ∀ ns : List Int, ns.length ≤ n → sp [.scr ns] (ts.map fun t => (t.2.2.1, encT t.2.2.2)) (fun r _ => r = .val (.bl true)) fun _ _ => False
theorem walk3G {l : PySem.W.OpenLaw} {n k : Nat} {q : Program} {loose : List Str} {XP : (Str → Option Value) → Heap → Prop} {YP : World → Heap → Prop} {d : DefRec} {K : Params → PySem.W.Frag} {x : Str}
    (hn : l.most = some n) (hn2 : n ≤ sizeLine) (hdf : d.params.defaults = []) (hr : Room k callerA)
    (hY : ∀ (w : World) (h : Heap), YP w h → (K w.params).In h)
    (F : ∀ (w : World) (mg : Str → Option Value) (fa : Addr) (h : Heap), (K w.params).In h → h.Ns mainGlobals mg → mg d.name = some (.ref fa) → EndG l q w (K w.params) k n x mg fa) :
    PySem.W.WalkO q loose XP YP l.row.toRowW d [] (fun f vs => PySem.call f vs) := by
  refine Att.attach_callB hn hdf fun w s₀ s₁ mg mb fa o pm cd doc a vs ns G Y ho hd hcd hmg hobj hints hlen hbits hg => ?_
  have KX := hY w _ Y
  obtain ⟨fd, ts, sp, hts, nd, hb, hF, holds⟩ := (F w mg fa _ KX G.T.g hmg).ex
  have tab : ∀ t ∈ ts, PySem.W.CodeHd s₁.heap t.2.1 t.2.2.1 ∧ s₁.heap.get? t.2.2.1 = some { cls := .none, data := .fields #[] } := fun t ht => by
    obtain ⟨h1, ⟨d', h2⟩, _⟩ := hts t ht
    exact PySem.W.tab_of G.T KX h2 h1
  have mem : ∀ {p : Addr × Addr}, p ∈ ts.map (fun t => (t.2.1, t.2.2.1)) → ∃ t ∈ ts, p = (t.2.1, t.2.2.1) := fun hp => by
    obtain ⟨t, h1, h2⟩ := List.mem_map.mp hp
    exact ⟨t, h1, h2.symm⟩
  refine XG.law_end (cs := ts.map fun t => (t.2.1, t.2.2.1)) (sp := LSp (K w.params) sp) KX G.T.g G.T.b G.T.builtins G.T.nolimit hg (fun p hp => ?_) (fun p hp => ?_) (fun p hp => ?_) G.T.bmain hobj hints (Nat.le_trans hlen hn2) hr
    (fun base h1 h2 h3 => hF base h1 h2 fun t ht => h3 (t.2.1, t.2.2.1) (List.mem_map.mpr ⟨t, ht, rfl⟩)) hb (fun H hH hS => ?_) (fun H e s' z => ?_)
  · obtain ⟨t, ht, rfl⟩ := mem hp
    exact (tab t ht).2
  · obtain ⟨t, ht, rfl⟩ := mem hp
    exact (hts t ht).2.2
  · obtain ⟨t, ht, rfl⟩ := mem hp
    exact (tab t ht).1
  · -- the heap ahead of the call: all but the tables frozen
    refine ⟨fun b => if b ∈ ts.map (·.2.2.1) then none else H b, ts.map fun t => (t.2.2.1, encT t.2.2.2), [.scr ns], _, _, ⟨fun b o h => ?_, fun b es h => ?_, ?_⟩, .cons (.scr ?_) .nil, holds ns hlen, fun r G' e v F' H' A rv => ?_, fun _ _ z => z.elim⟩
    · by_cases hb : b ∈ ts.map (·.2.2.1)
      · have z : (none : Option HO) = some o := (if_pos hb).symm.trans h
        cases z
      · exact (if_neg hb).symm.trans h
    · obtain ⟨t, ht, e⟩ := List.mem_map.mp h
      cases e
      have hb : t.2.2.1 ∈ ts.map (·.2.2.1) := List.mem_map.mpr ⟨t, ht, rfl⟩
      exact ⟨if_pos hb, _, hH (t.2.1, t.2.2.1) (List.mem_map.mpr ⟨t, ht, rfl⟩), .tbl (ps := #[]) True.intro fun pos cv hc => by
        have z : codeAmong pos [] = some cv := hc
        simp [codeAmong] at z⟩
    · rw [List.map_map]
      exact nd
    · have na : a ∉ ts.map (·.2.2.1) := fun hm => by
        obtain ⟨t, ht, e⟩ := List.mem_map.mp hm
        have z := (tab t ht).2
        rw [e, hobj] at z
        exact nomatch (congrArg Obj.data (Option.some.inj z) : Data.seq vs.toArray _ = Data.fields #[])
      rcases hS with (h | ⟨ob, h⟩) | h
      · exact .inl (.inl ((if_neg na).trans h))
      · exact .inl (.inr ⟨ob, (if_neg na).trans h⟩)
      · exact .inr h
    · subst e
      have rv : Rep (K w.params) F' (.bl true) v := rv
      cases rv
      rfl
  · obtain ⟨_, _, _, _, _, _, _, _, _, _, _, _, z⟩ := z
    simp at z
end L3

set_option Elab.async false
set_option maxRecDepth 100000
set_option maxHeartbeats 4000000
/-! L3: isinstance of any plain value and any class; dicts as constants. -/
namespace L3
open PySem PySem.Spec PyProof.Rows L2
section
variable {X : Cx} {B : Base3}
theorem all_cons {P : Str → Prop} {x : Str} {l : List Str} (h : P x) (t : ∀ n ∈ l, P n) : ∀ n ∈ x :: l, P n := fun n hn => by
  rcases List.mem_cons.mp hn with e | hn
  · rw [e]; exact h
  · exact t n hn
/-! ### dicts as constants -/
/-- a value just made is locked -/
def tLk (t : TE) : TE := fun σ H Q => t σ H fun v H1 => ∃ a u, v = .ref a ∧ H1 a = some u ∧ Mut (some u) ∧ ∀ od, Q v (upd H1 a (.frz od u))
theorem pe_lk {e : Expr} {t : TE} (h : PE X e t) : PE X e (tLk t) := by
  refine ⟨fun pins s σ H Q I hw => ?_⟩
  refine thn (h.run pins s σ _ _ I hw) fun v s1 ⟨x, H1, I1, r, a, u, e1, e2, mu, q⟩ => ?_
  subst e1
  obtain ⟨od, I2⟩ := I1.lock e2 mu
  exact ⟨.ref a, _, I2, r, q od⟩
theorem upd_upd {H : Hp} {p : Addr} {o u : HO} : upd (upd H p o) p u = upd H p u := by
  funext z
  unfold upd
  by_cases h : z = p
  · rw [if_pos h, if_pos h]
  · rw [if_neg h, if_neg h, if_neg h]
theorem le_dict0 {pos : Pos} : LE X B (.Dict [] [] pos) (dC (.dcK [] [])) := ⟨pe_imp (pe_lk pe_dnewK) fun σ H Q ⟨pn, F, E, G, k, S, ht, hk⟩ => fun p hp => ⟨p, .dK [], rfl, upd_same, trivial, fun od => by
  rw [upd_upd]
  obtain ⟨S1, s1⟩ := S.newF (o := .frz od (.dK [])) hp
  exact hk _ _ _ ht _ _ _ S1 s1 (.dcK (xs := []) upd_same rfl .nil)⟩⟩
end
end L3

set_option Elab.async false
set_option maxRecDepth 100000
set_option maxHeartbeats 4000000
/-! L4: readings that are reckoned: for each plain reading a function, and that it tells the reading. -/
namespace L3
open PySem PySem.Spec PyProof.Rows L2
inductive CR (α : Type) where
  | ok (a : α) (E : Env3) | ex (x : Exc3) (E : Env3) | no
inductive CF where
  | nx (E : Env3) | rt (r : Res) | bk (E : Env3) | ct (E : Env3) | ex (x : Exc3) (E : Env3) | no
/-- what a def gives: a value, an exception, or nothing that is known -/
inductive C1 where
  | ok (r : Res) | ex (x : Exc3) | no
abbrev CE := Env3 → CR Res
abbrev CT := Env3 → CR Bool
abbrev CA := Env3 → CR (List D)
abbrev CP := Env3 → CR (Option Int)
abbrev CS := Env3 → CF
@[inline] def CR.bind {α β : Type} (c : CR α) (f : α → Env3 → CR β) : CR β := match c with
  | .ok a E => f a E
  | .ex x E => .ex x E
  | .no => .no
@[inline] def CR.bindF {α : Type} (c : CR α) (f : α → Env3 → CF) : CF := match c with
  | .ok a E => f a E
  | .ex x E => .ex x E
  | .no => .no
def CR.sat {α : Type} (dw : DW) (G : Reg) (c : CR α) (k : α → Env3 → Reg → Prop) : Prop := match c with
  | .ok a E => k a E G
  | .ex x E => dw x E G
  | .no => False
def CF.sat (dw : DW) (G : Reg) (c : CF) (D : Ends3) : Prop := match c with
  | .nx E => D.nx E G
  | .rt r => D.rt r G
  | .bk E => D.bk E G
  | .ct E => D.ct E G
  | .ex x E => dw x E G
  | .no => False
def SE (dw : DW) (G : Reg) (t : DE) (c : CE) : Prop := ∀ E k, (c E).sat dw G k → t E G k
def ST (dw : DW) (G : Reg) (t : DT) (c : CT) : Prop := ∀ E k, (c E).sat dw G k → t E G k
def SA (dw : DW) (G : Reg) (t : DA) (c : CA) : Prop := ∀ E k, (c E).sat dw G k → t E G k
def SP (dw : DW) (G : Reg) (t : DO) (c : CP) : Prop := ∀ E k, (c E).sat dw G k → t E G k
def SI (dw : DW) (G : Reg) (t : DI) (c : CA) : Prop := ∀ E k, (c E).sat dw G k → t E G k
def SS (dw : DW) (G : Reg) (t : DSt) (c : CS) : Prop := ∀ D E, (c E).sat dw G D → t D E G
theorem CR.sat_bind {α β : Type} {dw : DW} {G : Reg} {c : CR α} {f : α → Env3 → CR β} {k : β → Env3 → Reg → Prop} (h : (c.bind f).sat dw G k) : c.sat dw G fun a E1 G1 => (f a E1).sat dw G1 k := by
  cases c with
  | ok a E => exact h
  | ex x E => exact h
  | no => exact h
theorem CR.sat_bindF {α : Type} {dw : DW} {G : Reg} {c : CR α} {f : α → Env3 → CF} {D : Ends3} (h : (c.bindF f).sat dw G D) : c.sat dw G fun a E1 G1 => (f a E1).sat dw G1 D := by
  cases c with
  | ok a E => exact h
  | ex x E => exact h
  | no => exact h
theorem CR.sat_mono {α : Type} {dw : DW} {G : Reg} {c : CR α} {k k' : α → Env3 → Reg → Prop} (h : c.sat dw G k) (hk : ∀ a E, k a E G → k' a E G) : c.sat dw G k' := by
  cases c with
  | ok a E => exact hk a E h
  | ex x E => exact h
  | no => exact h
section
variable {dw : DW} {G : Reg}
/-- first one reading, then what depends on it -/
theorem SE.then {t : DE} {c : CE} (s : SE dw G t c) {α : Type} {f : Res → Env3 → CR α} {E : Env3} {k : α → Env3 → Reg → Prop} {k' : DK} (h : ((c E).bind f).sat dw G k) (hk : ∀ r E1, (f r E1).sat dw G k → k' r E1 G) : t E G k' :=
  s E k' (CR.sat_mono (CR.sat_bind h) fun r E1 h1 => hk r E1 h1)
theorem SE.thenF {t : DE} {c : CE} (s : SE dw G t c) {f : Res → Env3 → CF} {E : Env3} {Dn : Ends3} {k' : DK} (h : ((c E).bindF f).sat dw G Dn) (hk : ∀ r E1, (f r E1).sat dw G Dn → k' r E1 G) : t E G k' :=
  s E k' (CR.sat_mono (CR.sat_bindF h) fun r E1 h1 => hk r E1 h1)
theorem SA.then {t : DA} {c : CA} (s : SA dw G t c) {α : Type} {f : List D → Env3 → CR α} {E : Env3} {k : α → Env3 → Reg → Prop} {k' : List D → Env3 → Reg → Prop} (h : ((c E).bind f).sat dw G k) (hk : ∀ r E1, (f r E1).sat dw G k → k' r E1 G) : t E G k' :=
  s E k' (CR.sat_mono (CR.sat_bind h) fun r E1 h1 => hk r E1 h1)
theorem SI.then {t : DI} {c : CA} (s : SI dw G t c) {α : Type} {f : List D → Env3 → CR α} {E : Env3} {k : α → Env3 → Reg → Prop} {k' : List D → Env3 → Reg → Prop} (h : ((c E).bind f).sat dw G k) (hk : ∀ r E1, (f r E1).sat dw G k → k' r E1 G) : t E G k' :=
  s E k' (CR.sat_mono (CR.sat_bind h) fun r E1 h1 => hk r E1 h1)
theorem SI.thenF {t : DI} {c : CA} (s : SI dw G t c) {f : List D → Env3 → CF} {E : Env3} {Dn : Ends3} {k' : List D → Env3 → Reg → Prop} (h : ((c E).bindF f).sat dw G Dn) (hk : ∀ r E1, (f r E1).sat dw G Dn → k' r E1 G) : t E G k' :=
  s E k' (CR.sat_mono (CR.sat_bindF h) fun r E1 h1 => hk r E1 h1)
theorem ST.then {t : DT} {c : CT} (s : ST dw G t c) {α : Type} {f : Bool → Env3 → CR α} {E : Env3} {k : α → Env3 → Reg → Prop} {k' : Bool → Env3 → Reg → Prop} (h : ((c E).bind f).sat dw G k) (hk : ∀ r E1, (f r E1).sat dw G k → k' r E1 G) : t E G k' :=
  s E k' (CR.sat_mono (CR.sat_bind h) fun r E1 h1 => hk r E1 h1)
theorem ST.thenF {t : DT} {c : CT} (s : ST dw G t c) {f : Bool → Env3 → CF} {E : Env3} {Dn : Ends3} {k' : Bool → Env3 → Reg → Prop} (h : ((c E).bindF f).sat dw G Dn) (hk : ∀ r E1, (f r E1).sat dw G Dn → k' r E1 G) : t E G k' :=
  s E k' (CR.sat_mono (CR.sat_bindF h) fun r E1 h1 => hk r E1 h1)
theorem SP.then {t : DO} {c : CP} (s : SP dw G t c) {α : Type} {f : Option Int → Env3 → CR α} {E : Env3} {k : α → Env3 → Reg → Prop} {k' : Option Int → Env3 → Reg → Prop} (h : ((c E).bind f).sat dw G k) (hk : ∀ r E1, (f r E1).sat dw G k → k' r E1 G) : t E G k' :=
  s E k' (CR.sat_mono (CR.sat_bind h) fun r E1 h1 => hk r E1 h1)
/-- an answer that may lack -/
def CR.of {α : Type} (o : Option α) (E : Env3) : CR α := match o with
  | some a => .ok a E
  | none => .no
theorem of_sat {α : Type} {G : Reg} {o : Option α} {E : Env3} {k : α → Env3 → Reg → Prop} (h : (CR.of o E).sat dw G k) : ∃ a, o = some a ∧ k a E G := by
  cases o with
  | some a => exact ⟨a, rfl, h⟩
  | none => exact h.elim
/-! ### names, constants, tests -/
def cVar (i : Nat) : CE := fun E => match E[i]? with
  | some (Sl3.val d) => .ok (.val d) E
  | some (Sl3.own _) => .ok (.sl i) E
  | some (Sl3.ownD _) => .ok (.sl i) E
  | _ => .no
theorem sVar {i : Nat} : SE dw G (dVar i) (cVar i) := fun E k h => by
  unfold cVar at h
  unfold dVar
  cases q : E[i]? with
  | none => rw [q] at h; exact h.elim
  | some s =>
    rw [q] at h
    cases s with
    | val d => exact h
    | own ds => exact h
    | ownD ds => exact h
    | no => exact h.elim
    | new n fs => exact h.elim
def cC (d : D) : CE := fun E => .ok (.val d) E
theorem sC {d : D} : SE dw G (dC d) (cC d) := fun E k h => h
def isB : Res → Option Bool
  | .val (.bl b) => some b
  | _ => none
theorem isB_of {r : Res} {b : Bool} (h : isB r = some b) : r = .val (.bl b) := by
  unfold isB at h
  split at h
  · cases h; rfl
  · cases h
def cTest (c : CE) : CT := fun E => (c E).bind fun r E1 => .of (isB r) E1
theorem sTest {t : DE} {c : CE} (s : SE dw G t c) : ST dw G (dTest t) (cTest c) := fun E k h => s.then h fun r E1 h1 => by
  obtain ⟨b, e, h2⟩ := of_sat h1
  exact ⟨b, isB_of e, h2⟩
/-! ### operators -/
/-- what an operator's reading makes of two plain values -/
def SOp (rd : Reg → D → D → (Res → Prop) → Prop) (f : D → D → Option Res) : Prop := ∀ G d e (k : Res → Prop) r, f d e = some r → k r → rd G d e k
def cOp (f : D → D → Option Res) (a b : CE) : CE := fun E => (a E).bind fun x E1 => (b E1).bind fun y E2 => match x.fz.get E2, y.get E2 with
  | some d, some e => .of (f d e) E2
  | _, _ => .no
theorem sOp {rd : Reg → D → D → (Res → Prop) → Prop} {f : D → D → Option Res} {ta tb : DE} {a b : CE} (ho : SOp rd f) (sa : SE dw G ta a) (sb : SE dw G tb b) : SE dw G (dOp rd ta tb) (cOp f a b) := fun E k h => sa.then h fun x E1 h1 => sb.then h1 fun y E2 h2 => by
  cases q1 : x.fz.get E2 with
  | none => rw [q1] at h2; exact h2.elim
  | some d =>
    cases q2 : y.get E2 with
    | none => rw [q1, q2] at h2; exact h2.elim
    | some e =>
      rw [q1, q2] at h2
      obtain ⟨r, e1, h3⟩ := of_sat h2
      exact ⟨d, rfl, e, rfl, ho G d e _ r e1 h3⟩
/-! ### arguments -/
def cNil : CA := fun E => .ok [] E
theorem sNil : SA dw G dNil cNil := fun E k h => h
def cCons (a : CE) (r : CA) : CA := fun E => (a E).bind fun x E1 => match x.ice E1 with
  | some (d, E2) => (r E2).bind fun ds E3 => .ok (d :: ds) E3
  | none => .no
theorem sCons {ta : DE} {tr : DA} {a : CE} {r : CA} (sa : SE dw G ta a) (sr : SA dw G tr r) : SA dw G (dCons ta tr) (cCons a r) := fun E k h => sa.then h fun x E1 h => by
  cases q : x.ice E1 with
  | none => rw [q] at h; exact h.elim
  | some p =>
    rw [q] at h
    exact ⟨p.1, p.2, rfl, sr.then h fun ds E3 h => h⟩
def spC (c : List D → C1) : DSp := fun ds G q e => match c ds with
  | .ok r => q r G
  | .ex x => e x G
  | .no => False
def C1.at (c : C1) (E : Env3) : CR Res := match c with
  | .ok r => .ok r E
  | .ex x => .ex x E
  | .no => .no
end
end L3

set_option Elab.async false
set_option maxRecDepth 100000
set_option maxHeartbeats 4000000
/-! L4, part b: the operators and built-ins, reckoned. -/
namespace L3
open PySem PySem.Spec PyProof.Rows L2
def rB1 (b : Bool) : Option Res := match b with
  | true => some (.val (.bl true))
  | false => some (.val (.bl false))
theorem rB1_eq (b : Bool) : rB1 b = some (.val (.bl b)) := by cases b <;> rfl
def grdO {α : Type} (b : Bool) (o : Option α) : Option α := if b then o else none
theorem grdO_of {α : Type} {b : Bool} {o : Option α} {a : α} (h : grdO b o = some a) : b = true ∧ o = some a := by
  cases b with
  | true => exact ⟨rfl, h⟩
  | false => cases h
def fEq (d e : D) : Option Res := grdO (d.shC && e.shC) (rB1 (D.eqv d e))
theorem f_eq : SOp oEq fEq := fun G d e k r h hk => by
  obtain ⟨h1, h⟩ := grdO_of h
  rw [Bool.and_eq_true] at h1
  rw [rB1_eq] at h; cases h
  exact ⟨shC_of h1.1, shC_of h1.2, hk⟩
end L3

set_option Elab.async false
set_option maxRecDepth 100000
set_option maxHeartbeats 4000000
/-! L4, part c: statements, loops, comprehensions, defs, reckoned. -/
namespace L3
open PySem PySem.Spec PyProof.Rows L2
section
variable {dw : DW} {G : Reg}
instance (n : Nat) : Decidable (ZN.N234 n) := by unfold ZN.N234; infer_instance
/-! ### statements -/
def cNext : CS := fun E => .nx E
theorem sNext : SS dw G dNext cNext := fun D E h => h
def cSeq (a b : CS) : CS := fun E => match a E with
  | .nx E1 => b E1
  | r => r
theorem sSeq {t u : DSt} {a b : CS} (s1 : SS dw G t a) (s2 : SS dw G u b) : SS dw G (dSeq t u) (cSeq a b) := fun D E h => by
  refine s1 _ E ?_
  unfold cSeq at h
  cases q : a E with
  | nx E1 => rw [q] at h; exact s2 D E1 h
  | rt r => rw [q] at h; exact h
  | bk E1 => rw [q] at h; exact h
  | ct E1 => rw [q] at h; exact h
  | ex x E1 => rw [q] at h; exact h
  | no => rw [q] at h; exact h
def cIfS (c : CT) (a b : CS) : CS := fun E => (c E).bindF fun q E1 => if q then a E1 else b E1
theorem sIfS {t : DT} {ta tb : DSt} {c : CT} {a b : CS} (s : ST dw G t c) (sa : SS dw G ta a) (sb : SS dw G tb b) : SS dw G (dIfS t ta tb) (cIfS c a b) := fun D E h => s.thenF h fun q E1 h => by
  cases q with
  | true => exact sa D E1 h
  | false => exact sb D E1 h
def cRaise (nm : Str) : CS := fun E => .ex (nm, none) E
theorem sRaise {nm : Str} : SS dw G (dRaise dw nm) (cRaise nm) := fun D E h => h
def cRaise1 (nm f : Str) (a : CA) : CS := fun E => (a E).bindF fun ds E1 => match ds with
  | [d] => .ex (nm, some (f, d)) E1
  | _ => .no
theorem sRaise1 {nm f : Str} {ta : DA} {a : CA} (sa : SA dw G ta a) : SS dw G (dRaise1 dw nm f ta) (cRaise1 nm f a) := fun D E h =>
  sa E _ (CR.sat_mono (CR.sat_bindF h) fun ds E1 h => by
    split at h
    · exact ⟨_, rfl, h⟩
    · exact h.elim)
/-- a reading that leaves slot i as it is -/
def Keeps (i : Nat) (c : CE) : Prop := ∀ E d, E[i]? = some (Sl3.val d) → match c E with
  | .ok _ E1 => E1[i]? = some (Sl3.val d)
  | _ => True
/-! what keeps the plain slots -/
def KA {α : Type} (c : Env3 → CR α) : Prop := ∀ (E E1 : Env3) (a : α) (i : Nat) (d : D), c E = .ok a E1 → E[i]? = some (Sl3.val d) → E1[i]? = some (Sl3.val d)
theorem KA.at {a : CE} (h : KA a) (i : Nat) : Keeps i a := fun E d e => by
  cases q : a E with
  | ok r E1 => exact h E E1 r i d q e
  | ex x E1 => exact True.intro
  | no => exact True.intro
theorem kOk {α : Type} {a : α} : KA fun E => CR.ok a E := fun E E1 b i d h e => by cases h; exact e
theorem kC {d : D} : KA (cC d) := kOk
/-! ### defs -/
/-- a def's answer: n its parameters -/
def runC (n : Nat) (N : List Str) (c : CS) : List D → C1 := fun ds => if Nat.beq ds.length n then (match c (start3 N ds) with
  | .nx _ => .ok (.val .non)
  | .rt r => .ok r
  | .ex x _ => .ex x
  | _ => .no) else .no
theorem len_runC {n : Nat} {N : List Str} {c : CS} : ∀ ds G q e, spC (runC n N c) ds G q e → ds.length = n := fun ds G q e h => by
  unfold spC runC at h
  by_cases z : Nat.beq ds.length n = true
  · exact Nat.eq_of_beq_eq_true z
  · rw [if_neg z] at h
    exact h.elim
theorem p_runC {n : Nat} {N : List Str} {c : CS} {dw : Exc3 → Reg → Prop} {t : DSt} (s : ∀ G, SS (fun x _ G => dw x G) G t c) : ∀ ds G q, spC (runC n N c) ds G q dw → t { nx := fun _ G' => q (.val .non) G', rt := q } (start3 N ds) G := fun ds G q h => by
  refine s G _ _ ?_
  unfold spC runC at h
  by_cases z : Nat.beq ds.length n = true
  · rw [if_pos z] at h
    cases q1 : c (start3 N ds) with
    | nx E => rw [q1] at h; exact h
    | rt r => rw [q1] at h; exact h
    | ex x E => rw [q1] at h; exact h
    | bk E => rw [q1] at h; exact h.elim
    | ct E => rw [q1] at h; exact h.elim
    | no => rw [q1] at h; exact h.elim
  · rw [if_neg z] at h
    exact h.elim
end
end L3

set_option Elab.async false
set_option maxRecDepth 100000
set_option maxHeartbeats 4000000
/-! L4, part d: isinstance, repr, ranges as lists, lambdas, reckoned. -/
namespace L3
open PySem PySem.Spec PyProof.Rows L2
section
variable {dw : DW} {G : Reg}
end
end L3
namespace L3
open PySem PySem.Spec PyProof.Rows L2
/-! ### tables of code objects that a promise wants -/
def HP : List (Addr × Str) → Reg → Prop
  | [], _ => True
  | p :: r, G => (p.1, encT p.2) ∈ G ∧ HP r G
end L3

set_option Elab.async false
set_option maxRecDepth 100000
set_option maxHeartbeats 4000000
/-! L5, the end's facts: exceptions' classes, isinstance, defs where no repr is under way. -/
namespace L3
open PySem PySem.Spec PyProof.Rows L2
section
variable {K : PySem.W.Frag} {mg : Str → Option Value}
theorem own0_mk {h : Heap} {x : Str} {C : Addr} {B newId initId : String} {bmB : List Value} (X : K.In h) (G : h.Ns mainGlobals mg) (a : PySem.W.nsIn K mainGlobals x = some (some (.ref C))) (F : ExcBaseFacts B newId initId bmB) (e : PySem.W.excIn K C bmB newId = true) (k : PySem.W.keepIn K (.ref C) = true)
    (s : PySem.W.subIn K (.ref C) (.type "BaseException") = some true) (t : PySem.W.typeIn K (.ref C) = some (.type "type")) : Own0 K mg x := ⟨C, B, newId, initId, bmB, a, PySem.W.mg_of X G a, F, e, k, s, t⟩
theorem em3_mk {n1 n2 : Str} {C1 C2 : Addr} {b : Bool} (a1 : PySem.W.nsIn K mainGlobals n1 = some (some (.ref C1))) (a2 : PySem.W.nsIn K mainGlobals n2 = some (some (.ref C2))) (e : PySem.W.exmOne K (.ref C1) (.ref C2) = some b) : Em3 K n1 n2 b := ⟨C1, C2, a1, a2, e⟩
theorem xf3_mk {n f : Str} {C : Addr} (a : PySem.W.nsIn K mainGlobals n = some (some (.ref C))) (ga : PySem.W.findIn K (.ref C) "__getattribute__" = some (some (.builtin "BaseException.__getattribute__"))) (gg : PySem.W.findIn K (.ref C) "__getattr__" = some none) (ex : PySem.W.subIn K (.ref C) (.type "BaseException") = some true) (hd : PySem.W.hasDictIn K C = true)
    (no : PySem.W.findIn K (.ref C) f = some none) : Xf3 K n f := ⟨C, a, ⟨ga, gg, ex, hd⟩, no⟩
theorem ok_atG {P : Program} {w : World} {base : Heap} {x : Str} {f : Addr} {k : Nat} {ps : List Str} {sp : DSp} {oc : Value} {od : Option Addr} {fd : FuncData} {osl : Array (Option Value)} (c : CalG P w K mg base x k ps sp) (hm : mg x = some (.ref f)) (l : K.lookup f = some ⟨oc, od, .func fd, osl⟩) : XG.FnG P w K mg base (L2.CX P w) k f fd ps (LSp K sp) := by
  obtain ⟨f', fd', F, hm', -, -, oc', od', osl', l'⟩ := c.ex
  cases hm.symm.trans hm'
  cases l.symm.trans l'
  exact F
end
end L3

set_option Elab.async false
set_option maxRecDepth 100000
set_option maxHeartbeats 4000000
/-! L5: calls without arguments, one of two readings, slots forgotten. -/
namespace L3
open PySem PySem.Spec PyProof.Rows L2
section
variable {X : Cx} {B : Base3}
end
section
open LamX
variable {X : Cx} {B : Base3}
end
theorem own1_mk {P : Program} {K : PySem.W.Frag} {h : Heap} {mg : Str → Option Value} {x f : Str} {C fI : Addr} {B i newId : String} {bmB : List Value} (X : K.In h) (G : h.Ns mainGlobals mg) (a : PySem.W.nsIn K mainGlobals x = some (some (.ref C))) (n : PySem.W.nsIn K mainGlobals "super" = some none)
    (T : XS.SupTxt P K B i newId bmB C fI f) : Own1 P K mg x f := ⟨C, fI, B, i, newId, bmB, a, PySem.W.mg_of X G a, PySem.W.mg_none_of X G n, T⟩
end L3

set_option Elab.async false
set_option maxRecDepth 100000
set_option maxHeartbeats 4000000
/-! L6: tools for what is reckoned of values that are not written. -/
namespace L3
open PySem PySem.Spec PyProof.Rows L2
theorem HP.cons {ps : List (Addr × Str)} {G : Reg} {p : Addr × List D} (h : HP ps G) : HP ps (p :: G) := by
  induction ps with
  | nil => trivial
  | cons a r ih => exact ⟨List.mem_cons_of_mem _ h.1, ih h.2⟩
theorem HP.self : ∀ {ps qs : List (Addr × Str)}, (∀ p ∈ ps, p ∈ qs) → HP ps (qs.map fun p => (p.1, encT p.2))
  | [], _, _ => trivial
  | p :: r, qs, h => ⟨List.mem_map.mpr ⟨p, h p List.mem_cons_self, rfl⟩, HP.self fun x hx => h x (List.mem_cons_of_mem _ hx)⟩
mutual
def D.beq : D → D → Bool
  | .non, .non => true
  | .bl a, .bl b => decide (a = b)
  | .int a, .int b => decide (a = b)
  | .str a, .str b => decide (a = b)
  | .ref a, .ref b => decide (a = b)
  | .ty a, .ty b => decide (a = b)
  | .tup a, .tup b => D.beqL a b
  | .lst a, .lst b => D.beqL a b
  | .scr a, .scr b => decide (a = b)
  | .obj n a, .obj m b => decide (n = m) && D.beqL a b
  | .cls a, .cls b => decide (a = b)
  | .tag a, .tag b => decide (a = b)
  | _, _ => false
def D.beqL : List D → List D → Bool
  | [], [] => true
  | a :: r, b :: s => D.beq a b && D.beqL r s
  | _, _ => false
end
/-- it gives that very value -/
def C1.gives (c : C1) (d : D) : Bool := match c with
  | .ok (.val e) => D.beq e d
  | _ => false
theorem spots_le {m n : Int} (h0 : 1 ≤ m) (hn : True) : 0 ≤ (if (if n < m then n else m) > 1 then (if n < m then n else m) else 1) ∧ (if (if n < m then n else m) > 1 then (if n < m then n else m) else 1) ≤ m := by
  by_cases h1 : n < m
  · simp only [if_pos h1]
    split <;> omega
  · simp only [if_neg h1]
    split <;> omega
section
variable {X : Cx} {B : Base3}
end
end L3

set_option Elab.async false
set_option maxRecDepth 100000
set_option maxHeartbeats 4000000
/-! ZE: a dict is no text: == of both. -/
namespace PySem.SeqAt
open PySem Builtin
variable {A : Around} {s : Shared}
theorem dict_eq_declines_str (l : Addr) (es : Array DictEntry) (ep : Nat) (dd : Option Addr) (sl : Array (Option Value)) (b : Str) (u : Tok) :
    Meets (Builtin.«dict.__eq__» ⟨[.ref l, .str b u], []⟩) (fun _ R s => s.heap.get? l = some { cls := .type "dict", dict := dd, data := .dict es ep, slots := sl } ∧ R (.ok (.ret .notImplemented)) s) :=
  .of_wp fun prog w A R s h => by obtain ⟨hp, g, d, tk, os⟩ := s; obtain ⟨hl, h⟩ := h; have f1 := F.sub_str_dict; wp_walk using wpAny_loadPart' hl; exact ⟨_, rfl, h⟩
theorem str_eq_declines_dict (b : Str) (u : Tok) (l : Addr) (c : Value) (es : Array DictEntry) (ep : Nat) (dd : Option Addr) (sl : Array (Option Value)) :
    Meets (Builtin.«str.__eq__» ⟨[.str b u, .ref l], []⟩) (fun _ R s => s.heap.get? l = some { cls := c, dict := dd, data := .dict es ep, slots := sl } ∧ R (.ok (.ret .notImplemented)) s) :=
  .of_wp fun prog w A R s h => by obtain ⟨hp, g, d, tk, os⟩ := s; obtain ⟨hl, h⟩ := h; wp_walk using wpAny_loadPart' hl, wpAny_load hl; exact ⟨_, rfl, h⟩
theorem RcAt.dict_str {l : Addr} {o : Obj} {es : Array DictEntry} {ep : Nat} (b : Str) (u : Tok) (ho : s.heap.get? l = some o) (hc : o.cls = .type "dict") (hd : o.data = .dict es ep) (hu : A.units < cLine) : RcAt A s (.ref l) (.str b u) false := fun prog w E Q h => by
  obtain ⟨cls, dd, data, sl⟩ := o
  simp only at hc hd
  subst hc hd
  exact rc_eq_decline_or (k := false) ⟨_, ho, rfl⟩ (typeIs_str s b u) (by decide) F.sub_str_dict F.slot_dict_eq F.slot_str_eq_refl
    (fun _ hq => call_meets F.slot_dict_eq ⟨_, ho, rfl⟩ F.entry_dict_eq (F.args_dict_eq_2 _ _) (dict_eq_declines_str l es ep dd sl b u) ⟨ho, hq⟩)
    (fun _ hq => call_meets F.slot_str_eq_refl (typeIs_str s b u) F.entry_str_eq (F.args_str_eq_2 _ _) (str_eq_declines_dict b u l (.type "dict") es ep dd sl) ⟨ho, hq⟩)
    (fun _ hq => wpAny_of_eq (rfl : isSame (.ref l) (.str b u) = pure false) hq) (.inr hu) h
end PySem.SeqAt
namespace L3
open PySem PySem.Spec PyProof.Rows L2
section
variable {X : Cx} {B : Base3}
def isDc : D → Bool
  | .dcK _ _ => true
  | _ => false
def rDS (K : PySem.W.Frag) (b : Bool) : R2 := fun x y H Q => ∃ (a : Addr) (kvs : List (Key × V)) (z : Str), x = .ref a ∧ Rd H a (.dK kvs) ∧ y = .str z ∧ Q (.bl b) H
theorem op_eqDS (hu : X.A.units + 64 < cLine) : OpR X (compareOp .Eq) (rDS X.K false) := by
  intro pins s σ H x y v u Q I rx ry ⟨a, kvs, z, ex, hr, ey, q⟩
  subst ex ey
  obtain rfl : v = Value.ref a := rx
  obtain ⟨t, rfl⟩ := (show ∃ t, u = Value.str z t from ry)
  obtain ⟨_, _, vs, _, o, es, ep, e1, e2, e3, _⟩ := hr.ok I.hok
  exact SeqAt.RcAt.dict_str z t e1 e2.1 e3 (by omega) X.prog X.w X.xe _ ⟨.bl _, H, I, rfl, q⟩
/-- ==, of a dict and a text too -/
def oEqD : Reg → D → D → (Res → Prop) → Prop := fun G d e k => oEq G d e k ∨ (isDc d = true ∧ (∃ z, e = .str z) ∧ k (.val (.bl false)))
theorem r_eqDS : ROp X B (fun x y H Q => rEqD X.K x y H Q ∨ rDS X.K false x y H Q) oEqD := by
  intro pn F H σ E G x y d e k Q S rx ry h hk
  rcases h with h | ⟨h1, ⟨z, rfl⟩, h⟩
  · exact .inl (r_eq3 pn F H σ E G x y d e k Q S rx ry h hk)
  · cases d with
    | dcK ks ds =>
      obtain ⟨a, ob, xs, rfl, h1, h2, h3⟩ := rx.dck S.w.sub
      exact .inr ⟨a, _, z, rfl, .inr ⟨ob, h1⟩, ry.str, hk _ h _ F H S (Same.refl F) (.bl _)⟩
    | _ => cases h1
def fEqD (d e : D) : Option Res := match d, e with
  | .dcK _ _, .str _ => rB1 false
  | d, e => fEq d e
theorem f_eqD : SOp oEqD fEqD := fun G d e k r h hk => by
  unfold fEqD at h
  split at h
  · rw [rB1_eq] at h
    cases h
    exact .inr ⟨rfl, ⟨_, rfl⟩, hk⟩
  · exact .inl (f_eq G _ _ k r h hk)
theorem lt_eqD {a b : Expr} {ta tb : DE} {pos : Pos} {k : Nat} (hr : Room k X.A) (ha : LE X B a ta) (hb : LE X B b tb) : LT X B (.Compare a [.Eq] [b] pos) (dTest (dOp oEqD ta tb)) := lt_cmp ((op_eqD hr.units).or (op_eqDS hr.units)) r_eqDS ha hb (nomark _)
end
end L3

set_option Elab.async false
set_option maxRecDepth 100000
set_option maxHeartbeats 4000000
/-! ZK: what the layer of exceptions wants to know of KeyError, whose __new__ stands with LookupError. -/
namespace ZK
open PySem PySem.F PySem.W
abbrev bmK : List Value := [.type "KeyError", .type "LookupError", .type "Exception", .type "BaseException", .type "object"]
theorem eb_KeyError : XS.EBE "KeyError" "LookupError.__new__" "KeyError.__init__" bmK := ⟨"LookupError", {
  ends := by decide +kernel
  owner := by decide +kernel
  entry := excBase_LookupError.entry
  canon := excBase_LookupError.canon
  quiet := by decide +kernel
  newSplit := excBase_LookupError.newSplit
  newKind := excBase_LookupError.newKind
  newRow := excBase_LookupError.newRow
  starL := by decide +kernel
  hasL := by decide +kernel
  noAttr := by decide +kernel
  noName := by decide +kernel
  init := PyProof.Rows.excClass_KeyError.init
  initEntry := PyProof.Rows.excClass_KeyError.initEntry
  initKind := PyProof.Rows.excClass_KeyError.initKind
  initRow := PyProof.Rows.excClass_KeyError.initSig
  noStar := by decide +kernel }⟩
theorem kxs_KeyError : KxsFacts "KeyError" "KeyError.__init__" := ⟨by show builtinType _ = _; rw [builtinType_eq_fast]; kernel_rfl, by first | kernel_rfl | rfl⟩
theorem store_KeyError : StoreFacts "KeyError" bmK "object.__setattr__" "object" := {
  mro := by kernel_rfl,
  slot := .of (owner := "object") (n := "__setattr__")
    (by rw [typeLookup_type, builtinLookup_eq_fast]; kernel_rfl)
    (by decide +kernel) (by decide +kernel) (by decide +kernel)
    (by first | exact .inl (by decide +kernel) | exact .inr (by decide +kernel))
    (by rw [isSubtype_type]; kernel_rfl),
  entry := entry_object_sa, kind := by decide +kernel, split := by decide +kernel, hasOwner := by decide +kernel,
  args := fun a b c => by unfold argsOk; kernel_rfl,
  passes := fun self => by kernel_rfl }
end ZK

set_option Elab.async false
set_option maxRecDepth 100000
set_option maxHeartbeats 4000000
/-! LQ: words of errors, told for reckoned calls -/
namespace L3
open PySem PySem.Spec PyProof.Rows L2
end L3

set_option Elab.async false
set_option maxRecDepth 100000
set_option maxHeartbeats 4000000
/-! GN: next(generator expression, a default): what stands before the first yield. -/
namespace GN
open PySem PySem.Spec PyProof.Rows L2
section
variable {prog : Program} {w : World} {A : Around} {elt target iter c : Expr} {scope : Scope} {pos : Pos} {I : Addr} {cenv : Env} {St : Nat → Shared → Prop} {Done : Shared → Prop} {Out : Value → Shared → Prop}
end
/-- the place of the first pair whose sides differ -/
def fd : List (Int × Int) → Option Nat
  | [] => none
  | p :: ps => if p.1 = p.2 then (fd ps).map (· + 1) else some 0
section
variable {prog : Program} {w : World} {scope : Scope} {xa xb xc : Str} {cenv : Env} {K0 : Shared} {e it C l : Addr} {items : Array Value} {ps : List (Int × Int)}
end
end GN

set_option Elab.async false
set_option maxRecDepth 100000
set_option maxHeartbeats 4000000
/-! GN2: next((a + 1 for a, (b, c) in enumerate(pairs) if b != c), None) over the layer's heap. -/
namespace GN
open PySem PySem.Spec PyProof.Rows L2 GxR
section
variable {X : Cx} {c P : Addr} {xa xb xc : Str} {scope : Scope} {e : Expr} {ta : TA} {k : Nat} {pn pe p1 p2 p3 p4 p5 q1 q2 q3 q4 q5 q6 gpos epos pos cp : Pos} {k1 k2 j1 j2 : Nat}
end
end GN

set_option Elab.async false
set_option maxRecDepth 100000
set_option maxHeartbeats 4000000
/-! L10: next((a + 1 for a, (b, c) in enumerate(pairs) if b != c), None), read over plain values. -/
namespace L3
open PySem PySem.Spec PyProof.Rows L2 LamX
section
variable {K : PySem.W.Frag} {F : Hp}
end
section
variable {X : Cx} {B : Base3}
end
end L3

set_option Elab.async false
set_option maxRecDepth 100000
set_option maxHeartbeats 4000000
/-! ZL: list(zip(..)) of lists and tuples. -/
namespace ZN
open PySem PySem.Spec PyProof.Rows L2
section
variable {prog : Program} {w : World} {A : Around} {E : Value → Shared → Prop} {s : Shared}
/-- a zip with all behind it, at the i-th turn; S: the list that is filled -/
def ZLst (S z TI TO : Nat) (cs : List Src) (i : Nat) (h : Heap) : Prop := IsTup h TI (cs.map fun c => .ref c.it) ∧ (∀ c ∈ cs, ItAt c.k h c.it c.a i) ∧
  ((IsZip h z TI TO .none ∧ ∃ ys : List Value, ys.length = cs.length ∧ IsTup h TO ys) ∨ ∃ (T : Nat) (f : Bool) (oT : Obj), IsZipHeld h z TI TO T f ∧ h.get? T = some oT ∧ T ≠ S ∧ T ≠ z ∧ T ∉ cs.map Src.it) ∧ ∃ o, h.get? TO = some o
theorem ZLst.frame {S z TI TO : Nat} {cs : List Src} {i : Nat} {h h' : Heap} (st : ZLst S z TI TO cs i h) (a1 : TI ≠ S) (a2 : TO ≠ S) (a3 : z ≠ S) (a4 : ∀ c ∈ cs, c.it ≠ S) (k : ∀ b o, b ≠ S → h.get? b = some o → h'.get? b = some o) : ZLst S z TI TO cs i h' := by
  obtain ⟨b1, b2, b3, oO, b4⟩ := st
  refine ⟨k _ _ a1 b1, fun c hc => (b2 c hc).over fun o e => k _ o (a4 c hc) e, ?_, oO, k _ _ a2 b4⟩
  rcases b3 with ⟨c1, ys, c2, c3⟩ | ⟨T, f, oT, c1, c2, c3, c4, c5⟩
  · exact .inl ⟨k _ _ a3 c1, ys, c2, k _ _ a2 c3⟩
  · exact .inr ⟨T, f, oT, k _ _ a3 c1, k _ _ c3 c2, c3, c4, c5⟩
/-- what has been handed out so far, each in a tuple of its own -/
def Rows (n0 : Nat) (S : Nat) (ts : List Nat) (rows : List (List Value)) (h : Heap) : Prop := ts.Nodup ∧ ts.length ≤ rows.length ∧ ∀ (j : Nat) (t : Nat), ts[j]? = some t → n0 ≤ t ∧ t ≠ S ∧ ∃ vs, rows[j]? = some vs ∧ IsTup h t vs
/-- what stands ahead of list(zip(..)) -/
structure Ahead (z TI TO n0 : Nat) (cs : List Src) (xs : Src → Array Value) (rows : List (List Value)) (h : Heap) : Prop where
  D : Apart z TI TO cs
  ne : cs ≠ []
  n : cs.length < 1000
  nz : n0 ≤ z
  nI : n0 ≤ TI
  nO : n0 ≤ TO
  ni : ∀ c ∈ cs, n0 ≤ c.it
  lo : ∀ c ∈ cs, c.a < n0
  sq : ∀ c ∈ cs, SqAt c.k h c.a (xs c)
  row : ∀ (i : Nat) (vs : List Value), rows[i]? = some vs → cs.map (fun c => (xs c)[i]?) = vs.map some
  last : ∃ c ∈ cs, (xs c)[rows.length]? = none
  hz : rows.length ≤ sizeLine
  zip : IsZip h z TI TO .none
  ti : IsTup h TI (cs.map fun c => .ref c.it)
  to : ∃ ys : List Value, ys.length = cs.length ∧ IsTup h TO ys
  it : ∀ c ∈ cs, ItAt c.k h c.it c.a 0
theorem Ahead.keep {z TI TO n0 : Nat} {cs : List Src} {xs : Src → Array Value} {rows : List (List Value)} {h h' : Heap} (a : Ahead z TI TO n0 cs xs rows h) (k : ∀ b o, h.get? b = some o → h'.get? b = some o) : Ahead z TI TO n0 cs xs rows h' :=
  ⟨a.D, a.ne, a.n, a.nz, a.nI, a.nO, a.ni, a.lo, fun c hc => (a.sq c hc).over fun o e => k _ o e, a.row, a.last, a.hz, k _ _ a.zip, k _ _ a.ti, let ⟨ys, e, q⟩ := a.to; ⟨ys, e, k _ _ q⟩, fun c hc => (a.it c hc).over fun o e => k _ o e⟩
theorem Ahead.st {S z TI TO n0 : Nat} {cs : List Src} {xs : Src → Array Value} {rows : List (List Value)} {h : Heap} (a : Ahead z TI TO n0 cs xs rows h) : ZLst S z TI TO cs 0 h :=
  ⟨a.ti, a.it, .inl ⟨a.zip, a.to⟩, let ⟨ys, _, q⟩ := a.to; ⟨_, q⟩⟩
end
end ZN

set_option Elab.async false
set_option maxRecDepth 100000
set_option maxHeartbeats 4000000
/-! ZL2: list(zip(..)) over the layer's heap. -/
namespace ZN
open PySem PySem.Spec PyProof.Rows L2
section
variable {X : Cx} {pins : List (Addr × Obj)} {σ : L2.St} {H H' : Hp} {s : Shared}
end
section
variable {X : Cx} {p p2 pos pos2 : Pos} {e : Expr} {es : List Expr} {ta : TA}
end
end ZN

set_option Elab.async false
set_option maxRecDepth 100000
set_option maxHeartbeats 4000000
/-! L11: list(zip(..)) over plain values. -/
namespace L3
open PySem PySem.Spec PyProof.Rows L2
section
inductive RepT (K : PySem.W.Frag) (F : Hp) : List (List D) → List (List V) → Prop
  | nil : RepT K F [] []
  | cons {d : List D} {r : List V} {ds : List (List D)} {rs : List (List V)} : RepL K F d r → RepT K F ds rs → RepT K F (d :: ds) (r :: rs)
theorem RepT.mono {K : PySem.W.Frag} {F F' : Hp} (e : Same F F') : ∀ {ds : List (List D)} {rs : List (List V)}, RepT K F ds rs → RepT K F' ds rs
  | _, _, .nil => .nil
  | _, _, .cons h t => .cons (RepL.mono e _ _ h) (RepT.mono e t)
theorem RepT.of {K : PySem.W.Frag} {F : Hp} : ∀ {ds : List (List D)} {rs : List (List V)}, ds.length = rs.length → (∀ (i : Nat) d r, ds[i]? = some d → rs[i]? = some r → RepL K F d r) → RepT K F ds rs
  | [], [], _, _ => .nil
  | [], _ :: _, h, _ => by cases h
  | _ :: _, [], h, _ => by cases h
  | d :: ds, r :: rs, h, g => .cons (g 0 d r rfl rfl) (RepT.of (by simpa using h) fun i d r h1 h2 => g (i + 1) d r (by simpa using h1) (by simpa using h2))
variable {K : PySem.W.Frag} {B : Base3} {pn : Pend} {σ : L2.St} {E : Env3} {G : Reg}
end
section
variable {X : Cx} {B : Base3} {K : PySem.W.Frag}
end
end L3

set_option Elab.async false
set_option maxRecDepth 100000
set_option maxHeartbeats 4000000
/-! L7: try with except clauses, reckoned. -/
namespace L3
open PySem PySem.Spec PyProof.Rows L2
section
variable {a : Addr} {x : Exc3} {o : Option Nat}
def hC (d : D) : Exc3 → Option Res := fun _ => some (.val d)
def hF (xt : List (Str × Str)) (f : Str) : Exc3 → Option Res := fun x => match x.2 with
  | some (g, d) => if f = g ∧ xt.contains (x.1, f) = true then some (.val d) else none
  | none => none
end
end L3

set_option Elab.async false
set_option maxRecDepth 100000
set_option maxHeartbeats 4000000
/-! L8: extend, pop, divmod. -/
namespace L3
open PySem PySem.Spec PyProof.Rows L2
section
variable {X : Cx} {B : Base3}
end
/-! ### reckoned -/
section
variable {dw : DW} {G : Reg}
end
end L3

set_option Elab.async false
set_option maxRecDepth 100000
set_option maxHeartbeats 4000000
/-! L9: comprehensions with two fors. -/
namespace L3
open PySem PySem.Spec PyProof.Rows L2
section
variable {K : PySem.W.Frag} {B : Base3}
end
section
variable {X : Cx} {B : Base3}
end
/-! ### reckoned -/
section
variable {dw : DW} {G : Reg}
end
end L3

set_option Elab.async false
set_option maxRecDepth 100000
set_option maxHeartbeats 4000000
/-! L12: == of two instances by their own __eq__; range with three arguments. -/
namespace L3
open PySem PySem.Spec PyProof.Rows L2
section
variable {X : Cx} {B : Base3}
end
section
variable {X : Cx} {B : Base3} {K : PySem.W.Frag}
end
section
variable {X : Cx} {B : Base3}
end
end L3

set_option Elab.async false
set_option maxRecDepth 100000
set_option maxHeartbeats 4000000
/-! L13: a list of our own is lent to a call: for its length the list stands as a register. -/
namespace L3
open PySem PySem.Spec PyProof.Rows L2
section
variable {X : Cx} {B : Base3}
end
section
variable {K : PySem.W.Frag} {B : Base3} {pn : Pend} {F H : Hp} {σ : L2.St} {E : Env3} {G : Reg}
theorem St3.back {b : Addr} {ds : List D} (S : St3 K B pn F H σ E (G ++ [(b, ds)])) {i : Nat} (hl : isL ds = true) (hi : E[i]? = some (Sl3.val (.ref b))) (nB : B.H b = none) (nG : b ∉ B.G) :
    St3 K B pn F H σ (E.set i (.own ds)) G := by
  have mG : ∀ a, a ∈ (G ++ [(b, ds)]).map (·.1) ↔ a ∈ G.map (·.1) ∨ a = b := fun a => by
    rw [List.map_append, List.mem_append]; simp
  have nd := S.w.nd
  rw [List.map_append, List.nodup_append] at nd
  have bG : b ∉ G.map (·.1) := fun h => nd.2.2 b h b (by simp) rfl
  obtain ⟨nF, o, ho, ro⟩ := S.w.reg b ds (List.mem_append.mpr (.inr (List.mem_singleton.mpr rfl)))
  obtain ⟨xs, rfl, rx⟩ := ro.lstOf hl
  obtain ⟨v, hv, rv⟩ := S.slot i _ hi
  cases rv
  have nP : b ∉ pn.map (·.1) := fun h => by
    obtain ⟨p, hp, rfl⟩ := List.mem_map.mp h
    exact (S.pend p.1 p.2 hp).2.2.2 ((mG _).mpr (.inr rfl))
  have fb : Fre K B pn F H G b ds := ⟨nF, nB, bG, nP, xs, ho, rx⟩
  have oth : ∀ (j : Nat) (t : Sl3) (d : D), E[j]? = some t → t.ow = some d → ∃ a, σ[j]? = some (some (V.ref a)) ∧ a ≠ b ∧ FreX K B pn F H G a d := fun j t d q ho => by
    obtain ⟨a, ha, g⟩ := S.own j t d q ho
    exact ⟨a, ha, fun z => g.nG ((mG a).mpr (.inr z)), ⟨g.nF, g.nB, fun z => g.nG ((mG a).mpr (.inl z)), g.nP, g.ex⟩⟩
  refine ⟨⟨S.w.sub, fun a es h => S.w.reg a es (List.mem_append.mpr (.inl h)), nd.1⟩, S.keepF, S.keepH, S.unfr, fun a h => S.regs a ((mG a).mpr (.inl h)), fun a h => ?_, by rw [List.length_set]; exact S.len, fun j d h => ?_, fun j t d h ho => ?_, fun j k t u d e a h1 h2 o1 o2 h3 h4 => ?_, fun a o h => ?_, S.pnd, fun nm fs h => ?_⟩
  · rcases (mG a).mp (S.regk a h) with z | rfl
    · exact z
    · exact absurd h nG
  · rcases set_look h with ⟨_, q⟩ | ⟨_, q⟩
    · cases q
    · exact S.slot j d q
  · rcases set_look h with ⟨rfl, q⟩ | ⟨_, q⟩
    · subst q; cases ho; exact ⟨b, hv, fb.x⟩
    · obtain ⟨a, ha, _, g⟩ := oth j t d q ho
      exact ⟨a, ha, g⟩
  · rcases set_look h1 with ⟨rfl, q⟩ | ⟨_, q1⟩
    · rcases set_look h2 with ⟨rfl, _⟩ | ⟨_, q2⟩
      · rfl
      · obtain ⟨c, hc, nc, _⟩ := oth k u e q2 o2
        rw [hv] at h3; cases h3
        rw [hc] at h4; cases h4
        exact absurd rfl nc
    · rcases set_look h2 with ⟨rfl, q⟩ | ⟨_, q2⟩
      · obtain ⟨c, hc, nc, _⟩ := oth j t d q1 o1
        rw [hv] at h4; cases h4
        rw [hc] at h3; cases h3
        exact absurd rfl nc
      · exact S.ownd j k t u d e a q1 q2 o1 o2 h3 h4
  · obtain ⟨h1, h2, h3, h4⟩ := S.pend a o h
    exact ⟨h1, h2, h3, fun z => h4 ((mG a).mpr (.inl z))⟩
  · rcases set_look h with ⟨_, q⟩ | ⟨_, q⟩
    · cases q
    · exact S.news nm fs q
end
end L3

set_option Elab.async false
set_option maxRecDepth 100000
set_option maxHeartbeats 4000000
/-! L14: a, b, c = x, [..], z with a list of our own in the midst; a fresh list handed on as a register. -/
namespace L3
open PySem PySem.Spec PyProof.Rows L2
section
variable {X : Cx} {B : Base3}
end
/-- a fresh list becomes a register -/
def dFresh (te : DE) : DE := fun E G k => te E G fun r E1 G1 => ∃ ds, r = .fr ds ∧ ∀ a, k (.val (.ref a)) E1 ((a, ds) :: G1)
theorem le_fresh {X : Cx} {B : Base3} {e : Expr} {te : DE} (he : LE X B e te) : LE X B e (dFresh te) :=
  ⟨pe_imp he.pe fun σ H Q ⟨pn, F, E, G, k, S, h, hk⟩ => ⟨pn, F, E, G, _, S, h, fun r E1 G1 ⟨ds, hr, h1⟩ v F1 H1 S1 s1 r1 => by
    subst hr
    obtain ⟨a, rfl, f, no⟩ := r1
    exact hk _ _ _ (h1 a) _ F1 H1 (S1.promote f no) s1 (.ref a)⟩⟩
section
variable {X : Cx}
end
end L3

set_option Elab.async false
set_option maxRecDepth 100000
set_option maxHeartbeats 4000000
/-! XU: SupTxt from facts of the written part, one by one. -/
namespace XS
open PySem PySem.W PySem.Calls PyProof.Rows PySem.HandSPX Builtin Builtin.ObjectAttr
/-- what the scope of such an __init__ must be -/
def supOk (scope : Scope) (sN vN : Str) : Bool :=
  !decide (sN = vN) && decide (scope.kind = .function) && !scope.isCoroutine && !scope.isGenerator && scope.names.all (fun x => !decide (x.2 = .cell)) &&
  decide (scope.names.lookup sN = some .local) && decide (scope.names.lookup vN = some .local) && decide (scope.names.lookup ("super" : Str) = some .globalImplicit) && decide (scope.names.lookup ("__class__" : Str) = some .free) &&
  !(sN == ("__debug__" : Str)) && !(vN == ("__debug__" : Str))
structure SupRest (prog : Program) (qual sN vN m : Str) (params : Arguments) (scope : Scope) (f : Str) (j : Nat) (p0 p1 p2 p3 p4 p5 q1 q2 q3 q4 : Pos) (cda cc : Addr) (doc pm ct : Value) (an : Option Addr) (file : Str) : Prop where
  bind : ∀ u v : Value, bindArgs (ksFn "__init__" qual params (supBody m sN vN f j p0 p1 p2 p3 p4 p5 q1 q2 q3 q4) scope .none .none doc pm an (.ref cda) ct cc) ⟨[u, v], []⟩ = pure [(sN, u), (vN, v)]
  head : (params.posonlyargs ++ params.args).head?.map (·.arg) = some sN
  ok : supOk scope sN vN = true
  file : ((prog.main.file : Str) == file) = true
  ev : SupEv qual scope cda cc m j p0 p1 p2 p3 p4
  top : (prog.main.scope.names.lookup ("super" : Str)).isSome = false
theorem supRest_by {prog : Program} {qual sN vN m : Str} {params : Arguments} {scope : Scope} {f : Str} {j : Nat} {p0 p1 p2 p3 p4 p5 q1 q2 q3 q4 : Pos} {cda cc : Addr} {doc pm ct : Value} {an : Option Addr} {file : Str}
    (hf : ((prog.main.file : Str) == file) = true)
    (hb : ∀ u v : Value, bindArgs (ksFn "__init__" qual params (supBody m sN vN f j p0 p1 p2 p3 p4 p5 q1 q2 q3 q4) scope .none .none doc pm an (.ref cda) ct cc) ⟨[u, v], []⟩ = pure [(sN, u), (vN, v)])
    (hh : (params.posonlyargs ++ params.args).head?.map (·.arg) = some sN) (hs : supOk scope sN vN = true) (ht : (prog.main.scope.names.lookup ("super" : Str)).isSome = false) (he : SupEv qual scope cda cc m j p0 p1 p2 p3 p4) :
    SupRest prog qual sN vN m params scope f j p0 p1 p2 p3 p4 p5 q1 q2 q3 q4 cda cc doc pm ct an file := ⟨hb, hh, hs, hf, he, ht⟩
theorem sup_mk {prog : Program} {K : Frag} {B i newId : String} {bmB : List Value} {C fI : Addr} {f : Str} {oc doc pm ct : Value} {od an : Option Addr} {osl : Array (Option Value)} {params : Arguments} {scope : Scope} {m sN vN qual : Str} {j : Nat} {p0 p1 p2 p3 p4 p5 q1 q2 q3 q4 : Pos} {cda cc : Addr}
    {cl ccl : Value} {cld cdd : Option Addr} {csl ccs : Array (Option Value)} {vs : Array Value} {file : Str} {tf : Tok}
    (bx : BaseX B i newId bmB) (opq : nsIn K cStatics "thirdparty.any" = some none)
    (y1 : excInitIn K C bmB newId = true) (y2 : hasDictIn K C = true) (y3 : excOver K C bmB = true) (y4 : findIn K (.ref C) "__setattr__" = some (some (.builtin "object.__setattr__"))) (y5 : findIn K (.ref C) f = some none) (y6 : takerIn K C f = some none)
    (y7 : findIn K (.ref C) "__init__" = some (some (.ref fI))) (y8 : typeIn K (.ref fI) = some (.type "function")) (y9 : keepIn K (.ref C) = true) (y10 : subIn K (.ref C) (.type "BaseException") = some true) (y11 : typeIn K (.ref C) = some (.type "type"))
    (y12 : ks_superIn K C C "__init__" = some (some (.builtin i))) (y13 : subIn K (.ref C) (.type B) = some true) (y14 : mroIn K C (.ref C) = some true)
    (y15 : K.lookup fI = some ⟨oc, od, .func (ksFn "__init__" qual params (supBody m sN vN f j p0 p1 p2 p3 p4 p5 q1 q2 q3 q4) scope .none .none doc pm an (.ref cda) ct cc), osl⟩)
    (y16 : codeIn K (.ref cda) qual = true) (y17 : K.lookup cc = some ⟨cl, cld, .cell (some (.ref C)), csl⟩) (y18 : K.lookup cda = some ⟨ccl, cdd, .fields vs, ccs⟩) (y19 : (vs[2]? : Option Value) = some (.str file tf))
    (y20 : SupRest prog qual sN vN m params scope f j p0 p1 p2 p3 p4 p5 q1 q2 q3 q4 cda cc doc pm ct an file) : SupTxt prog K B i newId bmB C fI f := by
  obtain ⟨hb, hh, hs, hf, he, ht⟩ := y20
  unfold supOk at hs
  simp only [Bool.and_eq_true, Bool.not_eq_true', decide_eq_true_eq, decide_eq_false_iff_not, List.all_eq_true] at hs
  obtain ⟨⟨⟨⟨⟨⟨⟨⟨⟨⟨s1, s2⟩, s3⟩, s4⟩, s5⟩, s6⟩, s7⟩, s8⟩, s9⟩, s10⟩, s11⟩ := hs
  refine ⟨bx, y1, ?_, y3, y4, y5, y6, y7, y8, y9, y10, y11, y12, y13, y14, opq, ?_, ht⟩
  · unfold hasDictIn at y2
    cases e : clsIn K C with
    | none => rw [e] at y2; cases y2
    | some cd => rw [e] at y2; exact ⟨cd, rfl, y2⟩
  · exact ⟨oc, od, qual, params, scope, doc, pm, an, cda, ct, osl, cc, m, sN, vN, j, p0, p1, p2, p3, p4, p5, q1, q2, q3, q4, y15, y16, hb, hh, s1, s2, s3, s4, s5, s6, s7, s8, s9, s10, s11, ⟨cl, cld, csl, y17⟩, ⟨ccl, cdd, vs, ccs, file, tf, y18, y19, hf⟩, he⟩
end XS

set_option Elab.async false
set_option maxRecDepth 100000
set_option maxHeartbeats 4000000
/-! K01: reckoned defs (printed by gen5.py) -/
namespace K01
open PySem PySem.Spec PyProof.Rows L2 L3
def rb__law_raise_first : CS :=
  (cSeq (cIfS (cTest (cOp fEqD (cVar 0) (cC (.int (0))))) (cRaise "InvalidPrime") cNext)
    (cSeq (cIfS (cTest (cOp fEqD (cVar 0) (cC (.int (1))))) (cRaise "InvalidWord") cNext)
    (cSeq (cIfS (cTest (cOp fEqD (cVar 0) (cC (.int (2))))) (cRaise "InvalidPoint") cNext)
    (cSeq (cIfS (cTest (cOp fEqD (cVar 0) (cC (.int (3))))) (cRaise "InvalidRow") cNext)
    (cSeq (cIfS (cTest (cOp fEqD (cVar 0) (cC (.int (4))))) (cRaise "InvalidTable") cNext)
    (cSeq (cIfS (cTest (cOp fEqD (cVar 0) (cC (.int (5))))) (cRaise "InvalidPlane") cNext)
    (cSeq (cIfS (cTest (cOp fEqD (cVar 0) (cC (.int (6))))) (cRaise "InvalidCurve") cNext)
    (cSeq (cIfS (cTest (cOp fEqD (cVar 0) (cC (.int (7))))) (cRaise "InvalidWeights") cNext)
    (cSeq (cIfS (cTest (cOp fEqD (cVar 0) (cC (.int (8))))) (cRaise "InvalidOrders") cNext)
    (cSeq (cIfS (cTest (cOp fEqD (cVar 0) (cC (.int (9))))) (cRaise "InvalidPaper") cNext)
    (cSeq (cIfS (cTest (cOp fEqD (cVar 0) (cC (.int (10))))) (cRaise "InvalidTree") cNext)
    (cSeq (cIfS (cTest (cOp fEqD (cVar 0) (cC (.int (11))))) (cRaise "InvalidPlait") cNext)
    (cRaise "InvalidOperation")))))))))))))
def r__law_raise_first : List D → C1 := runC 1 ["_law_number"] rb__law_raise_first
def tc__law_raise_first (dw : Exc3 → Reg → Prop) : DSt :=
  (dSeq (dIfS (dTest (dOp oEqD (dVar 0) (dC (.int (0))))) (dRaise (fun x _ G => dw x G) "InvalidPrime") dNext)
    (dSeq (dIfS (dTest (dOp oEqD (dVar 0) (dC (.int (1))))) (dRaise (fun x _ G => dw x G) "InvalidWord") dNext)
    (dSeq (dIfS (dTest (dOp oEqD (dVar 0) (dC (.int (2))))) (dRaise (fun x _ G => dw x G) "InvalidPoint") dNext)
    (dSeq (dIfS (dTest (dOp oEqD (dVar 0) (dC (.int (3))))) (dRaise (fun x _ G => dw x G) "InvalidRow") dNext)
    (dSeq (dIfS (dTest (dOp oEqD (dVar 0) (dC (.int (4))))) (dRaise (fun x _ G => dw x G) "InvalidTable") dNext)
    (dSeq (dIfS (dTest (dOp oEqD (dVar 0) (dC (.int (5))))) (dRaise (fun x _ G => dw x G) "InvalidPlane") dNext)
    (dSeq (dIfS (dTest (dOp oEqD (dVar 0) (dC (.int (6))))) (dRaise (fun x _ G => dw x G) "InvalidCurve") dNext)
    (dSeq (dIfS (dTest (dOp oEqD (dVar 0) (dC (.int (7))))) (dRaise (fun x _ G => dw x G) "InvalidWeights") dNext)
    (dSeq (dIfS (dTest (dOp oEqD (dVar 0) (dC (.int (8))))) (dRaise (fun x _ G => dw x G) "InvalidOrders") dNext)
    (dSeq (dIfS (dTest (dOp oEqD (dVar 0) (dC (.int (9))))) (dRaise (fun x _ G => dw x G) "InvalidPaper") dNext)
    (dSeq (dIfS (dTest (dOp oEqD (dVar 0) (dC (.int (10))))) (dRaise (fun x _ G => dw x G) "InvalidTree") dNext)
    (dSeq (dIfS (dTest (dOp oEqD (dVar 0) (dC (.int (11))))) (dRaise (fun x _ G => dw x G) "InvalidPlait") dNext)
    (dRaise (fun x _ G => dw x G) "InvalidOperation")))))))))))))
theorem ss__law_raise_first (dw : Exc3 → Reg → Prop) (G : Reg) : SS (fun x _ G => dw x G) G (tc__law_raise_first dw) rb__law_raise_first :=
  (sSeq (sIfS (sTest (sOp f_eqD sVar sC)) sRaise sNext)
    (sSeq (sIfS (sTest (sOp f_eqD sVar sC)) sRaise sNext)
    (sSeq (sIfS (sTest (sOp f_eqD sVar sC)) sRaise sNext)
    (sSeq (sIfS (sTest (sOp f_eqD sVar sC)) sRaise sNext)
    (sSeq (sIfS (sTest (sOp f_eqD sVar sC)) sRaise sNext)
    (sSeq (sIfS (sTest (sOp f_eqD sVar sC)) sRaise sNext)
    (sSeq (sIfS (sTest (sOp f_eqD sVar sC)) sRaise sNext)
    (sSeq (sIfS (sTest (sOp f_eqD sVar sC)) sRaise sNext)
    (sSeq (sIfS (sTest (sOp f_eqD sVar sC)) sRaise sNext)
    (sSeq (sIfS (sTest (sOp f_eqD sVar sC)) sRaise sNext)
    (sSeq (sIfS (sTest (sOp f_eqD sVar sC)) sRaise sNext)
    (sSeq (sIfS (sTest (sOp f_eqD sVar sC)) sRaise sNext)
    sRaise))))))))))))
def rb__law_raise_kept : CS :=
  (cSeq (cIfS (cTest (cOp fEqD (cVar 0) (cC (.int (0))))) (cRaise1 "ParseError" "index" (cCons (cVar 1) cNil)) cNext)
    (cSeq (cIfS (cTest (cOp fEqD (cVar 0) (cC (.int (1))))) (cRaise1 "InvalidCount" "value" (cCons (cVar 1) cNil)) cNext)
    (cSeq (cIfS (cTest (cOp fEqD (cVar 0) (cC (.int (2))))) (cRaise1 "UnknownName" "name" (cCons (cVar 1) cNil)) cNext)
    (cSeq (cIfS (cTest (cOp fEqD (cVar 0) (cC (.int (3))))) (cRaise1 "NothingToUndo" "wanted" (cCons (cVar 1) cNil)) cNext)
    (cSeq (cIfS (cTest (cOp fEqD (cVar 0) (cC (.int (4))))) (cRaise1 "TooMany" "limit" (cCons (cVar 1) cNil)) cNext)
    (cRaise1 "Refused" "reason" (cCons (cVar 1) cNil)))))))
def r__law_raise_kept : List D → C1 := runC 2 ["_law_number", "_law_value"] rb__law_raise_kept
def tc__law_raise_kept (dw : Exc3 → Reg → Prop) : DSt :=
  (dSeq (dIfS (dTest (dOp oEqD (dVar 0) (dC (.int (0))))) (dRaise1 (fun x _ G => dw x G) "ParseError" "index" (dCons (dVar 1) dNil)) dNext)
    (dSeq (dIfS (dTest (dOp oEqD (dVar 0) (dC (.int (1))))) (dRaise1 (fun x _ G => dw x G) "InvalidCount" "value" (dCons (dVar 1) dNil)) dNext)
    (dSeq (dIfS (dTest (dOp oEqD (dVar 0) (dC (.int (2))))) (dRaise1 (fun x _ G => dw x G) "UnknownName" "name" (dCons (dVar 1) dNil)) dNext)
    (dSeq (dIfS (dTest (dOp oEqD (dVar 0) (dC (.int (3))))) (dRaise1 (fun x _ G => dw x G) "NothingToUndo" "wanted" (dCons (dVar 1) dNil)) dNext)
    (dSeq (dIfS (dTest (dOp oEqD (dVar 0) (dC (.int (4))))) (dRaise1 (fun x _ G => dw x G) "TooMany" "limit" (dCons (dVar 1) dNil)) dNext)
    (dRaise1 (fun x _ G => dw x G) "Refused" "reason" (dCons (dVar 1) dNil)))))))
theorem ss__law_raise_kept (dw : Exc3 → Reg → Prop) (G : Reg) : SS (fun x _ G => dw x G) G (tc__law_raise_kept dw) rb__law_raise_kept :=
  (sSeq (sIfS (sTest (sOp f_eqD sVar sC)) (sRaise1 (sCons sVar sNil)) sNext)
    (sSeq (sIfS (sTest (sOp f_eqD sVar sC)) (sRaise1 (sCons sVar sNil)) sNext)
    (sSeq (sIfS (sTest (sOp f_eqD sVar sC)) (sRaise1 (sCons sVar sNil)) sNext)
    (sSeq (sIfS (sTest (sOp f_eqD sVar sC)) (sRaise1 (sCons sVar sNil)) sNext)
    (sSeq (sIfS (sTest (sOp f_eqD sVar sC)) (sRaise1 (sCons sVar sNil)) sNext)
    (sRaise1 (sCons sVar sNil)))))))
end K01

set_option Elab.async false
set_option maxRecDepth 100000
set_option maxHeartbeats 4000000
set_option exponentiation.threshold 2000
/-! LD: the dice of all laws, over plain values. -/
namespace LD
open PySem PySem.Spec PyProof.Rows L2 L3
/-- the dice stand at a; R: the other registers -/
def Dice (a : Addr) (R G : Reg) : Prop := ∃ l m c : Int, G = (a, [D.int l, D.int m, D.int c]) :: R
def BIG : Int := 2 ^ 600
def sp__law_dice : DSp := fun ds G q _ => ∃ (ns : List Int) (i : Nat), ds = [.scr ns, .int (i : Int)] ∧ ∀ l m c : Int, q (.fr [D.int l, D.int m, D.int c]) G
def sp__law_roll : DSp := fun ds G q _ => ∃ (a : Addr) (R : Reg) (t : Int), ds = [.ref a, .int t] ∧ Dice a R G ∧ 0 < t ∧ t < BIG ∧ ∀ (r : Int) G', 0 ≤ r → r < t → Dice a R G' → q (.val (.int r)) G'
def sp__law_pick : DSp := fun ds G q _ => ∃ (a : Addr) (R : Reg) (es : List D), ds = [.ref a, .lst es] ∧ Dice a R G ∧ es ≠ [] ∧ es.length ≤ 1000 ∧ ∀ d G', d ∈ es → Dice a R G' → q (.val d) G'
theorem len__law_dice : ∀ ds G q e, sp__law_dice ds G q e → ds.length = 2 := fun ds G q e ⟨_, _, h, _⟩ => by rw [h]; rfl
theorem len__law_roll : ∀ ds G q e, sp__law_roll ds G q e → ds.length = 2 := fun ds G q e ⟨_, _, _, h, _⟩ => by rw [h]; rfl
theorem len__law_pick : ∀ ds G q e, sp__law_pick ds G q e → ds.length = 2 := fun ds G q e ⟨_, _, _, h, _⟩ => by rw [h]; rfl
def t__law_dice (dw : Exc3 → Reg → Prop) : DSt :=
  (dSeq (dSet 2 (dIf (dTest (dOp oLt (dVar 1) (dCB bLen (dPCons (dVar 0) dNil)))) (dCB bIntOf (dPCons (dOp oIx (dVar 0) (dVar 1)) dNil)) (dOp oAdd (dOp oMul (dC (.int 83)) (dVar 1)) (dC (.int 29)))))
    (dSeq (dSet 3 (dOp oMod (dCB bMax (dPCons (dC (.int 0)) (dPCons (dOp oSub (dCB bAbs (dPCons (dVar 2) dNil)) (dOp oPow (dC (.int 10)) (dC (.int 16)))) dNil))) (dOp oMul (dOp oPow (dC (.int 10)) (dC (.int 60))) (dOp oPow (dC (.int 10)) (dC (.int 60))))))
    (dRet (dLst (dCons (dVar 3) (dCons (dOp oAdd (dOp oAdd (dOp oAdd (dOp oMul (dOp oMod (dCB bAbs (dPCons (dVar 2) dNil)) (dC (.int 1152921504606846899))) (dC (.int 47))) (dOp oMul (dC (.int 839)) (dVar 1))) (dOp oMul (dC (.int 41)) (dCB bIntOf (dPCons (dOp oLt (dVar 2) (dC (.int 0))) dNil)))) (dC (.int 7))) (dCons (dC (.int 0)) dNil)))))))
def t__law_roll (dw : Exc3 → Reg → Prop) : DSt :=
  (dSeq (dIfS (dTest (dOp oGt (dOp oIx (dVar 0) (dC (.int 0))) (dC (.int 0)))) (dSeq (dSet 2 (dOp oMod (dCB bIntOf (dPCons (dOp oIx (dVar 0) (dC (.int 0))) dNil)) (dVar 1)))
    (dSeq (dStore (dOp oFdiv (dOp oIx (dVar 0) (dC (.int 0))) (dVar 1)) (dVar 0) (dC (.int 0)))
    (dRet (dVar 2)))) dNext)
    (dSeq (dStore (dOp oAdd (dOp oIx (dVar 0) (dC (.int 2))) (dC (.int 1))) (dVar 0) (dC (.int 2)))
    (dSeq (dSet 3 (dOp oMod (dCB bIntOf (dPCons (dOp oAdd (dOp oIx (dVar 0) (dC (.int 1))) (dOp oMul (dC (.int 32452867)) (dOp oIx (dVar 0) (dC (.int 2))))) dNil)) (dC (.int 2305843009213693907))))
    (dSeq (dSet 4 (dOp oAdd (dOp oMul (dOp oMod (dCB bIntOf (dPCons (dOp oAdd (dOp oMul (dVar 3) (dVar 3)) (dOp oMul (dC (.int 97)) (dOp oIx (dVar 0) (dC (.int 2))))) dNil)) (dC (.int 2305843009213693921))) (dC (.int 6700417))) (dVar 3)))
    (dRet (dOp oMod (dCB bIntOf (dPCons (dOp oFdiv (dVar 4) (dC (.int 65536))) dNil)) (dVar 1)))))))
def t__law_pick (dw : Exc3 → Reg → Prop) : DSt :=
  (dRet (dOp oIx (dVar 1) (dCall sp__law_roll (fun x _ G => dw x G) (dCons (dVar 0) (dCons (dCB bLen (dPCons (dVar 1) dNil)) dNil)))))
theorem pow1060 : MulOk (10 ^ (60 : Int).toNat) (10 ^ (60 : Int).toNat) := .inr (by unfold CMulW; decide +kernel)
theorem div_ok {l t : Int} (h : 0 < t) (h2 : t < BIG) : CDivW l t := wide_div h (b := 600) (by unfold BIG at h2; omega) (by decide) (by decide)
local macro_rules | `(tactic| walk_at "ev") => `(tactic| repeat (first | refine ⟨_, rfl, ?_⟩ | refine ⟨_, _, rfl, ?_⟩ | refine ⟨_, look0, ?_⟩ | refine ⟨_, at0, ?_⟩ | refine ⟨_, at1, ?_⟩ | refine ⟨_, at2, ?_⟩ | refine ⟨by decide, ?_⟩ | refine ⟨ltL rfl, ?_⟩ | refine ⟨mulC (by decide), ?_⟩ | refine ⟨mulC' (by decide), ?_⟩ | refine ⟨_, _, _, rfl, ?_⟩ | refine ⟨_, ix0, ?_⟩ | refine ⟨_, ix1, ?_⟩ | refine ⟨_, ix2, ?_⟩ | refine ⟨cpow _ (by decide) (by decide), ?_⟩ | refine ⟨pow1060, ?_⟩))
theorem p__law_roll (N : List Str) (hN : N.length = 5) : ∀ ds G q dw, sp__law_roll ds G q dw → t__law_roll dw { nx := fun _ G' => q (.val .non) G', rt := q } (start3 N ds) G := by
  intro ds G q dw h
  obtain ⟨a, R, t, rfl, ⟨l, m, c, rfl⟩, ht, hb, h⟩ := h
  unfold t__law_roll start3
  rw [hN]
  walk_at "ev"
  refine ifD (fun h1 => ?_) (fun h1 => ?_)
  · walk_at "ev"
    refine ⟨ht, ?_⟩
    walk_at "ev"
    refine ⟨div_ok ht hb, ?_⟩
    walk_at "ev"
    rw [regS]
    walk_at "ev"
    exact h _ _ (Int.emod_nonneg _ (by omega)) (Int.emod_lt_of_pos _ ht) ⟨_, _, _, rfl⟩
  · walk_at "ev"
    rw [regS]
    walk_at "ev"
    refine ⟨mulC ⟨?_, ?_⟩, ?_⟩
    · have := Int.emod_nonneg (m + 32452867 * (c + 1)) (b := 2305843009213693907) (by omega); omega
    · have := Int.emod_lt_of_pos (m + 32452867 * (c + 1)) (b := 2305843009213693907) (by omega); omega
    walk_at "ev"
    refine ⟨div_ok (by decide) (by decide), ?_⟩
    walk_at "ev"
    refine ⟨ht, ?_⟩
    walk_at "ev"
    exact h _ _ (Int.emod_nonneg _ (by omega)) (Int.emod_lt_of_pos _ ht) ⟨_, _, _, rfl⟩
theorem len_big {α : Type} {es : List α} (h : es.length ≤ 1000) : (es.length : Int) < BIG := by unfold BIG; omega
theorem p__law_pick (N : List Str) (hN : N.length = 2) : ∀ ds G q dw, sp__law_pick ds G q dw → t__law_pick dw { nx := fun _ G' => q (.val .non) G', rt := q } (start3 N ds) G := by
  intro ds G q dw h
  obtain ⟨a, R, es, rfl, hd, hne, hle, h⟩ := h
  unfold t__law_pick start3
  rw [hN]
  walk_at "ev"
  refine ⟨a, R, (es.length : Int), rfl, hd, by have := List.length_pos_iff.2 hne; omega, len_big hle, fun r G' h0 h1 hd' => ?_⟩
  obtain ⟨d, e, hm⟩ := atN h0 h1
  walk_at "ev"
  refine ⟨d, e, ?_⟩
  walk_at "ev"
  exact h d G' hm hd'
theorem p__law_dice (N : List Str) (hN : N.length = 4) : ∀ ds G q dw, sp__law_dice ds G q dw → t__law_dice dw { nx := fun _ G' => q (.val .non) G', rt := q } (start3 N ds) G := by
  intro ds G q dw h
  obtain ⟨ns, i, rfl, h⟩ := h
  unfold t__law_dice start3
  rw [hN]
  walk_at "ev"
  refine ifD (fun h1 => ?_) (fun h1 => ?_)
  · obtain ⟨v, e, _⟩ := atN (ds := ns) (Int.natCast_nonneg i) h1
    walk_at "ev"
    refine ⟨v, e, ?_⟩
    walk_at "ev"
    exact h _ _ _
  · walk_at "ev"
    exact h _ _ _
end LD

set_option Elab.async false
set_option maxRecDepth 100000
set_option maxHeartbeats 4000000
/-! K01: promises -/
namespace K01
open PySem PySem.Spec PyProof.Rows L2 L3 LD
def Vs : List D := [.non, .int 0, .int (-7), .int (10 ^ 60 * 77), .bl true, .str "text", .str "", .tup [.int 1, .str "a"], .lst [], .dcK [] [], .tup [.str "touch", .str "a", .str "b", .int 6]]
def sp__law_caught : DSp := fun ds G q _ => ∃ n : Nat, ds = [.int (n : Int)] ∧ n < 13 ∧ q (.val (.int (n : Int))) G
abbrev sp__law_caught_back : DSp := sp__law_caught
def sp__law_kept : DSp := fun ds G q _ => ∃ (n : Nat) (d : D), ds = [.int (n : Int), d] ∧ n < 6 ∧ q (.val (.tup [.int (n : Int), d])) G
def sp__law_is_first : DSp := fun ds G q _ => ∃ n : Nat, ds = [.int (n : Int)] ∧ n < 13 ∧ q (.val (.bl true)) G
def sp__law_kept_first : DSp := fun ds G q _ => ∃ n : Nat, ds = [.int (n : Int)] ∧ n < 6 ∧ q (.val (.bl (decide (n = 0)))) G
def sp__law_right : DSp := fun ds G q _ => ∃ (a : Addr) (R : Reg), ds = [.ref a] ∧ Dice a R G ∧ ∀ G', Dice a R G' → q (.val (.bl true)) G'
def sp_law : DSp := fun ds G q _ => ∃ ns : List Int, ds = [.scr ns] ∧ ns.length ≤ 63 ∧ ∀ G', q (.val (.bl true)) G'
theorem len__law_caught : ∀ ds G q e, sp__law_caught ds G q e → ds.length = 1 := fun ds G q e ⟨_, h, _⟩ => by rw [h]; rfl
abbrev len__law_caught_back := len__law_caught
theorem len__law_kept : ∀ ds G q e, sp__law_kept ds G q e → ds.length = 2 := fun ds G q e ⟨_, _, h, _⟩ => by rw [h]; rfl
theorem len__law_is_first : ∀ ds G q e, sp__law_is_first ds G q e → ds.length = 1 := fun ds G q e ⟨_, h, _⟩ => by rw [h]; rfl
theorem len__law_kept_first : ∀ ds G q e, sp__law_kept_first ds G q e → ds.length = 1 := fun ds G q e ⟨_, h, _⟩ => by rw [h]; rfl
theorem len__law_right : ∀ ds G q e, sp__law_right ds G q e → ds.length = 1 := fun ds G q e ⟨_, _, h, _⟩ => by rw [h]; rfl
theorem len_law : ∀ ds G q e, sp_law ds G q e → ds.length = 1 := fun ds G q e ⟨_, h, _⟩ => by rw [h]; rfl
theorem law_holds : ∀ ns : List Int, ns.length ≤ 63 → sp_law [.scr ns] [] (fun r _ => r = .val (.bl true)) fun _ _ => False := fun ns h => ⟨ns, rfl, h, fun _ => rfl⟩
end K01

set_option Elab.async false
set_option maxRecDepth 100000
set_option maxHeartbeats 4000000
/-! K01: the plain readings (printed by gen5.py) -/
namespace K01
open PySem PySem.Spec PyProof.Rows L2 L3 LD
def t__law_caught (dw : Exc3 → Reg → Prop) : DSt :=
  (dTry [((("InvalidCurve" : Str), ("InvalidPrime" : Str)), false), ((("InvalidCurve" : Str), ("InvalidWord" : Str)), false), ((("InvalidCurve" : Str), ("InvalidPoint" : Str)), false), ((("InvalidCurve" : Str), ("InvalidRow" : Str)), false), ((("InvalidCurve" : Str), ("InvalidTable" : Str)), false), ((("InvalidCurve" : Str), ("InvalidPlane" : Str)), false), ((("InvalidCurve" : Str), ("InvalidCurve" : Str)), true), ((("InvalidCurve" : Str), ("InvalidWeights" : Str)), false), ((("InvalidCurve" : Str), ("InvalidOrders" : Str)), false), ((("InvalidCurve" : Str), ("InvalidPaper" : Str)), false), ((("InvalidCurve" : Str), ("InvalidTree" : Str)), false), ((("InvalidCurve" : Str), ("InvalidPlait" : Str)), false), ((("InvalidCurve" : Str), ("InvalidOperation" : Str)), false), ((("InvalidOperation" : Str), ("InvalidPrime" : Str)), false), ((("InvalidOperation" : Str), ("InvalidWord" : Str)), false), ((("InvalidOperation" : Str), ("InvalidPoint" : Str)), false), ((("InvalidOperation" : Str), ("InvalidRow" : Str)), false), ((("InvalidOperation" : Str), ("InvalidTable" : Str)), false), ((("InvalidOperation" : Str), ("InvalidPlane" : Str)), false), ((("InvalidOperation" : Str), ("InvalidCurve" : Str)), false), ((("InvalidOperation" : Str), ("InvalidWeights" : Str)), false), ((("InvalidOperation" : Str), ("InvalidOrders" : Str)), false), ((("InvalidOperation" : Str), ("InvalidPaper" : Str)), false), ((("InvalidOperation" : Str), ("InvalidTree" : Str)), false), ((("InvalidOperation" : Str), ("InvalidPlait" : Str)), false), ((("InvalidOperation" : Str), ("InvalidOperation" : Str)), true), ((("InvalidOrders" : Str), ("InvalidPrime" : Str)), false), ((("InvalidOrders" : Str), ("InvalidWord" : Str)), false), ((("InvalidOrders" : Str), ("InvalidPoint" : Str)), false), ((("InvalidOrders" : Str), ("InvalidRow" : Str)), false), ((("InvalidOrders" : Str), ("InvalidTable" : Str)), false), ((("InvalidOrders" : Str), ("InvalidPlane" : Str)), false), ((("InvalidOrders" : Str), ("InvalidCurve" : Str)), false), ((("InvalidOrders" : Str), ("InvalidWeights" : Str)), false), ((("InvalidOrders" : Str), ("InvalidOrders" : Str)), true), ((("InvalidOrders" : Str), ("InvalidPaper" : Str)), false), ((("InvalidOrders" : Str), ("InvalidTree" : Str)), false), ((("InvalidOrders" : Str), ("InvalidPlait" : Str)), false), ((("InvalidOrders" : Str), ("InvalidOperation" : Str)), false), ((("InvalidPaper" : Str), ("InvalidPrime" : Str)), false), ((("InvalidPaper" : Str), ("InvalidWord" : Str)), false), ((("InvalidPaper" : Str), ("InvalidPoint" : Str)), false), ((("InvalidPaper" : Str), ("InvalidRow" : Str)), false), ((("InvalidPaper" : Str), ("InvalidTable" : Str)), false), ((("InvalidPaper" : Str), ("InvalidPlane" : Str)), false), ((("InvalidPaper" : Str), ("InvalidCurve" : Str)), false), ((("InvalidPaper" : Str), ("InvalidWeights" : Str)), false), ((("InvalidPaper" : Str), ("InvalidOrders" : Str)), false), ((("InvalidPaper" : Str), ("InvalidPaper" : Str)), true), ((("InvalidPaper" : Str), ("InvalidTree" : Str)), false), ((("InvalidPaper" : Str), ("InvalidPlait" : Str)), false), ((("InvalidPaper" : Str), ("InvalidOperation" : Str)), false), ((("InvalidPlait" : Str), ("InvalidPrime" : Str)), false), ((("InvalidPlait" : Str), ("InvalidWord" : Str)), false), ((("InvalidPlait" : Str), ("InvalidPoint" : Str)), false), ((("InvalidPlait" : Str), ("InvalidRow" : Str)), false), ((("InvalidPlait" : Str), ("InvalidTable" : Str)), false), ((("InvalidPlait" : Str), ("InvalidPlane" : Str)), false), ((("InvalidPlait" : Str), ("InvalidCurve" : Str)), false), ((("InvalidPlait" : Str), ("InvalidWeights" : Str)), false), ((("InvalidPlait" : Str), ("InvalidOrders" : Str)), false), ((("InvalidPlait" : Str), ("InvalidPaper" : Str)), false), ((("InvalidPlait" : Str), ("InvalidTree" : Str)), false), ((("InvalidPlait" : Str), ("InvalidPlait" : Str)), true), ((("InvalidPlait" : Str), ("InvalidOperation" : Str)), false), ((("InvalidPlane" : Str), ("InvalidPrime" : Str)), false), ((("InvalidPlane" : Str), ("InvalidWord" : Str)), false), ((("InvalidPlane" : Str), ("InvalidPoint" : Str)), false), ((("InvalidPlane" : Str), ("InvalidRow" : Str)), false), ((("InvalidPlane" : Str), ("InvalidTable" : Str)), false), ((("InvalidPlane" : Str), ("InvalidPlane" : Str)), true), ((("InvalidPlane" : Str), ("InvalidCurve" : Str)), false), ((("InvalidPlane" : Str), ("InvalidWeights" : Str)), false), ((("InvalidPlane" : Str), ("InvalidOrders" : Str)), false), ((("InvalidPlane" : Str), ("InvalidPaper" : Str)), false), ((("InvalidPlane" : Str), ("InvalidTree" : Str)), false), ((("InvalidPlane" : Str), ("InvalidPlait" : Str)), false), ((("InvalidPlane" : Str), ("InvalidOperation" : Str)), false), ((("InvalidPoint" : Str), ("InvalidPrime" : Str)), false), ((("InvalidPoint" : Str), ("InvalidWord" : Str)), false), ((("InvalidPoint" : Str), ("InvalidPoint" : Str)), true), ((("InvalidPoint" : Str), ("InvalidRow" : Str)), false), ((("InvalidPoint" : Str), ("InvalidTable" : Str)), false), ((("InvalidPoint" : Str), ("InvalidPlane" : Str)), false), ((("InvalidPoint" : Str), ("InvalidCurve" : Str)), false), ((("InvalidPoint" : Str), ("InvalidWeights" : Str)), false), ((("InvalidPoint" : Str), ("InvalidOrders" : Str)), false), ((("InvalidPoint" : Str), ("InvalidPaper" : Str)), false), ((("InvalidPoint" : Str), ("InvalidTree" : Str)), false), ((("InvalidPoint" : Str), ("InvalidPlait" : Str)), false), ((("InvalidPoint" : Str), ("InvalidOperation" : Str)), false), ((("InvalidPrime" : Str), ("InvalidPrime" : Str)), true), ((("InvalidPrime" : Str), ("InvalidWord" : Str)), false), ((("InvalidPrime" : Str), ("InvalidPoint" : Str)), false), ((("InvalidPrime" : Str), ("InvalidRow" : Str)), false), ((("InvalidPrime" : Str), ("InvalidTable" : Str)), false), ((("InvalidPrime" : Str), ("InvalidPlane" : Str)), false), ((("InvalidPrime" : Str), ("InvalidCurve" : Str)), false), ((("InvalidPrime" : Str), ("InvalidWeights" : Str)), false), ((("InvalidPrime" : Str), ("InvalidOrders" : Str)), false), ((("InvalidPrime" : Str), ("InvalidPaper" : Str)), false), ((("InvalidPrime" : Str), ("InvalidTree" : Str)), false), ((("InvalidPrime" : Str), ("InvalidPlait" : Str)), false), ((("InvalidPrime" : Str), ("InvalidOperation" : Str)), false), ((("InvalidRow" : Str), ("InvalidPrime" : Str)), false), ((("InvalidRow" : Str), ("InvalidWord" : Str)), false), ((("InvalidRow" : Str), ("InvalidPoint" : Str)), false), ((("InvalidRow" : Str), ("InvalidRow" : Str)), true), ((("InvalidRow" : Str), ("InvalidTable" : Str)), false), ((("InvalidRow" : Str), ("InvalidPlane" : Str)), false), ((("InvalidRow" : Str), ("InvalidCurve" : Str)), false), ((("InvalidRow" : Str), ("InvalidWeights" : Str)), false), ((("InvalidRow" : Str), ("InvalidOrders" : Str)), false), ((("InvalidRow" : Str), ("InvalidPaper" : Str)), false), ((("InvalidRow" : Str), ("InvalidTree" : Str)), false), ((("InvalidRow" : Str), ("InvalidPlait" : Str)), false), ((("InvalidRow" : Str), ("InvalidOperation" : Str)), false), ((("InvalidTable" : Str), ("InvalidPrime" : Str)), false), ((("InvalidTable" : Str), ("InvalidWord" : Str)), false), ((("InvalidTable" : Str), ("InvalidPoint" : Str)), false), ((("InvalidTable" : Str), ("InvalidRow" : Str)), false), ((("InvalidTable" : Str), ("InvalidTable" : Str)), true), ((("InvalidTable" : Str), ("InvalidPlane" : Str)), false), ((("InvalidTable" : Str), ("InvalidCurve" : Str)), false), ((("InvalidTable" : Str), ("InvalidWeights" : Str)), false), ((("InvalidTable" : Str), ("InvalidOrders" : Str)), false), ((("InvalidTable" : Str), ("InvalidPaper" : Str)), false), ((("InvalidTable" : Str), ("InvalidTree" : Str)), false), ((("InvalidTable" : Str), ("InvalidPlait" : Str)), false), ((("InvalidTable" : Str), ("InvalidOperation" : Str)), false), ((("InvalidTree" : Str), ("InvalidPrime" : Str)), false), ((("InvalidTree" : Str), ("InvalidWord" : Str)), false), ((("InvalidTree" : Str), ("InvalidPoint" : Str)), false), ((("InvalidTree" : Str), ("InvalidRow" : Str)), false), ((("InvalidTree" : Str), ("InvalidTable" : Str)), false), ((("InvalidTree" : Str), ("InvalidPlane" : Str)), false), ((("InvalidTree" : Str), ("InvalidCurve" : Str)), false), ((("InvalidTree" : Str), ("InvalidWeights" : Str)), false), ((("InvalidTree" : Str), ("InvalidOrders" : Str)), false), ((("InvalidTree" : Str), ("InvalidPaper" : Str)), false), ((("InvalidTree" : Str), ("InvalidTree" : Str)), true), ((("InvalidTree" : Str), ("InvalidPlait" : Str)), false), ((("InvalidTree" : Str), ("InvalidOperation" : Str)), false), ((("InvalidWeights" : Str), ("InvalidPrime" : Str)), false), ((("InvalidWeights" : Str), ("InvalidWord" : Str)), false), ((("InvalidWeights" : Str), ("InvalidPoint" : Str)), false), ((("InvalidWeights" : Str), ("InvalidRow" : Str)), false), ((("InvalidWeights" : Str), ("InvalidTable" : Str)), false), ((("InvalidWeights" : Str), ("InvalidPlane" : Str)), false), ((("InvalidWeights" : Str), ("InvalidCurve" : Str)), false), ((("InvalidWeights" : Str), ("InvalidWeights" : Str)), true), ((("InvalidWeights" : Str), ("InvalidOrders" : Str)), false), ((("InvalidWeights" : Str), ("InvalidPaper" : Str)), false), ((("InvalidWeights" : Str), ("InvalidTree" : Str)), false), ((("InvalidWeights" : Str), ("InvalidPlait" : Str)), false), ((("InvalidWeights" : Str), ("InvalidOperation" : Str)), false), ((("InvalidWord" : Str), ("InvalidPrime" : Str)), false), ((("InvalidWord" : Str), ("InvalidWord" : Str)), true), ((("InvalidWord" : Str), ("InvalidPoint" : Str)), false), ((("InvalidWord" : Str), ("InvalidRow" : Str)), false), ((("InvalidWord" : Str), ("InvalidTable" : Str)), false), ((("InvalidWord" : Str), ("InvalidPlane" : Str)), false), ((("InvalidWord" : Str), ("InvalidCurve" : Str)), false), ((("InvalidWord" : Str), ("InvalidWeights" : Str)), false), ((("InvalidWord" : Str), ("InvalidOrders" : Str)), false), ((("InvalidWord" : Str), ("InvalidPaper" : Str)), false), ((("InvalidWord" : Str), ("InvalidTree" : Str)), false), ((("InvalidWord" : Str), ("InvalidPlait" : Str)), false), ((("InvalidWord" : Str), ("InvalidOperation" : Str)), false)] (fun x _ G => dw x G) (fun dw2 => (dDrop (dCall (spC r__law_raise_first) dw2 (dCons (dVar 0) dNil)))) [("InvalidPrime", none, fun a x => (dRet (dC (.int (0))))), ("InvalidWord", none, fun a x => (dRet (dC (.int (1))))), ("InvalidPoint", none, fun a x => (dRet (dC (.int (2))))), ("InvalidRow", none, fun a x => (dRet (dC (.int (3))))), ("InvalidTable", none, fun a x => (dRet (dC (.int (4))))), ("InvalidPlane", none, fun a x => (dRet (dC (.int (5))))), ("InvalidCurve", none, fun a x => (dRet (dC (.int (6))))), ("InvalidWeights", none, fun a x => (dRet (dC (.int (7))))), ("InvalidOrders", none, fun a x => (dRet (dC (.int (8))))), ("InvalidPaper", none, fun a x => (dRet (dC (.int (9))))), ("InvalidTree", none, fun a x => (dRet (dC (.int (10))))), ("InvalidPlait", none, fun a x => (dRet (dC (.int (11))))), ("InvalidOperation", none, fun a x => (dRet (dC (.int (12)))))])
def t__law_caught_back (dw : Exc3 → Reg → Prop) : DSt :=
  (dTry [((("InvalidCurve" : Str), ("ParseError" : Str)), false), ((("InvalidCurve" : Str), ("InvalidOperation" : Str)), false), ((("InvalidCurve" : Str), ("InvalidPlait" : Str)), false), ((("InvalidCurve" : Str), ("InvalidTree" : Str)), false), ((("InvalidCurve" : Str), ("InvalidPaper" : Str)), false), ((("InvalidCurve" : Str), ("InvalidOrders" : Str)), false), ((("InvalidCurve" : Str), ("InvalidWeights" : Str)), false), ((("InvalidCurve" : Str), ("InvalidCurve" : Str)), true), ((("InvalidCurve" : Str), ("InvalidPlane" : Str)), false), ((("InvalidCurve" : Str), ("InvalidTable" : Str)), false), ((("InvalidCurve" : Str), ("InvalidRow" : Str)), false), ((("InvalidCurve" : Str), ("InvalidPoint" : Str)), false), ((("InvalidCurve" : Str), ("InvalidWord" : Str)), false), ((("InvalidCurve" : Str), ("InvalidPrime" : Str)), false), ((("InvalidOperation" : Str), ("ParseError" : Str)), false), ((("InvalidOperation" : Str), ("InvalidOperation" : Str)), true), ((("InvalidOperation" : Str), ("InvalidPlait" : Str)), false), ((("InvalidOperation" : Str), ("InvalidTree" : Str)), false), ((("InvalidOperation" : Str), ("InvalidPaper" : Str)), false), ((("InvalidOperation" : Str), ("InvalidOrders" : Str)), false), ((("InvalidOperation" : Str), ("InvalidWeights" : Str)), false), ((("InvalidOperation" : Str), ("InvalidCurve" : Str)), false), ((("InvalidOperation" : Str), ("InvalidPlane" : Str)), false), ((("InvalidOperation" : Str), ("InvalidTable" : Str)), false), ((("InvalidOperation" : Str), ("InvalidRow" : Str)), false), ((("InvalidOperation" : Str), ("InvalidPoint" : Str)), false), ((("InvalidOperation" : Str), ("InvalidWord" : Str)), false), ((("InvalidOperation" : Str), ("InvalidPrime" : Str)), false), ((("InvalidOrders" : Str), ("ParseError" : Str)), false), ((("InvalidOrders" : Str), ("InvalidOperation" : Str)), false), ((("InvalidOrders" : Str), ("InvalidPlait" : Str)), false), ((("InvalidOrders" : Str), ("InvalidTree" : Str)), false), ((("InvalidOrders" : Str), ("InvalidPaper" : Str)), false), ((("InvalidOrders" : Str), ("InvalidOrders" : Str)), true), ((("InvalidOrders" : Str), ("InvalidWeights" : Str)), false), ((("InvalidOrders" : Str), ("InvalidCurve" : Str)), false), ((("InvalidOrders" : Str), ("InvalidPlane" : Str)), false), ((("InvalidOrders" : Str), ("InvalidTable" : Str)), false), ((("InvalidOrders" : Str), ("InvalidRow" : Str)), false), ((("InvalidOrders" : Str), ("InvalidPoint" : Str)), false), ((("InvalidOrders" : Str), ("InvalidWord" : Str)), false), ((("InvalidOrders" : Str), ("InvalidPrime" : Str)), false), ((("InvalidPaper" : Str), ("ParseError" : Str)), false), ((("InvalidPaper" : Str), ("InvalidOperation" : Str)), false), ((("InvalidPaper" : Str), ("InvalidPlait" : Str)), false), ((("InvalidPaper" : Str), ("InvalidTree" : Str)), false), ((("InvalidPaper" : Str), ("InvalidPaper" : Str)), true), ((("InvalidPaper" : Str), ("InvalidOrders" : Str)), false), ((("InvalidPaper" : Str), ("InvalidWeights" : Str)), false), ((("InvalidPaper" : Str), ("InvalidCurve" : Str)), false), ((("InvalidPaper" : Str), ("InvalidPlane" : Str)), false), ((("InvalidPaper" : Str), ("InvalidTable" : Str)), false), ((("InvalidPaper" : Str), ("InvalidRow" : Str)), false), ((("InvalidPaper" : Str), ("InvalidPoint" : Str)), false), ((("InvalidPaper" : Str), ("InvalidWord" : Str)), false), ((("InvalidPaper" : Str), ("InvalidPrime" : Str)), false), ((("InvalidPlait" : Str), ("ParseError" : Str)), false), ((("InvalidPlait" : Str), ("InvalidOperation" : Str)), false), ((("InvalidPlait" : Str), ("InvalidPlait" : Str)), true), ((("InvalidPlait" : Str), ("InvalidTree" : Str)), false), ((("InvalidPlait" : Str), ("InvalidPaper" : Str)), false), ((("InvalidPlait" : Str), ("InvalidOrders" : Str)), false), ((("InvalidPlait" : Str), ("InvalidWeights" : Str)), false), ((("InvalidPlait" : Str), ("InvalidCurve" : Str)), false), ((("InvalidPlait" : Str), ("InvalidPlane" : Str)), false), ((("InvalidPlait" : Str), ("InvalidTable" : Str)), false), ((("InvalidPlait" : Str), ("InvalidRow" : Str)), false), ((("InvalidPlait" : Str), ("InvalidPoint" : Str)), false), ((("InvalidPlait" : Str), ("InvalidWord" : Str)), false), ((("InvalidPlait" : Str), ("InvalidPrime" : Str)), false), ((("InvalidPlane" : Str), ("ParseError" : Str)), false), ((("InvalidPlane" : Str), ("InvalidOperation" : Str)), false), ((("InvalidPlane" : Str), ("InvalidPlait" : Str)), false), ((("InvalidPlane" : Str), ("InvalidTree" : Str)), false), ((("InvalidPlane" : Str), ("InvalidPaper" : Str)), false), ((("InvalidPlane" : Str), ("InvalidOrders" : Str)), false), ((("InvalidPlane" : Str), ("InvalidWeights" : Str)), false), ((("InvalidPlane" : Str), ("InvalidCurve" : Str)), false), ((("InvalidPlane" : Str), ("InvalidPlane" : Str)), true), ((("InvalidPlane" : Str), ("InvalidTable" : Str)), false), ((("InvalidPlane" : Str), ("InvalidRow" : Str)), false), ((("InvalidPlane" : Str), ("InvalidPoint" : Str)), false), ((("InvalidPlane" : Str), ("InvalidWord" : Str)), false), ((("InvalidPlane" : Str), ("InvalidPrime" : Str)), false), ((("InvalidPoint" : Str), ("ParseError" : Str)), false), ((("InvalidPoint" : Str), ("InvalidOperation" : Str)), false), ((("InvalidPoint" : Str), ("InvalidPlait" : Str)), false), ((("InvalidPoint" : Str), ("InvalidTree" : Str)), false), ((("InvalidPoint" : Str), ("InvalidPaper" : Str)), false), ((("InvalidPoint" : Str), ("InvalidOrders" : Str)), false), ((("InvalidPoint" : Str), ("InvalidWeights" : Str)), false), ((("InvalidPoint" : Str), ("InvalidCurve" : Str)), false), ((("InvalidPoint" : Str), ("InvalidPlane" : Str)), false), ((("InvalidPoint" : Str), ("InvalidTable" : Str)), false), ((("InvalidPoint" : Str), ("InvalidRow" : Str)), false), ((("InvalidPoint" : Str), ("InvalidPoint" : Str)), true), ((("InvalidPoint" : Str), ("InvalidWord" : Str)), false), ((("InvalidPoint" : Str), ("InvalidPrime" : Str)), false), ((("InvalidPrime" : Str), ("ParseError" : Str)), false), ((("InvalidPrime" : Str), ("InvalidOperation" : Str)), false), ((("InvalidPrime" : Str), ("InvalidPlait" : Str)), false), ((("InvalidPrime" : Str), ("InvalidTree" : Str)), false), ((("InvalidPrime" : Str), ("InvalidPaper" : Str)), false), ((("InvalidPrime" : Str), ("InvalidOrders" : Str)), false), ((("InvalidPrime" : Str), ("InvalidWeights" : Str)), false), ((("InvalidPrime" : Str), ("InvalidCurve" : Str)), false), ((("InvalidPrime" : Str), ("InvalidPlane" : Str)), false), ((("InvalidPrime" : Str), ("InvalidTable" : Str)), false), ((("InvalidPrime" : Str), ("InvalidRow" : Str)), false), ((("InvalidPrime" : Str), ("InvalidPoint" : Str)), false), ((("InvalidPrime" : Str), ("InvalidWord" : Str)), false), ((("InvalidPrime" : Str), ("InvalidPrime" : Str)), true), ((("InvalidRow" : Str), ("ParseError" : Str)), false), ((("InvalidRow" : Str), ("InvalidOperation" : Str)), false), ((("InvalidRow" : Str), ("InvalidPlait" : Str)), false), ((("InvalidRow" : Str), ("InvalidTree" : Str)), false), ((("InvalidRow" : Str), ("InvalidPaper" : Str)), false), ((("InvalidRow" : Str), ("InvalidOrders" : Str)), false), ((("InvalidRow" : Str), ("InvalidWeights" : Str)), false), ((("InvalidRow" : Str), ("InvalidCurve" : Str)), false), ((("InvalidRow" : Str), ("InvalidPlane" : Str)), false), ((("InvalidRow" : Str), ("InvalidTable" : Str)), false), ((("InvalidRow" : Str), ("InvalidRow" : Str)), true), ((("InvalidRow" : Str), ("InvalidPoint" : Str)), false), ((("InvalidRow" : Str), ("InvalidWord" : Str)), false), ((("InvalidRow" : Str), ("InvalidPrime" : Str)), false), ((("InvalidTable" : Str), ("ParseError" : Str)), false), ((("InvalidTable" : Str), ("InvalidOperation" : Str)), false), ((("InvalidTable" : Str), ("InvalidPlait" : Str)), false), ((("InvalidTable" : Str), ("InvalidTree" : Str)), false), ((("InvalidTable" : Str), ("InvalidPaper" : Str)), false), ((("InvalidTable" : Str), ("InvalidOrders" : Str)), false), ((("InvalidTable" : Str), ("InvalidWeights" : Str)), false), ((("InvalidTable" : Str), ("InvalidCurve" : Str)), false), ((("InvalidTable" : Str), ("InvalidPlane" : Str)), false), ((("InvalidTable" : Str), ("InvalidTable" : Str)), true), ((("InvalidTable" : Str), ("InvalidRow" : Str)), false), ((("InvalidTable" : Str), ("InvalidPoint" : Str)), false), ((("InvalidTable" : Str), ("InvalidWord" : Str)), false), ((("InvalidTable" : Str), ("InvalidPrime" : Str)), false), ((("InvalidTree" : Str), ("ParseError" : Str)), false), ((("InvalidTree" : Str), ("InvalidOperation" : Str)), false), ((("InvalidTree" : Str), ("InvalidPlait" : Str)), false), ((("InvalidTree" : Str), ("InvalidTree" : Str)), true), ((("InvalidTree" : Str), ("InvalidPaper" : Str)), false), ((("InvalidTree" : Str), ("InvalidOrders" : Str)), false), ((("InvalidTree" : Str), ("InvalidWeights" : Str)), false), ((("InvalidTree" : Str), ("InvalidCurve" : Str)), false), ((("InvalidTree" : Str), ("InvalidPlane" : Str)), false), ((("InvalidTree" : Str), ("InvalidTable" : Str)), false), ((("InvalidTree" : Str), ("InvalidRow" : Str)), false), ((("InvalidTree" : Str), ("InvalidPoint" : Str)), false), ((("InvalidTree" : Str), ("InvalidWord" : Str)), false), ((("InvalidTree" : Str), ("InvalidPrime" : Str)), false), ((("InvalidWeights" : Str), ("ParseError" : Str)), false), ((("InvalidWeights" : Str), ("InvalidOperation" : Str)), false), ((("InvalidWeights" : Str), ("InvalidPlait" : Str)), false), ((("InvalidWeights" : Str), ("InvalidTree" : Str)), false), ((("InvalidWeights" : Str), ("InvalidPaper" : Str)), false), ((("InvalidWeights" : Str), ("InvalidOrders" : Str)), false), ((("InvalidWeights" : Str), ("InvalidWeights" : Str)), true), ((("InvalidWeights" : Str), ("InvalidCurve" : Str)), false), ((("InvalidWeights" : Str), ("InvalidPlane" : Str)), false), ((("InvalidWeights" : Str), ("InvalidTable" : Str)), false), ((("InvalidWeights" : Str), ("InvalidRow" : Str)), false), ((("InvalidWeights" : Str), ("InvalidPoint" : Str)), false), ((("InvalidWeights" : Str), ("InvalidWord" : Str)), false), ((("InvalidWeights" : Str), ("InvalidPrime" : Str)), false), ((("InvalidWord" : Str), ("ParseError" : Str)), false), ((("InvalidWord" : Str), ("InvalidOperation" : Str)), false), ((("InvalidWord" : Str), ("InvalidPlait" : Str)), false), ((("InvalidWord" : Str), ("InvalidTree" : Str)), false), ((("InvalidWord" : Str), ("InvalidPaper" : Str)), false), ((("InvalidWord" : Str), ("InvalidOrders" : Str)), false), ((("InvalidWord" : Str), ("InvalidWeights" : Str)), false), ((("InvalidWord" : Str), ("InvalidCurve" : Str)), false), ((("InvalidWord" : Str), ("InvalidPlane" : Str)), false), ((("InvalidWord" : Str), ("InvalidTable" : Str)), false), ((("InvalidWord" : Str), ("InvalidRow" : Str)), false), ((("InvalidWord" : Str), ("InvalidPoint" : Str)), false), ((("InvalidWord" : Str), ("InvalidWord" : Str)), true), ((("InvalidWord" : Str), ("InvalidPrime" : Str)), false)] (fun x _ G => dw x G) (fun dw2 => (dDrop (dCall (spC r__law_raise_first) dw2 (dCons (dVar 0) dNil)))) [("ParseError", none, fun a x => (dRet (dUn uNeg (dC (.int (1)))))), ("InvalidOperation", none, fun a x => (dRet (dC (.int (12))))), ("InvalidPlait", none, fun a x => (dRet (dC (.int (11))))), ("InvalidTree", none, fun a x => (dRet (dC (.int (10))))), ("InvalidPaper", none, fun a x => (dRet (dC (.int (9))))), ("InvalidOrders", none, fun a x => (dRet (dC (.int (8))))), ("InvalidWeights", none, fun a x => (dRet (dC (.int (7))))), ("InvalidCurve", none, fun a x => (dRet (dC (.int (6))))), ("InvalidPlane", none, fun a x => (dRet (dC (.int (5))))), ("InvalidTable", none, fun a x => (dRet (dC (.int (4))))), ("InvalidRow", none, fun a x => (dRet (dC (.int (3))))), ("InvalidPoint", none, fun a x => (dRet (dC (.int (2))))), ("InvalidWord", none, fun a x => (dRet (dC (.int (1))))), ("InvalidPrime", none, fun a x => (dRet (dC (.int (0)))))])
def t__law_kept (dw : Exc3 → Reg → Prop) : DSt :=
  (dTry [((("InvalidCount" : Str), ("ParseError" : Str)), false), ((("InvalidCount" : Str), ("InvalidCount" : Str)), true), ((("InvalidCount" : Str), ("UnknownName" : Str)), false), ((("InvalidCount" : Str), ("NothingToUndo" : Str)), false), ((("InvalidCount" : Str), ("TooMany" : Str)), false), ((("InvalidCount" : Str), ("Refused" : Str)), false), ((("NothingToUndo" : Str), ("ParseError" : Str)), false), ((("NothingToUndo" : Str), ("InvalidCount" : Str)), false), ((("NothingToUndo" : Str), ("UnknownName" : Str)), false), ((("NothingToUndo" : Str), ("NothingToUndo" : Str)), true), ((("NothingToUndo" : Str), ("TooMany" : Str)), false), ((("NothingToUndo" : Str), ("Refused" : Str)), false), ((("ParseError" : Str), ("ParseError" : Str)), true), ((("ParseError" : Str), ("InvalidCount" : Str)), false), ((("ParseError" : Str), ("UnknownName" : Str)), false), ((("ParseError" : Str), ("NothingToUndo" : Str)), false), ((("ParseError" : Str), ("TooMany" : Str)), false), ((("ParseError" : Str), ("Refused" : Str)), false), ((("Refused" : Str), ("ParseError" : Str)), false), ((("Refused" : Str), ("InvalidCount" : Str)), false), ((("Refused" : Str), ("UnknownName" : Str)), false), ((("Refused" : Str), ("NothingToUndo" : Str)), false), ((("Refused" : Str), ("TooMany" : Str)), false), ((("Refused" : Str), ("Refused" : Str)), true), ((("TooMany" : Str), ("ParseError" : Str)), false), ((("TooMany" : Str), ("InvalidCount" : Str)), false), ((("TooMany" : Str), ("UnknownName" : Str)), false), ((("TooMany" : Str), ("NothingToUndo" : Str)), false), ((("TooMany" : Str), ("TooMany" : Str)), true), ((("TooMany" : Str), ("Refused" : Str)), false), ((("UnknownName" : Str), ("ParseError" : Str)), false), ((("UnknownName" : Str), ("InvalidCount" : Str)), false), ((("UnknownName" : Str), ("UnknownName" : Str)), true), ((("UnknownName" : Str), ("NothingToUndo" : Str)), false), ((("UnknownName" : Str), ("TooMany" : Str)), false), ((("UnknownName" : Str), ("Refused" : Str)), false)] (fun x _ G => dw x G) (fun dw2 => (dDrop (dCall (spC r__law_raise_kept) dw2 (dCons (dVar 0) (dCons (dVar 1) dNil))))) [("ParseError", some 2, fun a x => (dRet (dTup (dCons (dC (.int (0))) (dCons (dXf [("ParseError", "index")] a x "index" (dVar 2)) dNil))))), ("InvalidCount", some 2, fun a x => (dRet (dTup (dCons (dC (.int (1))) (dCons (dXf [("InvalidCount", "value")] a x "value" (dVar 2)) dNil))))), ("UnknownName", some 2, fun a x => (dRet (dTup (dCons (dC (.int (2))) (dCons (dXf [("UnknownName", "name")] a x "name" (dVar 2)) dNil))))), ("NothingToUndo", some 2, fun a x => (dRet (dTup (dCons (dC (.int (3))) (dCons (dXf [("NothingToUndo", "wanted")] a x "wanted" (dVar 2)) dNil))))), ("TooMany", some 2, fun a x => (dRet (dTup (dCons (dC (.int (4))) (dCons (dXf [("TooMany", "limit")] a x "limit" (dVar 2)) dNil))))), ("Refused", some 2, fun a x => (dRet (dTup (dCons (dC (.int (5))) (dCons (dXf [("Refused", "reason")] a x "reason" (dVar 2)) dNil)))))])
def t__law_is_first (dw : Exc3 → Reg → Prop) : DSt :=
  (dTry [(("InvalidCurve", "TowerError"), true), (("InvalidOperation", "TowerError"), true), (("InvalidOrders", "TowerError"), true), (("InvalidPaper", "TowerError"), true), (("InvalidPlait", "TowerError"), true), (("InvalidPlane", "TowerError"), true), (("InvalidPoint", "TowerError"), true), (("InvalidPrime", "TowerError"), true), (("InvalidRow", "TowerError"), true), (("InvalidTable", "TowerError"), true), (("InvalidTree", "TowerError"), true), (("InvalidWeights", "TowerError"), true), (("InvalidWord", "TowerError"), true)] (fun x _ G => dw x G) (fun dw2 => (dDrop (dCall (spC r__law_raise_first) dw2 (dCons (dVar 0) dNil)))) [("TowerError", none, fun a x => (dRet (dC (.bl true))))])
def t__law_kept_first (dw : Exc3 → Reg → Prop) : DSt :=
  (dTry [((("InvalidCount" : Str), ("TowerError" : Str)), false), ((("InvalidCount" : Str), ("Refused" : Str)), false), ((("InvalidCount" : Str), ("TooMany" : Str)), false), ((("InvalidCount" : Str), ("NothingToUndo" : Str)), false), ((("InvalidCount" : Str), ("UnknownName" : Str)), false), ((("InvalidCount" : Str), ("InvalidCount" : Str)), true), ((("NothingToUndo" : Str), ("TowerError" : Str)), false), ((("NothingToUndo" : Str), ("Refused" : Str)), false), ((("NothingToUndo" : Str), ("TooMany" : Str)), false), ((("NothingToUndo" : Str), ("NothingToUndo" : Str)), true), ((("NothingToUndo" : Str), ("UnknownName" : Str)), false), ((("NothingToUndo" : Str), ("InvalidCount" : Str)), false), ((("ParseError" : Str), ("TowerError" : Str)), true), ((("ParseError" : Str), ("Refused" : Str)), false), ((("ParseError" : Str), ("TooMany" : Str)), false), ((("ParseError" : Str), ("NothingToUndo" : Str)), false), ((("ParseError" : Str), ("UnknownName" : Str)), false), ((("ParseError" : Str), ("InvalidCount" : Str)), false), ((("Refused" : Str), ("TowerError" : Str)), false), ((("Refused" : Str), ("Refused" : Str)), true), ((("Refused" : Str), ("TooMany" : Str)), false), ((("Refused" : Str), ("NothingToUndo" : Str)), false), ((("Refused" : Str), ("UnknownName" : Str)), false), ((("Refused" : Str), ("InvalidCount" : Str)), false), ((("TooMany" : Str), ("TowerError" : Str)), false), ((("TooMany" : Str), ("Refused" : Str)), false), ((("TooMany" : Str), ("TooMany" : Str)), true), ((("TooMany" : Str), ("NothingToUndo" : Str)), false), ((("TooMany" : Str), ("UnknownName" : Str)), false), ((("TooMany" : Str), ("InvalidCount" : Str)), false), ((("UnknownName" : Str), ("TowerError" : Str)), false), ((("UnknownName" : Str), ("Refused" : Str)), false), ((("UnknownName" : Str), ("TooMany" : Str)), false), ((("UnknownName" : Str), ("NothingToUndo" : Str)), false), ((("UnknownName" : Str), ("UnknownName" : Str)), true), ((("UnknownName" : Str), ("InvalidCount" : Str)), false)] (fun x _ G => dw x G) (fun dw2 => (dDrop (dCall (spC r__law_raise_kept) dw2 (dCons (dVar 0) (dCons (dC (.int (3))) dNil))))) [("TowerError", none, fun a x => (dRet (dC (.bl true)))), ("Refused", none, fun a x => (dRet (dC (.bl false)))), ("TooMany", none, fun a x => (dRet (dC (.bl false)))), ("NothingToUndo", none, fun a x => (dRet (dC (.bl false)))), ("UnknownName", none, fun a x => (dRet (dC (.bl false)))), ("InvalidCount", none, fun a x => (dRet (dC (.bl false))))])
def t__law_right (dw : Exc3 → Reg → Prop) : DSt :=
  (dSeq (dSet 1 (dCall sp__law_pick (fun x _ G => dw x G) (dCons (dVar 0) (dCons (dLst (dCons (dC .non) (dCons (dC (.int (0))) (dCons (dUn uNeg (dC (.int (7)))) (dCons (dOp oMul (dOp oPow (dC (.int (10))) (dC (.int (60)))) (dC (.int (77)))) (dCons (dC (.bl true)) (dCons (dC (.str "text")) (dCons (dC (.str "")) (dCons (dTup (dCons (dC (.int (1))) (dCons (dC (.str "a")) dNil))) (dCons (dLst dNil) (dCons (dC (.dcK [] [])) (dCons (dTup (dCons (dC (.str "touch")) (dCons (dC (.str "a")) (dCons (dC (.str "b")) (dCons (dC (.int (6))) dNil))))) dNil)))))))))))) dNil))))
    (dSeq (dFor (dRng1 (dCons (dC (.int (6))) dNil)) (gNm 2) (dSeq (dSet 3 (dCall sp__law_kept (fun x _ G => dw x G) (dCons (dVar 2) (dCons (dVar 1) dNil))))
    (dIfS (dOr (dTest (dOp oNe (dOp oIx (dVar 3) (dC (.int (0)))) (dVar 2))) (dTest (dOp oNe (dCB bReprG (dPCons (dOp oIx (dVar 3) (dC (.int (1)))) dNil)) (dCB bReprG (dPCons (dVar 1) dNil))))) (dRet (dC (.bl false))) dNext)))
    (dRet (dC (.bl true)))))
def t_law (dw : Exc3 → Reg → Prop) : DSt :=
  (dSeq (dFor (dRng1 (dCons (dCB bMax (dPCons (dC (.int (1))) (dPCons (dCB bMin (dPCons (dC (.int (3))) (dPCons (dCB bLen (dPCons (dVar 0) dNil)) dNil))) dNil))) dNil)) (gNm 1) (dIfS (dNot (dTest (dCall sp__law_right (fun x _ G => dw x G) (dCons (dFresh (dCall sp__law_dice (fun x _ G => dw x G) (dCons (dVar 0) (dCons (dVar 1) dNil)))) dNil)))) (dRet (dC (.bl false))) dNext))
    (dSeq (dFor (dRng1 (dCons (dC (.int (13))) dNil)) (gNm 2) (dIfS (dOr (dTest (dOp oNe (dLst (dCons (dCall sp__law_caught (fun x _ G => dw x G) (dCons (dVar 2) dNil)) (dCons (dCall sp__law_caught_back (fun x _ G => dw x G) (dCons (dVar 2) dNil)) dNil))) (dLst (dCons (dVar 2) (dCons (dVar 2) dNil))))) (dNot (dTest (dCall sp__law_is_first (fun x _ G => dw x G) (dCons (dVar 2) dNil))))) (dRet (dC (.bl false))) dNext))
    (dRet (dOp oEq (dLc (dRng1 (dCons (dC (.int (6))) dNil)) (gNm 2) dYes (dCall sp__law_kept_first dw0 (dCons (dVar 2) dNil)) [2]) (dOp oAdd (dLst (dCons (dC (.bl true)) dNil)) (dOp oMul (dLst (dCons (dC (.bl false)) dNil)) (dC (.int (5)))))))))
end K01

set_option Elab.async false
set_option maxRecDepth 100000
set_option maxHeartbeats 4000000
set_option exponentiation.threshold 2000
/-! K01: what is raised, and caught -/
namespace K01
open PySem PySem.Spec PyProof.Rows L2 L3 LD
local macro_rules | `(tactic| walk_at "ev") => `(tactic| repeat (first | refine lc_stop ?_ | refine for_stop ?_ | refine ⟨_, rfl, ?_⟩ | refine ⟨_, _, rfl, ?_⟩ | refine ⟨rfl, ?_⟩ | refine And.intro (by assumption) ?_ | refine ⟨by decide, ?_⟩ | refine ⟨ltL rfl, ?_⟩ | refine ⟨_, at0, ?_⟩ | refine ⟨_, at1, ?_⟩ | refine ⟨_, at2, ?_⟩ | refine ifT ?_ | refine ifF ?_ | refine ⟨_, _, _, rfl, ?_⟩ | refine ⟨⟨_, rfl⟩, ?_⟩ | refine ⟨_, _, _, _, rfl, ?_⟩))
/-- the clause that takes x -/
def hSel (em : List ((Str × Str) × Bool)) (x : Str) : List Str → Option Nat
  | [] => none
  | c :: r => match em.lookup (x, c) with
    | some true => some 0
    | some false => (hSel em x r).map (· + 1)
    | none => none
theorem hRd_sel {em : List ((Str × Str) × Bool)} {out : DW} {Dn : Ends3} {x : Exc3} {E : Env3} {G : Reg} : ∀ {hs : List Cl3} {i : Nat} {c : Cl3}, hSel em x.1 (hs.map (·.1)) = some i → hs[i]? = some c → hRd em out Dn [c] x E G → hRd em out Dn hs x E G
  | [], i, c, h, _, _ => by cases h
  | (nm, o, ts) :: r, i, c, h, hi, k => by
    unfold hSel at h
    have h : (match em.lookup (x.1, nm) with | some true => some 0 | some false => (hSel em x.1 (r.map (·.1))).map (· + 1) | none => none) = some i := h
    cases e : em.lookup (x.1, nm) with
    | none => rw [e] at h; cases h
    | some b =>
      rw [e] at h
      cases b with
      | true =>
        cases h
        cases hi
        cases o with
        | none =>
          obtain ⟨b', e', k⟩ := k
          have z := e.symm.trans e'
          cases z
          exact ⟨true, e, k⟩
        | some j =>
          obtain ⟨b', e', k⟩ := k
          have z := e.symm.trans e'
          cases z
          exact ⟨true, e, k⟩
      | false =>
        obtain ⟨j, hj, rfl⟩ := Option.map_eq_some_iff.mp h
        have k2 := hRd_sel hj (by simpa using hi) k
        cases o with
        | none => exact ⟨false, e, k2⟩
        | some l => exact ⟨false, e, k2⟩
theorem hRd_by {em : List ((Str × Str) × Bool)} {out : DW} {Dn : Ends3} {x : Exc3} {E : Env3} {G : Reg} {hs : List Cl3} (nm : Str) (i : Nat) (c : Cl3) (hx : x.1 = nm) (h : hSel em nm (hs.map (·.1)) = some i) (hc : hs[i]? = some c) (k : hRd em out Dn [c] x E G) : hRd em out Dn hs x E G :=
  hRd_sel (by rw [hx]; exact h) hc k
theorem p__law_caught : ∀ ds G q dw, sp__law_caught ds G q dw → t__law_caught dw { nx := fun _ G' => q (.val .non) G', rt := q } (start3 ["_law_number"] ds) G := by
  intro ds G q dw h
  unfold t__law_caught
  obtain ⟨n, rfl, hn, h⟩ := h
  walk_at "ev"
  show spC r__law_raise_first [.int (n : Int)] G _ _
  unfold spC
  match n, hn, h with
  | 0, _, h =>
    refine hRd_by "InvalidPrime" 0 _ rfl (by decide +kernel) rfl ?_
    refine ⟨true, by decide +kernel, ?_⟩
    rw [if_pos rfl]
    intro a
    walk_at "ev"
    exact h
  | 1, _, h =>
    refine hRd_by "InvalidWord" 1 _ rfl (by decide +kernel) rfl ?_
    refine ⟨true, by decide +kernel, ?_⟩
    rw [if_pos rfl]
    intro a
    walk_at "ev"
    exact h
  | 2, _, h =>
    refine hRd_by "InvalidPoint" 2 _ rfl (by decide +kernel) rfl ?_
    refine ⟨true, by decide +kernel, ?_⟩
    rw [if_pos rfl]
    intro a
    walk_at "ev"
    exact h
  | 3, _, h =>
    refine hRd_by "InvalidRow" 3 _ rfl (by decide +kernel) rfl ?_
    refine ⟨true, by decide +kernel, ?_⟩
    rw [if_pos rfl]
    intro a
    walk_at "ev"
    exact h
  | 4, _, h =>
    refine hRd_by "InvalidTable" 4 _ rfl (by decide +kernel) rfl ?_
    refine ⟨true, by decide +kernel, ?_⟩
    rw [if_pos rfl]
    intro a
    walk_at "ev"
    exact h
  | 5, _, h =>
    refine hRd_by "InvalidPlane" 5 _ rfl (by decide +kernel) rfl ?_
    refine ⟨true, by decide +kernel, ?_⟩
    rw [if_pos rfl]
    intro a
    walk_at "ev"
    exact h
  | 6, _, h =>
    refine hRd_by "InvalidCurve" 6 _ rfl (by decide +kernel) rfl ?_
    refine ⟨true, by decide +kernel, ?_⟩
    rw [if_pos rfl]
    intro a
    walk_at "ev"
    exact h
  | 7, _, h =>
    refine hRd_by "InvalidWeights" 7 _ rfl (by decide +kernel) rfl ?_
    refine ⟨true, by decide +kernel, ?_⟩
    rw [if_pos rfl]
    intro a
    walk_at "ev"
    exact h
  | 8, _, h =>
    refine hRd_by "InvalidOrders" 8 _ rfl (by decide +kernel) rfl ?_
    refine ⟨true, by decide +kernel, ?_⟩
    rw [if_pos rfl]
    intro a
    walk_at "ev"
    exact h
  | 9, _, h =>
    refine hRd_by "InvalidPaper" 9 _ rfl (by decide +kernel) rfl ?_
    refine ⟨true, by decide +kernel, ?_⟩
    rw [if_pos rfl]
    intro a
    walk_at "ev"
    exact h
  | 10, _, h =>
    refine hRd_by "InvalidTree" 10 _ rfl (by decide +kernel) rfl ?_
    refine ⟨true, by decide +kernel, ?_⟩
    rw [if_pos rfl]
    intro a
    walk_at "ev"
    exact h
  | 11, _, h =>
    refine hRd_by "InvalidPlait" 11 _ rfl (by decide +kernel) rfl ?_
    refine ⟨true, by decide +kernel, ?_⟩
    rw [if_pos rfl]
    intro a
    walk_at "ev"
    exact h
  | 12, _, h =>
    refine hRd_by "InvalidOperation" 12 _ rfl (by decide +kernel) rfl ?_
    refine ⟨true, by decide +kernel, ?_⟩
    rw [if_pos rfl]
    intro a
    walk_at "ev"
    exact h
theorem p__law_caught_back : ∀ ds G q dw, sp__law_caught_back ds G q dw → t__law_caught_back dw { nx := fun _ G' => q (.val .non) G', rt := q } (start3 ["_law_number"] ds) G := by
  intro ds G q dw h
  unfold t__law_caught_back
  obtain ⟨n, rfl, hn, h⟩ := h
  walk_at "ev"
  show spC r__law_raise_first [.int (n : Int)] G _ _
  unfold spC
  match n, hn, h with
  | 0, _, h =>
    refine hRd_by "InvalidPrime" 13 _ rfl (by decide +kernel) rfl ?_
    refine ⟨true, by decide +kernel, ?_⟩
    rw [if_pos rfl]
    intro a
    walk_at "ev"
    exact h
  | 1, _, h =>
    refine hRd_by "InvalidWord" 12 _ rfl (by decide +kernel) rfl ?_
    refine ⟨true, by decide +kernel, ?_⟩
    rw [if_pos rfl]
    intro a
    walk_at "ev"
    exact h
  | 2, _, h =>
    refine hRd_by "InvalidPoint" 11 _ rfl (by decide +kernel) rfl ?_
    refine ⟨true, by decide +kernel, ?_⟩
    rw [if_pos rfl]
    intro a
    walk_at "ev"
    exact h
  | 3, _, h =>
    refine hRd_by "InvalidRow" 10 _ rfl (by decide +kernel) rfl ?_
    refine ⟨true, by decide +kernel, ?_⟩
    rw [if_pos rfl]
    intro a
    walk_at "ev"
    exact h
  | 4, _, h =>
    refine hRd_by "InvalidTable" 9 _ rfl (by decide +kernel) rfl ?_
    refine ⟨true, by decide +kernel, ?_⟩
    rw [if_pos rfl]
    intro a
    walk_at "ev"
    exact h
  | 5, _, h =>
    refine hRd_by "InvalidPlane" 8 _ rfl (by decide +kernel) rfl ?_
    refine ⟨true, by decide +kernel, ?_⟩
    rw [if_pos rfl]
    intro a
    walk_at "ev"
    exact h
  | 6, _, h =>
    refine hRd_by "InvalidCurve" 7 _ rfl (by decide +kernel) rfl ?_
    refine ⟨true, by decide +kernel, ?_⟩
    rw [if_pos rfl]
    intro a
    walk_at "ev"
    exact h
  | 7, _, h =>
    refine hRd_by "InvalidWeights" 6 _ rfl (by decide +kernel) rfl ?_
    refine ⟨true, by decide +kernel, ?_⟩
    rw [if_pos rfl]
    intro a
    walk_at "ev"
    exact h
  | 8, _, h =>
    refine hRd_by "InvalidOrders" 5 _ rfl (by decide +kernel) rfl ?_
    refine ⟨true, by decide +kernel, ?_⟩
    rw [if_pos rfl]
    intro a
    walk_at "ev"
    exact h
  | 9, _, h =>
    refine hRd_by "InvalidPaper" 4 _ rfl (by decide +kernel) rfl ?_
    refine ⟨true, by decide +kernel, ?_⟩
    rw [if_pos rfl]
    intro a
    walk_at "ev"
    exact h
  | 10, _, h =>
    refine hRd_by "InvalidTree" 3 _ rfl (by decide +kernel) rfl ?_
    refine ⟨true, by decide +kernel, ?_⟩
    rw [if_pos rfl]
    intro a
    walk_at "ev"
    exact h
  | 11, _, h =>
    refine hRd_by "InvalidPlait" 2 _ rfl (by decide +kernel) rfl ?_
    refine ⟨true, by decide +kernel, ?_⟩
    rw [if_pos rfl]
    intro a
    walk_at "ev"
    exact h
  | 12, _, h =>
    refine hRd_by "InvalidOperation" 1 _ rfl (by decide +kernel) rfl ?_
    refine ⟨true, by decide +kernel, ?_⟩
    rw [if_pos rfl]
    intro a
    walk_at "ev"
    exact h
theorem p__law_is_first : ∀ ds G q dw, sp__law_is_first ds G q dw → t__law_is_first dw { nx := fun _ G' => q (.val .non) G', rt := q } (start3 ["_law_number"] ds) G := by
  intro ds G q dw h
  unfold t__law_is_first
  obtain ⟨n, rfl, hn, h⟩ := h
  walk_at "ev"
  show spC r__law_raise_first [.int (n : Int)] G _ _
  unfold spC
  match n, hn, h with
  | 0, _, h =>
    refine hRd_by "InvalidPrime" 0 _ rfl (by decide +kernel) rfl ?_
    refine ⟨true, by decide +kernel, ?_⟩
    rw [if_pos rfl]
    intro a
    walk_at "ev"
    exact h
  | 1, _, h =>
    refine hRd_by "InvalidWord" 0 _ rfl (by decide +kernel) rfl ?_
    refine ⟨true, by decide +kernel, ?_⟩
    rw [if_pos rfl]
    intro a
    walk_at "ev"
    exact h
  | 2, _, h =>
    refine hRd_by "InvalidPoint" 0 _ rfl (by decide +kernel) rfl ?_
    refine ⟨true, by decide +kernel, ?_⟩
    rw [if_pos rfl]
    intro a
    walk_at "ev"
    exact h
  | 3, _, h =>
    refine hRd_by "InvalidRow" 0 _ rfl (by decide +kernel) rfl ?_
    refine ⟨true, by decide +kernel, ?_⟩
    rw [if_pos rfl]
    intro a
    walk_at "ev"
    exact h
  | 4, _, h =>
    refine hRd_by "InvalidTable" 0 _ rfl (by decide +kernel) rfl ?_
    refine ⟨true, by decide +kernel, ?_⟩
    rw [if_pos rfl]
    intro a
    walk_at "ev"
    exact h
  | 5, _, h =>
    refine hRd_by "InvalidPlane" 0 _ rfl (by decide +kernel) rfl ?_
    refine ⟨true, by decide +kernel, ?_⟩
    rw [if_pos rfl]
    intro a
    walk_at "ev"
    exact h
  | 6, _, h =>
    refine hRd_by "InvalidCurve" 0 _ rfl (by decide +kernel) rfl ?_
    refine ⟨true, by decide +kernel, ?_⟩
    rw [if_pos rfl]
    intro a
    walk_at "ev"
    exact h
  | 7, _, h =>
    refine hRd_by "InvalidWeights" 0 _ rfl (by decide +kernel) rfl ?_
    refine ⟨true, by decide +kernel, ?_⟩
    rw [if_pos rfl]
    intro a
    walk_at "ev"
    exact h
  | 8, _, h =>
    refine hRd_by "InvalidOrders" 0 _ rfl (by decide +kernel) rfl ?_
    refine ⟨true, by decide +kernel, ?_⟩
    rw [if_pos rfl]
    intro a
    walk_at "ev"
    exact h
  | 9, _, h =>
    refine hRd_by "InvalidPaper" 0 _ rfl (by decide +kernel) rfl ?_
    refine ⟨true, by decide +kernel, ?_⟩
    rw [if_pos rfl]
    intro a
    walk_at "ev"
    exact h
  | 10, _, h =>
    refine hRd_by "InvalidTree" 0 _ rfl (by decide +kernel) rfl ?_
    refine ⟨true, by decide +kernel, ?_⟩
    rw [if_pos rfl]
    intro a
    walk_at "ev"
    exact h
  | 11, _, h =>
    refine hRd_by "InvalidPlait" 0 _ rfl (by decide +kernel) rfl ?_
    refine ⟨true, by decide +kernel, ?_⟩
    rw [if_pos rfl]
    intro a
    walk_at "ev"
    exact h
  | 12, _, h =>
    refine hRd_by "InvalidOperation" 0 _ rfl (by decide +kernel) rfl ?_
    refine ⟨true, by decide +kernel, ?_⟩
    rw [if_pos rfl]
    intro a
    walk_at "ev"
    exact h
theorem p__law_kept_first : ∀ ds G q dw, sp__law_kept_first ds G q dw → t__law_kept_first dw { nx := fun _ G' => q (.val .non) G', rt := q } (start3 ["_law_number"] ds) G := by
  intro ds G q dw h
  unfold t__law_kept_first
  obtain ⟨n, rfl, hn, h⟩ := h
  walk_at "ev"
  show spC r__law_raise_kept [.int (n : Int), .int 3] G _ _
  unfold spC
  match n, hn, h with
  | 0, _, h =>
    refine hRd_by "ParseError" 0 _ rfl (by decide +kernel) rfl ?_
    refine ⟨true, by decide +kernel, ?_⟩
    rw [if_pos rfl]
    intro a
    walk_at "ev"
    exact h
  | 1, _, h =>
    refine hRd_by "InvalidCount" 5 _ rfl (by decide +kernel) rfl ?_
    refine ⟨true, by decide +kernel, ?_⟩
    rw [if_pos rfl]
    intro a
    walk_at "ev"
    exact h
  | 2, _, h =>
    refine hRd_by "UnknownName" 4 _ rfl (by decide +kernel) rfl ?_
    refine ⟨true, by decide +kernel, ?_⟩
    rw [if_pos rfl]
    intro a
    walk_at "ev"
    exact h
  | 3, _, h =>
    refine hRd_by "NothingToUndo" 3 _ rfl (by decide +kernel) rfl ?_
    refine ⟨true, by decide +kernel, ?_⟩
    rw [if_pos rfl]
    intro a
    walk_at "ev"
    exact h
  | 4, _, h =>
    refine hRd_by "TooMany" 2 _ rfl (by decide +kernel) rfl ?_
    refine ⟨true, by decide +kernel, ?_⟩
    rw [if_pos rfl]
    intro a
    walk_at "ev"
    exact h
  | 5, _, h =>
    refine hRd_by "Refused" 1 _ rfl (by decide +kernel) rfl ?_
    refine ⟨true, by decide +kernel, ?_⟩
    rw [if_pos rfl]
    intro a
    walk_at "ev"
    exact h
theorem p__law_kept : ∀ ds G q dw, sp__law_kept ds G q dw → t__law_kept dw { nx := fun _ G' => q (.val .non) G', rt := q } (start3 ["_law_number", "_law_value", "e"] ds) G := by
  intro ds G q dw h
  unfold t__law_kept
  obtain ⟨n, d, rfl, hn, h⟩ := h
  walk_at "ev"
  show spC r__law_raise_kept [.int (n : Int), d] G _ _
  unfold spC
  match n, hn, h with
  | 0, _, h =>
    refine hRd_by "ParseError" 0 _ rfl (by decide +kernel) rfl ?_
    refine ⟨true, by show List.lookup (("ParseError" : Str), ("ParseError" : Str)) _ = _; decide +kernel, ?_⟩
    rw [if_pos rfl]
    refine ⟨show 2 < 3 by decide, fun a => ?_⟩
    walk_at "ev"
    refine ⟨List.mem_singleton.mpr rfl, ?_⟩
    walk_at "ev"
    exact h
  | 1, _, h =>
    refine hRd_by "InvalidCount" 1 _ rfl (by decide +kernel) rfl ?_
    refine ⟨true, by show List.lookup (("InvalidCount" : Str), ("InvalidCount" : Str)) _ = _; decide +kernel, ?_⟩
    rw [if_pos rfl]
    refine ⟨show 2 < 3 by decide, fun a => ?_⟩
    walk_at "ev"
    refine ⟨List.mem_singleton.mpr rfl, ?_⟩
    walk_at "ev"
    exact h
  | 2, _, h =>
    refine hRd_by "UnknownName" 2 _ rfl (by decide +kernel) rfl ?_
    refine ⟨true, by show List.lookup (("UnknownName" : Str), ("UnknownName" : Str)) _ = _; decide +kernel, ?_⟩
    rw [if_pos rfl]
    refine ⟨show 2 < 3 by decide, fun a => ?_⟩
    walk_at "ev"
    refine ⟨List.mem_singleton.mpr rfl, ?_⟩
    walk_at "ev"
    exact h
  | 3, _, h =>
    refine hRd_by "NothingToUndo" 3 _ rfl (by decide +kernel) rfl ?_
    refine ⟨true, by show List.lookup (("NothingToUndo" : Str), ("NothingToUndo" : Str)) _ = _; decide +kernel, ?_⟩
    rw [if_pos rfl]
    refine ⟨show 2 < 3 by decide, fun a => ?_⟩
    walk_at "ev"
    refine ⟨List.mem_singleton.mpr rfl, ?_⟩
    walk_at "ev"
    exact h
  | 4, _, h =>
    refine hRd_by "TooMany" 4 _ rfl (by decide +kernel) rfl ?_
    refine ⟨true, by show List.lookup (("TooMany" : Str), ("TooMany" : Str)) _ = _; decide +kernel, ?_⟩
    rw [if_pos rfl]
    refine ⟨show 2 < 3 by decide, fun a => ?_⟩
    walk_at "ev"
    refine ⟨List.mem_singleton.mpr rfl, ?_⟩
    walk_at "ev"
    exact h
  | 5, _, h =>
    refine hRd_by "Refused" 5 _ rfl (by decide +kernel) rfl ?_
    refine ⟨true, by show List.lookup (("Refused" : Str), ("Refused" : Str)) _ = _; decide +kernel, ?_⟩
    rw [if_pos rfl]
    refine ⟨show 2 < 3 by decide, fun a => ?_⟩
    walk_at "ev"
    refine ⟨List.mem_singleton.mpr rfl, ?_⟩
    walk_at "ev"
    exact h
end K01

set_option Elab.async false
set_option maxRecDepth 100000
set_option maxHeartbeats 4000000
set_option exponentiation.threshold 2000
/-! K01: the defs by hand keep their promises -/
namespace K01
open PySem PySem.Spec PyProof.Rows L2 L3 LD
local macro_rules | `(tactic| walk_at "ev") => `(tactic| repeat (first | refine lc_stop ?_ | refine for_stop ?_ | refine ⟨_, rfl, ?_⟩ | refine ⟨_, _, rfl, ?_⟩ | refine ⟨rfl, ?_⟩ | refine And.intro (by assumption) ?_ | refine ⟨by decide, ?_⟩ | refine ⟨ltL rfl, ?_⟩ | refine ⟨_, at0, ?_⟩ | refine ⟨_, at1, ?_⟩ | refine ⟨_, at2, ?_⟩ | refine ifT ?_ | refine ifF ?_ | refine ⟨_, _, _, rfl, ?_⟩ | refine ⟨⟨_, rfl⟩, ?_⟩ | refine ⟨_, _, _, _, rfl, ?_⟩))
theorem ifFq {b : Bool} {p q : Prop} (h : b = false) (k : q) : if b = true then p else q := by rw [h]; exact k
theorem self2 : ∀ k : Nat, k < 13 → (D.lst [.int (k : Int), .int (k : Int)]).eqv (.lst [.int (k : Int), .int (k : Int)]) = true := by decide +kernel
theorem self1 : ∀ k : Nat, k < 6 → (D.int (k : Int)).eqv (.int (k : Int)) = true := by decide +kernel
def told (d : D) : Bool := match rpr d with
  | some s => (D.str s).sh && D.eqv (.str s) (.str s)
  | none => false
theorem told_vs : ∀ d ∈ Vs, told d = true := by decide +kernel
theorem rpr_vs {d : D} (hd : d ∈ Vs) : ∃ s, rpr d = some s ∧ (D.str s).sh = true ∧ D.eqv (.str s) (.str s) = true := by
  have h := told_vs d hd
  unfold told at h
  cases e : rpr d with
  | none => rw [e] at h; cases h
  | some s =>
    rw [e] at h
    have h : ((D.str s).sh && D.eqv (.str s) (.str s)) = true := h
    rw [Bool.and_eq_true] at h
    exact ⟨s, rfl, h.1, h.2⟩
theorem range_lt {m : Nat} : ∀ d ∈ rangeD 0 m, ∃ k : Nat, d = .int (k : Int) ∧ k < m := fun d hd => by
  unfold rangeD at hd
  obtain ⟨k, hk, e⟩ := List.mem_map.mp hd
  exact ⟨k, by rw [← e, Int.zero_add], List.mem_range.mp hk⟩
theorem p__law_right : ∀ ds G q dw, sp__law_right ds G q dw → t__law_right dw { nx := fun _ G' => q (.val .non) G', rt := q } (start3 ["_law_dice_here", "_law_value", "_law_number", "_law_told"] ds) G := by
  intro ds G q dw h
  unfold t__law_right
  obtain ⟨a, R, rfl, d1, h⟩ := h
  walk_at "ev"
  refine ⟨cpow 60 (by decide) (by decide), ?_⟩
  walk_at "ev"
  refine ⟨mulC' (by decide), ?_⟩
  walk_at "ev"
  refine ⟨a, R, Vs, rfl, d1, by decide, by decide, fun d G1 hd d2 => ?_⟩
  obtain ⟨s, hs, sh, se⟩ := rpr_vs hd
  walk_at "ev"
  refine .go ?_
  refine for_ind (fun ds E G => (∀ d ∈ ds, ∃ k : Nat, d = .int (k : Int) ∧ k < 6) ∧ Dice a R G ∧ ∃ s2 s3, E = [.val (.ref a), .val d, s2, s3]) (fun E G hI => ?_) (fun d1 ds E G nx hI hn => ?_) _ _ _ ⟨range_lt, d2, _, _, rfl⟩
  · obtain ⟨_, d3, s2, s3, rfl⟩ := hI
    walk_at "ev"
    exact h _ d3
  · obtain ⟨hk, d3, s2, s3, rfl⟩ := hI
    obtain ⟨k, rfl, k6⟩ := hk d1 List.mem_cons_self
    clear h
    walk_at "ev"
    refine ifFq (by rw [self1 k k6]; rfl) ?_
    walk_at "ev"
    refine ⟨s, hs, ?_⟩
    walk_at "ev"
    refine ⟨s, hs, ?_⟩
    walk_at "ev"
    refine ifFq (by rw [se]; rfl) ?_
    walk_at "ev"
    exact hn _ _ ⟨fun z hz => hk z (List.mem_cons_of_mem _ hz), d3, _, _, rfl⟩
theorem p_law : ∀ ds G q dw, sp_law ds G q dw → t_law dw { nx := fun _ G' => q (.val .non) G', rt := q } (start3 ["_law_script", "_law_spot", "_law_number"] ds) G := by
  intro ds G q dw h
  unfold t_law
  obtain ⟨ns, rfl, hl, h⟩ := h
  walk_at "ev"
  have hM := spots_le (m := 3) (n := (ns.length : Int)) (by decide) (by decide)
  refine ⟨Int.le_trans (by decide) hM.1, Int.lt_of_le_of_lt hM.2 (by decide), ?_⟩
  refine for_stop (.go ?_)
  refine for_ind (fun ds E G => (∀ d ∈ ds, ∃ k : Nat, d = .int (k : Int)) ∧ ∃ s1, E = [.val (.scr ns), s1, .no]) (fun E G hI => ?_) (fun d ds E G nx hI hn => ?_) _ _ _ ⟨fun d hd => ?_, _, rfl⟩
  · obtain ⟨_, s1, rfl⟩ := hI
    walk_at "ev"
    refine .go ?_
    refine for_ind (fun ds E G => (∀ d ∈ ds, ∃ k : Nat, d = .int (k : Int) ∧ k < 13) ∧ ∃ s2, E = [.val (.scr ns), s1, s2]) (fun E G hI => ?_) (fun d ds E G nx hI hn => ?_) _ _ _ ⟨range_lt, _, rfl⟩
    · obtain ⟨_, s2, rfl⟩ := hI
      walk_at "ev"
      refine .go ?_
      refine lc_pure0 (fun d => ∃ k : Nat, d = .int (k : Int) ∧ k < 6) (fun d => match d with | .int i => some (.bl (decide (i = 0))) | _ => none) (fun d k1 k2 hd e1 e2 => ?_) range_lt ?_
      · clear h
        obtain ⟨k, rfl, k6⟩ := hd
        walk_at "ev"
        exact e1 _ _ (by show some (D.bl (decide ((k : Int) = 0))) = some (D.bl (decide (k = 0))); rw [show decide ((k : Int) = 0) = decide (k = 0) from decide_eq_decide.mpr (by omega)]) rfl
      · walk_at "ev"
        exact qT (q := q) (by decide +kernel) (h _)
    · obtain ⟨hd, s2, rfl⟩ := hI
      obtain ⟨k, rfl, k13⟩ := hd d List.mem_cons_self
      clear h
      walk_at "ev"
      refine ifFq (by first | exact self2 k k13 | (rw [self2 k k13]; rfl) | simp [self2 k k13]) ?_
      walk_at "ev"
      exact hn _ _ ⟨fun z hz => hd z (List.mem_cons_of_mem _ hz), _, rfl⟩
  · obtain ⟨hd, s1, rfl⟩ := hI
    obtain ⟨k, rfl⟩ := hd d List.mem_cons_self
    walk_at "ev"
    intro l m c
    walk_at "ev"
    intro a
    walk_at "ev"
    refine ⟨a, _, rfl, ⟨l, m, c, rfl⟩, fun G1 d1 => ?_⟩
    walk_at "ev"
    exact hn _ _ ⟨fun z hz => hd z (List.mem_cons_of_mem _ hz), _, rfl⟩
  · unfold rangeD at hd
    obtain ⟨k, _, e⟩ := List.mem_map.mp hd
    exact ⟨k, by rw [← e, Int.zero_add]⟩
end K01

set_option Elab.async false
set_option maxRecDepth 100000
set_option maxHeartbeats 4000000
/-! K01: the derivations (printed by gen5.py) -/
namespace K01
open PySem PySem.Spec PyProof.Rows L2 L3 LamX LD
def topS (i : Nat) : Stmt := PySem.Challenge.pw_touchtowers_k01_errors_and_what_they_kee.main.body.getD i (.Pass ⟨0, 0, 0, 0⟩)
structure Txt (P : Program) (K : PySem.W.Frag) (mg : Str → Option Value) : Prop where
  no_ : True
  n_abs : mg "abs" = none
  n_int : mg "int" = none
  n_len : mg "len" = none
  n_max : mg "max" = none
  n_min : mg "min" = none
  n_range : mg "range" = none
  n_repr : mg "repr" = none
  k_InvalidCount : ∃ C, ClsN K "InvalidCount" C ∧ mg "InvalidCount" = some (.ref C)
  k_InvalidCurve : ∃ C, ClsN K "InvalidCurve" C ∧ mg "InvalidCurve" = some (.ref C)
  k_InvalidOperation : ∃ C, ClsN K "InvalidOperation" C ∧ mg "InvalidOperation" = some (.ref C)
  k_InvalidOrders : ∃ C, ClsN K "InvalidOrders" C ∧ mg "InvalidOrders" = some (.ref C)
  k_InvalidPaper : ∃ C, ClsN K "InvalidPaper" C ∧ mg "InvalidPaper" = some (.ref C)
  k_InvalidPlait : ∃ C, ClsN K "InvalidPlait" C ∧ mg "InvalidPlait" = some (.ref C)
  k_InvalidPlane : ∃ C, ClsN K "InvalidPlane" C ∧ mg "InvalidPlane" = some (.ref C)
  k_InvalidPoint : ∃ C, ClsN K "InvalidPoint" C ∧ mg "InvalidPoint" = some (.ref C)
  k_InvalidPrime : ∃ C, ClsN K "InvalidPrime" C ∧ mg "InvalidPrime" = some (.ref C)
  k_InvalidRow : ∃ C, ClsN K "InvalidRow" C ∧ mg "InvalidRow" = some (.ref C)
  k_InvalidTable : ∃ C, ClsN K "InvalidTable" C ∧ mg "InvalidTable" = some (.ref C)
  k_InvalidTree : ∃ C, ClsN K "InvalidTree" C ∧ mg "InvalidTree" = some (.ref C)
  k_InvalidWeights : ∃ C, ClsN K "InvalidWeights" C ∧ mg "InvalidWeights" = some (.ref C)
  k_InvalidWord : ∃ C, ClsN K "InvalidWord" C ∧ mg "InvalidWord" = some (.ref C)
  k_NothingToUndo : ∃ C, ClsN K "NothingToUndo" C ∧ mg "NothingToUndo" = some (.ref C)
  k_ParseError : ∃ C, ClsN K "ParseError" C ∧ mg "ParseError" = some (.ref C)
  k_Refused : ∃ C, ClsN K "Refused" C ∧ mg "Refused" = some (.ref C)
  k_TooMany : ∃ C, ClsN K "TooMany" C ∧ mg "TooMany" = some (.ref C)
  k_TowerError : ∃ C, ClsN K "TowerError" C ∧ mg "TowerError" = some (.ref C)
  k_UnknownName : ∃ C, ClsN K "UnknownName" C ∧ mg "UnknownName" = some (.ref C)
  o_InvalidCurve : Own0 K mg "InvalidCurve"
  o_InvalidOperation : Own0 K mg "InvalidOperation"
  o_InvalidOrders : Own0 K mg "InvalidOrders"
  o_InvalidPaper : Own0 K mg "InvalidPaper"
  o_InvalidPlait : Own0 K mg "InvalidPlait"
  o_InvalidPlane : Own0 K mg "InvalidPlane"
  o_InvalidPoint : Own0 K mg "InvalidPoint"
  o_InvalidPrime : Own0 K mg "InvalidPrime"
  o_InvalidRow : Own0 K mg "InvalidRow"
  o_InvalidTable : Own0 K mg "InvalidTable"
  o_InvalidTree : Own0 K mg "InvalidTree"
  o_InvalidWeights : Own0 K mg "InvalidWeights"
  o_InvalidWord : Own0 K mg "InvalidWord"
  o_InvalidCount : Own1 P K mg "InvalidCount" "value"
  o_NothingToUndo : Own1 P K mg "NothingToUndo" "wanted"
  o_ParseError : Own1 P K mg "ParseError" "index"
  o_Refused : Own1 P K mg "Refused" "reason"
  o_TooMany : Own1 P K mg "TooMany" "limit"
  o_UnknownName : Own1 P K mg "UnknownName" "name"
  xf_InvalidCount_value : Xf3 K "InvalidCount" "value"
  xf_NothingToUndo_wanted : Xf3 K "NothingToUndo" "wanted"
  xf_ParseError_index : Xf3 K "ParseError" "index"
  xf_Refused_reason : Xf3 K "Refused" "reason"
  xf_TooMany_limit : Xf3 K "TooMany" "limit"
  xf_UnknownName_name : Xf3 K "UnknownName" "name"
  em_InvalidCount_InvalidCount : Em3 K "InvalidCount" "InvalidCount" true
  em_InvalidCount_NothingToUndo : Em3 K "InvalidCount" "NothingToUndo" false
  em_InvalidCount_ParseError : Em3 K "InvalidCount" "ParseError" false
  em_InvalidCount_Refused : Em3 K "InvalidCount" "Refused" false
  em_InvalidCount_TooMany : Em3 K "InvalidCount" "TooMany" false
  em_InvalidCount_TowerError : Em3 K "InvalidCount" "TowerError" false
  em_InvalidCount_UnknownName : Em3 K "InvalidCount" "UnknownName" false
  em_InvalidCurve_InvalidCurve : Em3 K "InvalidCurve" "InvalidCurve" true
  em_InvalidCurve_InvalidOperation : Em3 K "InvalidCurve" "InvalidOperation" false
  em_InvalidCurve_InvalidOrders : Em3 K "InvalidCurve" "InvalidOrders" false
  em_InvalidCurve_InvalidPaper : Em3 K "InvalidCurve" "InvalidPaper" false
  em_InvalidCurve_InvalidPlait : Em3 K "InvalidCurve" "InvalidPlait" false
  em_InvalidCurve_InvalidPlane : Em3 K "InvalidCurve" "InvalidPlane" false
  em_InvalidCurve_InvalidPoint : Em3 K "InvalidCurve" "InvalidPoint" false
  em_InvalidCurve_InvalidPrime : Em3 K "InvalidCurve" "InvalidPrime" false
  em_InvalidCurve_InvalidRow : Em3 K "InvalidCurve" "InvalidRow" false
  em_InvalidCurve_InvalidTable : Em3 K "InvalidCurve" "InvalidTable" false
  em_InvalidCurve_InvalidTree : Em3 K "InvalidCurve" "InvalidTree" false
  em_InvalidCurve_InvalidWeights : Em3 K "InvalidCurve" "InvalidWeights" false
  em_InvalidCurve_InvalidWord : Em3 K "InvalidCurve" "InvalidWord" false
  em_InvalidCurve_ParseError : Em3 K "InvalidCurve" "ParseError" false
  em_InvalidCurve_TowerError : Em3 K "InvalidCurve" "TowerError" true
  em_InvalidOperation_InvalidCurve : Em3 K "InvalidOperation" "InvalidCurve" false
  em_InvalidOperation_InvalidOperation : Em3 K "InvalidOperation" "InvalidOperation" true
  em_InvalidOperation_InvalidOrders : Em3 K "InvalidOperation" "InvalidOrders" false
  em_InvalidOperation_InvalidPaper : Em3 K "InvalidOperation" "InvalidPaper" false
  em_InvalidOperation_InvalidPlait : Em3 K "InvalidOperation" "InvalidPlait" false
  em_InvalidOperation_InvalidPlane : Em3 K "InvalidOperation" "InvalidPlane" false
  em_InvalidOperation_InvalidPoint : Em3 K "InvalidOperation" "InvalidPoint" false
  em_InvalidOperation_InvalidPrime : Em3 K "InvalidOperation" "InvalidPrime" false
  em_InvalidOperation_InvalidRow : Em3 K "InvalidOperation" "InvalidRow" false
  em_InvalidOperation_InvalidTable : Em3 K "InvalidOperation" "InvalidTable" false
  em_InvalidOperation_InvalidTree : Em3 K "InvalidOperation" "InvalidTree" false
  em_InvalidOperation_InvalidWeights : Em3 K "InvalidOperation" "InvalidWeights" false
  em_InvalidOperation_InvalidWord : Em3 K "InvalidOperation" "InvalidWord" false
  em_InvalidOperation_ParseError : Em3 K "InvalidOperation" "ParseError" false
  em_InvalidOperation_TowerError : Em3 K "InvalidOperation" "TowerError" true
  em_InvalidOrders_InvalidCurve : Em3 K "InvalidOrders" "InvalidCurve" false
  em_InvalidOrders_InvalidOperation : Em3 K "InvalidOrders" "InvalidOperation" false
  em_InvalidOrders_InvalidOrders : Em3 K "InvalidOrders" "InvalidOrders" true
  em_InvalidOrders_InvalidPaper : Em3 K "InvalidOrders" "InvalidPaper" false
  em_InvalidOrders_InvalidPlait : Em3 K "InvalidOrders" "InvalidPlait" false
  em_InvalidOrders_InvalidPlane : Em3 K "InvalidOrders" "InvalidPlane" false
  em_InvalidOrders_InvalidPoint : Em3 K "InvalidOrders" "InvalidPoint" false
  em_InvalidOrders_InvalidPrime : Em3 K "InvalidOrders" "InvalidPrime" false
  em_InvalidOrders_InvalidRow : Em3 K "InvalidOrders" "InvalidRow" false
  em_InvalidOrders_InvalidTable : Em3 K "InvalidOrders" "InvalidTable" false
  em_InvalidOrders_InvalidTree : Em3 K "InvalidOrders" "InvalidTree" false
  em_InvalidOrders_InvalidWeights : Em3 K "InvalidOrders" "InvalidWeights" false
  em_InvalidOrders_InvalidWord : Em3 K "InvalidOrders" "InvalidWord" false
  em_InvalidOrders_ParseError : Em3 K "InvalidOrders" "ParseError" false
  em_InvalidOrders_TowerError : Em3 K "InvalidOrders" "TowerError" true
  em_InvalidPaper_InvalidCurve : Em3 K "InvalidPaper" "InvalidCurve" false
  em_InvalidPaper_InvalidOperation : Em3 K "InvalidPaper" "InvalidOperation" false
  em_InvalidPaper_InvalidOrders : Em3 K "InvalidPaper" "InvalidOrders" false
  em_InvalidPaper_InvalidPaper : Em3 K "InvalidPaper" "InvalidPaper" true
  em_InvalidPaper_InvalidPlait : Em3 K "InvalidPaper" "InvalidPlait" false
  em_InvalidPaper_InvalidPlane : Em3 K "InvalidPaper" "InvalidPlane" false
  em_InvalidPaper_InvalidPoint : Em3 K "InvalidPaper" "InvalidPoint" false
  em_InvalidPaper_InvalidPrime : Em3 K "InvalidPaper" "InvalidPrime" false
  em_InvalidPaper_InvalidRow : Em3 K "InvalidPaper" "InvalidRow" false
  em_InvalidPaper_InvalidTable : Em3 K "InvalidPaper" "InvalidTable" false
  em_InvalidPaper_InvalidTree : Em3 K "InvalidPaper" "InvalidTree" false
  em_InvalidPaper_InvalidWeights : Em3 K "InvalidPaper" "InvalidWeights" false
  em_InvalidPaper_InvalidWord : Em3 K "InvalidPaper" "InvalidWord" false
  em_InvalidPaper_ParseError : Em3 K "InvalidPaper" "ParseError" false
  em_InvalidPaper_TowerError : Em3 K "InvalidPaper" "TowerError" true
  em_InvalidPlait_InvalidCurve : Em3 K "InvalidPlait" "InvalidCurve" false
  em_InvalidPlait_InvalidOperation : Em3 K "InvalidPlait" "InvalidOperation" false
  em_InvalidPlait_InvalidOrders : Em3 K "InvalidPlait" "InvalidOrders" false
  em_InvalidPlait_InvalidPaper : Em3 K "InvalidPlait" "InvalidPaper" false
  em_InvalidPlait_InvalidPlait : Em3 K "InvalidPlait" "InvalidPlait" true
  em_InvalidPlait_InvalidPlane : Em3 K "InvalidPlait" "InvalidPlane" false
  em_InvalidPlait_InvalidPoint : Em3 K "InvalidPlait" "InvalidPoint" false
  em_InvalidPlait_InvalidPrime : Em3 K "InvalidPlait" "InvalidPrime" false
  em_InvalidPlait_InvalidRow : Em3 K "InvalidPlait" "InvalidRow" false
  em_InvalidPlait_InvalidTable : Em3 K "InvalidPlait" "InvalidTable" false
  em_InvalidPlait_InvalidTree : Em3 K "InvalidPlait" "InvalidTree" false
  em_InvalidPlait_InvalidWeights : Em3 K "InvalidPlait" "InvalidWeights" false
  em_InvalidPlait_InvalidWord : Em3 K "InvalidPlait" "InvalidWord" false
  em_InvalidPlait_ParseError : Em3 K "InvalidPlait" "ParseError" false
  em_InvalidPlait_TowerError : Em3 K "InvalidPlait" "TowerError" true
  em_InvalidPlane_InvalidCurve : Em3 K "InvalidPlane" "InvalidCurve" false
  em_InvalidPlane_InvalidOperation : Em3 K "InvalidPlane" "InvalidOperation" false
  em_InvalidPlane_InvalidOrders : Em3 K "InvalidPlane" "InvalidOrders" false
  em_InvalidPlane_InvalidPaper : Em3 K "InvalidPlane" "InvalidPaper" false
  em_InvalidPlane_InvalidPlait : Em3 K "InvalidPlane" "InvalidPlait" false
  em_InvalidPlane_InvalidPlane : Em3 K "InvalidPlane" "InvalidPlane" true
  em_InvalidPlane_InvalidPoint : Em3 K "InvalidPlane" "InvalidPoint" false
  em_InvalidPlane_InvalidPrime : Em3 K "InvalidPlane" "InvalidPrime" false
  em_InvalidPlane_InvalidRow : Em3 K "InvalidPlane" "InvalidRow" false
  em_InvalidPlane_InvalidTable : Em3 K "InvalidPlane" "InvalidTable" false
  em_InvalidPlane_InvalidTree : Em3 K "InvalidPlane" "InvalidTree" false
  em_InvalidPlane_InvalidWeights : Em3 K "InvalidPlane" "InvalidWeights" false
  em_InvalidPlane_InvalidWord : Em3 K "InvalidPlane" "InvalidWord" false
  em_InvalidPlane_ParseError : Em3 K "InvalidPlane" "ParseError" false
  em_InvalidPlane_TowerError : Em3 K "InvalidPlane" "TowerError" true
  em_InvalidPoint_InvalidCurve : Em3 K "InvalidPoint" "InvalidCurve" false
  em_InvalidPoint_InvalidOperation : Em3 K "InvalidPoint" "InvalidOperation" false
  em_InvalidPoint_InvalidOrders : Em3 K "InvalidPoint" "InvalidOrders" false
  em_InvalidPoint_InvalidPaper : Em3 K "InvalidPoint" "InvalidPaper" false
  em_InvalidPoint_InvalidPlait : Em3 K "InvalidPoint" "InvalidPlait" false
  em_InvalidPoint_InvalidPlane : Em3 K "InvalidPoint" "InvalidPlane" false
  em_InvalidPoint_InvalidPoint : Em3 K "InvalidPoint" "InvalidPoint" true
  em_InvalidPoint_InvalidPrime : Em3 K "InvalidPoint" "InvalidPrime" false
  em_InvalidPoint_InvalidRow : Em3 K "InvalidPoint" "InvalidRow" false
  em_InvalidPoint_InvalidTable : Em3 K "InvalidPoint" "InvalidTable" false
  em_InvalidPoint_InvalidTree : Em3 K "InvalidPoint" "InvalidTree" false
  em_InvalidPoint_InvalidWeights : Em3 K "InvalidPoint" "InvalidWeights" false
  em_InvalidPoint_InvalidWord : Em3 K "InvalidPoint" "InvalidWord" false
  em_InvalidPoint_ParseError : Em3 K "InvalidPoint" "ParseError" false
  em_InvalidPoint_TowerError : Em3 K "InvalidPoint" "TowerError" true
  em_InvalidPrime_InvalidCurve : Em3 K "InvalidPrime" "InvalidCurve" false
  em_InvalidPrime_InvalidOperation : Em3 K "InvalidPrime" "InvalidOperation" false
  em_InvalidPrime_InvalidOrders : Em3 K "InvalidPrime" "InvalidOrders" false
  em_InvalidPrime_InvalidPaper : Em3 K "InvalidPrime" "InvalidPaper" false
  em_InvalidPrime_InvalidPlait : Em3 K "InvalidPrime" "InvalidPlait" false
  em_InvalidPrime_InvalidPlane : Em3 K "InvalidPrime" "InvalidPlane" false
  em_InvalidPrime_InvalidPoint : Em3 K "InvalidPrime" "InvalidPoint" false
  em_InvalidPrime_InvalidPrime : Em3 K "InvalidPrime" "InvalidPrime" true
  em_InvalidPrime_InvalidRow : Em3 K "InvalidPrime" "InvalidRow" false
  em_InvalidPrime_InvalidTable : Em3 K "InvalidPrime" "InvalidTable" false
  em_InvalidPrime_InvalidTree : Em3 K "InvalidPrime" "InvalidTree" false
  em_InvalidPrime_InvalidWeights : Em3 K "InvalidPrime" "InvalidWeights" false
  em_InvalidPrime_InvalidWord : Em3 K "InvalidPrime" "InvalidWord" false
  em_InvalidPrime_ParseError : Em3 K "InvalidPrime" "ParseError" false
  em_InvalidPrime_TowerError : Em3 K "InvalidPrime" "TowerError" true
  em_InvalidRow_InvalidCurve : Em3 K "InvalidRow" "InvalidCurve" false
  em_InvalidRow_InvalidOperation : Em3 K "InvalidRow" "InvalidOperation" false
  em_InvalidRow_InvalidOrders : Em3 K "InvalidRow" "InvalidOrders" false
  em_InvalidRow_InvalidPaper : Em3 K "InvalidRow" "InvalidPaper" false
  em_InvalidRow_InvalidPlait : Em3 K "InvalidRow" "InvalidPlait" false
  em_InvalidRow_InvalidPlane : Em3 K "InvalidRow" "InvalidPlane" false
  em_InvalidRow_InvalidPoint : Em3 K "InvalidRow" "InvalidPoint" false
  em_InvalidRow_InvalidPrime : Em3 K "InvalidRow" "InvalidPrime" false
  em_InvalidRow_InvalidRow : Em3 K "InvalidRow" "InvalidRow" true
  em_InvalidRow_InvalidTable : Em3 K "InvalidRow" "InvalidTable" false
  em_InvalidRow_InvalidTree : Em3 K "InvalidRow" "InvalidTree" false
  em_InvalidRow_InvalidWeights : Em3 K "InvalidRow" "InvalidWeights" false
  em_InvalidRow_InvalidWord : Em3 K "InvalidRow" "InvalidWord" false
  em_InvalidRow_ParseError : Em3 K "InvalidRow" "ParseError" false
  em_InvalidRow_TowerError : Em3 K "InvalidRow" "TowerError" true
  em_InvalidTable_InvalidCurve : Em3 K "InvalidTable" "InvalidCurve" false
  em_InvalidTable_InvalidOperation : Em3 K "InvalidTable" "InvalidOperation" false
  em_InvalidTable_InvalidOrders : Em3 K "InvalidTable" "InvalidOrders" false
  em_InvalidTable_InvalidPaper : Em3 K "InvalidTable" "InvalidPaper" false
  em_InvalidTable_InvalidPlait : Em3 K "InvalidTable" "InvalidPlait" false
  em_InvalidTable_InvalidPlane : Em3 K "InvalidTable" "InvalidPlane" false
  em_InvalidTable_InvalidPoint : Em3 K "InvalidTable" "InvalidPoint" false
  em_InvalidTable_InvalidPrime : Em3 K "InvalidTable" "InvalidPrime" false
  em_InvalidTable_InvalidRow : Em3 K "InvalidTable" "InvalidRow" false
  em_InvalidTable_InvalidTable : Em3 K "InvalidTable" "InvalidTable" true
  em_InvalidTable_InvalidTree : Em3 K "InvalidTable" "InvalidTree" false
  em_InvalidTable_InvalidWeights : Em3 K "InvalidTable" "InvalidWeights" false
  em_InvalidTable_InvalidWord : Em3 K "InvalidTable" "InvalidWord" false
  em_InvalidTable_ParseError : Em3 K "InvalidTable" "ParseError" false
  em_InvalidTable_TowerError : Em3 K "InvalidTable" "TowerError" true
  em_InvalidTree_InvalidCurve : Em3 K "InvalidTree" "InvalidCurve" false
  em_InvalidTree_InvalidOperation : Em3 K "InvalidTree" "InvalidOperation" false
  em_InvalidTree_InvalidOrders : Em3 K "InvalidTree" "InvalidOrders" false
  em_InvalidTree_InvalidPaper : Em3 K "InvalidTree" "InvalidPaper" false
  em_InvalidTree_InvalidPlait : Em3 K "InvalidTree" "InvalidPlait" false
  em_InvalidTree_InvalidPlane : Em3 K "InvalidTree" "InvalidPlane" false
  em_InvalidTree_InvalidPoint : Em3 K "InvalidTree" "InvalidPoint" false
  em_InvalidTree_InvalidPrime : Em3 K "InvalidTree" "InvalidPrime" false
  em_InvalidTree_InvalidRow : Em3 K "InvalidTree" "InvalidRow" false
  em_InvalidTree_InvalidTable : Em3 K "InvalidTree" "InvalidTable" false
  em_InvalidTree_InvalidTree : Em3 K "InvalidTree" "InvalidTree" true
  em_InvalidTree_InvalidWeights : Em3 K "InvalidTree" "InvalidWeights" false
  em_InvalidTree_InvalidWord : Em3 K "InvalidTree" "InvalidWord" false
  em_InvalidTree_ParseError : Em3 K "InvalidTree" "ParseError" false
  em_InvalidTree_TowerError : Em3 K "InvalidTree" "TowerError" true
  em_InvalidWeights_InvalidCurve : Em3 K "InvalidWeights" "InvalidCurve" false
  em_InvalidWeights_InvalidOperation : Em3 K "InvalidWeights" "InvalidOperation" false
  em_InvalidWeights_InvalidOrders : Em3 K "InvalidWeights" "InvalidOrders" false
  em_InvalidWeights_InvalidPaper : Em3 K "InvalidWeights" "InvalidPaper" false
  em_InvalidWeights_InvalidPlait : Em3 K "InvalidWeights" "InvalidPlait" false
  em_InvalidWeights_InvalidPlane : Em3 K "InvalidWeights" "InvalidPlane" false
  em_InvalidWeights_InvalidPoint : Em3 K "InvalidWeights" "InvalidPoint" false
  em_InvalidWeights_InvalidPrime : Em3 K "InvalidWeights" "InvalidPrime" false
  em_InvalidWeights_InvalidRow : Em3 K "InvalidWeights" "InvalidRow" false
  em_InvalidWeights_InvalidTable : Em3 K "InvalidWeights" "InvalidTable" false
  em_InvalidWeights_InvalidTree : Em3 K "InvalidWeights" "InvalidTree" false
  em_InvalidWeights_InvalidWeights : Em3 K "InvalidWeights" "InvalidWeights" true
  em_InvalidWeights_InvalidWord : Em3 K "InvalidWeights" "InvalidWord" false
  em_InvalidWeights_ParseError : Em3 K "InvalidWeights" "ParseError" false
  em_InvalidWeights_TowerError : Em3 K "InvalidWeights" "TowerError" true
  em_InvalidWord_InvalidCurve : Em3 K "InvalidWord" "InvalidCurve" false
  em_InvalidWord_InvalidOperation : Em3 K "InvalidWord" "InvalidOperation" false
  em_InvalidWord_InvalidOrders : Em3 K "InvalidWord" "InvalidOrders" false
  em_InvalidWord_InvalidPaper : Em3 K "InvalidWord" "InvalidPaper" false
  em_InvalidWord_InvalidPlait : Em3 K "InvalidWord" "InvalidPlait" false
  em_InvalidWord_InvalidPlane : Em3 K "InvalidWord" "InvalidPlane" false
  em_InvalidWord_InvalidPoint : Em3 K "InvalidWord" "InvalidPoint" false
  em_InvalidWord_InvalidPrime : Em3 K "InvalidWord" "InvalidPrime" false
  em_InvalidWord_InvalidRow : Em3 K "InvalidWord" "InvalidRow" false
  em_InvalidWord_InvalidTable : Em3 K "InvalidWord" "InvalidTable" false
  em_InvalidWord_InvalidTree : Em3 K "InvalidWord" "InvalidTree" false
  em_InvalidWord_InvalidWeights : Em3 K "InvalidWord" "InvalidWeights" false
  em_InvalidWord_InvalidWord : Em3 K "InvalidWord" "InvalidWord" true
  em_InvalidWord_ParseError : Em3 K "InvalidWord" "ParseError" false
  em_InvalidWord_TowerError : Em3 K "InvalidWord" "TowerError" true
  em_NothingToUndo_InvalidCount : Em3 K "NothingToUndo" "InvalidCount" false
  em_NothingToUndo_NothingToUndo : Em3 K "NothingToUndo" "NothingToUndo" true
  em_NothingToUndo_ParseError : Em3 K "NothingToUndo" "ParseError" false
  em_NothingToUndo_Refused : Em3 K "NothingToUndo" "Refused" false
  em_NothingToUndo_TooMany : Em3 K "NothingToUndo" "TooMany" false
  em_NothingToUndo_TowerError : Em3 K "NothingToUndo" "TowerError" false
  em_NothingToUndo_UnknownName : Em3 K "NothingToUndo" "UnknownName" false
  em_ParseError_InvalidCount : Em3 K "ParseError" "InvalidCount" false
  em_ParseError_NothingToUndo : Em3 K "ParseError" "NothingToUndo" false
  em_ParseError_ParseError : Em3 K "ParseError" "ParseError" true
  em_ParseError_Refused : Em3 K "ParseError" "Refused" false
  em_ParseError_TooMany : Em3 K "ParseError" "TooMany" false
  em_ParseError_TowerError : Em3 K "ParseError" "TowerError" true
  em_ParseError_UnknownName : Em3 K "ParseError" "UnknownName" false
  em_Refused_InvalidCount : Em3 K "Refused" "InvalidCount" false
  em_Refused_NothingToUndo : Em3 K "Refused" "NothingToUndo" false
  em_Refused_ParseError : Em3 K "Refused" "ParseError" false
  em_Refused_Refused : Em3 K "Refused" "Refused" true
  em_Refused_TooMany : Em3 K "Refused" "TooMany" false
  em_Refused_TowerError : Em3 K "Refused" "TowerError" false
  em_Refused_UnknownName : Em3 K "Refused" "UnknownName" false
  em_TooMany_InvalidCount : Em3 K "TooMany" "InvalidCount" false
  em_TooMany_NothingToUndo : Em3 K "TooMany" "NothingToUndo" false
  em_TooMany_ParseError : Em3 K "TooMany" "ParseError" false
  em_TooMany_Refused : Em3 K "TooMany" "Refused" false
  em_TooMany_TooMany : Em3 K "TooMany" "TooMany" true
  em_TooMany_TowerError : Em3 K "TooMany" "TowerError" false
  em_TooMany_UnknownName : Em3 K "TooMany" "UnknownName" false
  em_UnknownName_InvalidCount : Em3 K "UnknownName" "InvalidCount" false
  em_UnknownName_NothingToUndo : Em3 K "UnknownName" "NothingToUndo" false
  em_UnknownName_ParseError : Em3 K "UnknownName" "ParseError" false
  em_UnknownName_Refused : Em3 K "UnknownName" "Refused" false
  em_UnknownName_TooMany : Em3 K "UnknownName" "TooMany" false
  em_UnknownName_TowerError : Em3 K "UnknownName" "TowerError" false
  em_UnknownName_UnknownName : Em3 K "UnknownName" "UnknownName" true
section
variable {P : Program} {w : World} {K : PySem.W.Frag} {mg : Str → Option Value} {base : Heap}
abbrev s__law_dice : Stmt := topS 22
abbrev N__law_dice : List Str := ["_law_script", "_law_spot", "_law_cell", "_law_left"]
theorem sc__law_dice : FnScope N__law_dice ["_law_script", "_law_spot"] (defScope s__law_dice) := ⟨rfl, rfl, rfl, by decide +kernel, rfl, by decide +kernel, by decide +kernel⟩
abbrev s__law_roll : Stmt := topS 23
abbrev N__law_roll : List Str := ["_law_dice_here", "_law_total", "_law_found", "_law_one", "_law_two"]
theorem sc__law_roll : FnScope N__law_roll ["_law_dice_here", "_law_total"] (defScope s__law_roll) := ⟨rfl, rfl, rfl, by decide +kernel, rfl, by decide +kernel, by decide +kernel⟩
abbrev s__law_pick : Stmt := topS 24
abbrev N__law_pick : List Str := ["_law_dice_here", "_law_items"]
theorem sc__law_pick : FnScope N__law_pick ["_law_dice_here", "_law_items"] (defScope s__law_pick) := ⟨rfl, rfl, rfl, by decide +kernel, rfl, by decide +kernel, by decide +kernel⟩
abbrev s__law_raise_first : Stmt := topS 25
abbrev N__law_raise_first : List Str := ["_law_number"]
theorem sc__law_raise_first : FnScope N__law_raise_first ["_law_number"] (defScope s__law_raise_first) := ⟨rfl, rfl, rfl, by decide +kernel, rfl, by decide +kernel, by decide +kernel⟩
abbrev s__law_raise_kept : Stmt := topS 26
abbrev N__law_raise_kept : List Str := ["_law_number", "_law_value"]
theorem sc__law_raise_kept : FnScope N__law_raise_kept ["_law_number", "_law_value"] (defScope s__law_raise_kept) := ⟨rfl, rfl, rfl, by decide +kernel, rfl, by decide +kernel, by decide +kernel⟩
abbrev s__law_caught : Stmt := topS 27
abbrev N__law_caught : List Str := ["_law_number"]
theorem sc__law_caught : FnScope N__law_caught ["_law_number"] (defScope s__law_caught) := ⟨rfl, rfl, rfl, by decide +kernel, rfl, by decide +kernel, by decide +kernel⟩
abbrev s__law_caught_back : Stmt := topS 28
abbrev N__law_caught_back : List Str := ["_law_number"]
theorem sc__law_caught_back : FnScope N__law_caught_back ["_law_number"] (defScope s__law_caught_back) := ⟨rfl, rfl, rfl, by decide +kernel, rfl, by decide +kernel, by decide +kernel⟩
abbrev s__law_kept : Stmt := topS 29
abbrev N__law_kept : List Str := ["_law_number", "_law_value", "e"]
theorem sc__law_kept : FnScope N__law_kept ["_law_number", "_law_value"] (defScope s__law_kept) := ⟨rfl, rfl, rfl, by decide +kernel, rfl, by decide +kernel, by decide +kernel⟩
abbrev s__law_is_first : Stmt := topS 30
abbrev N__law_is_first : List Str := ["_law_number"]
theorem sc__law_is_first : FnScope N__law_is_first ["_law_number"] (defScope s__law_is_first) := ⟨rfl, rfl, rfl, by decide +kernel, rfl, by decide +kernel, by decide +kernel⟩
abbrev s__law_kept_first : Stmt := topS 31
abbrev N__law_kept_first : List Str := ["_law_number"]
theorem sc__law_kept_first : FnScope N__law_kept_first ["_law_number"] (defScope s__law_kept_first) := ⟨rfl, rfl, rfl, by decide +kernel, rfl, by decide +kernel, by decide +kernel⟩
abbrev s__law_right : Stmt := topS 32
abbrev N__law_right : List Str := ["_law_dice_here", "_law_value", "_law_number", "_law_told"]
theorem sc__law_right : FnScope N__law_right ["_law_dice_here"] (defScope s__law_right) := ⟨rfl, rfl, rfl, by decide +kernel, rfl, by decide +kernel, by decide +kernel⟩
abbrev s_law : Stmt := topS 33
abbrev N_law : List Str := ["_law_script", "_law_spot", "_law_number"]
theorem sc_law : FnScope N_law ["_law_script"] (defScope s_law) := ⟨rfl, rfl, rfl, by decide +kernel, rfl, by decide +kernel, by decide +kernel⟩
theorem okc__law_raise_first (T : Txt P K mg) (d__law_raise_first : DefAt K mg "_law_raise_first" s__law_raise_first)  : Cal3 P w K mg base "_law_raise_first" 2 ["_law_number"] (spC r__law_raise_first) :=
  cal3 d__law_raise_first (fun _ _ _ _ _ _ us hl => match us, hl with | [_], _ => rfl) sc__law_raise_first len_runC fun f cdv A outer s H E B dw hr wk => ⟨tc__law_raise_first dw,
    (lss_cons (ls_if (lt_eqD hr (le_pv (pv 0)) le_int) (lss_one (ls_raise rfl T.o_InvalidPrime wk.ok (by rfl))) lss_nil)
      (lss_cons (ls_if (lt_eqD hr (le_pv (pv 0)) le_int) (lss_one (ls_raise rfl T.o_InvalidWord wk.ok (by rfl))) lss_nil)
      (lss_cons (ls_if (lt_eqD hr (le_pv (pv 0)) le_int) (lss_one (ls_raise rfl T.o_InvalidPoint wk.ok (by rfl))) lss_nil)
      (lss_cons (ls_if (lt_eqD hr (le_pv (pv 0)) le_int) (lss_one (ls_raise rfl T.o_InvalidRow wk.ok (by rfl))) lss_nil)
      (lss_cons (ls_if (lt_eqD hr (le_pv (pv 0)) le_int) (lss_one (ls_raise rfl T.o_InvalidTable wk.ok (by rfl))) lss_nil)
      (lss_cons (ls_if (lt_eqD hr (le_pv (pv 0)) le_int) (lss_one (ls_raise rfl T.o_InvalidPlane wk.ok (by rfl))) lss_nil)
      (lss_cons (ls_if (lt_eqD hr (le_pv (pv 0)) le_int) (lss_one (ls_raise rfl T.o_InvalidCurve wk.ok (by rfl))) lss_nil)
      (lss_cons (ls_if (lt_eqD hr (le_pv (pv 0)) le_int) (lss_one (ls_raise rfl T.o_InvalidWeights wk.ok (by rfl))) lss_nil)
      (lss_cons (ls_if (lt_eqD hr (le_pv (pv 0)) le_int) (lss_one (ls_raise rfl T.o_InvalidOrders wk.ok (by rfl))) lss_nil)
      (lss_cons (ls_if (lt_eqD hr (le_pv (pv 0)) le_int) (lss_one (ls_raise rfl T.o_InvalidPaper wk.ok (by rfl))) lss_nil)
      (lss_cons (ls_if (lt_eqD hr (le_pv (pv 0)) le_int) (lss_one (ls_raise rfl T.o_InvalidTree wk.ok (by rfl))) lss_nil)
      (lss_cons (ls_if (lt_eqD hr (le_pv (pv 0)) le_int) (lss_one (ls_raise rfl T.o_InvalidPlait wk.ok (by rfl))) lss_nil)
      (lss_one (ls_raise rfl T.o_InvalidOperation wk.ok (by rfl))))))))))))))),
    fun ds G q h => p_runC (fun G => ss__law_raise_first dw G) ds G q h⟩
theorem okc__law_raise_kept (T : Txt P K mg) (d__law_raise_kept : DefAt K mg "_law_raise_kept" s__law_raise_kept)  : Cal3 P w K mg base "_law_raise_kept" 2 ["_law_number", "_law_value"] (spC r__law_raise_kept) :=
  cal3 d__law_raise_kept (fun _ _ _ _ _ _ us hl => match us, hl with | [_, _], _ => rfl) sc__law_raise_kept len_runC fun f cdv A outer s H E B dw hr wk => ⟨tc__law_raise_kept dw,
    (lss_cons (ls_if (lt_eqD hr (le_pv (pv 0)) le_int) (lss_one (ls_raise1 rfl T.o_ParseError hr wk.ok (la_cons (le_pv (pv 1)) la_nil) (by rfl))) lss_nil)
      (lss_cons (ls_if (lt_eqD hr (le_pv (pv 0)) le_int) (lss_one (ls_raise1 rfl T.o_InvalidCount hr wk.ok (la_cons (le_pv (pv 1)) la_nil) (by rfl))) lss_nil)
      (lss_cons (ls_if (lt_eqD hr (le_pv (pv 0)) le_int) (lss_one (ls_raise1 rfl T.o_UnknownName hr wk.ok (la_cons (le_pv (pv 1)) la_nil) (by rfl))) lss_nil)
      (lss_cons (ls_if (lt_eqD hr (le_pv (pv 0)) le_int) (lss_one (ls_raise1 rfl T.o_NothingToUndo hr wk.ok (la_cons (le_pv (pv 1)) la_nil) (by rfl))) lss_nil)
      (lss_cons (ls_if (lt_eqD hr (le_pv (pv 0)) le_int) (lss_one (ls_raise1 rfl T.o_TooMany hr wk.ok (la_cons (le_pv (pv 1)) la_nil) (by rfl))) lss_nil)
      (lss_one (ls_raise1 rfl T.o_Refused hr wk.ok (la_cons (le_pv (pv 1)) la_nil) (by rfl)))))))),
    fun ds G q h => p_runC (fun G => ss__law_raise_kept dw G) ds G q h⟩
theorem ok__law_dice (T : Txt P K mg) (d__law_dice : DefAt K mg "_law_dice" s__law_dice)  : Cal3 P w K mg base "_law_dice" 2 ["_law_script", "_law_spot"] sp__law_dice :=
  cal3 d__law_dice (fun _ _ _ _ _ _ us hl => match us, hl with | [_, _], _ => rfl) sc__law_dice len__law_dice fun f cdv A outer s H E B dw hr wk => ⟨t__law_dice dw,
    (lss_cons (ls_set (i := 2) sc__law_dice.nd rfl (by first | exact Or.inl rfl | exact Or.inr rfl) (le_ifExp (lt_lt (le_pv (pv 1)) (le_len (by rfl) T.n_len (lp_cons (le_pv (pv 0)) lp_nil))) (le_intOf (by rfl) T.n_int (lp_cons (le_item (le_pv (pv 0)) (le_pv (pv 1))) lp_nil)) (le_add (le_mul le_int (le_pv (pv 1))) le_int)))
      (lss_cons (ls_set (i := 3) sc__law_dice.nd rfl (by first | exact Or.inl rfl | exact Or.inr rfl) (le_mod (le_max2 rfl (by rfl) T.n_max (lp_cons le_int (lp_cons (le_sub (le_abs (by rfl) T.n_abs (lp_cons (le_pv (pv 2)) lp_nil)) (le_pow le_int le_int)) lp_nil))) (le_mul (le_pow le_int le_int) (le_pow le_int le_int))))
      (lss_one (ls_ret (le_lst (la_cons (le_pv (pv 3)) (la_cons (le_add (le_add (le_add (le_mul (le_mod (le_abs (by rfl) T.n_abs (lp_cons (le_pv (pv 2)) lp_nil)) le_int) le_int) (le_mul le_int (le_pv (pv 1)))) (le_mul le_int (le_intOf (by rfl) T.n_int (lp_cons (le_lt (le_pv (pv 2)) le_int) lp_nil)))) le_int) (la_cons le_int la_nil)))))))),
    fun ds G q h => p__law_dice N__law_dice rfl ds G q dw h⟩
theorem ok__law_roll (T : Txt P K mg) (d__law_roll : DefAt K mg "_law_roll" s__law_roll)  : Cal3 P w K mg base "_law_roll" 2 ["_law_dice_here", "_law_total"] sp__law_roll :=
  cal3 d__law_roll (fun _ _ _ _ _ _ us hl => match us, hl with | [_, _], _ => rfl) sc__law_roll len__law_roll fun f cdv A outer s H E B dw hr wk => ⟨t__law_roll dw,
    (lss_cons (ls_if (lt_gt (le_item (le_pv (pv 0)) le_int) le_int) (lss_cons (ls_set (i := 2) sc__law_roll.nd rfl (by first | exact Or.inl rfl | exact Or.inr rfl) (le_mod (le_intOf (by rfl) T.n_int (lp_cons (le_item (le_pv (pv 0)) le_int) lp_nil)) (le_pv (pv 1))))
      (lss_cons (ls_store (le_fdiv (le_item (le_pv (pv 0)) le_int) (le_pv (pv 1))) (le_pv (pv 0)) le_int)
      (lss_one (ls_ret (le_pv (pv 2)))))) lss_nil)
      (lss_cons (ls_store (le_add (le_item (le_pv (pv 0)) le_int) le_int) (le_pv (pv 0)) le_int)
      (lss_cons (ls_set (i := 3) sc__law_roll.nd rfl (by first | exact Or.inl rfl | exact Or.inr rfl) (le_mod (le_intOf (by rfl) T.n_int (lp_cons (le_add (le_item (le_pv (pv 0)) le_int) (le_mul le_int (le_item (le_pv (pv 0)) le_int))) lp_nil)) le_int))
      (lss_cons (ls_set (i := 4) sc__law_roll.nd rfl (by first | exact Or.inl rfl | exact Or.inr rfl) (le_add (le_mul (le_mod (le_intOf (by rfl) T.n_int (lp_cons (le_add (le_mul (le_pv (pv 3)) (le_pv (pv 3))) (le_mul le_int (le_item (le_pv (pv 0)) le_int))) lp_nil)) le_int) le_int) (le_pv (pv 3))))
      (lss_one (ls_ret (le_mod (le_intOf (by rfl) T.n_int (lp_cons (le_fdiv (le_pv (pv 4)) le_int) lp_nil)) (le_pv (pv 1))))))))),
    fun ds G q h => p__law_roll N__law_roll rfl ds G q dw h⟩
theorem ok__law_pick (T : Txt P K mg) (d__law_pick : DefAt K mg "_law_pick" s__law_pick) (c__law_roll : Cal3 P w K mg base "_law_roll" 2 ["_law_dice_here", "_law_total"] sp__law_roll) : Cal3 P w K mg base "_law_pick" 3 ["_law_dice_here", "_law_items"] sp__law_pick :=
  cal3 d__law_pick (fun _ _ _ _ _ _ us hl => match us, hl with | [_, _], _ => rfl) sc__law_pick len__law_pick fun f cdv A outer s H E B dw hr wk => ⟨t__law_pick dw,
    (lss_one (ls_ret (le_item (le_pv (pv 1)) (le_callC c__law_roll hr (by decide) wk.ok (by rfl) (la_cons (le_pv (pv 0)) (la_cons (le_len (by rfl) T.n_len (lp_cons (le_pv (pv 1)) lp_nil)) la_nil)))))),
    fun ds G q h => p__law_pick N__law_pick rfl ds G q dw h⟩
theorem ok__law_caught (T : Txt P K mg) (d__law_caught : DefAt K mg "_law_caught" s__law_caught) (cc__law_raise_first : Cal3 P w K mg base "_law_raise_first" 2 ["_law_number"] (spC r__law_raise_first)) : Cal3 P w K mg base "_law_caught" 3 ["_law_number"] sp__law_caught :=
  cal3 d__law_caught (fun _ _ _ _ _ _ us hl => match us, hl with | [_], _ => rfl) sc__law_caught len__law_caught fun f cdv A outer s H E B dw hr wk => ⟨t__law_caught dw,
    (lss_one (ls_try (em := [((("InvalidCurve" : Str), ("InvalidPrime" : Str)), false), ((("InvalidCurve" : Str), ("InvalidWord" : Str)), false), ((("InvalidCurve" : Str), ("InvalidPoint" : Str)), false), ((("InvalidCurve" : Str), ("InvalidRow" : Str)), false), ((("InvalidCurve" : Str), ("InvalidTable" : Str)), false), ((("InvalidCurve" : Str), ("InvalidPlane" : Str)), false), ((("InvalidCurve" : Str), ("InvalidCurve" : Str)), true), ((("InvalidCurve" : Str), ("InvalidWeights" : Str)), false), ((("InvalidCurve" : Str), ("InvalidOrders" : Str)), false), ((("InvalidCurve" : Str), ("InvalidPaper" : Str)), false), ((("InvalidCurve" : Str), ("InvalidTree" : Str)), false), ((("InvalidCurve" : Str), ("InvalidPlait" : Str)), false), ((("InvalidCurve" : Str), ("InvalidOperation" : Str)), false), ((("InvalidOperation" : Str), ("InvalidPrime" : Str)), false), ((("InvalidOperation" : Str), ("InvalidWord" : Str)), false), ((("InvalidOperation" : Str), ("InvalidPoint" : Str)), false), ((("InvalidOperation" : Str), ("InvalidRow" : Str)), false), ((("InvalidOperation" : Str), ("InvalidTable" : Str)), false), ((("InvalidOperation" : Str), ("InvalidPlane" : Str)), false), ((("InvalidOperation" : Str), ("InvalidCurve" : Str)), false), ((("InvalidOperation" : Str), ("InvalidWeights" : Str)), false), ((("InvalidOperation" : Str), ("InvalidOrders" : Str)), false), ((("InvalidOperation" : Str), ("InvalidPaper" : Str)), false), ((("InvalidOperation" : Str), ("InvalidTree" : Str)), false), ((("InvalidOperation" : Str), ("InvalidPlait" : Str)), false), ((("InvalidOperation" : Str), ("InvalidOperation" : Str)), true), ((("InvalidOrders" : Str), ("InvalidPrime" : Str)), false), ((("InvalidOrders" : Str), ("InvalidWord" : Str)), false), ((("InvalidOrders" : Str), ("InvalidPoint" : Str)), false), ((("InvalidOrders" : Str), ("InvalidRow" : Str)), false), ((("InvalidOrders" : Str), ("InvalidTable" : Str)), false), ((("InvalidOrders" : Str), ("InvalidPlane" : Str)), false), ((("InvalidOrders" : Str), ("InvalidCurve" : Str)), false), ((("InvalidOrders" : Str), ("InvalidWeights" : Str)), false), ((("InvalidOrders" : Str), ("InvalidOrders" : Str)), true), ((("InvalidOrders" : Str), ("InvalidPaper" : Str)), false), ((("InvalidOrders" : Str), ("InvalidTree" : Str)), false), ((("InvalidOrders" : Str), ("InvalidPlait" : Str)), false), ((("InvalidOrders" : Str), ("InvalidOperation" : Str)), false), ((("InvalidPaper" : Str), ("InvalidPrime" : Str)), false), ((("InvalidPaper" : Str), ("InvalidWord" : Str)), false), ((("InvalidPaper" : Str), ("InvalidPoint" : Str)), false), ((("InvalidPaper" : Str), ("InvalidRow" : Str)), false), ((("InvalidPaper" : Str), ("InvalidTable" : Str)), false), ((("InvalidPaper" : Str), ("InvalidPlane" : Str)), false), ((("InvalidPaper" : Str), ("InvalidCurve" : Str)), false), ((("InvalidPaper" : Str), ("InvalidWeights" : Str)), false), ((("InvalidPaper" : Str), ("InvalidOrders" : Str)), false), ((("InvalidPaper" : Str), ("InvalidPaper" : Str)), true), ((("InvalidPaper" : Str), ("InvalidTree" : Str)), false), ((("InvalidPaper" : Str), ("InvalidPlait" : Str)), false), ((("InvalidPaper" : Str), ("InvalidOperation" : Str)), false), ((("InvalidPlait" : Str), ("InvalidPrime" : Str)), false), ((("InvalidPlait" : Str), ("InvalidWord" : Str)), false), ((("InvalidPlait" : Str), ("InvalidPoint" : Str)), false), ((("InvalidPlait" : Str), ("InvalidRow" : Str)), false), ((("InvalidPlait" : Str), ("InvalidTable" : Str)), false), ((("InvalidPlait" : Str), ("InvalidPlane" : Str)), false), ((("InvalidPlait" : Str), ("InvalidCurve" : Str)), false), ((("InvalidPlait" : Str), ("InvalidWeights" : Str)), false), ((("InvalidPlait" : Str), ("InvalidOrders" : Str)), false), ((("InvalidPlait" : Str), ("InvalidPaper" : Str)), false), ((("InvalidPlait" : Str), ("InvalidTree" : Str)), false), ((("InvalidPlait" : Str), ("InvalidPlait" : Str)), true), ((("InvalidPlait" : Str), ("InvalidOperation" : Str)), false), ((("InvalidPlane" : Str), ("InvalidPrime" : Str)), false), ((("InvalidPlane" : Str), ("InvalidWord" : Str)), false), ((("InvalidPlane" : Str), ("InvalidPoint" : Str)), false), ((("InvalidPlane" : Str), ("InvalidRow" : Str)), false), ((("InvalidPlane" : Str), ("InvalidTable" : Str)), false), ((("InvalidPlane" : Str), ("InvalidPlane" : Str)), true), ((("InvalidPlane" : Str), ("InvalidCurve" : Str)), false), ((("InvalidPlane" : Str), ("InvalidWeights" : Str)), false), ((("InvalidPlane" : Str), ("InvalidOrders" : Str)), false), ((("InvalidPlane" : Str), ("InvalidPaper" : Str)), false), ((("InvalidPlane" : Str), ("InvalidTree" : Str)), false), ((("InvalidPlane" : Str), ("InvalidPlait" : Str)), false), ((("InvalidPlane" : Str), ("InvalidOperation" : Str)), false), ((("InvalidPoint" : Str), ("InvalidPrime" : Str)), false), ((("InvalidPoint" : Str), ("InvalidWord" : Str)), false), ((("InvalidPoint" : Str), ("InvalidPoint" : Str)), true), ((("InvalidPoint" : Str), ("InvalidRow" : Str)), false), ((("InvalidPoint" : Str), ("InvalidTable" : Str)), false), ((("InvalidPoint" : Str), ("InvalidPlane" : Str)), false), ((("InvalidPoint" : Str), ("InvalidCurve" : Str)), false), ((("InvalidPoint" : Str), ("InvalidWeights" : Str)), false), ((("InvalidPoint" : Str), ("InvalidOrders" : Str)), false), ((("InvalidPoint" : Str), ("InvalidPaper" : Str)), false), ((("InvalidPoint" : Str), ("InvalidTree" : Str)), false), ((("InvalidPoint" : Str), ("InvalidPlait" : Str)), false), ((("InvalidPoint" : Str), ("InvalidOperation" : Str)), false), ((("InvalidPrime" : Str), ("InvalidPrime" : Str)), true), ((("InvalidPrime" : Str), ("InvalidWord" : Str)), false), ((("InvalidPrime" : Str), ("InvalidPoint" : Str)), false), ((("InvalidPrime" : Str), ("InvalidRow" : Str)), false), ((("InvalidPrime" : Str), ("InvalidTable" : Str)), false), ((("InvalidPrime" : Str), ("InvalidPlane" : Str)), false), ((("InvalidPrime" : Str), ("InvalidCurve" : Str)), false), ((("InvalidPrime" : Str), ("InvalidWeights" : Str)), false), ((("InvalidPrime" : Str), ("InvalidOrders" : Str)), false), ((("InvalidPrime" : Str), ("InvalidPaper" : Str)), false), ((("InvalidPrime" : Str), ("InvalidTree" : Str)), false), ((("InvalidPrime" : Str), ("InvalidPlait" : Str)), false), ((("InvalidPrime" : Str), ("InvalidOperation" : Str)), false), ((("InvalidRow" : Str), ("InvalidPrime" : Str)), false), ((("InvalidRow" : Str), ("InvalidWord" : Str)), false), ((("InvalidRow" : Str), ("InvalidPoint" : Str)), false), ((("InvalidRow" : Str), ("InvalidRow" : Str)), true), ((("InvalidRow" : Str), ("InvalidTable" : Str)), false), ((("InvalidRow" : Str), ("InvalidPlane" : Str)), false), ((("InvalidRow" : Str), ("InvalidCurve" : Str)), false), ((("InvalidRow" : Str), ("InvalidWeights" : Str)), false), ((("InvalidRow" : Str), ("InvalidOrders" : Str)), false), ((("InvalidRow" : Str), ("InvalidPaper" : Str)), false), ((("InvalidRow" : Str), ("InvalidTree" : Str)), false), ((("InvalidRow" : Str), ("InvalidPlait" : Str)), false), ((("InvalidRow" : Str), ("InvalidOperation" : Str)), false), ((("InvalidTable" : Str), ("InvalidPrime" : Str)), false), ((("InvalidTable" : Str), ("InvalidWord" : Str)), false), ((("InvalidTable" : Str), ("InvalidPoint" : Str)), false), ((("InvalidTable" : Str), ("InvalidRow" : Str)), false), ((("InvalidTable" : Str), ("InvalidTable" : Str)), true), ((("InvalidTable" : Str), ("InvalidPlane" : Str)), false), ((("InvalidTable" : Str), ("InvalidCurve" : Str)), false), ((("InvalidTable" : Str), ("InvalidWeights" : Str)), false), ((("InvalidTable" : Str), ("InvalidOrders" : Str)), false), ((("InvalidTable" : Str), ("InvalidPaper" : Str)), false), ((("InvalidTable" : Str), ("InvalidTree" : Str)), false), ((("InvalidTable" : Str), ("InvalidPlait" : Str)), false), ((("InvalidTable" : Str), ("InvalidOperation" : Str)), false), ((("InvalidTree" : Str), ("InvalidPrime" : Str)), false), ((("InvalidTree" : Str), ("InvalidWord" : Str)), false), ((("InvalidTree" : Str), ("InvalidPoint" : Str)), false), ((("InvalidTree" : Str), ("InvalidRow" : Str)), false), ((("InvalidTree" : Str), ("InvalidTable" : Str)), false), ((("InvalidTree" : Str), ("InvalidPlane" : Str)), false), ((("InvalidTree" : Str), ("InvalidCurve" : Str)), false), ((("InvalidTree" : Str), ("InvalidWeights" : Str)), false), ((("InvalidTree" : Str), ("InvalidOrders" : Str)), false), ((("InvalidTree" : Str), ("InvalidPaper" : Str)), false), ((("InvalidTree" : Str), ("InvalidTree" : Str)), true), ((("InvalidTree" : Str), ("InvalidPlait" : Str)), false), ((("InvalidTree" : Str), ("InvalidOperation" : Str)), false), ((("InvalidWeights" : Str), ("InvalidPrime" : Str)), false), ((("InvalidWeights" : Str), ("InvalidWord" : Str)), false), ((("InvalidWeights" : Str), ("InvalidPoint" : Str)), false), ((("InvalidWeights" : Str), ("InvalidRow" : Str)), false), ((("InvalidWeights" : Str), ("InvalidTable" : Str)), false), ((("InvalidWeights" : Str), ("InvalidPlane" : Str)), false), ((("InvalidWeights" : Str), ("InvalidCurve" : Str)), false), ((("InvalidWeights" : Str), ("InvalidWeights" : Str)), true), ((("InvalidWeights" : Str), ("InvalidOrders" : Str)), false), ((("InvalidWeights" : Str), ("InvalidPaper" : Str)), false), ((("InvalidWeights" : Str), ("InvalidTree" : Str)), false), ((("InvalidWeights" : Str), ("InvalidPlait" : Str)), false), ((("InvalidWeights" : Str), ("InvalidOperation" : Str)), false), ((("InvalidWord" : Str), ("InvalidPrime" : Str)), false), ((("InvalidWord" : Str), ("InvalidWord" : Str)), true), ((("InvalidWord" : Str), ("InvalidPoint" : Str)), false), ((("InvalidWord" : Str), ("InvalidRow" : Str)), false), ((("InvalidWord" : Str), ("InvalidTable" : Str)), false), ((("InvalidWord" : Str), ("InvalidPlane" : Str)), false), ((("InvalidWord" : Str), ("InvalidCurve" : Str)), false), ((("InvalidWord" : Str), ("InvalidWeights" : Str)), false), ((("InvalidWord" : Str), ("InvalidOrders" : Str)), false), ((("InvalidWord" : Str), ("InvalidPaper" : Str)), false), ((("InvalidWord" : Str), ("InvalidTree" : Str)), false), ((("InvalidWord" : Str), ("InvalidPlait" : Str)), false), ((("InvalidWord" : Str), ("InvalidOperation" : Str)), false)]) (emT_cons T.em_InvalidCurve_InvalidPrime (emT_cons T.em_InvalidCurve_InvalidWord (emT_cons T.em_InvalidCurve_InvalidPoint (emT_cons T.em_InvalidCurve_InvalidRow (emT_cons T.em_InvalidCurve_InvalidTable (emT_cons T.em_InvalidCurve_InvalidPlane (emT_cons T.em_InvalidCurve_InvalidCurve (emT_cons T.em_InvalidCurve_InvalidWeights (emT_cons T.em_InvalidCurve_InvalidOrders (emT_cons T.em_InvalidCurve_InvalidPaper (emT_cons T.em_InvalidCurve_InvalidTree (emT_cons T.em_InvalidCurve_InvalidPlait (emT_cons T.em_InvalidCurve_InvalidOperation (emT_cons T.em_InvalidOperation_InvalidPrime (emT_cons T.em_InvalidOperation_InvalidWord (emT_cons T.em_InvalidOperation_InvalidPoint (emT_cons T.em_InvalidOperation_InvalidRow (emT_cons T.em_InvalidOperation_InvalidTable (emT_cons T.em_InvalidOperation_InvalidPlane (emT_cons T.em_InvalidOperation_InvalidCurve (emT_cons T.em_InvalidOperation_InvalidWeights (emT_cons T.em_InvalidOperation_InvalidOrders (emT_cons T.em_InvalidOperation_InvalidPaper (emT_cons T.em_InvalidOperation_InvalidTree (emT_cons T.em_InvalidOperation_InvalidPlait (emT_cons T.em_InvalidOperation_InvalidOperation (emT_cons T.em_InvalidOrders_InvalidPrime (emT_cons T.em_InvalidOrders_InvalidWord (emT_cons T.em_InvalidOrders_InvalidPoint (emT_cons T.em_InvalidOrders_InvalidRow (emT_cons T.em_InvalidOrders_InvalidTable (emT_cons T.em_InvalidOrders_InvalidPlane (emT_cons T.em_InvalidOrders_InvalidCurve (emT_cons T.em_InvalidOrders_InvalidWeights (emT_cons T.em_InvalidOrders_InvalidOrders (emT_cons T.em_InvalidOrders_InvalidPaper (emT_cons T.em_InvalidOrders_InvalidTree (emT_cons T.em_InvalidOrders_InvalidPlait (emT_cons T.em_InvalidOrders_InvalidOperation (emT_cons T.em_InvalidPaper_InvalidPrime (emT_cons T.em_InvalidPaper_InvalidWord (emT_cons T.em_InvalidPaper_InvalidPoint (emT_cons T.em_InvalidPaper_InvalidRow (emT_cons T.em_InvalidPaper_InvalidTable (emT_cons T.em_InvalidPaper_InvalidPlane (emT_cons T.em_InvalidPaper_InvalidCurve (emT_cons T.em_InvalidPaper_InvalidWeights (emT_cons T.em_InvalidPaper_InvalidOrders (emT_cons T.em_InvalidPaper_InvalidPaper (emT_cons T.em_InvalidPaper_InvalidTree (emT_cons T.em_InvalidPaper_InvalidPlait (emT_cons T.em_InvalidPaper_InvalidOperation (emT_cons T.em_InvalidPlait_InvalidPrime (emT_cons T.em_InvalidPlait_InvalidWord (emT_cons T.em_InvalidPlait_InvalidPoint (emT_cons T.em_InvalidPlait_InvalidRow (emT_cons T.em_InvalidPlait_InvalidTable (emT_cons T.em_InvalidPlait_InvalidPlane (emT_cons T.em_InvalidPlait_InvalidCurve (emT_cons T.em_InvalidPlait_InvalidWeights (emT_cons T.em_InvalidPlait_InvalidOrders (emT_cons T.em_InvalidPlait_InvalidPaper (emT_cons T.em_InvalidPlait_InvalidTree (emT_cons T.em_InvalidPlait_InvalidPlait (emT_cons T.em_InvalidPlait_InvalidOperation (emT_cons T.em_InvalidPlane_InvalidPrime (emT_cons T.em_InvalidPlane_InvalidWord (emT_cons T.em_InvalidPlane_InvalidPoint (emT_cons T.em_InvalidPlane_InvalidRow (emT_cons T.em_InvalidPlane_InvalidTable (emT_cons T.em_InvalidPlane_InvalidPlane (emT_cons T.em_InvalidPlane_InvalidCurve (emT_cons T.em_InvalidPlane_InvalidWeights (emT_cons T.em_InvalidPlane_InvalidOrders (emT_cons T.em_InvalidPlane_InvalidPaper (emT_cons T.em_InvalidPlane_InvalidTree (emT_cons T.em_InvalidPlane_InvalidPlait (emT_cons T.em_InvalidPlane_InvalidOperation (emT_cons T.em_InvalidPoint_InvalidPrime (emT_cons T.em_InvalidPoint_InvalidWord (emT_cons T.em_InvalidPoint_InvalidPoint (emT_cons T.em_InvalidPoint_InvalidRow (emT_cons T.em_InvalidPoint_InvalidTable (emT_cons T.em_InvalidPoint_InvalidPlane (emT_cons T.em_InvalidPoint_InvalidCurve (emT_cons T.em_InvalidPoint_InvalidWeights (emT_cons T.em_InvalidPoint_InvalidOrders (emT_cons T.em_InvalidPoint_InvalidPaper (emT_cons T.em_InvalidPoint_InvalidTree (emT_cons T.em_InvalidPoint_InvalidPlait (emT_cons T.em_InvalidPoint_InvalidOperation (emT_cons T.em_InvalidPrime_InvalidPrime (emT_cons T.em_InvalidPrime_InvalidWord (emT_cons T.em_InvalidPrime_InvalidPoint (emT_cons T.em_InvalidPrime_InvalidRow (emT_cons T.em_InvalidPrime_InvalidTable (emT_cons T.em_InvalidPrime_InvalidPlane (emT_cons T.em_InvalidPrime_InvalidCurve (emT_cons T.em_InvalidPrime_InvalidWeights (emT_cons T.em_InvalidPrime_InvalidOrders (emT_cons T.em_InvalidPrime_InvalidPaper (emT_cons T.em_InvalidPrime_InvalidTree (emT_cons T.em_InvalidPrime_InvalidPlait (emT_cons T.em_InvalidPrime_InvalidOperation (emT_cons T.em_InvalidRow_InvalidPrime (emT_cons T.em_InvalidRow_InvalidWord (emT_cons T.em_InvalidRow_InvalidPoint (emT_cons T.em_InvalidRow_InvalidRow (emT_cons T.em_InvalidRow_InvalidTable (emT_cons T.em_InvalidRow_InvalidPlane (emT_cons T.em_InvalidRow_InvalidCurve (emT_cons T.em_InvalidRow_InvalidWeights (emT_cons T.em_InvalidRow_InvalidOrders (emT_cons T.em_InvalidRow_InvalidPaper (emT_cons T.em_InvalidRow_InvalidTree (emT_cons T.em_InvalidRow_InvalidPlait (emT_cons T.em_InvalidRow_InvalidOperation (emT_cons T.em_InvalidTable_InvalidPrime (emT_cons T.em_InvalidTable_InvalidWord (emT_cons T.em_InvalidTable_InvalidPoint (emT_cons T.em_InvalidTable_InvalidRow (emT_cons T.em_InvalidTable_InvalidTable (emT_cons T.em_InvalidTable_InvalidPlane (emT_cons T.em_InvalidTable_InvalidCurve (emT_cons T.em_InvalidTable_InvalidWeights (emT_cons T.em_InvalidTable_InvalidOrders (emT_cons T.em_InvalidTable_InvalidPaper (emT_cons T.em_InvalidTable_InvalidTree (emT_cons T.em_InvalidTable_InvalidPlait (emT_cons T.em_InvalidTable_InvalidOperation (emT_cons T.em_InvalidTree_InvalidPrime (emT_cons T.em_InvalidTree_InvalidWord (emT_cons T.em_InvalidTree_InvalidPoint (emT_cons T.em_InvalidTree_InvalidRow (emT_cons T.em_InvalidTree_InvalidTable (emT_cons T.em_InvalidTree_InvalidPlane (emT_cons T.em_InvalidTree_InvalidCurve (emT_cons T.em_InvalidTree_InvalidWeights (emT_cons T.em_InvalidTree_InvalidOrders (emT_cons T.em_InvalidTree_InvalidPaper (emT_cons T.em_InvalidTree_InvalidTree (emT_cons T.em_InvalidTree_InvalidPlait (emT_cons T.em_InvalidTree_InvalidOperation (emT_cons T.em_InvalidWeights_InvalidPrime (emT_cons T.em_InvalidWeights_InvalidWord (emT_cons T.em_InvalidWeights_InvalidPoint (emT_cons T.em_InvalidWeights_InvalidRow (emT_cons T.em_InvalidWeights_InvalidTable (emT_cons T.em_InvalidWeights_InvalidPlane (emT_cons T.em_InvalidWeights_InvalidCurve (emT_cons T.em_InvalidWeights_InvalidWeights (emT_cons T.em_InvalidWeights_InvalidOrders (emT_cons T.em_InvalidWeights_InvalidPaper (emT_cons T.em_InvalidWeights_InvalidTree (emT_cons T.em_InvalidWeights_InvalidPlait (emT_cons T.em_InvalidWeights_InvalidOperation (emT_cons T.em_InvalidWord_InvalidPrime (emT_cons T.em_InvalidWord_InvalidWord (emT_cons T.em_InvalidWord_InvalidPoint (emT_cons T.em_InvalidWord_InvalidRow (emT_cons T.em_InvalidWord_InvalidTable (emT_cons T.em_InvalidWord_InvalidPlane (emT_cons T.em_InvalidWord_InvalidCurve (emT_cons T.em_InvalidWord_InvalidWeights (emT_cons T.em_InvalidWord_InvalidOrders (emT_cons T.em_InvalidWord_InvalidPaper (emT_cons T.em_InvalidWord_InvalidTree (emT_cons T.em_InvalidWord_InvalidPlait (emT_cons T.em_InvalidWord_InvalidOperation emT_nil))))))))))))))))))))))))))))))))))))))))))))))))))))))))))))))))))))))))))))))))))))))))))))))))))))))))))))))))))))))))))))))))))))))))))))))))))))))))))))))))))))))))) rfl rfl wk.ok (fun B' pn xe dw2 hp wk => (lss_one (ls_expr (le_callC cc__law_raise_first hr (by decide) wk (by rfl) (la_cons (le_pv (pv 0)) la_nil))))) (Hds3.cons T.k_InvalidPrime (by rfl) (by decide) (fun a oe x cls d pn B' hz hf hx => (lss_one (ls_ret le_int))) (Hds3.cons T.k_InvalidWord (by rfl) (by decide) (fun a oe x cls d pn B' hz hf hx => (lss_one (ls_ret le_int))) (Hds3.cons T.k_InvalidPoint (by rfl) (by decide) (fun a oe x cls d pn B' hz hf hx => (lss_one (ls_ret le_int))) (Hds3.cons T.k_InvalidRow (by rfl) (by decide) (fun a oe x cls d pn B' hz hf hx => (lss_one (ls_ret le_int))) (Hds3.cons T.k_InvalidTable (by rfl) (by decide) (fun a oe x cls d pn B' hz hf hx => (lss_one (ls_ret le_int))) (Hds3.cons T.k_InvalidPlane (by rfl) (by decide) (fun a oe x cls d pn B' hz hf hx => (lss_one (ls_ret le_int))) (Hds3.cons T.k_InvalidCurve (by rfl) (by decide) (fun a oe x cls d pn B' hz hf hx => (lss_one (ls_ret le_int))) (Hds3.cons T.k_InvalidWeights (by rfl) (by decide) (fun a oe x cls d pn B' hz hf hx => (lss_one (ls_ret le_int))) (Hds3.cons T.k_InvalidOrders (by rfl) (by decide) (fun a oe x cls d pn B' hz hf hx => (lss_one (ls_ret le_int))) (Hds3.cons T.k_InvalidPaper (by rfl) (by decide) (fun a oe x cls d pn B' hz hf hx => (lss_one (ls_ret le_int))) (Hds3.cons T.k_InvalidTree (by rfl) (by decide) (fun a oe x cls d pn B' hz hf hx => (lss_one (ls_ret le_int))) (Hds3.cons T.k_InvalidPlait (by rfl) (by decide) (fun a oe x cls d pn B' hz hf hx => (lss_one (ls_ret le_int))) (Hds3.cons T.k_InvalidOperation (by rfl) (by decide) (fun a oe x cls d pn B' hz hf hx => (lss_one (ls_ret le_int))) Hds3.nil))))))))))))))),
    fun ds G q h => p__law_caught ds G q dw h⟩
theorem ok__law_caught_back (T : Txt P K mg) (d__law_caught_back : DefAt K mg "_law_caught_back" s__law_caught_back) (cc__law_raise_first : Cal3 P w K mg base "_law_raise_first" 2 ["_law_number"] (spC r__law_raise_first)) : Cal3 P w K mg base "_law_caught_back" 3 ["_law_number"] sp__law_caught_back :=
  cal3 d__law_caught_back (fun _ _ _ _ _ _ us hl => match us, hl with | [_], _ => rfl) sc__law_caught_back len__law_caught_back fun f cdv A outer s H E B dw hr wk => ⟨t__law_caught_back dw,
    (lss_one (ls_try (em := [((("InvalidCurve" : Str), ("ParseError" : Str)), false), ((("InvalidCurve" : Str), ("InvalidOperation" : Str)), false), ((("InvalidCurve" : Str), ("InvalidPlait" : Str)), false), ((("InvalidCurve" : Str), ("InvalidTree" : Str)), false), ((("InvalidCurve" : Str), ("InvalidPaper" : Str)), false), ((("InvalidCurve" : Str), ("InvalidOrders" : Str)), false), ((("InvalidCurve" : Str), ("InvalidWeights" : Str)), false), ((("InvalidCurve" : Str), ("InvalidCurve" : Str)), true), ((("InvalidCurve" : Str), ("InvalidPlane" : Str)), false), ((("InvalidCurve" : Str), ("InvalidTable" : Str)), false), ((("InvalidCurve" : Str), ("InvalidRow" : Str)), false), ((("InvalidCurve" : Str), ("InvalidPoint" : Str)), false), ((("InvalidCurve" : Str), ("InvalidWord" : Str)), false), ((("InvalidCurve" : Str), ("InvalidPrime" : Str)), false), ((("InvalidOperation" : Str), ("ParseError" : Str)), false), ((("InvalidOperation" : Str), ("InvalidOperation" : Str)), true), ((("InvalidOperation" : Str), ("InvalidPlait" : Str)), false), ((("InvalidOperation" : Str), ("InvalidTree" : Str)), false), ((("InvalidOperation" : Str), ("InvalidPaper" : Str)), false), ((("InvalidOperation" : Str), ("InvalidOrders" : Str)), false), ((("InvalidOperation" : Str), ("InvalidWeights" : Str)), false), ((("InvalidOperation" : Str), ("InvalidCurve" : Str)), false), ((("InvalidOperation" : Str), ("InvalidPlane" : Str)), false), ((("InvalidOperation" : Str), ("InvalidTable" : Str)), false), ((("InvalidOperation" : Str), ("InvalidRow" : Str)), false), ((("InvalidOperation" : Str), ("InvalidPoint" : Str)), false), ((("InvalidOperation" : Str), ("InvalidWord" : Str)), false), ((("InvalidOperation" : Str), ("InvalidPrime" : Str)), false), ((("InvalidOrders" : Str), ("ParseError" : Str)), false), ((("InvalidOrders" : Str), ("InvalidOperation" : Str)), false), ((("InvalidOrders" : Str), ("InvalidPlait" : Str)), false), ((("InvalidOrders" : Str), ("InvalidTree" : Str)), false), ((("InvalidOrders" : Str), ("InvalidPaper" : Str)), false), ((("InvalidOrders" : Str), ("InvalidOrders" : Str)), true), ((("InvalidOrders" : Str), ("InvalidWeights" : Str)), false), ((("InvalidOrders" : Str), ("InvalidCurve" : Str)), false), ((("InvalidOrders" : Str), ("InvalidPlane" : Str)), false), ((("InvalidOrders" : Str), ("InvalidTable" : Str)), false), ((("InvalidOrders" : Str), ("InvalidRow" : Str)), false), ((("InvalidOrders" : Str), ("InvalidPoint" : Str)), false), ((("InvalidOrders" : Str), ("InvalidWord" : Str)), false), ((("InvalidOrders" : Str), ("InvalidPrime" : Str)), false), ((("InvalidPaper" : Str), ("ParseError" : Str)), false), ((("InvalidPaper" : Str), ("InvalidOperation" : Str)), false), ((("InvalidPaper" : Str), ("InvalidPlait" : Str)), false), ((("InvalidPaper" : Str), ("InvalidTree" : Str)), false), ((("InvalidPaper" : Str), ("InvalidPaper" : Str)), true), ((("InvalidPaper" : Str), ("InvalidOrders" : Str)), false), ((("InvalidPaper" : Str), ("InvalidWeights" : Str)), false), ((("InvalidPaper" : Str), ("InvalidCurve" : Str)), false), ((("InvalidPaper" : Str), ("InvalidPlane" : Str)), false), ((("InvalidPaper" : Str), ("InvalidTable" : Str)), false), ((("InvalidPaper" : Str), ("InvalidRow" : Str)), false), ((("InvalidPaper" : Str), ("InvalidPoint" : Str)), false), ((("InvalidPaper" : Str), ("InvalidWord" : Str)), false), ((("InvalidPaper" : Str), ("InvalidPrime" : Str)), false), ((("InvalidPlait" : Str), ("ParseError" : Str)), false), ((("InvalidPlait" : Str), ("InvalidOperation" : Str)), false), ((("InvalidPlait" : Str), ("InvalidPlait" : Str)), true), ((("InvalidPlait" : Str), ("InvalidTree" : Str)), false), ((("InvalidPlait" : Str), ("InvalidPaper" : Str)), false), ((("InvalidPlait" : Str), ("InvalidOrders" : Str)), false), ((("InvalidPlait" : Str), ("InvalidWeights" : Str)), false), ((("InvalidPlait" : Str), ("InvalidCurve" : Str)), false), ((("InvalidPlait" : Str), ("InvalidPlane" : Str)), false), ((("InvalidPlait" : Str), ("InvalidTable" : Str)), false), ((("InvalidPlait" : Str), ("InvalidRow" : Str)), false), ((("InvalidPlait" : Str), ("InvalidPoint" : Str)), false), ((("InvalidPlait" : Str), ("InvalidWord" : Str)), false), ((("InvalidPlait" : Str), ("InvalidPrime" : Str)), false), ((("InvalidPlane" : Str), ("ParseError" : Str)), false), ((("InvalidPlane" : Str), ("InvalidOperation" : Str)), false), ((("InvalidPlane" : Str), ("InvalidPlait" : Str)), false), ((("InvalidPlane" : Str), ("InvalidTree" : Str)), false), ((("InvalidPlane" : Str), ("InvalidPaper" : Str)), false), ((("InvalidPlane" : Str), ("InvalidOrders" : Str)), false), ((("InvalidPlane" : Str), ("InvalidWeights" : Str)), false), ((("InvalidPlane" : Str), ("InvalidCurve" : Str)), false), ((("InvalidPlane" : Str), ("InvalidPlane" : Str)), true), ((("InvalidPlane" : Str), ("InvalidTable" : Str)), false), ((("InvalidPlane" : Str), ("InvalidRow" : Str)), false), ((("InvalidPlane" : Str), ("InvalidPoint" : Str)), false), ((("InvalidPlane" : Str), ("InvalidWord" : Str)), false), ((("InvalidPlane" : Str), ("InvalidPrime" : Str)), false), ((("InvalidPoint" : Str), ("ParseError" : Str)), false), ((("InvalidPoint" : Str), ("InvalidOperation" : Str)), false), ((("InvalidPoint" : Str), ("InvalidPlait" : Str)), false), ((("InvalidPoint" : Str), ("InvalidTree" : Str)), false), ((("InvalidPoint" : Str), ("InvalidPaper" : Str)), false), ((("InvalidPoint" : Str), ("InvalidOrders" : Str)), false), ((("InvalidPoint" : Str), ("InvalidWeights" : Str)), false), ((("InvalidPoint" : Str), ("InvalidCurve" : Str)), false), ((("InvalidPoint" : Str), ("InvalidPlane" : Str)), false), ((("InvalidPoint" : Str), ("InvalidTable" : Str)), false), ((("InvalidPoint" : Str), ("InvalidRow" : Str)), false), ((("InvalidPoint" : Str), ("InvalidPoint" : Str)), true), ((("InvalidPoint" : Str), ("InvalidWord" : Str)), false), ((("InvalidPoint" : Str), ("InvalidPrime" : Str)), false), ((("InvalidPrime" : Str), ("ParseError" : Str)), false), ((("InvalidPrime" : Str), ("InvalidOperation" : Str)), false), ((("InvalidPrime" : Str), ("InvalidPlait" : Str)), false), ((("InvalidPrime" : Str), ("InvalidTree" : Str)), false), ((("InvalidPrime" : Str), ("InvalidPaper" : Str)), false), ((("InvalidPrime" : Str), ("InvalidOrders" : Str)), false), ((("InvalidPrime" : Str), ("InvalidWeights" : Str)), false), ((("InvalidPrime" : Str), ("InvalidCurve" : Str)), false), ((("InvalidPrime" : Str), ("InvalidPlane" : Str)), false), ((("InvalidPrime" : Str), ("InvalidTable" : Str)), false), ((("InvalidPrime" : Str), ("InvalidRow" : Str)), false), ((("InvalidPrime" : Str), ("InvalidPoint" : Str)), false), ((("InvalidPrime" : Str), ("InvalidWord" : Str)), false), ((("InvalidPrime" : Str), ("InvalidPrime" : Str)), true), ((("InvalidRow" : Str), ("ParseError" : Str)), false), ((("InvalidRow" : Str), ("InvalidOperation" : Str)), false), ((("InvalidRow" : Str), ("InvalidPlait" : Str)), false), ((("InvalidRow" : Str), ("InvalidTree" : Str)), false), ((("InvalidRow" : Str), ("InvalidPaper" : Str)), false), ((("InvalidRow" : Str), ("InvalidOrders" : Str)), false), ((("InvalidRow" : Str), ("InvalidWeights" : Str)), false), ((("InvalidRow" : Str), ("InvalidCurve" : Str)), false), ((("InvalidRow" : Str), ("InvalidPlane" : Str)), false), ((("InvalidRow" : Str), ("InvalidTable" : Str)), false), ((("InvalidRow" : Str), ("InvalidRow" : Str)), true), ((("InvalidRow" : Str), ("InvalidPoint" : Str)), false), ((("InvalidRow" : Str), ("InvalidWord" : Str)), false), ((("InvalidRow" : Str), ("InvalidPrime" : Str)), false), ((("InvalidTable" : Str), ("ParseError" : Str)), false), ((("InvalidTable" : Str), ("InvalidOperation" : Str)), false), ((("InvalidTable" : Str), ("InvalidPlait" : Str)), false), ((("InvalidTable" : Str), ("InvalidTree" : Str)), false), ((("InvalidTable" : Str), ("InvalidPaper" : Str)), false), ((("InvalidTable" : Str), ("InvalidOrders" : Str)), false), ((("InvalidTable" : Str), ("InvalidWeights" : Str)), false), ((("InvalidTable" : Str), ("InvalidCurve" : Str)), false), ((("InvalidTable" : Str), ("InvalidPlane" : Str)), false), ((("InvalidTable" : Str), ("InvalidTable" : Str)), true), ((("InvalidTable" : Str), ("InvalidRow" : Str)), false), ((("InvalidTable" : Str), ("InvalidPoint" : Str)), false), ((("InvalidTable" : Str), ("InvalidWord" : Str)), false), ((("InvalidTable" : Str), ("InvalidPrime" : Str)), false), ((("InvalidTree" : Str), ("ParseError" : Str)), false), ((("InvalidTree" : Str), ("InvalidOperation" : Str)), false), ((("InvalidTree" : Str), ("InvalidPlait" : Str)), false), ((("InvalidTree" : Str), ("InvalidTree" : Str)), true), ((("InvalidTree" : Str), ("InvalidPaper" : Str)), false), ((("InvalidTree" : Str), ("InvalidOrders" : Str)), false), ((("InvalidTree" : Str), ("InvalidWeights" : Str)), false), ((("InvalidTree" : Str), ("InvalidCurve" : Str)), false), ((("InvalidTree" : Str), ("InvalidPlane" : Str)), false), ((("InvalidTree" : Str), ("InvalidTable" : Str)), false), ((("InvalidTree" : Str), ("InvalidRow" : Str)), false), ((("InvalidTree" : Str), ("InvalidPoint" : Str)), false), ((("InvalidTree" : Str), ("InvalidWord" : Str)), false), ((("InvalidTree" : Str), ("InvalidPrime" : Str)), false), ((("InvalidWeights" : Str), ("ParseError" : Str)), false), ((("InvalidWeights" : Str), ("InvalidOperation" : Str)), false), ((("InvalidWeights" : Str), ("InvalidPlait" : Str)), false), ((("InvalidWeights" : Str), ("InvalidTree" : Str)), false), ((("InvalidWeights" : Str), ("InvalidPaper" : Str)), false), ((("InvalidWeights" : Str), ("InvalidOrders" : Str)), false), ((("InvalidWeights" : Str), ("InvalidWeights" : Str)), true), ((("InvalidWeights" : Str), ("InvalidCurve" : Str)), false), ((("InvalidWeights" : Str), ("InvalidPlane" : Str)), false), ((("InvalidWeights" : Str), ("InvalidTable" : Str)), false), ((("InvalidWeights" : Str), ("InvalidRow" : Str)), false), ((("InvalidWeights" : Str), ("InvalidPoint" : Str)), false), ((("InvalidWeights" : Str), ("InvalidWord" : Str)), false), ((("InvalidWeights" : Str), ("InvalidPrime" : Str)), false), ((("InvalidWord" : Str), ("ParseError" : Str)), false), ((("InvalidWord" : Str), ("InvalidOperation" : Str)), false), ((("InvalidWord" : Str), ("InvalidPlait" : Str)), false), ((("InvalidWord" : Str), ("InvalidTree" : Str)), false), ((("InvalidWord" : Str), ("InvalidPaper" : Str)), false), ((("InvalidWord" : Str), ("InvalidOrders" : Str)), false), ((("InvalidWord" : Str), ("InvalidWeights" : Str)), false), ((("InvalidWord" : Str), ("InvalidCurve" : Str)), false), ((("InvalidWord" : Str), ("InvalidPlane" : Str)), false), ((("InvalidWord" : Str), ("InvalidTable" : Str)), false), ((("InvalidWord" : Str), ("InvalidRow" : Str)), false), ((("InvalidWord" : Str), ("InvalidPoint" : Str)), false), ((("InvalidWord" : Str), ("InvalidWord" : Str)), true), ((("InvalidWord" : Str), ("InvalidPrime" : Str)), false)]) (emT_cons T.em_InvalidCurve_ParseError (emT_cons T.em_InvalidCurve_InvalidOperation (emT_cons T.em_InvalidCurve_InvalidPlait (emT_cons T.em_InvalidCurve_InvalidTree (emT_cons T.em_InvalidCurve_InvalidPaper (emT_cons T.em_InvalidCurve_InvalidOrders (emT_cons T.em_InvalidCurve_InvalidWeights (emT_cons T.em_InvalidCurve_InvalidCurve (emT_cons T.em_InvalidCurve_InvalidPlane (emT_cons T.em_InvalidCurve_InvalidTable (emT_cons T.em_InvalidCurve_InvalidRow (emT_cons T.em_InvalidCurve_InvalidPoint (emT_cons T.em_InvalidCurve_InvalidWord (emT_cons T.em_InvalidCurve_InvalidPrime (emT_cons T.em_InvalidOperation_ParseError (emT_cons T.em_InvalidOperation_InvalidOperation (emT_cons T.em_InvalidOperation_InvalidPlait (emT_cons T.em_InvalidOperation_InvalidTree (emT_cons T.em_InvalidOperation_InvalidPaper (emT_cons T.em_InvalidOperation_InvalidOrders (emT_cons T.em_InvalidOperation_InvalidWeights (emT_cons T.em_InvalidOperation_InvalidCurve (emT_cons T.em_InvalidOperation_InvalidPlane (emT_cons T.em_InvalidOperation_InvalidTable (emT_cons T.em_InvalidOperation_InvalidRow (emT_cons T.em_InvalidOperation_InvalidPoint (emT_cons T.em_InvalidOperation_InvalidWord (emT_cons T.em_InvalidOperation_InvalidPrime (emT_cons T.em_InvalidOrders_ParseError (emT_cons T.em_InvalidOrders_InvalidOperation (emT_cons T.em_InvalidOrders_InvalidPlait (emT_cons T.em_InvalidOrders_InvalidTree (emT_cons T.em_InvalidOrders_InvalidPaper (emT_cons T.em_InvalidOrders_InvalidOrders (emT_cons T.em_InvalidOrders_InvalidWeights (emT_cons T.em_InvalidOrders_InvalidCurve (emT_cons T.em_InvalidOrders_InvalidPlane (emT_cons T.em_InvalidOrders_InvalidTable (emT_cons T.em_InvalidOrders_InvalidRow (emT_cons T.em_InvalidOrders_InvalidPoint (emT_cons T.em_InvalidOrders_InvalidWord (emT_cons T.em_InvalidOrders_InvalidPrime (emT_cons T.em_InvalidPaper_ParseError (emT_cons T.em_InvalidPaper_InvalidOperation (emT_cons T.em_InvalidPaper_InvalidPlait (emT_cons T.em_InvalidPaper_InvalidTree (emT_cons T.em_InvalidPaper_InvalidPaper (emT_cons T.em_InvalidPaper_InvalidOrders (emT_cons T.em_InvalidPaper_InvalidWeights (emT_cons T.em_InvalidPaper_InvalidCurve (emT_cons T.em_InvalidPaper_InvalidPlane (emT_cons T.em_InvalidPaper_InvalidTable (emT_cons T.em_InvalidPaper_InvalidRow (emT_cons T.em_InvalidPaper_InvalidPoint (emT_cons T.em_InvalidPaper_InvalidWord (emT_cons T.em_InvalidPaper_InvalidPrime (emT_cons T.em_InvalidPlait_ParseError (emT_cons T.em_InvalidPlait_InvalidOperation (emT_cons T.em_InvalidPlait_InvalidPlait (emT_cons T.em_InvalidPlait_InvalidTree (emT_cons T.em_InvalidPlait_InvalidPaper (emT_cons T.em_InvalidPlait_InvalidOrders (emT_cons T.em_InvalidPlait_InvalidWeights (emT_cons T.em_InvalidPlait_InvalidCurve (emT_cons T.em_InvalidPlait_InvalidPlane (emT_cons T.em_InvalidPlait_InvalidTable (emT_cons T.em_InvalidPlait_InvalidRow (emT_cons T.em_InvalidPlait_InvalidPoint (emT_cons T.em_InvalidPlait_InvalidWord (emT_cons T.em_InvalidPlait_InvalidPrime (emT_cons T.em_InvalidPlane_ParseError (emT_cons T.em_InvalidPlane_InvalidOperation (emT_cons T.em_InvalidPlane_InvalidPlait (emT_cons T.em_InvalidPlane_InvalidTree (emT_cons T.em_InvalidPlane_InvalidPaper (emT_cons T.em_InvalidPlane_InvalidOrders (emT_cons T.em_InvalidPlane_InvalidWeights (emT_cons T.em_InvalidPlane_InvalidCurve (emT_cons T.em_InvalidPlane_InvalidPlane (emT_cons T.em_InvalidPlane_InvalidTable (emT_cons T.em_InvalidPlane_InvalidRow (emT_cons T.em_InvalidPlane_InvalidPoint (emT_cons T.em_InvalidPlane_InvalidWord (emT_cons T.em_InvalidPlane_InvalidPrime (emT_cons T.em_InvalidPoint_ParseError (emT_cons T.em_InvalidPoint_InvalidOperation (emT_cons T.em_InvalidPoint_InvalidPlait (emT_cons T.em_InvalidPoint_InvalidTree (emT_cons T.em_InvalidPoint_InvalidPaper (emT_cons T.em_InvalidPoint_InvalidOrders (emT_cons T.em_InvalidPoint_InvalidWeights (emT_cons T.em_InvalidPoint_InvalidCurve (emT_cons T.em_InvalidPoint_InvalidPlane (emT_cons T.em_InvalidPoint_InvalidTable (emT_cons T.em_InvalidPoint_InvalidRow (emT_cons T.em_InvalidPoint_InvalidPoint (emT_cons T.em_InvalidPoint_InvalidWord (emT_cons T.em_InvalidPoint_InvalidPrime (emT_cons T.em_InvalidPrime_ParseError (emT_cons T.em_InvalidPrime_InvalidOperation (emT_cons T.em_InvalidPrime_InvalidPlait (emT_cons T.em_InvalidPrime_InvalidTree (emT_cons T.em_InvalidPrime_InvalidPaper (emT_cons T.em_InvalidPrime_InvalidOrders (emT_cons T.em_InvalidPrime_InvalidWeights (emT_cons T.em_InvalidPrime_InvalidCurve (emT_cons T.em_InvalidPrime_InvalidPlane (emT_cons T.em_InvalidPrime_InvalidTable (emT_cons T.em_InvalidPrime_InvalidRow (emT_cons T.em_InvalidPrime_InvalidPoint (emT_cons T.em_InvalidPrime_InvalidWord (emT_cons T.em_InvalidPrime_InvalidPrime (emT_cons T.em_InvalidRow_ParseError (emT_cons T.em_InvalidRow_InvalidOperation (emT_cons T.em_InvalidRow_InvalidPlait (emT_cons T.em_InvalidRow_InvalidTree (emT_cons T.em_InvalidRow_InvalidPaper (emT_cons T.em_InvalidRow_InvalidOrders (emT_cons T.em_InvalidRow_InvalidWeights (emT_cons T.em_InvalidRow_InvalidCurve (emT_cons T.em_InvalidRow_InvalidPlane (emT_cons T.em_InvalidRow_InvalidTable (emT_cons T.em_InvalidRow_InvalidRow (emT_cons T.em_InvalidRow_InvalidPoint (emT_cons T.em_InvalidRow_InvalidWord (emT_cons T.em_InvalidRow_InvalidPrime (emT_cons T.em_InvalidTable_ParseError (emT_cons T.em_InvalidTable_InvalidOperation (emT_cons T.em_InvalidTable_InvalidPlait (emT_cons T.em_InvalidTable_InvalidTree (emT_cons T.em_InvalidTable_InvalidPaper (emT_cons T.em_InvalidTable_InvalidOrders (emT_cons T.em_InvalidTable_InvalidWeights (emT_cons T.em_InvalidTable_InvalidCurve (emT_cons T.em_InvalidTable_InvalidPlane (emT_cons T.em_InvalidTable_InvalidTable (emT_cons T.em_InvalidTable_InvalidRow (emT_cons T.em_InvalidTable_InvalidPoint (emT_cons T.em_InvalidTable_InvalidWord (emT_cons T.em_InvalidTable_InvalidPrime (emT_cons T.em_InvalidTree_ParseError (emT_cons T.em_InvalidTree_InvalidOperation (emT_cons T.em_InvalidTree_InvalidPlait (emT_cons T.em_InvalidTree_InvalidTree (emT_cons T.em_InvalidTree_InvalidPaper (emT_cons T.em_InvalidTree_InvalidOrders (emT_cons T.em_InvalidTree_InvalidWeights (emT_cons T.em_InvalidTree_InvalidCurve (emT_cons T.em_InvalidTree_InvalidPlane (emT_cons T.em_InvalidTree_InvalidTable (emT_cons T.em_InvalidTree_InvalidRow (emT_cons T.em_InvalidTree_InvalidPoint (emT_cons T.em_InvalidTree_InvalidWord (emT_cons T.em_InvalidTree_InvalidPrime (emT_cons T.em_InvalidWeights_ParseError (emT_cons T.em_InvalidWeights_InvalidOperation (emT_cons T.em_InvalidWeights_InvalidPlait (emT_cons T.em_InvalidWeights_InvalidTree (emT_cons T.em_InvalidWeights_InvalidPaper (emT_cons T.em_InvalidWeights_InvalidOrders (emT_cons T.em_InvalidWeights_InvalidWeights (emT_cons T.em_InvalidWeights_InvalidCurve (emT_cons T.em_InvalidWeights_InvalidPlane (emT_cons T.em_InvalidWeights_InvalidTable (emT_cons T.em_InvalidWeights_InvalidRow (emT_cons T.em_InvalidWeights_InvalidPoint (emT_cons T.em_InvalidWeights_InvalidWord (emT_cons T.em_InvalidWeights_InvalidPrime (emT_cons T.em_InvalidWord_ParseError (emT_cons T.em_InvalidWord_InvalidOperation (emT_cons T.em_InvalidWord_InvalidPlait (emT_cons T.em_InvalidWord_InvalidTree (emT_cons T.em_InvalidWord_InvalidPaper (emT_cons T.em_InvalidWord_InvalidOrders (emT_cons T.em_InvalidWord_InvalidWeights (emT_cons T.em_InvalidWord_InvalidCurve (emT_cons T.em_InvalidWord_InvalidPlane (emT_cons T.em_InvalidWord_InvalidTable (emT_cons T.em_InvalidWord_InvalidRow (emT_cons T.em_InvalidWord_InvalidPoint (emT_cons T.em_InvalidWord_InvalidWord (emT_cons T.em_InvalidWord_InvalidPrime emT_nil)))))))))))))))))))))))))))))))))))))))))))))))))))))))))))))))))))))))))))))))))))))))))))))))))))))))))))))))))))))))))))))))))))))))))))))))))))))))))))))))))))))))))))))))))))))) rfl rfl wk.ok (fun B' pn xe dw2 hp wk => (lss_one (ls_expr (le_callC cc__law_raise_first hr (by decide) wk (by rfl) (la_cons (le_pv (pv 0)) la_nil))))) (Hds3.cons T.k_ParseError (by rfl) (by decide) (fun a oe x cls d pn B' hz hf hx => (lss_one (ls_ret (le_neg le_int)))) (Hds3.cons T.k_InvalidOperation (by rfl) (by decide) (fun a oe x cls d pn B' hz hf hx => (lss_one (ls_ret le_int))) (Hds3.cons T.k_InvalidPlait (by rfl) (by decide) (fun a oe x cls d pn B' hz hf hx => (lss_one (ls_ret le_int))) (Hds3.cons T.k_InvalidTree (by rfl) (by decide) (fun a oe x cls d pn B' hz hf hx => (lss_one (ls_ret le_int))) (Hds3.cons T.k_InvalidPaper (by rfl) (by decide) (fun a oe x cls d pn B' hz hf hx => (lss_one (ls_ret le_int))) (Hds3.cons T.k_InvalidOrders (by rfl) (by decide) (fun a oe x cls d pn B' hz hf hx => (lss_one (ls_ret le_int))) (Hds3.cons T.k_InvalidWeights (by rfl) (by decide) (fun a oe x cls d pn B' hz hf hx => (lss_one (ls_ret le_int))) (Hds3.cons T.k_InvalidCurve (by rfl) (by decide) (fun a oe x cls d pn B' hz hf hx => (lss_one (ls_ret le_int))) (Hds3.cons T.k_InvalidPlane (by rfl) (by decide) (fun a oe x cls d pn B' hz hf hx => (lss_one (ls_ret le_int))) (Hds3.cons T.k_InvalidTable (by rfl) (by decide) (fun a oe x cls d pn B' hz hf hx => (lss_one (ls_ret le_int))) (Hds3.cons T.k_InvalidRow (by rfl) (by decide) (fun a oe x cls d pn B' hz hf hx => (lss_one (ls_ret le_int))) (Hds3.cons T.k_InvalidPoint (by rfl) (by decide) (fun a oe x cls d pn B' hz hf hx => (lss_one (ls_ret le_int))) (Hds3.cons T.k_InvalidWord (by rfl) (by decide) (fun a oe x cls d pn B' hz hf hx => (lss_one (ls_ret le_int))) (Hds3.cons T.k_InvalidPrime (by rfl) (by decide) (fun a oe x cls d pn B' hz hf hx => (lss_one (ls_ret le_int))) Hds3.nil)))))))))))))))),
    fun ds G q h => p__law_caught_back ds G q dw h⟩
theorem ok__law_kept (T : Txt P K mg) (d__law_kept : DefAt K mg "_law_kept" s__law_kept) (cc__law_raise_kept : Cal3 P w K mg base "_law_raise_kept" 2 ["_law_number", "_law_value"] (spC r__law_raise_kept)) : Cal3 P w K mg base "_law_kept" 3 ["_law_number", "_law_value"] sp__law_kept :=
  cal3 d__law_kept (fun _ _ _ _ _ _ us hl => match us, hl with | [_, _], _ => rfl) sc__law_kept len__law_kept fun f cdv A outer s H E B dw hr wk => ⟨t__law_kept dw,
    (lss_one (ls_try (em := [((("InvalidCount" : Str), ("ParseError" : Str)), false), ((("InvalidCount" : Str), ("InvalidCount" : Str)), true), ((("InvalidCount" : Str), ("UnknownName" : Str)), false), ((("InvalidCount" : Str), ("NothingToUndo" : Str)), false), ((("InvalidCount" : Str), ("TooMany" : Str)), false), ((("InvalidCount" : Str), ("Refused" : Str)), false), ((("NothingToUndo" : Str), ("ParseError" : Str)), false), ((("NothingToUndo" : Str), ("InvalidCount" : Str)), false), ((("NothingToUndo" : Str), ("UnknownName" : Str)), false), ((("NothingToUndo" : Str), ("NothingToUndo" : Str)), true), ((("NothingToUndo" : Str), ("TooMany" : Str)), false), ((("NothingToUndo" : Str), ("Refused" : Str)), false), ((("ParseError" : Str), ("ParseError" : Str)), true), ((("ParseError" : Str), ("InvalidCount" : Str)), false), ((("ParseError" : Str), ("UnknownName" : Str)), false), ((("ParseError" : Str), ("NothingToUndo" : Str)), false), ((("ParseError" : Str), ("TooMany" : Str)), false), ((("ParseError" : Str), ("Refused" : Str)), false), ((("Refused" : Str), ("ParseError" : Str)), false), ((("Refused" : Str), ("InvalidCount" : Str)), false), ((("Refused" : Str), ("UnknownName" : Str)), false), ((("Refused" : Str), ("NothingToUndo" : Str)), false), ((("Refused" : Str), ("TooMany" : Str)), false), ((("Refused" : Str), ("Refused" : Str)), true), ((("TooMany" : Str), ("ParseError" : Str)), false), ((("TooMany" : Str), ("InvalidCount" : Str)), false), ((("TooMany" : Str), ("UnknownName" : Str)), false), ((("TooMany" : Str), ("NothingToUndo" : Str)), false), ((("TooMany" : Str), ("TooMany" : Str)), true), ((("TooMany" : Str), ("Refused" : Str)), false), ((("UnknownName" : Str), ("ParseError" : Str)), false), ((("UnknownName" : Str), ("InvalidCount" : Str)), false), ((("UnknownName" : Str), ("UnknownName" : Str)), true), ((("UnknownName" : Str), ("NothingToUndo" : Str)), false), ((("UnknownName" : Str), ("TooMany" : Str)), false), ((("UnknownName" : Str), ("Refused" : Str)), false)]) (emT_cons T.em_InvalidCount_ParseError (emT_cons T.em_InvalidCount_InvalidCount (emT_cons T.em_InvalidCount_UnknownName (emT_cons T.em_InvalidCount_NothingToUndo (emT_cons T.em_InvalidCount_TooMany (emT_cons T.em_InvalidCount_Refused (emT_cons T.em_NothingToUndo_ParseError (emT_cons T.em_NothingToUndo_InvalidCount (emT_cons T.em_NothingToUndo_UnknownName (emT_cons T.em_NothingToUndo_NothingToUndo (emT_cons T.em_NothingToUndo_TooMany (emT_cons T.em_NothingToUndo_Refused (emT_cons T.em_ParseError_ParseError (emT_cons T.em_ParseError_InvalidCount (emT_cons T.em_ParseError_UnknownName (emT_cons T.em_ParseError_NothingToUndo (emT_cons T.em_ParseError_TooMany (emT_cons T.em_ParseError_Refused (emT_cons T.em_Refused_ParseError (emT_cons T.em_Refused_InvalidCount (emT_cons T.em_Refused_UnknownName (emT_cons T.em_Refused_NothingToUndo (emT_cons T.em_Refused_TooMany (emT_cons T.em_Refused_Refused (emT_cons T.em_TooMany_ParseError (emT_cons T.em_TooMany_InvalidCount (emT_cons T.em_TooMany_UnknownName (emT_cons T.em_TooMany_NothingToUndo (emT_cons T.em_TooMany_TooMany (emT_cons T.em_TooMany_Refused (emT_cons T.em_UnknownName_ParseError (emT_cons T.em_UnknownName_InvalidCount (emT_cons T.em_UnknownName_UnknownName (emT_cons T.em_UnknownName_NothingToUndo (emT_cons T.em_UnknownName_TooMany (emT_cons T.em_UnknownName_Refused emT_nil)))))))))))))))))))))))))))))))))))) rfl rfl wk.ok (fun B' pn xe dw2 hp wk => (lss_one (ls_expr (le_callC cc__law_raise_kept hr (by decide) wk (by rfl) (la_cons (le_pv (pv 0)) (la_cons (le_pv (pv 1)) la_nil)))))) (Hds3.as (i := 2) T.k_ParseError (by rfl) (by decide) sc__law_kept.nd rfl (by rfl) (fun a oe x cls d pn B' hz hf hx => (lss_one (ls_ret (le_tup (la_cons le_int (la_cons (le_xf (xt := [("ParseError", "index")]) (xfT_cons T.xf_ParseError_index xfT_nil) hz hf hx (le_pv (pv 2))) la_nil)))))) (Hds3.as (i := 2) T.k_InvalidCount (by rfl) (by decide) sc__law_kept.nd rfl (by rfl) (fun a oe x cls d pn B' hz hf hx => (lss_one (ls_ret (le_tup (la_cons le_int (la_cons (le_xf (xt := [("InvalidCount", "value")]) (xfT_cons T.xf_InvalidCount_value xfT_nil) hz hf hx (le_pv (pv 2))) la_nil)))))) (Hds3.as (i := 2) T.k_UnknownName (by rfl) (by decide) sc__law_kept.nd rfl (by rfl) (fun a oe x cls d pn B' hz hf hx => (lss_one (ls_ret (le_tup (la_cons le_int (la_cons (le_xf (xt := [("UnknownName", "name")]) (xfT_cons T.xf_UnknownName_name xfT_nil) hz hf hx (le_pv (pv 2))) la_nil)))))) (Hds3.as (i := 2) T.k_NothingToUndo (by rfl) (by decide) sc__law_kept.nd rfl (by rfl) (fun a oe x cls d pn B' hz hf hx => (lss_one (ls_ret (le_tup (la_cons le_int (la_cons (le_xf (xt := [("NothingToUndo", "wanted")]) (xfT_cons T.xf_NothingToUndo_wanted xfT_nil) hz hf hx (le_pv (pv 2))) la_nil)))))) (Hds3.as (i := 2) T.k_TooMany (by rfl) (by decide) sc__law_kept.nd rfl (by rfl) (fun a oe x cls d pn B' hz hf hx => (lss_one (ls_ret (le_tup (la_cons le_int (la_cons (le_xf (xt := [("TooMany", "limit")]) (xfT_cons T.xf_TooMany_limit xfT_nil) hz hf hx (le_pv (pv 2))) la_nil)))))) (Hds3.as (i := 2) T.k_Refused (by rfl) (by decide) sc__law_kept.nd rfl (by rfl) (fun a oe x cls d pn B' hz hf hx => (lss_one (ls_ret (le_tup (la_cons le_int (la_cons (le_xf (xt := [("Refused", "reason")]) (xfT_cons T.xf_Refused_reason xfT_nil) hz hf hx (le_pv (pv 2))) la_nil)))))) Hds3.nil)))))))),
    fun ds G q h => p__law_kept ds G q dw h⟩
theorem ok__law_is_first (T : Txt P K mg) (d__law_is_first : DefAt K mg "_law_is_first" s__law_is_first) (cc__law_raise_first : Cal3 P w K mg base "_law_raise_first" 2 ["_law_number"] (spC r__law_raise_first)) : Cal3 P w K mg base "_law_is_first" 3 ["_law_number"] sp__law_is_first :=
  cal3 d__law_is_first (fun _ _ _ _ _ _ us hl => match us, hl with | [_], _ => rfl) sc__law_is_first len__law_is_first fun f cdv A outer s H E B dw hr wk => ⟨t__law_is_first dw,
    (lss_one (ls_try (em := [(("InvalidCurve", "TowerError"), true), (("InvalidOperation", "TowerError"), true), (("InvalidOrders", "TowerError"), true), (("InvalidPaper", "TowerError"), true), (("InvalidPlait", "TowerError"), true), (("InvalidPlane", "TowerError"), true), (("InvalidPoint", "TowerError"), true), (("InvalidPrime", "TowerError"), true), (("InvalidRow", "TowerError"), true), (("InvalidTable", "TowerError"), true), (("InvalidTree", "TowerError"), true), (("InvalidWeights", "TowerError"), true), (("InvalidWord", "TowerError"), true)]) (emT_cons T.em_InvalidCurve_TowerError (emT_cons T.em_InvalidOperation_TowerError (emT_cons T.em_InvalidOrders_TowerError (emT_cons T.em_InvalidPaper_TowerError (emT_cons T.em_InvalidPlait_TowerError (emT_cons T.em_InvalidPlane_TowerError (emT_cons T.em_InvalidPoint_TowerError (emT_cons T.em_InvalidPrime_TowerError (emT_cons T.em_InvalidRow_TowerError (emT_cons T.em_InvalidTable_TowerError (emT_cons T.em_InvalidTree_TowerError (emT_cons T.em_InvalidWeights_TowerError (emT_cons T.em_InvalidWord_TowerError emT_nil))))))))))))) rfl rfl wk.ok (fun B' pn xe dw2 hp wk => (lss_one (ls_expr (le_callC cc__law_raise_first hr (by decide) wk (by rfl) (la_cons (le_pv (pv 0)) la_nil))))) (Hds3.cons T.k_TowerError (by rfl) (by decide) (fun a oe x cls d pn B' hz hf hx => (lss_one (ls_ret le_bl))) Hds3.nil))),
    fun ds G q h => p__law_is_first ds G q dw h⟩
theorem ok__law_kept_first (T : Txt P K mg) (d__law_kept_first : DefAt K mg "_law_kept_first" s__law_kept_first) (cc__law_raise_kept : Cal3 P w K mg base "_law_raise_kept" 2 ["_law_number", "_law_value"] (spC r__law_raise_kept)) : Cal3 P w K mg base "_law_kept_first" 3 ["_law_number"] sp__law_kept_first :=
  cal3 d__law_kept_first (fun _ _ _ _ _ _ us hl => match us, hl with | [_], _ => rfl) sc__law_kept_first len__law_kept_first fun f cdv A outer s H E B dw hr wk => ⟨t__law_kept_first dw,
    (lss_one (ls_try (em := [((("InvalidCount" : Str), ("TowerError" : Str)), false), ((("InvalidCount" : Str), ("Refused" : Str)), false), ((("InvalidCount" : Str), ("TooMany" : Str)), false), ((("InvalidCount" : Str), ("NothingToUndo" : Str)), false), ((("InvalidCount" : Str), ("UnknownName" : Str)), false), ((("InvalidCount" : Str), ("InvalidCount" : Str)), true), ((("NothingToUndo" : Str), ("TowerError" : Str)), false), ((("NothingToUndo" : Str), ("Refused" : Str)), false), ((("NothingToUndo" : Str), ("TooMany" : Str)), false), ((("NothingToUndo" : Str), ("NothingToUndo" : Str)), true), ((("NothingToUndo" : Str), ("UnknownName" : Str)), false), ((("NothingToUndo" : Str), ("InvalidCount" : Str)), false), ((("ParseError" : Str), ("TowerError" : Str)), true), ((("ParseError" : Str), ("Refused" : Str)), false), ((("ParseError" : Str), ("TooMany" : Str)), false), ((("ParseError" : Str), ("NothingToUndo" : Str)), false), ((("ParseError" : Str), ("UnknownName" : Str)), false), ((("ParseError" : Str), ("InvalidCount" : Str)), false), ((("Refused" : Str), ("TowerError" : Str)), false), ((("Refused" : Str), ("Refused" : Str)), true), ((("Refused" : Str), ("TooMany" : Str)), false), ((("Refused" : Str), ("NothingToUndo" : Str)), false), ((("Refused" : Str), ("UnknownName" : Str)), false), ((("Refused" : Str), ("InvalidCount" : Str)), false), ((("TooMany" : Str), ("TowerError" : Str)), false), ((("TooMany" : Str), ("Refused" : Str)), false), ((("TooMany" : Str), ("TooMany" : Str)), true), ((("TooMany" : Str), ("NothingToUndo" : Str)), false), ((("TooMany" : Str), ("UnknownName" : Str)), false), ((("TooMany" : Str), ("InvalidCount" : Str)), false), ((("UnknownName" : Str), ("TowerError" : Str)), false), ((("UnknownName" : Str), ("Refused" : Str)), false), ((("UnknownName" : Str), ("TooMany" : Str)), false), ((("UnknownName" : Str), ("NothingToUndo" : Str)), false), ((("UnknownName" : Str), ("UnknownName" : Str)), true), ((("UnknownName" : Str), ("InvalidCount" : Str)), false)]) (emT_cons T.em_InvalidCount_TowerError (emT_cons T.em_InvalidCount_Refused (emT_cons T.em_InvalidCount_TooMany (emT_cons T.em_InvalidCount_NothingToUndo (emT_cons T.em_InvalidCount_UnknownName (emT_cons T.em_InvalidCount_InvalidCount (emT_cons T.em_NothingToUndo_TowerError (emT_cons T.em_NothingToUndo_Refused (emT_cons T.em_NothingToUndo_TooMany (emT_cons T.em_NothingToUndo_NothingToUndo (emT_cons T.em_NothingToUndo_UnknownName (emT_cons T.em_NothingToUndo_InvalidCount (emT_cons T.em_ParseError_TowerError (emT_cons T.em_ParseError_Refused (emT_cons T.em_ParseError_TooMany (emT_cons T.em_ParseError_NothingToUndo (emT_cons T.em_ParseError_UnknownName (emT_cons T.em_ParseError_InvalidCount (emT_cons T.em_Refused_TowerError (emT_cons T.em_Refused_Refused (emT_cons T.em_Refused_TooMany (emT_cons T.em_Refused_NothingToUndo (emT_cons T.em_Refused_UnknownName (emT_cons T.em_Refused_InvalidCount (emT_cons T.em_TooMany_TowerError (emT_cons T.em_TooMany_Refused (emT_cons T.em_TooMany_TooMany (emT_cons T.em_TooMany_NothingToUndo (emT_cons T.em_TooMany_UnknownName (emT_cons T.em_TooMany_InvalidCount (emT_cons T.em_UnknownName_TowerError (emT_cons T.em_UnknownName_Refused (emT_cons T.em_UnknownName_TooMany (emT_cons T.em_UnknownName_NothingToUndo (emT_cons T.em_UnknownName_UnknownName (emT_cons T.em_UnknownName_InvalidCount emT_nil)))))))))))))))))))))))))))))))))))) rfl rfl wk.ok (fun B' pn xe dw2 hp wk => (lss_one (ls_expr (le_callC cc__law_raise_kept hr (by decide) wk (by rfl) (la_cons (le_pv (pv 0)) (la_cons le_int la_nil)))))) (Hds3.cons T.k_TowerError (by rfl) (by decide) (fun a oe x cls d pn B' hz hf hx => (lss_one (ls_ret le_bl))) (Hds3.cons T.k_Refused (by rfl) (by decide) (fun a oe x cls d pn B' hz hf hx => (lss_one (ls_ret le_bl))) (Hds3.cons T.k_TooMany (by rfl) (by decide) (fun a oe x cls d pn B' hz hf hx => (lss_one (ls_ret le_bl))) (Hds3.cons T.k_NothingToUndo (by rfl) (by decide) (fun a oe x cls d pn B' hz hf hx => (lss_one (ls_ret le_bl))) (Hds3.cons T.k_UnknownName (by rfl) (by decide) (fun a oe x cls d pn B' hz hf hx => (lss_one (ls_ret le_bl))) (Hds3.cons T.k_InvalidCount (by rfl) (by decide) (fun a oe x cls d pn B' hz hf hx => (lss_one (ls_ret le_bl))) Hds3.nil)))))))),
    fun ds G q h => p__law_kept_first ds G q dw h⟩
theorem ok__law_right {cd__law_right : Addr} (T : Txt P K mg) (d__law_right : DefAtC K mg "_law_right" s__law_right cd__law_right) (c__law_pick : Cal3 P w K mg base "_law_pick" 3 ["_law_dice_here", "_law_items"] sp__law_pick) (c__law_kept : Cal3 P w K mg base "_law_kept" 3 ["_law_number", "_law_value"] sp__law_kept) : CalG P w K mg base "_law_right" 4 ["_law_dice_here"] sp__law_right :=
  calG d__law_right (fun _ _ _ _ _ _ us hl => match us, hl with | [_], _ => rfl) sc__law_right len__law_right fun f A outer s H E B dw hgd hr wk => ⟨t__law_right dw,
    (lss_cons (ls_set (i := 1) sc__law_right.nd rfl (by first | exact Or.inl rfl | exact Or.inr rfl) (le_callC c__law_pick hr (by decide) wk.ok (by rfl) (la_cons (le_pv (pv 0)) (la_cons (le_lst (la_cons le_non (la_cons le_int (la_cons (le_neg le_int) (la_cons (le_mul (le_pow le_int le_int) le_int) (la_cons le_bl (la_cons le_str (la_cons le_str (la_cons (le_tup (la_cons le_int (la_cons le_str la_nil))) (la_cons (le_lst la_nil) (la_cons le_dict0 (la_cons (le_tup (la_cons le_str (la_cons le_str (la_cons le_str (la_cons le_int la_nil))))) la_nil)))))))))))) la_nil))))
      (lss_cons (ls_for (vs := [2]) (passes_of rfl) rfl (li_range1 (by rfl) T.n_range (la_cons le_int la_nil)) (lg_name (i := 2) sc__law_right.nd rfl (by first | exact Or.inl rfl | exact Or.inr rfl) (by decide)) (lss_cons (ls_set (i := 3) sc__law_right.nd rfl (by first | exact Or.inl rfl | exact Or.inr rfl) (le_callC c__law_kept hr (by decide) wk.ok (by rfl) (la_cons (le_pv (pv 2)) (la_cons (le_pv (pv 1)) la_nil))))
      (lss_one (ls_if (LW.lt (lw_or (lt_ne hr (le_item (le_pv (pv 3)) le_int) (le_pv (pv 2))) (lw_or1 (lt_ne hr (le_reprG hgd hr (by rfl) T.n_repr (lp_cons (le_item (le_pv (pv 3)) le_int) lp_nil)) (le_reprG hgd hr (by rfl) T.n_repr (lp_cons (le_pv (pv 1)) lp_nil)))))) (lss_one (ls_ret le_bl)) lss_nil))))
      (lss_one (ls_ret le_bl)))),
    fun ds G q h => p__law_right ds G q dw h⟩
theorem ok_law {cd_law : Addr} (T : Txt P K mg) (d_law : DefAtC K mg "law" s_law cd_law) (c__law_right : CalG P w K mg base "_law_right" 4 ["_law_dice_here"] sp__law_right) (c__law_dice : Cal3 P w K mg base "_law_dice" 2 ["_law_script", "_law_spot"] sp__law_dice) (c__law_caught_back : Cal3 P w K mg base "_law_caught_back" 3 ["_law_number"] sp__law_caught_back) (c__law_caught : Cal3 P w K mg base "_law_caught" 3 ["_law_number"] sp__law_caught) (c__law_is_first : Cal3 P w K mg base "_law_is_first" 3 ["_law_number"] sp__law_is_first) (c__law_kept_first : Cal3 P w K mg base "_law_kept_first" 3 ["_law_number"] sp__law_kept_first) : CalG P w K mg base "law" 5 ["_law_script"] sp_law :=
  calG d_law (fun _ _ _ _ _ _ us hl => match us, hl with | [_], _ => rfl) sc_law len_law fun f A outer s H E B dw hgd hr wk => ⟨t_law dw,
    (lss_cons (ls_for (vs := [1]) (passes_of rfl) rfl (li_range1 (by rfl) T.n_range (la_cons (le_max2 rfl (by rfl) T.n_max (lp_cons le_int (lp_cons (le_min2 rfl (by rfl) T.n_min (lp_cons le_int (lp_cons (le_len (by rfl) T.n_len (lp_cons (le_pv (pv 0)) lp_nil)) lp_nil))) lp_nil))) la_nil)) (lg_name (i := 1) sc_law.nd rfl (by first | exact Or.inl rfl | exact Or.inr rfl) (by decide)) (lss_one (ls_if (lt_not (lt_val (le_callG c__law_right hgd hr (by decide) wk.ok (by rfl) (la_cons (le_fresh (le_callC c__law_dice hr (by decide) wk.ok (by rfl) (la_cons (le_pv (pv 0)) (la_cons (le_pv (pv 1)) la_nil)))) la_nil)))) (lss_one (ls_ret le_bl)) lss_nil)))
      (lss_cons (ls_for (vs := [2]) (passes_of rfl) rfl (li_range1 (by rfl) T.n_range (la_cons le_int la_nil)) (lg_name (i := 2) sc_law.nd rfl (by first | exact Or.inl rfl | exact Or.inr rfl) (by decide)) (lss_one (ls_if (LW.lt (lw_or (lt_ne hr (le_lst (la_cons (le_callC c__law_caught hr (by decide) wk.ok (by rfl) (la_cons (le_pv (pv 2)) la_nil)) (la_cons (le_callC c__law_caught_back hr (by decide) wk.ok (by rfl) (la_cons (le_pv (pv 2)) la_nil)) la_nil))) (le_lst (la_cons (le_pv (pv 2)) (la_cons (le_pv (pv 2)) la_nil)))) (lw_or1 (lt_not (lt_val (le_callC c__law_is_first hr (by decide) wk.ok (by rfl) (la_cons (le_pv (pv 2)) la_nil))))))) (lss_one (ls_ret le_bl)) lss_nil)))
      (lss_one (ls_ret (le_eq hr (le_lc (own := [("_law_number", 2)]) rfl sc_law.nd (li_range1 (by rfl) T.n_range (la_cons le_int la_nil)) (blkOk_by (N := N_law) (sc := defScope s_law) (by decide +kernel)) (fun _ _ _ _ _ => (lg_name (i := 2) sc_law.nd rfl (by first | exact Or.inl rfl | exact Or.inr rfl) (by decide))) (fun _ _ _ _ _ => lts_nil) (fun _ _ _ _ _ => (le_callC c__law_kept_first hr (by decide) wok0 (by rfl) (la_cons (le_pv (pv 2)) la_nil)))) (le_add (le_lst (la_cons le_bl la_nil)) (le_mul (le_lst (la_cons le_bl la_nil)) le_int))))))),
    fun ds G q h => p_law ds G q dw h⟩
theorem all_law {cd__law_right : Addr} {cd_law : Addr} (T : Txt P K mg) (d__law_dice : DefAt K mg "_law_dice" s__law_dice) (d__law_roll : DefAt K mg "_law_roll" s__law_roll) (d__law_raise_first : DefAt K mg "_law_raise_first" s__law_raise_first) (d__law_raise_kept : DefAt K mg "_law_raise_kept" s__law_raise_kept) (d__law_pick : DefAt K mg "_law_pick" s__law_pick) (d__law_caught : DefAt K mg "_law_caught" s__law_caught) (d__law_caught_back : DefAt K mg "_law_caught_back" s__law_caught_back) (d__law_kept : DefAt K mg "_law_kept" s__law_kept) (d__law_is_first : DefAt K mg "_law_is_first" s__law_is_first) (d__law_kept_first : DefAt K mg "_law_kept_first" s__law_kept_first) (d__law_right : DefAtC K mg "_law_right" s__law_right cd__law_right) (d_law : DefAtC K mg "law" s_law cd_law) : CalG P w K mg base "law" 5 ["_law_script"] sp_law := by
  have cc__law_raise_first : Cal3 P w K mg base "_law_raise_first" 2 ["_law_number"] (spC r__law_raise_first) := okc__law_raise_first T d__law_raise_first 
  have cc__law_raise_kept : Cal3 P w K mg base "_law_raise_kept" 2 ["_law_number", "_law_value"] (spC r__law_raise_kept) := okc__law_raise_kept T d__law_raise_kept 
  have c__law_dice : Cal3 P w K mg base "_law_dice" 2 ["_law_script", "_law_spot"] sp__law_dice := ok__law_dice T d__law_dice 
  have c__law_roll : Cal3 P w K mg base "_law_roll" 2 ["_law_dice_here", "_law_total"] sp__law_roll := ok__law_roll T d__law_roll 
  have c__law_pick : Cal3 P w K mg base "_law_pick" 3 ["_law_dice_here", "_law_items"] sp__law_pick := ok__law_pick T d__law_pick c__law_roll
  have c__law_caught : Cal3 P w K mg base "_law_caught" 3 ["_law_number"] sp__law_caught := ok__law_caught T d__law_caught cc__law_raise_first
  have c__law_caught_back : Cal3 P w K mg base "_law_caught_back" 3 ["_law_number"] sp__law_caught_back := ok__law_caught_back T d__law_caught_back cc__law_raise_first
  have c__law_kept : Cal3 P w K mg base "_law_kept" 3 ["_law_number", "_law_value"] sp__law_kept := ok__law_kept T d__law_kept cc__law_raise_kept
  have c__law_is_first : Cal3 P w K mg base "_law_is_first" 3 ["_law_number"] sp__law_is_first := ok__law_is_first T d__law_is_first cc__law_raise_first
  have c__law_kept_first : Cal3 P w K mg base "_law_kept_first" 3 ["_law_number"] sp__law_kept_first := ok__law_kept_first T d__law_kept_first cc__law_raise_kept
  have c__law_right : CalG P w K mg base "_law_right" 4 ["_law_dice_here"] sp__law_right := ok__law_right T d__law_right c__law_pick c__law_kept
  have c_law : CalG P w K mg base "law" 5 ["_law_script"] sp_law := ok_law T d_law c__law_right c__law_dice c__law_caught_back c__law_caught c__law_is_first c__law_kept_first
  exact c_law
end
end K01

set_option Elab.async false
namespace K01
open PySem PySem.Spec PyProof.Rows L2 L3 LamX LD
theorem all_mk {l : PySem.W.OpenLaw} {q P : Program} (hP : l.prog = P) {w : World} {K : PySem.W.Frag} {h : Heap} {mg : Str → Option Value} {fa : Addr} (X : K.In h) (G : h.Ns mainGlobals mg) (hfa : mg "law" = some (.ref fa))
    (n_abs : PySem.W.nsIn K mainGlobals "abs" = some none)
    (n_int : PySem.W.nsIn K mainGlobals "int" = some none)
    (n_len : PySem.W.nsIn K mainGlobals "len" = some none)
    (n_max : PySem.W.nsIn K mainGlobals "max" = some none)
    (n_min : PySem.W.nsIn K mainGlobals "min" = some none)
    (n_range : PySem.W.nsIn K mainGlobals "range" = some none)
    (n_repr : PySem.W.nsIn K mainGlobals "repr" = some none)
    {C_InvalidCount : Addr} (a_InvalidCount : PySem.W.nsIn K mainGlobals "InvalidCount" = some (some (.ref C_InvalidCount)))
    {C_InvalidCurve : Addr} (a_InvalidCurve : PySem.W.nsIn K mainGlobals "InvalidCurve" = some (some (.ref C_InvalidCurve)))
    {C_InvalidOperation : Addr} (a_InvalidOperation : PySem.W.nsIn K mainGlobals "InvalidOperation" = some (some (.ref C_InvalidOperation)))
    {C_InvalidOrders : Addr} (a_InvalidOrders : PySem.W.nsIn K mainGlobals "InvalidOrders" = some (some (.ref C_InvalidOrders)))
    {C_InvalidPaper : Addr} (a_InvalidPaper : PySem.W.nsIn K mainGlobals "InvalidPaper" = some (some (.ref C_InvalidPaper)))
    {C_InvalidPlait : Addr} (a_InvalidPlait : PySem.W.nsIn K mainGlobals "InvalidPlait" = some (some (.ref C_InvalidPlait)))
    {C_InvalidPlane : Addr} (a_InvalidPlane : PySem.W.nsIn K mainGlobals "InvalidPlane" = some (some (.ref C_InvalidPlane)))
    {C_InvalidPoint : Addr} (a_InvalidPoint : PySem.W.nsIn K mainGlobals "InvalidPoint" = some (some (.ref C_InvalidPoint)))
    {C_InvalidPrime : Addr} (a_InvalidPrime : PySem.W.nsIn K mainGlobals "InvalidPrime" = some (some (.ref C_InvalidPrime)))
    {C_InvalidRow : Addr} (a_InvalidRow : PySem.W.nsIn K mainGlobals "InvalidRow" = some (some (.ref C_InvalidRow)))
    {C_InvalidTable : Addr} (a_InvalidTable : PySem.W.nsIn K mainGlobals "InvalidTable" = some (some (.ref C_InvalidTable)))
    {C_InvalidTree : Addr} (a_InvalidTree : PySem.W.nsIn K mainGlobals "InvalidTree" = some (some (.ref C_InvalidTree)))
    {C_InvalidWeights : Addr} (a_InvalidWeights : PySem.W.nsIn K mainGlobals "InvalidWeights" = some (some (.ref C_InvalidWeights)))
    {C_InvalidWord : Addr} (a_InvalidWord : PySem.W.nsIn K mainGlobals "InvalidWord" = some (some (.ref C_InvalidWord)))
    {C_NothingToUndo : Addr} (a_NothingToUndo : PySem.W.nsIn K mainGlobals "NothingToUndo" = some (some (.ref C_NothingToUndo)))
    {C_ParseError : Addr} (a_ParseError : PySem.W.nsIn K mainGlobals "ParseError" = some (some (.ref C_ParseError)))
    {C_Refused : Addr} (a_Refused : PySem.W.nsIn K mainGlobals "Refused" = some (some (.ref C_Refused)))
    {C_TooMany : Addr} (a_TooMany : PySem.W.nsIn K mainGlobals "TooMany" = some (some (.ref C_TooMany)))
    {C_TowerError : Addr} (a_TowerError : PySem.W.nsIn K mainGlobals "TowerError" = some (some (.ref C_TowerError)))
    {C_UnknownName : Addr} (a_UnknownName : PySem.W.nsIn K mainGlobals "UnknownName" = some (some (.ref C_UnknownName)))
    (xe_InvalidCurve : PySem.W.excIn K C_InvalidCurve [.type "ValueError", .type "Exception", .type "BaseException", .type "object"] "ValueError.__new__" = true) (xk_InvalidCurve : PySem.W.keepIn K (.ref C_InvalidCurve) = true) (xs_InvalidCurve : PySem.W.subIn K (.ref C_InvalidCurve) (.type "BaseException") = some true) (xt_InvalidCurve : PySem.W.typeIn K (.ref C_InvalidCurve) = some (.type "type"))
    (xe_InvalidOperation : PySem.W.excIn K C_InvalidOperation [.type "ValueError", .type "Exception", .type "BaseException", .type "object"] "ValueError.__new__" = true) (xk_InvalidOperation : PySem.W.keepIn K (.ref C_InvalidOperation) = true) (xs_InvalidOperation : PySem.W.subIn K (.ref C_InvalidOperation) (.type "BaseException") = some true) (xt_InvalidOperation : PySem.W.typeIn K (.ref C_InvalidOperation) = some (.type "type"))
    (xe_InvalidOrders : PySem.W.excIn K C_InvalidOrders [.type "ValueError", .type "Exception", .type "BaseException", .type "object"] "ValueError.__new__" = true) (xk_InvalidOrders : PySem.W.keepIn K (.ref C_InvalidOrders) = true) (xs_InvalidOrders : PySem.W.subIn K (.ref C_InvalidOrders) (.type "BaseException") = some true) (xt_InvalidOrders : PySem.W.typeIn K (.ref C_InvalidOrders) = some (.type "type"))
    (xe_InvalidPaper : PySem.W.excIn K C_InvalidPaper [.type "ValueError", .type "Exception", .type "BaseException", .type "object"] "ValueError.__new__" = true) (xk_InvalidPaper : PySem.W.keepIn K (.ref C_InvalidPaper) = true) (xs_InvalidPaper : PySem.W.subIn K (.ref C_InvalidPaper) (.type "BaseException") = some true) (xt_InvalidPaper : PySem.W.typeIn K (.ref C_InvalidPaper) = some (.type "type"))
    (xe_InvalidPlait : PySem.W.excIn K C_InvalidPlait [.type "ValueError", .type "Exception", .type "BaseException", .type "object"] "ValueError.__new__" = true) (xk_InvalidPlait : PySem.W.keepIn K (.ref C_InvalidPlait) = true) (xs_InvalidPlait : PySem.W.subIn K (.ref C_InvalidPlait) (.type "BaseException") = some true) (xt_InvalidPlait : PySem.W.typeIn K (.ref C_InvalidPlait) = some (.type "type"))
    (xe_InvalidPlane : PySem.W.excIn K C_InvalidPlane [.type "ValueError", .type "Exception", .type "BaseException", .type "object"] "ValueError.__new__" = true) (xk_InvalidPlane : PySem.W.keepIn K (.ref C_InvalidPlane) = true) (xs_InvalidPlane : PySem.W.subIn K (.ref C_InvalidPlane) (.type "BaseException") = some true) (xt_InvalidPlane : PySem.W.typeIn K (.ref C_InvalidPlane) = some (.type "type"))
    (xe_InvalidPoint : PySem.W.excIn K C_InvalidPoint [.type "ValueError", .type "Exception", .type "BaseException", .type "object"] "ValueError.__new__" = true) (xk_InvalidPoint : PySem.W.keepIn K (.ref C_InvalidPoint) = true) (xs_InvalidPoint : PySem.W.subIn K (.ref C_InvalidPoint) (.type "BaseException") = some true) (xt_InvalidPoint : PySem.W.typeIn K (.ref C_InvalidPoint) = some (.type "type"))
    (xe_InvalidPrime : PySem.W.excIn K C_InvalidPrime [.type "ValueError", .type "Exception", .type "BaseException", .type "object"] "ValueError.__new__" = true) (xk_InvalidPrime : PySem.W.keepIn K (.ref C_InvalidPrime) = true) (xs_InvalidPrime : PySem.W.subIn K (.ref C_InvalidPrime) (.type "BaseException") = some true) (xt_InvalidPrime : PySem.W.typeIn K (.ref C_InvalidPrime) = some (.type "type"))
    (xe_InvalidRow : PySem.W.excIn K C_InvalidRow [.type "ValueError", .type "Exception", .type "BaseException", .type "object"] "ValueError.__new__" = true) (xk_InvalidRow : PySem.W.keepIn K (.ref C_InvalidRow) = true) (xs_InvalidRow : PySem.W.subIn K (.ref C_InvalidRow) (.type "BaseException") = some true) (xt_InvalidRow : PySem.W.typeIn K (.ref C_InvalidRow) = some (.type "type"))
    (xe_InvalidTable : PySem.W.excIn K C_InvalidTable [.type "ValueError", .type "Exception", .type "BaseException", .type "object"] "ValueError.__new__" = true) (xk_InvalidTable : PySem.W.keepIn K (.ref C_InvalidTable) = true) (xs_InvalidTable : PySem.W.subIn K (.ref C_InvalidTable) (.type "BaseException") = some true) (xt_InvalidTable : PySem.W.typeIn K (.ref C_InvalidTable) = some (.type "type"))
    (xe_InvalidTree : PySem.W.excIn K C_InvalidTree [.type "ValueError", .type "Exception", .type "BaseException", .type "object"] "ValueError.__new__" = true) (xk_InvalidTree : PySem.W.keepIn K (.ref C_InvalidTree) = true) (xs_InvalidTree : PySem.W.subIn K (.ref C_InvalidTree) (.type "BaseException") = some true) (xt_InvalidTree : PySem.W.typeIn K (.ref C_InvalidTree) = some (.type "type"))
    (xe_InvalidWeights : PySem.W.excIn K C_InvalidWeights [.type "ValueError", .type "Exception", .type "BaseException", .type "object"] "ValueError.__new__" = true) (xk_InvalidWeights : PySem.W.keepIn K (.ref C_InvalidWeights) = true) (xs_InvalidWeights : PySem.W.subIn K (.ref C_InvalidWeights) (.type "BaseException") = some true) (xt_InvalidWeights : PySem.W.typeIn K (.ref C_InvalidWeights) = some (.type "type"))
    (xe_InvalidWord : PySem.W.excIn K C_InvalidWord [.type "ValueError", .type "Exception", .type "BaseException", .type "object"] "ValueError.__new__" = true) (xk_InvalidWord : PySem.W.keepIn K (.ref C_InvalidWord) = true) (xs_InvalidWord : PySem.W.subIn K (.ref C_InvalidWord) (.type "BaseException") = some true) (xt_InvalidWord : PySem.W.typeIn K (.ref C_InvalidWord) = some (.type "type"))
    (n_super : PySem.W.nsIn K mainGlobals "super" = some none) (opq : PySem.W.nsIn K cStatics "thirdparty.any" = some none)
    {fI_InvalidCount cda_InvalidCount cc_InvalidCount : Addr} {soc_InvalidCount sdoc_InvalidCount spm_InvalidCount sct_InvalidCount : Value} {sod_InvalidCount san_InvalidCount : Option Addr} {sosl_InvalidCount : Array (Option Value)} {spa_InvalidCount : Arguments} {ssc_InvalidCount : Scope} {sm_InvalidCount ss_InvalidCount sv_InvalidCount : Str} {sj_InvalidCount : Nat} {p0_InvalidCount p1_InvalidCount p2_InvalidCount p3_InvalidCount p4_InvalidCount p5_InvalidCount q1_InvalidCount q2_InvalidCount q3_InvalidCount q4_InvalidCount : Pos} {cl_InvalidCount ccl_InvalidCount : Value} {cld_InvalidCount cdd_InvalidCount : Option Addr} {csl_InvalidCount ccs_InvalidCount : Array (Option Value)} {fvs_InvalidCount : Array Value} {file_InvalidCount : Str} {tf_InvalidCount : Tok} (y1_InvalidCount : PySem.W.excInitIn K C_InvalidCount [.type "IndexError", .type "LookupError", .type "Exception", .type "BaseException", .type "object"] "IndexError.__new__" = true) (y2_InvalidCount : PySem.W.hasDictIn K C_InvalidCount = true) (y3_InvalidCount : PySem.W.excOver K C_InvalidCount [.type "IndexError", .type "LookupError", .type "Exception", .type "BaseException", .type "object"] = true) (y4_InvalidCount : PySem.W.findIn K (.ref C_InvalidCount) "__setattr__" = some (some (.builtin "object.__setattr__"))) (y5_InvalidCount : PySem.W.findIn K (.ref C_InvalidCount) "value" = some none) (y6_InvalidCount : PySem.W.takerIn K C_InvalidCount "value" = some none) (y7_InvalidCount : PySem.W.findIn K (.ref C_InvalidCount) "__init__" = some (some (.ref fI_InvalidCount))) (y8_InvalidCount : PySem.W.typeIn K (.ref fI_InvalidCount) = some (.type "function")) (y9_InvalidCount : PySem.W.keepIn K (.ref C_InvalidCount) = true) (y10_InvalidCount : PySem.W.subIn K (.ref C_InvalidCount) (.type "BaseException") = some true) (y11_InvalidCount : PySem.W.typeIn K (.ref C_InvalidCount) = some (.type "type")) (y12_InvalidCount : PySem.W.ks_superIn K C_InvalidCount C_InvalidCount "__init__" = some (some (.builtin "IndexError.__init__"))) (y13_InvalidCount : PySem.W.subIn K (.ref C_InvalidCount) (.type "IndexError") = some true) (y14_InvalidCount : PySem.W.mroIn K C_InvalidCount (.ref C_InvalidCount) = some true) (y15_InvalidCount : K.lookup fI_InvalidCount = some ⟨soc_InvalidCount, sod_InvalidCount, .func (PySem.W.ksFn "__init__" "InvalidCount.__init__" spa_InvalidCount (XS.supBody sm_InvalidCount ss_InvalidCount sv_InvalidCount "value" sj_InvalidCount p0_InvalidCount p1_InvalidCount p2_InvalidCount p3_InvalidCount p4_InvalidCount p5_InvalidCount q1_InvalidCount q2_InvalidCount q3_InvalidCount q4_InvalidCount) ssc_InvalidCount .none .none sdoc_InvalidCount spm_InvalidCount san_InvalidCount (.ref cda_InvalidCount) sct_InvalidCount cc_InvalidCount), sosl_InvalidCount⟩) (y16_InvalidCount : PySem.W.codeIn K (.ref cda_InvalidCount) "InvalidCount.__init__" = true) (y17_InvalidCount : K.lookup cc_InvalidCount = some ⟨cl_InvalidCount, cld_InvalidCount, .cell (some (.ref C_InvalidCount)), csl_InvalidCount⟩) (y18_InvalidCount : K.lookup cda_InvalidCount = some ⟨ccl_InvalidCount, cdd_InvalidCount, .fields fvs_InvalidCount, ccs_InvalidCount⟩) (y19_InvalidCount : (fvs_InvalidCount[2]? : Option Value) = some (.str file_InvalidCount tf_InvalidCount)) (y20_InvalidCount : XS.SupRest P "InvalidCount.__init__" ss_InvalidCount sv_InvalidCount sm_InvalidCount spa_InvalidCount ssc_InvalidCount "value" sj_InvalidCount p0_InvalidCount p1_InvalidCount p2_InvalidCount p3_InvalidCount p4_InvalidCount p5_InvalidCount q1_InvalidCount q2_InvalidCount q3_InvalidCount q4_InvalidCount cda_InvalidCount cc_InvalidCount sdoc_InvalidCount spm_InvalidCount sct_InvalidCount san_InvalidCount file_InvalidCount)
    {fI_NothingToUndo cda_NothingToUndo cc_NothingToUndo : Addr} {soc_NothingToUndo sdoc_NothingToUndo spm_NothingToUndo sct_NothingToUndo : Value} {sod_NothingToUndo san_NothingToUndo : Option Addr} {sosl_NothingToUndo : Array (Option Value)} {spa_NothingToUndo : Arguments} {ssc_NothingToUndo : Scope} {sm_NothingToUndo ss_NothingToUndo sv_NothingToUndo : Str} {sj_NothingToUndo : Nat} {p0_NothingToUndo p1_NothingToUndo p2_NothingToUndo p3_NothingToUndo p4_NothingToUndo p5_NothingToUndo q1_NothingToUndo q2_NothingToUndo q3_NothingToUndo q4_NothingToUndo : Pos} {cl_NothingToUndo ccl_NothingToUndo : Value} {cld_NothingToUndo cdd_NothingToUndo : Option Addr} {csl_NothingToUndo ccs_NothingToUndo : Array (Option Value)} {fvs_NothingToUndo : Array Value} {file_NothingToUndo : Str} {tf_NothingToUndo : Tok} (y1_NothingToUndo : PySem.W.excInitIn K C_NothingToUndo [.type "RuntimeError", .type "Exception", .type "BaseException", .type "object"] "RuntimeError.__new__" = true) (y2_NothingToUndo : PySem.W.hasDictIn K C_NothingToUndo = true) (y3_NothingToUndo : PySem.W.excOver K C_NothingToUndo [.type "RuntimeError", .type "Exception", .type "BaseException", .type "object"] = true) (y4_NothingToUndo : PySem.W.findIn K (.ref C_NothingToUndo) "__setattr__" = some (some (.builtin "object.__setattr__"))) (y5_NothingToUndo : PySem.W.findIn K (.ref C_NothingToUndo) "wanted" = some none) (y6_NothingToUndo : PySem.W.takerIn K C_NothingToUndo "wanted" = some none) (y7_NothingToUndo : PySem.W.findIn K (.ref C_NothingToUndo) "__init__" = some (some (.ref fI_NothingToUndo))) (y8_NothingToUndo : PySem.W.typeIn K (.ref fI_NothingToUndo) = some (.type "function")) (y9_NothingToUndo : PySem.W.keepIn K (.ref C_NothingToUndo) = true) (y10_NothingToUndo : PySem.W.subIn K (.ref C_NothingToUndo) (.type "BaseException") = some true) (y11_NothingToUndo : PySem.W.typeIn K (.ref C_NothingToUndo) = some (.type "type")) (y12_NothingToUndo : PySem.W.ks_superIn K C_NothingToUndo C_NothingToUndo "__init__" = some (some (.builtin "RuntimeError.__init__"))) (y13_NothingToUndo : PySem.W.subIn K (.ref C_NothingToUndo) (.type "RuntimeError") = some true) (y14_NothingToUndo : PySem.W.mroIn K C_NothingToUndo (.ref C_NothingToUndo) = some true) (y15_NothingToUndo : K.lookup fI_NothingToUndo = some ⟨soc_NothingToUndo, sod_NothingToUndo, .func (PySem.W.ksFn "__init__" "NothingToUndo.__init__" spa_NothingToUndo (XS.supBody sm_NothingToUndo ss_NothingToUndo sv_NothingToUndo "wanted" sj_NothingToUndo p0_NothingToUndo p1_NothingToUndo p2_NothingToUndo p3_NothingToUndo p4_NothingToUndo p5_NothingToUndo q1_NothingToUndo q2_NothingToUndo q3_NothingToUndo q4_NothingToUndo) ssc_NothingToUndo .none .none sdoc_NothingToUndo spm_NothingToUndo san_NothingToUndo (.ref cda_NothingToUndo) sct_NothingToUndo cc_NothingToUndo), sosl_NothingToUndo⟩) (y16_NothingToUndo : PySem.W.codeIn K (.ref cda_NothingToUndo) "NothingToUndo.__init__" = true) (y17_NothingToUndo : K.lookup cc_NothingToUndo = some ⟨cl_NothingToUndo, cld_NothingToUndo, .cell (some (.ref C_NothingToUndo)), csl_NothingToUndo⟩) (y18_NothingToUndo : K.lookup cda_NothingToUndo = some ⟨ccl_NothingToUndo, cdd_NothingToUndo, .fields fvs_NothingToUndo, ccs_NothingToUndo⟩) (y19_NothingToUndo : (fvs_NothingToUndo[2]? : Option Value) = some (.str file_NothingToUndo tf_NothingToUndo)) (y20_NothingToUndo : XS.SupRest P "NothingToUndo.__init__" ss_NothingToUndo sv_NothingToUndo sm_NothingToUndo spa_NothingToUndo ssc_NothingToUndo "wanted" sj_NothingToUndo p0_NothingToUndo p1_NothingToUndo p2_NothingToUndo p3_NothingToUndo p4_NothingToUndo p5_NothingToUndo q1_NothingToUndo q2_NothingToUndo q3_NothingToUndo q4_NothingToUndo cda_NothingToUndo cc_NothingToUndo sdoc_NothingToUndo spm_NothingToUndo sct_NothingToUndo san_NothingToUndo file_NothingToUndo)
    {fI_ParseError cda_ParseError cc_ParseError : Addr} {soc_ParseError sdoc_ParseError spm_ParseError sct_ParseError : Value} {sod_ParseError san_ParseError : Option Addr} {sosl_ParseError : Array (Option Value)} {spa_ParseError : Arguments} {ssc_ParseError : Scope} {sm_ParseError ss_ParseError sv_ParseError : Str} {sj_ParseError : Nat} {p0_ParseError p1_ParseError p2_ParseError p3_ParseError p4_ParseError p5_ParseError q1_ParseError q2_ParseError q3_ParseError q4_ParseError : Pos} {cl_ParseError ccl_ParseError : Value} {cld_ParseError cdd_ParseError : Option Addr} {csl_ParseError ccs_ParseError : Array (Option Value)} {fvs_ParseError : Array Value} {file_ParseError : Str} {tf_ParseError : Tok} (y1_ParseError : PySem.W.excInitIn K C_ParseError [.type "ValueError", .type "Exception", .type "BaseException", .type "object"] "ValueError.__new__" = true) (y2_ParseError : PySem.W.hasDictIn K C_ParseError = true) (y3_ParseError : PySem.W.excOver K C_ParseError [.type "ValueError", .type "Exception", .type "BaseException", .type "object"] = true) (y4_ParseError : PySem.W.findIn K (.ref C_ParseError) "__setattr__" = some (some (.builtin "object.__setattr__"))) (y5_ParseError : PySem.W.findIn K (.ref C_ParseError) "index" = some none) (y6_ParseError : PySem.W.takerIn K C_ParseError "index" = some none) (y7_ParseError : PySem.W.findIn K (.ref C_ParseError) "__init__" = some (some (.ref fI_ParseError))) (y8_ParseError : PySem.W.typeIn K (.ref fI_ParseError) = some (.type "function")) (y9_ParseError : PySem.W.keepIn K (.ref C_ParseError) = true) (y10_ParseError : PySem.W.subIn K (.ref C_ParseError) (.type "BaseException") = some true) (y11_ParseError : PySem.W.typeIn K (.ref C_ParseError) = some (.type "type")) (y12_ParseError : PySem.W.ks_superIn K C_ParseError C_ParseError "__init__" = some (some (.builtin "ValueError.__init__"))) (y13_ParseError : PySem.W.subIn K (.ref C_ParseError) (.type "ValueError") = some true) (y14_ParseError : PySem.W.mroIn K C_ParseError (.ref C_ParseError) = some true) (y15_ParseError : K.lookup fI_ParseError = some ⟨soc_ParseError, sod_ParseError, .func (PySem.W.ksFn "__init__" "ParseError.__init__" spa_ParseError (XS.supBody sm_ParseError ss_ParseError sv_ParseError "index" sj_ParseError p0_ParseError p1_ParseError p2_ParseError p3_ParseError p4_ParseError p5_ParseError q1_ParseError q2_ParseError q3_ParseError q4_ParseError) ssc_ParseError .none .none sdoc_ParseError spm_ParseError san_ParseError (.ref cda_ParseError) sct_ParseError cc_ParseError), sosl_ParseError⟩) (y16_ParseError : PySem.W.codeIn K (.ref cda_ParseError) "ParseError.__init__" = true) (y17_ParseError : K.lookup cc_ParseError = some ⟨cl_ParseError, cld_ParseError, .cell (some (.ref C_ParseError)), csl_ParseError⟩) (y18_ParseError : K.lookup cda_ParseError = some ⟨ccl_ParseError, cdd_ParseError, .fields fvs_ParseError, ccs_ParseError⟩) (y19_ParseError : (fvs_ParseError[2]? : Option Value) = some (.str file_ParseError tf_ParseError)) (y20_ParseError : XS.SupRest P "ParseError.__init__" ss_ParseError sv_ParseError sm_ParseError spa_ParseError ssc_ParseError "index" sj_ParseError p0_ParseError p1_ParseError p2_ParseError p3_ParseError p4_ParseError p5_ParseError q1_ParseError q2_ParseError q3_ParseError q4_ParseError cda_ParseError cc_ParseError sdoc_ParseError spm_ParseError sct_ParseError san_ParseError file_ParseError)
    {fI_Refused cda_Refused cc_Refused : Addr} {soc_Refused sdoc_Refused spm_Refused sct_Refused : Value} {sod_Refused san_Refused : Option Addr} {sosl_Refused : Array (Option Value)} {spa_Refused : Arguments} {ssc_Refused : Scope} {sm_Refused ss_Refused sv_Refused : Str} {sj_Refused : Nat} {p0_Refused p1_Refused p2_Refused p3_Refused p4_Refused p5_Refused q1_Refused q2_Refused q3_Refused q4_Refused : Pos} {cl_Refused ccl_Refused : Value} {cld_Refused cdd_Refused : Option Addr} {csl_Refused ccs_Refused : Array (Option Value)} {fvs_Refused : Array Value} {file_Refused : Str} {tf_Refused : Tok} (y1_Refused : PySem.W.excInitIn K C_Refused [.type "ArithmeticError", .type "Exception", .type "BaseException", .type "object"] "ArithmeticError.__new__" = true) (y2_Refused : PySem.W.hasDictIn K C_Refused = true) (y3_Refused : PySem.W.excOver K C_Refused [.type "ArithmeticError", .type "Exception", .type "BaseException", .type "object"] = true) (y4_Refused : PySem.W.findIn K (.ref C_Refused) "__setattr__" = some (some (.builtin "object.__setattr__"))) (y5_Refused : PySem.W.findIn K (.ref C_Refused) "reason" = some none) (y6_Refused : PySem.W.takerIn K C_Refused "reason" = some none) (y7_Refused : PySem.W.findIn K (.ref C_Refused) "__init__" = some (some (.ref fI_Refused))) (y8_Refused : PySem.W.typeIn K (.ref fI_Refused) = some (.type "function")) (y9_Refused : PySem.W.keepIn K (.ref C_Refused) = true) (y10_Refused : PySem.W.subIn K (.ref C_Refused) (.type "BaseException") = some true) (y11_Refused : PySem.W.typeIn K (.ref C_Refused) = some (.type "type")) (y12_Refused : PySem.W.ks_superIn K C_Refused C_Refused "__init__" = some (some (.builtin "ArithmeticError.__init__"))) (y13_Refused : PySem.W.subIn K (.ref C_Refused) (.type "ArithmeticError") = some true) (y14_Refused : PySem.W.mroIn K C_Refused (.ref C_Refused) = some true) (y15_Refused : K.lookup fI_Refused = some ⟨soc_Refused, sod_Refused, .func (PySem.W.ksFn "__init__" "Refused.__init__" spa_Refused (XS.supBody sm_Refused ss_Refused sv_Refused "reason" sj_Refused p0_Refused p1_Refused p2_Refused p3_Refused p4_Refused p5_Refused q1_Refused q2_Refused q3_Refused q4_Refused) ssc_Refused .none .none sdoc_Refused spm_Refused san_Refused (.ref cda_Refused) sct_Refused cc_Refused), sosl_Refused⟩) (y16_Refused : PySem.W.codeIn K (.ref cda_Refused) "Refused.__init__" = true) (y17_Refused : K.lookup cc_Refused = some ⟨cl_Refused, cld_Refused, .cell (some (.ref C_Refused)), csl_Refused⟩) (y18_Refused : K.lookup cda_Refused = some ⟨ccl_Refused, cdd_Refused, .fields fvs_Refused, ccs_Refused⟩) (y19_Refused : (fvs_Refused[2]? : Option Value) = some (.str file_Refused tf_Refused)) (y20_Refused : XS.SupRest P "Refused.__init__" ss_Refused sv_Refused sm_Refused spa_Refused ssc_Refused "reason" sj_Refused p0_Refused p1_Refused p2_Refused p3_Refused p4_Refused p5_Refused q1_Refused q2_Refused q3_Refused q4_Refused cda_Refused cc_Refused sdoc_Refused spm_Refused sct_Refused san_Refused file_Refused)
    {fI_TooMany cda_TooMany cc_TooMany : Addr} {soc_TooMany sdoc_TooMany spm_TooMany sct_TooMany : Value} {sod_TooMany san_TooMany : Option Addr} {sosl_TooMany : Array (Option Value)} {spa_TooMany : Arguments} {ssc_TooMany : Scope} {sm_TooMany ss_TooMany sv_TooMany : Str} {sj_TooMany : Nat} {p0_TooMany p1_TooMany p2_TooMany p3_TooMany p4_TooMany p5_TooMany q1_TooMany q2_TooMany q3_TooMany q4_TooMany : Pos} {cl_TooMany ccl_TooMany : Value} {cld_TooMany cdd_TooMany : Option Addr} {csl_TooMany ccs_TooMany : Array (Option Value)} {fvs_TooMany : Array Value} {file_TooMany : Str} {tf_TooMany : Tok} (y1_TooMany : PySem.W.excInitIn K C_TooMany [.type "OverflowError", .type "ArithmeticError", .type "Exception", .type "BaseException", .type "object"] "OverflowError.__new__" = true) (y2_TooMany : PySem.W.hasDictIn K C_TooMany = true) (y3_TooMany : PySem.W.excOver K C_TooMany [.type "OverflowError", .type "ArithmeticError", .type "Exception", .type "BaseException", .type "object"] = true) (y4_TooMany : PySem.W.findIn K (.ref C_TooMany) "__setattr__" = some (some (.builtin "object.__setattr__"))) (y5_TooMany : PySem.W.findIn K (.ref C_TooMany) "limit" = some none) (y6_TooMany : PySem.W.takerIn K C_TooMany "limit" = some none) (y7_TooMany : PySem.W.findIn K (.ref C_TooMany) "__init__" = some (some (.ref fI_TooMany))) (y8_TooMany : PySem.W.typeIn K (.ref fI_TooMany) = some (.type "function")) (y9_TooMany : PySem.W.keepIn K (.ref C_TooMany) = true) (y10_TooMany : PySem.W.subIn K (.ref C_TooMany) (.type "BaseException") = some true) (y11_TooMany : PySem.W.typeIn K (.ref C_TooMany) = some (.type "type")) (y12_TooMany : PySem.W.ks_superIn K C_TooMany C_TooMany "__init__" = some (some (.builtin "OverflowError.__init__"))) (y13_TooMany : PySem.W.subIn K (.ref C_TooMany) (.type "OverflowError") = some true) (y14_TooMany : PySem.W.mroIn K C_TooMany (.ref C_TooMany) = some true) (y15_TooMany : K.lookup fI_TooMany = some ⟨soc_TooMany, sod_TooMany, .func (PySem.W.ksFn "__init__" "TooMany.__init__" spa_TooMany (XS.supBody sm_TooMany ss_TooMany sv_TooMany "limit" sj_TooMany p0_TooMany p1_TooMany p2_TooMany p3_TooMany p4_TooMany p5_TooMany q1_TooMany q2_TooMany q3_TooMany q4_TooMany) ssc_TooMany .none .none sdoc_TooMany spm_TooMany san_TooMany (.ref cda_TooMany) sct_TooMany cc_TooMany), sosl_TooMany⟩) (y16_TooMany : PySem.W.codeIn K (.ref cda_TooMany) "TooMany.__init__" = true) (y17_TooMany : K.lookup cc_TooMany = some ⟨cl_TooMany, cld_TooMany, .cell (some (.ref C_TooMany)), csl_TooMany⟩) (y18_TooMany : K.lookup cda_TooMany = some ⟨ccl_TooMany, cdd_TooMany, .fields fvs_TooMany, ccs_TooMany⟩) (y19_TooMany : (fvs_TooMany[2]? : Option Value) = some (.str file_TooMany tf_TooMany)) (y20_TooMany : XS.SupRest P "TooMany.__init__" ss_TooMany sv_TooMany sm_TooMany spa_TooMany ssc_TooMany "limit" sj_TooMany p0_TooMany p1_TooMany p2_TooMany p3_TooMany p4_TooMany p5_TooMany q1_TooMany q2_TooMany q3_TooMany q4_TooMany cda_TooMany cc_TooMany sdoc_TooMany spm_TooMany sct_TooMany san_TooMany file_TooMany)
    {fI_UnknownName cda_UnknownName cc_UnknownName : Addr} {soc_UnknownName sdoc_UnknownName spm_UnknownName sct_UnknownName : Value} {sod_UnknownName san_UnknownName : Option Addr} {sosl_UnknownName : Array (Option Value)} {spa_UnknownName : Arguments} {ssc_UnknownName : Scope} {sm_UnknownName ss_UnknownName sv_UnknownName : Str} {sj_UnknownName : Nat} {p0_UnknownName p1_UnknownName p2_UnknownName p3_UnknownName p4_UnknownName p5_UnknownName q1_UnknownName q2_UnknownName q3_UnknownName q4_UnknownName : Pos} {cl_UnknownName ccl_UnknownName : Value} {cld_UnknownName cdd_UnknownName : Option Addr} {csl_UnknownName ccs_UnknownName : Array (Option Value)} {fvs_UnknownName : Array Value} {file_UnknownName : Str} {tf_UnknownName : Tok} (y1_UnknownName : PySem.W.excInitIn K C_UnknownName [.type "KeyError", .type "LookupError", .type "Exception", .type "BaseException", .type "object"] "LookupError.__new__" = true) (y2_UnknownName : PySem.W.hasDictIn K C_UnknownName = true) (y3_UnknownName : PySem.W.excOver K C_UnknownName [.type "KeyError", .type "LookupError", .type "Exception", .type "BaseException", .type "object"] = true) (y4_UnknownName : PySem.W.findIn K (.ref C_UnknownName) "__setattr__" = some (some (.builtin "object.__setattr__"))) (y5_UnknownName : PySem.W.findIn K (.ref C_UnknownName) "name" = some none) (y6_UnknownName : PySem.W.takerIn K C_UnknownName "name" = some none) (y7_UnknownName : PySem.W.findIn K (.ref C_UnknownName) "__init__" = some (some (.ref fI_UnknownName))) (y8_UnknownName : PySem.W.typeIn K (.ref fI_UnknownName) = some (.type "function")) (y9_UnknownName : PySem.W.keepIn K (.ref C_UnknownName) = true) (y10_UnknownName : PySem.W.subIn K (.ref C_UnknownName) (.type "BaseException") = some true) (y11_UnknownName : PySem.W.typeIn K (.ref C_UnknownName) = some (.type "type")) (y12_UnknownName : PySem.W.ks_superIn K C_UnknownName C_UnknownName "__init__" = some (some (.builtin "KeyError.__init__"))) (y13_UnknownName : PySem.W.subIn K (.ref C_UnknownName) (.type "KeyError") = some true) (y14_UnknownName : PySem.W.mroIn K C_UnknownName (.ref C_UnknownName) = some true) (y15_UnknownName : K.lookup fI_UnknownName = some ⟨soc_UnknownName, sod_UnknownName, .func (PySem.W.ksFn "__init__" "UnknownName.__init__" spa_UnknownName (XS.supBody sm_UnknownName ss_UnknownName sv_UnknownName "name" sj_UnknownName p0_UnknownName p1_UnknownName p2_UnknownName p3_UnknownName p4_UnknownName p5_UnknownName q1_UnknownName q2_UnknownName q3_UnknownName q4_UnknownName) ssc_UnknownName .none .none sdoc_UnknownName spm_UnknownName san_UnknownName (.ref cda_UnknownName) sct_UnknownName cc_UnknownName), sosl_UnknownName⟩) (y16_UnknownName : PySem.W.codeIn K (.ref cda_UnknownName) "UnknownName.__init__" = true) (y17_UnknownName : K.lookup cc_UnknownName = some ⟨cl_UnknownName, cld_UnknownName, .cell (some (.ref C_UnknownName)), csl_UnknownName⟩) (y18_UnknownName : K.lookup cda_UnknownName = some ⟨ccl_UnknownName, cdd_UnknownName, .fields fvs_UnknownName, ccs_UnknownName⟩) (y19_UnknownName : (fvs_UnknownName[2]? : Option Value) = some (.str file_UnknownName tf_UnknownName)) (y20_UnknownName : XS.SupRest P "UnknownName.__init__" ss_UnknownName sv_UnknownName sm_UnknownName spa_UnknownName ssc_UnknownName "name" sj_UnknownName p0_UnknownName p1_UnknownName p2_UnknownName p3_UnknownName p4_UnknownName p5_UnknownName q1_UnknownName q2_UnknownName q3_UnknownName q4_UnknownName cda_UnknownName cc_UnknownName sdoc_UnknownName spm_UnknownName sct_UnknownName san_UnknownName file_UnknownName)
    (fg_InvalidCount : PySem.W.findIn K (.ref C_InvalidCount) "__getattribute__" = some (some (.builtin "BaseException.__getattribute__"))) (fa_InvalidCount : PySem.W.findIn K (.ref C_InvalidCount) "__getattr__" = some none) (fs_InvalidCount : PySem.W.subIn K (.ref C_InvalidCount) (.type "BaseException") = some true) (fd_InvalidCount : PySem.W.hasDictIn K C_InvalidCount = true) (ff_InvalidCount : PySem.W.findIn K (.ref C_InvalidCount) "value" = some none)
    (fg_NothingToUndo : PySem.W.findIn K (.ref C_NothingToUndo) "__getattribute__" = some (some (.builtin "BaseException.__getattribute__"))) (fa_NothingToUndo : PySem.W.findIn K (.ref C_NothingToUndo) "__getattr__" = some none) (fs_NothingToUndo : PySem.W.subIn K (.ref C_NothingToUndo) (.type "BaseException") = some true) (fd_NothingToUndo : PySem.W.hasDictIn K C_NothingToUndo = true) (ff_NothingToUndo : PySem.W.findIn K (.ref C_NothingToUndo) "wanted" = some none)
    (fg_ParseError : PySem.W.findIn K (.ref C_ParseError) "__getattribute__" = some (some (.builtin "BaseException.__getattribute__"))) (fa_ParseError : PySem.W.findIn K (.ref C_ParseError) "__getattr__" = some none) (fs_ParseError : PySem.W.subIn K (.ref C_ParseError) (.type "BaseException") = some true) (fd_ParseError : PySem.W.hasDictIn K C_ParseError = true) (ff_ParseError : PySem.W.findIn K (.ref C_ParseError) "index" = some none)
    (fg_Refused : PySem.W.findIn K (.ref C_Refused) "__getattribute__" = some (some (.builtin "BaseException.__getattribute__"))) (fa_Refused : PySem.W.findIn K (.ref C_Refused) "__getattr__" = some none) (fs_Refused : PySem.W.subIn K (.ref C_Refused) (.type "BaseException") = some true) (fd_Refused : PySem.W.hasDictIn K C_Refused = true) (ff_Refused : PySem.W.findIn K (.ref C_Refused) "reason" = some none)
    (fg_TooMany : PySem.W.findIn K (.ref C_TooMany) "__getattribute__" = some (some (.builtin "BaseException.__getattribute__"))) (fa_TooMany : PySem.W.findIn K (.ref C_TooMany) "__getattr__" = some none) (fs_TooMany : PySem.W.subIn K (.ref C_TooMany) (.type "BaseException") = some true) (fd_TooMany : PySem.W.hasDictIn K C_TooMany = true) (ff_TooMany : PySem.W.findIn K (.ref C_TooMany) "limit" = some none)
    (fg_UnknownName : PySem.W.findIn K (.ref C_UnknownName) "__getattribute__" = some (some (.builtin "BaseException.__getattribute__"))) (fa_UnknownName : PySem.W.findIn K (.ref C_UnknownName) "__getattr__" = some none) (fs_UnknownName : PySem.W.subIn K (.ref C_UnknownName) (.type "BaseException") = some true) (fd_UnknownName : PySem.W.hasDictIn K C_UnknownName = true) (ff_UnknownName : PySem.W.findIn K (.ref C_UnknownName) "name" = some none)
    (em_InvalidCount_InvalidCount : PySem.W.exmOne K (.ref C_InvalidCount) (.ref C_InvalidCount) = some true)
    (em_InvalidCount_NothingToUndo : PySem.W.exmOne K (.ref C_InvalidCount) (.ref C_NothingToUndo) = some false)
    (em_InvalidCount_ParseError : PySem.W.exmOne K (.ref C_InvalidCount) (.ref C_ParseError) = some false)
    (em_InvalidCount_Refused : PySem.W.exmOne K (.ref C_InvalidCount) (.ref C_Refused) = some false)
    (em_InvalidCount_TooMany : PySem.W.exmOne K (.ref C_InvalidCount) (.ref C_TooMany) = some false)
    (em_InvalidCount_TowerError : PySem.W.exmOne K (.ref C_InvalidCount) (.ref C_TowerError) = some false)
    (em_InvalidCount_UnknownName : PySem.W.exmOne K (.ref C_InvalidCount) (.ref C_UnknownName) = some false)
    (em_InvalidCurve_InvalidCurve : PySem.W.exmOne K (.ref C_InvalidCurve) (.ref C_InvalidCurve) = some true)
    (em_InvalidCurve_InvalidOperation : PySem.W.exmOne K (.ref C_InvalidCurve) (.ref C_InvalidOperation) = some false)
    (em_InvalidCurve_InvalidOrders : PySem.W.exmOne K (.ref C_InvalidCurve) (.ref C_InvalidOrders) = some false)
    (em_InvalidCurve_InvalidPaper : PySem.W.exmOne K (.ref C_InvalidCurve) (.ref C_InvalidPaper) = some false)
    (em_InvalidCurve_InvalidPlait : PySem.W.exmOne K (.ref C_InvalidCurve) (.ref C_InvalidPlait) = some false)
    (em_InvalidCurve_InvalidPlane : PySem.W.exmOne K (.ref C_InvalidCurve) (.ref C_InvalidPlane) = some false)
    (em_InvalidCurve_InvalidPoint : PySem.W.exmOne K (.ref C_InvalidCurve) (.ref C_InvalidPoint) = some false)
    (em_InvalidCurve_InvalidPrime : PySem.W.exmOne K (.ref C_InvalidCurve) (.ref C_InvalidPrime) = some false)
    (em_InvalidCurve_InvalidRow : PySem.W.exmOne K (.ref C_InvalidCurve) (.ref C_InvalidRow) = some false)
    (em_InvalidCurve_InvalidTable : PySem.W.exmOne K (.ref C_InvalidCurve) (.ref C_InvalidTable) = some false)
    (em_InvalidCurve_InvalidTree : PySem.W.exmOne K (.ref C_InvalidCurve) (.ref C_InvalidTree) = some false)
    (em_InvalidCurve_InvalidWeights : PySem.W.exmOne K (.ref C_InvalidCurve) (.ref C_InvalidWeights) = some false)
    (em_InvalidCurve_InvalidWord : PySem.W.exmOne K (.ref C_InvalidCurve) (.ref C_InvalidWord) = some false)
    (em_InvalidCurve_ParseError : PySem.W.exmOne K (.ref C_InvalidCurve) (.ref C_ParseError) = some false)
    (em_InvalidCurve_TowerError : PySem.W.exmOne K (.ref C_InvalidCurve) (.ref C_TowerError) = some true)
    (em_InvalidOperation_InvalidCurve : PySem.W.exmOne K (.ref C_InvalidOperation) (.ref C_InvalidCurve) = some false)
    (em_InvalidOperation_InvalidOperation : PySem.W.exmOne K (.ref C_InvalidOperation) (.ref C_InvalidOperation) = some true)
    (em_InvalidOperation_InvalidOrders : PySem.W.exmOne K (.ref C_InvalidOperation) (.ref C_InvalidOrders) = some false)
    (em_InvalidOperation_InvalidPaper : PySem.W.exmOne K (.ref C_InvalidOperation) (.ref C_InvalidPaper) = some false)
    (em_InvalidOperation_InvalidPlait : PySem.W.exmOne K (.ref C_InvalidOperation) (.ref C_InvalidPlait) = some false)
    (em_InvalidOperation_InvalidPlane : PySem.W.exmOne K (.ref C_InvalidOperation) (.ref C_InvalidPlane) = some false)
    (em_InvalidOperation_InvalidPoint : PySem.W.exmOne K (.ref C_InvalidOperation) (.ref C_InvalidPoint) = some false)
    (em_InvalidOperation_InvalidPrime : PySem.W.exmOne K (.ref C_InvalidOperation) (.ref C_InvalidPrime) = some false)
    (em_InvalidOperation_InvalidRow : PySem.W.exmOne K (.ref C_InvalidOperation) (.ref C_InvalidRow) = some false)
    (em_InvalidOperation_InvalidTable : PySem.W.exmOne K (.ref C_InvalidOperation) (.ref C_InvalidTable) = some false)
    (em_InvalidOperation_InvalidTree : PySem.W.exmOne K (.ref C_InvalidOperation) (.ref C_InvalidTree) = some false)
    (em_InvalidOperation_InvalidWeights : PySem.W.exmOne K (.ref C_InvalidOperation) (.ref C_InvalidWeights) = some false)
    (em_InvalidOperation_InvalidWord : PySem.W.exmOne K (.ref C_InvalidOperation) (.ref C_InvalidWord) = some false)
    (em_InvalidOperation_ParseError : PySem.W.exmOne K (.ref C_InvalidOperation) (.ref C_ParseError) = some false)
    (em_InvalidOperation_TowerError : PySem.W.exmOne K (.ref C_InvalidOperation) (.ref C_TowerError) = some true)
    (em_InvalidOrders_InvalidCurve : PySem.W.exmOne K (.ref C_InvalidOrders) (.ref C_InvalidCurve) = some false)
    (em_InvalidOrders_InvalidOperation : PySem.W.exmOne K (.ref C_InvalidOrders) (.ref C_InvalidOperation) = some false)
    (em_InvalidOrders_InvalidOrders : PySem.W.exmOne K (.ref C_InvalidOrders) (.ref C_InvalidOrders) = some true)
    (em_InvalidOrders_InvalidPaper : PySem.W.exmOne K (.ref C_InvalidOrders) (.ref C_InvalidPaper) = some false)
    (em_InvalidOrders_InvalidPlait : PySem.W.exmOne K (.ref C_InvalidOrders) (.ref C_InvalidPlait) = some false)
    (em_InvalidOrders_InvalidPlane : PySem.W.exmOne K (.ref C_InvalidOrders) (.ref C_InvalidPlane) = some false)
    (em_InvalidOrders_InvalidPoint : PySem.W.exmOne K (.ref C_InvalidOrders) (.ref C_InvalidPoint) = some false)
    (em_InvalidOrders_InvalidPrime : PySem.W.exmOne K (.ref C_InvalidOrders) (.ref C_InvalidPrime) = some false)
    (em_InvalidOrders_InvalidRow : PySem.W.exmOne K (.ref C_InvalidOrders) (.ref C_InvalidRow) = some false)
    (em_InvalidOrders_InvalidTable : PySem.W.exmOne K (.ref C_InvalidOrders) (.ref C_InvalidTable) = some false)
    (em_InvalidOrders_InvalidTree : PySem.W.exmOne K (.ref C_InvalidOrders) (.ref C_InvalidTree) = some false)
    (em_InvalidOrders_InvalidWeights : PySem.W.exmOne K (.ref C_InvalidOrders) (.ref C_InvalidWeights) = some false)
    (em_InvalidOrders_InvalidWord : PySem.W.exmOne K (.ref C_InvalidOrders) (.ref C_InvalidWord) = some false)
    (em_InvalidOrders_ParseError : PySem.W.exmOne K (.ref C_InvalidOrders) (.ref C_ParseError) = some false)
    (em_InvalidOrders_TowerError : PySem.W.exmOne K (.ref C_InvalidOrders) (.ref C_TowerError) = some true)
    (em_InvalidPaper_InvalidCurve : PySem.W.exmOne K (.ref C_InvalidPaper) (.ref C_InvalidCurve) = some false)
    (em_InvalidPaper_InvalidOperation : PySem.W.exmOne K (.ref C_InvalidPaper) (.ref C_InvalidOperation) = some false)
    (em_InvalidPaper_InvalidOrders : PySem.W.exmOne K (.ref C_InvalidPaper) (.ref C_InvalidOrders) = some false)
    (em_InvalidPaper_InvalidPaper : PySem.W.exmOne K (.ref C_InvalidPaper) (.ref C_InvalidPaper) = some true)
    (em_InvalidPaper_InvalidPlait : PySem.W.exmOne K (.ref C_InvalidPaper) (.ref C_InvalidPlait) = some false)
    (em_InvalidPaper_InvalidPlane : PySem.W.exmOne K (.ref C_InvalidPaper) (.ref C_InvalidPlane) = some false)
    (em_InvalidPaper_InvalidPoint : PySem.W.exmOne K (.ref C_InvalidPaper) (.ref C_InvalidPoint) = some false)
    (em_InvalidPaper_InvalidPrime : PySem.W.exmOne K (.ref C_InvalidPaper) (.ref C_InvalidPrime) = some false)
    (em_InvalidPaper_InvalidRow : PySem.W.exmOne K (.ref C_InvalidPaper) (.ref C_InvalidRow) = some false)
    (em_InvalidPaper_InvalidTable : PySem.W.exmOne K (.ref C_InvalidPaper) (.ref C_InvalidTable) = some false)
    (em_InvalidPaper_InvalidTree : PySem.W.exmOne K (.ref C_InvalidPaper) (.ref C_InvalidTree) = some false)
    (em_InvalidPaper_InvalidWeights : PySem.W.exmOne K (.ref C_InvalidPaper) (.ref C_InvalidWeights) = some false)
    (em_InvalidPaper_InvalidWord : PySem.W.exmOne K (.ref C_InvalidPaper) (.ref C_InvalidWord) = some false)
    (em_InvalidPaper_ParseError : PySem.W.exmOne K (.ref C_InvalidPaper) (.ref C_ParseError) = some false)
    (em_InvalidPaper_TowerError : PySem.W.exmOne K (.ref C_InvalidPaper) (.ref C_TowerError) = some true)
    (em_InvalidPlait_InvalidCurve : PySem.W.exmOne K (.ref C_InvalidPlait) (.ref C_InvalidCurve) = some false)
    (em_InvalidPlait_InvalidOperation : PySem.W.exmOne K (.ref C_InvalidPlait) (.ref C_InvalidOperation) = some false)
    (em_InvalidPlait_InvalidOrders : PySem.W.exmOne K (.ref C_InvalidPlait) (.ref C_InvalidOrders) = some false)
    (em_InvalidPlait_InvalidPaper : PySem.W.exmOne K (.ref C_InvalidPlait) (.ref C_InvalidPaper) = some false)
    (em_InvalidPlait_InvalidPlait : PySem.W.exmOne K (.ref C_InvalidPlait) (.ref C_InvalidPlait) = some true)
    (em_InvalidPlait_InvalidPlane : PySem.W.exmOne K (.ref C_InvalidPlait) (.ref C_InvalidPlane) = some false)
    (em_InvalidPlait_InvalidPoint : PySem.W.exmOne K (.ref C_InvalidPlait) (.ref C_InvalidPoint) = some false)
    (em_InvalidPlait_InvalidPrime : PySem.W.exmOne K (.ref C_InvalidPlait) (.ref C_InvalidPrime) = some false)
    (em_InvalidPlait_InvalidRow : PySem.W.exmOne K (.ref C_InvalidPlait) (.ref C_InvalidRow) = some false)
    (em_InvalidPlait_InvalidTable : PySem.W.exmOne K (.ref C_InvalidPlait) (.ref C_InvalidTable) = some false)
    (em_InvalidPlait_InvalidTree : PySem.W.exmOne K (.ref C_InvalidPlait) (.ref C_InvalidTree) = some false)
    (em_InvalidPlait_InvalidWeights : PySem.W.exmOne K (.ref C_InvalidPlait) (.ref C_InvalidWeights) = some false)
    (em_InvalidPlait_InvalidWord : PySem.W.exmOne K (.ref C_InvalidPlait) (.ref C_InvalidWord) = some false)
    (em_InvalidPlait_ParseError : PySem.W.exmOne K (.ref C_InvalidPlait) (.ref C_ParseError) = some false)
    (em_InvalidPlait_TowerError : PySem.W.exmOne K (.ref C_InvalidPlait) (.ref C_TowerError) = some true)
    (em_InvalidPlane_InvalidCurve : PySem.W.exmOne K (.ref C_InvalidPlane) (.ref C_InvalidCurve) = some false)
    (em_InvalidPlane_InvalidOperation : PySem.W.exmOne K (.ref C_InvalidPlane) (.ref C_InvalidOperation) = some false)
    (em_InvalidPlane_InvalidOrders : PySem.W.exmOne K (.ref C_InvalidPlane) (.ref C_InvalidOrders) = some false)
    (em_InvalidPlane_InvalidPaper : PySem.W.exmOne K (.ref C_InvalidPlane) (.ref C_InvalidPaper) = some false)
    (em_InvalidPlane_InvalidPlait : PySem.W.exmOne K (.ref C_InvalidPlane) (.ref C_InvalidPlait) = some false)
    (em_InvalidPlane_InvalidPlane : PySem.W.exmOne K (.ref C_InvalidPlane) (.ref C_InvalidPlane) = some true)
    (em_InvalidPlane_InvalidPoint : PySem.W.exmOne K (.ref C_InvalidPlane) (.ref C_InvalidPoint) = some false)
    (em_InvalidPlane_InvalidPrime : PySem.W.exmOne K (.ref C_InvalidPlane) (.ref C_InvalidPrime) = some false)
    (em_InvalidPlane_InvalidRow : PySem.W.exmOne K (.ref C_InvalidPlane) (.ref C_InvalidRow) = some false)
    (em_InvalidPlane_InvalidTable : PySem.W.exmOne K (.ref C_InvalidPlane) (.ref C_InvalidTable) = some false)
    (em_InvalidPlane_InvalidTree : PySem.W.exmOne K (.ref C_InvalidPlane) (.ref C_InvalidTree) = some false)
    (em_InvalidPlane_InvalidWeights : PySem.W.exmOne K (.ref C_InvalidPlane) (.ref C_InvalidWeights) = some false)
    (em_InvalidPlane_InvalidWord : PySem.W.exmOne K (.ref C_InvalidPlane) (.ref C_InvalidWord) = some false)
    (em_InvalidPlane_ParseError : PySem.W.exmOne K (.ref C_InvalidPlane) (.ref C_ParseError) = some false)
    (em_InvalidPlane_TowerError : PySem.W.exmOne K (.ref C_InvalidPlane) (.ref C_TowerError) = some true)
    (em_InvalidPoint_InvalidCurve : PySem.W.exmOne K (.ref C_InvalidPoint) (.ref C_InvalidCurve) = some false)
    (em_InvalidPoint_InvalidOperation : PySem.W.exmOne K (.ref C_InvalidPoint) (.ref C_InvalidOperation) = some false)
    (em_InvalidPoint_InvalidOrders : PySem.W.exmOne K (.ref C_InvalidPoint) (.ref C_InvalidOrders) = some false)
    (em_InvalidPoint_InvalidPaper : PySem.W.exmOne K (.ref C_InvalidPoint) (.ref C_InvalidPaper) = some false)
    (em_InvalidPoint_InvalidPlait : PySem.W.exmOne K (.ref C_InvalidPoint) (.ref C_InvalidPlait) = some false)
    (em_InvalidPoint_InvalidPlane : PySem.W.exmOne K (.ref C_InvalidPoint) (.ref C_InvalidPlane) = some false)
    (em_InvalidPoint_InvalidPoint : PySem.W.exmOne K (.ref C_InvalidPoint) (.ref C_InvalidPoint) = some true)
    (em_InvalidPoint_InvalidPrime : PySem.W.exmOne K (.ref C_InvalidPoint) (.ref C_InvalidPrime) = some false)
    (em_InvalidPoint_InvalidRow : PySem.W.exmOne K (.ref C_InvalidPoint) (.ref C_InvalidRow) = some false)
    (em_InvalidPoint_InvalidTable : PySem.W.exmOne K (.ref C_InvalidPoint) (.ref C_InvalidTable) = some false)
    (em_InvalidPoint_InvalidTree : PySem.W.exmOne K (.ref C_InvalidPoint) (.ref C_InvalidTree) = some false)
    (em_InvalidPoint_InvalidWeights : PySem.W.exmOne K (.ref C_InvalidPoint) (.ref C_InvalidWeights) = some false)
    (em_InvalidPoint_InvalidWord : PySem.W.exmOne K (.ref C_InvalidPoint) (.ref C_InvalidWord) = some false)
    (em_InvalidPoint_ParseError : PySem.W.exmOne K (.ref C_InvalidPoint) (.ref C_ParseError) = some false)
    (em_InvalidPoint_TowerError : PySem.W.exmOne K (.ref C_InvalidPoint) (.ref C_TowerError) = some true)
    (em_InvalidPrime_InvalidCurve : PySem.W.exmOne K (.ref C_InvalidPrime) (.ref C_InvalidCurve) = some false)
    (em_InvalidPrime_InvalidOperation : PySem.W.exmOne K (.ref C_InvalidPrime) (.ref C_InvalidOperation) = some false)
    (em_InvalidPrime_InvalidOrders : PySem.W.exmOne K (.ref C_InvalidPrime) (.ref C_InvalidOrders) = some false)
    (em_InvalidPrime_InvalidPaper : PySem.W.exmOne K (.ref C_InvalidPrime) (.ref C_InvalidPaper) = some false)
    (em_InvalidPrime_InvalidPlait : PySem.W.exmOne K (.ref C_InvalidPrime) (.ref C_InvalidPlait) = some false)
    (em_InvalidPrime_InvalidPlane : PySem.W.exmOne K (.ref C_InvalidPrime) (.ref C_InvalidPlane) = some false)
    (em_InvalidPrime_InvalidPoint : PySem.W.exmOne K (.ref C_InvalidPrime) (.ref C_InvalidPoint) = some false)
    (em_InvalidPrime_InvalidPrime : PySem.W.exmOne K (.ref C_InvalidPrime) (.ref C_InvalidPrime) = some true)
    (em_InvalidPrime_InvalidRow : PySem.W.exmOne K (.ref C_InvalidPrime) (.ref C_InvalidRow) = some false)
    (em_InvalidPrime_InvalidTable : PySem.W.exmOne K (.ref C_InvalidPrime) (.ref C_InvalidTable) = some false)
    (em_InvalidPrime_InvalidTree : PySem.W.exmOne K (.ref C_InvalidPrime) (.ref C_InvalidTree) = some false)
    (em_InvalidPrime_InvalidWeights : PySem.W.exmOne K (.ref C_InvalidPrime) (.ref C_InvalidWeights) = some false)
    (em_InvalidPrime_InvalidWord : PySem.W.exmOne K (.ref C_InvalidPrime) (.ref C_InvalidWord) = some false)
    (em_InvalidPrime_ParseError : PySem.W.exmOne K (.ref C_InvalidPrime) (.ref C_ParseError) = some false)
    (em_InvalidPrime_TowerError : PySem.W.exmOne K (.ref C_InvalidPrime) (.ref C_TowerError) = some true)
    (em_InvalidRow_InvalidCurve : PySem.W.exmOne K (.ref C_InvalidRow) (.ref C_InvalidCurve) = some false)
    (em_InvalidRow_InvalidOperation : PySem.W.exmOne K (.ref C_InvalidRow) (.ref C_InvalidOperation) = some false)
    (em_InvalidRow_InvalidOrders : PySem.W.exmOne K (.ref C_InvalidRow) (.ref C_InvalidOrders) = some false)
    (em_InvalidRow_InvalidPaper : PySem.W.exmOne K (.ref C_InvalidRow) (.ref C_InvalidPaper) = some false)
    (em_InvalidRow_InvalidPlait : PySem.W.exmOne K (.ref C_InvalidRow) (.ref C_InvalidPlait) = some false)
    (em_InvalidRow_InvalidPlane : PySem.W.exmOne K (.ref C_InvalidRow) (.ref C_InvalidPlane) = some false)
    (em_InvalidRow_InvalidPoint : PySem.W.exmOne K (.ref C_InvalidRow) (.ref C_InvalidPoint) = some false)
    (em_InvalidRow_InvalidPrime : PySem.W.exmOne K (.ref C_InvalidRow) (.ref C_InvalidPrime) = some false)
    (em_InvalidRow_InvalidRow : PySem.W.exmOne K (.ref C_InvalidRow) (.ref C_InvalidRow) = some true)
    (em_InvalidRow_InvalidTable : PySem.W.exmOne K (.ref C_InvalidRow) (.ref C_InvalidTable) = some false)
    (em_InvalidRow_InvalidTree : PySem.W.exmOne K (.ref C_InvalidRow) (.ref C_InvalidTree) = some false)
    (em_InvalidRow_InvalidWeights : PySem.W.exmOne K (.ref C_InvalidRow) (.ref C_InvalidWeights) = some false)
    (em_InvalidRow_InvalidWord : PySem.W.exmOne K (.ref C_InvalidRow) (.ref C_InvalidWord) = some false)
    (em_InvalidRow_ParseError : PySem.W.exmOne K (.ref C_InvalidRow) (.ref C_ParseError) = some false)
    (em_InvalidRow_TowerError : PySem.W.exmOne K (.ref C_InvalidRow) (.ref C_TowerError) = some true)
    (em_InvalidTable_InvalidCurve : PySem.W.exmOne K (.ref C_InvalidTable) (.ref C_InvalidCurve) = some false)
    (em_InvalidTable_InvalidOperation : PySem.W.exmOne K (.ref C_InvalidTable) (.ref C_InvalidOperation) = some false)
    (em_InvalidTable_InvalidOrders : PySem.W.exmOne K (.ref C_InvalidTable) (.ref C_InvalidOrders) = some false)
    (em_InvalidTable_InvalidPaper : PySem.W.exmOne K (.ref C_InvalidTable) (.ref C_InvalidPaper) = some false)
    (em_InvalidTable_InvalidPlait : PySem.W.exmOne K (.ref C_InvalidTable) (.ref C_InvalidPlait) = some false)
    (em_InvalidTable_InvalidPlane : PySem.W.exmOne K (.ref C_InvalidTable) (.ref C_InvalidPlane) = some false)
    (em_InvalidTable_InvalidPoint : PySem.W.exmOne K (.ref C_InvalidTable) (.ref C_InvalidPoint) = some false)
    (em_InvalidTable_InvalidPrime : PySem.W.exmOne K (.ref C_InvalidTable) (.ref C_InvalidPrime) = some false)
    (em_InvalidTable_InvalidRow : PySem.W.exmOne K (.ref C_InvalidTable) (.ref C_InvalidRow) = some false)
    (em_InvalidTable_InvalidTable : PySem.W.exmOne K (.ref C_InvalidTable) (.ref C_InvalidTable) = some true)
    (em_InvalidTable_InvalidTree : PySem.W.exmOne K (.ref C_InvalidTable) (.ref C_InvalidTree) = some false)
    (em_InvalidTable_InvalidWeights : PySem.W.exmOne K (.ref C_InvalidTable) (.ref C_InvalidWeights) = some false)
    (em_InvalidTable_InvalidWord : PySem.W.exmOne K (.ref C_InvalidTable) (.ref C_InvalidWord) = some false)
    (em_InvalidTable_ParseError : PySem.W.exmOne K (.ref C_InvalidTable) (.ref C_ParseError) = some false)
    (em_InvalidTable_TowerError : PySem.W.exmOne K (.ref C_InvalidTable) (.ref C_TowerError) = some true)
    (em_InvalidTree_InvalidCurve : PySem.W.exmOne K (.ref C_InvalidTree) (.ref C_InvalidCurve) = some false)
    (em_InvalidTree_InvalidOperation : PySem.W.exmOne K (.ref C_InvalidTree) (.ref C_InvalidOperation) = some false)
    (em_InvalidTree_InvalidOrders : PySem.W.exmOne K (.ref C_InvalidTree) (.ref C_InvalidOrders) = some false)
    (em_InvalidTree_InvalidPaper : PySem.W.exmOne K (.ref C_InvalidTree) (.ref C_InvalidPaper) = some false)
    (em_InvalidTree_InvalidPlait : PySem.W.exmOne K (.ref C_InvalidTree) (.ref C_InvalidPlait) = some false)
    (em_InvalidTree_InvalidPlane : PySem.W.exmOne K (.ref C_InvalidTree) (.ref C_InvalidPlane) = some false)
    (em_InvalidTree_InvalidPoint : PySem.W.exmOne K (.ref C_InvalidTree) (.ref C_InvalidPoint) = some false)
    (em_InvalidTree_InvalidPrime : PySem.W.exmOne K (.ref C_InvalidTree) (.ref C_InvalidPrime) = some false)
    (em_InvalidTree_InvalidRow : PySem.W.exmOne K (.ref C_InvalidTree) (.ref C_InvalidRow) = some false)
    (em_InvalidTree_InvalidTable : PySem.W.exmOne K (.ref C_InvalidTree) (.ref C_InvalidTable) = some false)
    (em_InvalidTree_InvalidTree : PySem.W.exmOne K (.ref C_InvalidTree) (.ref C_InvalidTree) = some true)
    (em_InvalidTree_InvalidWeights : PySem.W.exmOne K (.ref C_InvalidTree) (.ref C_InvalidWeights) = some false)
    (em_InvalidTree_InvalidWord : PySem.W.exmOne K (.ref C_InvalidTree) (.ref C_InvalidWord) = some false)
    (em_InvalidTree_ParseError : PySem.W.exmOne K (.ref C_InvalidTree) (.ref C_ParseError) = some false)
    (em_InvalidTree_TowerError : PySem.W.exmOne K (.ref C_InvalidTree) (.ref C_TowerError) = some true)
    (em_InvalidWeights_InvalidCurve : PySem.W.exmOne K (.ref C_InvalidWeights) (.ref C_InvalidCurve) = some false)
    (em_InvalidWeights_InvalidOperation : PySem.W.exmOne K (.ref C_InvalidWeights) (.ref C_InvalidOperation) = some false)
    (em_InvalidWeights_InvalidOrders : PySem.W.exmOne K (.ref C_InvalidWeights) (.ref C_InvalidOrders) = some false)
    (em_InvalidWeights_InvalidPaper : PySem.W.exmOne K (.ref C_InvalidWeights) (.ref C_InvalidPaper) = some false)
    (em_InvalidWeights_InvalidPlait : PySem.W.exmOne K (.ref C_InvalidWeights) (.ref C_InvalidPlait) = some false)
    (em_InvalidWeights_InvalidPlane : PySem.W.exmOne K (.ref C_InvalidWeights) (.ref C_InvalidPlane) = some false)
    (em_InvalidWeights_InvalidPoint : PySem.W.exmOne K (.ref C_InvalidWeights) (.ref C_InvalidPoint) = some false)
    (em_InvalidWeights_InvalidPrime : PySem.W.exmOne K (.ref C_InvalidWeights) (.ref C_InvalidPrime) = some false)
    (em_InvalidWeights_InvalidRow : PySem.W.exmOne K (.ref C_InvalidWeights) (.ref C_InvalidRow) = some false)
    (em_InvalidWeights_InvalidTable : PySem.W.exmOne K (.ref C_InvalidWeights) (.ref C_InvalidTable) = some false)
    (em_InvalidWeights_InvalidTree : PySem.W.exmOne K (.ref C_InvalidWeights) (.ref C_InvalidTree) = some false)
    (em_InvalidWeights_InvalidWeights : PySem.W.exmOne K (.ref C_InvalidWeights) (.ref C_InvalidWeights) = some true)
    (em_InvalidWeights_InvalidWord : PySem.W.exmOne K (.ref C_InvalidWeights) (.ref C_InvalidWord) = some false)
    (em_InvalidWeights_ParseError : PySem.W.exmOne K (.ref C_InvalidWeights) (.ref C_ParseError) = some false)
    (em_InvalidWeights_TowerError : PySem.W.exmOne K (.ref C_InvalidWeights) (.ref C_TowerError) = some true)
    (em_InvalidWord_InvalidCurve : PySem.W.exmOne K (.ref C_InvalidWord) (.ref C_InvalidCurve) = some false)
    (em_InvalidWord_InvalidOperation : PySem.W.exmOne K (.ref C_InvalidWord) (.ref C_InvalidOperation) = some false)
    (em_InvalidWord_InvalidOrders : PySem.W.exmOne K (.ref C_InvalidWord) (.ref C_InvalidOrders) = some false)
    (em_InvalidWord_InvalidPaper : PySem.W.exmOne K (.ref C_InvalidWord) (.ref C_InvalidPaper) = some false)
    (em_InvalidWord_InvalidPlait : PySem.W.exmOne K (.ref C_InvalidWord) (.ref C_InvalidPlait) = some false)
    (em_InvalidWord_InvalidPlane : PySem.W.exmOne K (.ref C_InvalidWord) (.ref C_InvalidPlane) = some false)
    (em_InvalidWord_InvalidPoint : PySem.W.exmOne K (.ref C_InvalidWord) (.ref C_InvalidPoint) = some false)
    (em_InvalidWord_InvalidPrime : PySem.W.exmOne K (.ref C_InvalidWord) (.ref C_InvalidPrime) = some false)
    (em_InvalidWord_InvalidRow : PySem.W.exmOne K (.ref C_InvalidWord) (.ref C_InvalidRow) = some false)
    (em_InvalidWord_InvalidTable : PySem.W.exmOne K (.ref C_InvalidWord) (.ref C_InvalidTable) = some false)
    (em_InvalidWord_InvalidTree : PySem.W.exmOne K (.ref C_InvalidWord) (.ref C_InvalidTree) = some false)
    (em_InvalidWord_InvalidWeights : PySem.W.exmOne K (.ref C_InvalidWord) (.ref C_InvalidWeights) = some false)
    (em_InvalidWord_InvalidWord : PySem.W.exmOne K (.ref C_InvalidWord) (.ref C_InvalidWord) = some true)
    (em_InvalidWord_ParseError : PySem.W.exmOne K (.ref C_InvalidWord) (.ref C_ParseError) = some false)
    (em_InvalidWord_TowerError : PySem.W.exmOne K (.ref C_InvalidWord) (.ref C_TowerError) = some true)
    (em_NothingToUndo_InvalidCount : PySem.W.exmOne K (.ref C_NothingToUndo) (.ref C_InvalidCount) = some false)
    (em_NothingToUndo_NothingToUndo : PySem.W.exmOne K (.ref C_NothingToUndo) (.ref C_NothingToUndo) = some true)
    (em_NothingToUndo_ParseError : PySem.W.exmOne K (.ref C_NothingToUndo) (.ref C_ParseError) = some false)
    (em_NothingToUndo_Refused : PySem.W.exmOne K (.ref C_NothingToUndo) (.ref C_Refused) = some false)
    (em_NothingToUndo_TooMany : PySem.W.exmOne K (.ref C_NothingToUndo) (.ref C_TooMany) = some false)
    (em_NothingToUndo_TowerError : PySem.W.exmOne K (.ref C_NothingToUndo) (.ref C_TowerError) = some false)
    (em_NothingToUndo_UnknownName : PySem.W.exmOne K (.ref C_NothingToUndo) (.ref C_UnknownName) = some false)
    (em_ParseError_InvalidCount : PySem.W.exmOne K (.ref C_ParseError) (.ref C_InvalidCount) = some false)
    (em_ParseError_NothingToUndo : PySem.W.exmOne K (.ref C_ParseError) (.ref C_NothingToUndo) = some false)
    (em_ParseError_ParseError : PySem.W.exmOne K (.ref C_ParseError) (.ref C_ParseError) = some true)
    (em_ParseError_Refused : PySem.W.exmOne K (.ref C_ParseError) (.ref C_Refused) = some false)
    (em_ParseError_TooMany : PySem.W.exmOne K (.ref C_ParseError) (.ref C_TooMany) = some false)
    (em_ParseError_TowerError : PySem.W.exmOne K (.ref C_ParseError) (.ref C_TowerError) = some true)
    (em_ParseError_UnknownName : PySem.W.exmOne K (.ref C_ParseError) (.ref C_UnknownName) = some false)
    (em_Refused_InvalidCount : PySem.W.exmOne K (.ref C_Refused) (.ref C_InvalidCount) = some false)
    (em_Refused_NothingToUndo : PySem.W.exmOne K (.ref C_Refused) (.ref C_NothingToUndo) = some false)
    (em_Refused_ParseError : PySem.W.exmOne K (.ref C_Refused) (.ref C_ParseError) = some false)
    (em_Refused_Refused : PySem.W.exmOne K (.ref C_Refused) (.ref C_Refused) = some true)
    (em_Refused_TooMany : PySem.W.exmOne K (.ref C_Refused) (.ref C_TooMany) = some false)
    (em_Refused_TowerError : PySem.W.exmOne K (.ref C_Refused) (.ref C_TowerError) = some false)
    (em_Refused_UnknownName : PySem.W.exmOne K (.ref C_Refused) (.ref C_UnknownName) = some false)
    (em_TooMany_InvalidCount : PySem.W.exmOne K (.ref C_TooMany) (.ref C_InvalidCount) = some false)
    (em_TooMany_NothingToUndo : PySem.W.exmOne K (.ref C_TooMany) (.ref C_NothingToUndo) = some false)
    (em_TooMany_ParseError : PySem.W.exmOne K (.ref C_TooMany) (.ref C_ParseError) = some false)
    (em_TooMany_Refused : PySem.W.exmOne K (.ref C_TooMany) (.ref C_Refused) = some false)
    (em_TooMany_TooMany : PySem.W.exmOne K (.ref C_TooMany) (.ref C_TooMany) = some true)
    (em_TooMany_TowerError : PySem.W.exmOne K (.ref C_TooMany) (.ref C_TowerError) = some false)
    (em_TooMany_UnknownName : PySem.W.exmOne K (.ref C_TooMany) (.ref C_UnknownName) = some false)
    (em_UnknownName_InvalidCount : PySem.W.exmOne K (.ref C_UnknownName) (.ref C_InvalidCount) = some false)
    (em_UnknownName_NothingToUndo : PySem.W.exmOne K (.ref C_UnknownName) (.ref C_NothingToUndo) = some false)
    (em_UnknownName_ParseError : PySem.W.exmOne K (.ref C_UnknownName) (.ref C_ParseError) = some false)
    (em_UnknownName_Refused : PySem.W.exmOne K (.ref C_UnknownName) (.ref C_Refused) = some false)
    (em_UnknownName_TooMany : PySem.W.exmOne K (.ref C_UnknownName) (.ref C_TooMany) = some false)
    (em_UnknownName_TowerError : PySem.W.exmOne K (.ref C_UnknownName) (.ref C_TowerError) = some false)
    (em_UnknownName_UnknownName : PySem.W.exmOne K (.ref C_UnknownName) (.ref C_UnknownName) = some true)
    {f__law_dice : Addr} {oc__law_dice : Value} {od__law_dice an__law_dice : Option Addr} {sl__law_dice : Array (Option Value)} {kV__law_dice dc__law_dice pm__law_dice ct__law_dice : Value} {cd__law_dice : Value} (a__law_dice : PySem.W.nsIn K mainGlobals "_law_dice" = some (some (.ref f__law_dice))) (l__law_dice : K.lookup f__law_dice = some ⟨oc__law_dice, od__law_dice, .func (PySem.W.fnOf "_law_dice" "_law_dice" (defArgs s__law_dice) (defBody s__law_dice) (defScope s__law_dice) .none kV__law_dice dc__law_dice pm__law_dice an__law_dice cd__law_dice ct__law_dice), sl__law_dice⟩) (c__law_dice : PySem.W.codeIn K cd__law_dice "_law_dice" = true) (k__law_dice : PySem.W.keepIn K (.ref f__law_dice) = true)
    {f__law_roll : Addr} {oc__law_roll : Value} {od__law_roll an__law_roll : Option Addr} {sl__law_roll : Array (Option Value)} {kV__law_roll dc__law_roll pm__law_roll ct__law_roll : Value} {cd__law_roll : Value} (a__law_roll : PySem.W.nsIn K mainGlobals "_law_roll" = some (some (.ref f__law_roll))) (l__law_roll : K.lookup f__law_roll = some ⟨oc__law_roll, od__law_roll, .func (PySem.W.fnOf "_law_roll" "_law_roll" (defArgs s__law_roll) (defBody s__law_roll) (defScope s__law_roll) .none kV__law_roll dc__law_roll pm__law_roll an__law_roll cd__law_roll ct__law_roll), sl__law_roll⟩) (c__law_roll : PySem.W.codeIn K cd__law_roll "_law_roll" = true) (k__law_roll : PySem.W.keepIn K (.ref f__law_roll) = true)
    {f__law_raise_first : Addr} {oc__law_raise_first : Value} {od__law_raise_first an__law_raise_first : Option Addr} {sl__law_raise_first : Array (Option Value)} {kV__law_raise_first dc__law_raise_first pm__law_raise_first ct__law_raise_first : Value} {cd__law_raise_first : Value} (a__law_raise_first : PySem.W.nsIn K mainGlobals "_law_raise_first" = some (some (.ref f__law_raise_first))) (l__law_raise_first : K.lookup f__law_raise_first = some ⟨oc__law_raise_first, od__law_raise_first, .func (PySem.W.fnOf "_law_raise_first" "_law_raise_first" (defArgs s__law_raise_first) (defBody s__law_raise_first) (defScope s__law_raise_first) .none kV__law_raise_first dc__law_raise_first pm__law_raise_first an__law_raise_first cd__law_raise_first ct__law_raise_first), sl__law_raise_first⟩) (c__law_raise_first : PySem.W.codeIn K cd__law_raise_first "_law_raise_first" = true) (k__law_raise_first : PySem.W.keepIn K (.ref f__law_raise_first) = true)
    {f__law_raise_kept : Addr} {oc__law_raise_kept : Value} {od__law_raise_kept an__law_raise_kept : Option Addr} {sl__law_raise_kept : Array (Option Value)} {kV__law_raise_kept dc__law_raise_kept pm__law_raise_kept ct__law_raise_kept : Value} {cd__law_raise_kept : Value} (a__law_raise_kept : PySem.W.nsIn K mainGlobals "_law_raise_kept" = some (some (.ref f__law_raise_kept))) (l__law_raise_kept : K.lookup f__law_raise_kept = some ⟨oc__law_raise_kept, od__law_raise_kept, .func (PySem.W.fnOf "_law_raise_kept" "_law_raise_kept" (defArgs s__law_raise_kept) (defBody s__law_raise_kept) (defScope s__law_raise_kept) .none kV__law_raise_kept dc__law_raise_kept pm__law_raise_kept an__law_raise_kept cd__law_raise_kept ct__law_raise_kept), sl__law_raise_kept⟩) (c__law_raise_kept : PySem.W.codeIn K cd__law_raise_kept "_law_raise_kept" = true) (k__law_raise_kept : PySem.W.keepIn K (.ref f__law_raise_kept) = true)
    {f__law_pick : Addr} {oc__law_pick : Value} {od__law_pick an__law_pick : Option Addr} {sl__law_pick : Array (Option Value)} {kV__law_pick dc__law_pick pm__law_pick ct__law_pick : Value} {cd__law_pick : Value} (a__law_pick : PySem.W.nsIn K mainGlobals "_law_pick" = some (some (.ref f__law_pick))) (l__law_pick : K.lookup f__law_pick = some ⟨oc__law_pick, od__law_pick, .func (PySem.W.fnOf "_law_pick" "_law_pick" (defArgs s__law_pick) (defBody s__law_pick) (defScope s__law_pick) .none kV__law_pick dc__law_pick pm__law_pick an__law_pick cd__law_pick ct__law_pick), sl__law_pick⟩) (c__law_pick : PySem.W.codeIn K cd__law_pick "_law_pick" = true) (k__law_pick : PySem.W.keepIn K (.ref f__law_pick) = true)
    {f__law_caught : Addr} {oc__law_caught : Value} {od__law_caught an__law_caught : Option Addr} {sl__law_caught : Array (Option Value)} {kV__law_caught dc__law_caught pm__law_caught ct__law_caught : Value} {cd__law_caught : Value} (a__law_caught : PySem.W.nsIn K mainGlobals "_law_caught" = some (some (.ref f__law_caught))) (l__law_caught : K.lookup f__law_caught = some ⟨oc__law_caught, od__law_caught, .func (PySem.W.fnOf "_law_caught" "_law_caught" (defArgs s__law_caught) (defBody s__law_caught) (defScope s__law_caught) .none kV__law_caught dc__law_caught pm__law_caught an__law_caught cd__law_caught ct__law_caught), sl__law_caught⟩) (c__law_caught : PySem.W.codeIn K cd__law_caught "_law_caught" = true) (k__law_caught : PySem.W.keepIn K (.ref f__law_caught) = true)
    {f__law_caught_back : Addr} {oc__law_caught_back : Value} {od__law_caught_back an__law_caught_back : Option Addr} {sl__law_caught_back : Array (Option Value)} {kV__law_caught_back dc__law_caught_back pm__law_caught_back ct__law_caught_back : Value} {cd__law_caught_back : Value} (a__law_caught_back : PySem.W.nsIn K mainGlobals "_law_caught_back" = some (some (.ref f__law_caught_back))) (l__law_caught_back : K.lookup f__law_caught_back = some ⟨oc__law_caught_back, od__law_caught_back, .func (PySem.W.fnOf "_law_caught_back" "_law_caught_back" (defArgs s__law_caught_back) (defBody s__law_caught_back) (defScope s__law_caught_back) .none kV__law_caught_back dc__law_caught_back pm__law_caught_back an__law_caught_back cd__law_caught_back ct__law_caught_back), sl__law_caught_back⟩) (c__law_caught_back : PySem.W.codeIn K cd__law_caught_back "_law_caught_back" = true) (k__law_caught_back : PySem.W.keepIn K (.ref f__law_caught_back) = true)
    {f__law_kept : Addr} {oc__law_kept : Value} {od__law_kept an__law_kept : Option Addr} {sl__law_kept : Array (Option Value)} {kV__law_kept dc__law_kept pm__law_kept ct__law_kept : Value} {cd__law_kept : Value} (a__law_kept : PySem.W.nsIn K mainGlobals "_law_kept" = some (some (.ref f__law_kept))) (l__law_kept : K.lookup f__law_kept = some ⟨oc__law_kept, od__law_kept, .func (PySem.W.fnOf "_law_kept" "_law_kept" (defArgs s__law_kept) (defBody s__law_kept) (defScope s__law_kept) .none kV__law_kept dc__law_kept pm__law_kept an__law_kept cd__law_kept ct__law_kept), sl__law_kept⟩) (c__law_kept : PySem.W.codeIn K cd__law_kept "_law_kept" = true) (k__law_kept : PySem.W.keepIn K (.ref f__law_kept) = true)
    {f__law_is_first : Addr} {oc__law_is_first : Value} {od__law_is_first an__law_is_first : Option Addr} {sl__law_is_first : Array (Option Value)} {kV__law_is_first dc__law_is_first pm__law_is_first ct__law_is_first : Value} {cd__law_is_first : Value} (a__law_is_first : PySem.W.nsIn K mainGlobals "_law_is_first" = some (some (.ref f__law_is_first))) (l__law_is_first : K.lookup f__law_is_first = some ⟨oc__law_is_first, od__law_is_first, .func (PySem.W.fnOf "_law_is_first" "_law_is_first" (defArgs s__law_is_first) (defBody s__law_is_first) (defScope s__law_is_first) .none kV__law_is_first dc__law_is_first pm__law_is_first an__law_is_first cd__law_is_first ct__law_is_first), sl__law_is_first⟩) (c__law_is_first : PySem.W.codeIn K cd__law_is_first "_law_is_first" = true) (k__law_is_first : PySem.W.keepIn K (.ref f__law_is_first) = true)
    {f__law_kept_first : Addr} {oc__law_kept_first : Value} {od__law_kept_first an__law_kept_first : Option Addr} {sl__law_kept_first : Array (Option Value)} {kV__law_kept_first dc__law_kept_first pm__law_kept_first ct__law_kept_first : Value} {cd__law_kept_first : Value} (a__law_kept_first : PySem.W.nsIn K mainGlobals "_law_kept_first" = some (some (.ref f__law_kept_first))) (l__law_kept_first : K.lookup f__law_kept_first = some ⟨oc__law_kept_first, od__law_kept_first, .func (PySem.W.fnOf "_law_kept_first" "_law_kept_first" (defArgs s__law_kept_first) (defBody s__law_kept_first) (defScope s__law_kept_first) .none kV__law_kept_first dc__law_kept_first pm__law_kept_first an__law_kept_first cd__law_kept_first ct__law_kept_first), sl__law_kept_first⟩) (c__law_kept_first : PySem.W.codeIn K cd__law_kept_first "_law_kept_first" = true) (k__law_kept_first : PySem.W.keepIn K (.ref f__law_kept_first) = true)
    {f__law_right : Addr} {oc__law_right : Value} {od__law_right an__law_right : Option Addr} {sl__law_right : Array (Option Value)} {kV__law_right dc__law_right pm__law_right ct__law_right : Value} {cd__law_right : Addr} (a__law_right : PySem.W.nsIn K mainGlobals "_law_right" = some (some (.ref f__law_right))) (l__law_right : K.lookup f__law_right = some ⟨oc__law_right, od__law_right, .func (PySem.W.fnOf "_law_right" "_law_right" (defArgs s__law_right) (defBody s__law_right) (defScope s__law_right) .none kV__law_right dc__law_right pm__law_right an__law_right (.ref cd__law_right) ct__law_right), sl__law_right⟩) (c__law_right : PySem.W.codeIn K (.ref cd__law_right) "_law_right" = true) (k__law_right : PySem.W.keepIn K (.ref f__law_right) = true)
    {f_law : Addr} {oc_law : Value} {od_law an_law : Option Addr} {sl_law : Array (Option Value)} {kV_law dc_law pm_law ct_law : Value} {cd_law : Addr} (a_law : PySem.W.nsIn K mainGlobals "law" = some (some (.ref f_law))) (l_law : K.lookup f_law = some ⟨oc_law, od_law, .func (PySem.W.fnOf "law" "law" (defArgs s_law) (defBody s_law) (defScope s_law) .none kV_law dc_law pm_law an_law (.ref cd_law) ct_law), sl_law⟩) (c_law : PySem.W.codeIn K (.ref cd_law) "law" = true) (k_law : PySem.W.keepIn K (.ref f_law) = true) :
    EndG l q w K 5 63 "_law_script" mg fa := by
  subst hP
  have T : Txt l.prog K mg := ⟨trivial, PySem.W.mg_none_of X G n_abs, PySem.W.mg_none_of X G n_int, PySem.W.mg_none_of X G n_len, PySem.W.mg_none_of X G n_max, PySem.W.mg_none_of X G n_min, PySem.W.mg_none_of X G n_range, PySem.W.mg_none_of X G n_repr, cls_mk X G a_InvalidCount, cls_mk X G a_InvalidCurve, cls_mk X G a_InvalidOperation, cls_mk X G a_InvalidOrders, cls_mk X G a_InvalidPaper, cls_mk X G a_InvalidPlait, cls_mk X G a_InvalidPlane, cls_mk X G a_InvalidPoint, cls_mk X G a_InvalidPrime, cls_mk X G a_InvalidRow, cls_mk X G a_InvalidTable, cls_mk X G a_InvalidTree, cls_mk X G a_InvalidWeights, cls_mk X G a_InvalidWord, cls_mk X G a_NothingToUndo, cls_mk X G a_ParseError, cls_mk X G a_Refused, cls_mk X G a_TooMany, cls_mk X G a_TowerError, cls_mk X G a_UnknownName, own0_mk X G a_InvalidCurve PySem.F.excBase_ValueError xe_InvalidCurve xk_InvalidCurve xs_InvalidCurve xt_InvalidCurve, own0_mk X G a_InvalidOperation PySem.F.excBase_ValueError xe_InvalidOperation xk_InvalidOperation xs_InvalidOperation xt_InvalidOperation, own0_mk X G a_InvalidOrders PySem.F.excBase_ValueError xe_InvalidOrders xk_InvalidOrders xs_InvalidOrders xt_InvalidOrders, own0_mk X G a_InvalidPaper PySem.F.excBase_ValueError xe_InvalidPaper xk_InvalidPaper xs_InvalidPaper xt_InvalidPaper, own0_mk X G a_InvalidPlait PySem.F.excBase_ValueError xe_InvalidPlait xk_InvalidPlait xs_InvalidPlait xt_InvalidPlait, own0_mk X G a_InvalidPlane PySem.F.excBase_ValueError xe_InvalidPlane xk_InvalidPlane xs_InvalidPlane xt_InvalidPlane, own0_mk X G a_InvalidPoint PySem.F.excBase_ValueError xe_InvalidPoint xk_InvalidPoint xs_InvalidPoint xt_InvalidPoint, own0_mk X G a_InvalidPrime PySem.F.excBase_ValueError xe_InvalidPrime xk_InvalidPrime xs_InvalidPrime xt_InvalidPrime, own0_mk X G a_InvalidRow PySem.F.excBase_ValueError xe_InvalidRow xk_InvalidRow xs_InvalidRow xt_InvalidRow, own0_mk X G a_InvalidTable PySem.F.excBase_ValueError xe_InvalidTable xk_InvalidTable xs_InvalidTable xt_InvalidTable, own0_mk X G a_InvalidTree PySem.F.excBase_ValueError xe_InvalidTree xk_InvalidTree xs_InvalidTree xt_InvalidTree, own0_mk X G a_InvalidWeights PySem.F.excBase_ValueError xe_InvalidWeights xk_InvalidWeights xs_InvalidWeights xt_InvalidWeights, own0_mk X G a_InvalidWord PySem.F.excBase_ValueError xe_InvalidWord xk_InvalidWord xs_InvalidWord xt_InvalidWord, own1_mk X G a_InvalidCount n_super (XS.sup_mk ⟨PySem.W.kxs_IndexError, .of PySem.F.excBase_IndexError, PySem.F.store_IndexError⟩ opq y1_InvalidCount y2_InvalidCount y3_InvalidCount y4_InvalidCount y5_InvalidCount y6_InvalidCount y7_InvalidCount y8_InvalidCount y9_InvalidCount y10_InvalidCount y11_InvalidCount y12_InvalidCount y13_InvalidCount y14_InvalidCount y15_InvalidCount y16_InvalidCount y17_InvalidCount y18_InvalidCount y19_InvalidCount y20_InvalidCount), own1_mk X G a_NothingToUndo n_super (XS.sup_mk ⟨PySem.W.kxs_RuntimeError, .of PySem.F.excBase_RuntimeError, PySem.F.store_RuntimeError⟩ opq y1_NothingToUndo y2_NothingToUndo y3_NothingToUndo y4_NothingToUndo y5_NothingToUndo y6_NothingToUndo y7_NothingToUndo y8_NothingToUndo y9_NothingToUndo y10_NothingToUndo y11_NothingToUndo y12_NothingToUndo y13_NothingToUndo y14_NothingToUndo y15_NothingToUndo y16_NothingToUndo y17_NothingToUndo y18_NothingToUndo y19_NothingToUndo y20_NothingToUndo), own1_mk X G a_ParseError n_super (XS.sup_mk ⟨PySem.W.kxs_ValueError, .of PySem.F.excBase_ValueError, PySem.F.store_ValueError⟩ opq y1_ParseError y2_ParseError y3_ParseError y4_ParseError y5_ParseError y6_ParseError y7_ParseError y8_ParseError y9_ParseError y10_ParseError y11_ParseError y12_ParseError y13_ParseError y14_ParseError y15_ParseError y16_ParseError y17_ParseError y18_ParseError y19_ParseError y20_ParseError), own1_mk X G a_Refused n_super (XS.sup_mk ⟨PySem.W.kxs_ArithmeticError, .of PySem.F.excBase_ArithmeticError, PySem.F.store_ArithmeticError⟩ opq y1_Refused y2_Refused y3_Refused y4_Refused y5_Refused y6_Refused y7_Refused y8_Refused y9_Refused y10_Refused y11_Refused y12_Refused y13_Refused y14_Refused y15_Refused y16_Refused y17_Refused y18_Refused y19_Refused y20_Refused), own1_mk X G a_TooMany n_super (XS.sup_mk ⟨PySem.W.kxs_OverflowError, .of PySem.F.excBase_OverflowError, PySem.F.store_OverflowError⟩ opq y1_TooMany y2_TooMany y3_TooMany y4_TooMany y5_TooMany y6_TooMany y7_TooMany y8_TooMany y9_TooMany y10_TooMany y11_TooMany y12_TooMany y13_TooMany y14_TooMany y15_TooMany y16_TooMany y17_TooMany y18_TooMany y19_TooMany y20_TooMany), own1_mk X G a_UnknownName n_super (XS.sup_mk ⟨ZK.kxs_KeyError, ZK.eb_KeyError, ZK.store_KeyError⟩ opq y1_UnknownName y2_UnknownName y3_UnknownName y4_UnknownName y5_UnknownName y6_UnknownName y7_UnknownName y8_UnknownName y9_UnknownName y10_UnknownName y11_UnknownName y12_UnknownName y13_UnknownName y14_UnknownName y15_UnknownName y16_UnknownName y17_UnknownName y18_UnknownName y19_UnknownName y20_UnknownName), xf3_mk a_InvalidCount fg_InvalidCount fa_InvalidCount fs_InvalidCount fd_InvalidCount ff_InvalidCount, xf3_mk a_NothingToUndo fg_NothingToUndo fa_NothingToUndo fs_NothingToUndo fd_NothingToUndo ff_NothingToUndo, xf3_mk a_ParseError fg_ParseError fa_ParseError fs_ParseError fd_ParseError ff_ParseError, xf3_mk a_Refused fg_Refused fa_Refused fs_Refused fd_Refused ff_Refused, xf3_mk a_TooMany fg_TooMany fa_TooMany fs_TooMany fd_TooMany ff_TooMany, xf3_mk a_UnknownName fg_UnknownName fa_UnknownName fs_UnknownName fd_UnknownName ff_UnknownName, em3_mk a_InvalidCount a_InvalidCount em_InvalidCount_InvalidCount, em3_mk a_InvalidCount a_NothingToUndo em_InvalidCount_NothingToUndo, em3_mk a_InvalidCount a_ParseError em_InvalidCount_ParseError, em3_mk a_InvalidCount a_Refused em_InvalidCount_Refused, em3_mk a_InvalidCount a_TooMany em_InvalidCount_TooMany, em3_mk a_InvalidCount a_TowerError em_InvalidCount_TowerError, em3_mk a_InvalidCount a_UnknownName em_InvalidCount_UnknownName, em3_mk a_InvalidCurve a_InvalidCurve em_InvalidCurve_InvalidCurve, em3_mk a_InvalidCurve a_InvalidOperation em_InvalidCurve_InvalidOperation, em3_mk a_InvalidCurve a_InvalidOrders em_InvalidCurve_InvalidOrders, em3_mk a_InvalidCurve a_InvalidPaper em_InvalidCurve_InvalidPaper, em3_mk a_InvalidCurve a_InvalidPlait em_InvalidCurve_InvalidPlait, em3_mk a_InvalidCurve a_InvalidPlane em_InvalidCurve_InvalidPlane, em3_mk a_InvalidCurve a_InvalidPoint em_InvalidCurve_InvalidPoint, em3_mk a_InvalidCurve a_InvalidPrime em_InvalidCurve_InvalidPrime, em3_mk a_InvalidCurve a_InvalidRow em_InvalidCurve_InvalidRow, em3_mk a_InvalidCurve a_InvalidTable em_InvalidCurve_InvalidTable, em3_mk a_InvalidCurve a_InvalidTree em_InvalidCurve_InvalidTree, em3_mk a_InvalidCurve a_InvalidWeights em_InvalidCurve_InvalidWeights, em3_mk a_InvalidCurve a_InvalidWord em_InvalidCurve_InvalidWord, em3_mk a_InvalidCurve a_ParseError em_InvalidCurve_ParseError, em3_mk a_InvalidCurve a_TowerError em_InvalidCurve_TowerError, em3_mk a_InvalidOperation a_InvalidCurve em_InvalidOperation_InvalidCurve, em3_mk a_InvalidOperation a_InvalidOperation em_InvalidOperation_InvalidOperation, em3_mk a_InvalidOperation a_InvalidOrders em_InvalidOperation_InvalidOrders, em3_mk a_InvalidOperation a_InvalidPaper em_InvalidOperation_InvalidPaper, em3_mk a_InvalidOperation a_InvalidPlait em_InvalidOperation_InvalidPlait, em3_mk a_InvalidOperation a_InvalidPlane em_InvalidOperation_InvalidPlane, em3_mk a_InvalidOperation a_InvalidPoint em_InvalidOperation_InvalidPoint, em3_mk a_InvalidOperation a_InvalidPrime em_InvalidOperation_InvalidPrime, em3_mk a_InvalidOperation a_InvalidRow em_InvalidOperation_InvalidRow, em3_mk a_InvalidOperation a_InvalidTable em_InvalidOperation_InvalidTable, em3_mk a_InvalidOperation a_InvalidTree em_InvalidOperation_InvalidTree, em3_mk a_InvalidOperation a_InvalidWeights em_InvalidOperation_InvalidWeights, em3_mk a_InvalidOperation a_InvalidWord em_InvalidOperation_InvalidWord, em3_mk a_InvalidOperation a_ParseError em_InvalidOperation_ParseError, em3_mk a_InvalidOperation a_TowerError em_InvalidOperation_TowerError, em3_mk a_InvalidOrders a_InvalidCurve em_InvalidOrders_InvalidCurve, em3_mk a_InvalidOrders a_InvalidOperation em_InvalidOrders_InvalidOperation, em3_mk a_InvalidOrders a_InvalidOrders em_InvalidOrders_InvalidOrders, em3_mk a_InvalidOrders a_InvalidPaper em_InvalidOrders_InvalidPaper, em3_mk a_InvalidOrders a_InvalidPlait em_InvalidOrders_InvalidPlait, em3_mk a_InvalidOrders a_InvalidPlane em_InvalidOrders_InvalidPlane, em3_mk a_InvalidOrders a_InvalidPoint em_InvalidOrders_InvalidPoint, em3_mk a_InvalidOrders a_InvalidPrime em_InvalidOrders_InvalidPrime, em3_mk a_InvalidOrders a_InvalidRow em_InvalidOrders_InvalidRow, em3_mk a_InvalidOrders a_InvalidTable em_InvalidOrders_InvalidTable, em3_mk a_InvalidOrders a_InvalidTree em_InvalidOrders_InvalidTree, em3_mk a_InvalidOrders a_InvalidWeights em_InvalidOrders_InvalidWeights, em3_mk a_InvalidOrders a_InvalidWord em_InvalidOrders_InvalidWord, em3_mk a_InvalidOrders a_ParseError em_InvalidOrders_ParseError, em3_mk a_InvalidOrders a_TowerError em_InvalidOrders_TowerError, em3_mk a_InvalidPaper a_InvalidCurve em_InvalidPaper_InvalidCurve, em3_mk a_InvalidPaper a_InvalidOperation em_InvalidPaper_InvalidOperation, em3_mk a_InvalidPaper a_InvalidOrders em_InvalidPaper_InvalidOrders, em3_mk a_InvalidPaper a_InvalidPaper em_InvalidPaper_InvalidPaper, em3_mk a_InvalidPaper a_InvalidPlait em_InvalidPaper_InvalidPlait, em3_mk a_InvalidPaper a_InvalidPlane em_InvalidPaper_InvalidPlane, em3_mk a_InvalidPaper a_InvalidPoint em_InvalidPaper_InvalidPoint, em3_mk a_InvalidPaper a_InvalidPrime em_InvalidPaper_InvalidPrime, em3_mk a_InvalidPaper a_InvalidRow em_InvalidPaper_InvalidRow, em3_mk a_InvalidPaper a_InvalidTable em_InvalidPaper_InvalidTable, em3_mk a_InvalidPaper a_InvalidTree em_InvalidPaper_InvalidTree, em3_mk a_InvalidPaper a_InvalidWeights em_InvalidPaper_InvalidWeights, em3_mk a_InvalidPaper a_InvalidWord em_InvalidPaper_InvalidWord, em3_mk a_InvalidPaper a_ParseError em_InvalidPaper_ParseError, em3_mk a_InvalidPaper a_TowerError em_InvalidPaper_TowerError, em3_mk a_InvalidPlait a_InvalidCurve em_InvalidPlait_InvalidCurve, em3_mk a_InvalidPlait a_InvalidOperation em_InvalidPlait_InvalidOperation, em3_mk a_InvalidPlait a_InvalidOrders em_InvalidPlait_InvalidOrders, em3_mk a_InvalidPlait a_InvalidPaper em_InvalidPlait_InvalidPaper, em3_mk a_InvalidPlait a_InvalidPlait em_InvalidPlait_InvalidPlait, em3_mk a_InvalidPlait a_InvalidPlane em_InvalidPlait_InvalidPlane, em3_mk a_InvalidPlait a_InvalidPoint em_InvalidPlait_InvalidPoint, em3_mk a_InvalidPlait a_InvalidPrime em_InvalidPlait_InvalidPrime, em3_mk a_InvalidPlait a_InvalidRow em_InvalidPlait_InvalidRow, em3_mk a_InvalidPlait a_InvalidTable em_InvalidPlait_InvalidTable, em3_mk a_InvalidPlait a_InvalidTree em_InvalidPlait_InvalidTree, em3_mk a_InvalidPlait a_InvalidWeights em_InvalidPlait_InvalidWeights, em3_mk a_InvalidPlait a_InvalidWord em_InvalidPlait_InvalidWord, em3_mk a_InvalidPlait a_ParseError em_InvalidPlait_ParseError, em3_mk a_InvalidPlait a_TowerError em_InvalidPlait_TowerError, em3_mk a_InvalidPlane a_InvalidCurve em_InvalidPlane_InvalidCurve, em3_mk a_InvalidPlane a_InvalidOperation em_InvalidPlane_InvalidOperation, em3_mk a_InvalidPlane a_InvalidOrders em_InvalidPlane_InvalidOrders, em3_mk a_InvalidPlane a_InvalidPaper em_InvalidPlane_InvalidPaper, em3_mk a_InvalidPlane a_InvalidPlait em_InvalidPlane_InvalidPlait, em3_mk a_InvalidPlane a_InvalidPlane em_InvalidPlane_InvalidPlane, em3_mk a_InvalidPlane a_InvalidPoint em_InvalidPlane_InvalidPoint, em3_mk a_InvalidPlane a_InvalidPrime em_InvalidPlane_InvalidPrime, em3_mk a_InvalidPlane a_InvalidRow em_InvalidPlane_InvalidRow, em3_mk a_InvalidPlane a_InvalidTable em_InvalidPlane_InvalidTable, em3_mk a_InvalidPlane a_InvalidTree em_InvalidPlane_InvalidTree, em3_mk a_InvalidPlane a_InvalidWeights em_InvalidPlane_InvalidWeights, em3_mk a_InvalidPlane a_InvalidWord em_InvalidPlane_InvalidWord, em3_mk a_InvalidPlane a_ParseError em_InvalidPlane_ParseError, em3_mk a_InvalidPlane a_TowerError em_InvalidPlane_TowerError, em3_mk a_InvalidPoint a_InvalidCurve em_InvalidPoint_InvalidCurve, em3_mk a_InvalidPoint a_InvalidOperation em_InvalidPoint_InvalidOperation, em3_mk a_InvalidPoint a_InvalidOrders em_InvalidPoint_InvalidOrders, em3_mk a_InvalidPoint a_InvalidPaper em_InvalidPoint_InvalidPaper, em3_mk a_InvalidPoint a_InvalidPlait em_InvalidPoint_InvalidPlait, em3_mk a_InvalidPoint a_InvalidPlane em_InvalidPoint_InvalidPlane, em3_mk a_InvalidPoint a_InvalidPoint em_InvalidPoint_InvalidPoint, em3_mk a_InvalidPoint a_InvalidPrime em_InvalidPoint_InvalidPrime, em3_mk a_InvalidPoint a_InvalidRow em_InvalidPoint_InvalidRow, em3_mk a_InvalidPoint a_InvalidTable em_InvalidPoint_InvalidTable, em3_mk a_InvalidPoint a_InvalidTree em_InvalidPoint_InvalidTree, em3_mk a_InvalidPoint a_InvalidWeights em_InvalidPoint_InvalidWeights, em3_mk a_InvalidPoint a_InvalidWord em_InvalidPoint_InvalidWord, em3_mk a_InvalidPoint a_ParseError em_InvalidPoint_ParseError, em3_mk a_InvalidPoint a_TowerError em_InvalidPoint_TowerError, em3_mk a_InvalidPrime a_InvalidCurve em_InvalidPrime_InvalidCurve, em3_mk a_InvalidPrime a_InvalidOperation em_InvalidPrime_InvalidOperation, em3_mk a_InvalidPrime a_InvalidOrders em_InvalidPrime_InvalidOrders, em3_mk a_InvalidPrime a_InvalidPaper em_InvalidPrime_InvalidPaper, em3_mk a_InvalidPrime a_InvalidPlait em_InvalidPrime_InvalidPlait, em3_mk a_InvalidPrime a_InvalidPlane em_InvalidPrime_InvalidPlane, em3_mk a_InvalidPrime a_InvalidPoint em_InvalidPrime_InvalidPoint, em3_mk a_InvalidPrime a_InvalidPrime em_InvalidPrime_InvalidPrime, em3_mk a_InvalidPrime a_InvalidRow em_InvalidPrime_InvalidRow, em3_mk a_InvalidPrime a_InvalidTable em_InvalidPrime_InvalidTable, em3_mk a_InvalidPrime a_InvalidTree em_InvalidPrime_InvalidTree, em3_mk a_InvalidPrime a_InvalidWeights em_InvalidPrime_InvalidWeights, em3_mk a_InvalidPrime a_InvalidWord em_InvalidPrime_InvalidWord, em3_mk a_InvalidPrime a_ParseError em_InvalidPrime_ParseError, em3_mk a_InvalidPrime a_TowerError em_InvalidPrime_TowerError, em3_mk a_InvalidRow a_InvalidCurve em_InvalidRow_InvalidCurve, em3_mk a_InvalidRow a_InvalidOperation em_InvalidRow_InvalidOperation, em3_mk a_InvalidRow a_InvalidOrders em_InvalidRow_InvalidOrders, em3_mk a_InvalidRow a_InvalidPaper em_InvalidRow_InvalidPaper, em3_mk a_InvalidRow a_InvalidPlait em_InvalidRow_InvalidPlait, em3_mk a_InvalidRow a_InvalidPlane em_InvalidRow_InvalidPlane, em3_mk a_InvalidRow a_InvalidPoint em_InvalidRow_InvalidPoint, em3_mk a_InvalidRow a_InvalidPrime em_InvalidRow_InvalidPrime, em3_mk a_InvalidRow a_InvalidRow em_InvalidRow_InvalidRow, em3_mk a_InvalidRow a_InvalidTable em_InvalidRow_InvalidTable, em3_mk a_InvalidRow a_InvalidTree em_InvalidRow_InvalidTree, em3_mk a_InvalidRow a_InvalidWeights em_InvalidRow_InvalidWeights, em3_mk a_InvalidRow a_InvalidWord em_InvalidRow_InvalidWord, em3_mk a_InvalidRow a_ParseError em_InvalidRow_ParseError, em3_mk a_InvalidRow a_TowerError em_InvalidRow_TowerError, em3_mk a_InvalidTable a_InvalidCurve em_InvalidTable_InvalidCurve, em3_mk a_InvalidTable a_InvalidOperation em_InvalidTable_InvalidOperation, em3_mk a_InvalidTable a_InvalidOrders em_InvalidTable_InvalidOrders, em3_mk a_InvalidTable a_InvalidPaper em_InvalidTable_InvalidPaper, em3_mk a_InvalidTable a_InvalidPlait em_InvalidTable_InvalidPlait, em3_mk a_InvalidTable a_InvalidPlane em_InvalidTable_InvalidPlane, em3_mk a_InvalidTable a_InvalidPoint em_InvalidTable_InvalidPoint, em3_mk a_InvalidTable a_InvalidPrime em_InvalidTable_InvalidPrime, em3_mk a_InvalidTable a_InvalidRow em_InvalidTable_InvalidRow, em3_mk a_InvalidTable a_InvalidTable em_InvalidTable_InvalidTable, em3_mk a_InvalidTable a_InvalidTree em_InvalidTable_InvalidTree, em3_mk a_InvalidTable a_InvalidWeights em_InvalidTable_InvalidWeights, em3_mk a_InvalidTable a_InvalidWord em_InvalidTable_InvalidWord, em3_mk a_InvalidTable a_ParseError em_InvalidTable_ParseError, em3_mk a_InvalidTable a_TowerError em_InvalidTable_TowerError, em3_mk a_InvalidTree a_InvalidCurve em_InvalidTree_InvalidCurve, em3_mk a_InvalidTree a_InvalidOperation em_InvalidTree_InvalidOperation, em3_mk a_InvalidTree a_InvalidOrders em_InvalidTree_InvalidOrders, em3_mk a_InvalidTree a_InvalidPaper em_InvalidTree_InvalidPaper, em3_mk a_InvalidTree a_InvalidPlait em_InvalidTree_InvalidPlait, em3_mk a_InvalidTree a_InvalidPlane em_InvalidTree_InvalidPlane, em3_mk a_InvalidTree a_InvalidPoint em_InvalidTree_InvalidPoint, em3_mk a_InvalidTree a_InvalidPrime em_InvalidTree_InvalidPrime, em3_mk a_InvalidTree a_InvalidRow em_InvalidTree_InvalidRow, em3_mk a_InvalidTree a_InvalidTable em_InvalidTree_InvalidTable, em3_mk a_InvalidTree a_InvalidTree em_InvalidTree_InvalidTree, em3_mk a_InvalidTree a_InvalidWeights em_InvalidTree_InvalidWeights, em3_mk a_InvalidTree a_InvalidWord em_InvalidTree_InvalidWord, em3_mk a_InvalidTree a_ParseError em_InvalidTree_ParseError, em3_mk a_InvalidTree a_TowerError em_InvalidTree_TowerError, em3_mk a_InvalidWeights a_InvalidCurve em_InvalidWeights_InvalidCurve, em3_mk a_InvalidWeights a_InvalidOperation em_InvalidWeights_InvalidOperation, em3_mk a_InvalidWeights a_InvalidOrders em_InvalidWeights_InvalidOrders, em3_mk a_InvalidWeights a_InvalidPaper em_InvalidWeights_InvalidPaper, em3_mk a_InvalidWeights a_InvalidPlait em_InvalidWeights_InvalidPlait, em3_mk a_InvalidWeights a_InvalidPlane em_InvalidWeights_InvalidPlane, em3_mk a_InvalidWeights a_InvalidPoint em_InvalidWeights_InvalidPoint, em3_mk a_InvalidWeights a_InvalidPrime em_InvalidWeights_InvalidPrime, em3_mk a_InvalidWeights a_InvalidRow em_InvalidWeights_InvalidRow, em3_mk a_InvalidWeights a_InvalidTable em_InvalidWeights_InvalidTable, em3_mk a_InvalidWeights a_InvalidTree em_InvalidWeights_InvalidTree, em3_mk a_InvalidWeights a_InvalidWeights em_InvalidWeights_InvalidWeights, em3_mk a_InvalidWeights a_InvalidWord em_InvalidWeights_InvalidWord, em3_mk a_InvalidWeights a_ParseError em_InvalidWeights_ParseError, em3_mk a_InvalidWeights a_TowerError em_InvalidWeights_TowerError, em3_mk a_InvalidWord a_InvalidCurve em_InvalidWord_InvalidCurve, em3_mk a_InvalidWord a_InvalidOperation em_InvalidWord_InvalidOperation, em3_mk a_InvalidWord a_InvalidOrders em_InvalidWord_InvalidOrders, em3_mk a_InvalidWord a_InvalidPaper em_InvalidWord_InvalidPaper, em3_mk a_InvalidWord a_InvalidPlait em_InvalidWord_InvalidPlait, em3_mk a_InvalidWord a_InvalidPlane em_InvalidWord_InvalidPlane, em3_mk a_InvalidWord a_InvalidPoint em_InvalidWord_InvalidPoint, em3_mk a_InvalidWord a_InvalidPrime em_InvalidWord_InvalidPrime, em3_mk a_InvalidWord a_InvalidRow em_InvalidWord_InvalidRow, em3_mk a_InvalidWord a_InvalidTable em_InvalidWord_InvalidTable, em3_mk a_InvalidWord a_InvalidTree em_InvalidWord_InvalidTree, em3_mk a_InvalidWord a_InvalidWeights em_InvalidWord_InvalidWeights, em3_mk a_InvalidWord a_InvalidWord em_InvalidWord_InvalidWord, em3_mk a_InvalidWord a_ParseError em_InvalidWord_ParseError, em3_mk a_InvalidWord a_TowerError em_InvalidWord_TowerError, em3_mk a_NothingToUndo a_InvalidCount em_NothingToUndo_InvalidCount, em3_mk a_NothingToUndo a_NothingToUndo em_NothingToUndo_NothingToUndo, em3_mk a_NothingToUndo a_ParseError em_NothingToUndo_ParseError, em3_mk a_NothingToUndo a_Refused em_NothingToUndo_Refused, em3_mk a_NothingToUndo a_TooMany em_NothingToUndo_TooMany, em3_mk a_NothingToUndo a_TowerError em_NothingToUndo_TowerError, em3_mk a_NothingToUndo a_UnknownName em_NothingToUndo_UnknownName, em3_mk a_ParseError a_InvalidCount em_ParseError_InvalidCount, em3_mk a_ParseError a_NothingToUndo em_ParseError_NothingToUndo, em3_mk a_ParseError a_ParseError em_ParseError_ParseError, em3_mk a_ParseError a_Refused em_ParseError_Refused, em3_mk a_ParseError a_TooMany em_ParseError_TooMany, em3_mk a_ParseError a_TowerError em_ParseError_TowerError, em3_mk a_ParseError a_UnknownName em_ParseError_UnknownName, em3_mk a_Refused a_InvalidCount em_Refused_InvalidCount, em3_mk a_Refused a_NothingToUndo em_Refused_NothingToUndo, em3_mk a_Refused a_ParseError em_Refused_ParseError, em3_mk a_Refused a_Refused em_Refused_Refused, em3_mk a_Refused a_TooMany em_Refused_TooMany, em3_mk a_Refused a_TowerError em_Refused_TowerError, em3_mk a_Refused a_UnknownName em_Refused_UnknownName, em3_mk a_TooMany a_InvalidCount em_TooMany_InvalidCount, em3_mk a_TooMany a_NothingToUndo em_TooMany_NothingToUndo, em3_mk a_TooMany a_ParseError em_TooMany_ParseError, em3_mk a_TooMany a_Refused em_TooMany_Refused, em3_mk a_TooMany a_TooMany em_TooMany_TooMany, em3_mk a_TooMany a_TowerError em_TooMany_TowerError, em3_mk a_TooMany a_UnknownName em_TooMany_UnknownName, em3_mk a_UnknownName a_InvalidCount em_UnknownName_InvalidCount, em3_mk a_UnknownName a_NothingToUndo em_UnknownName_NothingToUndo, em3_mk a_UnknownName a_ParseError em_UnknownName_ParseError, em3_mk a_UnknownName a_Refused em_UnknownName_Refused, em3_mk a_UnknownName a_TooMany em_UnknownName_TooMany, em3_mk a_UnknownName a_TowerError em_UnknownName_TowerError, em3_mk a_UnknownName a_UnknownName em_UnknownName_UnknownName⟩
  have e := hfa.symm.trans (PySem.W.mg_of X G a_law)
  cases e
  refine ⟨PySem.W.fnOf "law" "law" (defArgs s_law) (defBody s_law) (defScope s_law) .none kV_law dc_law pm_law an_law (.ref cd_law) ct_law, [], sp_law, ?_, ?_, fun s v => .of_eq rfl, fun base _ _ htb => ?_, ?_⟩
  · intro t ht; cases ht
  · exact List.nodup_nil
  · exact ok_atG (all_law (P := l.prog) (w := w) (base := base) (T := T) (defAt_mk X G a__law_dice l__law_dice c__law_dice k__law_dice) (defAt_mk X G a__law_roll l__law_roll c__law_roll k__law_roll) (defAt_mk X G a__law_raise_first l__law_raise_first c__law_raise_first k__law_raise_first) (defAt_mk X G a__law_raise_kept l__law_raise_kept c__law_raise_kept k__law_raise_kept) (defAt_mk X G a__law_pick l__law_pick c__law_pick k__law_pick) (defAt_mk X G a__law_caught l__law_caught c__law_caught k__law_caught) (defAt_mk X G a__law_caught_back l__law_caught_back c__law_caught_back k__law_caught_back) (defAt_mk X G a__law_kept l__law_kept c__law_kept k__law_kept) (defAt_mk X G a__law_is_first l__law_is_first c__law_is_first k__law_is_first) (defAt_mk X G a__law_kept_first l__law_kept_first c__law_kept_first k__law_kept_first) (defAtC_mk X G a__law_right l__law_right c__law_right k__law_right) (defAtC_mk X G a_law l_law c_law k_law)  ) (PySem.W.mg_of X G a_law) l_law
  · exact fun ns h => law_holds ns h
end K01
open PySem PySem.W PyProof.Rows in
set_option maxRecDepth 100000 in
set_option maxHeartbeats 0 in
theorem PySem.Challenge.cw_touchtowers_k01_errors_and_what_they_kee_holds : PySem.Challenge.rw_touchtowers_k01_errors_and_what_they_kee.Holds := by
  w_on; o_law; k_head; (case hw => w_witness2)
  k_fill
  first
  | refine L3.walk3G (l := PySem.Challenge.rw_touchtowers_k01_errors_and_what_they_kee) (k := 5) (x := "_law_script") (n := 63) rfl (by decide) rfl ⟨rfl, by decide, by decide⟩ (fun w h Y => PySem.W.km_in_of Y) ?F
  | refine L3.walk3G (l := PySem.Challenge.rw_touchtowers_k01_errors_and_what_they_kee) (k := 5) (x := "_law_script") (n := 63) rfl (by decide) rfl ⟨rfl, by decide, by decide⟩ (fun w h Y => PySem.W.kIn_of Y) ?F
  case F =>
    intro w mg fa h KX G hmg
    refine' K01.all_mk rfl KX G hmg ?n_abs ?n_int ?n_len ?n_max ?n_min ?n_range ?n_repr ?a_InvalidCount ?a_InvalidCurve ?a_InvalidOperation ?a_InvalidOrders ?a_InvalidPaper ?a_InvalidPlait ?a_InvalidPlane ?a_InvalidPoint ?a_InvalidPrime ?a_InvalidRow ?a_InvalidTable ?a_InvalidTree ?a_InvalidWeights ?a_InvalidWord ?a_NothingToUndo ?a_ParseError ?a_Refused ?a_TooMany ?a_TowerError ?a_UnknownName ?xe_InvalidCurve ?xk_InvalidCurve ?xs_InvalidCurve ?xt_InvalidCurve ?xe_InvalidOperation ?xk_InvalidOperation ?xs_InvalidOperation ?xt_InvalidOperation ?xe_InvalidOrders ?xk_InvalidOrders ?xs_InvalidOrders ?xt_InvalidOrders ?xe_InvalidPaper ?xk_InvalidPaper ?xs_InvalidPaper ?xt_InvalidPaper ?xe_InvalidPlait ?xk_InvalidPlait ?xs_InvalidPlait ?xt_InvalidPlait ?xe_InvalidPlane ?xk_InvalidPlane ?xs_InvalidPlane ?xt_InvalidPlane ?xe_InvalidPoint ?xk_InvalidPoint ?xs_InvalidPoint ?xt_InvalidPoint ?xe_InvalidPrime ?xk_InvalidPrime ?xs_InvalidPrime ?xt_InvalidPrime ?xe_InvalidRow ?xk_InvalidRow ?xs_InvalidRow ?xt_InvalidRow ?xe_InvalidTable ?xk_InvalidTable ?xs_InvalidTable ?xt_InvalidTable ?xe_InvalidTree ?xk_InvalidTree ?xs_InvalidTree ?xt_InvalidTree ?xe_InvalidWeights ?xk_InvalidWeights ?xs_InvalidWeights ?xt_InvalidWeights ?xe_InvalidWord ?xk_InvalidWord ?xs_InvalidWord ?xt_InvalidWord ?n_super ?opq ?y1_InvalidCount ?y2_InvalidCount ?y3_InvalidCount ?y4_InvalidCount ?y5_InvalidCount ?y6_InvalidCount ?y7_InvalidCount ?y8_InvalidCount ?y9_InvalidCount ?y10_InvalidCount ?y11_InvalidCount ?y12_InvalidCount ?y13_InvalidCount ?y14_InvalidCount ?y15_InvalidCount ?y16_InvalidCount ?y17_InvalidCount ?y18_InvalidCount ?y19_InvalidCount ?y20_InvalidCount ?y1_NothingToUndo ?y2_NothingToUndo ?y3_NothingToUndo ?y4_NothingToUndo ?y5_NothingToUndo ?y6_NothingToUndo ?y7_NothingToUndo ?y8_NothingToUndo ?y9_NothingToUndo ?y10_NothingToUndo ?y11_NothingToUndo ?y12_NothingToUndo ?y13_NothingToUndo ?y14_NothingToUndo ?y15_NothingToUndo ?y16_NothingToUndo ?y17_NothingToUndo ?y18_NothingToUndo ?y19_NothingToUndo ?y20_NothingToUndo ?y1_ParseError ?y2_ParseError ?y3_ParseError ?y4_ParseError ?y5_ParseError ?y6_ParseError ?y7_ParseError ?y8_ParseError ?y9_ParseError ?y10_ParseError ?y11_ParseError ?y12_ParseError ?y13_ParseError ?y14_ParseError ?y15_ParseError ?y16_ParseError ?y17_ParseError ?y18_ParseError ?y19_ParseError ?y20_ParseError ?y1_Refused ?y2_Refused ?y3_Refused ?y4_Refused ?y5_Refused ?y6_Refused ?y7_Refused ?y8_Refused ?y9_Refused ?y10_Refused ?y11_Refused ?y12_Refused ?y13_Refused ?y14_Refused ?y15_Refused ?y16_Refused ?y17_Refused ?y18_Refused ?y19_Refused ?y20_Refused ?y1_TooMany ?y2_TooMany ?y3_TooMany ?y4_TooMany ?y5_TooMany ?y6_TooMany ?y7_TooMany ?y8_TooMany ?y9_TooMany ?y10_TooMany ?y11_TooMany ?y12_TooMany ?y13_TooMany ?y14_TooMany ?y15_TooMany ?y16_TooMany ?y17_TooMany ?y18_TooMany ?y19_TooMany ?y20_TooMany ?y1_UnknownName ?y2_UnknownName ?y3_UnknownName ?y4_UnknownName ?y5_UnknownName ?y6_UnknownName ?y7_UnknownName ?y8_UnknownName ?y9_UnknownName ?y10_UnknownName ?y11_UnknownName ?y12_UnknownName ?y13_UnknownName ?y14_UnknownName ?y15_UnknownName ?y16_UnknownName ?y17_UnknownName ?y18_UnknownName ?y19_UnknownName ?y20_UnknownName ?fg_InvalidCount ?fa_InvalidCount ?fs_InvalidCount ?fd_InvalidCount ?ff_InvalidCount ?fg_NothingToUndo ?fa_NothingToUndo ?fs_NothingToUndo ?fd_NothingToUndo ?ff_NothingToUndo ?fg_ParseError ?fa_ParseError ?fs_ParseError ?fd_ParseError ?ff_ParseError ?fg_Refused ?fa_Refused ?fs_Refused ?fd_Refused ?ff_Refused ?fg_TooMany ?fa_TooMany ?fs_TooMany ?fd_TooMany ?ff_TooMany ?fg_UnknownName ?fa_UnknownName ?fs_UnknownName ?fd_UnknownName ?ff_UnknownName ?em_InvalidCount_InvalidCount ?em_InvalidCount_NothingToUndo ?em_InvalidCount_ParseError ?em_InvalidCount_Refused ?em_InvalidCount_TooMany ?em_InvalidCount_TowerError ?em_InvalidCount_UnknownName ?em_InvalidCurve_InvalidCurve ?em_InvalidCurve_InvalidOperation ?em_InvalidCurve_InvalidOrders ?em_InvalidCurve_InvalidPaper ?em_InvalidCurve_InvalidPlait ?em_InvalidCurve_InvalidPlane ?em_InvalidCurve_InvalidPoint ?em_InvalidCurve_InvalidPrime ?em_InvalidCurve_InvalidRow ?em_InvalidCurve_InvalidTable ?em_InvalidCurve_InvalidTree ?em_InvalidCurve_InvalidWeights ?em_InvalidCurve_InvalidWord ?em_InvalidCurve_ParseError ?em_InvalidCurve_TowerError ?em_InvalidOperation_InvalidCurve ?em_InvalidOperation_InvalidOperation ?em_InvalidOperation_InvalidOrders ?em_InvalidOperation_InvalidPaper ?em_InvalidOperation_InvalidPlait ?em_InvalidOperation_InvalidPlane ?em_InvalidOperation_InvalidPoint ?em_InvalidOperation_InvalidPrime ?em_InvalidOperation_InvalidRow ?em_InvalidOperation_InvalidTable ?em_InvalidOperation_InvalidTree ?em_InvalidOperation_InvalidWeights ?em_InvalidOperation_InvalidWord ?em_InvalidOperation_ParseError ?em_InvalidOperation_TowerError ?em_InvalidOrders_InvalidCurve ?em_InvalidOrders_InvalidOperation ?em_InvalidOrders_InvalidOrders ?em_InvalidOrders_InvalidPaper ?em_InvalidOrders_InvalidPlait ?em_InvalidOrders_InvalidPlane ?em_InvalidOrders_InvalidPoint ?em_InvalidOrders_InvalidPrime ?em_InvalidOrders_InvalidRow ?em_InvalidOrders_InvalidTable ?em_InvalidOrders_InvalidTree ?em_InvalidOrders_InvalidWeights ?em_InvalidOrders_InvalidWord ?em_InvalidOrders_ParseError ?em_InvalidOrders_TowerError ?em_InvalidPaper_InvalidCurve ?em_InvalidPaper_InvalidOperation ?em_InvalidPaper_InvalidOrders ?em_InvalidPaper_InvalidPaper ?em_InvalidPaper_InvalidPlait ?em_InvalidPaper_InvalidPlane ?em_InvalidPaper_InvalidPoint ?em_InvalidPaper_InvalidPrime ?em_InvalidPaper_InvalidRow ?em_InvalidPaper_InvalidTable ?em_InvalidPaper_InvalidTree ?em_InvalidPaper_InvalidWeights ?em_InvalidPaper_InvalidWord ?em_InvalidPaper_ParseError ?em_InvalidPaper_TowerError ?em_InvalidPlait_InvalidCurve ?em_InvalidPlait_InvalidOperation ?em_InvalidPlait_InvalidOrders ?em_InvalidPlait_InvalidPaper ?em_InvalidPlait_InvalidPlait ?em_InvalidPlait_InvalidPlane ?em_InvalidPlait_InvalidPoint ?em_InvalidPlait_InvalidPrime ?em_InvalidPlait_InvalidRow ?em_InvalidPlait_InvalidTable ?em_InvalidPlait_InvalidTree ?em_InvalidPlait_InvalidWeights ?em_InvalidPlait_InvalidWord ?em_InvalidPlait_ParseError ?em_InvalidPlait_TowerError ?em_InvalidPlane_InvalidCurve ?em_InvalidPlane_InvalidOperation ?em_InvalidPlane_InvalidOrders ?em_InvalidPlane_InvalidPaper ?em_InvalidPlane_InvalidPlait ?em_InvalidPlane_InvalidPlane ?em_InvalidPlane_InvalidPoint ?em_InvalidPlane_InvalidPrime ?em_InvalidPlane_InvalidRow ?em_InvalidPlane_InvalidTable ?em_InvalidPlane_InvalidTree ?em_InvalidPlane_InvalidWeights ?em_InvalidPlane_InvalidWord ?em_InvalidPlane_ParseError ?em_InvalidPlane_TowerError ?em_InvalidPoint_InvalidCurve ?em_InvalidPoint_InvalidOperation ?em_InvalidPoint_InvalidOrders ?em_InvalidPoint_InvalidPaper ?em_InvalidPoint_InvalidPlait ?em_InvalidPoint_InvalidPlane ?em_InvalidPoint_InvalidPoint ?em_InvalidPoint_InvalidPrime ?em_InvalidPoint_InvalidRow ?em_InvalidPoint_InvalidTable ?em_InvalidPoint_InvalidTree ?em_InvalidPoint_InvalidWeights ?em_InvalidPoint_InvalidWord ?em_InvalidPoint_ParseError ?em_InvalidPoint_TowerError ?em_InvalidPrime_InvalidCurve ?em_InvalidPrime_InvalidOperation ?em_InvalidPrime_InvalidOrders ?em_InvalidPrime_InvalidPaper ?em_InvalidPrime_InvalidPlait ?em_InvalidPrime_InvalidPlane ?em_InvalidPrime_InvalidPoint ?em_InvalidPrime_InvalidPrime ?em_InvalidPrime_InvalidRow ?em_InvalidPrime_InvalidTable ?em_InvalidPrime_InvalidTree ?em_InvalidPrime_InvalidWeights ?em_InvalidPrime_InvalidWord ?em_InvalidPrime_ParseError ?em_InvalidPrime_TowerError ?em_InvalidRow_InvalidCurve ?em_InvalidRow_InvalidOperation ?em_InvalidRow_InvalidOrders ?em_InvalidRow_InvalidPaper ?em_InvalidRow_InvalidPlait ?em_InvalidRow_InvalidPlane ?em_InvalidRow_InvalidPoint ?em_InvalidRow_InvalidPrime ?em_InvalidRow_InvalidRow ?em_InvalidRow_InvalidTable ?em_InvalidRow_InvalidTree ?em_InvalidRow_InvalidWeights ?em_InvalidRow_InvalidWord ?em_InvalidRow_ParseError ?em_InvalidRow_TowerError ?em_InvalidTable_InvalidCurve ?em_InvalidTable_InvalidOperation ?em_InvalidTable_InvalidOrders ?em_InvalidTable_InvalidPaper ?em_InvalidTable_InvalidPlait ?em_InvalidTable_InvalidPlane ?em_InvalidTable_InvalidPoint ?em_InvalidTable_InvalidPrime ?em_InvalidTable_InvalidRow ?em_InvalidTable_InvalidTable ?em_InvalidTable_InvalidTree ?em_InvalidTable_InvalidWeights ?em_InvalidTable_InvalidWord ?em_InvalidTable_ParseError ?em_InvalidTable_TowerError ?em_InvalidTree_InvalidCurve ?em_InvalidTree_InvalidOperation ?em_InvalidTree_InvalidOrders ?em_InvalidTree_InvalidPaper ?em_InvalidTree_InvalidPlait ?em_InvalidTree_InvalidPlane ?em_InvalidTree_InvalidPoint ?em_InvalidTree_InvalidPrime ?em_InvalidTree_InvalidRow ?em_InvalidTree_InvalidTable ?em_InvalidTree_InvalidTree ?em_InvalidTree_InvalidWeights ?em_InvalidTree_InvalidWord ?em_InvalidTree_ParseError ?em_InvalidTree_TowerError ?em_InvalidWeights_InvalidCurve ?em_InvalidWeights_InvalidOperation ?em_InvalidWeights_InvalidOrders ?em_InvalidWeights_InvalidPaper ?em_InvalidWeights_InvalidPlait ?em_InvalidWeights_InvalidPlane ?em_InvalidWeights_InvalidPoint ?em_InvalidWeights_InvalidPrime ?em_InvalidWeights_InvalidRow ?em_InvalidWeights_InvalidTable ?em_InvalidWeights_InvalidTree ?em_InvalidWeights_InvalidWeights ?em_InvalidWeights_InvalidWord ?em_InvalidWeights_ParseError ?em_InvalidWeights_TowerError ?em_InvalidWord_InvalidCurve ?em_InvalidWord_InvalidOperation ?em_InvalidWord_InvalidOrders ?em_InvalidWord_InvalidPaper ?em_InvalidWord_InvalidPlait ?em_InvalidWord_InvalidPlane ?em_InvalidWord_InvalidPoint ?em_InvalidWord_InvalidPrime ?em_InvalidWord_InvalidRow ?em_InvalidWord_InvalidTable ?em_InvalidWord_InvalidTree ?em_InvalidWord_InvalidWeights ?em_InvalidWord_InvalidWord ?em_InvalidWord_ParseError ?em_InvalidWord_TowerError ?em_NothingToUndo_InvalidCount ?em_NothingToUndo_NothingToUndo ?em_NothingToUndo_ParseError ?em_NothingToUndo_Refused ?em_NothingToUndo_TooMany ?em_NothingToUndo_TowerError ?em_NothingToUndo_UnknownName ?em_ParseError_InvalidCount ?em_ParseError_NothingToUndo ?em_ParseError_ParseError ?em_ParseError_Refused ?em_ParseError_TooMany ?em_ParseError_TowerError ?em_ParseError_UnknownName ?em_Refused_InvalidCount ?em_Refused_NothingToUndo ?em_Refused_ParseError ?em_Refused_Refused ?em_Refused_TooMany ?em_Refused_TowerError ?em_Refused_UnknownName ?em_TooMany_InvalidCount ?em_TooMany_NothingToUndo ?em_TooMany_ParseError ?em_TooMany_Refused ?em_TooMany_TooMany ?em_TooMany_TowerError ?em_TooMany_UnknownName ?em_UnknownName_InvalidCount ?em_UnknownName_NothingToUndo ?em_UnknownName_ParseError ?em_UnknownName_Refused ?em_UnknownName_TooMany ?em_UnknownName_TowerError ?em_UnknownName_UnknownName ?a__law_dice ?l__law_dice ?c__law_dice ?k__law_dice ?a__law_roll ?l__law_roll ?c__law_roll ?k__law_roll ?a__law_raise_first ?l__law_raise_first ?c__law_raise_first ?k__law_raise_first ?a__law_raise_kept ?l__law_raise_kept ?c__law_raise_kept ?k__law_raise_kept ?a__law_pick ?l__law_pick ?c__law_pick ?k__law_pick ?a__law_caught ?l__law_caught ?c__law_caught ?k__law_caught ?a__law_caught_back ?l__law_caught_back ?c__law_caught_back ?k__law_caught_back ?a__law_kept ?l__law_kept ?c__law_kept ?k__law_kept ?a__law_is_first ?l__law_is_first ?c__law_is_first ?k__law_is_first ?a__law_kept_first ?l__law_kept_first ?c__law_kept_first ?k__law_kept_first ?a__law_right ?l__law_right ?c__law_right ?k__law_right ?a_law ?l_law ?c_law ?k_law
    (case n_abs => k_is)
    (case n_int => k_is)
    (case n_len => k_is)
    (case n_max => k_is)
    (case n_min => k_is)
    (case n_range => k_is)
    (case n_repr => k_is)
    (case a_InvalidCount => k_is)
    (case a_InvalidCurve => k_is)
    (case a_InvalidOperation => k_is)
    (case a_InvalidOrders => k_is)
    (case a_InvalidPaper => k_is)
    (case a_InvalidPlait => k_is)
    (case a_InvalidPlane => k_is)
    (case a_InvalidPoint => k_is)
    (case a_InvalidPrime => k_is)
    (case a_InvalidRow => k_is)
    (case a_InvalidTable => k_is)
    (case a_InvalidTree => k_is)
    (case a_InvalidWeights => k_is)
    (case a_InvalidWord => k_is)
    (case a_NothingToUndo => k_is)
    (case a_ParseError => k_is)
    (case a_Refused => k_is)
    (case a_TooMany => k_is)
    (case a_TowerError => k_is)
    (case a_UnknownName => k_is)
    (case xe_InvalidCurve => first | rfl | decide +kernel | kernel_rfl)
    (case xk_InvalidCurve => k_is)
    (case xs_InvalidCurve => k_is)
    (case xt_InvalidCurve => k_is)
    (case xe_InvalidOperation => first | rfl | decide +kernel | kernel_rfl)
    (case xk_InvalidOperation => k_is)
    (case xs_InvalidOperation => k_is)
    (case xt_InvalidOperation => k_is)
    (case xe_InvalidOrders => first | rfl | decide +kernel | kernel_rfl)
    (case xk_InvalidOrders => k_is)
    (case xs_InvalidOrders => k_is)
    (case xt_InvalidOrders => k_is)
    (case xe_InvalidPaper => first | rfl | decide +kernel | kernel_rfl)
    (case xk_InvalidPaper => k_is)
    (case xs_InvalidPaper => k_is)
    (case xt_InvalidPaper => k_is)
    (case xe_InvalidPlait => first | rfl | decide +kernel | kernel_rfl)
    (case xk_InvalidPlait => k_is)
    (case xs_InvalidPlait => k_is)
    (case xt_InvalidPlait => k_is)
    (case xe_InvalidPlane => first | rfl | decide +kernel | kernel_rfl)
    (case xk_InvalidPlane => k_is)
    (case xs_InvalidPlane => k_is)
    (case xt_InvalidPlane => k_is)
    (case xe_InvalidPoint => first | rfl | decide +kernel | kernel_rfl)
    (case xk_InvalidPoint => k_is)
    (case xs_InvalidPoint => k_is)
    (case xt_InvalidPoint => k_is)
    (case xe_InvalidPrime => first | rfl | decide +kernel | kernel_rfl)
    (case xk_InvalidPrime => k_is)
    (case xs_InvalidPrime => k_is)
    (case xt_InvalidPrime => k_is)
    (case xe_InvalidRow => first | rfl | decide +kernel | kernel_rfl)
    (case xk_InvalidRow => k_is)
    (case xs_InvalidRow => k_is)
    (case xt_InvalidRow => k_is)
    (case xe_InvalidTable => first | rfl | decide +kernel | kernel_rfl)
    (case xk_InvalidTable => k_is)
    (case xs_InvalidTable => k_is)
    (case xt_InvalidTable => k_is)
    (case xe_InvalidTree => first | rfl | decide +kernel | kernel_rfl)
    (case xk_InvalidTree => k_is)
    (case xs_InvalidTree => k_is)
    (case xt_InvalidTree => k_is)
    (case xe_InvalidWeights => first | rfl | decide +kernel | kernel_rfl)
    (case xk_InvalidWeights => k_is)
    (case xs_InvalidWeights => k_is)
    (case xt_InvalidWeights => k_is)
    (case xe_InvalidWord => first | rfl | decide +kernel | kernel_rfl)
    (case xk_InvalidWord => k_is)
    (case xs_InvalidWord => k_is)
    (case xt_InvalidWord => k_is)
    (case n_super => k_is)
    (case opq => k_is)
    (case y1_InvalidCount => first | rfl | decide +kernel | kernel_rfl)
    (case y2_InvalidCount => k_is)
    (case y3_InvalidCount => first | rfl | decide +kernel | kernel_rfl)
    (case y4_InvalidCount => k_is)
    (case y5_InvalidCount => k_is)
    (case y6_InvalidCount => k_is)
    (case y7_InvalidCount => k_is)
    (case y8_InvalidCount => k_is)
    (case y9_InvalidCount => k_is)
    (case y10_InvalidCount => k_is)
    (case y11_InvalidCount => k_is)
    (case y12_InvalidCount => first | rfl | decide +kernel | kernel_rfl)
    (case y13_InvalidCount => k_is)
    (case y14_InvalidCount => k_is)
    (case y15_InvalidCount => first | k_is | exact rfl)
    (case y16_InvalidCount => k_is)
    (case y17_InvalidCount => k_is)
    (case y18_InvalidCount => k_is)
    (case y19_InvalidCount => rfl)
    (case y20_InvalidCount => exact XS.supRest_by rfl (fun _ _ => rfl) rfl (by decide +kernel) (by decide +kernel) (fun L fI => ⟨_, rfl⟩))
    (case y1_NothingToUndo => first | rfl | decide +kernel | kernel_rfl)
    (case y2_NothingToUndo => k_is)
    (case y3_NothingToUndo => first | rfl | decide +kernel | kernel_rfl)
    (case y4_NothingToUndo => k_is)
    (case y5_NothingToUndo => k_is)
    (case y6_NothingToUndo => k_is)
    (case y7_NothingToUndo => k_is)
    (case y8_NothingToUndo => k_is)
    (case y9_NothingToUndo => k_is)
    (case y10_NothingToUndo => k_is)
    (case y11_NothingToUndo => k_is)
    (case y12_NothingToUndo => first | rfl | decide +kernel | kernel_rfl)
    (case y13_NothingToUndo => k_is)
    (case y14_NothingToUndo => k_is)
    (case y15_NothingToUndo => first | k_is | exact rfl)
    (case y16_NothingToUndo => k_is)
    (case y17_NothingToUndo => k_is)
    (case y18_NothingToUndo => k_is)
    (case y19_NothingToUndo => rfl)
    (case y20_NothingToUndo => exact XS.supRest_by rfl (fun _ _ => rfl) rfl (by decide +kernel) (by decide +kernel) (fun L fI => ⟨_, rfl⟩))
    (case y1_ParseError => first | rfl | decide +kernel | kernel_rfl)
    (case y2_ParseError => k_is)
    (case y3_ParseError => first | rfl | decide +kernel | kernel_rfl)
    (case y4_ParseError => k_is)
    (case y5_ParseError => k_is)
    (case y6_ParseError => k_is)
    (case y7_ParseError => k_is)
    (case y8_ParseError => k_is)
    (case y9_ParseError => k_is)
    (case y10_ParseError => k_is)
    (case y11_ParseError => k_is)
    (case y12_ParseError => first | rfl | decide +kernel | kernel_rfl)
    (case y13_ParseError => k_is)
    (case y14_ParseError => k_is)
    (case y15_ParseError => first | k_is | exact rfl)
    (case y16_ParseError => k_is)
    (case y17_ParseError => k_is)
    (case y18_ParseError => k_is)
    (case y19_ParseError => rfl)
    (case y20_ParseError => exact XS.supRest_by rfl (fun _ _ => rfl) rfl (by decide +kernel) (by decide +kernel) (fun L fI => ⟨_, rfl⟩))
    (case y1_Refused => first | rfl | decide +kernel | kernel_rfl)
    (case y2_Refused => k_is)
    (case y3_Refused => first | rfl | decide +kernel | kernel_rfl)
    (case y4_Refused => k_is)
    (case y5_Refused => k_is)
    (case y6_Refused => k_is)
    (case y7_Refused => k_is)
    (case y8_Refused => k_is)
    (case y9_Refused => k_is)
    (case y10_Refused => k_is)
    (case y11_Refused => k_is)
    (case y12_Refused => first | rfl | decide +kernel | kernel_rfl)
    (case y13_Refused => k_is)
    (case y14_Refused => k_is)
    (case y15_Refused => first | k_is | exact rfl)
    (case y16_Refused => k_is)
    (case y17_Refused => k_is)
    (case y18_Refused => k_is)
    (case y19_Refused => rfl)
    (case y20_Refused => exact XS.supRest_by rfl (fun _ _ => rfl) rfl (by decide +kernel) (by decide +kernel) (fun L fI => ⟨_, rfl⟩))
    (case y1_TooMany => first | rfl | decide +kernel | kernel_rfl)
    (case y2_TooMany => k_is)
    (case y3_TooMany => first | rfl | decide +kernel | kernel_rfl)
    (case y4_TooMany => k_is)
    (case y5_TooMany => k_is)
    (case y6_TooMany => k_is)
    (case y7_TooMany => k_is)
    (case y8_TooMany => k_is)
    (case y9_TooMany => k_is)
    (case y10_TooMany => k_is)
    (case y11_TooMany => k_is)
    (case y12_TooMany => first | rfl | decide +kernel | kernel_rfl)
    (case y13_TooMany => k_is)
    (case y14_TooMany => k_is)
    (case y15_TooMany => first | k_is | exact rfl)
    (case y16_TooMany => k_is)
    (case y17_TooMany => k_is)
    (case y18_TooMany => k_is)
    (case y19_TooMany => rfl)
    (case y20_TooMany => exact XS.supRest_by rfl (fun _ _ => rfl) rfl (by decide +kernel) (by decide +kernel) (fun L fI => ⟨_, rfl⟩))
    (case y1_UnknownName => first | rfl | decide +kernel | kernel_rfl)
    (case y2_UnknownName => k_is)
    (case y3_UnknownName => first | rfl | decide +kernel | kernel_rfl)
    (case y4_UnknownName => k_is)
    (case y5_UnknownName => k_is)
    (case y6_UnknownName => k_is)
    (case y7_UnknownName => k_is)
    (case y8_UnknownName => k_is)
    (case y9_UnknownName => k_is)
    (case y10_UnknownName => k_is)
    (case y11_UnknownName => k_is)
    (case y12_UnknownName => first | rfl | decide +kernel | kernel_rfl)
    (case y13_UnknownName => k_is)
    (case y14_UnknownName => k_is)
    (case y15_UnknownName => first | k_is | exact rfl)
    (case y16_UnknownName => k_is)
    (case y17_UnknownName => k_is)
    (case y18_UnknownName => k_is)
    (case y19_UnknownName => rfl)
    (case y20_UnknownName => exact XS.supRest_by rfl (fun _ _ => rfl) rfl (by decide +kernel) (by decide +kernel) (fun L fI => ⟨_, rfl⟩))
    (case fg_InvalidCount => k_is)
    (case fa_InvalidCount => k_is)
    (case fs_InvalidCount => k_is)
    (case fd_InvalidCount => k_is)
    (case ff_InvalidCount => k_is)
    (case fg_NothingToUndo => k_is)
    (case fa_NothingToUndo => k_is)
    (case fs_NothingToUndo => k_is)
    (case fd_NothingToUndo => k_is)
    (case ff_NothingToUndo => k_is)
    (case fg_ParseError => k_is)
    (case fa_ParseError => k_is)
    (case fs_ParseError => k_is)
    (case fd_ParseError => k_is)
    (case ff_ParseError => k_is)
    (case fg_Refused => k_is)
    (case fa_Refused => k_is)
    (case fs_Refused => k_is)
    (case fd_Refused => k_is)
    (case ff_Refused => k_is)
    (case fg_TooMany => k_is)
    (case fa_TooMany => k_is)
    (case fs_TooMany => k_is)
    (case fd_TooMany => k_is)
    (case ff_TooMany => k_is)
    (case fg_UnknownName => k_is)
    (case fa_UnknownName => k_is)
    (case fs_UnknownName => k_is)
    (case fd_UnknownName => k_is)
    (case ff_UnknownName => k_is)
    (case em_InvalidCount_InvalidCount => first | rfl | decide +kernel | k_is)
    (case em_InvalidCount_NothingToUndo => first | rfl | decide +kernel | k_is)
    (case em_InvalidCount_ParseError => first | rfl | decide +kernel | k_is)
    (case em_InvalidCount_Refused => first | rfl | decide +kernel | k_is)
    (case em_InvalidCount_TooMany => first | rfl | decide +kernel | k_is)
    (case em_InvalidCount_TowerError => first | rfl | decide +kernel | k_is)
    (case em_InvalidCount_UnknownName => first | rfl | decide +kernel | k_is)
    (case em_InvalidCurve_InvalidCurve => first | rfl | decide +kernel | k_is)
    (case em_InvalidCurve_InvalidOperation => first | rfl | decide +kernel | k_is)
    (case em_InvalidCurve_InvalidOrders => first | rfl | decide +kernel | k_is)
    (case em_InvalidCurve_InvalidPaper => first | rfl | decide +kernel | k_is)
    (case em_InvalidCurve_InvalidPlait => first | rfl | decide +kernel | k_is)
    (case em_InvalidCurve_InvalidPlane => first | rfl | decide +kernel | k_is)
    (case em_InvalidCurve_InvalidPoint => first | rfl | decide +kernel | k_is)
    (case em_InvalidCurve_InvalidPrime => first | rfl | decide +kernel | k_is)
    (case em_InvalidCurve_InvalidRow => first | rfl | decide +kernel | k_is)
    (case em_InvalidCurve_InvalidTable => first | rfl | decide +kernel | k_is)
    (case em_InvalidCurve_InvalidTree => first | rfl | decide +kernel | k_is)
    (case em_InvalidCurve_InvalidWeights => first | rfl | decide +kernel | k_is)
    (case em_InvalidCurve_InvalidWord => first | rfl | decide +kernel | k_is)
    (case em_InvalidCurve_ParseError => first | rfl | decide +kernel | k_is)
    (case em_InvalidCurve_TowerError => first | rfl | decide +kernel | k_is)
    (case em_InvalidOperation_InvalidCurve => first | rfl | decide +kernel | k_is)
    (case em_InvalidOperation_InvalidOperation => first | rfl | decide +kernel | k_is)
    (case em_InvalidOperation_InvalidOrders => first | rfl | decide +kernel | k_is)
    (case em_InvalidOperation_InvalidPaper => first | rfl | decide +kernel | k_is)
    (case em_InvalidOperation_InvalidPlait => first | rfl | decide +kernel | k_is)
    (case em_InvalidOperation_InvalidPlane => first | rfl | decide +kernel | k_is)
    (case em_InvalidOperation_InvalidPoint => first | rfl | decide +kernel | k_is)
    (case em_InvalidOperation_InvalidPrime => first | rfl | decide +kernel | k_is)
    (case em_InvalidOperation_InvalidRow => first | rfl | decide +kernel | k_is)
    (case em_InvalidOperation_InvalidTable => first | rfl | decide +kernel | k_is)
    (case em_InvalidOperation_InvalidTree => first | rfl | decide +kernel | k_is)
    (case em_InvalidOperation_InvalidWeights => first | rfl | decide +kernel | k_is)
    (case em_InvalidOperation_InvalidWord => first | rfl | decide +kernel | k_is)
    (case em_InvalidOperation_ParseError => first | rfl | decide +kernel | k_is)
    (case em_InvalidOperation_TowerError => first | rfl | decide +kernel | k_is)
    (case em_InvalidOrders_InvalidCurve => first | rfl | decide +kernel | k_is)
    (case em_InvalidOrders_InvalidOperation => first | rfl | decide +kernel | k_is)
    (case em_InvalidOrders_InvalidOrders => first | rfl | decide +kernel | k_is)
    (case em_InvalidOrders_InvalidPaper => first | rfl | decide +kernel | k_is)
    (case em_InvalidOrders_InvalidPlait => first | rfl | decide +kernel | k_is)
    (case em_InvalidOrders_InvalidPlane => first | rfl | decide +kernel | k_is)
    (case em_InvalidOrders_InvalidPoint => first | rfl | decide +kernel | k_is)
    (case em_InvalidOrders_InvalidPrime => first | rfl | decide +kernel | k_is)
    (case em_InvalidOrders_InvalidRow => first | rfl | decide +kernel | k_is)
    (case em_InvalidOrders_InvalidTable => first | rfl | decide +kernel | k_is)
    (case em_InvalidOrders_InvalidTree => first | rfl | decide +kernel | k_is)
    (case em_InvalidOrders_InvalidWeights => first | rfl | decide +kernel | k_is)
    (case em_InvalidOrders_InvalidWord => first | rfl | decide +kernel | k_is)
    (case em_InvalidOrders_ParseError => first | rfl | decide +kernel | k_is)
    (case em_InvalidOrders_TowerError => first | rfl | decide +kernel | k_is)
    (case em_InvalidPaper_InvalidCurve => first | rfl | decide +kernel | k_is)
    (case em_InvalidPaper_InvalidOperation => first | rfl | decide +kernel | k_is)
    (case em_InvalidPaper_InvalidOrders => first | rfl | decide +kernel | k_is)
    (case em_InvalidPaper_InvalidPaper => first | rfl | decide +kernel | k_is)
    (case em_InvalidPaper_InvalidPlait => first | rfl | decide +kernel | k_is)
    (case em_InvalidPaper_InvalidPlane => first | rfl | decide +kernel | k_is)
    (case em_InvalidPaper_InvalidPoint => first | rfl | decide +kernel | k_is)
    (case em_InvalidPaper_InvalidPrime => first | rfl | decide +kernel | k_is)
    (case em_InvalidPaper_InvalidRow => first | rfl | decide +kernel | k_is)
    (case em_InvalidPaper_InvalidTable => first | rfl | decide +kernel | k_is)
    (case em_InvalidPaper_InvalidTree => first | rfl | decide +kernel | k_is)
    (case em_InvalidPaper_InvalidWeights => first | rfl | decide +kernel | k_is)
    (case em_InvalidPaper_InvalidWord => first | rfl | decide +kernel | k_is)
    (case em_InvalidPaper_ParseError => first | rfl | decide +kernel | k_is)
    (case em_InvalidPaper_TowerError => first | rfl | decide +kernel | k_is)
    (case em_InvalidPlait_InvalidCurve => first | rfl | decide +kernel | k_is)
    (case em_InvalidPlait_InvalidOperation => first | rfl | decide +kernel | k_is)
    (case em_InvalidPlait_InvalidOrders => first | rfl | decide +kernel | k_is)
    (case em_InvalidPlait_InvalidPaper => first | rfl | decide +kernel | k_is)
    (case em_InvalidPlait_InvalidPlait => first | rfl | decide +kernel | k_is)
    (case em_InvalidPlait_InvalidPlane => first | rfl | decide +kernel | k_is)
    (case em_InvalidPlait_InvalidPoint => first | rfl | decide +kernel | k_is)
    (case em_InvalidPlait_InvalidPrime => first | rfl | decide +kernel | k_is)
    (case em_InvalidPlait_InvalidRow => first | rfl | decide +kernel | k_is)
    (case em_InvalidPlait_InvalidTable => first | rfl | decide +kernel | k_is)
    (case em_InvalidPlait_InvalidTree => first | rfl | decide +kernel | k_is)
    (case em_InvalidPlait_InvalidWeights => first | rfl | decide +kernel | k_is)
    (case em_InvalidPlait_InvalidWord => first | rfl | decide +kernel | k_is)
    (case em_InvalidPlait_ParseError => first | rfl | decide +kernel | k_is)
    (case em_InvalidPlait_TowerError => first | rfl | decide +kernel | k_is)
    (case em_InvalidPlane_InvalidCurve => first | rfl | decide +kernel | k_is)
    (case em_InvalidPlane_InvalidOperation => first | rfl | decide +kernel | k_is)
    (case em_InvalidPlane_InvalidOrders => first | rfl | decide +kernel | k_is)
    (case em_InvalidPlane_InvalidPaper => first | rfl | decide +kernel | k_is)
    (case em_InvalidPlane_InvalidPlait => first | rfl | decide +kernel | k_is)
    (case em_InvalidPlane_InvalidPlane => first | rfl | decide +kernel | k_is)
    (case em_InvalidPlane_InvalidPoint => first | rfl | decide +kernel | k_is)
    (case em_InvalidPlane_InvalidPrime => first | rfl | decide +kernel | k_is)
    (case em_InvalidPlane_InvalidRow => first | rfl | decide +kernel | k_is)
    (case em_InvalidPlane_InvalidTable => first | rfl | decide +kernel | k_is)
    (case em_InvalidPlane_InvalidTree => first | rfl | decide +kernel | k_is)
    (case em_InvalidPlane_InvalidWeights => first | rfl | decide +kernel | k_is)
    (case em_InvalidPlane_InvalidWord => first | rfl | decide +kernel | k_is)
    (case em_InvalidPlane_ParseError => first | rfl | decide +kernel | k_is)
    (case em_InvalidPlane_TowerError => first | rfl | decide +kernel | k_is)
    (case em_InvalidPoint_InvalidCurve => first | rfl | decide +kernel | k_is)
    (case em_InvalidPoint_InvalidOperation => first | rfl | decide +kernel | k_is)
    (case em_InvalidPoint_InvalidOrders => first | rfl | decide +kernel | k_is)
    (case em_InvalidPoint_InvalidPaper => first | rfl | decide +kernel | k_is)
    (case em_InvalidPoint_InvalidPlait => first | rfl | decide +kernel | k_is)
    (case em_InvalidPoint_InvalidPlane => first | rfl | decide +kernel | k_is)
    (case em_InvalidPoint_InvalidPoint => first | rfl | decide +kernel | k_is)
    (case em_InvalidPoint_InvalidPrime => first | rfl | decide +kernel | k_is)
    (case em_InvalidPoint_InvalidRow => first | rfl | decide +kernel | k_is)
    (case em_InvalidPoint_InvalidTable => first | rfl | decide +kernel | k_is)
    (case em_InvalidPoint_InvalidTree => first | rfl | decide +kernel | k_is)
    (case em_InvalidPoint_InvalidWeights => first | rfl | decide +kernel | k_is)
    (case em_InvalidPoint_InvalidWord => first | rfl | decide +kernel | k_is)
    (case em_InvalidPoint_ParseError => first | rfl | decide +kernel | k_is)
    (case em_InvalidPoint_TowerError => first | rfl | decide +kernel | k_is)
    (case em_InvalidPrime_InvalidCurve => first | rfl | decide +kernel | k_is)
    (case em_InvalidPrime_InvalidOperation => first | rfl | decide +kernel | k_is)
    (case em_InvalidPrime_InvalidOrders => first | rfl | decide +kernel | k_is)
    (case em_InvalidPrime_InvalidPaper => first | rfl | decide +kernel | k_is)
    (case em_InvalidPrime_InvalidPlait => first | rfl | decide +kernel | k_is)
    (case em_InvalidPrime_InvalidPlane => first | rfl | decide +kernel | k_is)
    (case em_InvalidPrime_InvalidPoint => first | rfl | decide +kernel | k_is)
    (case em_InvalidPrime_InvalidPrime => first | rfl | decide +kernel | k_is)
    (case em_InvalidPrime_InvalidRow => first | rfl | decide +kernel | k_is)
    (case em_InvalidPrime_InvalidTable => first | rfl | decide +kernel | k_is)
    (case em_InvalidPrime_InvalidTree => first | rfl | decide +kernel | k_is)
    (case em_InvalidPrime_InvalidWeights => first | rfl | decide +kernel | k_is)
    (case em_InvalidPrime_InvalidWord => first | rfl | decide +kernel | k_is)
    (case em_InvalidPrime_ParseError => first | rfl | decide +kernel | k_is)
    (case em_InvalidPrime_TowerError => first | rfl | decide +kernel | k_is)
    (case em_InvalidRow_InvalidCurve => first | rfl | decide +kernel | k_is)
    (case em_InvalidRow_InvalidOperation => first | rfl | decide +kernel | k_is)
    (case em_InvalidRow_InvalidOrders => first | rfl | decide +kernel | k_is)
    (case em_InvalidRow_InvalidPaper => first | rfl | decide +kernel | k_is)
    (case em_InvalidRow_InvalidPlait => first | rfl | decide +kernel | k_is)
    (case em_InvalidRow_InvalidPlane => first | rfl | decide +kernel | k_is)
    (case em_InvalidRow_InvalidPoint => first | rfl | decide +kernel | k_is)
    (case em_InvalidRow_InvalidPrime => first | rfl | decide +kernel | k_is)
    (case em_InvalidRow_InvalidRow => first | rfl | decide +kernel | k_is)
    (case em_InvalidRow_InvalidTable => first | rfl | decide +kernel | k_is)
    (case em_InvalidRow_InvalidTree => first | rfl | decide +kernel | k_is)
    (case em_InvalidRow_InvalidWeights => first | rfl | decide +kernel | k_is)
    (case em_InvalidRow_InvalidWord => first | rfl | decide +kernel | k_is)
    (case em_InvalidRow_ParseError => first | rfl | decide +kernel | k_is)
    (case em_InvalidRow_TowerError => first | rfl | decide +kernel | k_is)
    (case em_InvalidTable_InvalidCurve => first | rfl | decide +kernel | k_is)
    (case em_InvalidTable_InvalidOperation => first | rfl | decide +kernel | k_is)
    (case em_InvalidTable_InvalidOrders => first | rfl | decide +kernel | k_is)
    (case em_InvalidTable_InvalidPaper => first | rfl | decide +kernel | k_is)
    (case em_InvalidTable_InvalidPlait => first | rfl | decide +kernel | k_is)
    (case em_InvalidTable_InvalidPlane => first | rfl | decide +kernel | k_is)
    (case em_InvalidTable_InvalidPoint => first | rfl | decide +kernel | k_is)
    (case em_InvalidTable_InvalidPrime => first | rfl | decide +kernel | k_is)
    (case em_InvalidTable_InvalidRow => first | rfl | decide +kernel | k_is)
    (case em_InvalidTable_InvalidTable => first | rfl | decide +kernel | k_is)
    (case em_InvalidTable_InvalidTree => first | rfl | decide +kernel | k_is)
    (case em_InvalidTable_InvalidWeights => first | rfl | decide +kernel | k_is)
    (case em_InvalidTable_InvalidWord => first | rfl | decide +kernel | k_is)
    (case em_InvalidTable_ParseError => first | rfl | decide +kernel | k_is)
    (case em_InvalidTable_TowerError => first | rfl | decide +kernel | k_is)
    (case em_InvalidTree_InvalidCurve => first | rfl | decide +kernel | k_is)
    (case em_InvalidTree_InvalidOperation => first | rfl | decide +kernel | k_is)
    (case em_InvalidTree_InvalidOrders => first | rfl | decide +kernel | k_is)
    (case em_InvalidTree_InvalidPaper => first | rfl | decide +kernel | k_is)
    (case em_InvalidTree_InvalidPlait => first | rfl | decide +kernel | k_is)
    (case em_InvalidTree_InvalidPlane => first | rfl | decide +kernel | k_is)
    (case em_InvalidTree_InvalidPoint => first | rfl | decide +kernel | k_is)
    (case em_InvalidTree_InvalidPrime => first | rfl | decide +kernel | k_is)
    (case em_InvalidTree_InvalidRow => first | rfl | decide +kernel | k_is)
    (case em_InvalidTree_InvalidTable => first | rfl | decide +kernel | k_is)
    (case em_InvalidTree_InvalidTree => first | rfl | decide +kernel | k_is)
    (case em_InvalidTree_InvalidWeights => first | rfl | decide +kernel | k_is)
    (case em_InvalidTree_InvalidWord => first | rfl | decide +kernel | k_is)
    (case em_InvalidTree_ParseError => first | rfl | decide +kernel | k_is)
    (case em_InvalidTree_TowerError => first | rfl | decide +kernel | k_is)
    (case em_InvalidWeights_InvalidCurve => first | rfl | decide +kernel | k_is)
    (case em_InvalidWeights_InvalidOperation => first | rfl | decide +kernel | k_is)
    (case em_InvalidWeights_InvalidOrders => first | rfl | decide +kernel | k_is)
    (case em_InvalidWeights_InvalidPaper => first | rfl | decide +kernel | k_is)
    (case em_InvalidWeights_InvalidPlait => first | rfl | decide +kernel | k_is)
    (case em_InvalidWeights_InvalidPlane => first | rfl | decide +kernel | k_is)
    (case em_InvalidWeights_InvalidPoint => first | rfl | decide +kernel | k_is)
    (case em_InvalidWeights_InvalidPrime => first | rfl | decide +kernel | k_is)
    (case em_InvalidWeights_InvalidRow => first | rfl | decide +kernel | k_is)
    (case em_InvalidWeights_InvalidTable => first | rfl | decide +kernel | k_is)
    (case em_InvalidWeights_InvalidTree => first | rfl | decide +kernel | k_is)
    (case em_InvalidWeights_InvalidWeights => first | rfl | decide +kernel | k_is)
    (case em_InvalidWeights_InvalidWord => first | rfl | decide +kernel | k_is)
    (case em_InvalidWeights_ParseError => first | rfl | decide +kernel | k_is)
    (case em_InvalidWeights_TowerError => first | rfl | decide +kernel | k_is)
    (case em_InvalidWord_InvalidCurve => first | rfl | decide +kernel | k_is)
    (case em_InvalidWord_InvalidOperation => first | rfl | decide +kernel | k_is)
    (case em_InvalidWord_InvalidOrders => first | rfl | decide +kernel | k_is)
    (case em_InvalidWord_InvalidPaper => first | rfl | decide +kernel | k_is)
    (case em_InvalidWord_InvalidPlait => first | rfl | decide +kernel | k_is)
    (case em_InvalidWord_InvalidPlane => first | rfl | decide +kernel | k_is)
    (case em_InvalidWord_InvalidPoint => first | rfl | decide +kernel | k_is)
    (case em_InvalidWord_InvalidPrime => first | rfl | decide +kernel | k_is)
    (case em_InvalidWord_InvalidRow => first | rfl | decide +kernel | k_is)
    (case em_InvalidWord_InvalidTable => first | rfl | decide +kernel | k_is)
    (case em_InvalidWord_InvalidTree => first | rfl | decide +kernel | k_is)
    (case em_InvalidWord_InvalidWeights => first | rfl | decide +kernel | k_is)
    (case em_InvalidWord_InvalidWord => first | rfl | decide +kernel | k_is)
    (case em_InvalidWord_ParseError => first | rfl | decide +kernel | k_is)
    (case em_InvalidWord_TowerError => first | rfl | decide +kernel | k_is)
    (case em_NothingToUndo_InvalidCount => first | rfl | decide +kernel | k_is)
    (case em_NothingToUndo_NothingToUndo => first | rfl | decide +kernel | k_is)
    (case em_NothingToUndo_ParseError => first | rfl | decide +kernel | k_is)
    (case em_NothingToUndo_Refused => first | rfl | decide +kernel | k_is)
    (case em_NothingToUndo_TooMany => first | rfl | decide +kernel | k_is)
    (case em_NothingToUndo_TowerError => first | rfl | decide +kernel | k_is)
    (case em_NothingToUndo_UnknownName => first | rfl | decide +kernel | k_is)
    (case em_ParseError_InvalidCount => first | rfl | decide +kernel | k_is)
    (case em_ParseError_NothingToUndo => first | rfl | decide +kernel | k_is)
    (case em_ParseError_ParseError => first | rfl | decide +kernel | k_is)
    (case em_ParseError_Refused => first | rfl | decide +kernel | k_is)
    (case em_ParseError_TooMany => first | rfl | decide +kernel | k_is)
    (case em_ParseError_TowerError => first | rfl | decide +kernel | k_is)
    (case em_ParseError_UnknownName => first | rfl | decide +kernel | k_is)
    (case em_Refused_InvalidCount => first | rfl | decide +kernel | k_is)
    (case em_Refused_NothingToUndo => first | rfl | decide +kernel | k_is)
    (case em_Refused_ParseError => first | rfl | decide +kernel | k_is)
    (case em_Refused_Refused => first | rfl | decide +kernel | k_is)
    (case em_Refused_TooMany => first | rfl | decide +kernel | k_is)
    (case em_Refused_TowerError => first | rfl | decide +kernel | k_is)
    (case em_Refused_UnknownName => first | rfl | decide +kernel | k_is)
    (case em_TooMany_InvalidCount => first | rfl | decide +kernel | k_is)
    (case em_TooMany_NothingToUndo => first | rfl | decide +kernel | k_is)
    (case em_TooMany_ParseError => first | rfl | decide +kernel | k_is)
    (case em_TooMany_Refused => first | rfl | decide +kernel | k_is)
    (case em_TooMany_TooMany => first | rfl | decide +kernel | k_is)
    (case em_TooMany_TowerError => first | rfl | decide +kernel | k_is)
    (case em_TooMany_UnknownName => first | rfl | decide +kernel | k_is)
    (case em_UnknownName_InvalidCount => first | rfl | decide +kernel | k_is)
    (case em_UnknownName_NothingToUndo => first | rfl | decide +kernel | k_is)
    (case em_UnknownName_ParseError => first | rfl | decide +kernel | k_is)
    (case em_UnknownName_Refused => first | rfl | decide +kernel | k_is)
    (case em_UnknownName_TooMany => first | rfl | decide +kernel | k_is)
    (case em_UnknownName_TowerError => first | rfl | decide +kernel | k_is)
    (case em_UnknownName_UnknownName => first | rfl | decide +kernel | k_is)
    (case a__law_dice => k_is)
    (case l__law_dice => k_is)
    (case c__law_dice => k_is)
    (case k__law_dice => k_is)
    (case a__law_roll => k_is)
    (case l__law_roll => k_is)
    (case c__law_roll => k_is)
    (case k__law_roll => k_is)
    (case a__law_raise_first => k_is)
    (case l__law_raise_first => k_is)
    (case c__law_raise_first => k_is)
    (case k__law_raise_first => k_is)
    (case a__law_raise_kept => k_is)
    (case l__law_raise_kept => k_is)
    (case c__law_raise_kept => k_is)
    (case k__law_raise_kept => k_is)
    (case a__law_pick => k_is)
    (case l__law_pick => k_is)
    (case c__law_pick => k_is)
    (case k__law_pick => k_is)
    (case a__law_caught => k_is)
    (case l__law_caught => k_is)
    (case c__law_caught => k_is)
    (case k__law_caught => k_is)
    (case a__law_caught_back => k_is)
    (case l__law_caught_back => k_is)
    (case c__law_caught_back => k_is)
    (case k__law_caught_back => k_is)
    (case a__law_kept => k_is)
    (case l__law_kept => k_is)
    (case c__law_kept => k_is)
    (case k__law_kept => k_is)
    (case a__law_is_first => k_is)
    (case l__law_is_first => k_is)
    (case c__law_is_first => k_is)
    (case k__law_is_first => k_is)
    (case a__law_kept_first => k_is)
    (case l__law_kept_first => k_is)
    (case c__law_kept_first => k_is)
    (case k__law_kept_first => k_is)
    (case a__law_right => k_is)
    (case l__law_right => k_is)
    (case c__law_right => k_is)
    (case k__law_right => k_is)
    (case a_law => k_is)
    (case l_law => k_is)
    (case c_law => k_is)
    (case k_law => k_is)

