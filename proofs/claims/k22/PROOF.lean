import PyProof.Rows.All
import Wide.All
import OpenK.AllK
import Wide.FinOn
import PyProof.EqAt
import PyProof.EqKinds
import PyProof.TupleCall
import HandS.Base
import HandS.Call
import HandS.List
import HandS.Comp
import HandS.Exc
import HandS.ExcOwn
import HandS.Ends
import HandS.Words
import HandS.TryMany
import HandS.TryOnly
import HandS.SlotsOwn
import HandS.Iter
import HandS.Wide
import HandS.TupAny
import HandS.TupMul
import HandS.IsInst
import HandS.Deep
import HandS.Text
import HandS.WordsExc
import HandS.Style
import HandS.Zip
import HandS.Star
import HandS.FStr
import HandS.RaiseMore
import HandS.SortInts
import KE.GoesEnum
import HandS.Conv
import PySem.Challenge.RW_touchtowers_k22_whole_counts_at_near_poi
set_option linter.all false
set_option Elab.async false
set_option maxRecDepth 100000
set_option maxHeartbeats 4000000
/-! L3, part a: plain values over the hand layer's abstract heap; the frame's plain state; its steps. -/
namespace L3
open PySem PySem.Spec PyProof.Rows L2

/-- plain data -/
inductive D where
  | non | bl (b : Bool) | int (i : Int) | str (x : Str) | ref (a : Addr) | ty (n : String)
  | tup (ds : List D) | lst (ds : List D) | scr (ns : List Int)
  /-- an instance of a class with slots, all of them filled -/
  | obj (nm : Str) (fs : List D)
  /-- a class of the text -/
  | cls (nm : Str)
  /-- a dict with keys of ints and texts; with keys of tuples of such -/
  | dcK (ks : List Key) (ds : List D) | dcT (ks : List (List Key)) (ds : List D)

/-- the class of that name -/
def ClsN (K : PySem.W.Frag) (nm : Str) (C : Addr) : Prop := PySem.W.nsIn K mainGlobals nm = some (some (.ref C))
mutual
inductive Rep (K : PySem.W.Frag) (F : Hp) : D → V → Prop
  | non : Rep K F .non .non
  | bl (b : Bool) : Rep K F (.bl b) (.bl b)
  | int (i : Int) : Rep K F (.int i) (.int i)
  | str (x : Str) : Rep K F (.str x) (.str x)
  | ref (a : Addr) : Rep K F (.ref a) (.ref a)
  | ty (n : String) : Rep K F (.ty n) (.ty n)
  | tup {a : Addr} {xs : List V} {ds : List D} : SqT K F a xs → RepL K F ds xs → Rep K F (.tup ds) (.ref a)
  | scr {a : Addr} {ns : List Int} : SqL K F a (ns.map V.int) → Rep K F (.scr ns) (.ref a)
  | lst {a : Addr} {xs : List V} {ds : List D} : Rd F a (.lst xs) → RepL K F ds xs → Rep K F (.lst ds) (.ref a)
  | obj {a C dx : Addr} {nm : Str} {xs : List V} {fs : List D} : ClsN K nm C → F a = some (SlX.SlO a C dx (xs.map some)) → F dx = some (.xd []) → RepL K F fs xs → Rep K F (.obj nm fs) (.ref a)
  | cls {C : Addr} {nm : Str} : ClsN K nm C → Rep K F (.cls nm) (.ref C)
  | dcK {a : Addr} {ks : List Key} {xs : List V} {ds : List D} : Rd F a (.dK (ks.zip xs)) → ks.length = xs.length → RepL K F ds xs → Rep K F (.dcK ks ds) (.ref a)
  | dcT {a : Addr} {ks : List (List Key)} {xs : List V} {ds : List D} : Rd F a (.dT (ks.zip xs)) → ks.length = xs.length → RepL K F ds xs → Rep K F (.dcT ks ds) (.ref a)
inductive RepL (K : PySem.W.Frag) (F : Hp) : List D → List V → Prop
  | nil : RepL K F [] []
  | cons {d : D} {ds : List D} {v : V} {vs : List V} : Rep K F d v → RepL K F ds vs → RepL K F (d :: ds) (v :: vs)
end

theorem sameT {K : PySem.W.Frag} {H H' : Hp} {a : Addr} {xs : List V} (e : Same H H') (h : SqT K H a xs) : SqT K H' a xs := by
  rcases h with (h | ⟨o, h⟩) | h
  · exact .inl (.inl (e _ _ h))
  · exact .inl (.inr ⟨o, e _ _ h⟩)
  · exact .inr h
theorem sameR {H H' : Hp} {a : Addr} {u : HO} (e : Same H H') (h : Rd H a u) : Rd H' a u := by
  rcases h with h | ⟨o, h⟩
  · exact .inl (e _ _ h)
  · exact .inr ⟨o, e _ _ h⟩
mutual
theorem Rep.mono {K : PySem.W.Frag} {F F' : Hp} (e : Same F F') : ∀ (d : D) (v : V), Rep K F d v → Rep K F' d v
  | .non, _, h => by cases h; exact .non
  | .bl _, _, h => by cases h; exact .bl _
  | .int _, _, h => by cases h; exact .int _
  | .str _, _, h => by cases h; exact .str _
  | .ref _, _, h => by cases h; exact .ref _
  | .ty _, _, h => by cases h; exact .ty _
  | .scr _, _, h => by
    cases h with
    | scr hs => exact .scr (e.seq hs)
  | .tup ds, _, h => by
    cases h with
    | tup hs ha => exact .tup (sameT e hs) (RepL.mono e ds _ ha)
  | .lst ds, _, h => by
    cases h with
    | lst hs ha => exact .lst (sameR e hs) (RepL.mono e ds _ ha)
  | .cls _, _, h => by
    cases h with
    | cls hc => exact .cls hc
  | .obj _ fs, _, h => by
    cases h with
    | obj h1 h2 h3 ha => exact .obj h1 (e _ _ h2) (e _ _ h3) (RepL.mono e fs _ ha)
  | .dcK _ ds, _, h => by
    cases h with
    | dcK h1 h2 ha => exact .dcK (sameR e h1) h2 (RepL.mono e ds _ ha)
  | .dcT _ ds, _, h => by
    cases h with
    | dcT h1 h2 ha => exact .dcT (sameR e h1) h2 (RepL.mono e ds _ ha)
theorem RepL.mono {K : PySem.W.Frag} {F F' : Hp} (e : Same F F') : ∀ (ds : List D) (vs : List V), RepL K F ds vs → RepL K F' ds vs
  | [], _, h => by cases h; exact .nil
  | d :: ds, _, h => by
    cases h with
    | cons h1 h2 => exact .cons (Rep.mono e d _ h1) (RepL.mono e ds _ h2)
end
section
variable {K : PySem.W.Frag} {F : Hp}
theorem RepL.length : ∀ {ds : List D} {vs : List V}, RepL K F ds vs → ds.length = vs.length
  | _, _, .nil => rfl
  | _, _, .cons _ t => congrArg (· + 1) (RepL.length t)
theorem RepL.append : ∀ {ds es : List D} {vs us : List V}, RepL K F ds vs → RepL K F es us → RepL K F (ds ++ es) (vs ++ us)
  | _, _, _, _, .nil, s => s
  | _, _, _, _, .cons r t, s => .cons r (RepL.append t s)
theorem RepL.take : ∀ {ds : List D} {vs : List V} (n : Nat), RepL K F ds vs → RepL K F (ds.take n) (vs.take n)
  | _, _, 0, _ => .nil
  | _, _, _ + 1, .nil => .nil
  | _, _, n + 1, .cons r t => .cons r (RepL.take n t)
theorem RepL.drop : ∀ {ds : List D} {vs : List V} (n : Nat), RepL K F ds vs → RepL K F (ds.drop n) (vs.drop n)
  | _, _, 0, r => r
  | _, _, _ + 1, .nil => .nil
  | _, _, n + 1, .cons _ t => RepL.drop n t
theorem RepL.get : ∀ {ds : List D} {vs : List V} {i : Nat} {d : D}, RepL K F ds vs → ds[i]? = some d → ∃ v, vs[i]? = some v ∧ Rep K F d v
  | _, _, _, _, .nil, e => by simp at e
  | _, _, 0, _, .cons r _, e => by simp at e; subst e; exact ⟨_, rfl, r⟩
  | _, _, i + 1, d, .cons _ t, e => by
    obtain ⟨u, h1, h2⟩ := RepL.get (i := i) (d := d) t (by simpa using e)
    exact ⟨u, by simpa using h1, h2⟩
theorem RepL.get' : ∀ {ds : List D} {vs : List V} {i : Nat} {v : V}, RepL K F ds vs → vs[i]? = some v → ∃ d, ds[i]? = some d ∧ Rep K F d v
  | _, _, _, _, .nil, e => by simp at e
  | _, _, 0, _, .cons r _, e => by simp at e; subst e; exact ⟨_, rfl, r⟩
  | _, _, i + 1, d, .cons _ t, e => by
    obtain ⟨u, h1, h2⟩ := RepL.get' (i := i) (v := d) t (by simpa using e)
    exact ⟨u, by simpa using h1, h2⟩
theorem RepL.set : ∀ {ds : List D} {vs : List V} {d : D} {v : V} (i : Nat), Rep K F d v → RepL K F ds vs → RepL K F (ds.set i d) (vs.set i v)
  | _, _, _, _, _, _, .nil => .nil
  | _, _, _, _, 0, r, .cons _ t => .cons r t
  | _, _, _, _, i + 1, r, .cons q t => .cons q (RepL.set i r t)
theorem RepL.dropLast {ds : List D} {vs : List V} (h : RepL K F ds vs) : RepL K F ds.dropLast vs.dropLast := by
  rw [List.dropLast_eq_take, List.dropLast_eq_take, h.length]; exact h.take _
theorem RepL.eraseIdx : ∀ {ds : List D} {vs : List V} (i : Nat), RepL K F ds vs → RepL K F (ds.eraseIdx i) (vs.eraseIdx i)
  | _, _, _, .nil => .nil
  | _, _, 0, .cons _ t => t
  | _, _, i + 1, .cons q t => .cons q (RepL.eraseIdx i t)
theorem RepL.reverse {ds : List D} {vs : List V} (h : RepL K F ds vs) : RepL K F ds.reverse vs.reverse := by
  induction ds generalizing vs with
  | nil => cases h; exact .nil
  | cons d r ih =>
    cases h with
    | cons h1 h2 => rw [List.reverse_cons, List.reverse_cons]; exact (ih h2).append (.cons h1 .nil)
theorem RepL.rep {ds : List D} {vs : List V} (h : RepL K F ds vs) : ∀ k : Nat, RepL K F (List.replicate k ds).flatten (List.replicate k vs).flatten
  | 0 => .nil
  | k + 1 => by rw [List.replicate_succ, List.replicate_succ, List.flatten_cons, List.flatten_cons]; exact h.append (RepL.rep h k)
theorem RepL.ints : ∀ (ns : List Int), RepL K F (ns.map D.int) (ns.map V.int)
  | [] => .nil
  | n :: r => .cons (.int n) (RepL.ints r)
theorem RepL.ints_of : ∀ {ns : List Int} {vs : List V}, RepL K F (ns.map D.int) vs → vs = ns.map V.int
  | [], _, h => by cases h; rfl
  | n :: r, _, h => by
    cases h with
    | cons h1 h2 => cases h1; rw [RepL.ints_of (ns := r) h2]; rfl
theorem RepL.bls_of : ∀ {ns : List Bool} {vs : List V}, RepL K F (ns.map D.bl) vs → vs = ns.map V.bl
  | [], _, h => by cases h; rfl
  | n :: r, _, h => by
    cases h with
    | cons h1 h2 => cases h1; rw [RepL.bls_of (ns := r) h2]; rfl
theorem RepL.strs_of : ∀ {ns : List Str} {vs : List V}, RepL K F (ns.map D.str) vs → vs = ns.map V.str
  | [], _, h => by cases h; rfl
  | n :: r, _, h => by
    cases h with
    | cons h1 h2 => cases h1; rw [RepL.strs_of (ns := r) h2]; rfl
end

/-! ### the frame's plain state -/
inductive Sl3 where
  | no | val (d : D) | own (ds : List D)
  /-- the instance that __init__ is filling -/
  | new (nm : Str) (fs : List (Option D))
abbrev Env3 := List Sl3
abbrev Reg := List (Addr × List D)
abbrev Pend := List (Addr × HO)
structure Base3 where
  F : Hp
  H : Hp
  G : List Addr
  /-- where the instance stands that __init__ is filling -/
  nw : Addr

structure Wld (K : PySem.W.Frag) (F H : Hp) (G : Reg) : Prop where
  sub : Same F H
  reg : ∀ (a : Addr) (ds : List D), (a, ds) ∈ G → F a = none ∧ ∃ xs, H a = some (.lst xs) ∧ RepL K F ds xs
  nd : (G.map (·.1)).Nodup

/-- a list that stands free: nothing else names it -/
structure Fre (K : PySem.W.Frag) (B : Base3) (pn : Pend) (F H : Hp) (G : Reg) (a : Addr) (ds : List D) : Prop where
  nF : F a = none
  nB : B.H a = none
  nG : a ∉ G.map (·.1)
  nP : a ∉ pn.map (·.1)
  ex : ∃ xs, H a = some (.lst xs) ∧ RepL K F ds xs

/-- the slots that are filled so far -/
def RepO (K : PySem.W.Frag) (F : Hp) (fs : List (Option D)) (vs : List (Option V)) : Prop := fs.length = vs.length ∧ ∀ (i : Nat) (d : D), fs[i]? = some (some d) → ∃ v, vs[i]? = some (some v) ∧ Rep K F d v
def NewAt (K : PySem.W.Frag) (nw : Addr) (pn : Pend) (F : Hp) (o : Option (Option V)) (nm : Str) (fs : List (Option D)) : Prop :=
  ∃ (a C dx : Addr) (vs : List (Option V)), (a = nw ∧ o = some (some (V.ref a))) ∧ dx ≠ a ∧ ClsN K nm C ∧ RepO K F fs vs ∧ ((vs = [] ∧ (a, HO.ins C dx []) ∈ pn ∧ (dx, HO.own a) ∈ pn) ∨ ((a, SlX.SlO a C dx vs) ∈ pn ∧ (dx, HO.xd []) ∈ pn))
structure St3 (K : PySem.W.Frag) (B : Base3) (pn : Pend) (F H : Hp) (σ : L2.St) (E : Env3) (G : Reg) : Prop where
  w : Wld K F H G
  keepF : Same B.F F
  keepH : ∀ (a : Addr) (o : HO), B.H a = some o → a ∉ B.G → H a = some o
  unfr : ∀ (a : Addr) (o : HO), B.H a = some o → B.F a = none → F a = none
  regs : ∀ a, a ∈ G.map (·.1) → a ∈ B.G ∨ B.H a = none
  regk : ∀ a, a ∈ B.G → a ∈ G.map (·.1)
  len : E.length = σ.length
  slot : ∀ (i : Nat) (d : D), E[i]? = some (Sl3.val d) → ∃ v, σ[i]? = some (some v) ∧ Rep K F d v
  own : ∀ (i : Nat) (ds : List D), E[i]? = some (Sl3.own ds) → ∃ a, σ[i]? = some (some (V.ref a)) ∧ Fre K B pn F H G a ds
  ownd : ∀ (i j : Nat) (ds es : List D) (a : Addr), E[i]? = some (Sl3.own ds) → E[j]? = some (Sl3.own es) → σ[i]? = some (some (V.ref a)) → σ[j]? = some (some (V.ref a)) → i = j
  pend : ∀ (a : Addr) (o : HO), (a, o) ∈ pn → H a = some o ∧ F a = none ∧ B.H a = none ∧ a ∉ G.map (·.1)
  pnd : (pn.map (·.1)).Nodup
  news : ∀ (nm : Str) (fs : List (Option D)), E[0]? = some (Sl3.new nm fs) → NewAt K B.nw pn F σ[0]? nm fs
theorem RepO.mono {K : PySem.W.Frag} {F F' : Hp} (s : Same F F') {fs : List (Option D)} {vs : List (Option V)} (h : RepO K F fs vs) : RepO K F' fs vs :=
  ⟨h.1, fun i d e => by obtain ⟨v, h1, h2⟩ := h.2 i d e; exact ⟨v, h1, Rep.mono s _ _ h2⟩⟩
theorem NewAt.mono {K : PySem.W.Frag} {nw : Addr} {F F' : Hp} {pn : Pend} {o : Option (Option V)} {nm : Str} {fs : List (Option D)} (s : Same F F') (h : NewAt K nw pn F o nm fs) : NewAt K nw pn F' o nm fs := by
  obtain ⟨a, C, dx, vs, h1, h2, h3, h4, h5⟩ := h
  exact ⟨a, C, dx, vs, h1, h2, h3, h4.mono s, h5⟩
theorem NewAt.push {K : PySem.W.Frag} {nw : Addr} {F : Hp} {pn : Pend} {p : Addr × HO} {o : Option (Option V)} {nm : Str} {fs : List (Option D)} (h : NewAt K nw pn F o nm fs) : NewAt K nw (p :: pn) F o nm fs := by
  obtain ⟨a, C, dx, vs, h1, h2, h3, h4, h5⟩ := h
  exact ⟨a, C, dx, vs, h1, h2, h3, h4, h5.imp (fun ⟨x, y, z⟩ => ⟨x, List.mem_cons_of_mem _ y, List.mem_cons_of_mem _ z⟩) fun ⟨y, z⟩ => ⟨List.mem_cons_of_mem _ y, List.mem_cons_of_mem _ z⟩⟩
theorem NewAt.pop {K : PySem.W.Frag} {nw : Addr} {F : Hp} {pn : Pend} {b : Addr} {xs : List V} {o : Option (Option V)} {nm : Str} {fs : List (Option D)} (h : NewAt K nw ((b, HO.lst xs) :: pn) F o nm fs) : NewAt K nw pn F o nm fs := by
  obtain ⟨a, C, dx, vs, h1, h2, h3, h4, h5⟩ := h
  refine ⟨a, C, dx, vs, h1, h2, h3, h4, h5.imp (fun ⟨x, y, z⟩ => ⟨x, ?_, ?_⟩) fun ⟨y, z⟩ => ⟨?_, ?_⟩⟩
  all_goals first
    | exact (List.mem_cons.mp y).elim (fun e => by cases e) id
    | exact (List.mem_cons.mp z).elim (fun e => by cases e) id

/-- no slot of ours holds the list at a -/
def NoOwn (σ : L2.St) (E : Env3) (a : Addr) : Prop := ∀ (i : Nat) (es : List D), E[i]? = some (Sl3.own es) → σ[i]? ≠ some (some (V.ref a))

theorem same_upd {F : Hp} {p : Addr} {o : HO} (n : F p = none) : Same F (upd F p o) := fun b u h => by
  rw [upd_ne (ne_of_none h n)]; exact h

section
variable {K : PySem.W.Frag} {B : Base3} {pn : Pend} {F H : Hp} {σ : L2.St} {E : Env3} {G : Reg}
theorem regMem {a : Addr} {G : Reg} (h : a ∈ G.map (·.1)) : ∃ ds, (a, ds) ∈ G := by
  obtain ⟨p, hp, rfl⟩ := List.mem_map.mp h
  exact ⟨p.2, hp⟩
theorem Wld.regH (w : Wld K F H G) {a : Addr} (h : a ∈ G.map (·.1)) : ∃ o, H a = some o := by
  obtain ⟨ds, hd⟩ := regMem h
  obtain ⟨_, xs, e, _⟩ := w.reg a ds hd
  exact ⟨_, e⟩
theorem St3.baseNone (S : St3 K B pn F H σ E G) {p : Addr} (n : H p = none) : B.H p = none := by
  cases q : B.H p with
  | none => rfl
  | some o =>
    by_cases hg : p ∈ B.G
    · obtain ⟨o', e⟩ := S.w.regH (S.regk p hg)
      rw [n] at e; cases e
    · have := S.keepH p o q hg
      rw [n] at this; cases this
theorem Wld.fNone (w : Wld K F H G) {p : Addr} (n : H p = none) : F p = none := by
  cases q : F p with
  | none => rfl
  | some o => have := w.sub p o q; rw [n] at this; cases this
/-- an object laid at a free place, frozen at once -/
theorem St3.newF (S : St3 K B pn F H σ E G) {p : Addr} {o : HO} (n : H p = none) : St3 K B pn (upd F p o) (upd H p o) σ E G ∧ Same F (upd F p o) := by
  have nF := S.w.fNone n
  have sF : Same F (upd F p o) := same_upd nF
  have sH : Same H (upd H p o) := same_upd n
  have nB := S.baseNone n
  refine ⟨⟨⟨fun a u h => ?_, fun a ds h => ?_, S.w.nd⟩, fun a u h => sF _ _ (S.keepF a u h), fun a u h hg => sH _ _ (S.keepH a u h hg), fun a u h h2 => ?_, S.regs, S.regk, S.len, fun i d h => ?_, fun i ds h => ?_, S.ownd, fun a xs h => ?_, S.pnd, fun nm fs h => (S.news nm fs h).mono sF⟩, sF⟩
  · unfold upd at h ⊢
    split at h
    · rename_i e; rw [if_pos e]; exact h
    · rename_i e; rw [if_neg e]; exact S.w.sub a u h
  · obtain ⟨h1, xs, h2, h3⟩ := S.w.reg a ds h
    have ne : a ≠ p := ne_of_none h2 n
    exact ⟨by rw [upd_ne ne]; exact h1, xs, by rw [upd_ne ne]; exact h2, RepL.mono sF _ _ h3⟩
  · have ne : a ≠ p := ne_of_none h nB
    rw [upd_ne ne]; exact S.unfr a u h h2
  · obtain ⟨v, h1, h2⟩ := S.slot i d h
    exact ⟨v, h1, Rep.mono sF _ _ h2⟩
  · obtain ⟨a, h1, f⟩ := S.own i ds h
    obtain ⟨xs, e, r⟩ := f.ex
    have ne : a ≠ p := ne_of_none e n
    exact ⟨a, h1, ⟨by rw [upd_ne ne]; exact f.nF, f.nB, f.nG, f.nP, xs, by rw [upd_ne ne]; exact e, RepL.mono sF _ _ r⟩⟩
  · obtain ⟨h1, h2, h3, h4⟩ := S.pend a xs h
    have ne : a ≠ p := ne_of_none h1 n
    exact ⟨by rw [upd_ne ne]; exact h1, by rw [upd_ne ne]; exact h2, h3, h4⟩
/-- an object laid at a free place, left free -/
theorem St3.newU (S : St3 K B pn F H σ E G) {p : Addr} {o : HO} (n : H p = none) : St3 K B pn F (upd H p o) σ E G := by
  have nF := S.w.fNone n
  have sH : Same H (upd H p o) := same_upd n
  refine ⟨⟨fun a u h => sH _ _ (S.w.sub a u h), fun a ds h => ?_, S.w.nd⟩, S.keepF, fun a u h hg => sH _ _ (S.keepH a u h hg), S.unfr, S.regs, S.regk, S.len, S.slot, fun i ds h => ?_, S.ownd, fun a xs h => ?_, S.pnd, S.news⟩
  · obtain ⟨h1, xs, h2, h3⟩ := S.w.reg a ds h
    exact ⟨h1, xs, sH _ _ h2, h3⟩
  · obtain ⟨a, h1, f⟩ := S.own i ds h
    obtain ⟨xs, e, r⟩ := f.ex
    exact ⟨a, h1, ⟨f.nF, f.nB, f.nG, f.nP, xs, sH _ _ e, r⟩⟩
  · obtain ⟨h1, h2⟩ := S.pend a xs h
    exact ⟨sH _ _ h1, h2⟩
theorem St3.newFre (S : St3 K B pn F H σ E G) {p : Addr} {xs : List V} {ds : List D} (n : H p = none) (r : RepL K F ds xs) : Fre K B pn F (upd H p (.lst xs)) G p ds ∧ NoOwn σ E p := by
  refine ⟨⟨S.w.fNone n, S.baseNone n, fun h => ?_, fun h => ?_, xs, upd_same, r⟩, fun i es h e => ?_⟩
  · obtain ⟨o, q⟩ := S.w.regH h
    rw [n] at q; cases q
  · obtain ⟨q, hq, rfl⟩ := List.mem_map.mp h
    have := (S.pend q.1 q.2 hq).1
    rw [n] at this; cases this
  · obtain ⟨a, h1, f⟩ := S.own i es h
    rw [e] at h1
    cases h1
    obtain ⟨xs, q, _⟩ := f.ex
    rw [n] at q; cases q
/-- a free list freezes -/
theorem St3.freeze (S : St3 K B pn F H σ E G) {a : Addr} {ds : List D} (f : Fre K B pn F H G a ds) (no : NoOwn σ E a) : ∃ F', St3 K B pn F' H σ E G ∧ Same F F' ∧ Rep K F' (.lst ds) (.ref a) := by
  obtain ⟨xs, e, r⟩ := f.ex
  have sF : Same F (upd F a (.lst xs)) := same_upd f.nF
  refine ⟨upd F a (.lst xs), ⟨⟨fun b u h => ?_, fun b es h => ?_, S.w.nd⟩, fun b u h => sF _ _ (S.keepF b u h), S.keepH, fun b u h h2 => ?_, S.regs, S.regk, S.len, fun i d h => ?_, fun i es h => ?_, S.ownd, fun b ys h => ?_, S.pnd, fun nm fs h => (S.news nm fs h).mono sF⟩, sF, .lst (Rd.of upd_same) (RepL.mono sF _ _ r)⟩
  · unfold upd at h
    split at h
    · rename_i q; subst q; rw [e]; exact h
    · exact S.w.sub b u h
  · obtain ⟨h1, ys, h2, h3⟩ := S.w.reg b es h
    have ne : b ≠ a := fun z => f.nG (by rw [← z]; exact List.mem_map.mpr ⟨_, h, rfl⟩)
    exact ⟨by rw [upd_ne ne]; exact h1, ys, h2, RepL.mono sF _ _ h3⟩
  · have ne : b ≠ a := ne_of_none h f.nB
    rw [upd_ne ne]; exact S.unfr b u h h2
  · obtain ⟨v, h1, h2⟩ := S.slot i d h
    exact ⟨v, h1, Rep.mono sF _ _ h2⟩
  · obtain ⟨b, h1, g⟩ := S.own i es h
    obtain ⟨ys, e2, r2⟩ := g.ex
    have ne : b ≠ a := fun z => no i es h (by rw [← z]; exact h1)
    exact ⟨b, h1, ⟨by rw [upd_ne ne]; exact g.nF, g.nB, g.nG, g.nP, ys, e2, RepL.mono sF _ _ r2⟩⟩
  · obtain ⟨h1, h2, h3, h4⟩ := S.pend b ys h
    have ne : b ≠ a := fun z => f.nP (by rw [← z]; exact List.mem_map.mpr ⟨_, h, rfl⟩)
    exact ⟨h1, by rw [upd_ne ne]; exact h2, h3, h4⟩
/-- an object that nothing of ours names freezes -/
theorem St3.freezeAt (S : St3 K B pn F H σ E G) {a : Addr} {o : HO} (nF : F a = none) (nB : B.H a = none) (nG : a ∉ G.map (·.1)) (nP : a ∉ pn.map (·.1)) (no : NoOwn σ E a) (e : H a = some o) : St3 K B pn (upd F a o) H σ E G ∧ Same F (upd F a o) := by
  have sF : Same F (upd F a o) := same_upd nF
  refine ⟨⟨⟨fun b u h => ?_, fun b es h => ?_, S.w.nd⟩, fun b u h => sF _ _ (S.keepF b u h), S.keepH, fun b u h h2 => ?_, S.regs, S.regk, S.len, fun i d h => ?_, fun i es h => ?_, S.ownd, fun b ys h => ?_, S.pnd, fun nm fs h => (S.news nm fs h).mono sF⟩, sF⟩
  · unfold upd at h
    split at h
    · rename_i q; subst q; rw [e]; exact h
    · exact S.w.sub b u h
  · obtain ⟨h1, ys, h2, h3⟩ := S.w.reg b es h
    have ne : b ≠ a := fun z => nG (by rw [← z]; exact List.mem_map.mpr ⟨_, h, rfl⟩)
    exact ⟨by rw [upd_ne ne]; exact h1, ys, h2, RepL.mono sF _ _ h3⟩
  · rw [upd_ne (ne_of_none h nB)]; exact S.unfr b u h h2
  · obtain ⟨v, h1, h2⟩ := S.slot i d h
    exact ⟨v, h1, Rep.mono sF _ _ h2⟩
  · obtain ⟨b, h1, g⟩ := S.own i es h
    obtain ⟨ys, e2, r2⟩ := g.ex
    have ne : b ≠ a := fun z => no i es h (by rw [← z]; exact h1)
    exact ⟨b, h1, ⟨by rw [upd_ne ne]; exact g.nF, g.nB, g.nG, g.nP, ys, e2, RepL.mono sF _ _ r2⟩⟩
  · obtain ⟨h1, h2, h3, h4⟩ := S.pend b ys h
    have ne : b ≠ a := fun z => nP (by rw [← z]; exact List.mem_map.mpr ⟨_, h, rfl⟩)
    exact ⟨h1, by rw [upd_ne ne]; exact h2, h3, h4⟩
/-- a slot's content becomes unknown to us -/
theorem St3.forget (S : St3 K B pn F H σ E G) (i : Nat) : St3 K B pn F H σ (E.set i Sl3.no) G := by
  have look : ∀ {j : Nat} {s : Sl3}, s ≠ Sl3.no → (E.set i Sl3.no)[j]? = some s → E[j]? = some s := fun {j s} hs h => by
    by_cases q : i = j
    · subst q
      rw [List.getElem?_set] at h
      simp only [if_true] at h
      split at h
      · cases h; exact absurd rfl hs
      · cases h
    · rw [List.getElem?_set_ne q] at h; exact h
  exact ⟨S.w, S.keepF, S.keepH, S.unfr, S.regs, S.regk, by rw [List.length_set]; exact S.len, fun j d h => S.slot j d (look (fun q => nomatch q) h), fun j d h => S.own j d (look (fun q => nomatch q) h),
    fun j k ds es a h1 h2 => S.ownd j k ds es a (look (fun q => nomatch q) h1) (look (fun q => nomatch q) h2), S.pend, S.pnd, fun nm fs h => S.news nm fs (look (fun q => nomatch q) h)⟩
theorem set_look {E : Env3} {i j : Nat} {s t : Sl3} (h : (E.set i t)[j]? = some s) : (i = j ∧ s = t) ∨ (i ≠ j ∧ E[j]? = some s) := by
  by_cases q : i = j
  · subst q
    rw [List.getElem?_set] at h
    simp only [if_true] at h
    split at h
    · cases h; exact .inl ⟨rfl, rfl⟩
    · cases h
  · rw [List.getElem?_set_ne q] at h; exact .inr ⟨q, h⟩
/-- a slot that owns a list freezes it -/
theorem St3.freezeSlot (S : St3 K B pn F H σ E G) {i : Nat} {ds : List D} {v : V} (h : E[i]? = some (Sl3.own ds)) (hv : σ[i]? = some (some v)) : ∃ F', St3 K B pn F' H σ (E.set i (Sl3.val (.lst ds))) G ∧ Same F F' ∧ Rep K F' (.lst ds) v := by
  obtain ⟨a, h1, f⟩ := S.own i ds h
  rw [hv] at h1
  cases h1
  have S2 := S.forget i
  obtain ⟨F', S3, s, r⟩ := S2.freeze f (fun j es hj e => by
    rcases set_look hj with ⟨_, z⟩ | ⟨ne, z⟩
    · cases z
    · exact ne (S.ownd i j ds es a h z hv e))
  refine ⟨F', ⟨S3.w, S3.keepF, S3.keepH, S3.unfr, S3.regs, S3.regk, by rw [List.length_set]; exact S.len, fun j d hj => ?_, fun j d hj => ?_, fun j k ds es b h1 h2 => ?_, S3.pend, S3.pnd, fun nm fs h => ?_⟩, s, r⟩
  · rcases set_look hj with ⟨q, z⟩ | ⟨ne, z⟩
    · cases z; subst q; exact ⟨_, hv, r⟩
    · exact S3.slot j d (by rw [List.getElem?_set_ne ne]; exact z)
  · rcases set_look hj with ⟨q, z⟩ | ⟨ne, z⟩
    · cases z
    · exact S3.own j d (by rw [List.getElem?_set_ne ne]; exact z)
  · rcases set_look h1 with ⟨q, z⟩ | ⟨ne, z⟩
    · cases z
    · rcases set_look h2 with ⟨q', z'⟩ | ⟨ne', z'⟩
      · cases z'
      · exact S.ownd j k ds es b z z'
  · rcases set_look h with ⟨q, z⟩ | ⟨ne, z⟩
    · cases z
    · exact S3.news nm fs (by rw [List.getElem?_set_ne ne]; exact z)
theorem setσ_look {σ : L2.St} {i j : Nat} {v : Option V} : i < σ.length → (σ.set i v)[j]? = if i = j then some v else σ[j]? := fun hl => by
  by_cases q : i = j
  · subst q; rw [List.getElem?_set_self hl, if_pos rfl]
  · rw [List.getElem?_set_ne q, if_neg q]
theorem lt_of_look {α : Type} {l : List α} {i : Nat} {x : α} (h : l[i]? = some x) : i < l.length := (List.getElem?_eq_some_iff.mp h).1
/-- a slot is set to a value -/
theorem St3.setVal (S : St3 K B pn F H σ E G) {i : Nat} {d : D} {v : V} (hi : i < σ.length) (r : Rep K F d v) : St3 K B pn F H (σ.set i (some v)) (E.set i (Sl3.val d)) G := by
  refine ⟨S.w, S.keepF, S.keepH, S.unfr, S.regs, S.regk, by rw [List.length_set, List.length_set]; exact S.len, fun j e h => ?_, fun j ds h => ?_, fun j k ds es a h1 h2 h3 h4 => ?_, S.pend, S.pnd, fun nm fs h => ?_⟩
  · rw [setσ_look hi]
    rcases set_look h with ⟨q, z⟩ | ⟨ne, z⟩
    · cases z; rw [if_pos q]; exact ⟨v, rfl, r⟩
    · rw [if_neg ne]; exact S.slot j e z
  · rw [setσ_look hi]
    rcases set_look h with ⟨q, z⟩ | ⟨ne, z⟩
    · cases z
    · rw [if_neg ne]; exact S.own j ds z
  · rcases set_look h1 with ⟨q, z⟩ | ⟨ne, z⟩
    · cases z
    rcases set_look h2 with ⟨q', z'⟩ | ⟨ne', z'⟩
    · cases z'
    rw [setσ_look hi, if_neg ne] at h3
    rw [setσ_look hi, if_neg ne'] at h4
    exact S.ownd j k ds es a z z' h3 h4
  · rcases set_look h with ⟨q, z⟩ | ⟨ne, z⟩
    · cases z
    · rw [setσ_look hi, if_neg ne]; exact S.news nm fs z
/-- a slot takes a free list -/
theorem St3.setOwn (S : St3 K B pn F H σ E G) {i : Nat} {ds : List D} {a : Addr} (hi : i < σ.length) (f : Fre K B pn F H G a ds) (no : NoOwn σ E a) : St3 K B pn F H (σ.set i (some (V.ref a))) (E.set i (Sl3.own ds)) G := by
  refine ⟨S.w, S.keepF, S.keepH, S.unfr, S.regs, S.regk, by rw [List.length_set, List.length_set]; exact S.len, fun j e h => ?_, fun j es h => ?_, fun j k es fs b h1 h2 h3 h4 => ?_, S.pend, S.pnd, fun nm fs h => ?_⟩
  · rw [setσ_look hi]
    rcases set_look h with ⟨q, z⟩ | ⟨ne, z⟩
    · cases z
    · rw [if_neg ne]; exact S.slot j e z
  · rw [setσ_look hi]
    rcases set_look h with ⟨q, z⟩ | ⟨ne, z⟩
    · cases z; rw [if_pos q]; exact ⟨a, rfl, f⟩
    · rw [if_neg ne]; exact S.own j es z
  · rw [setσ_look hi] at h3 h4
    rcases set_look h1 with ⟨q, z⟩ | ⟨ne, z⟩
    · rcases set_look h2 with ⟨q', z'⟩ | ⟨ne', z'⟩
      · omega
      · rw [if_pos q] at h3
        rw [if_neg ne'] at h4
        cases h3
        exact absurd h4 (no k fs z')
    · rcases set_look h2 with ⟨q', z'⟩ | ⟨ne', z'⟩
      · rw [if_neg ne] at h3
        rw [if_pos q'] at h4
        cases h4
        exact absurd h3 (no j es z)
      · rw [if_neg ne] at h3
        rw [if_neg ne'] at h4
        exact S.ownd j k es fs b z z' h3 h4
  · rcases set_look h with ⟨q, z⟩ | ⟨ne, z⟩
    · cases z
    · rw [setσ_look hi, if_neg ne]; exact S.news nm fs z
/-- the list that a slot owns is written -/
theorem St3.ownWrite (S : St3 K B pn F H σ E G) {i : Nat} {ds es : List D} {a : Addr} {ys : List V} (h : E[i]? = some (Sl3.own ds)) (hv : σ[i]? = some (some (V.ref a))) (r : RepL K F es ys) : St3 K B pn F (upd H a (.lst ys)) σ (E.set i (Sl3.own es)) G := by
  obtain ⟨a', h1, f⟩ := S.own i ds h
  rw [hv] at h1
  cases h1
  obtain ⟨xs, ea, _⟩ := f.ex
  refine ⟨⟨fun b u hb => ?_, fun b fs hb => ?_, S.w.nd⟩, S.keepF, fun b u hb hg => ?_, S.unfr, S.regs, S.regk, by rw [List.length_set]; exact S.len, fun j e hj => ?_, fun j fs hj => ?_, fun j k fs gs b h1 h2 h3 h4 => ?_, fun b zs hb => ?_, S.pnd, fun nm fs h => ?_⟩
  · have ne : b ≠ a := ne_of_none hb f.nF
    rw [upd_ne ne]; exact S.w.sub b u hb
  · obtain ⟨h1, zs, h2, h3⟩ := S.w.reg b fs hb
    have ne : b ≠ a := fun z => f.nG (by rw [← z]; exact List.mem_map.mpr ⟨_, hb, rfl⟩)
    exact ⟨h1, zs, by rw [upd_ne ne]; exact h2, h3⟩
  · have ne : b ≠ a := ne_of_none hb f.nB
    rw [upd_ne ne]; exact S.keepH b u hb hg
  · rcases set_look hj with ⟨q, z⟩ | ⟨ne, z⟩
    · cases z
    · exact S.slot j e z
  · rcases set_look hj with ⟨q, z⟩ | ⟨ne, z⟩
    · cases z; subst q; exact ⟨a, hv, ⟨f.nF, f.nB, f.nG, f.nP, ys, upd_same, r⟩⟩
    · obtain ⟨b, e1, g⟩ := S.own j fs z
      obtain ⟨zs, e2, r2⟩ := g.ex
      have nab : b ≠ a := fun q => ne (S.ownd i j ds fs a h z hv (by rw [← q]; exact e1))
      exact ⟨b, e1, ⟨g.nF, g.nB, g.nG, g.nP, zs, by rw [upd_ne nab]; exact e2, r2⟩⟩
  · have w1 : ∃ fs', E[j]? = some (Sl3.own fs') := by
      rcases set_look h1 with ⟨q, z⟩ | ⟨ne, z⟩
      · subst q; exact ⟨_, h⟩
      · exact ⟨_, z⟩
    have w2 : ∃ fs', E[k]? = some (Sl3.own fs') := by
      rcases set_look h2 with ⟨q, z⟩ | ⟨ne, z⟩
      · subst q; exact ⟨_, h⟩
      · exact ⟨_, z⟩
    obtain ⟨_, w1⟩ := w1
    obtain ⟨_, w2⟩ := w2
    exact S.ownd j k _ _ b w1 w2 h3 h4
  · obtain ⟨h1, h2, h3, h4⟩ := S.pend b zs hb
    have ne : b ≠ a := fun z => f.nP (by rw [← z]; exact List.mem_map.mpr ⟨_, hb, rfl⟩)
    exact ⟨by rw [upd_ne ne]; exact h1, h2, h3, h4⟩
  · rcases set_look h with ⟨q, z⟩ | ⟨ne, z⟩
    · cases z
    · exact S.news nm fs z
def regSet : Reg → Addr → List D → Reg
  | [], _, _ => []
  | (b, ds) :: r, a, es => if b = a then (a, es) :: r else (b, ds) :: regSet r a es
theorem regSet_dom (a : Addr) (es : List D) : ∀ G : Reg, (regSet G a es).map (·.1) = G.map (·.1)
  | [] => rfl
  | (b, ds) :: r => by
    unfold regSet
    by_cases h : b = a
    · rw [if_pos h, List.map_cons, List.map_cons]; subst h; rfl
    · rw [if_neg h, List.map_cons, List.map_cons, regSet_dom a es r]
theorem regSet_mem {a b : Addr} {es fs : List D} : ∀ {G : Reg}, (G.map (·.1)).Nodup → (b, fs) ∈ regSet G a es → (b = a ∧ fs = es) ∨ ((b, fs) ∈ G ∧ b ≠ a)
  | [], _, h => by cases h
  | (c, ds) :: r, nd, h => by
    unfold regSet at h
    rw [List.map_cons] at nd
    have nd' := List.nodup_cons.mp nd
    by_cases q : c = a
    · rw [if_pos q] at h
      rcases List.mem_cons.mp h with h | h
      · cases h; exact .inl ⟨rfl, rfl⟩
      · refine .inr ⟨List.mem_cons_of_mem _ h, fun e => nd'.1 ?_⟩
        show c ∈ _
        rw [q, ← e]
        exact List.mem_map.mpr ⟨_, h, rfl⟩
    · rw [if_neg q] at h
      rcases List.mem_cons.mp h with h | h
      · cases h; exact .inr ⟨List.mem_cons_self, q⟩
      · rcases regSet_mem nd'.2 h with z | ⟨z, ne⟩
        · exact .inl z
        · exact .inr ⟨List.mem_cons_of_mem _ z, ne⟩
/-- a register is written -/
theorem St3.regWrite (S : St3 K B pn F H σ E G) {ds es : List D} {a : Addr} {ys : List V} (h : (a, ds) ∈ G) (r : RepL K F es ys) : St3 K B pn F (upd H a (.lst ys)) σ E (regSet G a es) := by
  obtain ⟨nF, xs, ea, _⟩ := S.w.reg a ds h
  have ha : a ∈ G.map (·.1) := List.mem_map.mpr ⟨_, h, rfl⟩
  refine ⟨⟨fun b u hb => ?_, fun b fs hb => ?_, by rw [regSet_dom]; exact S.w.nd⟩, S.keepF, fun b u hb hg => ?_, S.unfr, by rw [regSet_dom]; exact S.regs, by rw [regSet_dom]; exact S.regk, S.len, S.slot, fun j fs hj => ?_, S.ownd, fun b zs hb => ?_, S.pnd, S.news⟩
  · have ne : b ≠ a := ne_of_none hb nF
    rw [upd_ne ne]; exact S.w.sub b u hb
  · rcases regSet_mem S.w.nd hb with ⟨e1, e2⟩ | ⟨hp, q⟩
    · subst e1 e2
      exact ⟨nF, ys, upd_same, r⟩
    · obtain ⟨h1, zs, h2, h3⟩ := S.w.reg b fs hp
      exact ⟨h1, zs, by rw [upd_ne q]; exact h2, h3⟩
  · rcases S.regs a ha with z | z
    · have ne : b ≠ a := fun q => hg (by rw [q]; exact z)
      rw [upd_ne ne]; exact S.keepH b u hb hg
    · have ne : b ≠ a := ne_of_none hb z
      rw [upd_ne ne]; exact S.keepH b u hb hg
  · obtain ⟨b, e1, g⟩ := S.own j fs hj
    obtain ⟨zs, e2, r2⟩ := g.ex
    have nab : b ≠ a := fun q => g.nG (by rw [q]; exact ha)
    exact ⟨b, e1, ⟨g.nF, g.nB, by rw [regSet_dom]; exact g.nG, g.nP, zs, by rw [upd_ne nab]; exact e2, r2⟩⟩
  · obtain ⟨h1, h2, h3, h4⟩ := S.pend b zs hb
    have ne : b ≠ a := fun z => h4 (by rw [z]; exact ha)
    exact ⟨by rw [upd_ne ne]; exact h1, h2, h3, by rw [regSet_dom]; exact h4⟩
/-- a free list becomes pending, comes back -/
theorem St3.pendOn (S : St3 K B pn F H σ E G) {a : Addr} {o : HO} (hF : F a = none) (hB : B.H a = none) (hG : a ∉ G.map (·.1)) (hP : a ∉ pn.map (·.1)) (hH : H a = some o) (no : NoOwn σ E a) : St3 K B ((a, o) :: pn) F H σ E G := by
  refine ⟨S.w, S.keepF, S.keepH, S.unfr, S.regs, S.regk, S.len, S.slot, fun i ds h => ?_, S.ownd, fun b ys h => ?_, ?_, fun nm fs h => (S.news nm fs h).push⟩
  · obtain ⟨b, h1, f⟩ := S.own i ds h
    refine ⟨b, h1, ⟨f.nF, f.nB, f.nG, ?_, f.ex⟩⟩
    rw [List.map_cons]
    intro z
    rcases List.mem_cons.mp z with z | z
    · have z' : b = a := z
      exact no i ds h (by rw [← z']; exact h1)
    · exact f.nP z
  · rcases List.mem_cons.mp h with h | h
    · cases h; exact ⟨hH, hF, hB, hG⟩
    · exact S.pend b ys h
  · rw [List.map_cons]; exact List.nodup_cons.mpr ⟨hP, S.pnd⟩
theorem St3.pendOff {a : Addr} {xs : List V} (S : St3 K B ((a, .lst xs) :: pn) F H σ E G) : St3 K B pn F H σ E G ∧ F a = none ∧ B.H a = none ∧ a ∉ G.map (·.1) ∧ a ∉ pn.map (·.1) ∧ H a = some (.lst xs) ∧ NoOwn σ E a := by
  obtain ⟨h1, h2, h3, h4⟩ := S.pend a _ List.mem_cons_self
  have nd := S.pnd
  rw [List.map_cons] at nd
  refine ⟨⟨S.w, S.keepF, S.keepH, S.unfr, S.regs, S.regk, S.len, S.slot, fun i ds h => ?_, S.ownd, fun b ys h => S.pend b ys (List.mem_cons_of_mem _ h), (List.nodup_cons.mp nd).2, fun nm fs h => (S.news nm fs h).pop⟩, h2, h3, h4, (List.nodup_cons.mp nd).1, h1, fun i es h e => ?_⟩
  · obtain ⟨b, h1, f⟩ := S.own i ds h
    exact ⟨b, h1, ⟨f.nF, f.nB, f.nG, fun z => f.nP (by rw [List.map_cons]; exact List.mem_cons_of_mem _ z), f.ex⟩⟩
  · obtain ⟨b, e1, f⟩ := S.own i es h
    rw [e] at e1
    cases e1
    exact f.nP (by rw [List.map_cons]; exact List.mem_cons_self)
/-- a pending list is written -/
theorem St3.pendWrite {a : Addr} {xs ys : List V} (S : St3 K B ((a, .lst xs) :: pn) F H σ E G) : St3 K B ((a, .lst ys) :: pn) F (upd H a (.lst ys)) σ E G := by
  obtain ⟨S0, hF, hB, hG, hP, hH, no⟩ := S.pendOff
  have S1 : St3 K B pn F (upd H a (.lst ys)) σ E G := by
    refine ⟨⟨fun b u hb => ?_, fun b fs hb => ?_, S.w.nd⟩, S.keepF, fun b u hb hg => ?_, S.unfr, S.regs, S.regk, S.len, S.slot, fun j fs hj => ?_, S.ownd, fun b zs hb => ?_, S0.pnd, S0.news⟩
    · have ne : b ≠ a := ne_of_none hb hF
      rw [upd_ne ne]; exact S.w.sub b u hb
    · obtain ⟨h1, zs, h2, h3⟩ := S.w.reg b fs hb
      have ne : b ≠ a := fun z => hG (by rw [← z]; exact List.mem_map.mpr ⟨_, hb, rfl⟩)
      exact ⟨h1, zs, by rw [upd_ne ne]; exact h2, h3⟩
    · have ne : b ≠ a := ne_of_none hb hB
      rw [upd_ne ne]; exact S.keepH b u hb hg
    · obtain ⟨b, e1, g⟩ := S0.own j fs hj
      obtain ⟨zs, e2, r2⟩ := g.ex
      have nab : b ≠ a := fun q => no j fs hj (by rw [← q]; exact e1)
      exact ⟨b, e1, ⟨g.nF, g.nB, g.nG, g.nP, zs, by rw [upd_ne nab]; exact e2, r2⟩⟩
    · obtain ⟨h1, h2, h3, h4⟩ := S0.pend b zs hb
      have ne : b ≠ a := fun z => hP (by rw [← z]; exact List.mem_map.mpr ⟨_, hb, rfl⟩)
      exact ⟨by rw [upd_ne ne]; exact h1, h2, h3, h4⟩
  exact S1.pendOn hF hB hG hP upd_same no
end
end L3

set_option Elab.async false
set_option maxRecDepth 100000
set_option maxHeartbeats 4000000
/-! L3, part b: judgements over plain values. -/
namespace L3
open PySem PySem.Spec PyProof.Rows L2

/-- what an expression gives: a value; the list that a slot owns; a list that stands free -/
inductive Res where
  | val (d : D) | sl (i : Nat) | fr (ds : List D)
abbrev DK := Res → Env3 → Reg → Prop
abbrev DE := Env3 → Reg → DK → Prop
abbrev DT := Env3 → Reg → (Bool → Env3 → Reg → Prop) → Prop
abbrev DA := Env3 → Reg → (List D → Env3 → Reg → Prop) → Prop
/-- an exception: its class, the field that it keeps -/
abbrev Exc3 := Value × Option (Str × D)
abbrev DW := Exc3 → Env3 → Reg → Prop

section
variable (K : PySem.W.Frag) (B : Base3) (pn : Pend) (F H : Hp) (σ : L2.St) (E : Env3) (G : Reg)
def RepR : Res → V → Prop
  | .val d, v => Rep K F d v
  | .sl i, v => σ[i]? = some (some v)
  | .fr ds, v => ∃ a, v = .ref a ∧ Fre K B pn F H G a ds ∧ NoOwn σ E a
def RepH : D → V → Prop := fun d v => Rep K F d v ∨ ∃ a xs ds, d = D.lst ds ∧ v = .ref a ∧ H a = some (.lst xs) ∧ RepL K F ds xs
end
/-- what it is worth where it is used -/
def Res.get (r : Res) (E : Env3) : Option D := match r with
  | .val d => some d
  | .fr ds => some (.lst ds)
  | .sl i => match E[i]? with
    | some (Sl3.val d) => some d
    | some (Sl3.own ds) => some (.lst ds)
    | _ => none
/-- frozen -/
def Res.fz : Res → Res
  | .val d => .val d
  | .sl i => .sl i
  | .fr ds => .val (.lst ds)
/-- .. for good: the value, the slots behind it -/
def Res.ice (r : Res) (E : Env3) : Option (D × Env3) := match r with
  | .val d => some (d, E)
  | .fr ds => some (.lst ds, E)
  | .sl i => match E[i]? with
    | some (Sl3.val d) => some (d, E)
    | some (Sl3.own ds) => some (.lst ds, E.set i (Sl3.val (.lst ds)))
    | _ => none

inductive RepHL (K : PySem.W.Frag) (F H : Hp) : List D → List V → Prop
  | nil : RepHL K F H [] []
  | cons {d : D} {ds : List D} {v : V} {vs : List V} : RepH K F H d v → RepHL K F H ds vs → RepHL K F H (d :: ds) (v :: vs)

section
variable {K : PySem.W.Frag} {B : Base3} {pn : Pend} {F F' H H' : Hp} {σ : L2.St} {E E' : Env3} {G G' : Reg}
theorem RepH.mono {d : D} {v : V} (r : RepH K F H d v) (e : Same F F') (h : ∀ a xs, H a = some (.lst xs) → H' a = some (.lst xs)) : RepH K F' H' d v := by
  rcases r with r | ⟨a, xs, ds, rfl, rfl, h1, h2⟩
  · exact .inl (Rep.mono e _ _ r)
  · exact .inr ⟨a, xs, ds, rfl, rfl, h _ _ h1, RepL.mono e _ _ h2⟩
theorem St3.resolve (S : St3 K B pn F H σ E G) {i : Nat} {v : V} {d : D} (hv : σ[i]? = some (some v)) (h : (Res.sl i).get E = some d) : RepH K F H d v := by
  unfold Res.get at h
  dsimp only at h
  split at h
  · rename_i d' q
    cases h
    obtain ⟨v', h1, h2⟩ := S.slot i d q
    rw [hv] at h1
    cases h1
    exact .inl h2
  · rename_i ds q
    cases h
    obtain ⟨a, h1, f⟩ := S.own i ds q
    rw [hv] at h1
    cases h1
    obtain ⟨xs, h2, h3⟩ := f.ex
    exact .inr ⟨a, xs, ds, rfl, rfl, h2, h3⟩
  · cases h
theorem St3.getH (S : St3 K B pn F H σ E G) {r : Res} {v : V} {d : D} (hr : RepR K B pn F H σ E G r v) (h : r.get E = some d) : RepH K F H d v := by
  cases r with
  | val d' => cases h; exact .inl hr
  | sl i => exact S.resolve hr h
  | fr ds =>
    cases h
    obtain ⟨a, rfl, f, _⟩ := hr
    obtain ⟨xs, h2, h3⟩ := f.ex
    exact .inr ⟨a, xs, ds, rfl, rfl, h2, h3⟩
/-- a free list freezes; the others stand -/
theorem St3.fz (S : St3 K B pn F H σ E G) {r : Res} {v : V} (hr : RepR K B pn F H σ E G r v) : ∃ F', St3 K B pn F' H σ E G ∧ Same F F' ∧ RepR K B pn F' H σ E G r.fz v := by
  cases r with
  | val d => exact ⟨F, S, Same.refl F, hr⟩
  | sl i => exact ⟨F, S, Same.refl F, hr⟩
  | fr ds =>
    obtain ⟨a, rfl, f, no⟩ := hr
    exact S.freeze f no
/-- what is frozen keeps its sense further on -/
theorem RepR.onward {r : Res} {v : V} (hr : RepR K B pn F H σ E G r.fz v) (e : Same F F') : RepR K B pn F' H' σ E' G' r.fz v := by
  cases r with
  | val d => exact Rep.mono e _ _ hr
  | sl i => exact hr
  | fr ds => exact Rep.mono e _ _ hr
theorem St3.ice (S : St3 K B pn F H σ E G) {r : Res} {v : V} {d : D} {E' : Env3} (hr : RepR K B pn F H σ E G r v) (h : r.ice E = some (d, E')) : ∃ F', St3 K B pn F' H σ E' G ∧ Same F F' ∧ Rep K F' d v := by
  cases r with
  | val d' => cases h; exact ⟨F, S, Same.refl F, hr⟩
  | fr ds =>
    cases h
    obtain ⟨a, rfl, f, no⟩ := hr
    exact S.freeze f no
  | sl i =>
    unfold Res.ice at h
    dsimp only at h
    split at h
    · rename_i d' q
      cases h
      obtain ⟨v', h1, h2⟩ := S.slot i d q
      have hr' : σ[i]? = some (some v) := hr
      rw [hr'] at h1
      cases h1
      exact ⟨F, S, Same.refl F, h2⟩
    · rename_i ds q
      cases h
      exact S.freezeSlot q hr
    · cases h
end

/-! ### the lifted readings -/
section
variable (K : PySem.W.Frag) (B : Base3)
def Lift (te : DE) : TE := fun σ H Q => ∃ pn F E G k, St3 K B pn F H σ E G ∧ te E G k ∧
  ∀ r E' G', k r E' G' → ∀ v F' H', St3 K B pn F' H' σ E' G' → Same F F' → RepR K B pn F' H' σ E' G' r v → Q v H'
def LiftT (tt : DT) : TT := fun σ H Q => ∃ pn F E G k, St3 K B pn F H σ E G ∧ tt E G k ∧
  ∀ b E' G', k b E' G' → ∀ F' H', St3 K B pn F' H' σ E' G' → Same F F' → Q b H'
/-- arguments, frozen -/
def LiftA (ta : DA) : TA := fun σ H Q => ∃ pn F E G k, St3 K B pn F H σ E G ∧ ta E G k ∧
  ∀ ds E' G', k ds E' G' → ∀ vs F' H', St3 K B pn F' H' σ E' G' → Same F F' → RepL K F' ds vs → Q vs H'
/-- arguments, as they stand at the call -/
def LiftP (ta : DA) : TA := fun σ H Q => ∃ pn F E G k, St3 K B pn F H σ E G ∧ ta E G k ∧
  ∀ ds E' G', k ds E' G' → ∀ vs F' H', St3 K B pn F' H' σ E' G' → Same F F' → RepHL K F' H' ds vs → Q vs H'
end
section
variable (X : Cx) (B : Base3)
structure LE (e : Expr) (te : DE) : Prop where
  pe : PE X e (Lift X.K B te)
structure LT (e : Expr) (tt : DT) : Prop where
  pt : PT X e (LiftT X.K B tt)
/-- a test whatever its 'whole' is -/
structure LW (e : Expr) (tt : DT) : Prop where
  pw : PW X e (LiftT X.K B tt)
structure LA (es : List Expr) (ta : DA) : Prop where
  pa : PA X es (LiftA X.K B ta)
structure LP (es : List Expr) (ta : DA) : Prop where
  pa : PA X es (LiftP X.K B ta)
end
section
variable {X : Cx}
theorem pe_imp {e : Expr} {t t' : TE} (h : PE X e t) (hi : ∀ σ H Q, t' σ H Q → t σ H Q) : PE X e t' := ⟨fun pins s σ H Q I hw => h.run pins s σ H Q I (hi σ H Q hw)⟩
theorem pt_imp {e : Expr} {t t' : TT} (h : PT X e t) (hi : ∀ σ H Q, t' σ H Q → t σ H Q) : PT X e t' := ⟨fun pins s σ H Q I hw => h.run pins s σ H Q I (hi σ H Q hw)⟩
theorem pw_imp {e : Expr} {t t' : TT} (h : PW X e t) (hi : ∀ σ H Q, t' σ H Q → t σ H Q) : PW X e t' := ⟨fun wh pins s σ H Q I hw => h.run wh pins s σ H Q I (hi σ H Q hw)⟩
theorem pa_imp {e : List Expr} {t t' : TA} (h : PA X e t) (hi : ∀ σ H Q, t' σ H Q → t σ H Q) : PA X e t' := ⟨fun pos pins s σ H Q I hw => h.run pos pins s σ H Q I (hi σ H Q hw)⟩
theorem ps_imp {e : Stmt} {t t' : TS} (h : PS X e t) (hi : ∀ D σ H, t' D σ H → t D σ H) : PS X e t' := ⟨fun pins s σ H D I hw => h.run pins s σ H D I (hi D σ H hw)⟩
theorem pss_imp {e : List Stmt} {t t' : TS} (h : PSs X e t) (hi : ∀ D σ H, t' D σ H → t D σ H) : PSs X e t' := ⟨fun pins s σ H D I hw => h.run pins s σ H D I (hi D σ H hw)⟩
end

/-! ### names, constants -/
def dVar (i : Nat) : DE := fun E G k => match E[i]? with
  | some (Sl3.val d) => k (.val d) E G
  | some (Sl3.own _) => k (.sl i) E G
  | _ => False
def dC (d : D) : DE := fun E G k => k (.val d) E G
section
variable {X : Cx} {B : Base3}
theorem le_pv {i : Nat} {e : Expr} (h : PE X e (tVar i)) : LE X B e (dVar i) := ⟨pe_imp h fun σ H Q ⟨pn, F, E, G, k, S, ht, hk⟩ => by
  unfold dVar at ht
  split at ht
  · rename_i d q
    obtain ⟨v, h1, h2⟩ := S.slot i d q
    exact ⟨v, h1, hk _ _ _ ht v F H S (Same.refl F) h2⟩
  · rename_i ds q
    obtain ⟨a, h1, h2⟩ := S.own i ds q
    exact ⟨_, h1, hk _ _ _ ht _ F H S (Same.refl F) h1⟩
  · exact ht.elim⟩
theorem le_c {d : D} {v : V} {e : Expr} (h : PE X e (tC v)) (r : ∀ F, Rep X.K F d v) : LE X B e (dC d) := ⟨pe_imp h fun σ H Q ⟨pn, F, E, G, k, S, ht, hk⟩ =>
  hk _ _ _ ht v F H S (Same.refl F) (r F)⟩
theorem le_int {i j pos} : LE X B (.Constant (.int i) j pos) (dC (.int i)) := le_c pe_int fun _ => .int i
theorem le_bl {b j pos} : LE X B (.Constant (.bool b) j pos) (dC (.bl b)) := le_c pe_bl fun _ => .bl b
theorem le_non {j pos} : LE X B (.Constant .none j pos) (dC .non) := le_c pe_non fun _ => .non
theorem le_str {x j pos} : LE X B (.Constant (.str x) j pos) (dC (.str x)) := le_c pe_str fun _ => .str x
end

/-! ### operators -/
/-- what an operator's reading makes of plain operands -/
def ROp (X : Cx) (B : Base3) (r : R2) (rd : Reg → D → D → (Res → Prop) → Prop) : Prop :=
  ∀ pn F H σ E G x y d e k Q, St3 X.K B pn F H σ E G → RepH X.K F H d x → RepH X.K F H e y → rd G d e k →
    (∀ res, k res → ∀ v F' H', St3 X.K B pn F' H' σ E G → Same F F' → RepR X.K B pn F' H' σ E G res v → Q v H') → r x y H Q
def dOp (rd : Reg → D → D → (Res → Prop) → Prop) (ta tb : DE) : DE := fun E G k => ta E G fun x E1 G1 => tb E1 G1 fun y E2 G2 =>
  ∃ d, x.fz.get E2 = some d ∧ ∃ e, y.get E2 = some e ∧ rd G2 d e fun r => k r E2 G2
section
variable {X : Cx} {B : Base3}
/-- two operands -/
theorem two {ta tb : DE} {σ : L2.St} {H : Hp} {Q : VK} {r : R2} {rd : Reg → D → D → (Res → Prop) → Prop} (hr : ROp X B r rd) (h : Lift X.K B (dOp rd ta tb) σ H Q) : tOp r (Lift X.K B ta) (Lift X.K B tb) σ H Q := by
  obtain ⟨pn, F, E, G, k, S, ht, hk⟩ := h
  refine ⟨pn, F, E, G, _, S, ht, fun x E1 G1 h1 v F1 H1 S1 s1 r1 => ?_⟩
  obtain ⟨F1', S1', s1', r1'⟩ := S1.fz r1
  refine ⟨pn, F1', E1, G1, _, S1', h1, fun y E2 G2 h2 u F2 H2 S2 s2 r2 => ?_⟩
  obtain ⟨d, hd, e, he, h3⟩ := h2
  refine hr pn F2 H2 σ E2 G2 v u d e _ Q S2 (S2.getH (r1'.onward s2) hd) (S2.getH r2 he) h3 fun res hres z F' H' S' s' rr => ?_
  exact hk _ _ _ hres z F' H' S' ((s1.trans s1').trans (s2.trans s')) rr
theorem le_op {op : Operator} {r : R2} {rd : Reg → D → D → (Res → Prop) → Prop} {a b : Expr} {ta tb : DE} {pos : Pos} (ho : OpR X (binaryOp op) r) (hr : ROp X B r rd) (ha : LE X B a ta) (hb : LE X B b tb) : LE X B (.BinOp a op b pos) (dOp rd ta tb) :=
  ⟨pe_imp (pe_op ho ha.pe hb.pe) fun _ _ _ h => two hr h⟩
theorem le_cmp {op : CmpOp} {r : R2} {rd : Reg → D → D → (Res → Prop) → Prop} {a b : Expr} {ta tb : DE} {pos : Pos} (ho : OpR X (compareOp op) r) (hr : ROp X B r rd) (ha : LE X B a ta) (hb : LE X B b tb) (hm : behindInMarks op b = false) : LE X B (.Compare a [op] [b] pos) (dOp rd ta tb) :=
  ⟨pe_imp (pe_cmpR ho ha.pe hb.pe hm) fun _ _ _ h => two hr h⟩
theorem le_ix {r : R2} {rd : Reg → D → D → (Res → Prop) → Prop} {a b : Expr} {ta tb : DE} {pos : Pos} (ho : IxR X r) (hr : ROp X B r rd) (ha : LE X B a ta) (hb : LE X B b tb) (hs : PlainIx b) : LE X B (.Subscript a b pos) (dOp rd ta tb) :=
  ⟨pe_imp (pe_ix ho ha.pe hb.pe hs) fun _ _ _ h => two hr h⟩

/-! ### tests -/
def dTest (te : DE) : DT := fun E G k => te E G fun r E1 G1 => ∃ b, r = .val (.bl b) ∧ k b E1 G1
theorem lt_val {e : Expr} {te : DE} (h : LE X B e te) (he : ∀ whole, isTrue e X.env whole = (do let v ← whole; standAt e.pos; holding [v] (truthy v)) := by intro _; rfl) : LT X B e (dTest te) :=
  ⟨pt_imp (pt_val h.pe he) fun σ H Q ⟨pn, F, E, G, k, S, ht, hk⟩ => ⟨pn, F, E, G, _, S, ht, fun r E1 G1 ⟨b, e1, h1⟩ v F1 H1 S1 s1 r1 => by
    subst e1
    cases r1
    exact ⟨b, rfl, hk _ _ _ h1 F1 H1 S1 s1⟩⟩⟩
theorem lt_cmp {op : CmpOp} {r : R2} {rd : Reg → D → D → (Res → Prop) → Prop} {a b : Expr} {ta tb : DE} {pos : Pos} (ho : OpR X (compareOp op) r) (hr : ROp X B r rd) (ha : LE X B a ta) (hb : LE X B b tb) (hm : behindInMarks op b = false) : LT X B (.Compare a [op] [b] pos) (dTest (dOp rd ta tb)) :=
  ⟨pt_imp (pt_cmpR ho ha.pe hb.pe hm) fun σ H Q ⟨pn, F, E, G, k, S, ht, hk⟩ => by
    refine two (Q := fun x H' => ∃ k, x = .bl k ∧ Q k H') hr ⟨pn, F, E, G, _, S, ht, fun r E1 G1 ⟨b, e1, h1⟩ v F1 H1 S1 s1 r1 => ?_⟩
    subst e1
    cases r1
    exact ⟨b, rfl, hk _ _ _ h1 F1 H1 S1 s1⟩⟩
def dNot (t : DT) : DT := fun E G k => t E G fun b E1 G1 => k (!b) E1 G1
def dAnd (t u : DT) : DT := fun E G k => t E G fun b E1 G1 => if b = true then u E1 G1 k else k false E1 G1
def dOr (t u : DT) : DT := fun E G k => t E G fun b E1 G1 => if b = true then k true E1 G1 else u E1 G1 k
theorem LW.lt {e : Expr} {t : DT} (h : LW X B e t) : LT X B e t := ⟨h.pw.pt⟩
theorem lt_not {a : Expr} {t : DT} {pos : Pos} (ha : LT X B a t) : LT X B (.UnaryOp .Not a pos) (dNot t) :=
  ⟨pt_imp (pt_not ha.pt) fun σ H Q ⟨pn, F, E, G, k, S, ht, hk⟩ => ⟨pn, F, E, G, _, S, ht, fun b E1 G1 h1 F1 H1 S1 s1 => hk _ _ _ h1 F1 H1 S1 s1⟩⟩
theorem lw_and1 {a : Expr} {t : DT} {pos : Pos} (ha : LT X B a t) : LW X B (.BoolOp .And [a] pos) t := ⟨pw_and1 ha.pt⟩
theorem lw_or1 {a : Expr} {t : DT} {pos : Pos} (ha : LT X B a t) : LW X B (.BoolOp .Or [a] pos) t := ⟨pw_or1 ha.pt⟩
theorem lw_and {a b : Expr} {rest : List Expr} {t u : DT} {pos : Pos} (ha : LT X B a t) (hb : LW X B (.BoolOp .And (b :: rest) pos) u) : LW X B (.BoolOp .And (a :: b :: rest) pos) (dAnd t u) :=
  ⟨pw_imp (pw_and ha.pt hb.pw) fun σ H Q ⟨pn, F, E, G, k, S, ht, hk⟩ => ⟨pn, F, E, G, _, S, ht, fun b E1 G1 h1 F1 H1 S1 s1 => by
    cases b with
    | true => exact ⟨pn, F1, E1, G1, k, S1, h1, fun b' E2 G2 h2 F2 H2 S2 s2 => hk _ _ _ h2 F2 H2 S2 (s1.trans s2)⟩
    | false => exact hk _ _ _ h1 F1 H1 S1 s1⟩⟩
theorem lw_or {a b : Expr} {rest : List Expr} {t u : DT} {pos : Pos} (ha : LT X B a t) (hb : LW X B (.BoolOp .Or (b :: rest) pos) u) : LW X B (.BoolOp .Or (a :: b :: rest) pos) (dOr t u) :=
  ⟨pw_imp (pw_or ha.pt hb.pw) fun σ H Q ⟨pn, F, E, G, k, S, ht, hk⟩ => ⟨pn, F, E, G, _, S, ht, fun b E1 G1 h1 F1 H1 S1 s1 => by
    cases b with
    | true => exact hk _ _ _ h1 F1 H1 S1 s1
    | false => exact ⟨pn, F1, E1, G1, k, S1, h1, fun b' E2 G2 h2 F2 H2 S2 s2 => hk _ _ _ h2 F2 H2 S2 (s1.trans s2)⟩⟩⟩
/-- .. as values -/
def dAndV (ta tb : DE) : DE := fun E G k => ta E G fun r E1 G1 => ∃ b, r = .val (.bl b) ∧ if b = true then tb E1 G1 k else k (.val (.bl false)) E1 G1
def dOrV (ta tb : DE) : DE := fun E G k => ta E G fun r E1 G1 => ∃ b, r = .val (.bl b) ∧ if b = true then k (.val (.bl true)) E1 G1 else tb E1 G1 k
def dNotV (ta : DE) : DE := fun E G k => ta E G fun r E1 G1 => ∃ b, r = .val (.bl b) ∧ k (.val (.bl (!b))) E1 G1
theorem le_one {op} {a : Expr} {t : DE} {pos : Pos} (h : LE X B a t) : LE X B (.BoolOp op [a] pos) t := ⟨pe_one h.pe⟩
theorem le_and {a b : Expr} {rest : List Expr} {ta tb : DE} {pos : Pos} (ha : LE X B a ta) (hb : LE X B (.BoolOp .And (b :: rest) pos) tb) : LE X B (.BoolOp .And (a :: b :: rest) pos) (dAndV ta tb) :=
  ⟨pe_imp (pe_and ha.pe hb.pe) fun σ H Q ⟨pn, F, E, G, k, S, ht, hk⟩ => ⟨pn, F, E, G, _, S, ht, fun r E1 G1 ⟨b, e1, h1⟩ v F1 H1 S1 s1 r1 => by
    subst e1
    cases r1
    refine ⟨b, rfl, ?_⟩
    cases b with
    | true => exact ⟨pn, F1, E1, G1, k, S1, h1, fun b' E2 G2 h2 v F2 H2 S2 s2 r2 => hk _ _ _ h2 v F2 H2 S2 (s1.trans s2) r2⟩
    | false => exact hk _ _ _ h1 _ F1 H1 S1 s1 (.bl false)⟩⟩
theorem le_or {a b : Expr} {rest : List Expr} {ta tb : DE} {pos : Pos} (ha : LE X B a ta) (hb : LE X B (.BoolOp .Or (b :: rest) pos) tb) : LE X B (.BoolOp .Or (a :: b :: rest) pos) (dOrV ta tb) :=
  ⟨pe_imp (pe_or ha.pe hb.pe) fun σ H Q ⟨pn, F, E, G, k, S, ht, hk⟩ => ⟨pn, F, E, G, _, S, ht, fun r E1 G1 ⟨b, e1, h1⟩ v F1 H1 S1 s1 r1 => by
    subst e1
    cases r1
    refine ⟨b, rfl, ?_⟩
    cases b with
    | true => exact hk _ _ _ h1 _ F1 H1 S1 s1 (.bl true)
    | false => exact ⟨pn, F1, E1, G1, k, S1, h1, fun b' E2 G2 h2 v F2 H2 S2 s2 r2 => hk _ _ _ h2 v F2 H2 S2 (s1.trans s2) r2⟩⟩⟩
theorem le_not {a : Expr} {ta : DE} {pos : Pos} (ha : LE X B a ta) : LE X B (.UnaryOp .Not a pos) (dNotV ta) :=
  ⟨pe_imp (pe_not ha.pe) fun σ H Q ⟨pn, F, E, G, k, S, ht, hk⟩ => ⟨pn, F, E, G, _, S, ht, fun r E1 G1 ⟨b, e1, h1⟩ v F1 H1 S1 s1 r1 => by
    subst e1
    cases r1
    exact ⟨b, rfl, hk _ _ _ h1 _ F1 H1 S1 s1 (.bl (!b))⟩⟩⟩
def dIf (t : DT) (ta tb : DE) : DE := fun E G k => t E G fun b E1 G1 => if b = true then ta E1 G1 k else tb E1 G1 k
theorem le_ifExp {c a b : Expr} {t : DT} {ta tb : DE} {pos : Pos} (hc : LT X B c t) (ha : LE X B a ta) (hb : LE X B b tb) : LE X B (.IfExp c a b pos) (dIf t ta tb) :=
  ⟨pe_imp (pe_ifExp hc.pt ha.pe hb.pe) fun σ H Q ⟨pn, F, E, G, k, S, ht, hk⟩ => ⟨pn, F, E, G, _, S, ht, fun b E1 G1 h1 F1 H1 S1 s1 => by
    cases b with
    | true => exact ⟨pn, F1, E1, G1, k, S1, h1, fun b' E2 G2 h2 v F2 H2 S2 s2 r2 => hk _ _ _ h2 v F2 H2 S2 (s1.trans s2) r2⟩
    | false => exact ⟨pn, F1, E1, G1, k, S1, h1, fun b' E2 G2 h2 v F2 H2 S2 s2 r2 => hk _ _ _ h2 v F2 H2 S2 (s1.trans s2) r2⟩⟩⟩
/-- unary -/
def RUn (X : Cx) (B : Base3) (r : V → Hp → VK → Prop) (rd : D → (Res → Prop) → Prop) : Prop :=
  ∀ pn F H σ E G x d k Q, St3 X.K B pn F H σ E G → RepH X.K F H d x → rd d k →
    (∀ res, k res → ∀ v F' H', St3 X.K B pn F' H' σ E G → Same F F' → RepR X.K B pn F' H' σ E G res v → Q v H') → r x H Q
def dUn (rd : D → (Res → Prop) → Prop) (ta : DE) : DE := fun E G k => ta E G fun x E1 G1 => ∃ d, x.get E1 = some d ∧ rd d fun r => k r E1 G1
theorem le_un {op : UnaryOp} {r : V → Hp → VK → Prop} {rd : D → (Res → Prop) → Prop} {a : Expr} {ta : DE} {pos : Pos} (ho : UnR X (unaryOp op) r) (hr : RUn X B r rd) (ha : LE X B a ta) : LE X B (.UnaryOp op a pos) (dUn rd ta) :=
  ⟨pe_imp (pe_un ho ha.pe) fun σ H Q ⟨pn, F, E, G, k, S, ht, hk⟩ => ⟨pn, F, E, G, _, S, ht, fun x E1 G1 ⟨d, hd, h1⟩ v F1 H1 S1 s1 r1 =>
    hr pn F1 H1 σ E1 G1 v d _ Q S1 (S1.getH r1 hd) h1 fun res hres u F2 H2 S2 s2 r2 => hk _ _ _ hres u F2 H2 S2 (s1.trans s2) r2⟩⟩
/-- a < b < c -/
def dChain (rd rd' : Reg → D → D → (Res → Prop) → Prop) (ta tb tc : DE) : DE := fun E G k => ta E G fun x E1 G1 => tb E1 G1 fun y E2 G2 =>
  ∃ d, x.fz.get E2 = some d ∧ ∃ e, y.fz.get E2 = some e ∧ rd G2 d e fun r => ∃ b, r = .val (.bl b) ∧
    if b = true then tc E2 G2 fun z E3 G3 => ∃ e', y.fz.get E3 = some e' ∧ ∃ f, z.get E3 = some f ∧ rd' G3 e' f fun r => k r E3 G3 else k (.val (.bl false)) E2 G2
end
end L3

set_option Elab.async false
set_option maxRecDepth 100000
set_option maxHeartbeats 4000000
/-! L3, part c: chains, arguments, displays, slices, calls, statements, loops, comprehensions, defs. -/
namespace L3
open PySem PySem.Spec PyProof.Rows L2

section
variable {X : Cx} {B : Base3}
/-- two comparisons in a row -/
theorem chain3 {ta tb tc : DE} {σ : L2.St} {H : Hp} {Q : VK} {r r' : R2} {rd rd' : Reg → D → D → (Res → Prop) → Prop} (hr : ROp X B r rd) (hr' : ROp X B r' rd') (h : Lift X.K B (dChain rd rd' ta tb tc) σ H Q) :
    tChain r r' (Lift X.K B ta) (Lift X.K B tb) (Lift X.K B tc) σ H Q := by
  obtain ⟨pn, F, E, G, k, S, ht, hk⟩ := h
  refine ⟨pn, F, E, G, _, S, ht, fun x E1 G1 h1 v F1 H1 S1 s1 r1 => ?_⟩
  obtain ⟨F1', S1', s1', r1'⟩ := S1.fz r1
  refine ⟨pn, F1', E1, G1, _, S1', h1, fun y E2 G2 h2 u F2 H2 S2 s2 r2 => ?_⟩
  obtain ⟨F2', S2', s2', r2'⟩ := S2.fz r2
  obtain ⟨d, hd, e, he, h3⟩ := h2
  refine hr pn F2' H2 σ E2 G2 v u d e _ _ S2' (S2'.getH (r1'.onward (s2.trans s2')) hd) (S2'.getH r2' he) h3 fun res hres z F' H' S' s' rr => ?_
  obtain ⟨b, e1, h4⟩ := hres
  subst e1
  cases rr
  refine ⟨b, rfl, ?_⟩
  cases b with
  | false => exact hk _ _ _ h4 _ F' H' S' (((s1.trans s1').trans (s2.trans s2')).trans s') (.bl false)
  | true =>
    refine ⟨pn, F', E2, G2, _, S', h4, fun w E3 G3 h5 q F3 H3 S3 s3 r3 => ?_⟩
    obtain ⟨e', he', f, hf, h6⟩ := h5
    refine hr' pn F3 H3 σ E3 G3 u q e' f _ Q S3 (S3.getH (r2'.onward (s'.trans s3)) he') (S3.getH r3 hf) h6 fun res hres z F5 H5 S5 s5 rr => ?_
    exact hk _ _ _ hres z F5 H5 S5 ((((s1.trans s1').trans (s2.trans s2')).trans s').trans (s3.trans s5)) rr
theorem le_chain {op op' : CmpOp} {r r' : R2} {rd rd' : Reg → D → D → (Res → Prop) → Prop} {a b c : Expr} {ta tb tc : DE} {pos : Pos} (ho : OpR X (compareOp op) r) (hr : ROp X B r rd) (ho' : OpR X (compareOp op') r') (hr' : ROp X B r' rd') (ha : LE X B a ta) (hb : LE X B b tb) (hc : LE X B c tc)
    (hm : lastMarks [op, op'] [b, c] = false := by with_unfolding_all rfl) : LE X B (.Compare a [op, op'] [b, c] pos) (dChain rd rd' ta tb tc) :=
  ⟨pe_imp (pe_chain ho ho' ha.pe hb.pe hc.pe hm) fun _ _ _ h => chain3 hr hr' h⟩
theorem lt_chain {op op' : CmpOp} {r r' : R2} {rd rd' : Reg → D → D → (Res → Prop) → Prop} {a b c : Expr} {ta tb tc : DE} {pos : Pos} (ho : OpR X (compareOp op) r) (hr : ROp X B r rd) (ho' : OpR X (compareOp op') r') (hr' : ROp X B r' rd') (ha : LE X B a ta) (hb : LE X B b tb) (hc : LE X B c tc)
    (hm : lastMarks [op, op'] [b, c] = false := by with_unfolding_all rfl) : LT X B (.Compare a [op, op'] [b, c] pos) (dTest (dChain rd rd' ta tb tc)) :=
  ⟨pt_imp (pt_chain ho ho' ha.pe hb.pe hc.pe hm) fun σ H Q ⟨pn, F, E, G, k, S, ht, hk⟩ => by
    refine chain3 (Q := fun x H' => ∃ k, x = .bl k ∧ Q k H') hr hr' ⟨pn, F, E, G, _, S, ht, fun r E1 G1 ⟨b, e1, h1⟩ v F1 H1 S1 s1 r1 => ?_⟩
    subst e1
    cases r1
    exact ⟨b, rfl, hk _ _ _ h1 F1 H1 S1 s1⟩⟩

/-! ### arguments -/
def dNil : DA := fun E G k => k [] E G
def dCons (ta : DE) (tr : DA) : DA := fun E G k => ta E G fun x E1 G1 => ∃ d E2, x.ice E1 = some (d, E2) ∧ tr E2 G1 fun ds E3 G3 => k (d :: ds) E3 G3
def dPCons (ta : DE) (tr : DA) : DA := fun E G k => ta E G fun x E1 G1 => tr E1 G1 fun ds E3 G3 => ∃ d, x.fz.get E3 = some d ∧ k (d :: ds) E3 G3
theorem la_nil : LA X B [] dNil := ⟨pa_imp pa_nil fun σ H Q ⟨pn, F, E, G, k, S, ht, hk⟩ => hk _ _ _ ht _ F H S (Same.refl F) .nil⟩
theorem lp_nil : LP X B [] dNil := ⟨pa_imp pa_nil fun σ H Q ⟨pn, F, E, G, k, S, ht, hk⟩ => hk _ _ _ ht _ F H S (Same.refl F) .nil⟩
theorem la_cons {e : Expr} {es : List Expr} {ta : DE} {tr : DA} (ha : LE X B e ta) (hr : LA X B es tr) (hs : starEach (e :: es) X.env = (false, eval e X.env) :: starEach es X.env := by rfl) : LA X B (e :: es) (dCons ta tr) :=
  ⟨pa_imp (pa_cons ha.pe hr.pa hs) fun σ H Q ⟨pn, F, E, G, k, S, ht, hk⟩ => ⟨pn, F, E, G, _, S, ht, fun x E1 G1 ⟨d, E2, h0, h1⟩ v F1 H1 S1 s1 r1 => by
    obtain ⟨F1', S1', s1', r1'⟩ := S1.ice r1 h0
    exact ⟨pn, F1', E2, G1, _, S1', h1, fun ds E3 G3 h3 vs F3 H3 S3 s3 r3 => hk _ _ _ h3 _ F3 H3 S3 ((s1.trans s1').trans s3) (.cons (Rep.mono s3 _ _ r1') r3)⟩⟩⟩
theorem lp_cons {e : Expr} {es : List Expr} {ta : DE} {tr : DA} (ha : LE X B e ta) (hr : LP X B es tr) (hs : starEach (e :: es) X.env = (false, eval e X.env) :: starEach es X.env := by rfl) : LP X B (e :: es) (dPCons ta tr) :=
  ⟨pa_imp (pa_cons ha.pe hr.pa hs) fun σ H Q ⟨pn, F, E, G, k, S, ht, hk⟩ => ⟨pn, F, E, G, _, S, ht, fun x E1 G1 h1 v F1 H1 S1 s1 r1 => by
    obtain ⟨F1', S1', s1', r1'⟩ := S1.fz r1
    exact ⟨pn, F1', E1, G1, _, S1', h1, fun ds E3 G3 ⟨d, hd, h3⟩ vs F3 H3 S3 s3 r3 => hk _ _ _ h3 _ F3 H3 S3 ((s1.trans s1').trans s3) (.cons (S3.getH (r1'.onward s3) hd) r3)⟩⟩⟩

/-! ### displays -/
def dTup (ta : DA) : DE := fun E G k => ta E G fun ds E1 G1 => ds.length ≤ sizeLine ∧ k (.val (.tup ds)) E1 G1
def dLst (ta : DA) : DE := fun E G k => ta E G fun ds E1 G1 => ds.length ≤ sizeLine ∧ k (.fr ds) E1 G1
theorem le_tup {es : List Expr} {ta : DA} {x1 pos} (h : LA X B es ta) : LE X B (.Tuple es x1 pos) (dTup ta) :=
  ⟨pe_imp (pe_tup h.pa) fun σ H Q ⟨pn, F, E, G, k, S, ht, hk⟩ => ⟨pn, F, E, G, _, S, ht, fun ds E1 G1 ⟨hz, h1⟩ vs F1 H1 S1 s1 r1 => by
    refine ⟨by rw [← r1.length]; exact hz, fun p np => ?_⟩
    obtain ⟨S2, s2⟩ := S1.newF (o := .tup vs) np
    exact hk _ _ _ h1 _ _ _ S2 (s1.trans s2) (.tup (SqT.of upd_same) (RepL.mono s2 _ _ r1))⟩⟩
theorem le_lst {es : List Expr} {ta : DA} {pos} (h : LA X B es ta) : LE X B (.List es pos) (dLst ta) :=
  ⟨pe_imp (pe_lst h.pa) fun σ H Q ⟨pn, F, E, G, k, S, ht, hk⟩ => ⟨pn, F, E, G, _, S, ht, fun ds E1 G1 ⟨hz, h1⟩ vs F1 H1 S1 s1 r1 => by
    refine ⟨by rw [← r1.length]; exact hz, fun p np => ?_⟩
    obtain ⟨f, no⟩ := S1.newFre np r1
    exact hk _ _ _ h1 _ _ _ (S1.newU np) s1 ⟨p, rfl, f, no⟩⟩⟩

/-! ### slices -/
abbrev DO := Env3 → Reg → (Option Int → Env3 → Reg → Prop) → Prop
def LiftO (K : PySem.W.Frag) (B : Base3) (t : DO) : TO := fun σ H Q => ∃ pn F E G k, St3 K B pn F H σ E G ∧ t E G k ∧ ∀ o E' G', k o E' G' → ∀ F' H', St3 K B pn F' H' σ E' G' → Same F F' → Q o H'
structure LO (X : Cx) (B : Base3) (e : Option Expr) (t : DO) : Prop where
  po : PO X e (LiftO X.K B t)
theorem po_imp {e : Option Expr} {t t' : TO} (h : PO X e t) (hi : ∀ σ H Q, t' σ H Q → t σ H Q) : PO X e t' := ⟨fun pins s σ H Q I hw => h.run pins s σ H Q I (hi σ H Q hw)⟩
def dNoPart : DO := fun E G k => k none E G
def dPart (ta : DE) : DO := fun E G k => ta E G fun r E1 G1 => ∃ i, r = .val (.int i) ∧ k (some i) E1 G1
theorem lo_none : LO X B none dNoPart := ⟨po_imp po_none fun σ H Q ⟨pn, F, E, G, k, S, ht, hk⟩ => hk _ _ _ ht F H S (Same.refl F)⟩
theorem lo_some {e : Expr} {te : DE} (h : LE X B e te) : LO X B (some e) (dPart te) :=
  ⟨po_imp (po_some h.pe) fun σ H Q ⟨pn, F, E, G, k, S, ht, hk⟩ => ⟨pn, F, E, G, _, S, ht, fun r E1 G1 ⟨i, e1, h1⟩ v F1 H1 S1 s1 r1 => by
    subst e1
    cases r1
    exact ⟨i, rfl, hk _ _ _ h1 F1 H1 S1 s1⟩⟩⟩
def RSl3 (X : Cx) (B : Base3) (r : V → Option Int → Option Int → Hp → VK → Prop) (rd : D → Option Int → Option Int → (Res → Prop) → Prop) : Prop :=
  ∀ pn F H σ E G x d lo hi k Q, St3 X.K B pn F H σ E G → RepH X.K F H d x → rd d lo hi k →
    (∀ res, k res → ∀ v F' H', St3 X.K B pn F' H' σ E G → Same F F' → RepR X.K B pn F' H' σ E G res v → Q v H') → r x lo hi H Q
def dSl (rd : D → Option Int → Option Int → (Res → Prop) → Prop) (te : DE) (tl th : DO) : DE := fun E G k => te E G fun x E1 G1 => tl E1 G1 fun lo E2 G2 => th E2 G2 fun hi E3 G3 =>
  ∃ d, x.fz.get E3 = some d ∧ rd d lo hi fun r => k r E3 G3
theorem le_slice {r : V → Option Int → Option Int → Hp → VK → Prop} {rd : D → Option Int → Option Int → (Res → Prop) → Prop} {e : Expr} {lo hi : Option Expr} {te : DE} {tl th : DO} {p2 pos : Pos} (ho : SlR X r) (hr : RSl3 X B r rd) (he : LE X B e te) (hl : LO X B lo tl) (hh : LO X B hi th) :
    LE X B (.Subscript e (.Slice lo hi none p2) pos) (dSl rd te tl th) :=
  ⟨pe_imp (pe_slice ho he.pe hl.po hh.po) fun σ H Q ⟨pn, F, E, G, k, S, ht, hk⟩ => ⟨pn, F, E, G, _, S, ht, fun x E1 G1 h1 v F1 H1 S1 s1 r1 => by
    obtain ⟨F1', S1', s1', r1'⟩ := S1.fz r1
    refine ⟨pn, F1', E1, G1, _, S1', h1, fun lo E2 G2 h2 F2 H2 S2 s2 => ?_⟩
    refine ⟨pn, F2, E2, G2, _, S2, h2, fun hi E3 G3 h3 F3 H3 S3 s3 => ?_⟩
    obtain ⟨d, hd, h4⟩ := h3
    exact hr pn F3 H3 σ E3 G3 v d lo hi _ Q S3 (S3.getH (r1'.onward (s2.trans s3)) hd) h4 fun res hres u F4 H4 S4 s4 r4 => hk _ _ _ hres u F4 H4 S4 ((s1.trans s1').trans ((s2.trans s3).trans s4)) r4⟩⟩

/-! ### calls of built-ins -/
def RCall (X : Cx) (B : Base3) (r : List V → Hp → VK → Prop) (rd : Reg → List D → (Res → Prop) → Prop) : Prop :=
  ∀ pn F H σ E G vs ds k Q, St3 X.K B pn F H σ E G → RepHL X.K F H ds vs → rd G ds k →
    (∀ res, k res → ∀ v F' H', St3 X.K B pn F' H' σ E G → Same F F' → RepR X.K B pn F' H' σ E G res v → Q v H') → r vs H Q
def dCB (rd : Reg → List D → (Res → Prop) → Prop) (ta : DA) : DE := fun E G k => ta E G fun ds E1 G1 => rd G1 ds fun r => k r E1 G1
theorem le_cb {r : List V → Hp → VK → Prop} {rd : Reg → List D → (Res → Prop) → Prop} {es : List Expr} {e : Expr} {ta : DA} (h : PE X e (tCB r (LiftP X.K B ta))) (hr : RCall X B r rd) : LE X B e (dCB rd ta) :=
  ⟨pe_imp h fun σ H Q ⟨pn, F, E, G, k, S, ht, hk⟩ => ⟨pn, F, E, G, _, S, ht, fun ds E1 G1 h1 vs F1 H1 S1 s1 r1 =>
    hr pn F1 H1 σ E1 G1 vs ds _ Q S1 r1 h1 fun res hres u F4 H4 S4 s4 r4 => hk _ _ _ hres u F4 H4 S4 (s1.trans s4) r4⟩⟩
theorem le_callB {r : List V → Hp → VK → Prop} {rd : Reg → List D → (Res → Prop) → Prop} {x : Str} {id : String} {e : Expr} {es : List Expr} {ta : DA} {p pos : Pos} (hc : CallR X (.builtin id) r) (hr : RCall X B r rd) (hg : Gl X x) (hm : X.mg x = none) (hv : bootBuiltins x = some (.builtin id)) (ha : LP X B (e :: es) ta) (hn : x ≠ "__name__" := by decide) (hdb : (x == ("__debug__" : Str)) = false := by decide)
    (he : starEach (e :: es) X.env = (false, eval e X.env) :: starEach es X.env := by rfl) (hpl : (backTo pos (starEach es X.env)).any (·.1) = false := by rfl) : LE X B (.Call (.Name x p) (e :: es) [] pos) (dCB rd ta) :=
  le_cb (es := es) (pe_callB hc hg hm hv ha.pa hn hdb he hpl) hr
theorem le_callTy {r : List V → Hp → VK → Prop} {rd : Reg → List D → (Res → Prop) → Prop} {x : Str} {T : String} {e : Expr} {es : List Expr} {ta : DA} {p pos : Pos} (hc : CallR X (.type T) r) (hr : RCall X B r rd) (hg : Gl X x) (hm : X.mg x = none) (hv : bootBuiltins x = some (.type T)) (ha : LP X B (e :: es) ta) (hn : x ≠ "__name__" := by decide) (hdb : (x == ("__debug__" : Str)) = false := by decide)
    (he : starEach (e :: es) X.env = (false, eval e X.env) :: starEach es X.env := by rfl) (hpl : (backTo pos (starEach es X.env)).any (·.1) = false := by rfl) : LE X B (.Call (.Name x p) (e :: es) [] pos) (dCB rd ta) :=
  le_cb (es := es) (pe_callTy hc hg hm hv ha.pa hn hdb he hpl) hr
end

/-! ### promises -/
abbrev DSp := List D → Reg → (Res → Reg → Prop) → (Exc3 → Reg → Prop) → Prop
structure After (K : PySem.W.Frag) (F H : Hp) (G : Reg) (F' H' : Hp) (G' : Reg) : Prop where
  w : Wld K F' H' G'
  keepF : Same F F'
  keepH : ∀ (a : Addr) (o : HO), H a = some o → a ∉ G.map (·.1) → H' a = some o
  unfr : ∀ (a : Addr) (o : HO), H a = some o → F a = none → F' a = none
  regs : ∀ a, a ∈ G'.map (·.1) → a ∈ G.map (·.1) ∨ H a = none
  regk : ∀ a, a ∈ G.map (·.1) → a ∈ G'.map (·.1)
/-- what comes back -/
def RetV (K : PySem.W.Frag) (H F' H' : Hp) (G' : Reg) : Res → V → Prop
  | .val d, v => Rep K F' d v
  | .fr ds, v => ∃ a xs, v = .ref a ∧ F' a = none ∧ H a = none ∧ a ∉ G'.map (·.1) ∧ H' a = some (.lst xs) ∧ RepL K F' ds xs
  | .sl _, _ => False
def RepX (K : PySem.W.Frag) (F : Hp) (x : Exc3) (cls : Value) (dd : Option Addr) : Prop := x.1 = cls ∧ match x.2 with
  | none => True
  | some (f, d) => ∃ a v, dd = some a ∧ F a = some (.xd [(f, v)]) ∧ Rep K F d v
def LSp (K : PySem.W.Frag) (sp : DSp) : Sp := fun vs H Q E => ∃ F G ds k kx, Wld K F H G ∧ RepL K F ds vs ∧ sp ds G k kx ∧
  (∀ r G', k r G' → ∀ v F' H', After K F H G F' H' G' → RetV K H F' H' G' r v → Q v H') ∧
  (∀ x G', kx x G' → ∀ cls dd F' H', After K F H G F' H' G' → RepX K F' x cls dd → E cls dd H')
/-- what this frame wishes of an exception -/
def WOk (X : Cx) (B : Base3) (dw : DW) : Prop := ∃ W : WX, Takes X W ∧ ∀ pn F H σ E G x cls dd, St3 X.K B pn F H σ E G → RepX X.K F x cls dd → dw x E G → W cls dd σ H
section
variable {X : Cx} {B : Base3}
theorem St3.wldAfter {K : PySem.W.Frag} {pn : Pend} {F H F' H' : Hp} {σ : L2.St} {E : Env3} {G G' : Reg} (S : St3 K B pn F H σ E G) (A : After K F H G F' H' G') : St3 K B pn F' H' σ E G' := by
  have hG : ∀ a o, B.H a = some o → a ∉ B.G → a ∉ G.map (·.1) := fun a o h hn hm => by
    rcases S.regs a hm with z | z
    · exact hn z
    · rw [h] at z; cases z
  have hHs : ∀ a o, B.H a = some o → ∃ o', H a = some o' := fun a o h => by
    by_cases hg : a ∈ B.G
    · exact S.w.regH (S.regk a hg)
    · exact ⟨o, S.keepH a o h hg⟩
  refine ⟨A.w, fun a o h => A.keepF a o (S.keepF a o h), fun a o h hn => A.keepH a o (S.keepH a o h hn) (hG a o h hn), fun a o h h2 => ?_, fun a h => ?_, fun a h => A.regk a (S.regk a h), S.len, fun i d h => ?_, fun i ds h => ?_, S.ownd, fun a xs h => ?_, S.pnd, fun nm fs h => (S.news nm fs h).mono A.keepF⟩
  · obtain ⟨o', e⟩ := hHs a o h
    exact A.unfr a o' e (S.unfr a o h h2)
  · rcases A.regs a h with z | z
    · exact S.regs a z
    · exact .inr (S.baseNone z)
  · obtain ⟨v, h1, h2⟩ := S.slot i d h
    exact ⟨v, h1, Rep.mono A.keepF _ _ h2⟩
  · obtain ⟨a, h1, f⟩ := S.own i ds h
    obtain ⟨xs, e, r⟩ := f.ex
    refine ⟨a, h1, ⟨A.unfr a _ e f.nF, f.nB, fun hm => ?_, f.nP, xs, A.keepH a _ e f.nG, RepL.mono A.keepF _ _ r⟩⟩
    rcases A.regs a hm with z | z
    · exact f.nG z
    · rw [e] at z; cases z
  · obtain ⟨h1, h2, h3, h4⟩ := S.pend a xs h
    refine ⟨A.keepH a _ h1 h4, A.unfr a _ h1 h2, h3, fun hm => ?_⟩
    rcases A.regs a hm with z | z
    · exact h4 z
    · rw [h1] at z; cases z
/-- what a call gives, in the caller's eyes -/
theorem St3.retR {K : PySem.W.Frag} {pn : Pend} {F H F' H' : Hp} {σ : L2.St} {E : Env3} {G G' : Reg} (S : St3 K B pn F H σ E G) {r : Res} {v : V} (h : RetV K H F' H' G' r v) : RepR K B pn F' H' σ E G' r v := by
  cases r with
  | val d => exact h
  | sl i => exact h.elim
  | fr ds =>
    obtain ⟨a, xs, rfl, h1, h2, h3, h4, h5⟩ := h
    refine ⟨a, rfl, ⟨h1, S.baseNone h2, h3, fun hm => ?_, xs, h4, h5⟩, fun i es hi e => ?_⟩
    · obtain ⟨q, hq, rfl⟩ := List.mem_map.mp hm
      have := (S.pend q.1 q.2 hq).1
      rw [h2] at this; cases this
    · obtain ⟨b, e1, f⟩ := S.own i es hi
      rw [e] at e1
      cases e1
      obtain ⟨xs, q, _⟩ := f.ex
      rw [h2] at q; cases q
def dCall (sp : DSp) (dw : DW) (ta : DA) : DE := fun E G k => ta E G fun ds E1 G1 => sp ds G1 (fun r G2 => k r E1 G2) (fun x G2 => dw x E1 G2)
theorem le_call {sp : DSp} {dw : DW} {ta : DA} {j : Nat} {f : Addr} {fd : FuncData} {ps : List Str} {x : Str} {p pos : Pos} {e : Expr} {es : List Expr} (Fn : FnOk X.prog X.w X.K X.mg X.base (L2.CX X.prog X.w) j f fd ps (LSp X.K sp)) (hr : Room j X.A) (wk : WOk X B dw) (hg : Gl X x) (hm : X.mg x = some (.ref f)) (hk : PySem.W.keepIn X.K (.ref f) = true) (hb : Binds X.K fd ps [])
    (ha : LA X B (e :: es) ta) (hdb : (x == ("__debug__" : Str)) = false := by decide) (he : starEach (e :: es) X.env = (false, eval e X.env) :: starEach es X.env := by rfl) (hpl : (backTo pos (starEach es X.env)).any (·.1) = false := by rfl) :
    LE X B (.Call (.Name x p) (e :: es) [] pos) (dCall sp dw ta) := by
  obtain ⟨W, tk, hW⟩ := wk
  refine ⟨pe_imp (pe_callS Fn hr hg hm hk hb (fun σ => passAt tk σ) ha.pa hdb he hpl) fun σ H Q ⟨pn, F, E, G, k, S, ht, hk⟩ => ⟨pn, F, E, G, _, S, ht, fun ds E1 G1 h1 vs F1 H1 S1 s1 r1 => ?_⟩⟩
  refine ⟨F1, G1, ds, _, _, S1.w, r1, h1, fun r G' h2 v F2 H2 A r2 => ?_, fun x G' h2 cls dd F2 H2 A r2 => ?_⟩
  · exact hk _ _ _ h2 v F2 H2 (S1.wldAfter A) (s1.trans A.keepF) (S1.retR r2)
  · exact hW pn F2 H2 σ E1 G' x cls dd (S1.wldAfter A) r2 h2
/-- no exception is wished for -/
def dw0 : DW := fun _ _ _ => False
theorem takesF {X : Cx} : Takes X (fun _ _ _ _ => False) := fun _ _ x => by
  obtain ⟨_, _, _, _, _, _, _, _, _, _, _, _, _, _, _, _, z⟩ := x
  exact z.elim
theorem wok0 : WOk X B dw0 := ⟨fun _ _ _ _ => False, takesF, fun _ _ _ _ _ _ _ _ _ _ _ h => h⟩
end
end L3

set_option Elab.async false
set_option maxRecDepth 100000
set_option maxHeartbeats 4000000
/-! L3, part d: statements, loops, comprehensions, defs. -/
namespace L3
open PySem PySem.Spec PyProof.Rows L2

structure Ends3 where
  nx : Env3 → Reg → Prop
  rt : Res → Reg → Prop
  bk : Env3 → Reg → Prop := fun _ _ => False
  ct : Env3 → Reg → Prop := fun _ _ => False
abbrev DSt := Ends3 → Env3 → Reg → Prop
def RetR (K : PySem.W.Frag) (B : Base3) (pn : Pend) (F H : Hp) (G : Reg) : Res → V → Prop
  | .val d, v => Rep K F d v
  | .fr ds, v => ∃ a, v = .ref a ∧ Fre K B pn F H G a ds
  | .sl _, _ => False
structure EndsOk (K : PySem.W.Frag) (B : Base3) (F : Hp) (D3 : Ends3) (D : Ends) : Prop where
  nx : ∀ {pn : Pend} E' G', D3.nx E' G' → ∀ σ' F' H', St3 K B pn F' H' σ' E' G' → Same F F' → D.nx σ' H'
  rt : ∀ {pn : Pend} r G', D3.rt r G' → ∀ v F' H' σ' E', St3 K B pn F' H' σ' E' G' → Same F F' → RetR K B pn F' H' G' r v → D.rt v H'
  bk : ∀ {pn : Pend} E' G', D3.bk E' G' → ∀ σ' F' H', St3 K B pn F' H' σ' E' G' → Same F F' → D.bk σ' H'
  ct : ∀ {pn : Pend} E' G', D3.ct E' G' → ∀ σ' F' H', St3 K B pn F' H' σ' E' G' → Same F F' → D.ct σ' H'
theorem EndsOk.mono {K : PySem.W.Frag} {B : Base3} {F F' : Hp} {D3 : Ends3} {D : Ends} (h : EndsOk K B F D3 D) (s : Same F F') : EndsOk K B F' D3 D :=
  ⟨fun E' G' q σ' F2 H' S s' => h.nx E' G' q σ' F2 H' S (s.trans s'), fun r G' q v F2 H' σ' E' S s' => h.rt r G' q v F2 H' σ' E' S (s.trans s'), fun E' G' q σ' F2 H' S s' => h.bk E' G' q σ' F2 H' S (s.trans s'), fun E' G' q σ' F2 H' S s' => h.ct E' G' q σ' F2 H' S (s.trans s')⟩
def LiftS (K : PySem.W.Frag) (B : Base3) (ts : DSt) : TS := fun D σ H => ∃ pn F E G D3, St3 K B pn F H σ E G ∧ ts D3 E G ∧ EndsOk K B F D3 D
structure LS (X : Cx) (B : Base3) (st : Stmt) (ts : DSt) : Prop where
  ps : PS X st (LiftS X.K B ts)
structure LSs (X : Cx) (B : Base3) (st : List Stmt) (ts : DSt) : Prop where
  pss : PSs X st (LiftS X.K B ts)

def dNext : DSt := fun D E G => D.nx E G
def dSeq (t u : DSt) : DSt := fun D E G => t { D with nx := u D } E G
def dIfS (c : DT) (t u : DSt) : DSt := fun D E G => c E G fun b E1 G1 => if b = true then t D E1 G1 else u D E1 G1
def dDrop (te : DE) : DSt := fun D E G => te E G fun _ E1 G1 => D.nx E1 G1
def Res.out (r : Res) (E : Env3) : Option Res := match r with
  | .val d => some (.val d)
  | .fr ds => some (.fr ds)
  | .sl i => match E[i]? with
    | some (Sl3.val d) => some (.val d)
    | some (Sl3.own ds) => some (.fr ds)
    | _ => none
def dRet (te : DE) : DSt := fun D E G => te E G fun r E1 G1 => ∃ r', r.out E1 = some r' ∧ D.rt r' G1
def dRetN : DSt := fun D _ G => D.rt (.val .non) G
def dBreak : DSt := fun D E G => D.bk E G
def dCont : DSt := fun D E G => D.ct E G
def dNever : DSt := fun _ _ _ => False
/-- what a slot takes -/
def Res.put (r : Res) (i : Nat) (E : Env3) : Option Env3 := match r with
  | .val d => some (E.set i (Sl3.val d))
  | .fr ds => some (E.set i (Sl3.own ds))
  | .sl j => match E[j]? with
    | some (Sl3.val d) => some (E.set i (Sl3.val d))
    | some (Sl3.own ds) => some ((E.set j (Sl3.val (.lst ds))).set i (Sl3.val (.lst ds)))
    | _ => none
def dSet (i : Nat) (te : DE) : DSt := fun D E G => te E G fun r E1 G1 => i < E1.length ∧ ∃ E2, r.put i E1 = some E2 ∧ D.nx E2 G1
section
variable {K : PySem.W.Frag} {B : Base3} {pn : Pend} {F H : Hp} {σ : L2.St} {E : Env3} {G : Reg}
theorem St3.put (S : St3 K B pn F H σ E G) {r : Res} {v : V} {i : Nat} {E2 : Env3} (hi : i < E.length) (hr : RepR K B pn F H σ E G r v) (h : r.put i E = some E2) : ∃ F', St3 K B pn F' H (σ.set i (some v)) E2 G ∧ Same F F' := by
  rw [S.len] at hi
  cases r with
  | val d => cases h; exact ⟨F, S.setVal hi hr, Same.refl F⟩
  | fr ds =>
    cases h
    obtain ⟨a, rfl, f, no⟩ := hr
    exact ⟨F, S.setOwn hi f no, Same.refl F⟩
  | sl j =>
    have hr' : σ[j]? = some (some v) := hr
    unfold Res.put at h
    dsimp only at h
    split at h
    · rename_i d q
      cases h
      obtain ⟨v', h1, h2⟩ := S.slot j d q
      rw [hr'] at h1
      cases h1
      exact ⟨F, S.setVal hi h2, Same.refl F⟩
    · rename_i ds q
      cases h
      obtain ⟨F', S', s', r'⟩ := S.freezeSlot q hr'
      exact ⟨F', S'.setVal hi r', s'⟩
    · cases h
theorem St3.outR (S : St3 K B pn F H σ E G) {r r' : Res} {v : V} (hr : RepR K B pn F H σ E G r v) (h : r.out E = some r') : RetR K B pn F H G r' v := by
  cases r with
  | val d => cases h; exact hr
  | fr ds =>
    cases h
    obtain ⟨a, rfl, f, no⟩ := hr
    exact ⟨a, rfl, f⟩
  | sl j =>
    have hr' : σ[j]? = some (some v) := hr
    unfold Res.out at h
    dsimp only at h
    split at h
    · rename_i d q
      cases h
      obtain ⟨v', h1, h2⟩ := S.slot j d q
      rw [hr'] at h1
      cases h1
      exact h2
    · rename_i ds q
      cases h
      obtain ⟨a, h1, f⟩ := S.own j ds q
      rw [hr'] at h1
      cases h1
      exact ⟨a, rfl, f⟩
    · cases h
/-- a free list becomes a register -/
theorem St3.promote (S : St3 K B pn F H σ E G) {a : Addr} {ds : List D} (f : Fre K B pn F H G a ds) (no : NoOwn σ E a) : St3 K B pn F H σ E ((a, ds) :: G) := by
  obtain ⟨xs, e, r⟩ := f.ex
  refine ⟨⟨S.w.sub, fun b es h => ?_, by rw [List.map_cons]; exact List.nodup_cons.mpr ⟨f.nG, S.w.nd⟩⟩, S.keepF, S.keepH, S.unfr, fun b h => ?_, fun b h => by rw [List.map_cons]; exact List.mem_cons_of_mem _ (S.regk b h), S.len, S.slot, fun i es h => ?_, S.ownd, fun b ys h => ?_, S.pnd, S.news⟩
  · rcases List.mem_cons.mp h with h | h
    · cases h; exact ⟨f.nF, xs, e, r⟩
    · exact S.w.reg b es h
  · rw [List.map_cons] at h
    rcases List.mem_cons.mp h with h | h
    · have h' : b = a := h
      rw [h']; exact .inr f.nB
    · exact S.regs b h
  · obtain ⟨b, e1, g⟩ := S.own i es h
    refine ⟨b, e1, ⟨g.nF, g.nB, ?_, g.nP, g.ex⟩⟩
    rw [List.map_cons]
    intro z
    rcases List.mem_cons.mp z with z | z
    · have z' : b = a := z
      exact no i es h (by rw [← z']; exact e1)
    · exact g.nG z
  · obtain ⟨h1, h2, h3, h4⟩ := S.pend b ys h
    refine ⟨h1, h2, h3, ?_⟩
    rw [List.map_cons]
    intro z
    rcases List.mem_cons.mp z with z | z
    · have z' : b = a := z
      exact f.nP (by rw [← z']; exact List.mem_map.mpr ⟨_, h, rfl⟩)
    · exact h4 z
end
section
variable {X : Cx} {B : Base3}
theorem lss_nil : LSs X B [] dNext := ⟨pss_imp pss_nil fun D σ H ⟨pn, F, E, G, D3, S, h, ok⟩ => ok.nx E G h σ F H S (Same.refl F)⟩
theorem lss_cons {st : Stmt} {rest : List Stmt} {t u : DSt} (h1 : LS X B st t) (h2 : LSs X B rest u) : LSs X B (st :: rest) (dSeq t u) :=
  ⟨pss_imp (pss_cons h1.ps h2.pss) fun D σ H ⟨pn, F, E, G, D3, S, h, ok⟩ => ⟨pn, F, E, G, { D3 with nx := u D3 }, S, h, ⟨fun E' G' q σ' F' H' S' s' => ⟨_, F', E', G', D3, S', q, ok.mono s'⟩, ok.rt, ok.bk, ok.ct⟩⟩⟩
theorem lss_one {st : Stmt} {t : DSt} (h1 : LS X B st t) : LSs X B [st] t := ⟨pss_one h1.ps⟩
theorem lss_never {sts : List Stmt} : LSs X B sts dNever := ⟨pss_imp pss_never fun D σ H ⟨pn, F, E, G, D3, S, h, ok⟩ => h⟩
theorem ls_never {st : Stmt} : LS X B st dNever := ⟨ps_imp ps_never fun D σ H ⟨pn, F, E, G, D3, S, h, ok⟩ => h⟩
theorem ls_pass {pos} : LS X B (.Pass pos) dNext := ⟨ps_imp ps_pass fun D σ H ⟨pn, F, E, G, D3, S, h, ok⟩ => ok.nx E G h σ F H S (Same.refl F)⟩
theorem ls_break {pos} : LS X B (.Break pos) dBreak := ⟨ps_imp ps_break fun D σ H ⟨pn, F, E, G, D3, S, h, ok⟩ => ok.bk E G h σ F H S (Same.refl F)⟩
theorem ls_continue {pos} : LS X B (.Continue pos) dCont := ⟨ps_imp ps_continue fun D σ H ⟨pn, F, E, G, D3, S, h, ok⟩ => ok.ct E G h σ F H S (Same.refl F)⟩
theorem ls_if {c : Expr} {a b : List Stmt} {tc : DT} {t u : DSt} {pos} (hc : LT X B c tc) (ha : LSs X B a t) (hb : LSs X B b u) : LS X B (.If c a b pos) (dIfS tc t u) :=
  ⟨ps_imp (ps_if hc.pt ha.pss hb.pss) fun D σ H ⟨pn, F, E, G, D3, S, h, ok⟩ => ⟨pn, F, E, G, _, S, h, fun b E1 G1 h1 F1 H1 S1 s1 => by
    cases b with
    | true => exact ⟨pn, F1, E1, G1, D3, S1, h1, ok.mono s1⟩
    | false => exact ⟨pn, F1, E1, G1, D3, S1, h1, ok.mono s1⟩⟩⟩
theorem ls_expr {e : Expr} {te : DE} {pos : Pos} (he : LE X B e te) (hs : swapsWith e none pos.line X.env = pure false := by rfl) : LS X B (.Expr e pos) (dDrop te) :=
  ⟨ps_imp (ps_expr he.pe hs) fun D σ H ⟨pn, F, E, G, D3, S, h, ok⟩ => ⟨pn, F, E, G, _, S, h, fun r E1 G1 h1 v F1 H1 S1 s1 r1 => ok.nx E1 G1 h1 σ F1 H1 S1 s1⟩⟩
theorem ls_ret {e : Expr} {te : DE} {pos} (he : LE X B e te) : LS X B (.Return (some e) pos) (dRet te) :=
  ⟨ps_imp (ps_ret he.pe) fun D σ H ⟨pn, F, E, G, D3, S, h, ok⟩ => ⟨pn, F, E, G, _, S, h, fun r E1 G1 ⟨r', hr', h1⟩ v F1 H1 S1 s1 r1 => ok.rt r' G1 h1 v F1 H1 σ E1 S1 s1 (S1.outR r1 hr')⟩⟩
theorem ls_retN {pos} : LS X B (.Return none pos) dRetN :=
  ⟨ps_imp ps_retN fun D σ H ⟨pn, F, E, G, D3, S, h, ok⟩ => ok.rt _ G h .non F H σ E S (Same.refl F) .non⟩
theorem ls_set {i : Nat} {x : Str} {e : Expr} {te : DE} {pos pos' : Pos} (hN : X.N.Nodup) (hi : X.N[i]? = some x) (hx : Loc X.env.scope x) (he : LE X B e te) (hs : swapsWith e (some (.Name x pos')) pos.line X.env = pure false := by rfl) (hf : X.fn x = true ∨ X.env.scope.names.lookup x = some .local := by first | exact .inl rfl | exact .inr rfl | assumption) :
    LS X B (.Assign [.Name x pos'] e pos) (dSet i te) :=
  ⟨ps_imp (ps_set hN hi hx he.pe hs hf) fun D σ H ⟨pn, F, E, G, D3, S, h, ok⟩ => ⟨pn, F, E, G, _, S, h, fun r E1 G1 ⟨hi, E2, hp, h1⟩ v F1 H1 S1 s1 r1 => by
    obtain ⟨F2, S2, s2⟩ := S1.put hi r1 hp
    exact ok.nx E2 G1 h1 _ F2 H1 S2 (s1.trans s2)⟩⟩
/-- name = a free list, which becomes a register -/
def dSetReg (i : Nat) (te : DE) : DSt := fun D E G => te E G fun r E1 G1 => i < E1.length ∧ ∃ ds, r = .fr ds ∧ ∀ a, D.nx (E1.set i (Sl3.val (.ref a))) ((a, ds) :: G1)
theorem ls_setReg {i : Nat} {x : Str} {e : Expr} {te : DE} {pos pos' : Pos} (hN : X.N.Nodup) (hi : X.N[i]? = some x) (hx : Loc X.env.scope x) (he : LE X B e te) (hs : swapsWith e (some (.Name x pos')) pos.line X.env = pure false := by rfl) (hf : X.fn x = true ∨ X.env.scope.names.lookup x = some .local := by first | exact .inl rfl | exact .inr rfl | assumption) :
    LS X B (.Assign [.Name x pos'] e pos) (dSetReg i te) :=
  ⟨ps_imp (ps_set hN hi hx he.pe hs hf) fun D σ H ⟨pn, F, E, G, D3, S, h, ok⟩ => ⟨pn, F, E, G, _, S, h, fun r E1 G1 ⟨hi, ds, hp, h1⟩ v F1 H1 S1 s1 r1 => by
    subst hp
    obtain ⟨a, rfl, f, no⟩ := r1
    have S2 := S1.promote f no
    exact ok.nx _ _ (h1 a) _ F1 H1 (S2.setVal (by rw [← S1.len]; exact hi) (.ref a)) s1⟩⟩
/-- name op= e -/
def dAug (i : Nat) (rd : Reg → D → D → (Res → Prop) → Prop) (te : DE) : DSt := fun D E G => ∃ d, E[i]? = some (Sl3.val d) ∧ te E G fun y E1 G1 => E1[i]? = some (Sl3.val d) ∧ ∃ e, y.get E1 = some e ∧
  rd G1 d e fun r => ∃ z, r = .val z ∧ D.nx (E1.set i (Sl3.val z)) G1
theorem ls_aug {i : Nat} {x : Str} {e : Expr} {te : DE} {op : Operator} {ti : TIp} {rd : Reg → D → D → (Res → Prop) → Prop} {pos pos' : Pos} (hN : X.N.Nodup) (hi : X.N[i]? = some x) (hx : Loc X.env.scope x) (he : LE X B e te) (ho : PIp X op ti) (hr : ROp X B ti rd) (hf : X.fn x = true ∨ X.env.scope.names.lookup x = some .local := by first | exact .inl rfl | exact .inr rfl | assumption) :
    LS X B (.AugAssign (.Name x pos') op e pos) (dAug i rd te) :=
  ⟨ps_imp (ps_aug hN hi hx he.pe ho hf) fun D σ H ⟨pn, F, E, G, D3, S, h, ok⟩ => by
    obtain ⟨d, hd, h⟩ := h
    obtain ⟨v, hv, rv⟩ := S.slot i d hd
    refine ⟨v, hv, pn, F, E, G, _, S, h, fun y E1 G1 ⟨h0, e', he', h1⟩ u F1 H1 S1 s1 r1 => ?_⟩
    refine hr pn F1 H1 σ E1 G1 v u d e' _ _ S1 (.inl (Rep.mono s1 _ _ rv)) (S1.getH r1 he') h1 fun res hres w F2 H2 S2 s2 r2 => ?_
    obtain ⟨z, e1, h2⟩ := hres
    subst e1
    exact ok.nx _ _ h2 _ F2 H2 (S2.setVal (by rw [← S2.len]; exact lt_of_look h0) r2) (s1.trans s2)⟩

/-! ### targets -/
abbrev DG := D → Env3 → Reg → (Env3 → Reg → Prop) → Prop
def LiftG (K : PySem.W.Frag) (B : Base3) (vs : List Nat) (g : DG) : TG := fun v σ H Q => ∃ pn F E G k d, St3 K B pn F H σ E G ∧ Rep K F d v ∧ g d E G k ∧
  ∀ E' G', k E' G' → ∀ σ' F' H', St3 K B pn F' H' σ' E' G' → Same F F' → wipe σ' vs = wipe σ vs → Q σ' H'
structure LG (X : Cx) (B : Base3) (vs : List Nat) (tg : Expr) (g : DG) : Prop where
  pg : PG X tg (LiftG X.K B vs g)
theorem pg_imp {tg : Expr} {t t' : TG} (h : PG X tg t) (hi : ∀ v σ H Q, t' v σ H Q → t v σ H Q) : PG X tg t' := ⟨fun pins s σ H v u Q I r hw => h.run pins s σ H v u Q I r (hi v σ H Q hw)⟩
def gNm (i : Nat) : DG := fun d E G k => i < E.length ∧ k (E.set i (Sl3.val d)) G
theorem wipe_get {σ : L2.St} : ∀ {vs : List Nat} {j : Nat}, (wipe σ vs)[j]? = if j ∈ vs then (σ[j]?).map (fun _ => none) else σ[j]?
  | [], j => by simp [wipe]
  | v :: vs, j => by
    unfold wipe
    by_cases q : v = j
    · subst q
      rw [if_pos List.mem_cons_self]
      by_cases hv : v < σ.length
      · rw [List.getElem?_set_self (by rw [wipe_length]; exact hv), List.getElem?_eq_getElem hv]; rfl
      · rw [List.getElem?_eq_none (by rw [List.length_set, wipe_length]; omega), List.getElem?_eq_none (by omega)]; rfl
    · rw [List.getElem?_set_ne q, wipe_get]
      by_cases h : j ∈ vs
      · rw [if_pos h, if_pos (List.mem_cons_of_mem _ h)]
      · rw [if_neg h, if_neg (fun z => by rcases List.mem_cons.mp z with z | z; exact q z.symm; exact h z)]
theorem wipe_set {σ : L2.St} {vs : List Nat} {i : Nat} {v : Option V} (h : i ∈ vs) : wipe (σ.set i v) vs = wipe σ vs := by
  apply List.ext_getElem?
  intro j
  rw [wipe_get, wipe_get]
  by_cases q : j ∈ vs
  · rw [if_pos q, if_pos q]
    by_cases e : i = j
    · subst e
      by_cases hv : i < σ.length
      · rw [List.getElem?_set_self hv, List.getElem?_eq_getElem hv]; rfl
      · rw [List.getElem?_eq_none (by rw [List.length_set]; omega), List.getElem?_eq_none (by omega)]
    · rw [List.getElem?_set_ne e]
  · rw [if_neg q, if_neg q, List.getElem?_set_ne (fun (z : i = j) => q (z ▸ h))]
theorem lg_name {i : Nat} {x : Str} {vs : List Nat} {pos : Pos} (hN : X.N.Nodup) (hi : X.N[i]? = some x) (hx : Loc X.env.scope x) (hv : i ∈ vs) (hf : X.fn x = true ∨ X.env.scope.names.lookup x = some .local := by first | exact .inl rfl | exact .inr rfl | assumption) : LG X B vs (.Name x pos) (gNm i) :=
  ⟨pg_imp (pg_name hN hi hx hf) fun v σ H Q ⟨pn, F, E, G, k, d, S, r, ⟨hl, h⟩, hk⟩ => hk _ _ h _ F H (S.setVal (by rw [← S.len]; exact hl) r) (Same.refl F) (wipe_set hv)⟩
/-- several targets -/
abbrev DGs := List D → Env3 → Reg → (Env3 → Reg → Prop) → Prop
def LiftGs (K : PySem.W.Frag) (B : Base3) (vs : List Nat) (g : DGs) : TGs := fun us σ H Q => ∃ pn F E G k ds, St3 K B pn F H σ E G ∧ RepL K F ds us ∧ g ds E G k ∧
  ∀ E' G', k E' G' → ∀ σ' F' H', St3 K B pn F' H' σ' E' G' → Same F F' → wipe σ' vs = wipe σ vs → Q σ' H'
structure LGs (X : Cx) (B : Base3) (vs : List Nat) (ts : List Expr) (g : DGs) : Prop where
  pgs : PGs X ts (LiftGs X.K B vs g)
theorem pgs_imp {ts : List Expr} {t t' : TGs} (h : PGs X ts t) (hi : ∀ v σ H Q, t' v σ H Q → t v σ H Q) : PGs X ts t' := ⟨fun pins s σ H v u Q I r hw => h.run pins s σ H v u Q I r (hi v σ H Q hw)⟩
def gsNil : DGs := fun ds E G k => ds = [] ∧ k E G
def gsCons (g : DG) (gs : DGs) : DGs := fun ds E G k => ∃ d r, ds = d :: r ∧ g d E G fun E1 G1 => gs r E1 G1 k
theorem lgs_nil {vs : List Nat} : LGs X B vs [] gsNil :=
  ⟨pgs_imp pgs_nil fun us σ H Q ⟨pn, F, E, G, k, ds, S, r, ⟨e, h⟩, hk⟩ => by
    subst e
    cases r
    exact ⟨rfl, hk _ _ h σ F H S (Same.refl F) rfl⟩⟩
theorem lgs_cons {vs : List Nat} {e : Expr} {es : List Expr} {g : DG} {gs : DGs} (h1 : LG X B vs e g) (h2 : LGs X B vs es gs) (hs : (assignEach (e :: es) X.env).map (·.2) = assign e X.env :: (assignEach es X.env).map (·.2) := by rfl) : LGs X B vs (e :: es) (gsCons g gs) :=
  ⟨pgs_imp (pgs_cons h1.pg h2.pgs hs) fun us σ H Q ⟨pn, F, E, G, k, ds, S, r, ⟨d, dr, e, h⟩, hk⟩ => by
    subst e
    cases r with
    | @cons _ _ v vr r1 r2 =>
      exact ⟨v, vr, rfl, pn, F, E, G, _, d, S, r1, h, fun E1 G1 q σ1 F1 H1 S1 s1 w1 => ⟨pn, F1, E1, G1, k, dr, S1, RepL.mono s1 _ _ r2, q, fun E2 G2 q2 σ2 F2 H2 S2 s2 w2 => hk _ _ q2 σ2 F2 H2 S2 (s1.trans s2) (w2.trans w1)⟩⟩⟩
def gTp (n : Nat) (gs : DGs) : DG := fun d E G k => ∃ ds, d = .tup ds ∧ ds.length = n ∧ gs ds E G k
theorem lg_tup {vs : List Nat} {es : List Expr} {kk : Nat} {gs : DGs} {n : Nat} {pos : Pos} (hc : X.calm = true) (h : LGs X B vs es gs) (hn : (assignEach es X.env).length = n := by rfl) (hst : (assignEach es X.env).findIdx? (·.1) = none := by rfl) : LG X B vs (.Tuple es kk pos) (gTp n gs) :=
  ⟨pg_imp (pg_tup hc h.pgs hn hst) fun v σ H Q ⟨pn, F, E, G, k, d, S, r, ⟨ds, e, hl, h⟩, hk⟩ => by
    subst e
    cases r with
    | tup hs ha => exact ⟨_, _, rfl, sameT S.w.sub hs, by rw [← ha.length]; exact hl, pn, F, E, G, k, ds, S, ha, h, hk⟩⟩
/-- target = value (a tuple target) -/
def dAsg (te : DE) (g : DG) : DSt := fun D E G => te E G fun r E1 G1 => ∃ d E2, r.ice E1 = some (d, E2) ∧ g d E2 G1 D.nx
theorem ls_asg {tg e : Expr} {te : DE} {g : DG} {vs : List Nat} {pos : Pos} (he : LE X B e te) (hg : LG X B vs tg g) (hs : swapsWithSole [tg] e pos.line X.env = pure false := by rfl) (hw : swappedStores [tg] e X.env = pure none := by rfl)
    (h1 : (assignEach [tg] X.env).map (·.2) = [assign tg X.env] := by rfl) : LS X B (.Assign [tg] e pos) (dAsg te g) :=
  ⟨ps_imp (ps_asg he.pe hg.pg hs hw h1) fun D σ H ⟨pn, F, E, G, D3, S, h, ok⟩ => ⟨pn, F, E, G, _, S, h, fun r E1 G1 ⟨d, E2, hd, h1⟩ v F1 H1 S1 s1 r1 => by
    obtain ⟨F2, S2, s2, r2⟩ := S1.ice r1 hd
    exact ⟨pn, F2, E2, G1, _, d, S2, r2, h1, fun E3 G3 q σ3 F3 H3 S3 s3 _ => ok.nx _ _ q σ3 F3 H3 S3 ((s1.trans s2).trans s3)⟩⟩⟩
end
end L3

set_option Elab.async false
set_option maxRecDepth 100000
set_option maxHeartbeats 4000000
/-! L3, part e: what is walked; loops; comprehensions; defs. -/
namespace L3
open PySem PySem.Spec PyProof.Rows L2

/-- an iterator J gives the items ds, one by one -/
structure Wk (K : PySem.W.Frag) (B : Base3) (J : It) (ds : List D) (F0 : Hp) : Prop where
  go : ∀ pn F H σ E G i, St3 K B pn F H σ E G → Same F0 F → i < ds.length → J.go i H
  yld : ∀ pn F H σ E G i x H', St3 K B pn F H σ E G → Same F0 F → i < ds.length → J.yld i H x H' → ∃ F', St3 K B pn F' H' σ E G ∧ Same F F' ∧ ∃ d, ds[i]? = some d ∧ Rep K F' d x
  stop : ∀ pn F H σ E G i, St3 K B pn F H σ E G → Same F0 F → ds.length ≤ i → J.stop i H
abbrev DI := Env3 → Reg → (List D → Env3 → Reg → Prop) → Prop
def LiftI (K : PySem.W.Frag) (B : Base3) (di : DI) : TI := fun σ H R => ∃ pn F E G k, St3 K B pn F H σ E G ∧ di E G k ∧
  ∀ ds E' G', k ds E' G' → ∀ J F' H', St3 K B pn F' H' σ E' G' → Same F F' → Wk K B J ds F' → R J H'
structure LI (X : Cx) (B : Base3) (tg e : Expr) (di : DI) : Prop where
  pi : PI X tg e (LiftI X.K B di)
theorem pi_imp {X : Cx} {tg e : Expr} {t t' : TI} (h : PI X tg e t) (hi : ∀ σ H R, t' σ H R → t σ H R) : PI X tg e t' := ⟨fun pins s σ H R I hw => h.run pins s σ H R I (hi σ H R hw)⟩
section
variable {X : Cx} {B : Base3} {K : PySem.W.Frag}
theorem wk_list {F0 : Hp} {a : Addr} {xs : List V} {ds : List D} (hs : SqL K F0 a xs) (r : RepL K F0 ds xs) : Wk K B (Itl K a) ds F0 := by
  refine ⟨fun pn F H σ E G i S s h => ?_, fun pn F H σ E G i x H' S s _ h => ?_, fun pn F H σ E G i S s h => ?_⟩
  · have hl := r.length
    exact ⟨xs, xs[i], S.w.sub.seq (s.seq hs), by simp [hl ▸ h]⟩
  · obtain ⟨rfl, q⟩ := h
    have e := q xs (S.w.sub.seq (s.seq hs))
    obtain ⟨d, h1, h2⟩ := r.get' e
    exact ⟨F, S, Same.refl F, d, h1, Rep.mono s _ _ h2⟩
  · exact ⟨xs, S.w.sub.seq (s.seq hs), by rw [← r.length]; exact h⟩
theorem wk_tup {F0 : Hp} {a : Addr} {xs : List V} {ds : List D} (hs : SqT K F0 a xs) (r : RepL K F0 ds xs) : Wk K B (Itt K a) ds F0 := by
  refine ⟨fun pn F H σ E G i S s h => ?_, fun pn F H σ E G i x H' S s _ h => ?_, fun pn F H σ E G i S s h => ?_⟩
  · have hl := r.length
    exact ⟨xs, xs[i], sameT S.w.sub (sameT s hs), by simp [hl ▸ h]⟩
  · obtain ⟨rfl, q⟩ := h
    have e := q xs (sameT S.w.sub (sameT s hs))
    obtain ⟨d, h1, h2⟩ := r.get' e
    exact ⟨F, S, Same.refl F, d, h1, Rep.mono s _ _ h2⟩
  · exact ⟨xs, sameT S.w.sub (sameT s hs), by rw [← r.length]; exact h⟩
def rangeD (lo : Int) (n : Nat) : List D := (List.range n).map fun (i : Nat) => D.int (lo + (i : Int))
theorem wk_rng {F0 : Hp} {lo : Int} {n : Nat} : Wk K B (Itr lo n) (rangeD lo n) F0 := by
  refine ⟨fun pn F H σ E G i S s h => ?_, fun pn F H σ E G i x H' S s hi h => ?_, fun pn F H σ E G i S s h => ?_⟩
  · show i < n
    simpa [rangeD] using h
  · obtain ⟨rfl, rfl⟩ := h
    have hi' : i < n := by simpa [rangeD] using hi
    exact ⟨F, S, Same.refl F, D.int (lo + (i : Int)), by simp [rangeD, hi'], .int _⟩
  · show n ≤ i
    simpa [rangeD] using h
def strD (x : Str) : List D := x.cps.toList.map fun c => D.str ⟨#[c]⟩
theorem wk_str {F0 : Hp} {x : Str} : Wk K B (Its x) (strD x) F0 := by
  refine ⟨fun pn F H σ E G i S s h => ?_, fun pn F H σ E G i v H' S s hi h => ?_, fun pn F H σ E G i S s h => ?_⟩
  · show i < x.cps.size
    simpa [strD] using h
  · obtain ⟨rfl, c, hc, rfl⟩ := h
    exact ⟨F, S, Same.refl F, D.str ⟨#[c]⟩, by simp [strD, hc], .str _⟩
  · show x.cps.size ≤ i
    simpa [strD] using h
/-- a list, a tuple, a text -/
def iSeq (K : PySem.W.Frag) (tl : TE) : TI := fun σ H R => tl σ H fun x H1 => (∃ a xs, x = .ref a ∧ SqL K H1 a xs ∧ R (Itl K a) H1) ∨ (∃ a xs, x = .ref a ∧ SqT K H1 a xs ∧ R (Itt K a) H1) ∨ ∃ z, x = .str z ∧ R (Its z) H1
theorem pi_seq {tg l : Expr} {tl : TE} (hl : PE X l tl) : PI X tg l (iSeq X.K tl) := by
  refine ⟨fun pins s σ H R I h => ?_⟩
  refine thn (hl.run pins s σ H _ I h) fun v s1 ⟨x, H1, I1, r1, q1⟩ => ?_
  rcases q1 with ⟨a, xs, e, hq, q⟩ | ⟨a, xs, e, hq, q⟩ | ⟨z, e, q⟩
  · subst e
    cases r1
    obtain ⟨its, rv, p, hz⟩ := I1.list hq
    refine wpAny_pyIter_list p.isList ?_
    refine ⟨s1.heap.objs.size, [s1.heap.objs.size], _, _, H1, rfl, I1.kept (t' := s1.toks) fun b o e => Heap.get?_push_of_some _ e, turn_list a _, ⟨_, Heap.get?_push_size _ rfl, rfl, rfl⟩, fun b hb => ?_, q⟩
    have e : b = s1.heap.objs.size := by simpa using hb
    subst e
    exact I1.fpOk (Nat.le_refl _) (I1.hok.fresh (Nat.le_refl _))
  · subst e
    cases r1
    obtain ⟨its, rv, p, hz⟩ := I1.tuple hq
    refine wpAny_pyIter_tuple (show s1.heap.IsTuple a its.toArray from p) ?_
    refine ⟨s1.heap.objs.size, [s1.heap.objs.size], _, _, H1, rfl, I1.kept (t' := s1.toks) fun b o e => Heap.get?_push_of_some _ e, turn_tuple a _, ⟨_, Heap.get?_push_size _ rfl, rfl, rfl⟩, fun b hb => ?_, q⟩
    have e : b = s1.heap.objs.size := by simpa using hb
    subst e
    exact I1.fpOk (Nat.le_refl _) (I1.hok.fresh (Nat.le_refl _))
  · subst e
    obtain ⟨t, rfl⟩ := r1
    cases ha : z.cps.all (· < 128)
    · exact wpAny_pyIter_wide ha (pi_one (tk := s1.toks) I1 _ (turn_str _ z t "str_iterator" (.inr rfl)) ⟨_, Heap.get?_push_size _ rfl, rfl, rfl⟩ q)
    · exact wpAny_pyIter_ascii ha (pi_one (tk := s1.toks) I1 _ (turn_str _ z t "str_ascii_iterator" (.inl rfl)) ⟨_, Heap.get?_push_size _ rfl, rfl, rfl⟩ q)
def iterD : D → Option (List D)
  | .lst ds => some ds
  | .tup ds => some ds
  | .str x => some (strD x)
  | .scr ns => some (ns.map D.int)
  | _ => none
def dIter (te : DE) : DI := fun E G k => te E G fun r E1 G1 => ∃ d E2, r.ice E1 = some (d, E2) ∧ ∃ ds, iterD d = some ds ∧ k ds E2 G1
theorem li_seq {tg l : Expr} {te : DE} (hl : LE X B l te) : LI X B tg l (dIter te) :=
  ⟨pi_imp (pi_seq hl.pe) fun σ H R ⟨pn, F, E, G, k, S, h, hk⟩ => ⟨pn, F, E, G, _, S, h, fun r E1 G1 ⟨d, E2, hd, ds, hi, h1⟩ v F1 H1 S1 s1 r1 => by
    obtain ⟨F2, S2, s2, r2⟩ := S1.ice r1 hd
    cases r2 with
    | lst hs ha => cases hi; exact .inl ⟨_, _, rfl, S2.w.sub.seq (.inl hs), hk _ _ _ h1 _ F2 H1 S2 (s1.trans s2) (wk_list (.inl hs) ha)⟩
    | tup hs ha => cases hi; exact .inr (.inl ⟨_, _, rfl, sameT S2.w.sub hs, hk _ _ _ h1 _ F2 H1 S2 (s1.trans s2) (wk_tup hs ha)⟩)
    | scr hs => cases hi; exact .inl ⟨_, _, rfl, S2.w.sub.seq hs, hk _ _ _ h1 _ F2 H1 S2 (s1.trans s2) (wk_list hs (RepL.ints _))⟩
    | str x => cases hi; exact .inr (.inr ⟨_, rfl, hk _ _ _ h1 _ F2 H1 S2 (s1.trans s2) wk_str⟩)
    | _ => cases hi⟩⟩
def dRng1 (ta : DA) : DI := fun E G k => ta E G fun ds E1 G1 => ∃ j : Int, ds = [.int j] ∧ -(2 ^ 62) ≤ j ∧ j < 2 ^ 62 ∧ k (rangeD 0 j.toNat) E1 G1
def dRng2 (ta : DA) : DI := fun E G k => ta E G fun ds E1 G1 => ∃ i j : Int, ds = [.int i, .int j] ∧ (-(2 ^ 62) ≤ i ∧ i < 2 ^ 62 ∧ -(2 ^ 62) ≤ j ∧ j < 2 ^ 62) ∧ k (rangeD i (j - i).toNat) E1 G1
theorem li_range1 {tg a : Expr} {ta : DA} {p pos : Pos} (hg : Gl X "range") (hm : X.mg "range" = none) (ha : LA X B [a] ta) (hs : starEach [a] X.env = [(false, eval a X.env)] := by rfl) : LI X B tg (.Call (.Name "range" p) [a] [] pos) (dRng1 ta) :=
  ⟨pi_imp (pi_range1 hg hm ha.pa hs) fun σ H R ⟨pn, F, E, G, k, S, h, hk⟩ => ⟨pn, F, E, G, _, S, h, fun ds E1 G1 ⟨j, e, q1, q2, h1⟩ vs F1 H1 S1 s1 r1 => by
    subst e
    cases r1 with
    | cons r rr =>
      cases rr
      cases r
      exact ⟨j, rfl, q1, q2, hk _ _ _ h1 _ F1 H1 S1 s1 wk_rng⟩⟩⟩
theorem li_range2 {tg a b : Expr} {ta : DA} {p pos : Pos} (hg : Gl X "range") (hm : X.mg "range" = none) (ha : LA X B [a, b] ta) (hs : starEach [a, b] X.env = [(false, eval a X.env), (false, eval b X.env)] := by rfl) (hs2 : starEach [b] X.env = [(false, eval b X.env)] := by rfl) : LI X B tg (.Call (.Name "range" p) [a, b] [] pos) (dRng2 ta) :=
  ⟨pi_imp (pi_range2 hg hm ha.pa hs hs2) fun σ H R ⟨pn, F, E, G, k, S, h, hk⟩ => ⟨pn, F, E, G, _, S, h, fun ds E1 G1 ⟨i, j, e, q, h1⟩ vs F1 H1 S1 s1 r1 => by
    subst e
    cases r1 with
    | cons r rr =>
      cases rr with
      | cons r' rr =>
        cases rr
        cases r
        cases r'
        exact ⟨i, j, rfl, q, hk _ _ _ h1 _ F1 H1 S1 s1 wk_rng⟩⟩⟩

/-! ### for -/
def dForL (g : DG) (tb : DSt) : List D → DSt
  | [], D, E, G => D.nx E G
  | d :: ds, D, E, G => g d E G fun E1 G1 => tb { D with nx := fun E2 G2 => dForL g tb ds D E2 G2, ct := fun E2 G2 => dForL g tb ds D E2 G2, bk := D.nx } E1 G1
def dFor (di : DI) (g : DG) (tb : DSt) : DSt := fun D E G => di E G fun ds E1 G1 => dForL g tb ds D E1 G1
theorem ls_for {tg iter : Expr} {body : List Stmt} {di : DI} {g : DG} {vs : List Nat} {tb : DSt} {pos : Pos} (hp : PassesOwn (model X.prog X.w) X.A X.env X.xe) (hc : X.calm = true) (hi : LI X B tg iter di) (hg : LG X B vs tg g) (hb : LSs X B body tb)
    (hs : ∀ x, foldedSetIterable iter X.env x = pure x := by intro _; rfl) : LS X B (.For tg iter body [] pos) (dFor di g tb) :=
  ⟨ps_imp (ps_for hp hc hi.pi hg.pg hb.pss hs) fun D σ H ⟨pn, F, E, G, D3, S, h, ok⟩ => ⟨pn, F, E, G, _, S, h, fun ds E1 G1 h1 J F1 H1 S1 s1 wk => by
    refine ⟨fun i m σ' H' => ∃ pn F' E' G', St3 X.K B pn F' H' σ' E' G' ∧ Same F1 F' ∧ m = ds.length - i ∧ i ≤ ds.length ∧ dForL g tb (ds.drop i) D3 E' G', ⟨ds.length, pn, F1, E1, G1, S1, Same.refl F1, rfl, Nat.zero_le _, h1⟩, ?_⟩
    rintro i m σ2 H2 ⟨pn, F2, E2, G2, S2, s2, rfl, hi, h2⟩
    by_cases hlt : i < ds.length
    · refine .inr ⟨wk.go pn F2 H2 σ2 E2 G2 i S2 s2 hlt, fun σ' H' => ∃ pn F' E' G', St3 X.K B pn F' H' σ' E' G' ∧ Same F1 F' ∧ dForL g tb (ds.drop (i + 1)) D3 E' G', fun σ' H' ⟨pn, F', E', G', S', s', h'⟩ => ⟨ds.length - (i + 1), by omega, pn, F', E', G', S', s', rfl, hlt, h'⟩, fun x H' y => ?_⟩
      obtain ⟨F3, S3, s3, d, hd, rd⟩ := wk.yld pn F2 H2 σ2 E2 G2 i x H' S2 s2 hlt y
      rw [List.drop_eq_getElem_cons hlt] at h2
      have ed : ds[i] = d := by
        rw [List.getElem?_eq_getElem hlt] at hd
        exact Option.some.inj hd
      rw [ed] at h2
      refine ⟨pn, F3, E2, G2, _, d, S3, rd, h2, fun E4 G4 h4 σ4 F4 H4 S4 s4 _ => ?_⟩
      have ss : Same F1 F4 := (s2.trans s3).trans s4
      refine ⟨pn, F4, E4, G4, _, S4, h4, ⟨fun E5 G5 q σ5 F5 H5 S5 s5 => ⟨_, F5, E5, G5, S5, ss.trans s5, q⟩, fun r G5 q v F5 H5 σ5 E5 S5 s5 rr => ok.rt r G5 q v F5 H5 σ5 E5 S5 ((s1.trans ss).trans s5) rr, fun E5 G5 q σ5 F5 H5 S5 s5 => ok.nx E5 G5 q σ5 F5 H5 S5 ((s1.trans ss).trans s5), fun E5 G5 q σ5 F5 H5 S5 s5 => ⟨_, F5, E5, G5, S5, ss.trans s5, q⟩⟩⟩
    · have e : i = ds.length := by omega
      subst e
      rw [List.drop_length] at h2
      exact .inl ⟨wk.stop pn F2 H2 σ2 E2 G2 _ S2 s2 (Nat.le_refl _), ok.nx E2 G2 h2 σ2 F2 H2 S2 (s1.trans s2)⟩⟩⟩

/-! ### while -/
def dWhN (c : DT) (tb : DSt) : Nat → DSt
  | 0, _, _, _ => False
  | n + 1, D, E, G => c E G fun b E1 G1 => if b = true then tb { D with nx := fun E2 G2 => dWhN c tb n D E2 G2, ct := fun E2 G2 => dWhN c tb n D E2 G2, bk := D.nx } E1 G1 else D.nx E1 G1
def dWhile (c : DT) (tb : DSt) : DSt := fun D E G => ∃ n, dWhN c tb n D E G
theorem ls_while {c : Expr} {body : List Stmt} {tc : DT} {tb : DSt} {pos : Pos} (hp : PassesOwn (model X.prog X.w) X.A X.env X.xe) (hc : LT X B c tc) (hb : LSs X B body tb) : LS X B (.While c body [] pos) (dWhile tc tb) :=
  ⟨ps_imp (ps_while hp hc.pt hb.pss) fun D σ H ⟨pn, F, E, G, D3, S, ⟨n, h⟩, ok⟩ => by
    refine ⟨fun m σ' H' => ∃ pn F' E' G', St3 X.K B pn F' H' σ' E' G' ∧ Same F F' ∧ dWhN tc tb m D3 E' G', ⟨n, pn, F, E, G, S, Same.refl F, h⟩, ?_⟩
    rintro m σ2 H2 ⟨pn, F2, E2, G2, S2, s2, h2⟩
    cases m with
    | zero => exact h2.elim
    | succ m =>
      refine ⟨pn, F2, E2, G2, _, S2, h2, fun b E3 G3 h3 F3 H3 S3 s3 => ?_⟩
      cases b with
      | false => exact ok.nx E3 G3 h3 σ2 F3 H3 S3 (s2.trans s3)
      | true =>
        have ss : Same F F3 := s2.trans s3
        refine ⟨fun σ' H' => ∃ pn F' E' G', St3 X.K B pn F' H' σ' E' G' ∧ Same F F' ∧ dWhN tc tb m D3 E' G', fun σ' H' q => ⟨m, Nat.lt_succ_self m, q⟩, ?_⟩
        exact ⟨pn, F3, E3, G3, _, S3, h3, ⟨fun E5 G5 q σ5 F5 H5 S5 s5 => ⟨_, F5, E5, G5, S5, ss.trans s5, q⟩, fun r G5 q v F5 H5 σ5 E5 S5 s5 rr => ok.rt r G5 q v F5 H5 σ5 E5 S5 (ss.trans s5) rr, fun E5 G5 q σ5 F5 H5 S5 s5 => ok.nx E5 G5 q σ5 F5 H5 S5 (ss.trans s5), fun E5 G5 q σ5 F5 H5 S5 s5 => ⟨_, F5, E5, G5, S5, ss.trans s5, q⟩⟩⟩⟩

/-! ### comprehensions -/
def wipe3 (E : Env3) : List Nat → Env3
  | [] => E
  | v :: vs => (wipe3 E vs).set v Sl3.no
theorem wipe3_length (E : Env3) : ∀ vs : List Nat, (wipe3 E vs).length = E.length
  | [] => rfl
  | v :: vs => by unfold wipe3; rw [List.length_set, wipe3_length E vs]
theorem wipe3_some {E : Env3} {i : Nat} {s : Sl3} (hs : s ≠ Sl3.no) : ∀ {vs : List Nat}, (wipe3 E vs)[i]? = some s → E[i]? = some s ∧ i ∉ vs
  | [], h => ⟨h, by simp⟩
  | v :: vs, h => by
    unfold wipe3 at h
    rcases set_look h with ⟨_, z⟩ | ⟨ne, z⟩
    · exact absurd z hs
    · obtain ⟨h1, h2⟩ := wipe3_some hs z
      exact ⟨h1, by simp only [List.mem_cons, not_or]; exact ⟨fun e => ne e.symm, h2⟩⟩
theorem wipe3_val {E : Env3} {i : Nat} {vs : List Nat} {d : D} (h : (wipe3 E vs)[i]? = some (Sl3.val d)) : E[i]? = some (Sl3.val d) ∧ i ∉ vs := wipe3_some (s := Sl3.val d) (fun q => nomatch q) h
theorem wipe3_own {E : Env3} {i : Nat} {vs : List Nat} {d : List D} (h : (wipe3 E vs)[i]? = some (Sl3.own d)) : E[i]? = some (Sl3.own d) ∧ i ∉ vs := wipe3_some (s := Sl3.own d) (fun q => nomatch q) h
/-- other slots, alike outside vs -/
theorem St3.wipeS {pn : Pend} {F H : Hp} {σ σ' : L2.St} {E : Env3} {G : Reg} (S : St3 K B pn F H σ E G) (vs : List Nat) (hl : σ'.length = σ.length) (w : ∀ i, i ∉ vs → σ'[i]? = σ[i]?) : St3 K B pn F H σ' (wipe3 E vs) G := by
  refine ⟨S.w, S.keepF, S.keepH, S.unfr, S.regs, S.regk, by rw [wipe3_length, hl]; exact S.len, fun i d h => ?_, fun i ds h => ?_, fun i j ds es a h1 h2 h3 h4 => ?_, S.pend, S.pnd, fun nm fs h => ?_⟩
  · obtain ⟨h1, h2⟩ := wipe3_val h
    rw [w i h2]; exact S.slot i d h1
  · obtain ⟨h1, h2⟩ := wipe3_own h
    rw [w i h2]; exact S.own i ds h1
  · obtain ⟨q1, n1⟩ := wipe3_own h1
    obtain ⟨q2, n2⟩ := wipe3_own h2
    rw [w i n1] at h3
    rw [w j n2] at h4
    exact S.ownd i j ds es a q1 q2 h3 h4
  · obtain ⟨h1, h2⟩ := wipe3_some (s := Sl3.new nm fs) (fun q => nomatch q) h
    rw [w 0 h2]; exact S.news nm fs h1
theorem wipe_out' {σ : L2.St} {vs : List Nat} {i : Nat} (h : i ∉ vs) : (wipe σ vs)[i]? = σ[i]? := by
  rw [wipe_get, if_neg h]
def LiftTs (X : Cx) (B : Base3) (ifs : List Expr) (tt : DT) : Prop := PTs X ifs (LiftT X.K B tt)
def dYes : DT := fun E G k => k true E G
theorem lts_nil : LiftTs X B [] dYes := ⟨fun pins s σ H Q I ⟨pn, F, E, G, k, S, h, hk⟩ => pts_nil.run pins s σ H Q I (hk _ _ _ h F H S (Same.refl F))⟩
theorem lts_one {c : Expr} {t : DT} (h : LT X B c t) : LiftTs X B [c] t := ⟨fun pins s σ H Q I hw => (pts_one h.pt).run pins s σ H Q I hw⟩
def dLcL (g : DG) (tt : DT) (te : DE) (vs : List Nat) : List D → List D → Env3 → Reg → (List D → Env3 → Reg → Prop) → Prop
  | [], acc, E, G, k => k acc E G
  | d :: ds, acc, E, G, k => g d E G fun E1 G1 => tt E1 G1 fun b E2 G2 => if b = true then te E2 G2 fun r E3 G3 => ∃ x E4, r.ice E3 = some (x, E4) ∧ dLcL g tt te vs ds (acc ++ [x]) (wipe3 E4 vs) G3 k else dLcL g tt te vs ds acc (wipe3 E2 vs) G2 k
def dLc (di : DI) (g : DG) (tt : DT) (te : DE) (vs : List Nat) : DE := fun E G k => di E G fun ds E1 G1 => ds.length ≤ sizeLine ∧ dLcL g tt te vs ds [] (wipe3 E1 vs) G1 fun acc E2 G2 => k (.fr acc) E2 G2
theorem lc3 {di : DI} {g : DG} {tt : DT} {te : DE} {vs : List Nat} {σ : L2.St} {H : Hp} {Q : VK} (h : Lift K B (dLc di g tt te vs) σ H Q) : tLc (LiftI K B di) (LiftG K B vs g) (LiftT K B tt) (Lift K B te) vs σ H Q := by
  obtain ⟨pn, F, E, G, k, S, h, hk⟩ := h
  refine ⟨pn, F, E, G, _, S, h, fun ds E1 G1 ⟨hz, h1⟩ J F1 H1 S1 s1 wk D nD => ?_⟩
  -- the state of the loop: the list at D pending
  have f0 := S1.newFre (xs := []) (ds := []) nD .nil
  have S1' : St3 K B ((D, HO.lst []) :: pn) F1 (upd H1 D (.lst [])) (wipe σ vs) (wipe3 E1 vs) G1 :=
    ((S1.newU nD).pendOn f0.1.nF f0.1.nB f0.1.nG f0.1.nP upd_same f0.2).wipeS vs (wipe_length σ vs) (fun i hi => wipe_out' hi)
  refine ⟨fun i m H' => ∃ F' E' G' acc xs, St3 K B ((D, HO.lst xs) :: pn) F' H' (wipe σ vs) E' G' ∧ (∀ i ∈ vs, ∀ s, E'[i]? = some s → s = Sl3.no) ∧ Same F1 F' ∧ RepL K F' acc xs ∧ acc.length ≤ i ∧ m = ds.length - i ∧ i ≤ ds.length ∧ dLcL g tt te vs (ds.drop i) acc E' G' (fun acc E2 G2 => k (.fr acc) E2 G2), ⟨ds.length, F1, wipe3 E1 vs, G1, [], [], S1', ?w, Same.refl F1, .nil, Nat.zero_le _, rfl, Nat.zero_le _, h1⟩, ?_⟩
  case w =>
    intro i hi s hs
    cases s with
    | no => rfl
    | val d => exact absurd hi (wipe3_val hs).2
    | own d => exact absurd hi (wipe3_own hs).2
    | new nm fs => exact absurd hi (wipe3_some (s := Sl3.new nm fs) (fun q => nomatch q) hs).2
  rintro i m H2 ⟨F2, E2, G2, acc, xs, S2, hw2, s2, ra, hal, rfl, hi, h2⟩
  by_cases hlt : i < ds.length
  · refine .inr ⟨wk.go _ F2 H2 _ E2 G2 i S2 s2 hlt, fun H' => ∃ F' E' G' acc xs, St3 K B ((D, HO.lst xs) :: pn) F' H' (wipe σ vs) E' G' ∧ (∀ i ∈ vs, ∀ s, E'[i]? = some s → s = Sl3.no) ∧ Same F1 F' ∧ RepL K F' acc xs ∧ acc.length ≤ i + 1 ∧ dLcL g tt te vs (ds.drop (i + 1)) acc E' G' (fun acc E2 G2 => k (.fr acc) E2 G2), fun H' ⟨F', E', G', acc', xs', S', w', s', r', l', h'⟩ => ⟨ds.length - (i + 1), by omega, F', E', G', acc', xs', S', w', s', r', l', rfl, hlt, h'⟩, fun x H' y => ?_⟩
    obtain ⟨F3, S3, s3, d, hd, rd⟩ := wk.yld _ F2 H2 _ E2 G2 i x H' S2 s2 hlt y
    rw [List.drop_eq_getElem_cons hlt] at h2
    have ed : ds[i] = d := by
      rw [List.getElem?_eq_getElem hlt] at hd
      exact Option.some.inj hd
    rw [ed] at h2
    refine ⟨_, F3, E2, G2, _, d, S3, rd, h2, fun E4 G4 h4 σ4 F4 H4 S4 s4 w4 => ?_⟩
    have ww : wipe (wipe σ vs) vs = wipe σ vs := by
      apply List.ext_getElem?
      intro j
      rw [wipe_get, wipe_get]
      by_cases q : j ∈ vs
      · rw [if_pos q, if_pos q]; cases σ[j]? <;> rfl
      · rw [if_neg q]
    have w4' : wipe σ4 vs = wipe σ vs := by rw [w4, ww]
    refine ⟨w4', ?_⟩
    have back : ∀ {F' H' E' G' ys}, St3 K B ((D, HO.lst ys) :: pn) F' H' σ4 E' G' → St3 K B ((D, HO.lst ys) :: pn) F' H' (wipe σ vs) (wipe3 E' vs) G' := fun S' => by
      rw [← w4']
      exact S'.wipeS vs (wipe_length σ4 vs) (fun i hi => wipe_out' hi)
    have wno : ∀ (E' : Env3), ∀ i ∈ vs, ∀ s, (wipe3 E' vs)[i]? = some s → s = Sl3.no := fun E' i hi s hs => by
      cases s with
      | no => rfl
      | val d => exact absurd hi (wipe3_val hs).2
      | own d => exact absurd hi (wipe3_own hs).2
      | new nm fs => exact absurd hi (wipe3_some (s := Sl3.new nm fs) (fun q => nomatch q) hs).2
    refine ⟨_, F4, E4, G4, _, S4, h4, fun b E5 G5 h5 F5 H5 S5 s5 => ?_⟩
    have s15 : Same F1 F5 := ((s2.trans s3).trans s4).trans s5
    have s25 : Same F2 F5 := (s3.trans s4).trans s5
    cases b with
    | false => exact ⟨F5, _, G5, acc, xs, back S5, wno _, s15, RepL.mono s25 _ _ ra, by omega, h5⟩
    | true =>
      refine ⟨_, F5, E5, G5, _, S5, h5, fun r E6 G6 ⟨x', E7, hx, h6⟩ v F6 H6 S6 s6 r6 => ?_⟩
      obtain ⟨F7, S7, s7, r7⟩ := S6.ice r6 hx
      have s27 : Same F2 F7 := (s25.trans s6).trans s7
      have ra' := RepL.mono s27 _ _ ra
      refine ⟨xs, S7.pendOff.2.2.2.2.2.1, ?_, F7, _, G6, acc ++ [x'], xs ++ [v], (back (S7.pendWrite (ys := xs ++ [v]))), wno _, (s15.trans s6).trans s7, ra'.append (.cons r7 .nil), by rw [List.length_append]; show acc.length + 1 ≤ i + 1; omega, h6⟩
      have := ra.length
      omega
  · have e : i = ds.length := by omega
    subst e
    rw [List.drop_length] at h2
    obtain ⟨S3, hF, hB, hG, hP, hH, no⟩ := S2.pendOff
    have S4 : St3 K B pn F2 H2 σ E2 G2 := by
      have q := S3.wipeS (σ' := σ) vs (wipe_length σ vs).symm (fun i hi => (wipe_out' hi).symm)
      have eq : wipe3 E2 vs = E2 := by
        apply List.ext_getElem?
        intro j
        cases q2 : E2[j]? with
        | none =>
          apply List.getElem?_eq_none
          rw [wipe3_length]
          exact List.getElem?_eq_none_iff.mp q2
        | some s =>
          have hj := lt_of_look q2
          cases q3 : (wipe3 E2 vs)[j]? with
          | none =>
            have := List.getElem?_eq_none_iff.mp q3
            rw [wipe3_length] at this
            omega
          | some t =>
            cases t with
            | no =>
              by_cases hm : j ∈ vs
              · rw [hw2 j hm s q2]
              · have : ∀ (vs : List Nat), j ∉ vs → (wipe3 E2 vs)[j]? = E2[j]? := by
                  intro vs
                  induction vs with
                  | nil => intro _; rfl
                  | cons v r ih =>
                    intro hm
                    unfold wipe3
                    rw [List.getElem?_set_ne (fun z => hm (by rw [z]; exact List.mem_cons_self))]
                    exact ih (fun z => hm (List.mem_cons_of_mem _ z))
                rw [this vs hm, q2] at q3
                exact q3.symm
            | val d => rw [← (wipe3_val q3).1]; exact q2
            | own d => rw [← (wipe3_own q3).1]; exact q2
            | new nm fs => rw [← (wipe3_some (s := Sl3.new nm fs) (fun q => nomatch q) q3).1]; exact q2
      rw [eq] at q
      exact q
    refine .inl ⟨wk.stop _ F2 H2 _ E2 G2 _ S2 s2 (Nat.le_refl _), hk _ _ _ h2 _ F2 H2 S4 (s1.trans s2) ⟨D, rfl, ⟨hF, hB, hG, hP, xs, hH, ra⟩, fun j es hj e => ?_⟩⟩
    by_cases hm : j ∈ vs
    · exact nomatch (hw2 j hm _ hj)
    · exact no j es hj (by rw [wipe_out' hm]; exact e)
end
end L3

set_option Elab.async false
set_option maxRecDepth 100000
set_option maxHeartbeats 4000000
/-! L3, part f: comprehensions as values, defs; the operators. -/
namespace L3
open PySem PySem.Spec PyProof.Rows L2
section
variable {X : Cx} {B : Base3}
theorem le_lc {elt tg iter : Expr} {ifs : List Expr} {scope : Scope} {own : List (Str × Nat)} {pos : Pos} {di : DI} {g : DG} {tt : DT} {te : DE} (hc : X.calm = true) (hN : X.N.Nodup) (hi : LI X B tg iter di) (ok : BlkOk X.N X.env.scope scope own)
    (hg : ∀ (s : Shared) (H : Hp) (C : Addr) (cl : List (Str × Addr)) (fp : List Addr), LG (X.blk s H scope (compEnvC scope cl C X.env) fp) B (own.map (·.2)) tg g) (ht : ∀ (s : Shared) (H : Hp) (C : Addr) (cl : List (Str × Addr)) (fp : List Addr), LiftTs (X.blk s H scope (compEnvC scope cl C X.env) fp) B ifs tt)
    (he : ∀ (s : Shared) (H : Hp) (C : Addr) (cl : List (Str × Addr)) (fp : List Addr), LE (X.blk s H scope (compEnvC scope cl C X.env) fp) B elt te) (hs : ∀ x, foldedSetIterable iter X.env x = pure x := by intro _; rfl) :
    LE X B (.ListComp elt [⟨tg, iter, ifs, 0⟩] scope pos) (dLc di g tt te (own.map (·.2))) :=
  ⟨pe_imp (pe_lc hc hN hi.pi ok (fun s H C cl fp => (hg s H C cl fp).pg) (fun s H C cl fp => (show PTs _ ifs (LiftT X.K B tt) from ht s H C cl fp)) (fun s H C cl fp => (he s H C cl fp).pe) hs) fun σ H Q h => lc3 h⟩
/-- name = [..] on one line -/
theorem ls_setLc {i : Nat} {y : Str} {py : Pos} {elt tg iter : Expr} {ifs : List Expr} {scope : Scope} {own : List (Str × Nat)} {pos spos : Pos} {di : DI} {g : DG} {tt : DT} {te : DE} (hc : X.calm = true) (hN : X.N.Nodup) (hy : X.N[i]? = some y) (hyl : X.env.scope.names.lookup y = some .local)
    (hsw : swapsWith (.ListComp elt [⟨tg, iter, ifs, 0⟩] scope pos) (some (.Name y py)) spos.line X.env = pure true) (hi : LI X B tg iter di) (ok : BlkOk X.N X.env.scope scope own)
    (hg : ∀ (s : Shared) (H : Hp) (C : Addr) (cl : List (Str × Addr)) (fp : List Addr), LG (X.blk s H scope (compEnvC scope cl C X.env) fp) B (own.map (·.2)) tg g) (ht : ∀ (s : Shared) (H : Hp) (C : Addr) (cl : List (Str × Addr)) (fp : List Addr), LiftTs (X.blk s H scope (compEnvC scope cl C X.env) fp) B ifs tt)
    (he : ∀ (s : Shared) (H : Hp) (C : Addr) (cl : List (Str × Addr)) (fp : List Addr), LE (X.blk s H scope (compEnvC scope cl C X.env) fp) B elt te) (hs : ∀ x, foldedSetIterable iter X.env x = pure x := by intro _; rfl) :
    LS X B (.Assign [.Name y py] (.ListComp elt [⟨tg, iter, ifs, 0⟩] scope pos) spos) (dSet i (dLc di g tt te (own.map (·.2)))) :=
  ⟨ps_imp (ps_setLc hc hN hy hyl hsw hi.pi ok (fun s H C cl fp => (hg s H C cl fp).pg) (fun s H C cl fp => (show PTs _ ifs (LiftT X.K B tt) from ht s H C cl fp)) (fun s H C cl fp => (he s H C cl fp).pe) hs) fun D σ H ⟨pn, F, E, G, D3, S, h, ok⟩ => by
    refine lc3 (Q := fun x H1 => gName i x σ H1 D.nx) ⟨pn, F, E, G, _, S, h, fun r E1 G1 ⟨hi, E2, hp, h1⟩ v F1 H1 S1 s1 r1 => ?_⟩
    obtain ⟨F2, S2, s2⟩ := S1.put hi r1 hp
    exact ok.nx E2 G1 h1 _ F2 H1 S2 (s1.trans s2)⟩
end

/-! ### defs -/
def start3 (N : List Str) (ds : List D) : Env3 := ds.map Sl3.val ++ List.replicate (N.length - ds.length) Sl3.no
section
variable {P : Program} {w : World} {K : PySem.W.Frag} {mg : Str → Option Value} {base : Heap}
theorem start_st {N : List Str} {F H : Hp} {G : Reg} {ds : List D} {vs : List V} (wl : Wld K F H G) (r : RepL K F ds vs) : St3 K ⟨F, H, G.map (·.1), 0⟩ [] F H (L2.start N vs) (start3 N ds) G := by
  have hl := r.length
  have look : ∀ {i : Nat} {s : Sl3}, (start3 N ds)[i]? = some s → (∃ d, ds[i]? = some d ∧ s = Sl3.val d) ∨ s = Sl3.no := fun {i s} h => by
    unfold start3 at h
    by_cases q : i < ds.length
    · rw [List.getElem?_append_left (by simpa using q), List.getElem?_map] at h
      rw [List.getElem?_eq_getElem q] at h ⊢
      exact .inl ⟨_, rfl, (Option.some.inj h).symm⟩
    · rw [List.getElem?_append_right (by simpa using Nat.le_of_not_lt q)] at h
      have := List.mem_of_getElem? h
      exact .inr (List.eq_of_mem_replicate this)
  refine ⟨wl, Same.refl F, fun a o h _ => h, fun a o _ h => h, fun a h => .inl h, fun a h => h, ?_, fun i d h => ?_, fun i es h => ?_, fun i j es fs a h => ?_, fun a xs h => (by cases h), List.nodup_nil, fun nm fs h => (look h).elim (fun ⟨_, _, z⟩ => by cases z) fun z => by cases z⟩
  · unfold start3 L2.start
    simp only [List.length_append, List.length_map, List.length_replicate, hl]
  · rcases look h with ⟨d', h1, h2⟩ | z
    · cases h2
      obtain ⟨v, h3, h4⟩ := r.get h1
      refine ⟨v, ?_, h4⟩
      have hlt := lt_of_look h3
      unfold L2.start
      rw [List.getElem?_append_left (by simpa using hlt), List.getElem?_map, h3]
      rfl
    · cases z
  · rcases look h with ⟨d', h1, h2⟩ | z
    · cases h2
    · cases z
  · rcases look h with ⟨d', h1, h2⟩ | z
    · cases h2
    · cases z
theorem St3.afterB {F H F' H' : Hp} {G G' : Reg} {pn : Pend} {σ : L2.St} {E : Env3} (S : St3 K ⟨F, H, G.map (·.1), 0⟩ pn F' H' σ E G') : After K F H G F' H' G' :=
  ⟨S.w, S.keepF, S.keepH, S.unfr, S.regs, S.regk⟩
/-- THE RULE for a def: its body as a term of rules, and what it makes of plain values -/
theorem ok3 {x qual : Str} {st : Stmt} {f : Addr} {fd : FuncData} {N ps : List Str} {k : Nat} {sp : DSp} (F : Fun K x qual st f fd) (S : FnScope N ps (defScope st)) (len : ∀ ds G q e, sp ds G q e → ds.length = ps.length)
    (body : ∀ (cdv : Value) (A : Around) (outer : List Env) (s : Shared) (H : Hp) (E : XK) (B : Base3) (dw : Exc3 → Reg → Prop), Room k (A.deeper (envOfC qual (defScope st) s.heap.objs.size f cdv)) →
      WOk (cxOf (L2.CX P w) P w K mg base N qual (defScope st) f cdv A outer s H E) B (fun x _ G => dw x G) →
      ∃ t : DSt, LSs (cxOf (L2.CX P w) P w K mg base N qual (defScope st) f cdv A outer s H E) B (defBody st) t ∧ ∀ ds G q, sp ds G q dw → t { nx := fun _ G' => q (.val .non) G', rt := q } (start3 N ds) G) :
    FnOk P w K mg base (L2.CX P w) (k + 1) f fd ps (LSp K sp) := by
  refine F.okX S (fun vs H Q E h => ?_) (fun cdv A outer s H vs Q E hr h => ?_)
  · obtain ⟨F, G, ds, q, e, _, r, h, _⟩ := h
    rw [← r.length]
    exact len _ _ _ _ h
  · obtain ⟨F, G, ds, q, e, wl, r, h, hq, he⟩ := h
    have wk : WOk (cxOf (L2.CX P w) P w K mg base N qual (defScope st) f cdv A outer s H E) ⟨F, H, G.map (·.1), 0⟩ (fun x _ G => e x G) :=
      ⟨fun cls d _ H => E cls d H, takes_of rfl rfl rfl rfl, fun pn F' H' σ E' G' x cls dd S' rx hx => he x G' hx cls dd F' H' S'.afterB rx⟩
    obtain ⟨t, hb, ht⟩ := body cdv A outer s H E ⟨F, H, G.map (·.1), 0⟩ e hr wk
    refine ⟨_, hb.pss, ⟨[], F, start3 N ds, G, _, start_st wl r, ht ds G q h, ⟨fun E' G' h' σ' F' H' S' _ => hq _ _ h' _ F' H' S'.afterB .non, fun r' G' h' v F' H' σ' E' S' _ rr => hq _ _ h' v F' H' S'.afterB ?_, fun _ _ z => z.elim, fun _ _ z => z.elim⟩⟩⟩
    cases r' with
    | val d => exact rr
    | fr es =>
      obtain ⟨a, rfl, f⟩ := rr
      obtain ⟨xs, h1, h2⟩ := f.ex
      exact ⟨a, xs, rfl, f.nF, f.nB, f.nG, h1, h2⟩
    | sl i => exact rr.elim
end

/-! ### plain data that can be compared -/
mutual
def D.py : D → PyData
  | .non => .none
  | .bl b => .bool b
  | .int i => .int i
  | .str x => .str x
  | .ref _ => .none
  | .ty _ => .none
  | .scr _ => .none
  | .obj _ _ => .none
  | .cls _ => .none
  | .dcK _ _ => .none
  | .dcT _ _ => .none
  | .tup ds => .tuple (pyL ds)
  | .lst ds => .list (pyL ds)
def pyL : List D → List PyData
  | [] => []
  | d :: ds => d.py :: pyL ds
end
def shl (p : D → Bool) : D → Bool
  | .tup ds => ds.all p
  | .lst ds => ds.all p
  | .ref _ => false
  | .ty _ => false
  | .scr _ => false
  | .obj _ _ => false
  | .cls _ => false
  | .dcK _ _ => false
  | .dcT _ _ => false
  | .str x => PyData.strOk x
  | _ => true
def sh0 : D → Bool
  | .tup ds => ds.isEmpty
  | .lst ds => ds.isEmpty
  | .ref _ => false
  | .ty _ => false
  | .scr _ => false
  | .obj _ _ => false
  | .cls _ => false
  | .dcK _ _ => false
  | .dcT _ _ => false
  | .str x => PyData.strOk x
  | _ => true
def D.sh : D → Bool := shl (shl (shl (shl (shl sh0))))
def D.eqv (d e : D) : Bool := PyData.eqv d.py e.py
def ShOk (p : D → Bool) (m : Nat) : Prop := ∀ (K : PySem.W.Frag) (F : Hp) (d : D) (v : V), p d = true → Rep K F d v → Dp K F v d.py ∧ d.py.canLay0 = true ∧ d.py.depth ≤ m
theorem pyL_map : ∀ ds : List D, pyL ds = ds.map D.py
  | [] => rfl
  | d :: ds => by rw [pyL, pyL_map ds]; rfl
theorem sh0_ok : ShOk sh0 1 := by
  intro K F d v h r
  cases r with
  | non => exact ⟨.non, rfl, by simp [D.py, PyData.depth]⟩
  | bl b => exact ⟨.bl b, rfl, by simp [D.py, PyData.depth]⟩
  | int b => exact ⟨.int b, rfl, by simp [D.py, PyData.depth]⟩
  | str b => exact ⟨.str b, h, by simp [D.py, PyData.depth]⟩
  | ref a => cases h
  | ty n => cases h
  | scr n => cases h
  | obj _ _ _ _ => cases h
  | cls _ => cases h
  | dcK _ _ _ => cases h
  | dcT _ _ _ => cases h
  | @tup a xs ds hs ha =>
    cases ds with
    | nil => cases ha; exact ⟨.tup hs .nil, rfl, by simp [D.py, pyL, PyData.depth, PyData.depthAll]⟩
    | cons _ _ => cases h
  | @lst a xs ds hs ha =>
    cases ds with
    | nil => cases ha; exact ⟨.lst (.inl hs) .nil, rfl, by simp [D.py, pyL, PyData.depth, PyData.depthAll]⟩
    | cons _ _ => cases h
theorem shl_all {p : D → Bool} {m : Nat} (hp : ShOk p m) {K : PySem.W.Frag} {F : Hp} : ∀ (ds : List D) (vs : List V), ds.all p = true → RepL K F ds vs → DpAll K F vs (pyL ds) ∧ PyData.canLayAll0 (pyL ds) = true ∧ PyData.depthAll (pyL ds) ≤ m
  | [], _, _, r => by cases r; exact ⟨.nil, rfl, Nat.zero_le _⟩
  | d :: ds, _, h, r => by
    cases r with
    | cons r1 r2 =>
      rw [List.all_cons, Bool.and_eq_true] at h
      obtain ⟨h1, h2, h3⟩ := hp K F d _ h.1 r1
      obtain ⟨q1, q2, q3⟩ := shl_all hp ds _ h.2 r2
      exact ⟨.cons h1 q1, by simp [pyL, PyData.canLayAll0, h2, q2], by simp only [pyL, PyData.depthAll]; exact Nat.max_le.mpr ⟨h3, q3⟩⟩
theorem shl_ok {p : D → Bool} {m : Nat} (hp : ShOk p m) : ShOk (shl p) (m + 1) := by
  intro K F d v h r
  cases r with
  | non => exact ⟨.non, rfl, by simp [D.py, PyData.depth]⟩
  | bl b => exact ⟨.bl b, rfl, by simp [D.py, PyData.depth]⟩
  | int b => exact ⟨.int b, rfl, by simp [D.py, PyData.depth]⟩
  | str b => exact ⟨.str b, h, by simp [D.py, PyData.depth]⟩
  | ref a => cases h
  | ty n => cases h
  | scr n => cases h
  | obj _ _ _ _ => cases h
  | cls _ => cases h
  | dcK _ _ _ => cases h
  | dcT _ _ _ => cases h
  | @tup a xs ds hs ha =>
    obtain ⟨h1, h2, h3⟩ := shl_all hp ds xs h ha
    exact ⟨.tup hs h1, by simpa [D.py, PyData.canLay0] using h2, by simp only [D.py, PyData.depth]; omega⟩
  | @lst a xs ds hs ha =>
    obtain ⟨h1, h2, h3⟩ := shl_all hp ds xs h ha
    exact ⟨.lst (.inl hs) h1, by simpa [D.py, PyData.canLay0] using h2, by simp only [D.py, PyData.depth]; omega⟩
theorem sh_ok : ShOk D.sh 6 := shl_ok (shl_ok (shl_ok (shl_ok (shl_ok sh0_ok))))
mutual
theorem Dp.mono3 {K : PySem.W.Frag} {F F' : Hp} (e : Same F F') : ∀ (d : PyData) (v : V), Dp K F v d → Dp K F' v d
  | .none, _, h => by cases h; exact .non
  | .bool _, _, h => by cases h; exact .bl _
  | .int _, _, h => by cases h; exact .int _
  | .str _, _, h => by cases h; exact .str _
  | .list ds, _, h => by
    cases h with
    | lst hs ha => exact .lst (e.seq hs) (DpAll.mono3 e ds _ ha)
  | .tuple ds, _, h => by
    cases h with
    | tup hs ha => exact .tup (sameT e hs) (DpAll.mono3 e ds _ ha)
  | .dict _, _, h => by cases h
theorem DpAll.mono3 {K : PySem.W.Frag} {F F' : Hp} (e : Same F F') : ∀ (ds : List PyData) (vs : List V), DpAll K F vs ds → DpAll K F' vs ds
  | [], _, h => by cases h; exact .nil
  | d :: ds, _, h => by
    cases h with
    | cons h1 h2 => exact .cons (Dp.mono3 e d _ h1) (DpAll.mono3 e ds _ h2)
end
theorem sh_H {K : PySem.W.Frag} {F H : Hp} {d : D} {v : V} (s : Same F H) (h : d.sh = true) (r : RepH K F H d v) : Dp K H v d.py ∧ SeqAt.shaped d.py = true := by
  have fin : ∀ {d : D}, Dp K H v d.py ∧ d.py.canLay0 = true ∧ d.py.depth ≤ 6 → Dp K H v d.py ∧ SeqAt.shaped d.py = true := fun {d} ⟨a, b, c⟩ => ⟨a, by unfold SeqAt.shaped; rw [b, Bool.true_and]; exact decide_eq_true (by omega)⟩
  rcases r with r | ⟨a, xs, ds, rfl, rfl, h1, h2⟩
  · obtain ⟨q1, q2, q3⟩ := sh_ok K F d v h r
    exact fin ⟨Dp.mono3 s _ _ q1, q2, q3⟩
  · obtain ⟨q1, q2, q3⟩ := shl_all (shl_ok (shl_ok (shl_ok (shl_ok sh0_ok)))) ds xs h (RepL.mono s _ _ h2)
    refine fin (d := .lst ds) ⟨.lst (SqL.of h1) q1, by simpa [D.py, PyData.canLay0] using q2, by simp only [D.py, PyData.depth]; omega⟩
theorem RepH.lst {K : PySem.W.Frag} {F H : Hp} {ds : List D} {v : V} (r : RepH K F H (.lst ds) v) (s : Same F H) : ∃ a xs, v = .ref a ∧ Rd H a (.lst xs) ∧ RepL K F ds xs := by
  rcases r with r | ⟨a, xs, ds', e, rfl, h1, h2⟩
  · cases r with
    | lst hs ha => exact ⟨_, _, rfl, sameR s hs, ha⟩
  · cases e
    exact ⟨a, xs, rfl, Rd.of h1, h2⟩
theorem RepH.val {K : PySem.W.Frag} {F H : Hp} {d : D} {v : V} (r : RepH K F H d v) (n : ∀ ds, d ≠ .lst ds) : Rep K F d v := by
  rcases r with r | ⟨a, xs, ds', e, rfl, h1, h2⟩
  · exact r
  · exact absurd e (n _)
theorem RepH.tup {K : PySem.W.Frag} {F H : Hp} {ds : List D} {v : V} (r : RepH K F H (.tup ds) v) (s : Same F H) : ∃ a xs, v = .ref a ∧ SqT K H a xs ∧ RepL K F ds xs := by
  cases r.val (fun _ q => nomatch q) with
  | tup hs ha => exact ⟨_, _, rfl, sameT s hs, ha⟩
theorem RepH.int {K : PySem.W.Frag} {F H : Hp} {i : Int} {v : V} (r : RepH K F H (.int i) v) : v = .int i := by
  cases r.val (fun _ q => nomatch q); rfl
theorem RepH.bl {K : PySem.W.Frag} {F H : Hp} {i : Bool} {v : V} (r : RepH K F H (.bl i) v) : v = .bl i := by
  cases r.val (fun _ q => nomatch q); rfl
theorem RepH.str {K : PySem.W.Frag} {F H : Hp} {i : Str} {v : V} (r : RepH K F H (.str i) v) : v = .str i := by
  cases r.val (fun _ q => nomatch q); rfl
theorem RepH.non {K : PySem.W.Frag} {F H : Hp} {v : V} (r : RepH K F H .non v) : v = .non := by
  cases r.val (fun _ q => nomatch q); rfl
end L3

set_option Elab.async false
set_option maxRecDepth 100000
set_option maxHeartbeats 4000000
/-! L3, part g: operators, subscripts, built-ins over plain values. -/
namespace L3
open PySem PySem.Spec PyProof.Rows L2
section
variable {X : Cx} {B : Base3}
/-! ### list + list, list * int: also of a list that is locked -/
def rCatR : R2 := fun x y H Q => ∃ l b xs zs, x = .ref l ∧ y = .ref b ∧ Rd H l (.lst xs) ∧ Rd H b (.lst zs) ∧ xs.length + zs.length ≤ sizeLine ∧ ∀ p, H p = none → Q (.ref p) (upd H p (.lst (xs ++ zs)))
theorem op_catR : OpR X (binaryOp .Add) rCatR := by
  intro pins s σ H x y v u Q I rx ry h
  obtain ⟨l, b, xs, zs, rfl, rfl, hH, hB, hz, q⟩ := h
  cases rx
  cases ry
  obtain ⟨z, its, n, r, e⟩ := hH.ok I.hok
  obtain ⟨z2, its2, n2, r2, e2⟩ := hB.ok I.hok
  have hl := r.length
  have hl2 := r2.length
  refine PySem.P.add_list e e2 ?_ (by rw [List.size_toArray, List.size_toArray]; omega)
  have ea : its.toArray ++ its2.toArray = (its ++ its2).toArray := by simp
  rw [ea]
  exact ⟨.ref _, _, I.lnew (t' := s.toks) (r.append r2) (by rw [List.length_append]; omega), rfl, q _ I.fresh⟩
def rRepR : R2 := fun x y H Q => ∃ l k xs, x = .ref l ∧ y = .int k ∧ Rd H l (.lst xs) ∧ -(2 ^ 63) ≤ k ∧ k < 2 ^ 63 ∧ xs.length * k.toNat ≤ sizeLine ∧
  ∀ p, H p = none → Q (.ref p) (upd H p (.lst (List.replicate k.toNat xs).flatten))
theorem op_repR : OpR X (binaryOp .Mult) rRepR := by
  intro pins s σ H x y v u Q I rx ry h
  obtain ⟨l, k, xs, rfl, rfl, hH, h1, h2, hz, q⟩ := h
  cases rx
  obtain ⟨t, rfl⟩ := ry
  obtain ⟨z, its, n, r, e⟩ := hH.ok I.hok
  have hl := r.length
  have hlen : its.toArray.size * k.toNat ≤ sizeLine := by rw [List.size_toArray, ← hl]; exact hz
  have hcap : ¬ its.toArray.size * k.toNat > (2 ^ 63 - 1) / 8 := by
    have : (sizeLine : Nat) ≤ (2 ^ 63 - 1) / 8 := by decide
    omega
  have hfit : ¬ (!Builtin.List.listFitsIndex k) = true := by
    rw [fitsIndex_both h1 h2]
    exact Bool.false_ne_true
  have hlong : ¬ Builtin.List.listTooLong (its.toArray.size * k.toNat) = true := by
    rw [notLongL hlen]
    exact Bool.false_ne_true
  have hnew : List.foldl (fun x1 x2 => x1 ++ x2) #[] (List.replicate (if its.toArray.isEmpty = true then 0 else k.toNat) its.toArray) = (List.replicate k.toNat its).flatten.toArray := by
    have f0 : ∀ m : Nat, List.foldl (fun x1 x2 => x1 ++ x2) #[] (List.replicate m its.toArray) = (List.replicate m its).flatten.toArray := fun m => by
      have := foldl_rep its m []
      rw [List.nil_append] at this
      exact this
    rw [f0]
    cases its with
    | nil => simp
    | cons a r' => rw [if_neg (by simp)]
  refine wpAny_binaryOp_repeat_ref (T := "list") (U := "int") (by decide) ⟨_, e, rfl⟩ (fun s' => typeIs_int s' k t) noFill_list_mul F.fills_int_mul F.slot_int_rmul repeat_list F.slot_int_index.lookup
    (call_meets F.slot_int_rmul (typeIs_int s k t) F.entry_int_rmul (F.args_int_rmul_2 _ _) (int___rmul___int_list k t l its.toArray n)
      ⟨e, rfl, ⟨_, e, rfl⟩, call_meets F.slot_list_mul ⟨_, e, rfl⟩ F.entry_list_mul (F.args_list_mul_2 _ _) (AutoListH.list___mul___list_int_3 l its.toArray n k t hfit hcap hlong) ⟨e, ?_⟩⟩)
  rw [hnew]
  exact ⟨.ref _, _, I.lnew (t' := s.toks) (r.rep k.toNat) (by rw [PyProof.Rows.lm_len_rep_flat, Nat.mul_comm]; exact hz), rfl, q _ I.fresh⟩

/-! ### + - * // % ** -/
def oAdd : Reg → D → D → (Res → Prop) → Prop := fun _ d e k => match d, e with
  | .int i, .int j => k (.val (.int (i + j)))
  | .str a, .str b => a.length + b.length ≤ sizeLine ∧ k (.val (.str (a ++ b)))
  | .tup a, .tup b => a.length + b.length ≤ sizeLine ∧ k (.val (.tup (a ++ b)))
  | .lst a, .lst b => a.length + b.length ≤ sizeLine ∧ k (.fr (a ++ b))
  | _, _ => False
def rAdd3 (K : PySem.W.Frag) : R2 := fun x y H Q => rI0 (fun i j => .int (i + j)) x y H Q ∨ (∃ i j, x = .str i ∧ y = .str j ∧ i.length + j.length ≤ sizeLine ∧ Q (.str (i ++ j)) H) ∨ rCatA K x y H Q ∨ rCatR x y H Q
theorem op_add3 : OpR X (binaryOp .Add) (rAdd3 X.K) := op_add.or (op_add_str.or (op_catA.or op_catR))
theorem r_add3 : ROp X B (rAdd3 X.K) oAdd := by
  intro pn F H σ E G x y d e k Q S rx ry h hk
  unfold oAdd at h
  split at h
  · rw [rx.int, ry.int]
    exact .inl ⟨_, _, rfl, rfl, hk _ h _ F H S (Same.refl F) (.int _)⟩
  · rw [rx.str, ry.str]
    exact .inr (.inl ⟨_, _, rfl, rfl, h.1, hk _ h.2 _ F H S (Same.refl F) (.str _)⟩)
  · rename_i a b
    obtain ⟨p, xs, rfl, hs, ra⟩ := rx.tup S.w.sub
    obtain ⟨p2, ys, rfl, hs2, rb⟩ := ry.tup S.w.sub
    have rx' := rx.val (fun _ q => nomatch q)
    have ry' := ry.val (fun _ q => nomatch q)
    refine .inr (.inr (.inl ⟨p, p2, xs, ys, rfl, rfl, hs, hs2, by rw [← ra.length, ← rb.length]; exact h.1, fun e => ?_, fun _ e => ?_, fun _ _ q nq => ?_⟩))
    · have ea : a = [] := by cases a with | nil => rfl | cons _ _ => rw [e] at ra; cases ra
      subst ea
      exact hk _ h.2 _ F H S (Same.refl F) ry'
    · have eb : b = [] := by cases b with | nil => rfl | cons _ _ => rw [e] at rb; cases rb
      subst eb
      rw [List.append_nil] at h
      exact hk _ h.2 _ F H S (Same.refl F) rx'
    · obtain ⟨S2, s2⟩ := S.newF (o := .tup (xs ++ ys)) nq
      exact hk _ h.2 _ _ _ S2 s2 (.tup (SqT.of upd_same) (RepL.mono s2 _ _ (ra.append rb)))
  · obtain ⟨p, xs, rfl, hs, ra⟩ := rx.lst S.w.sub
    obtain ⟨p2, ys, rfl, hs2, rb⟩ := ry.lst S.w.sub
    refine .inr (.inr (.inr ⟨p, p2, xs, ys, rfl, rfl, hs, hs2, by rw [← ra.length, ← rb.length]; exact h.1, fun q nq => ?_⟩))
    obtain ⟨f, no⟩ := S.newFre nq (ra.append rb)
    exact hk _ h.2 _ _ _ (S.newU nq) (Same.refl F) ⟨q, rfl, f, no⟩
  · exact h.elim
theorem le_add {a b : Expr} {ta tb : DE} {pos} (ha : LE X B a ta) (hb : LE X B b tb) : LE X B (.BinOp a .Add b pos) (dOp oAdd ta tb) := le_op op_add3 r_add3 ha hb

def oSub : Reg → D → D → (Res → Prop) → Prop := fun _ d e k => match d, e with
  | .int i, .int j => k (.val (.int (i - j)))
  | _, _ => False
/-- an operator of ints -/
theorem r_ii {C : Int → Int → Prop} {g : Int → Int → Int} {rd : Reg → D → D → (Res → Prop) → Prop} (h : ∀ G d e k, rd G d e k → ∃ i j, d = .int i ∧ e = .int j ∧ C i j ∧ k (.val (.int (g i j)))) : ROp X B (rI C fun i j => .int (g i j)) rd := by
  intro pn F H σ E G x y d e k Q S rx ry hr hk
  obtain ⟨i, j, rfl, rfl, hc, q⟩ := h _ _ _ _ hr
  exact ⟨i, j, rx.int, ry.int, hc, hk _ q _ F H S (Same.refl F) (.int _)⟩
theorem r_ii0 {g : Int → Int → Int} {rd : Reg → D → D → (Res → Prop) → Prop} (h : ∀ G d e k, rd G d e k → ∃ i j, d = .int i ∧ e = .int j ∧ k (.val (.int (g i j)))) : ROp X B (rI0 fun i j => .int (g i j)) rd := by
  intro pn F H σ E G x y d e k Q S rx ry hr hk
  obtain ⟨i, j, rfl, rfl, q⟩ := h _ _ _ _ hr
  exact ⟨i, j, rx.int, ry.int, hk _ q _ F H S (Same.refl F) (.int _)⟩
theorem r_ib0 {g : Int → Int → Bool} {rd : Reg → D → D → (Res → Prop) → Prop} (h : ∀ G d e k, rd G d e k → ∃ i j, d = .int i ∧ e = .int j ∧ k (.val (.bl (g i j)))) : ROp X B (rI0 fun i j => .bl (g i j)) rd := by
  intro pn F H σ E G x y d e k Q S rx ry hr hk
  obtain ⟨i, j, rfl, rfl, q⟩ := h _ _ _ _ hr
  exact ⟨i, j, rx.int, ry.int, hk _ q _ F H S (Same.refl F) (.bl _)⟩
theorem r_sub3 : ROp X B (rI0 fun i j => .int (i - j)) oSub := r_ii0 fun G d e k h => by
  unfold oSub at h
  split at h
  · exact ⟨_, _, rfl, rfl, h⟩
  · exact h.elim
theorem le_sub {a b : Expr} {ta tb : DE} {pos} (ha : LE X B a ta) (hb : LE X B b tb) : LE X B (.BinOp a .Sub b pos) (dOp oSub ta tb) := le_op op_sub r_sub3 ha hb

/-- a product's size: one factor within 2 ^ 64, or both together below a million bits -/
def MulOk (i j : Int) : Prop := CMul i j ∨ CMulW i j
theorem op_mulI : OpR X (binaryOp .Mult) (rI MulOk fun i j => .int (i * j)) := by
  intro pins s σ H x y v u Q I rx ry h
  obtain ⟨i, j, rfl, rfl, hc, q⟩ := h
  rcases hc with hc | hc
  · exact op_mul pins s σ H _ _ v u Q I rx ry ⟨i, j, rfl, rfl, hc, q⟩
  · exact op_mulW pins s σ H _ _ v u Q I rx ry ⟨i, j, rfl, rfl, hc, q⟩
/-- the built-in at count one hands the tuple itself back -/
theorem tup_times_one (l : Addr) (its : Array Value) (n : Nat) (dd : Option Addr) (sl : Array (Option Value)) (u : Tok) :
    Meets (Builtin.«tuple.__mul__» ⟨[Value.ref l, Value.int 1 u], []⟩) (fun _ R s =>
      s.heap.get? l = some ⟨.type "tuple", dd, .seq its n, sl⟩ ∧ R (.ok (.ret (Value.ref l))) s) := by
  refine .of_wp fun prog w A R s h => ?_
  obtain ⟨hp, g, d, tk, os⟩ := s
  obtain ⟨hl, h⟩ := h
  have f1 := AutoSeq1.idx_int
  wp_walk using wpAny_loadPart' hl
  exact ⟨_, rfl, h⟩
theorem tup_times_none (l : Addr) (its : Array Value) (n : Nat) (dd : Option Addr) (sl : Array (Option Value)) (u : Tok) (hn : its.isEmpty = false) :
    Meets (Builtin.«tuple.__mul__» ⟨[Value.ref l, Value.int 0 u], []⟩) (fun _ R s =>
      s.heap.get? l = some ⟨.type "tuple", dd, .seq its n, sl⟩ ∧
      R (.ok (.ret (Value.ref s.heap.objs.size))) { s with heap := s.heap.push { cls := Value.type "tuple", data := Data.seq #[] }, toks := s.toks }) := by
  refine .of_wp fun prog w A R s h => ?_
  obtain ⟨hp, g, d, tk, os⟩ := s
  obtain ⟨hl, h⟩ := h
  have f1 := AutoSeq1.idx_int
  wp_walk using wpAny_loadPart' hl
  exact ⟨_, rfl, h⟩
def rRep01 (K : PySem.W.Frag) : R2 := fun x y H Q => ∃ l k xs, x = .ref l ∧ y = .int k ∧ SqT K H l xs ∧ xs ≠ [] ∧ (k = 1 ∧ Q (.ref l) H ∨ k = 0 ∧ ∀ p, H p = none → Q (.ref p) (upd H p (.tup [])))
theorem op_rep01 : OpR X (binaryOp .Mult) (rRep01 X.K) := by
  intro ps s σ H x y v u Q I rx ry hc
  obtain ⟨l, k, xs, rfl, rfl, sq, ne, hc⟩ := hc
  cases rx
  obtain ⟨t, rfl⟩ := ry
  obtain ⟨its, rr, ⟨⟨cl, dd, dt, sl⟩, g, c1, n, c2⟩, -⟩ := I.tuple sq
  simp only at c1 c2
  subst c1 c2
  have nn : its.toArray.isEmpty = false := by
    cases its with
    | nil => cases rr; exact absurd rfl ne
    | cons a b => rfl
  rcases hc with ⟨rfl, q⟩ | ⟨rfl, q⟩
  · exact wpAny_binaryOp_repeat_ref (T := "tuple") (U := "int") (by decide) ⟨_, g, rfl⟩ (fun _ => typeIs_int _ _ _) noFill_tuple_mul F.fills_int_mul F.slot_int_rmul repeat_tuple F.slot_int_index.lookup
      (call_meets F.slot_int_rmul (typeIs_int _ _ _) F.entry_int_rmul (F.args_int_rmul_2 _ _) (int_rmul_tuple _ _ _ _ _ _ _)
        ⟨g, rfl, ⟨_, g, rfl⟩, call_meets F.slot_tuple_mul ⟨_, g, rfl⟩ F.entry_tuple_mul (F.args_tuple_mul_2 _ _) (tup_times_one _ _ _ _ _ _)
          ⟨g, .ref l, _, I, rfl, q⟩⟩)
  · exact wpAny_binaryOp_repeat_ref (T := "tuple") (U := "int") (by decide) ⟨_, g, rfl⟩ (fun _ => typeIs_int _ _ _) noFill_tuple_mul F.fills_int_mul F.slot_int_rmul repeat_tuple F.slot_int_index.lookup
      (call_meets F.slot_int_rmul (typeIs_int _ _ _) F.entry_int_rmul (F.args_int_rmul_2 _ _) (int_rmul_tuple _ _ _ _ _ _ _)
        ⟨g, rfl, ⟨_, g, rfl⟩, call_meets F.slot_tuple_mul ⟨_, g, rfl⟩ F.entry_tuple_mul (F.args_tuple_mul_2 _ _) (tup_times_none _ _ _ _ _ _ nn)
          ⟨g, .ref s.heap.objs.size, _, I.laid (t' := s.toks) (o := .tup []) (fun b ob q => Heap.get?_push_of_some _ q) (Nat.le_refl _) ⟨by decide, _, .nil, IsTup.new _ _⟩, rfl, q _ (I.hok.fresh (Nat.le_refl _))⟩⟩)
def oMul : Reg → D → D → (Res → Prop) → Prop := fun _ d e k => match d, e with
  | .int i, .int j => MulOk i j ∧ k (.val (.int (i * j)))
  | .lst a, .int j => -(2 ^ 63) ≤ j ∧ j < 2 ^ 63 ∧ a.length * j.toNat ≤ sizeLine ∧ k (.fr (List.replicate j.toNat a).flatten)
  | .tup a, .int j => a ≠ [] ∧ 0 ≤ j ∧ j ≤ 1000 ∧ a.length ≤ 1000 ∧ k (.val (.tup (List.replicate j.toNat a).flatten))
  | _, _ => False
def rMul3 (K : PySem.W.Frag) : R2 := fun x y H Q => rI MulOk (fun i j => .int (i * j)) x y H Q ∨ rRepR x y H Q ∨ rRepT K x y H Q ∨ rRep01 K x y H Q
theorem op_mul3 : OpR X (binaryOp .Mult) (rMul3 X.K) := op_mulI.or (op_repR.or (op_repT.or op_rep01))
theorem r_mul3 : ROp X B (rMul3 X.K) oMul := by
  intro pn F H σ E G x y d e k Q S rx ry h hk
  unfold oMul at h
  split at h
  · exact .inl ⟨_, _, rx.int, ry.int, h.1, hk _ h.2 _ F H S (Same.refl F) (.int _)⟩
  · obtain ⟨h1, h2, h3, h4⟩ := h
    obtain ⟨p, xs, rfl, hs, ra⟩ := rx.lst S.w.sub
    refine .inr (.inl ⟨p, _, xs, rfl, ry.int, hs, h1, h2, by rw [← ra.length]; exact h3, fun q nq => ?_⟩)
    obtain ⟨f, no⟩ := S.newFre nq (ra.rep _)
    exact hk _ h4 _ _ _ (S.newU nq) (Same.refl F) ⟨q, rfl, f, no⟩
  · rename_i a j
    obtain ⟨h0, h1, h2, h3, h4⟩ := h
    obtain ⟨p, xs, rfl, hs, ra⟩ := rx.tup S.w.sub
    have hne : xs ≠ [] := fun e => h0 (by rw [e] at ra; cases ra; rfl)
    rcases (by omega : j = 0 ∨ j = 1 ∨ 2 ≤ j) with rfl | rfl | h1
    · refine .inr (.inr (.inr ⟨p, _, xs, rfl, ry.int, hs, hne, .inr ⟨rfl, fun q nq => ?_⟩⟩))
      obtain ⟨S2, s2⟩ := S.newF nq
      exact hk _ h4 _ _ _ S2 s2 (.tup (SqT.of upd_same) .nil)
    · rw [show (List.replicate (Int.toNat 1) a).flatten = a from by simp [List.replicate]] at h4
      exact .inr (.inr (.inr ⟨p, _, xs, rfl, ry.int, hs, hne, .inl ⟨rfl, hk _ h4 _ _ _ S (Same.refl F) (rx.elim id fun ⟨_, _, _, e, _⟩ => by cases e)⟩⟩))
    refine .inr (.inr (.inl ⟨p, _, xs, rfl, ry.int, hs, hne, h1, h2, by rw [← ra.length]; exact h3, fun q nq => ?_⟩))
    · obtain ⟨S2, s2⟩ := S.newF nq
      exact hk _ h4 _ _ _ S2 s2 (.tup (SqT.of upd_same) (RepL.mono s2 _ _ (ra.rep _)))
  · exact h.elim
theorem le_mul {a b : Expr} {ta tb : DE} {pos} (ha : LE X B a ta) (hb : LE X B b tb) : LE X B (.BinOp a .Mult b pos) (dOp oMul ta tb) := le_op op_mul3 r_mul3 ha hb
def oFdiv : Reg → D → D → (Res → Prop) → Prop := fun _ d e k => match d, e with
  | .int i, .int j => CDivW i j ∧ k (.val (.int (i / j)))
  | _, _ => False
theorem r_fdiv3 : ROp X B (rI CDivW fun i j => .int (i / j)) oFdiv := r_ii fun G d e k h => by
  unfold oFdiv at h
  split at h
  · exact ⟨_, _, rfl, rfl, h.1, h.2⟩
  · exact h.elim
theorem le_fdiv {a b : Expr} {ta tb : DE} {pos} (ha : LE X B a ta) (hb : LE X B b tb) : LE X B (.BinOp a .FloorDiv b pos) (dOp oFdiv ta tb) := le_op op_fdivW r_fdiv3 ha hb
def oMod : Reg → D → D → (Res → Prop) → Prop := fun _ d e k => match d, e with
  | .int i, .int j => 0 < j ∧ k (.val (.int (i % j)))
  | _, _ => False
theorem r_mod3 : ROp X B (rI (fun _ j => 0 < j) fun i j => .int (i % j)) oMod := r_ii fun G d e k h => by
  unfold oMod at h
  split at h
  · exact ⟨_, _, rfl, rfl, h.1, h.2⟩
  · exact h.elim
theorem le_mod {a b : Expr} {ta tb : DE} {pos} (ha : LE X B a ta) (hb : LE X B b tb) : LE X B (.BinOp a .Mod b pos) (dOp oMod ta tb) := le_op op_mod r_mod3 ha hb
/-- .. by a divisor of any sign -/
def oModN : Reg → D → D → (Res → Prop) → Prop := fun _ d e k => match d, e with
  | .int i, .int j => j ≠ 0 ∧ k (.val (.int (i.fmod j)))
  | _, _ => False
theorem r_modN3 : ROp X B (rI (fun _ j => j ≠ 0) fun i j => .int (i.fmod j)) oModN := r_ii fun G d e k h => by
  unfold oModN at h
  split at h
  · exact ⟨_, _, rfl, rfl, h.1, h.2⟩
  · exact h.elim
theorem le_modN {a b : Expr} {ta tb : DE} {pos} (ha : LE X B a ta) (hb : LE X B b tb) : LE X B (.BinOp a .Mod b pos) (dOp oModN ta tb) := le_op op_modN r_modN3 ha hb
def oPow : Reg → D → D → (Res → Prop) → Prop := fun _ d e k => match d, e with
  | .int i, .int j => CPow i j ∧ k (.val (.int (i ^ j.toNat)))
  | _, _ => False
theorem r_pow3 : ROp X B (rI CPow fun i j => .int (i ^ j.toNat)) oPow := r_ii fun G d e k h => by
  unfold oPow at h
  split at h
  · exact ⟨_, _, rfl, rfl, h.1, h.2⟩
  · exact h.elim
theorem le_pow {a b : Expr} {ta tb : DE} {pos} (ha : LE X B a ta) (hb : LE X B b tb) : LE X B (.BinOp a .Pow b pos) (dOp oPow ta tb) := le_op op_pow r_pow3 ha hb

/-! ### order -/
def oCmpI (p : Int → Int → Bool) : Reg → D → D → (Res → Prop) → Prop := fun _ d e k => match d, e with
  | .int i, .int j => k (.val (.bl (p i j)))
  | _, _ => False
theorem r_cmpI {p : Int → Int → Bool} : ROp X B (rI0 fun i j => .bl (p i j)) (oCmpI p) := r_ib0 fun G d e k h => by
  unfold oCmpI at h
  split at h
  · exact ⟨_, _, rfl, rfl, h⟩
  · exact h.elim
abbrev oLt := oCmpI fun i j => decide (i < j)
abbrev oLe := oCmpI fun i j => decide (i ≤ j)
abbrev oGt := oCmpI fun i j => decide (j < i)
abbrev oGe := oCmpI fun i j => decide (j ≤ i)

/-! ### ==, in, is -/
def oEq : Reg → D → D → (Res → Prop) → Prop := fun _ d e k => d.sh = true ∧ e.sh = true ∧ k (.val (.bl (D.eqv d e)))
def oNe : Reg → D → D → (Res → Prop) → Prop := fun _ d e k => d.sh = true ∧ e.sh = true ∧ k (.val (.bl (!D.eqv d e)))
theorem r_eq3 : ROp X B (rEqD X.K) oEq := by
  intro pn F H σ E G x y d e k Q S rx ry ⟨h1, h2, h⟩ hk
  obtain ⟨a1, a2⟩ := sh_H S.w.sub h1 rx
  obtain ⟨b1, b2⟩ := sh_H S.w.sub h2 ry
  exact ⟨_, _, a1, b1, a2, b2, hk _ h _ F H S (Same.refl F) (.bl _)⟩
theorem r_ne3 : ROp X B (rNeD X.K) oNe := by
  intro pn F H σ E G x y d e k Q S rx ry ⟨h1, h2, h⟩ hk
  obtain ⟨a1, a2⟩ := sh_H S.w.sub h1 rx
  obtain ⟨b1, b2⟩ := sh_H S.w.sub h2 ry
  exact ⟨_, _, a1, b1, a2, b2, hk _ h _ F H S (Same.refl F) (.bl _)⟩
def rInT (K : PySem.W.Frag) (neg : Bool) : R2 := fun x y H Q => ∃ d ds, Dp K H x d ∧ Dp K H y (.tuple ds) ∧ SeqAt.shaped d = true ∧ SeqAt.shaped (.tuple ds) = true ∧ Q (.bl (if neg then !ds.any fun z => PyData.eqv z d else ds.any fun z => PyData.eqv z d)) H
theorem roomT {A : Around} {d : PyData} {ds : List PyData} (sd : SeqAt.shaped d = true) (hu : A.units + 65 < cLine) : A.units + 1 + min (PyData.depthAll ds) d.depth < cLine := by
  have h1 := SeqAt.depth_of_shaped sd
  have h2 : min (PyData.depthAll ds) d.depth ≤ d.depth := Nat.min_le_right _ _
  omega
theorem op_inT (hu : X.A.units + 65 < cLine) : OpR X (compareOp .In) (rInT X.K false) := by
  intro pins s σ H x y v u Q I rx ry h
  obtain ⟨d, ds, hd, he, sd, se, q⟩ := h
  obtain ⟨as, r1⟩ := Dp.reads I d x v hd rx
  obtain ⟨bs, r2⟩ := Dp.reads I (.tuple ds) y u he ry
  exact SeqAt.in_tuple_reads r2 r1 (SeqAt.canLay_of_shaped se) (SeqAt.canLay_of_shaped sd) (roomT sd hu) ⟨.bl _, H, I, rfl, q⟩
theorem op_notInT (hu : X.A.units + 65 < cLine) : OpR X (compareOp .NotIn) (rInT X.K true) := by
  intro pins s σ H x y v u Q I rx ry h
  obtain ⟨d, ds, hd, he, sd, se, q⟩ := h
  obtain ⟨as, r1⟩ := Dp.reads I d x v hd rx
  obtain ⟨bs, r2⟩ := Dp.reads I (.tuple ds) y u he ry
  exact SeqAt.notIn_tuple_reads r2 r1 (SeqAt.canLay_of_shaped se) (SeqAt.canLay_of_shaped sd) (roomT sd hu) ⟨.bl _, H, I, rfl, q⟩
def D.among (d : D) (ds : List D) : Bool := ds.any fun z => D.eqv z d
theorem any_py (d : D) (ds : List D) : ((pyL ds).any fun z => PyData.eqv z d.py) = d.among ds := by
  rw [pyL_map, List.any_map]; rfl
def oIn (neg : Bool) : Reg → D → D → (Res → Prop) → Prop := fun _ d e k => match e with
  | .lst ds => d.sh = true ∧ (D.lst ds).sh = true ∧ k (.val (.bl (if neg then !d.among ds else d.among ds)))
  | .tup ds => d.sh = true ∧ (D.tup ds).sh = true ∧ k (.val (.bl (if neg then !d.among ds else d.among ds)))
  | .str z => ∃ c : Nat, d = .str ⟨#[c]⟩ ∧ k (.val (.bl (if neg then !decide (c ∈ z.cps.toList) else decide (c ∈ z.cps.toList))))
  | _ => False
def rIn3 (K : PySem.W.Frag) : R2 := fun x y H Q => rInD K x y H Q ∨ rInT K false x y H Q ∨ ∃ (c : Nat) (z : Str), x = .str ⟨#[c]⟩ ∧ y = .str z ∧ Q (.bl (decide (c ∈ z.cps.toList))) H
def rNotIn3 (K : PySem.W.Frag) : R2 := fun x y H Q => rNotInD K x y H Q ∨ rInT K true x y H Q ∨ ∃ (c : Nat) (z : Str), x = .str ⟨#[c]⟩ ∧ y = .str z ∧ Q (.bl (!decide (c ∈ z.cps.toList))) H
theorem op_in3 (hu : X.A.units + 65 < cLine) : OpR X (compareOp .In) (rIn3 X.K) := (op_inD hu).or ((op_inT hu).or op_in_sign)
theorem op_notIn3 (hu : X.A.units + 65 < cLine) : OpR X (compareOp .NotIn) (rNotIn3 X.K) := (op_notInD hu).or ((op_notInT hu).or op_notIn_sign)
theorem r_in3 : ROp X B (rIn3 X.K) (oIn false) := by
  intro pn F H σ E G x y d e k Q S rx ry h hk
  unfold oIn at h
  split at h
  · obtain ⟨h1, h2, h⟩ := h
    obtain ⟨a1, a2⟩ := sh_H S.w.sub h1 rx
    obtain ⟨b1, b2⟩ := sh_H S.w.sub h2 ry
    refine .inl ⟨_, _, a1, b1, a2, b2, ?_⟩
    rw [any_py]
    exact hk _ h _ F H S (Same.refl F) (.bl _)
  · obtain ⟨h1, h2, h⟩ := h
    obtain ⟨a1, a2⟩ := sh_H S.w.sub h1 rx
    obtain ⟨b1, b2⟩ := sh_H S.w.sub h2 ry
    refine .inr (.inl ⟨_, _, a1, b1, a2, b2, ?_⟩)
    rw [any_py]
    exact hk _ h _ F H S (Same.refl F) (.bl _)
  · obtain ⟨c, rfl, h⟩ := h
    exact .inr (.inr ⟨c, _, rx.str, ry.str, hk _ h _ F H S (Same.refl F) (.bl _)⟩)
  · exact h.elim
theorem r_notIn3 : ROp X B (rNotIn3 X.K) (oIn true) := by
  intro pn F H σ E G x y d e k Q S rx ry h hk
  unfold oIn at h
  split at h
  · obtain ⟨h1, h2, h⟩ := h
    obtain ⟨a1, a2⟩ := sh_H S.w.sub h1 rx
    obtain ⟨b1, b2⟩ := sh_H S.w.sub h2 ry
    refine .inl ⟨_, _, a1, b1, a2, b2, ?_⟩
    rw [any_py]
    exact hk _ h _ F H S (Same.refl F) (.bl _)
  · obtain ⟨h1, h2, h⟩ := h
    obtain ⟨a1, a2⟩ := sh_H S.w.sub h1 rx
    obtain ⟨b1, b2⟩ := sh_H S.w.sub h2 ry
    refine .inr (.inl ⟨_, _, a1, b1, a2, b2, ?_⟩)
    rw [any_py]
    exact hk _ h _ F H S (Same.refl F) (.bl _)
  · obtain ⟨c, rfl, h⟩ := h
    exact .inr (.inr ⟨c, _, rx.str, ry.str, hk _ h _ F H S (Same.refl F) (.bl _)⟩)
  · exact h.elim
def D.isN : D → Bool
  | .non => true
  | _ => false
def oIs (neg : Bool) : Reg → D → D → (Res → Prop) → Prop := fun _ d e k => e.isN = true ∧ k (.val (.bl (if neg then !d.isN else d.isN)))
theorem isN_dec {K : PySem.W.Frag} {F H : Hp} {d : D} {v : V} (r : RepH K F H d v) : decide (v = .non) = d.isN := by
  rcases r with r | ⟨a, xs, ds, rfl, rfl, _⟩
  · cases r <;> first | rfl | exact decide_eq_false (fun q => nomatch q)
  · exact decide_eq_false (fun q => nomatch q)
theorem isN_eq {d : D} (h : d.isN = true) : d = .non := by
  cases d <;> first | rfl | cases h
theorem r_is3 : ROp X B (fun x y H Q => y = .non ∧ Q (.bl (decide (x = .non))) H) (oIs false) := by
  intro pn F H σ E G x y d e k Q S rx ry ⟨h1, h⟩ hk
  rw [isN_eq h1] at ry
  refine ⟨ry.non, ?_⟩
  rw [isN_dec rx]
  exact hk _ h _ F H S (Same.refl F) (.bl _)
theorem r_isNot3 : ROp X B (fun x y H Q => y = .non ∧ Q (.bl (!decide (x = .non))) H) (oIs true) := by
  intro pn F H σ E G x y d e k Q S rx ry ⟨h1, h⟩ hk
  rw [isN_eq h1] at ry
  refine ⟨ry.non, ?_⟩
  rw [isN_dec rx]
  exact hk _ h _ F H S (Same.refl F) (.bl _)

/-! ### -x -/
def uNeg : D → (Res → Prop) → Prop := fun d k => match d with
  | .int i => k (.val (.int (-i)))
  | _ => False
theorem le_neg {a : Expr} {ta : DE} {pos} (ha : LE X B a ta) : LE X B (.UnaryOp .USub a pos) (dUn uNeg ta) := le_un un_neg (fun pn F H σ E G x d k Q S rx h hk => by
  unfold uNeg at h
  split at h
  · exact ⟨_, rx.int, hk _ h _ F H S (Same.refl F) (.int _)⟩
  · exact h.elim) ha

/-! ### a[i] -/
def oIx : Reg → D → D → (Res → Prop) → Prop := fun G d e k => match d, e with
  | .lst ds, .int i => ∃ v, atI ds i = some v ∧ k (.val v)
  | .tup ds, .int i => ∃ v, atI ds i = some v ∧ k (.val v)
  | .str z, .int i => z.length ≤ sizeLine ∧ ∃ c, atI z.cps.toList i = some c ∧ k (.val (.str ⟨#[c]⟩))
  | .scr ns, .int i => ∃ v, atI ns i = some v ∧ k (.val (.int v))
  | .ref a, .int i => ∃ ds, G.lookup a = some ds ∧ ∃ v, atI ds i = some v ∧ k (.val v)
  | _, _ => False
theorem lookup_mem {G : Reg} {a : Addr} {ds : List D} (h : G.lookup a = some ds) : (a, ds) ∈ G := by
  induction G with
  | nil => cases h
  | cons p r ih =>
    rw [List.lookup_cons] at h
    split at h
    · rename_i q
      have e : a = p.1 := by simpa using q
      cases h
      rw [e]
      exact List.mem_cons_self
    · exact List.mem_cons_of_mem _ (ih h)
theorem at_rep {K : PySem.W.Frag} {F : Hp} {ds : List D} {vs : List V} {i : Int} {d : D} (r : RepL K F ds vs) (h : atI ds i = some d) : ∃ v, atI vs i = some v ∧ Rep K F d v := by
  unfold atI at h ⊢
  rw [← r.length]
  cases q : ixN ds.length i with
  | none => rw [q] at h; cases h
  | some j =>
    rw [q] at h
    exact r.get (by simpa using h)
theorem r_ix3 : ROp X B (rIx X.K) oIx := by
  intro pn F H σ E G x y d e k Q S rx ry h hk
  unfold oIx at h
  split at h
  · obtain ⟨v, hv, h⟩ := h
    obtain ⟨p, xs, rfl, hs, ra⟩ := rx.lst S.w.sub
    obtain ⟨u, hu, ru⟩ := at_rep ra hv
    exact .inl ⟨p, xs, _, u, rfl, ry.int, .inl hs, hu, hk _ h _ F H S (Same.refl F) ru⟩
  · obtain ⟨v, hv, h⟩ := h
    obtain ⟨p, xs, rfl, hs, ra⟩ := rx.tup S.w.sub
    obtain ⟨u, hu, ru⟩ := at_rep ra hv
    exact .inr (.inl ⟨p, xs, _, u, rfl, ry.int, hs, hu, hk _ h _ F H S (Same.refl F) ru⟩)
  · obtain ⟨hz, c, hc, h⟩ := h
    exact .inr (.inr ⟨_, _, c, rx.str, ry.int, hz, hc, hk _ h _ F H S (Same.refl F) (.str _)⟩)
  · rename_i ns i
    obtain ⟨v, hv, h⟩ := h
    cases rx.val (fun _ q => nomatch q) with
    | scr hs =>
      have hv' : atI (ns.map V.int) i = some (.int v) := by
        unfold atI at hv ⊢
        rw [List.length_map]
        cases q : ixN ns.length i with
        | none => rw [q] at hv; cases hv
        | some j =>
          rw [q] at hv
          have hv2 : ns[j]? = some v := by simpa using hv
          simp [hv2]
      exact .inl ⟨_, _, _, _, rfl, ry.int, S.w.sub.seq hs, hv', hk _ h _ F H S (Same.refl F) (.int _)⟩
  · obtain ⟨ds, hl, v, hv, h⟩ := h
    obtain ⟨_, xs, hs, ra⟩ := S.w.reg _ ds (lookup_mem hl)
    obtain ⟨u, hu, ru⟩ := at_rep ra hv
    cases rx.val (fun _ q => nomatch q)
    exact .inl ⟨_, xs, _, u, rfl, ry.int, SqL.of hs, hu, hk _ h _ F H S (Same.refl F) ru⟩
  · exact h.elim
theorem le_item {a b : Expr} {ta tb : DE} {pos} (ha : LE X B a ta) (hb : LE X B b tb) (hs : PlainIx b := by exact fun _ _ => rfl) : LE X B (.Subscript a b pos) (dOp oIx ta tb) := le_ix ix_seq r_ix3 ha hb hs

/-! ### a[lo:hi] -/
def cutD (ds : List D) (lo hi : Option Int) : List D := (ds.drop (HT.sIx ds.length 0 lo)).take (HT.sIx ds.length ds.length hi - HT.sIx ds.length 0 lo)
def oSl : D → Option Int → Option Int → (Res → Prop) → Prop := fun d lo hi k => match d with
  | .lst ds => k (.fr (cutD ds lo hi))
  | .tup ds => k (.val (.tup (cutD ds lo hi)))
  | _ => False
def rSl3 (K : PySem.W.Frag) : V → Option Int → Option Int → Hp → VK → Prop := fun x lo hi H Q => rSlA K x lo hi H Q ∨ rSlL K x lo hi H Q
theorem sl_3 : SlR X (rSl3 X.K) := sl_tupA.or sl_list
theorem r_sl3 : RSl3 X B (rSl3 X.K) oSl := by
  intro pn F H σ E G x d lo hi k Q S rx h hk
  unfold oSl at h
  split at h
  · rename_i ds
    obtain ⟨p, xs, rfl, hs, ra⟩ := rx.lst S.w.sub
    refine .inr ⟨p, xs, rfl, .inl hs, fun q nq => ?_⟩
    have rr : RepL X.K F (cutD ds lo hi) (cutV xs lo hi) := by
      unfold cutD cutV
      rw [ra.length]
      exact (ra.drop _).take _
    obtain ⟨f, no⟩ := S.newFre nq rr
    exact hk _ h _ _ _ (S.newU nq) (Same.refl F) ⟨q, rfl, f, no⟩
  · rename_i ds
    obtain ⟨p, xs, rfl, hs, ra⟩ := rx.tup S.w.sub
    have rx' := rx.val (fun _ q => nomatch q)
    have rr : RepL X.K F (cutD ds lo hi) (cutV xs lo hi) := by
      unfold cutD cutV
      rw [ra.length]
      exact (ra.drop _).take _
    refine .inl ⟨p, xs, rfl, hs, fun hw => ?_, fun _ q nq => ?_⟩
    · have e : cutD ds lo hi = ds := by
        unfold cutD
        rw [← ra.length] at hw
        rw [hw.1, hw.2, List.drop_zero, Nat.sub_zero, List.take_length]
      rw [e] at h
      exact hk _ h _ F H S (Same.refl F) rx'
    · obtain ⟨S2, s2⟩ := S.newF nq
      exact hk _ h _ _ _ S2 s2 (.tup (SqT.of upd_same) (RepL.mono s2 _ _ rr))
  · exact h.elim
theorem le_cut {e : Expr} {lo hi : Option Expr} {te : DE} {tl th : DO} {p2 pos : Pos} (he : LE X B e te) (hl : LO X B lo tl) (hh : LO X B hi th) : LE X B (.Subscript e (.Slice lo hi none p2) pos) (dSl oSl te tl th) := le_slice sl_3 r_sl3 he hl hh
end
end L3

set_option Elab.async false
set_option maxRecDepth 100000
set_option maxHeartbeats 4000000
/-! L3, part h: built-ins over plain values; lists changed by their owner; the dice. -/
namespace L3
open PySem PySem.Spec PyProof.Rows L2
section
variable {X : Cx} {B : Base3}
theorem hl1 {K : PySem.W.Frag} {F H : Hp} {d : D} {vs : List V} (r : RepHL K F H [d] vs) : ∃ v, vs = [v] ∧ RepH K F H d v := by
  cases r with
  | cons a b => cases b; exact ⟨_, rfl, a⟩
theorem hl2 {K : PySem.W.Frag} {F H : Hp} {d e : D} {vs : List V} (r : RepHL K F H [d, e] vs) : ∃ v u, vs = [v, u] ∧ RepH K F H d v ∧ RepH K F H e u := by
  cases r with
  | cons a b =>
    obtain ⟨u, rfl, h⟩ := hl1 b
    exact ⟨_, u, rfl, a, h⟩

/-! ### len -/
def bLen : Reg → List D → (Res → Prop) → Prop := fun _ ds k => match ds with
  | [.lst xs] => k (.val (.int xs.length))
  | [.tup xs] => k (.val (.int xs.length))
  | [.str z] => z.length ≤ sizeLine ∧ k (.val (.int z.length))
  | [.scr ns] => k (.val (.int ns.length))
  | _ => False
def rLen3 (K : PySem.W.Frag) : List V → Hp → VK → Prop := fun xs H Q => (∃ p ys, xs = [.ref p] ∧ (SqL K H p ys ∨ SqT K H p ys) ∧ Q (.int ys.length) H) ∨ ∃ z, xs = [.str z] ∧ z.length ≤ sizeLine ∧ Q (.int z.length) H
theorem call_len3 : CallR X (.builtin "len") (rLen3 X.K) := call_len_seq.or call_len_str
theorem r_len3 : RCall X B (rLen3 X.K) bLen := by
  intro pn F H σ E G vs ds k Q S r h hk
  unfold bLen at h
  split at h
  · obtain ⟨v, rfl, rx⟩ := hl1 r
    obtain ⟨p, xs, rfl, hs, ra⟩ := rx.lst S.w.sub
    refine .inl ⟨p, xs, rfl, .inl (.inl hs), ?_⟩
    rw [← ra.length]
    exact hk _ h _ F H S (Same.refl F) (.int _)
  · obtain ⟨v, rfl, rx⟩ := hl1 r
    obtain ⟨p, xs, rfl, hs, ra⟩ := rx.tup S.w.sub
    refine .inl ⟨p, xs, rfl, .inr hs, ?_⟩
    rw [← ra.length]
    exact hk _ h _ F H S (Same.refl F) (.int _)
  · obtain ⟨v, rfl, rx⟩ := hl1 r
    rw [rx.str]
    exact .inr ⟨_, rfl, h.1, hk _ h.2 _ F H S (Same.refl F) (.int _)⟩
  · obtain ⟨v, rfl, rx⟩ := hl1 r
    cases rx.val (fun _ q => nomatch q) with
    | scr hs =>
      refine .inl ⟨_, _, rfl, .inl (S.w.sub.seq hs), ?_⟩
      rw [List.length_map]
      exact hk _ h _ F H S (Same.refl F) (.int _)
  · exact h.elim
theorem le_len {e : Expr} {ta : DA} {p pos : Pos} (hg : Gl X "len") (hm : X.mg "len" = none) (ha : LP X B [e] ta) (he : starEach [e] X.env = (false, eval e X.env) :: starEach [] X.env := by rfl) (hpl : (backTo pos (starEach [] X.env)).any (·.1) = false := by rfl) :
    LE X B (.Call (.Name "len" p) [e] [] pos) (dCB bLen ta) := le_callB call_len3 r_len3 hg hm PySem.boot_len ha (by decide) (by decide) he hpl

/-! ### of one int, of two -/
def bInt1 (g : Int → Int) : Reg → List D → (Res → Prop) → Prop := fun _ ds k => match ds with
  | [.int i] => k (.val (.int (g i)))
  | _ => False
def bAbs := bInt1 fun i => if i < 0 then -i else i
theorem le_abs {e : Expr} {ta : DA} {p pos : Pos} (hg : Gl X "abs") (hm : X.mg "abs" = none) (ha : LP X B [e] ta) (he : starEach [e] X.env = (false, eval e X.env) :: starEach [] X.env := by rfl) (hpl : (backTo pos (starEach [] X.env)).any (·.1) = false := by rfl) :
    LE X B (.Call (.Name "abs" p) [e] [] pos) (dCB bAbs ta) := le_callB call_abs (fun pn F H σ E G vs ds k Q S r h hk => by
  unfold bAbs bInt1 at h
  split at h
  · obtain ⟨v, rfl, rx⟩ := hl1 r
    rw [rx.int]
    exact ⟨_, rfl, hk _ h _ F H S (Same.refl F) (.int _)⟩
  · exact h.elim) hg hm (by decide +kernel) ha (by decide) (by decide) he hpl
def bIntOf : Reg → List D → (Res → Prop) → Prop := fun _ ds k => match ds with
  | [.int i] => k (.val (.int i))
  | [.bl b] => k (.val (.int (if b then 1 else 0)))
  | _ => False
theorem le_intOf {e : Expr} {ta : DA} {p pos : Pos} (hg : Gl X "int") (hm : X.mg "int" = none) (ha : LP X B [e] ta) (he : starEach [e] X.env = (false, eval e X.env) :: starEach [] X.env := by rfl) (hpl : (backTo pos (starEach [] X.env)).any (·.1) = false := by rfl) :
    LE X B (.Call (.Name "int" p) [e] [] pos) (dCB bIntOf ta) := le_callTy call_int1 (fun pn F H σ E G vs ds k Q S r h hk => by
  unfold bIntOf at h
  split at h
  · obtain ⟨v, rfl, rx⟩ := hl1 r
    rw [rx.int]
    exact .inl ⟨_, rfl, hk _ h _ F H S (Same.refl F) (.int _)⟩
  · obtain ⟨v, rfl, rx⟩ := hl1 r
    rw [rx.bl]
    exact .inr ⟨_, rfl, hk _ h _ F H S (Same.refl F) (.int _)⟩
  · exact h.elim) hg hm (by decide +kernel) ha (by decide) (by decide) he hpl
def bInt2 (g : Int → Int → Int) : Reg → List D → (Res → Prop) → Prop := fun _ ds k => match ds with
  | [.int i, .int j] => k (.val (.int (g i j)))
  | _ => False
def bMax := bInt2 fun i j => if j > i then j else i
def bMin := bInt2 fun i j => if j < i then j else i
theorem le_max2 {e e2 : Expr} {ta : DA} {p pos : Pos} (hc : X.calm = true) (hg : Gl X "max") (hm : X.mg "max" = none) (ha : LP X B [e, e2] ta) (he : starEach [e, e2] X.env = (false, eval e X.env) :: starEach [e2] X.env := by rfl) (hpl : (backTo pos (starEach [e2] X.env)).any (·.1) = false := by rfl) :
    LE X B (.Call (.Name "max" p) [e, e2] [] pos) (dCB bMax ta) := le_callB (call_max2 hc) (fun pn F H σ E G vs ds k Q S r h hk => by
  unfold bMax bInt2 at h
  split at h
  · obtain ⟨v, u, rfl, rx, ry⟩ := hl2 r
    rw [rx.int, ry.int]
    exact ⟨_, _, rfl, hk _ h _ F H S (Same.refl F) (.int _)⟩
  · exact h.elim) hg hm (by decide +kernel) ha (by decide) (by decide) he hpl
theorem le_min2 {e e2 : Expr} {ta : DA} {p pos : Pos} (hc : X.calm = true) (hg : Gl X "min") (hm : X.mg "min" = none) (ha : LP X B [e, e2] ta) (he : starEach [e, e2] X.env = (false, eval e X.env) :: starEach [e2] X.env := by rfl) (hpl : (backTo pos (starEach [e2] X.env)).any (·.1) = false := by rfl) :
    LE X B (.Call (.Name "min" p) [e, e2] [] pos) (dCB bMin ta) := le_callB (call_min2 hc) (fun pn F H σ E G vs ds k Q S r h hk => by
  unfold bMin bInt2 at h
  split at h
  · obtain ⟨v, u, rfl, rx, ry⟩ := hl2 r
    rw [rx.int, ry.int]
    exact ⟨_, _, rfl, hk _ h _ F H S (Same.refl F) (.int _)⟩
  · exact h.elim) hg hm (by decide +kernel) ha (by decide) (by decide) he hpl

/-! ### list, tuple, all, any, sum -/
def bList : Reg → List D → (Res → Prop) → Prop := fun _ ds k => match ds with
  | [.lst xs] => k (.fr xs)
  | [.tup xs] => k (.fr xs)
  | _ => False
theorem le_list {e : Expr} {ta : DA} {p pos : Pos} (hg : Gl X "list") (hm : X.mg "list" = none) (ha : LP X B [e] ta) (he : starEach [e] X.env = (false, eval e X.env) :: starEach [] X.env := by rfl) (hpl : (backTo pos (starEach [] X.env)).any (·.1) = false := by rfl) :
    LE X B (.Call (.Name "list" p) [e] [] pos) (dCB bList ta) := le_callTy call_list_of (fun pn F H σ E G vs ds k Q S r h hk => by
  unfold bList at h
  split at h
  · obtain ⟨v, rfl, rx⟩ := hl1 r
    obtain ⟨p, xs, rfl, hs, ra⟩ := rx.lst S.w.sub
    refine ⟨p, xs, rfl, .inl (.inl hs), fun l nl => ?_⟩
    obtain ⟨f, no⟩ := S.newFre nl ra
    exact hk _ h _ _ _ (S.newU nl) (Same.refl F) ⟨l, rfl, f, no⟩
  · obtain ⟨v, rfl, rx⟩ := hl1 r
    obtain ⟨p, xs, rfl, hs, ra⟩ := rx.tup S.w.sub
    refine ⟨p, xs, rfl, .inr hs, fun l nl => ?_⟩
    obtain ⟨f, no⟩ := S.newFre nl ra
    exact hk _ h _ _ _ (S.newU nl) (Same.refl F) ⟨l, rfl, f, no⟩
  · exact h.elim) hg hm (by decide +kernel) ha (by decide) (by decide) he hpl
def bTuple : Reg → List D → (Res → Prop) → Prop := fun _ ds k => match ds with
  | [.lst xs] => k (.val (.tup xs))
  | [.tup xs] => k (.val (.tup xs))
  | _ => False
theorem le_tuple {e : Expr} {ta : DA} {p pos : Pos} (hg : Gl X "tuple") (hm : X.mg "tuple" = none) (ha : LP X B [e] ta) (he : starEach [e] X.env = (false, eval e X.env) :: starEach [] X.env := by rfl) (hpl : (backTo pos (starEach [] X.env)).any (·.1) = false := by rfl) :
    LE X B (.Call (.Name "tuple" p) [e] [] pos) (dCB bTuple ta) := le_callTy call_tuple_of (fun pn F H σ E G vs ds k Q S r h hk => by
  unfold bTuple at h
  split at h
  · obtain ⟨v, rfl, rx⟩ := hl1 r
    obtain ⟨p, xs, rfl, hs, ra⟩ := rx.lst S.w.sub
    refine ⟨p, xs, rfl, .inl ⟨.inl hs, fun l nl => ?_⟩⟩
    obtain ⟨S2, s2⟩ := S.newF (o := .tup xs) nl
    exact hk _ h _ _ _ S2 s2 (.tup (SqT.of upd_same) (RepL.mono s2 _ _ ra))
  · obtain ⟨v, rfl, rx⟩ := hl1 r
    have rx' := rx.val (fun _ q => nomatch q)
    obtain ⟨p, xs, rfl, hs, ra⟩ := rx.tup S.w.sub
    exact ⟨p, xs, rfl, .inr ⟨hs, hk _ h _ F H S (Same.refl F) rx'⟩⟩
  · exact h.elim) hg hm (by decide +kernel) ha (by decide) (by decide) he hpl
/-- the truth values of a list -/
def blsOf : List D → Option (List Bool)
  | [] => some []
  | .bl b :: r => (blsOf r).map (b :: ·)
  | _ :: _ => none
theorem blsOf_eq : ∀ {ds : List D} {bs : List Bool}, blsOf ds = some bs → ds = bs.map D.bl
  | [], _, h => by cases h; rfl
  | .bl b :: r, _, h => by
    cases q : blsOf r with
    | none => rw [blsOf, q] at h; cases h
    | some cs => rw [blsOf, q] at h; cases h; rw [blsOf_eq q]; rfl
  | .non :: _, _, h => by cases h
  | .int _ :: _, _, h => by cases h
  | .str _ :: _, _, h => by cases h
  | .ref _ :: _, _, h => by cases h
  | .ty _ :: _, _, h => by cases h
  | .tup _ :: _, _, h => by cases h
  | .lst _ :: _, _, h => by cases h
  | .scr _ :: _, _, h => by cases h
theorem blsOf_map : ∀ bs : List Bool, blsOf (bs.map D.bl) = some bs
  | [] => rfl
  | b :: r => by rw [List.map_cons, blsOf, blsOf_map r]; rfl
def intsOf : List D → Option (List Int)
  | [] => some []
  | .int b :: r => (intsOf r).map (b :: ·)
  | _ :: _ => none
theorem intsOf_eq : ∀ {ds : List D} {bs : List Int}, intsOf ds = some bs → ds = bs.map D.int
  | [], _, h => by cases h; rfl
  | .int b :: r, _, h => by
    cases q : intsOf r with
    | none => rw [intsOf, q] at h; cases h
    | some cs => rw [intsOf, q] at h; cases h; rw [intsOf_eq q]; rfl
  | .non :: _, _, h => by cases h
  | .bl _ :: _, _, h => by cases h
  | .str _ :: _, _, h => by cases h
  | .ref _ :: _, _, h => by cases h
  | .ty _ :: _, _, h => by cases h
  | .tup _ :: _, _, h => by cases h
  | .lst _ :: _, _, h => by cases h
  | .scr _ :: _, _, h => by cases h
theorem intsOf_map : ∀ bs : List Int, intsOf (bs.map D.int) = some bs
  | [] => rfl
  | b :: r => by rw [List.map_cons, intsOf, intsOf_map r]; rfl
def bBool (g : List Bool → Bool) : Reg → List D → (Res → Prop) → Prop := fun _ ds k => match ds with
  | [.lst xs] => ∃ bs, blsOf xs = some bs ∧ k (.val (.bl (g bs)))
  | _ => False
theorem r_bool {g : List Bool → Bool} : RCall X B (fun vs H Q => ∃ (a : Addr) (bs : List Bool), vs = [V.ref a] ∧ SqL X.K H a (bs.map V.bl) ∧ Q (.bl (g bs)) H) (bBool g) := by
  intro pn F H σ E G vs ds k Q S r h hk
  unfold bBool at h
  split at h
  · obtain ⟨bs, e, h⟩ := h
    obtain ⟨v, rfl, rx⟩ := hl1 r
    obtain ⟨p, xs, rfl, hs, ra⟩ := rx.lst S.w.sub
    rw [blsOf_eq e] at ra
    rw [ra.bls_of] at hs
    exact ⟨p, bs, rfl, .inl hs, hk _ h _ F H S (Same.refl F) (.bl _)⟩
  · exact h.elim
def bAll := bBool fun bs => bs.all id
def bAny := bBool fun bs => bs.any id
theorem le_all {e : Expr} {ta : DA} {p pos : Pos} (hc : X.calm = true) (hg : Gl X "all") (hm : X.mg "all" = none) (ha : LP X B [e] ta) (he : starEach [e] X.env = (false, eval e X.env) :: starEach [] X.env := by rfl) (hpl : (backTo pos (starEach [] X.env)).any (·.1) = false := by rfl) :
    LE X B (.Call (.Name "all" p) [e] [] pos) (dCB bAll ta) := le_callB (cr_all hc) r_bool hg hm (by decide +kernel) ha (by decide) (by decide) he hpl
theorem le_any {e : Expr} {ta : DA} {p pos : Pos} (hc : X.calm = true) (hg : Gl X "any") (hm : X.mg "any" = none) (ha : LP X B [e] ta) (he : starEach [e] X.env = (false, eval e X.env) :: starEach [] X.env := by rfl) (hpl : (backTo pos (starEach [] X.env)).any (·.1) = false := by rfl) :
    LE X B (.Call (.Name "any" p) [e] [] pos) (dCB bAny ta) := le_callB (cr_any hc) r_bool hg hm (by decide +kernel) ha (by decide) (by decide) he hpl
def bSum : Reg → List D → (Res → Prop) → Prop := fun _ ds k => match ds with
  | [.lst xs] => ∃ bs, intsOf xs = some bs ∧ k (.val (.int bs.sum))
  | _ => False
theorem le_sum {e : Expr} {ta : DA} {p pos : Pos} (hc : X.calm = true) (hg : Gl X "sum") (hm : X.mg "sum" = none) (ha : LP X B [e] ta) (he : starEach [e] X.env = (false, eval e X.env) :: starEach [] X.env := by rfl) (hpl : (backTo pos (starEach [] X.env)).any (·.1) = false := by rfl) :
    LE X B (.Call (.Name "sum" p) [e] [] pos) (dCB bSum ta) := le_callB (cr_sum hc) (fun pn F H σ E G vs ds k Q S r h hk => by
  unfold bSum at h
  split at h
  · obtain ⟨bs, e, h⟩ := h
    obtain ⟨v, rfl, rx⟩ := hl1 r
    obtain ⟨p, xs, rfl, hs, ra⟩ := rx.lst S.w.sub
    rw [intsOf_eq e] at ra
    rw [ra.ints_of] at hs
    exact ⟨p, bs, rfl, .inl hs, hk _ h _ F H S (Same.refl F) (.int _)⟩
  · exact h.elim) hg hm (by decide +kernel) ha (by decide) (by decide) he hpl

/-! ### isinstance of a built-in class -/
def tyN : D → Option String
  | .non => some "NoneType"
  | .bl _ => some "bool"
  | .int _ => some "int"
  | .str _ => some "str"
  | .tup _ => some "tuple"
  | .lst _ => some "list"
  | _ => none
def isT (t n : String) : Bool := t == n || (t == "bool" && n == "int")
def knownT : List String := ["int", "bool", "str", "tuple", "list", "dict"]
theorem kit_known : ∀ t ∈ ["NoneType", "bool", "int", "str", "tuple", "list"], ∀ n ∈ knownT, kitB t n = some (isT t n) := by decide +kernel
def bIsi : Reg → List D → (Res → Prop) → Prop := fun _ ds k => match ds with
  | [d, .ty n] => ∃ t, tyN d = some t ∧ n ∈ knownT ∧ k (.val (.bl (isT t n)))
  | _ => False
theorem tyX_of {K : PySem.W.Frag} {F H : Hp} {d : D} {v : V} {t : String} (s : Same F H) (r : RepH K F H d v) (h : tyN d = some t) : TyX K H v (.type t) := by
  rcases r with r | ⟨a, xs, ds, rfl, rfl, h1, _⟩
  · cases r with
    | non => cases h; exact .base .non
    | bl b => cases h; exact .base (.bl b)
    | int b => cases h; exact .base (.int b)
    | str b => cases h; exact .base (.str b)
    | ref a => cases h
    | ty a => cases h
    | scr a => cases h
    | obj _ _ _ _ => cases h
    | cls _ => cases h
    | dcK _ _ _ => cases h
    | dcT _ _ _ => cases h
    | tup hs ha =>
      cases h
      rcases sameT s hs with (hs | ⟨o, hs⟩) | ⟨o, its, n, hk, hc, _⟩
      · exact .base (.tup hs)
      · exact .fTuple hs
      · exact .kTuple hk hc
    | lst hs ha =>
      cases h
      rcases sameR s hs with hs | ⟨o, hs⟩
      · exact .base (.lst hs)
      · exact .base (.frz hs)
  · cases h; exact .base (.lst h1)
theorem tyN_mem {d : D} {t : String} (h : tyN d = some t) : t ∈ ["NoneType", "bool", "int", "str", "tuple", "list"] := by
  cases d <;> cases h <;> decide
theorem le_isi {e e2 : Expr} {ta : DA} {p pos : Pos} (hg : Gl X "isinstance") (hm : X.mg "isinstance" = none) (ha : LP X B [e, e2] ta) (he : starEach [e, e2] X.env = (false, eval e X.env) :: starEach [e2] X.env := by rfl) (hpl : (backTo pos (starEach [e2] X.env)).any (·.1) = false := by rfl) :
    LE X B (.Call (.Name "isinstance" p) [e, e2] [] pos) (dCB bIsi ta) := le_callB call_isi (fun pn F H σ E G vs ds k Q S r h hk => by
  unfold bIsi at h
  split at h
  · obtain ⟨t, ht, hn, h⟩ := h
    obtain ⟨v, u, rfl, rx, ry⟩ := hl2 r
    cases ry.val (fun _ q => nomatch q)
    exact ⟨v, _, .type t, .type _, _, rfl, .ty _, tyX_of S.w.sub rx ht, kit_ty (kit_known t (tyN_mem ht) _ hn), hk _ h _ F H S (Same.refl F) (.bl _)⟩
  · exact h.elim) hg hm (by decide +kernel) ha (by decide) (by decide) he hpl
theorem le_ty {x : Str} {n : String} {pos : Pos} (hg : Gl X x) (hm : X.mg x = none) (hv : bootBuiltins x = some (.type n)) (hn : x ≠ "__name__" := by decide) (hd : (x == ("__debug__" : Str)) = false := by decide) : LE X B (.Name x pos) (dC (.ty n)) :=
  le_c (v := .ty n) (pe_bltn hg hm hv rfl hn hd) fun _ => .ty n
end
end L3

set_option Elab.async false
set_option maxRecDepth 100000
set_option maxHeartbeats 4000000
/-! L3, part i: a[i] = v; a.append(v); a, b = x, y. -/
namespace L3
open PySem PySem.Spec PyProof.Rows L2
section
variable {X : Cx} {B : Base3}
/-- o[i] = v, o a register or an owned list -/
def dStore (te to ti : DE) : DSt := fun D E G => te E G fun v E1 G1 => ∃ d E2, v.ice E1 = some (d, E2) ∧ to E2 G1 fun o E3 G2 => ti E3 G2 fun i E4 G3 => ∃ k, i = .val (.int k) ∧
  match o with
  | .val (.ref a) => ∃ ds, G3.lookup a = some ds ∧ ∃ j, ixN ds.length k = some j ∧ D.nx E4 (regSet G3 a (ds.set j d))
  | .sl s => ∃ ds, E4[s]? = some (Sl3.own ds) ∧ ∃ j, ixN ds.length k = some j ∧ D.nx (E4.set s (Sl3.own (ds.set j d))) G3
  | _ => False
theorem ls_store {o i e : Expr} {to ti te : DE} {pos pos' : Pos} (he : LE X B e te) (ho : LE X B o to) (hi : LE X B i ti)
    (hs : swapsWithSole [.Subscript o i pos'] e pos.line X.env = pure false := by rfl) (hw : swappedStores [.Subscript o i pos'] e X.env = pure none := by rfl)
    (h1 : (assignEach [.Subscript o i pos'] X.env).map (·.2) = [assign (.Subscript o i pos') X.env] := by rfl)
    (ha : ∀ v, assign (.Subscript o i pos') X.env v = (do
      let ov ← holding [v] (eval o X.env)
      let iv ← holding [v, ov] (eval i X.env)
      standAt pos'
      holding [v, ov, iv] (setItem ov iv v)
      release [v, ov, iv] []) := by intro _; rfl) : LS X B (.Assign [.Subscript o i pos'] e pos) (dStore te to ti) :=
  ⟨ps_imp (ps_asg he.pe (pg_sub ho.pe hi.pe set_list ha) hs hw h1) fun D σ H ⟨pn, F, E, G, D3, S, h, ok⟩ => ⟨pn, F, E, G, _, S, h, fun r E1 G1 ⟨d, E2, hd, h1⟩ v F1 H1 S1 s1 r1 => by
    obtain ⟨F1', S1', s1', r1'⟩ := S1.ice r1 hd
    refine ⟨pn, F1', E2, G1, _, S1', h1, fun ro E3 G2 h2 ov F2 H2 S2 s2 r2 => ?_⟩
    refine ⟨pn, F2, E3, G2, _, S2, h2, fun ri E4 G3 h3 iv F3 H3 S3 s3 r3 => ?_⟩
    obtain ⟨k, e1, h3⟩ := h3
    subst e1
    cases r3
    have rd : Rep X.K F3 d v := Rep.mono (s2.trans s3) _ _ r1'
    have ss : Same F F3 := (s1.trans s1').trans (s2.trans s3)
    cases ro with
    | fr ds => exact h3.elim
    | val z =>
      cases z with
      | ref a =>
        cases r2
        obtain ⟨ds, hl, j, hj, h4⟩ := h3
        have hm := lookup_mem hl
        obtain ⟨_, xs, hx, rx⟩ := S3.w.reg a ds hm
        refine ⟨a, xs, k, j, rfl, rfl, hx, by rw [← rx.length]; exact hj, ?_⟩
        exact ok.nx _ _ h4 σ F3 _ (S3.regWrite hm (rx.set j rd)) ss
      | _ => exact h3.elim
    | sl s =>
      obtain ⟨ds, hl, j, hj, h4⟩ := h3
      obtain ⟨a, ha', f⟩ := S3.own s ds hl
      have r2' : σ[s]? = some (some ov) := r2
      rw [r2'] at ha'
      cases ha'
      obtain ⟨xs, hx, rx⟩ := f.ex
      refine ⟨a, xs, k, j, rfl, rfl, hx, by rw [← rx.length]; exact hj, ?_⟩
      exact ok.nx _ _ h4 σ F3 _ (S3.ownWrite hl r2' (rx.set j rd)) ss⟩⟩
/-- a.append(e), a a name whose list it owns -/
def dApp (i : Nat) (te : DE) : DE := fun E G k => (∃ ds, E[i]? = some (Sl3.own ds)) ∧ te E G fun r E1 G1 => ∃ d E2, r.ice E1 = some (d, E2) ∧ ∃ ds, E2[i]? = some (Sl3.own ds) ∧ ds.length < sizeLine ∧ k (.val .non) (E2.set i (Sl3.own (ds ++ [d]))) G1
theorem le_append {i : Nat} {o e : Expr} {te : DE} {apos cpos : Pos} (ho : PE X o (tVar i)) (he : LE X B e te)
    (hbase : attributeBase o "append" X.env (eval o X.env) = eval o X.env := by rfl)
    (hfew : ((backTo cpos (starEach (e :: []) X.env)).all (fun x => !x.1) && (backToKw cpos (keywordEach [] X.env)).all (fun x => x.1.isSome)
      && decide ((e :: []).length + ([] : List Keyword).length + (if ([] : List Keyword).isEmpty then 0 else 1) < 30)) = true := by rfl)
    (hline : (apos.endLine == cpos.line) = true := by rfl) (hs : starEach (e :: []) X.env = (false, eval e X.env) :: starEach [] X.env := by rfl) (hplain : (backTo cpos (starEach [] X.env)).any (·.1) = false := by rfl) :
    LE X B (.Call (.Attribute o "append" apos) [e] [] cpos) (dApp i te) :=
  ⟨pe_imp (pe_bm PySem.F.plainAttrs_list PySem.F.slot_list_append PySem.F.type_list_append mt_append ho (pa_cons he.pe pa_nil hs) hbase hfew hline hs hplain) fun σ H Q ⟨pn, F, E, G, k, S, ⟨⟨ds0, h0⟩, h⟩, hk⟩ => by
    obtain ⟨a, ha, f⟩ := S.own i ds0 h0
    obtain ⟨xs0, hx0, _⟩ := f.ex
    refine ⟨_, ha, .inl ⟨rfl, xs0, SqL.of hx0⟩, pn, F, E, G, _, S, h, fun r E1 G1 ⟨d, E2, hd, ds, hds, hz, h1⟩ v F1 H1 S1 s1 r1 => ?_⟩
    obtain ⟨F2, S2, s2, r2⟩ := S1.ice r1 hd
    obtain ⟨a', ha', f'⟩ := S2.own i ds hds
    rw [ha] at ha'
    cases ha'
    obtain ⟨xs, hx, rx⟩ := f'.ex
    refine ⟨a, xs, v, rfl, rfl, hx, by rw [← rx.length]; exact hz, ?_⟩
    exact hk _ _ _ h1 _ F2 _ (S2.ownWrite hds ha (rx.append (.cons r2 .nil))) (s1.trans s2) .non⟩

/-! ### a, b = x, y -/
def Res.fin (r : Res) (E : Env3) : Option (Res × Env3) := match r with
  | .val d => some (.val d, E)
  | .fr ds => some (.fr ds, E)
  | .sl i => match E[i]? with
    | some (Sl3.val d) => some (.val d, E)
    | some (Sl3.own ds) => some (.val (.lst ds), E.set i (Sl3.val (.lst ds)))
    | _ => none
theorem St3.finR {K : PySem.W.Frag} {pn : Pend} {F H : Hp} {σ : L2.St} {E E' : Env3} {G : Reg} (S : St3 K B pn F H σ E G) {r r' : Res} {v : V} (hr : RepR K B pn F H σ E G r v) (h : r.fin E = some (r', E')) :
    ∃ F', St3 K B pn F' H σ E' G ∧ Same F F' ∧ ((∃ d, r' = .val d ∧ Rep K F' d v) ∨ ∃ ds a, r' = .fr ds ∧ r = .fr ds ∧ E' = E ∧ F' = F ∧ v = .ref a ∧ Fre K B pn F H G a ds ∧ NoOwn σ E a) := by
  cases r with
  | val d => cases h; exact ⟨F, S, Same.refl F, .inl ⟨d, rfl, hr⟩⟩
  | fr ds =>
    cases h
    obtain ⟨a, rfl, f, no⟩ := hr
    exact ⟨F, S, Same.refl F, .inr ⟨ds, a, rfl, rfl, rfl, rfl, rfl, f, no⟩⟩
  | sl i =>
    have e : (Res.sl i).ice E = (match r' with | .val d => some (d, E') | _ => none) := by
      unfold Res.fin at h
      unfold Res.ice
      dsimp only at h ⊢
      cases q : E[i]? with
      | none => rw [q] at h; cases h
      | some s => rw [q] at h; cases s <;> cases h <;> rfl
    cases r' with
    | val d =>
      obtain ⟨F', S', s', r''⟩ := S.ice (r := .sl i) hr e
      exact ⟨F', S', s', .inl ⟨d, rfl, r''⟩⟩
    | fr ds =>
      unfold Res.fin at h
      dsimp only at h
      split at h <;> cases h
    | sl j =>
      unfold Res.fin at h
      dsimp only at h
      split at h <;> cases h
def dPar (i j : Nat) (ta tb : DE) : DSt := fun D E G => ta E G fun x E1 G1 => ∃ x' E2, x.fin E1 = some (x', E2) ∧ tb E2 G1 fun y E3 G2 => ∃ y' E4, y.fin E3 = some (y', E4) ∧ i < E4.length ∧ j < E4.length ∧
  ∃ E5, x'.put i E4 = some E5 ∧ ∃ E6, y'.put j E5 = some E6 ∧ D.nx E6 G2
theorem fin_len {r r' : Res} {E E' : Env3} (h : r.fin E = some (r', E')) : E'.length = E.length := by
  unfold Res.fin at h
  split at h
  · cases h; rfl
  · cases h; rfl
  · split at h
    · cases h; rfl
    · cases h; rw [List.length_set]
    · cases h
theorem ls_par {i j : Nat} {x y : Str} {a b : Expr} {ta tb : DE} {px py pt pos : Pos} {kt k2 pt2} (hc : X.calm = true) (hN : X.N.Nodup) (hi : X.N[i]? = some x) (hj : X.N[j]? = some y) (hij : i ≠ j)
    (hx : X.env.scope.names.lookup x = some .local) (hy : X.env.scope.names.lookup y = some .local) (ha : LE X B a ta) (hb : LE X B b tb)
    (hw : swappedStores [.Tuple [.Name x px, .Name y py] kt pt] (.Tuple [a, b] k2 pt2) X.env = pure (some [x, y]))
    (hs : swapsWithSole [.Tuple [.Name x px, .Name y py] kt pt] (.Tuple [a, b] k2 pt2) pos.line X.env = pure false := by rfl)
    (hs1 : starEach [a, b] X.env = (false, eval a X.env) :: starEach [b] X.env := by rfl) (hs2 : starEach [b] X.env = (false, eval b X.env) :: starEach [] X.env := by rfl) :
    LS X B (.Assign [.Tuple [.Name x px, .Name y py] kt pt] (.Tuple [a, b] k2 pt2) pos) (dPar i j ta tb) :=
  ⟨ps_imp (ps_par hc hN hi hj hij hx hy (pa_cons ha.pe (pa_cons hb.pe pa_nil hs2) hs1) hw hs) fun D σ H ⟨pn, F, E, G, D3, S, h, ok⟩ => by
    -- the last step: both are stored
    have last : ∀ {x' y' : Res} {v u : V} {E4 : Env3} {G2 : Reg} {F4 H4 : Hp}, St3 X.K B pn F4 H4 σ E4 G2 → Same F F4 →
        ((∃ d, x' = .val d ∧ Rep X.K F4 d v) ∨ ∃ ds a, x' = .fr ds ∧ v = .ref a ∧ Fre X.K B pn F4 H4 G2 a ds ∧ NoOwn σ E4 a) →
        ((∃ d, y' = .val d ∧ Rep X.K F4 d u) ∨ ∃ ds a, y' = .fr ds ∧ u = .ref a ∧ Fre X.K B pn F4 H4 G2 a ds ∧ NoOwn σ E4 a ∧ ((∃ es, x' = .fr es) → u ≠ v)) → i < E4.length → j < E4.length →
        (∃ E5, x'.put i E4 = some E5 ∧ ∃ E6, y'.put j E5 = some E6 ∧ D3.nx E6 G2) → D.nx ((σ.set i (some v)).set j (some u)) H4 := by
      intro x' y' v u E4 G2 F4 H4 S4 s4 hx' hy' hli hlj ⟨E5, e5, E6, e6, hn⟩
      have hli' : i < σ.length := by rw [← S4.len]; exact hli
      have hlj' : j < σ.length := by rw [← S4.len]; exact hlj
      have hlj2 : j < (σ.set i (some v)).length := by rw [List.length_set]; exact hlj'
      have S5 : St3 X.K B pn F4 H4 (σ.set i (some v)) E5 G2 := by
        rcases hx' with ⟨d, rfl, r⟩ | ⟨ds, a, rfl, rfl, f, no⟩
        · cases e5; exact S4.setVal hli' r
        · cases e5; exact S4.setOwn hli' f no
      have S6 : St3 X.K B pn F4 H4 ((σ.set i (some v)).set j (some u)) E6 G2 := by
        rcases hy' with ⟨d, rfl, r⟩ | ⟨ds, a, rfl, rfl, f, no, ne⟩
        · cases e6; exact S5.setVal hlj2 r
        · cases e6
          refine S5.setOwn hlj2 f fun k es hk e => ?_
          rw [setσ_look hli'] at e
          by_cases q : i = k
          · rw [if_pos q] at e
            rcases hx' with ⟨d, rfl, r⟩ | ⟨ds', a', rfl, rfl, f', no'⟩
            · cases e5
              subst q
              rw [List.getElem?_set_self hli] at hk
              cases hk
            · exact ne ⟨_, rfl⟩ (Option.some.inj (Option.some.inj e)).symm
          · rw [if_neg q] at e
            rcases hx' with ⟨d, rfl, r⟩ | ⟨ds', a', rfl, rfl, f', no'⟩
            · cases e5
              rw [List.getElem?_set_ne q] at hk
              exact no k es hk e
            · cases e5
              rw [List.getElem?_set_ne q] at hk
              exact no k es hk e
      exact ok.nx E6 G2 hn _ F4 H4 S6 s4
    refine ⟨pn, F, E, G, _, S, h, fun rx E1 G1 ⟨x', E2, hx', h1⟩ v F1 H1 S1 s1 r1 => ?_⟩
    obtain ⟨F2, S2, s2, hx2⟩ := S1.finR r1 hx'
    rcases hx2 with ⟨d, rfl, r⟩ | ⟨ds, a, rfl, e2, e3, e4, e5, f, no⟩
    · refine ⟨pn, F2, E2, G1, _, S2, h1, fun ry E3 G2 ⟨y', E4, hy', hli, hlj, hn⟩ u F3 H3 S3 s3 r3 => ?_⟩
      obtain ⟨F4, S4, s4, hy4⟩ := S3.finR r3 hy'
      refine ⟨_, _, rfl, last S4 (((s1.trans s2).trans s3).trans s4) (.inl ⟨d, rfl, Rep.mono (s3.trans s4) _ _ r⟩) ?_ hli hlj hn⟩
      rcases hy4 with ⟨d', e1, r⟩ | ⟨es, b', e1, e2, e3, e4, e5, f', no'⟩
      · exact .inl ⟨d', e1, r⟩
      · subst e3 e4 e5
        exact .inr ⟨es, b', e1, rfl, f', no', fun ⟨_, z⟩ => nomatch z⟩
    · subst e3 e4 e5
      obtain ⟨xs, hx1, rxs⟩ := f.ex
      refine ⟨(a, HO.lst xs) :: pn, F2, E2, G1, _, S2.pendOn f.nF f.nB f.nG f.nP hx1 no, h1, fun ry E3 G2 ⟨y', E4, hy', hli, hlj, hn⟩ u F3 H3 S3 s3 r3 => ?_⟩
      obtain ⟨F4, S4, s4, hy4⟩ := S3.finR r3 hy'
      obtain ⟨S5, hF, hB, hG, hP, hH, no4⟩ := S4.pendOff
      refine ⟨_, _, rfl, last S5 ((s1.trans s3).trans s4) (.inr ⟨ds, a, rfl, rfl, ⟨hF, hB, hG, hP, xs, hH, RepL.mono (s3.trans s4) _ _ rxs⟩, no4⟩) ?_ hli hlj hn⟩
      rcases hy4 with ⟨d, e1, r⟩ | ⟨es, b', e1, e2, e3, e4, e5, f', no'⟩
      · exact .inl ⟨d, e1, r⟩
      · subst e3 e4 e5
        refine .inr ⟨es, b', e1, rfl, ⟨f'.nF, f'.nB, f'.nG, fun z => f'.nP (by rw [List.map_cons]; exact List.mem_cons_of_mem _ z), f'.ex⟩, no', fun _ e => f'.nP ?_⟩
        cases e
        rw [List.map_cons]
        exact List.mem_cons_self⟩
end
end L3

set_option Elab.async false
set_option maxRecDepth 100000
set_option maxHeartbeats 4000000
/-! L3, part j: short words for a generated derivation. -/
namespace L3
open PySem PySem.Spec PyProof.Rows L2
/-- a def of the module that keeps a promise over plain values -/
structure Cal3 (P : Program) (w : World) (K : PySem.W.Frag) (mg : Str → Option Value) (base : Heap) (x : Str) (k : Nat) (ps : List Str) (sp : DSp) : Prop where
  ex : ∃ (f : Addr) (fd : FuncData), FnOk P w K mg base (L2.CX P w) k f fd ps (LSp K sp) ∧ mg x = some (.ref f) ∧ PySem.W.keepIn K (.ref f) = true ∧ Binds K fd ps [] ∧ ∃ oc od osl, K.lookup f = some ⟨oc, od, .func fd, osl⟩
/-- what the head tells of a def -/
structure DefAt (K : PySem.W.Frag) (mg : Str → Option Value) (x : Str) (st : Stmt) : Prop where
  ex : ∃ (f : Addr) (oc : Value) (od an : Option Addr) (osl : Array (Option Value)) (kV doc pm cdv ct : Value), mg x = some (.ref f) ∧
    K.lookup f = some ⟨oc, od, .func (PySem.W.fnOf x x (defArgs st) (defBody st) (defScope st) .none kV doc pm an cdv ct), osl⟩ ∧ PySem.W.codeIn K cdv x = true ∧ PySem.W.keepIn K (.ref f) = true
theorem defAt_mk {K : PySem.W.Frag} {h : Heap} {mg : Str → Option Value} {x : Str} {st : Stmt} (X : K.In h) (G : h.Ns mainGlobals mg) {f : Addr} {oc : Value} {od an : Option Addr} {osl : Array (Option Value)} {kV doc pm cdv ct : Value}
    (a : PySem.W.nsIn K mainGlobals x = some (some (.ref f))) (l : K.lookup f = some ⟨oc, od, .func (PySem.W.fnOf x x (defArgs st) (defBody st) (defScope st) .none kV doc pm an cdv ct), osl⟩) (c : PySem.W.codeIn K cdv x = true) (k : PySem.W.keepIn K (.ref f) = true) : DefAt K mg x st :=
  ⟨f, oc, od, an, osl, kV, doc, pm, cdv, ct, PySem.W.mg_of X G a, l, c, k⟩
section
variable {P : Program} {w : World} {K : PySem.W.Frag} {mg : Str → Option Value} {base : Heap}
theorem cal3 {x : Str} {st : Stmt} {k : Nat} {ps N : List Str} {sp : DSp} (d : DefAt K mg x st)
    (hb : ∀ (kV doc pm : Value) (an : Option Addr) (cdv ct : Value) (us : List Value), us.length = ps.length → bindArgs (PySem.W.fnOf x x (defArgs st) (defBody st) (defScope st) .none kV doc pm an cdv ct) ⟨us, []⟩ = pure (ps.zip us))
    (S : FnScope N ps (defScope st)) (len : ∀ ds G q e, sp ds G q e → ds.length = ps.length)
    (body : ∀ (f : Addr) (cdv : Value) (A : Around) (outer : List Env) (s : Shared) (H : Hp) (E : XK) (B : Base3) (dw : Exc3 → Reg → Prop), Room k (A.deeper (envOfC x (defScope st) s.heap.objs.size f cdv)) →
      WOk (cxOf (L2.CX P w) P w K mg base N x (defScope st) f cdv A outer s H E) B (fun x _ G => dw x G) →
      ∃ t : DSt, LSs (cxOf (L2.CX P w) P w K mg base N x (defScope st) f cdv A outer s H E) B (defBody st) t ∧ ∀ ds G q, sp ds G q dw → t { nx := fun _ G' => q (.val .non) G', rt := q } (start3 N ds) G) :
    Cal3 P w K mg base x (k + 1) ps sp := by
  obtain ⟨f, oc, od, an, osl, kV, doc, pm, cdv, ct, hm, l, c, kp⟩ := d.ex
  have F := fun_mk (st := st) l c kp
  exact ⟨f, _, ok3 F S len (fun cdv A outer s H E B dw hr wk => body f cdv A outer s H E B dw hr wk), hm, kp, F.binds hb, _, _, _, l⟩
end
section
variable {X : Cx} {B : Base3}
theorem le_callC {x : Str} {k j : Nat} {ps : List Str} {sp : DSp} {dw : DW} {ta : DA} {p pos : Pos} {e : Expr} {es : List Expr} (c : Cal3 X.prog X.w X.K X.mg X.base x k ps sp) (hr : Room j X.A) (hk : k ≤ j) (wk : WOk X B dw) (hg : Gl X x) (ha : LA X B (e :: es) ta)
    (hdb : (x == ("__debug__" : Str)) = false := by decide) (he : starEach (e :: es) X.env = (false, eval e X.env) :: starEach es X.env := by rfl) (hpl : (backTo pos (starEach es X.env)).any (·.1) = false := by rfl) :
    LE X B (.Call (.Name x p) (e :: es) [] pos) (dCall sp dw ta) := by
  obtain ⟨f, fd, Fn, hm, kp, hb, -⟩ := c.ex
  exact le_call Fn (hr.mono hk) wk hg hm kp hb ha hdb he hpl
theorem room65 {k : Nat} {A : Around} (r : Room k A) : A.units + 65 < cLine := by have := r.un; omega
variable {a b c : Expr} {ta tb tc : DE} {pos : Pos}
/-! comparisons, as values and as tests -/
theorem le_lt (ha : LE X B a ta) (hb : LE X B b tb) : LE X B (.Compare a [.Lt] [b] pos) (dOp oLt ta tb) := le_cmp op_lt r_cmpI ha hb (nomark _)
theorem le_le (ha : LE X B a ta) (hb : LE X B b tb) : LE X B (.Compare a [.LtE] [b] pos) (dOp oLe ta tb) := le_cmp op_le r_cmpI ha hb (nomark _)
theorem le_gt (ha : LE X B a ta) (hb : LE X B b tb) : LE X B (.Compare a [.Gt] [b] pos) (dOp oGt ta tb) := le_cmp op_gt r_cmpI ha hb (nomark _)
theorem le_ge (ha : LE X B a ta) (hb : LE X B b tb) : LE X B (.Compare a [.GtE] [b] pos) (dOp oGe ta tb) := le_cmp op_ge r_cmpI ha hb (nomark _)
theorem le_eq {k : Nat} (hr : Room k X.A) (ha : LE X B a ta) (hb : LE X B b tb) : LE X B (.Compare a [.Eq] [b] pos) (dOp oEq ta tb) := le_cmp (op_eqD hr.units) r_eq3 ha hb (nomark _)
theorem le_ne {k : Nat} (hr : Room k X.A) (ha : LE X B a ta) (hb : LE X B b tb) : LE X B (.Compare a [.NotEq] [b] pos) (dOp oNe ta tb) := le_cmp (op_neD hr.units) r_ne3 ha hb (nomark _)
theorem le_in {k : Nat} (hr : Room k X.A) (ha : LE X B a ta) (hb : LE X B b tb) (hm : behindInMarks .In b = false := by rfl) : LE X B (.Compare a [.In] [b] pos) (dOp (oIn false) ta tb) := le_cmp (op_in3 (room65 hr)) r_in3 ha hb hm
theorem le_notIn {k : Nat} (hr : Room k X.A) (ha : LE X B a ta) (hb : LE X B b tb) (hm : behindInMarks .NotIn b = false := by rfl) : LE X B (.Compare a [.NotIn] [b] pos) (dOp (oIn true) ta tb) := le_cmp (op_notIn3 (room65 hr)) r_notIn3 ha hb hm
theorem le_isN (ha : LE X B a ta) (hb : LE X B b tb) : LE X B (.Compare a [.Is] [b] pos) (dOp (oIs false) ta tb) := le_cmp op_isN r_is3 ha hb (nomark _)
theorem le_notN (ha : LE X B a ta) (hb : LE X B b tb) : LE X B (.Compare a [.IsNot] [b] pos) (dOp (oIs true) ta tb) := le_cmp op_notN r_isNot3 ha hb (nomark _)
theorem lt_lt (ha : LE X B a ta) (hb : LE X B b tb) : LT X B (.Compare a [.Lt] [b] pos) (dTest (dOp oLt ta tb)) := lt_cmp op_lt r_cmpI ha hb (nomark _)
theorem lt_le (ha : LE X B a ta) (hb : LE X B b tb) : LT X B (.Compare a [.LtE] [b] pos) (dTest (dOp oLe ta tb)) := lt_cmp op_le r_cmpI ha hb (nomark _)
theorem lt_gt (ha : LE X B a ta) (hb : LE X B b tb) : LT X B (.Compare a [.Gt] [b] pos) (dTest (dOp oGt ta tb)) := lt_cmp op_gt r_cmpI ha hb (nomark _)
theorem lt_ge (ha : LE X B a ta) (hb : LE X B b tb) : LT X B (.Compare a [.GtE] [b] pos) (dTest (dOp oGe ta tb)) := lt_cmp op_ge r_cmpI ha hb (nomark _)
theorem lt_eq {k : Nat} (hr : Room k X.A) (ha : LE X B a ta) (hb : LE X B b tb) : LT X B (.Compare a [.Eq] [b] pos) (dTest (dOp oEq ta tb)) := lt_cmp (op_eqD hr.units) r_eq3 ha hb (nomark _)
theorem lt_ne {k : Nat} (hr : Room k X.A) (ha : LE X B a ta) (hb : LE X B b tb) : LT X B (.Compare a [.NotEq] [b] pos) (dTest (dOp oNe ta tb)) := lt_cmp (op_neD hr.units) r_ne3 ha hb (nomark _)
theorem lt_in {k : Nat} (hr : Room k X.A) (ha : LE X B a ta) (hb : LE X B b tb) (hm : behindInMarks .In b = false := by rfl) : LT X B (.Compare a [.In] [b] pos) (dTest (dOp (oIn false) ta tb)) := lt_cmp (op_in3 (room65 hr)) r_in3 ha hb hm
theorem lt_notIn {k : Nat} (hr : Room k X.A) (ha : LE X B a ta) (hb : LE X B b tb) (hm : behindInMarks .NotIn b = false := by rfl) : LT X B (.Compare a [.NotIn] [b] pos) (dTest (dOp (oIn true) ta tb)) := lt_cmp (op_notIn3 (room65 hr)) r_notIn3 ha hb hm
theorem lt_isN (ha : LE X B a ta) (hb : LE X B b tb) : LT X B (.Compare a [.Is] [b] pos) (dTest (dOp (oIs false) ta tb)) := lt_cmp op_isN r_is3 ha hb (nomark _)
theorem lt_notN (ha : LE X B a ta) (hb : LE X B b tb) : LT X B (.Compare a [.IsNot] [b] pos) (dTest (dOp (oIs true) ta tb)) := lt_cmp op_notN r_isNot3 ha hb (nomark _)
/-- the name of an operator's rule, for chains -/
structure OpN (X : Cx) (B : Base3) (op : CmpOp) (rd : Reg → D → D → (Res → Prop) → Prop) : Prop where
  ex : ∃ r, OpR X (compareOp op) r ∧ ROp X B r rd
theorem on_lt : OpN X B .Lt oLt := ⟨_, op_lt, r_cmpI⟩
theorem on_le : OpN X B .LtE oLe := ⟨_, op_le, r_cmpI⟩
theorem on_gt : OpN X B .Gt oGt := ⟨_, op_gt, r_cmpI⟩
theorem on_ge : OpN X B .GtE oGe := ⟨_, op_ge, r_cmpI⟩
theorem on_eq {k : Nat} (hr : Room k X.A) : OpN X B .Eq oEq := ⟨_, op_eqD hr.units, r_eq3⟩
theorem on_ne {k : Nat} (hr : Room k X.A) : OpN X B .NotEq oNe := ⟨_, op_neD hr.units, r_ne3⟩
theorem le_ch {op op' : CmpOp} {rd rd' : Reg → D → D → (Res → Prop) → Prop} (o : OpN X B op rd) (o' : OpN X B op' rd') (ha : LE X B a ta) (hb : LE X B b tb) (hc : LE X B c tc) (hm : lastMarks [op, op'] [b, c] = false := by with_unfolding_all rfl) : LE X B (.Compare a [op, op'] [b, c] pos) (dChain rd rd' ta tb tc) := by
  obtain ⟨r, h1, h2⟩ := o.ex
  obtain ⟨r', h3, h4⟩ := o'.ex
  exact le_chain h1 h2 h3 h4 ha hb hc hm
theorem lt_ch {op op' : CmpOp} {rd rd' : Reg → D → D → (Res → Prop) → Prop} (o : OpN X B op rd) (o' : OpN X B op' rd') (ha : LE X B a ta) (hb : LE X B b tb) (hc : LE X B c tc) (hm : lastMarks [op, op'] [b, c] = false := by with_unfolding_all rfl) : LT X B (.Compare a [op, op'] [b, c] pos) (dTest (dChain rd rd' ta tb tc)) := by
  obtain ⟨r, h1, h2⟩ := o.ex
  obtain ⟨r', h3, h4⟩ := o'.ex
  exact lt_chain h1 h2 h3 h4 ha hb hc hm
/-! x op= e -/
theorem ip_addI : PIp X .Add (rI0 fun i j => .int (i + j)) := ip_add
theorem ip_subI : PIp X .Sub (rI0 fun i j => .int (i - j)) := ip_sub
def oAddI : Reg → D → D → (Res → Prop) → Prop := fun _ d e k => match d, e with
  | .int i, .int j => k (.val (.int (i + j)))
  | _, _ => False
theorem r_addI : ROp X B (rI0 fun i j => .int (i + j)) oAddI := r_ii0 fun G d e k h => by
  unfold oAddI at h
  split at h
  · exact ⟨_, _, rfl, rfl, h⟩
  · exact h.elim
/-- constants of the module -/
theorem le_gint {x : Str} {i : Int} {pos : Pos} (hg : Gl X x) (hm : ∃ t, X.mg x = some (.int i t)) (hd : (x == ("__debug__" : Str)) = false := by decide) : LE X B (.Name x pos) (dC (.int i)) := by
  obtain ⟨t, hm⟩ := hm
  exact le_c (v := .int i) (pe_glob hg hm ⟨_, rfl⟩ hd) fun _ => .int i
theorem le_gstr {x : Str} {i : Str} {pos : Pos} (hg : Gl X x) (hm : ∃ t, X.mg x = some (.str i t)) (hd : (x == ("__debug__" : Str)) = false := by decide) : LE X B (.Name x pos) (dC (.str i)) := by
  obtain ⟨t, hm⟩ := hm
  exact le_c (v := .str i) (pe_glob hg hm ⟨_, rfl⟩ hd) fun _ => .str i
/-- a tuple of ints of the module -/
structure TupAt (K : PySem.W.Frag) (mg : Str → Option Value) (x : Str) (ns : List Int) : Prop where
  ex : ∃ (a : Addr), mg x = some (.ref a) ∧ ∀ F, Rep K F (.tup (ns.map D.int)) (.ref a)
theorem le_gtup {x : Str} {ns : List Int} {pos : Pos} (hg : Gl X x) (hm : TupAt X.K X.mg x ns) (hd : (x == ("__debug__" : Str)) = false := by decide) : LE X B (.Name x pos) (dC (.tup (ns.map D.int))) := by
  obtain ⟨a, hm, hr⟩ := hm.ex
  exact le_c (v := .ref a) (pe_glob hg hm rfl hd) hr
end
theorem tupAt_mk {K : PySem.W.Frag} {h : Heap} {mg : Str → Option Value} {x : Str} {ns : List Int} (X : K.In h) (G : h.Ns mainGlobals mg) {a : Addr} {dd : Option Addr} {its : List Value} {n : Nat} {sl : Array (Option Value)}
    (e : PySem.W.nsIn K mainGlobals x = some (some (.ref a))) (l : K.lookup a = some ⟨.type "tuple", dd, .seq its.toArray n, sl⟩) (hi : Vals (ns.map V.int) its) (hz : its.length ≤ sizeLine) : TupAt K mg x ns :=
  ⟨a, PySem.W.mg_of X G e, fun F => .tup (.inr ⟨_, its.toArray, n, l, rfl, rfl, by simpa using hz, by simpa using hi⟩) (RepL.ints ns)⟩
end L3

set_option Elab.async false
set_option maxRecDepth 100000
set_option maxHeartbeats 4000000
/-! L3, part k: the readings, evaluated by simp. -/
namespace L3
open PySem PySem.Spec PyProof.Rows L2
section
variable {E : Env3} {G : Reg} {k : DK} {ta tb tc te to ti : DE} {t u : DT} {s s' : DSt} {Dn : Ends3} {i j : Nat} {tr : DA} {ka : List D → Env3 → Reg → Prop} {kb : Bool → Env3 → Reg → Prop} {rd rd' : Reg → D → D → (Res → Prop) → Prop}
@[simp] theorem start3_cons {x : Str} {N : List Str} {d : D} {ds : List D} : start3 (x :: N) (d :: ds) = Sl3.val d :: start3 N ds := by
  unfold start3; simp
@[simp] theorem start3_none {x : Str} {N : List Str} : start3 (x :: N) [] = Sl3.no :: start3 N [] := by
  unfold start3; simp [List.replicate_succ]
@[simp] theorem start3_nil : start3 [] [] = [] := rfl
@[simp] theorem dSeq_eq : dSeq s s' Dn E G = s { Dn with nx := s' Dn } E G := rfl
@[simp] theorem dNext_eq : dNext Dn E G = Dn.nx E G := rfl
@[simp] theorem dIfS_eq : dIfS t s s' Dn E G = t E G fun b E1 G1 => if b = true then s Dn E1 G1 else s' Dn E1 G1 := rfl
@[simp] theorem dDrop_eq : dDrop te Dn E G = te E G fun _ E1 G1 => Dn.nx E1 G1 := rfl
@[simp] theorem dRet_eq : dRet te Dn E G = te E G fun r E1 G1 => ∃ r', r.out E1 = some r' ∧ Dn.rt r' G1 := rfl
@[simp] theorem dRetN_eq : dRetN Dn E G = Dn.rt (.val .non) G := rfl
@[simp] theorem dBreak_eq : dBreak Dn E G = Dn.bk E G := rfl
@[simp] theorem dCont_eq : dCont Dn E G = Dn.ct E G := rfl
@[simp] theorem dNever_eq : dNever Dn E G = False := rfl
@[simp] theorem dSet_eq : dSet i te Dn E G = te E G fun r E1 G1 => i < E1.length ∧ ∃ E2, r.put i E1 = some E2 ∧ Dn.nx E2 G1 := rfl
@[simp] theorem dSetReg_eq : dSetReg i te Dn E G = te E G fun r E1 G1 => i < E1.length ∧ ∃ ds, r = .fr ds ∧ ∀ a, Dn.nx (E1.set i (Sl3.val (.ref a))) ((a, ds) :: G1) := rfl
@[simp] theorem dAug_eq : dAug i rd te Dn E G = ∃ d, E[i]? = some (Sl3.val d) ∧ te E G fun y E1 G1 => E1[i]? = some (Sl3.val d) ∧ ∃ e, y.get E1 = some e ∧ rd G1 d e fun r => ∃ z, r = .val z ∧ Dn.nx (E1.set i (Sl3.val z)) G1 := rfl
@[simp] theorem dStore_eq : dStore te to ti Dn E G = te E G fun v E1 G1 => ∃ d E2, v.ice E1 = some (d, E2) ∧ to E2 G1 fun o E3 G2 => ti E3 G2 fun i E4 G3 => ∃ k, i = .val (.int k) ∧
  match o with
  | .val (.ref a) => ∃ ds, G3.lookup a = some ds ∧ ∃ j, ixN ds.length k = some j ∧ Dn.nx E4 (regSet G3 a (ds.set j d))
  | .sl s => ∃ ds, E4[s]? = some (Sl3.own ds) ∧ ∃ j, ixN ds.length k = some j ∧ Dn.nx (E4.set s (Sl3.own (ds.set j d))) G3
  | _ => False := rfl
@[simp] theorem dPar_eq : dPar i j ta tb Dn E G = ta E G fun x E1 G1 => ∃ x' E2, x.fin E1 = some (x', E2) ∧ tb E2 G1 fun y E3 G2 => ∃ y' E4, y.fin E3 = some (y', E4) ∧ i < E4.length ∧ j < E4.length ∧
  ∃ E5, x'.put i E4 = some E5 ∧ ∃ E6, y'.put j E5 = some E6 ∧ Dn.nx E6 G2 := rfl
@[simp] theorem dAsg_eq {g : DG} : dAsg te g Dn E G = te E G fun r E1 G1 => ∃ d E2, r.ice E1 = some (d, E2) ∧ g d E2 G1 Dn.nx := rfl
@[simp] theorem dFor_eq {di : DI} {g : DG} : dFor di g s Dn E G = di E G fun ds E1 G1 => dForL g s ds Dn E1 G1 := rfl
@[simp] theorem dForL_nil {g : DG} : dForL g s [] Dn E G = Dn.nx E G := rfl
theorem dForL_cons {g : DG} {d : D} {ds : List D} : dForL g s (d :: ds) Dn E G = g d E G fun E1 G1 => s { Dn with nx := fun E2 G2 => dForL g s ds Dn E2 G2, ct := fun E2 G2 => dForL g s ds Dn E2 G2, bk := Dn.nx } E1 G1 := rfl
@[simp] theorem dWhile_eq : dWhile t s Dn E G = ∃ n, dWhN t s n Dn E G := rfl
@[simp] theorem dVar_eq : dVar i E G k = match E[i]? with
  | some (Sl3.val d) => k (.val d) E G
  | some (Sl3.own _) => k (.sl i) E G
  | _ => False := rfl
@[simp] theorem dC_eq {d : D} : dC d E G k = k (.val d) E G := rfl
@[simp] theorem dOp_eq : dOp rd ta tb E G k = ta E G fun x E1 G1 => tb E1 G1 fun y E2 G2 => ∃ d, x.fz.get E2 = some d ∧ ∃ e, y.get E2 = some e ∧ rd G2 d e fun r => k r E2 G2 := rfl
@[simp] theorem dTest_eq : dTest te E G kb = te E G fun r E1 G1 => ∃ b, r = .val (.bl b) ∧ kb b E1 G1 := rfl
@[simp] theorem dNot_eq : dNot t E G kb = t E G fun b E1 G1 => kb (!b) E1 G1 := rfl
@[simp] theorem dAnd_eq : dAnd t u E G kb = t E G fun b E1 G1 => if b = true then u E1 G1 kb else kb false E1 G1 := rfl
@[simp] theorem dOr_eq : dOr t u E G kb = t E G fun b E1 G1 => if b = true then kb true E1 G1 else u E1 G1 kb := rfl
@[simp] theorem dAndV_eq : dAndV ta tb E G k = ta E G fun r E1 G1 => ∃ b, r = .val (.bl b) ∧ if b = true then tb E1 G1 k else k (.val (.bl false)) E1 G1 := rfl
@[simp] theorem dOrV_eq : dOrV ta tb E G k = ta E G fun r E1 G1 => ∃ b, r = .val (.bl b) ∧ if b = true then k (.val (.bl true)) E1 G1 else tb E1 G1 k := rfl
@[simp] theorem dNotV_eq : dNotV ta E G k = ta E G fun r E1 G1 => ∃ b, r = .val (.bl b) ∧ k (.val (.bl (!b))) E1 G1 := rfl
@[simp] theorem dIf_eq : dIf t ta tb E G k = t E G fun b E1 G1 => if b = true then ta E1 G1 k else tb E1 G1 k := rfl
@[simp] theorem dUn_eq {rd : D → (Res → Prop) → Prop} : dUn rd ta E G k = ta E G fun x E1 G1 => ∃ d, x.get E1 = some d ∧ rd d fun r => k r E1 G1 := rfl
@[simp] theorem dChain_eq : dChain rd rd' ta tb tc E G k = ta E G fun x E1 G1 => tb E1 G1 fun y E2 G2 =>
  ∃ d, x.fz.get E2 = some d ∧ ∃ e, y.fz.get E2 = some e ∧ rd G2 d e fun r => ∃ b, r = .val (.bl b) ∧
    if b = true then tc E2 G2 fun z E3 G3 => ∃ e', y.fz.get E3 = some e' ∧ ∃ f, z.get E3 = some f ∧ rd' G3 e' f fun r => k r E3 G3 else k (.val (.bl false)) E2 G2 := rfl
@[simp] theorem dNil_eq : dNil E G ka = ka [] E G := rfl
@[simp] theorem dCons_eq : dCons ta tr E G ka = ta E G fun x E1 G1 => ∃ d E2, x.ice E1 = some (d, E2) ∧ tr E2 G1 fun ds E3 G3 => ka (d :: ds) E3 G3 := rfl
@[simp] theorem dPCons_eq : dPCons ta tr E G ka = ta E G fun x E1 G1 => tr E1 G1 fun ds E3 G3 => ∃ d, x.fz.get E3 = some d ∧ ka (d :: ds) E3 G3 := rfl
@[simp] theorem dTup_eq : dTup tr E G k = tr E G fun ds E1 G1 => ds.length ≤ sizeLine ∧ k (.val (.tup ds)) E1 G1 := rfl
@[simp] theorem dLst_eq : dLst tr E G k = tr E G fun ds E1 G1 => ds.length ≤ sizeLine ∧ k (.fr ds) E1 G1 := rfl
@[simp] theorem dNoPart_eq {ko : Option Int → Env3 → Reg → Prop} : dNoPart E G ko = ko none E G := rfl
@[simp] theorem dPart_eq {ko : Option Int → Env3 → Reg → Prop} : dPart ta E G ko = ta E G fun r E1 G1 => ∃ i, r = .val (.int i) ∧ ko (some i) E1 G1 := rfl
@[simp] theorem dSl_eq {rd : D → Option Int → Option Int → (Res → Prop) → Prop} {tl th : DO} : dSl rd te tl th E G k = te E G fun x E1 G1 => tl E1 G1 fun lo E2 G2 => th E2 G2 fun hi E3 G3 =>
  ∃ d, x.fz.get E3 = some d ∧ rd d lo hi fun r => k r E3 G3 := rfl
@[simp] theorem dCB_eq {rd : Reg → List D → (Res → Prop) → Prop} : dCB rd tr E G k = tr E G fun ds E1 G1 => rd G1 ds fun r => k r E1 G1 := rfl
@[simp] theorem dCall_eq {sp : DSp} {dw : DW} : dCall sp dw tr E G k = tr E G fun ds E1 G1 => sp ds G1 (fun r G2 => k r E1 G2) (fun x G2 => dw x E1 G2) := rfl
@[simp] theorem dApp_eq : dApp i te E G k = ((∃ ds, E[i]? = some (Sl3.own ds)) ∧ te E G fun r E1 G1 => ∃ d E2, r.ice E1 = some (d, E2) ∧ ∃ ds, E2[i]? = some (Sl3.own ds) ∧ ds.length < sizeLine ∧ k (.val .non) (E2.set i (Sl3.own (ds ++ [d]))) G1) := rfl
@[simp] theorem dIter_eq {kl : List D → Env3 → Reg → Prop} : dIter te E G kl = te E G fun r E1 G1 => ∃ d E2, r.ice E1 = some (d, E2) ∧ ∃ ds, iterD d = some ds ∧ kl ds E2 G1 := rfl
@[simp] theorem dRng1_eq {kl : List D → Env3 → Reg → Prop} : dRng1 tr E G kl = tr E G fun ds E1 G1 => ∃ j : Int, ds = [.int j] ∧ -(2 ^ 62) ≤ j ∧ j < 2 ^ 62 ∧ kl (rangeD 0 j.toNat) E1 G1 := rfl
@[simp] theorem dRng2_eq {kl : List D → Env3 → Reg → Prop} : dRng2 tr E G kl = tr E G fun ds E1 G1 => ∃ i j : Int, ds = [.int i, .int j] ∧ (-(2 ^ 62) ≤ i ∧ i < 2 ^ 62 ∧ -(2 ^ 62) ≤ j ∧ j < 2 ^ 62) ∧ kl (rangeD i (j - i).toNat) E1 G1 := rfl
@[simp] theorem gNm_eq {d : D} {kk : Env3 → Reg → Prop} : gNm i d E G kk = (i < E.length ∧ kk (E.set i (Sl3.val d)) G) := rfl
@[simp] theorem gTp_eq {n : Nat} {gs : DGs} {d : D} {kk : Env3 → Reg → Prop} : gTp n gs d E G kk = ∃ ds, d = .tup ds ∧ ds.length = n ∧ gs ds E G kk := rfl
@[simp] theorem gsNil_eq {ds : List D} {kk : Env3 → Reg → Prop} : gsNil ds E G kk = (ds = [] ∧ kk E G) := rfl
@[simp] theorem gsCons_eq {g : DG} {gs : DGs} {ds : List D} {kk : Env3 → Reg → Prop} : gsCons g gs ds E G kk = ∃ d r, ds = d :: r ∧ g d E G fun E1 G1 => gs r E1 G1 kk := rfl
@[simp] theorem dYes_eq : dYes E G kb = kb true E G := rfl
@[simp] theorem dLc_eq {di : DI} {g : DG} {vs : List Nat} : dLc di g t te vs E G k = di E G fun ds E1 G1 => ds.length ≤ sizeLine ∧ dLcL g t te vs ds [] (wipe3 E1 vs) G1 fun acc E2 G2 => k (.fr acc) E2 G2 := rfl
@[simp] theorem dLcL_nil {g : DG} {vs : List Nat} {acc : List D} {kl : List D → Env3 → Reg → Prop} : dLcL g t te vs [] acc E G kl = kl acc E G := rfl
theorem dLcL_cons {g : DG} {vs : List Nat} {d : D} {ds acc : List D} {kl : List D → Env3 → Reg → Prop} : dLcL g t te vs (d :: ds) acc E G kl = g d E G fun E1 G1 => t E1 G1 fun b E2 G2 => if b = true then te E2 G2 fun r E3 G3 => ∃ x E4, r.ice E3 = some (x, E4) ∧ dLcL g t te vs ds (acc ++ [x]) (wipe3 E4 vs) G3 kl else dLcL g t te vs ds acc (wipe3 E2 vs) G2 kl := rfl
@[simp] theorem wipe3_nil : wipe3 E [] = E := rfl
@[simp] theorem wipe3_cons {v : Nat} {vs : List Nat} : wipe3 E (v :: vs) = (wipe3 E vs).set v Sl3.no := rfl
/-! what is given -/
variable {d e : D} {ds es : List D}
@[simp] theorem get_val : (Res.val d).get E = some d := rfl
@[simp] theorem get_fr : (Res.fr ds).get E = some (.lst ds) := rfl
@[simp] theorem get_sl : (Res.sl i).get E = match E[i]? with
    | some (Sl3.val d) => some d
    | some (Sl3.own ds) => some (.lst ds)
    | _ => none := rfl
@[simp] theorem fz_val : (Res.val d).fz = .val d := rfl
@[simp] theorem fz_fr : (Res.fr ds).fz = .val (.lst ds) := rfl
@[simp] theorem fz_sl : (Res.sl i).fz = .sl i := rfl
@[simp] theorem ice_val : (Res.val d).ice E = some (d, E) := rfl
@[simp] theorem ice_fr : (Res.fr ds).ice E = some (.lst ds, E) := rfl
@[simp] theorem ice_sl : (Res.sl i).ice E = match E[i]? with
    | some (Sl3.val d) => some (d, E)
    | some (Sl3.own ds) => some (.lst ds, E.set i (Sl3.val (.lst ds)))
    | _ => none := rfl
@[simp] theorem out_val : (Res.val d).out E = some (.val d) := rfl
@[simp] theorem out_fr : (Res.fr ds).out E = some (.fr ds) := rfl
@[simp] theorem out_sl : (Res.sl i).out E = match E[i]? with
    | some (Sl3.val d) => some (.val d)
    | some (Sl3.own ds) => some (.fr ds)
    | _ => none := rfl
@[simp] theorem put_val : (Res.val d).put i E = some (E.set i (Sl3.val d)) := rfl
@[simp] theorem put_fr : (Res.fr ds).put i E = some (E.set i (Sl3.own ds)) := rfl
@[simp] theorem put_sl : (Res.sl j).put i E = match E[j]? with
    | some (Sl3.val d) => some (E.set i (Sl3.val d))
    | some (Sl3.own ds) => some ((E.set j (Sl3.val (.lst ds))).set i (Sl3.val (.lst ds)))
    | _ => none := rfl
@[simp] theorem fin_val : (Res.val d).fin E = some (.val d, E) := rfl
@[simp] theorem fin_fr : (Res.fr ds).fin E = some (.fr ds, E) := rfl
@[simp] theorem fin_sl : (Res.sl i).fin E = match E[i]? with
    | some (Sl3.val d) => some (.val d, E)
    | some (Sl3.own ds) => some (.val (.lst ds), E.set i (Sl3.val (.lst ds)))
    | _ => none := rfl
/-! operators -/
variable {kr : Res → Prop} {a b : Int} {x y : Str}
@[simp] theorem oAdd_ii : oAdd G (.int a) (.int b) kr = kr (.val (.int (a + b))) := rfl
@[simp] theorem oAdd_ss : oAdd G (.str x) (.str y) kr = (x.length + y.length ≤ sizeLine ∧ kr (.val (.str (x ++ y)))) := rfl
@[simp] theorem oAdd_tt : oAdd G (.tup ds) (.tup es) kr = (ds.length + es.length ≤ sizeLine ∧ kr (.val (.tup (ds ++ es)))) := rfl
@[simp] theorem oAdd_ll : oAdd G (.lst ds) (.lst es) kr = (ds.length + es.length ≤ sizeLine ∧ kr (.fr (ds ++ es))) := rfl
@[simp] theorem oAddI_ii : oAddI G (.int a) (.int b) kr = kr (.val (.int (a + b))) := rfl
@[simp] theorem oSub_ii : oSub G (.int a) (.int b) kr = kr (.val (.int (a - b))) := rfl
@[simp] theorem oMul_ii : oMul G (.int a) (.int b) kr = (MulOk a b ∧ kr (.val (.int (a * b)))) := rfl
@[simp] theorem oMul_li : oMul G (.lst ds) (.int b) kr = (-(2 ^ 63) ≤ b ∧ b < 2 ^ 63 ∧ ds.length * b.toNat ≤ sizeLine ∧ kr (.fr (List.replicate b.toNat ds).flatten)) := rfl
@[simp] theorem oFdiv_ii : oFdiv G (.int a) (.int b) kr = (CDivW a b ∧ kr (.val (.int (a / b)))) := rfl
@[simp] theorem oMod_ii : oMod G (.int a) (.int b) kr = (0 < b ∧ kr (.val (.int (a % b)))) := rfl
@[simp] theorem oModN_ii : oModN G (.int a) (.int b) kr = (b ≠ 0 ∧ kr (.val (.int (a.fmod b)))) := rfl
@[simp] theorem oPow_ii : oPow G (.int a) (.int b) kr = (CPow a b ∧ kr (.val (.int (a ^ b.toNat)))) := rfl
@[simp] theorem oCmpI_ii {p : Int → Int → Bool} : oCmpI p G (.int a) (.int b) kr = kr (.val (.bl (p a b))) := rfl
@[simp] theorem oEq_eq : oEq G d e kr = (d.sh = true ∧ e.sh = true ∧ kr (.val (.bl (D.eqv d e)))) := rfl
@[simp] theorem oNe_eq : oNe G d e kr = (d.sh = true ∧ e.sh = true ∧ kr (.val (.bl (!D.eqv d e)))) := rfl
@[simp] theorem oIn_l {n : Bool} : oIn n G d (.lst ds) kr = (d.sh = true ∧ (D.lst ds).sh = true ∧ kr (.val (.bl (if n then !d.among ds else d.among ds)))) := rfl
@[simp] theorem oIn_t {n : Bool} : oIn n G d (.tup ds) kr = (d.sh = true ∧ (D.tup ds).sh = true ∧ kr (.val (.bl (if n then !d.among ds else d.among ds)))) := rfl
@[simp] theorem oIs_eq {n : Bool} : oIs n G d e kr = (e.isN = true ∧ kr (.val (.bl (if n then !d.isN else d.isN)))) := rfl
@[simp] theorem isN_non : D.isN .non = true := rfl
@[simp] theorem isN_int : D.isN (.int a) = false := rfl
@[simp] theorem isN_tup : D.isN (.tup ds) = false := rfl
@[simp] theorem isN_lst : D.isN (.lst ds) = false := rfl
@[simp] theorem isN_str : D.isN (.str x) = false := rfl
@[simp] theorem isN_bl {b : Bool} : D.isN (.bl b) = false := rfl
@[simp] theorem uNeg_i : uNeg (.int a) kr = kr (.val (.int (-a))) := rfl
@[simp] theorem oIx_li : oIx G (.lst ds) (.int a) kr = ∃ v, atI ds a = some v ∧ kr (.val v) := rfl
@[simp] theorem oIx_ti : oIx G (.tup ds) (.int a) kr = ∃ v, atI ds a = some v ∧ kr (.val v) := rfl
@[simp] theorem oIx_sc {ns : List Int} : oIx G (.scr ns) (.int a) kr = ∃ v, atI ns a = some v ∧ kr (.val (.int v)) := rfl
@[simp] theorem oIx_ri {p : Addr} : oIx G (.ref p) (.int a) kr = ∃ ds, G.lookup p = some ds ∧ ∃ v, atI ds a = some v ∧ kr (.val v) := rfl
@[simp] theorem oSl_l {lo hi : Option Int} : oSl (.lst ds) lo hi kr = kr (.fr (cutD ds lo hi)) := rfl
@[simp] theorem oSl_t {lo hi : Option Int} : oSl (.tup ds) lo hi kr = kr (.val (.tup (cutD ds lo hi))) := rfl
@[simp] theorem bLen_l : bLen G [.lst ds] kr = kr (.val (.int ds.length)) := rfl
@[simp] theorem bLen_t : bLen G [.tup ds] kr = kr (.val (.int ds.length)) := rfl
@[simp] theorem bLen_s : bLen G [.str x] kr = (x.length ≤ sizeLine ∧ kr (.val (.int x.length))) := rfl
@[simp] theorem bLen_c {ns : List Int} : bLen G [.scr ns] kr = kr (.val (.int ns.length)) := rfl
@[simp] theorem bAbs_i : bAbs G [.int a] kr = kr (.val (.int (if a < 0 then -a else a))) := rfl
@[simp] theorem bIntOf_i : bIntOf G [.int a] kr = kr (.val (.int a)) := rfl
@[simp] theorem bIntOf_b {b : Bool} : bIntOf G [.bl b] kr = kr (.val (.int (if b then 1 else 0))) := rfl
@[simp] theorem bMax_i : bMax G [.int a, .int b] kr = kr (.val (.int (if b > a then b else a))) := rfl
@[simp] theorem bMin_i : bMin G [.int a, .int b] kr = kr (.val (.int (if b < a then b else a))) := rfl
@[simp] theorem bList_l : bList G [.lst ds] kr = kr (.fr ds) := rfl
@[simp] theorem bList_t : bList G [.tup ds] kr = kr (.fr ds) := rfl
@[simp] theorem bTuple_l : bTuple G [.lst ds] kr = kr (.val (.tup ds)) := rfl
@[simp] theorem bTuple_t : bTuple G [.tup ds] kr = kr (.val (.tup ds)) := rfl
@[simp] theorem bAll_l : bAll G [.lst ds] kr = ∃ bs, blsOf ds = some bs ∧ kr (.val (.bl (bs.all id))) := rfl
@[simp] theorem bAny_l : bAny G [.lst ds] kr = ∃ bs, blsOf ds = some bs ∧ kr (.val (.bl (bs.any id))) := rfl
@[simp] theorem bSum_l : bSum G [.lst ds] kr = ∃ bs, intsOf ds = some bs ∧ kr (.val (.int bs.sum)) := rfl
@[simp] theorem bIsi_eq {n : String} : bIsi G [d, .ty n] kr = ∃ t, tyN d = some t ∧ n ∈ knownT ∧ kr (.val (.bl (isT t n))) := rfl
@[simp] theorem tyN_non : tyN .non = some "NoneType" := rfl
@[simp] theorem tyN_bl {b : Bool} : tyN (.bl b) = some "bool" := rfl
@[simp] theorem tyN_int : tyN (.int a) = some "int" := rfl
@[simp] theorem tyN_str : tyN (.str x) = some "str" := rfl
@[simp] theorem tyN_tup : tyN (.tup ds) = some "tuple" := rfl
@[simp] theorem tyN_lst : tyN (.lst ds) = some "list" := rfl
@[simp] theorem known1 : "int" ∈ knownT := by decide
@[simp] theorem known2 : "bool" ∈ knownT := by decide
@[simp] theorem known3 : "str" ∈ knownT := by decide
@[simp] theorem known4 : "tuple" ∈ knownT := by decide
@[simp] theorem known5 : "list" ∈ knownT := by decide
@[simp] theorem isT_def {t n : String} : isT t n = (t == n || (t == "bool" && n == "int")) := rfl
@[simp] theorem iterD_l : iterD (.lst ds) = some ds := rfl
@[simp] theorem iterD_t : iterD (.tup ds) = some ds := rfl
@[simp] theorem iterD_s : iterD (.str x) = some (strD x) := rfl
@[simp] theorem blsOf_m (bs : List Bool) : blsOf (bs.map D.bl) = some bs := blsOf_map bs
@[simp] theorem intsOf_m (bs : List Int) : intsOf (bs.map D.int) = some bs := intsOf_map bs
/-! places -/
@[simp] theorem at0 {α : Type} {a : α} {r : List α} : atI (a :: r) (0 : Int) = some a := by
  have : atI (a :: r) ((0 : Nat) : Int) = some a := atI_nat rfl
  simpa using this
@[simp] theorem at1 {α : Type} {a b : α} {r : List α} : atI (a :: b :: r) (1 : Int) = some b := by
  have : atI (a :: b :: r) ((1 : Nat) : Int) = some b := atI_nat rfl
  simpa using this
@[simp] theorem at2 {α : Type} {a b c : α} {r : List α} : atI (a :: b :: c :: r) (2 : Int) = some c := by
  have : atI (a :: b :: c :: r) ((2 : Nat) : Int) = some c := atI_nat rfl
  simpa using this
theorem ix_nat {n j : Nat} (h : j < n) : ixN n (j : Int) = some j := by
  unfold ixN
  rw [if_pos (by omega), if_pos (by omega)]
  simp
@[simp] theorem ix0 {n : Nat} : ixN (n + 1) (0 : Int) = some 0 := by
  have := ix_nat (n := n + 1) (j := 0) (by omega)
  simpa using this
@[simp] theorem ix1 {n : Nat} : ixN (n + 1 + 1) (1 : Int) = some 1 := by
  have := ix_nat (n := n + 1 + 1) (j := 1) (by omega)
  simpa using this
@[simp] theorem ix2 {n : Nat} : ixN (n + 1 + 1 + 1) (2 : Int) = some 2 := by
  have := ix_nat (n := n + 1 + 1 + 1) (j := 2) (by omega)
  simpa using this
@[simp] theorem regSet_head {p : Addr} {R : Reg} : regSet ((p, ds) :: R) p es = (p, es) :: R := by
  unfold regSet; simp
/-! == -/
@[simp] theorem sh_int : D.sh (.int a) = true := rfl
@[simp] theorem sh_bl {b : Bool} : D.sh (.bl b) = true := rfl
@[simp] theorem sh_non : D.sh .non = true := rfl
@[simp] theorem sh_tup : D.sh (.tup ds) = ds.all (shl (shl (shl (shl sh0)))) := rfl
@[simp] theorem sh_lst : D.sh (.lst ds) = ds.all (shl (shl (shl (shl sh0)))) := rfl
@[simp] theorem shl_int {p : D → Bool} : shl p (.int a) = true := rfl
@[simp] theorem shl_bl {p : D → Bool} {b : Bool} : shl p (.bl b) = true := rfl
@[simp] theorem shl_non {p : D → Bool} : shl p .non = true := rfl
@[simp] theorem shl_tup {p : D → Bool} : shl p (.tup ds) = ds.all p := rfl
@[simp] theorem shl_lst {p : D → Bool} : shl p (.lst ds) = ds.all p := rfl
@[simp] theorem sh0_int : sh0 (.int a) = true := rfl
@[simp] theorem all_shl_ints {p : D → Bool} (ns : List Int) : (ns.map D.int).all (shl p) = true := by
  rw [List.all_map, List.all_eq_true]; intro x _; rfl
@[simp] theorem eqv_int : D.eqv (.int a) (.int b) = decide (a = b) := by
  unfold D.eqv D.py PyData.eqv; exact Bool.beq_eq_decide_eq a b
@[simp] theorem eqv_bl {b c : Bool} : D.eqv (.bl b) (.bl c) = (b == c) := rfl
def eqvL : List D → List D → Bool
  | [], [] => true
  | x :: xs, y :: ys => D.eqv x y && eqvL xs ys
  | _, _ => false
theorem eqvL_eq : ∀ (xs ys : List D), PyData.eqvAll (pyL xs) (pyL ys) = eqvL xs ys
  | [], [] => rfl
  | [], _ :: _ => rfl
  | _ :: _, [] => rfl
  | x :: xs, y :: ys => by
    show (PyData.eqv x.py y.py && PyData.eqvAll (pyL xs) (pyL ys)) = _
    rw [eqvL_eq xs ys]; rfl
@[simp] theorem eqv_tup : D.eqv (.tup ds) (.tup es) = eqvL ds es := by
  unfold D.eqv D.py PyData.eqv; exact eqvL_eq ds es
@[simp] theorem eqv_lst : D.eqv (.lst ds) (.lst es) = eqvL ds es := by
  unfold D.eqv D.py PyData.eqv; exact eqvL_eq ds es
@[simp] theorem eqvL_nil : eqvL [] [] = true := rfl
@[simp] theorem eqvL_cons : eqvL (d :: ds) (e :: es) = (D.eqv d e && eqvL ds es) := rfl
@[simp] theorem eqvL_nc : eqvL [] (e :: es) = false := rfl
@[simp] theorem eqvL_cn : eqvL (d :: ds) [] = false := rfl
@[simp] theorem eqvL_ints : ∀ xs ys : List Int, eqvL (xs.map D.int) (ys.map D.int) = decide (xs = ys)
  | [], [] => rfl
  | [], _ :: _ => rfl
  | _ :: _, [] => rfl
  | x :: xs, y :: ys => by
    rw [List.map_cons, List.map_cons, eqvL, eqvL_ints xs ys, eqv_int]
    by_cases h : x = y
    · subst h; simp
    · simp [h]
@[simp] theorem eqvL_ints_nil {xs : List Int} : eqvL (xs.map D.int) [] = decide (xs = []) := eqvL_ints xs []
@[simp] theorem eqvL_nil_ints {xs : List Int} : eqvL [] (xs.map D.int) = decide ([] = xs) := eqvL_ints [] xs
end
/-- cuts of lists of ints -/
theorem cutD_map {ns : List Int} {lo hi : Option Int} : cutD (ns.map D.int) lo hi = ((ns.drop (HT.sIx ns.length 0 lo)).take (HT.sIx ns.length ns.length hi - HT.sIx ns.length 0 lo)).map D.int := by
  unfold cutD
  rw [List.length_map, ← List.map_drop, ← List.map_take]
theorem mulOk_left {i j : Int} (h1 : -(2 ^ 64) < i) (h2 : i < 2 ^ 64) : MulOk i j := .inl (.inl ⟨h1, h2⟩)
theorem mulOk_right {i j : Int} (h1 : -(2 ^ 64) < j) (h2 : j < 2 ^ 64) : MulOk i j := .inl (.inr ⟨h1, h2⟩)
end L3

set_option Elab.async false
set_option maxRecDepth 100000
set_option maxHeartbeats 4000000
set_option exponentiation.threshold 2000
/-! L3, part l: the end of a walk; loops by invariants; small steps for the plain reading. -/
namespace L3
open PySem PySem.Spec PyProof.Rows L2
/-! ### the end -/
theorem ok_at {P : Program} {w : World} {K : PySem.W.Frag} {mg : Str → Option Value} {base : Heap} {x : Str} {k : Nat} {ps : List Str} {sp : DSp} (c : Cal3 P w K mg base x k ps sp)
    {fa : Addr} {oc : Value} {od : Option Addr} {osl : Array (Option Value)} {fd : FuncData} (hm : mg x = some (.ref fa)) (hl : K.lookup fa = some ⟨oc, od, .func fd, osl⟩) : FnOk P w K mg base (L2.CX P w) k fa fd ps (LSp K sp) := by
  obtain ⟨f, fd2, Fn, hm2, -, -, oc2, od2, osl2, l2⟩ := c.ex
  rw [hm] at hm2
  cases hm2
  rw [hl] at l2
  cases l2
  exact Fn
theorem wld0 {K : PySem.W.Frag} {H : Hp} : Wld K H H [] := ⟨Same.refl H, fun _ _ h => (by cases h), List.nodup_nil⟩
theorem walk3 {l : PySem.W.OpenLaw} {n k : Nat} {q : Program} {loose : List Str} {XP : (Str → Option Value) → Heap → Prop} {YP : World → Heap → Prop} {d : DefRec} {K : Params → PySem.W.Frag} {sp : DSp} {x : Str}
    (hn : l.most = some n) (hn2 : n ≤ sizeLine) (hdf : d.params.defaults = []) (hr : Room k callerA)
    (hY : ∀ (w : World) (h : Heap), YP w h → (K w.params).In h)
    (F : ∀ (w : World) (mg : Str → Option Value) (fa : Addr) (h : Heap), (K w.params).In h → h.Ns mainGlobals mg → mg d.name = some (.ref fa) →
      ∃ fd : FuncData, (∀ (s : Shared) (u : Value), BindsTo s fd ⟨[u], []⟩ [(x, u)]) ∧
        ∀ base : Heap, (K w.params).In base → base.Ns mainGlobals mg → FnOk l.prog w (K w.params) mg base (L2.CX l.prog w) k fa fd [x] (LSp (K w.params) sp))
    (holds : ∀ ns : List Int, ns.length ≤ n → sp [.scr ns] [] (fun r _ => r = .val (.bl true)) fun _ _ => False) :
    PySem.W.WalkO q loose XP YP l.row.toRowW d [] (fun f vs => PySem.call f vs) :=
  L2.walk_of (n := n) (K := K) (k := k) (x := x) (CX := fun w => L2.CX l.prog w) (sp := fun w => LSp (K w.params) sp) hn hn2 hdf hr hY F
    (fun w H a ns hl _ hS => ⟨H, [], [.scr ns], _, _, wld0, .cons (.scr hS) .nil, holds ns hl, fun r G' e v F' H' A rv => by
      subst e
      have rv : Rep (K w.params) F' (.bl true) v := rv
      cases rv
      rfl, fun _ _ z => z.elim⟩)
    fun _ _ _ _ _ ⟨_, _, _, _, _, _, _, _, _, _, _, _, z⟩ => by simp at z
/-! ### loops -/
theorem for_ind {g : DG} {tb : DSt} {Dn : Ends3} (I : List D → Env3 → Reg → Prop) (hend : ∀ E G, I [] E G → Dn.nx E G)
    (step : ∀ d ds E G (nx : Env3 → Reg → Prop), I (d :: ds) E G → (∀ E' G', I ds E' G' → nx E' G') → g d E G fun E1 G1 => tb { Dn with nx := nx, ct := nx, bk := Dn.nx } E1 G1) :
    ∀ ds E G, I ds E G → dForL g tb ds Dn E G
  | [], E, G, h => hend E G h
  | d :: ds, E, G, h => step d ds E G _ h fun E' G' h' => for_ind I hend step ds E' G' h'
theorem wh_ind {c : DT} {tb : DSt} {Dn : Ends3} (I : Nat → Env3 → Reg → Prop)
    (step : ∀ n E G (nx : Env3 → Reg → Prop), I n E G → (∀ E' G' m, n = m + 1 → I m E' G' → nx E' G') → c E G fun b E1 G1 => if b = true then tb { Dn with nx := nx, ct := nx, bk := Dn.nx } E1 G1 else Dn.nx E1 G1) :
    ∀ n E G, I n E G → dWhN c tb (n + 1) Dn E G
  | 0, E, G, h => step 0 E G _ h fun E' G' m e _ => by cases e
  | n + 1, E, G, h => step (n + 1) E G _ h fun E' G' m e h' => by cases e; exact wh_ind I step n E' G' h'
/-- a comprehension whose parts leave the registers as they are -/
theorem lc_pure {g : DG} {tt : DT} {te : DE} {vs : List Nat} {E : Env3} {G : Reg} (P : D → Prop) (f : D → Option D)
    (step : ∀ d (k1 : D → Env3 → Reg → Prop) (k2 : Env3 → Reg → Prop), P d → (∀ x Ew, f d = some x → wipe3 Ew vs = E → k1 x Ew G) → (∀ Ew, f d = none → wipe3 Ew vs = E → k2 Ew G) →
      g d E G fun E1 G1 => tt E1 G1 fun b E2 G2 => if b = true then te E2 G2 fun r E3 G3 => ∃ x E4, r.ice E3 = some (x, E4) ∧ k1 x E4 G3 else k2 E2 G2) :
    ∀ (ds acc : List D) (k : List D → Env3 → Reg → Prop), (∀ d ∈ ds, P d) → k (acc ++ ds.filterMap f) E G → dLcL g tt te vs ds acc E G k
  | [], acc, k, _, h => by simpa using h
  | d :: ds, acc, k, hp, h => step d _ _ (hp d List.mem_cons_self)
      (fun x Ew e w => by
        rw [w]
        refine lc_pure P f step ds _ k (fun z hz => hp z (List.mem_cons_of_mem _ hz)) ?_
        rw [List.filterMap_cons_some e] at h
        rw [List.append_assoc]
        exact h)
      fun Ew e w => by
        rw [w]
        refine lc_pure P f step ds _ k (fun z hz => hp z (List.mem_cons_of_mem _ hz)) ?_
        rw [List.filterMap_cons_none e] at h
        exact h
theorem lc_pure0 {g : DG} {tt : DT} {te : DE} {vs : List Nat} {E : Env3} {G : Reg} (P : D → Prop) (f : D → Option D)
    (step : ∀ d (k1 : D → Env3 → Reg → Prop) (k2 : Env3 → Reg → Prop), P d → (∀ x Ew, f d = some x → wipe3 Ew vs = E → k1 x Ew G) → (∀ Ew, f d = none → wipe3 Ew vs = E → k2 Ew G) →
      g d E G fun E1 G1 => tt E1 G1 fun b E2 G2 => if b = true then te E2 G2 fun r E3 G3 => ∃ x E4, r.ice E3 = some (x, E4) ∧ k1 x E4 G3 else k2 E2 G2)
    {ds : List D} {k : List D → Env3 → Reg → Prop} (hp : ∀ d ∈ ds, P d) (h : k (ds.filterMap f) E G) : dLcL g tt te vs ds [] E G k :=
  lc_pure P f step ds [] k hp h
/-- a comprehension whose parts move the registers, every item counted -/
theorem lc_reg {g : DG} {tt : DT} {te : DE} {vs : List Nat} {E : Env3} (P : D → Prop) (I : Reg → Prop) (R : D → Prop)
    (step : ∀ d G (k1 : D → Env3 → Reg → Prop) (k2 : Env3 → Reg → Prop), P d → I G → (∀ x Ew G', R x → I G' → wipe3 Ew vs = E → k1 x Ew G') → (∀ Ew G', I G' → wipe3 Ew vs = E → k2 Ew G') →
      g d E G fun E1 G1 => tt E1 G1 fun b E2 G2 => if b = true then te E2 G2 fun r E3 G3 => ∃ x E4, r.ice E3 = some (x, E4) ∧ k1 x E4 G3 else k2 E2 G2) :
    ∀ (ds acc : List D) (G : Reg) (k : List D → Env3 → Reg → Prop), (∀ d ∈ ds, P d) → I G → (∀ xs G', (∀ x ∈ xs, R x) → xs.length ≤ ds.length → I G' → k (acc ++ xs) E G') → dLcL g tt te vs ds acc E G k
  | [], acc, G, k, _, i, h => by simpa using h [] G (fun _ hm => by cases hm) (Nat.le_refl _) i
  | d :: ds, acc, G, k, hp, i, h => step d G _ _ (hp d List.mem_cons_self) i
      (fun x Ew G' r i' w => by
        rw [w]
        refine lc_reg P I R step ds _ G' k (fun z hz => hp z (List.mem_cons_of_mem _ hz)) i' fun xs G2 hx hl i2 => ?_
        rw [List.append_assoc]
        exact h (x :: xs) G2 (fun y hy => (List.mem_cons.mp hy).elim (fun e => by rw [e]; exact r) (hx y)) (by simp only [List.length_cons]; omega) i2)
      fun Ew G' i' w => by
        rw [w]
        exact lc_reg P I R step ds _ G' k (fun z hz => hp z (List.mem_cons_of_mem _ hz)) i' fun xs G2 hx hl i2 => h xs G2 hx (by simp only [List.length_cons]; omega) i2
/-! ### steps -/
/-- a goal that the step words leave alone -/
inductive Stop (p : Prop) : Prop
  | go (h : p)
  | no (h : False)
theorem Stop.of {p : Prop} : Stop p → p
  | .go h => h
  | .no h => h.elim
theorem lc_stop {g : DG} {tt : DT} {te : DE} {vs : List Nat} {ds acc : List D} {E : Env3} {G : Reg} {k : List D → Env3 → Reg → Prop} (h : Stop (dLcL g tt te vs ds acc E G k)) : dLcL g tt te vs ds acc E G k := h.of
theorem for_stop {g : DG} {tb : DSt} {ds : List D} {Dn : Ends3} {E : Env3} {G : Reg} (h : Stop (dForL g tb ds Dn E G)) : dForL g tb ds Dn E G := h.of
theorem ifD {p : Prop} [Decidable p] {A C : Prop} (h1 : p → A) (h2 : ¬ p → C) : if decide p = true then A else C := by
  by_cases h : p
  · rw [decide_eq_true h, if_pos rfl]; exact h1 h
  · rw [decide_eq_false h, if_neg Bool.false_ne_true]; exact h2 h
theorem ifB {b : Bool} {A C : Prop} (h1 : b = true → A) (h2 : b = false → C) : if b = true then A else C := by
  cases b
  · exact h2 rfl
  · exact h1 rfl
theorem ifE {a b : Int} {A C : Prop} (h1 : a = b → A) (h2 : a ≠ b → C) : if D.eqv (.int a) (.int b) = true then A else C := by
  rw [eqv_int]
  exact ifD h1 h2
theorem ifNE {a b : Int} {A C : Prop} (h1 : a ≠ b → A) (h2 : a = b → C) : if (!D.eqv (.int a) (.int b)) = true then A else C := by
  rw [eqv_int]
  by_cases h : a = b
  · rw [decide_eq_true h]; exact h2 h
  · rw [decide_eq_false h]; exact h1 h
theorem ifQ {d e : D} {p : Prop} [Decidable p] {A C : Prop} (hd : D.eqv d e = decide p) (h1 : p → A) (h2 : ¬ p → C) : if D.eqv d e = true then A else C := by
  rw [hd]
  exact ifD h1 h2
theorem ifNQ {d e : D} {p : Prop} [Decidable p] {A C : Prop} (hd : D.eqv d e = decide p) (h1 : ¬ p → A) (h2 : p → C) : if (!D.eqv d e) = true then A else C := by
  rw [hd]
  by_cases h : p
  · rw [decide_eq_true h]; exact h2 h
  · rw [decide_eq_false h]; exact h1 h
theorem ifNBq {a b : Bool} {A C : Prop} (h : a = b) (hc : C) : if (!D.eqv (.bl a) (.bl b)) = true then A else C := by
  rw [eqv_bl, h]
  cases b <;> exact hc
theorem ifT {A C : Prop} (h : A) : if true = true then A else C := h
theorem ifF {A C : Prop} (h : C) : if false = true then A else C := h
theorem look0 {a : Addr} {ds : List D} {R : Reg} : List.lookup a ((a, ds) :: R) = some ds := by simp [List.lookup]
theorem mulC {i j : Int} (h : -(2 ^ 64) < i ∧ i < 2 ^ 64) : MulOk i j := mulOk_left h.1 h.2
theorem mulC' {i j : Int} (h : -(2 ^ 64) < j ∧ j < 2 ^ 64) : MulOk i j := mulOk_right h.1 h.2
theorem cpow (n : Int) (h : 0 ≤ n) (h2 : n ≤ 1000000) : CPow 10 n := ⟨h, h2, by decide⟩
theorem ltL {a b : Nat} (h : Nat.ble (a + 1) b = true) : a < b := Nat.le_of_ble_eq_true h
theorem regS {p : Addr} {R : Reg} {ds es : List D} : regSet ((p, ds) :: R) p es = (p, es) :: R := regSet_head
theorem atN {α : Type} {ds : List α} {r : Int} (h0 : 0 ≤ r) (h : r < (ds.length : Int)) : ∃ d, atI ds r = some d ∧ d ∈ ds := by
  obtain ⟨j, rfl⟩ := Int.eq_ofNat_of_zero_le h0
  have hj : j < ds.length := by exact_mod_cast h
  refine ⟨ds[j], ?_, List.getElem_mem hj⟩
  unfold atI
  rw [ix_nat hj]
  exact List.getElem?_eq_getElem hj
theorem at_nat {α : Type} {ds : List α} {j : Nat} (h : j < ds.length) : atI ds (j : Int) = some ds[j] := by
  unfold atI
  rw [ix_nat h]
  exact List.getElem?_eq_getElem h
theorem fmap_all {α β : Type} {f : α → Option β} {g : α → β} : ∀ {ds : List α}, (∀ d ∈ ds, f d = some (g d)) → ds.filterMap f = ds.map g
  | [], _ => rfl
  | d :: ds, h => by rw [List.filterMap_cons_some (h d List.mem_cons_self), fmap_all fun z hz => h z (List.mem_cons_of_mem _ hz)]; rfl
theorem qT {q : Res → Reg → Prop} {G : Reg} {b : Bool} (hb : b = true) (h : q (.val (.bl true)) G) : q (.val (.bl b)) G := by rw [hb]; exact h
theorem qB {q : Res → Reg → Prop} {G : Reg} {b c : Bool} (h : q (.val (.bl c)) G) (hb : b = c) : q (.val (.bl b)) G := by rw [hb]; exact h
end L3

set_option Elab.async false
set_option maxRecDepth 100000
set_option maxHeartbeats 4000000
/-! L3, part m: slices, plainly. -/
namespace L3
open PySem PySem.Spec PyProof.Rows L2
theorem sIx_neg1 (n d : Nat) : HT.sIx n d (some (-1)) = n - 1 := by
  show (if (-1 : Int) < 0 then ((-1) + (n : Int)).toNat else min (Int.toNat (-1)) n) = n - 1
  rw [if_pos (by decide)]; omega
theorem cut_to {ds : List D} (j : Nat) : cutD ds none (some (j : Int)) = ds.take j := by
  unfold cutD
  rw [HT.sIx_nat, HT.sIx_none, List.drop_zero, Nat.sub_zero]
  by_cases h : j ≤ ds.length
  · rw [Nat.min_eq_left h]
  · rw [Nat.min_eq_right (by omega), List.take_length, List.take_of_length_le (by omega)]
theorem cut_from {ds : List D} (j : Nat) : cutD ds (some (j : Int)) none = ds.drop j := by
  unfold cutD
  rw [HT.sIx_nat, HT.sIx_none]
  by_cases h : j ≤ ds.length
  · rw [Nat.min_eq_left h, List.take_of_length_le (by rw [List.length_drop]; omega)]
  · rw [Nat.min_eq_right (by omega), List.drop_length, List.drop_of_length_le (by omega)]; simp
theorem cut_last {ds : List D} : cutD ds none (some (-1)) = ds.dropLast := by
  unfold cutD
  rw [sIx_neg1, HT.sIx_none, List.drop_zero, Nat.sub_zero, List.dropLast_eq_take]
theorem rangeD_len (lo : Int) (n : Nat) : (rangeD lo n).length = n := by unfold rangeD; rw [List.length_map, List.length_range]
theorem fmap_range {f : D → Option D} {n : Nat} (g : Nat → D) (h : ∀ k, k < n → f (.int (0 + (k : Int))) = some (g k)) : (rangeD 0 n).filterMap f = (List.range n).map g := by
  unfold rangeD
  rw [List.filterMap_map]
  exact fmap_all fun k hk => h k (List.mem_range.1 hk)
theorem fmap_filter {α : Type} {f : D → Option D} {g : α → D} {p : α → Bool} : ∀ {l : List α}, (∀ y ∈ l, f (g y) = if p y then some (g y) else none) → (l.map g).filterMap f = (l.filter p).map g
  | [], _ => rfl
  | y :: l, h => by
    have e := h y List.mem_cons_self
    have ih := fmap_filter (l := l) fun z hz => h z (List.mem_cons_of_mem _ hz)
    rw [List.map_cons, List.filterMap_cons]
    rw [e, ih]
    cases hp : p y
    · rw [List.filter_cons_of_neg (by rw [hp]; decide)]; simp
    · rw [List.filter_cons_of_pos hp]; simp
/-- xs[::-1] -/
def uRevL : D → (Res → Prop) → Prop := fun d k => match d with
  | .lst ds => k (.fr ds.reverse)
  | _ => False
theorem le_revL {X : Cx} {B : Base3} {e : Expr} {ta : DE} {k : Nat} {p1 p2 p3 pos : Pos} (ha : LE X B e ta) : LE X B (.Subscript e (.Slice none none (some (.UnaryOp .USub (.Constant (.int 1) k p1) p2)) p3) pos) (dUn uRevL ta) :=
  ⟨pe_imp (pe_revL ha.pe) fun σ H Q ⟨pn, F, E, G, k, S, ht, hk⟩ => ⟨pn, F, E, G, _, S, ht, fun x E1 G1 ⟨d, hd, h1⟩ v F1 H1 S1 s1 r1 => by
    have rx := S1.getH r1 hd
    unfold uRevL at h1
    split at h1
    · obtain ⟨a, xs, rfl, hs, ra⟩ := rx.lst S1.w.sub
      refine ⟨a, xs, rfl, .inl hs, fun q nq => ?_⟩
      obtain ⟨f, no⟩ := S1.newFre nq ra.reverse
      exact hk _ _ _ h1 _ _ _ (S1.newU nq) s1 ⟨q, rfl, f, no⟩
    · exact h1.elim⟩⟩
end L3

set_option Elab.async false
set_option maxRecDepth 100000
set_option maxHeartbeats 4000000
/-! L3, part n: instances of classes with slots: read, filled by __init__, made. -/
namespace L3
open PySem PySem.Spec PyProof.Rows L2
/-- the slot f of the class of that name is its i-th -/
structure SlotAt (K : PySem.W.Frag) (nm f : Str) (i : Nat) : Prop where
  ex : ∃ C p, ClsN K nm C ∧ SlX.SCls K C ∧ SlX.Slot1 K C f p i
theorem ClsN.eq {K : PySem.W.Frag} {nm : Str} {C C' : Addr} (h : ClsN K nm C) (h' : ClsN K nm C') : C = C' := by
  unfold ClsN at h h'
  rw [h] at h'
  cases h'
  rfl
section
variable {X : Cx} {B : Base3}
theorem RepH.obj {K : PySem.W.Frag} {F H : Hp} {nm : Str} {fs : List D} {v : V} (r : RepH K F H (.obj nm fs) v) (s : Same F H) : ∃ a C dx xs, v = .ref a ∧ ClsN K nm C ∧ SlX.Slt H a C dx (xs.map some) ∧ RepL K F fs xs := by
  rcases r with r | ⟨_, _, _, e, _⟩
  · cases r with
    | obj h1 h2 h3 h4 => exact ⟨_, _, _, _, rfl, h1, .inr ⟨s _ _ h2, s _ _ h3⟩, h4⟩
  · cases e
/-- e.f, f a slot -/
def dAttr (tbl : List (Str × Nat)) (te : DE) : DE := fun E G k => te E G fun x E1 G1 => ∃ nm fs, x.get E1 = some (.obj nm fs) ∧ ∃ i, tbl.lookup nm = some i ∧ ∃ d, fs[i]? = some d ∧ k (.val d) E1 G1
theorem le_attr {e : Expr} {f : Str} {pos : Pos} {ta : DE} (tbl : List (Str × Nat)) (h : ∀ nm i, tbl.lookup nm = some i → SlotAt X.K nm f i) (he : LE X B e ta) (hb : attributeBase e f X.env (eval e X.env) = eval e X.env := by rfl) :
    LE X B (.Attribute e f pos) (dAttr tbl ta) :=
  ⟨pe_imp (SlX.pe_sl he.pe hb) fun σ H Q ⟨pn, F, E, G, k, S, ht, hk⟩ => ⟨pn, F, E, G, _, S, ht, fun x E1 G1 ⟨nm, fs, hx, i, hl, d, hd, h1⟩ v F1 H1 S1 s1 r1 => by
    obtain ⟨a, C, dx, xs, rfl, hC, hs, hf⟩ := (S1.getH r1 hx).obj S1.w.sub
    obtain ⟨C', p, hC', sc, sl⟩ := (h nm i hl).ex
    cases hC.eq hC'
    obtain ⟨u, hu, ru⟩ := hf.get hd
    exact ⟨a, C, dx, p, _, i, u, rfl, hs, sc, sl, by rw [List.getElem?_map, hu]; rfl, hk _ _ _ h1 u F1 H1 S1 s1 ru⟩⟩⟩
/-! ### self.f = e in __init__ -/
def putO (i : Nat) (d : D) (fs : List (Option D)) : List (Option D) := (fs ++ List.replicate (i + 1 - fs.length) none).set i (some d)
theorem putO_get {i j : Nat} {d e : D} {fs : List (Option D)} (h : (putO i d fs)[j]? = some (some e)) : (i = j ∧ e = d) ∨ (i ≠ j ∧ fs[j]? = some (some e)) := by
  unfold putO at h
  by_cases q : i = j
  · subst q
    rw [List.getElem?_set] at h
    simp only [if_true] at h
    split at h
    · cases h; exact .inl ⟨rfl, rfl⟩
    · cases h
  · rw [List.getElem?_set_ne q] at h
    refine .inr ⟨q, ?_⟩
    by_cases z : j < fs.length
    · rw [List.getElem?_append_left z] at h; exact h
    · rw [List.getElem?_append_right (by omega)] at h
      have := List.mem_of_getElem? h
      have := List.eq_of_mem_replicate this
      cases this
theorem RepO.put {K : PySem.W.Frag} {F : Hp} {fs : List (Option D)} {vs : List (Option V)} (h : RepO K F fs vs) (i : Nat) {d : D} {v : V} (r : Rep K F d v) : RepO K F (putO i d fs) (SlX.putS i v vs) := by
  refine ⟨?_, fun j e he => ?_⟩
  · unfold putO SlX.putS
    simp only [List.length_set, List.length_append, List.length_replicate, h.1]
  · rcases putO_get he with ⟨q, rfl⟩ | ⟨q, z⟩
    · subst q
      exact ⟨v, SlX.putS_get _ _ _, r⟩
    · obtain ⟨u, h1, h2⟩ := h.2 j e z
      exact ⟨u, (SlX.putS_ne (fun w => q w.symm)).mpr h1, h2⟩
/-- the pending entries at a and dx become these -/
def pnSet (a : Addr) (o : HO) (dx : Addr) (o' : HO) (pn : Pend) : Pend := pn.map fun p => if p.1 = a then (a, o) else if p.1 = dx then (dx, o') else p
theorem pnSet_dom (a : Addr) (o : HO) (dx : Addr) (o' : HO) (pn : Pend) : (pnSet a o dx o' pn).map (·.1) = pn.map (·.1) := by
  unfold pnSet
  rw [List.map_map]
  refine List.map_congr_left fun p _ => ?_
  simp only [Function.comp]
  split
  · rename_i e; exact e.symm
  · split
    · rename_i e; exact e.symm
    · rfl
theorem St3.slotWrite {K : PySem.W.Frag} {pn : Pend} {F H : Hp} {σ : L2.St} {E : Env3} {G : Reg} (S : St3 K B pn F H σ E G) {nm : Str} {fs : List (Option D)} (h : E[0]? = some (Sl3.new nm fs)) (i : Nat) {d : D} {y : V} (r : Rep K F d y) :
    ∃ a C dx vs, σ[0]? = some (some (V.ref a)) ∧ ClsN K nm C ∧ SlX.Slt H a C dx vs ∧ ∃ pn', St3 K B pn' F (SlX.slH H a C dx (SlX.putS i y vs)) σ (E.set 0 (Sl3.new nm (putO i d fs))) G := by
  obtain ⟨a, C, dx, vs, ⟨ha, hσ⟩, hne, hC, hR, hP⟩ := S.news nm fs h
  have mA : ∃ o, (a, o) ∈ pn := by
    rcases hP with ⟨_, z, _⟩ | ⟨z, _⟩
    · exact ⟨_, z⟩
    · exact ⟨_, z⟩
  have mD : ∃ o, (dx, o) ∈ pn := by
    rcases hP with ⟨_, _, z⟩ | ⟨_, z⟩
    · exact ⟨_, z⟩
    · exact ⟨_, z⟩
  obtain ⟨oA, mA⟩ := mA
  obtain ⟨oD, mD⟩ := mD
  obtain ⟨a1, a2, a3, a4⟩ := S.pend a oA mA
  obtain ⟨d1, d2, d3, d4⟩ := S.pend dx oD mD
  have slt : SlX.Slt H a C dx vs := by
    rcases hP with ⟨z1, z, _⟩ | ⟨z, z2⟩
    · exact .inl ⟨(S.pend _ _ z).1, z1⟩
    · exact .inr ⟨(S.pend _ _ z).1, (S.pend _ _ z2).1⟩
  have dA : a ∈ pn.map (·.1) := List.mem_map.mpr ⟨_, mA, rfl⟩
  have dD : dx ∈ pn.map (·.1) := List.mem_map.mpr ⟨_, mD, rfl⟩
  have away : ∀ b, b ≠ a → b ≠ dx → SlX.slH H a C dx (SlX.putS i y vs) b = H b := fun b n1 n2 => SlX.slH_ne n1 n2
  have atA : SlX.slH H a C dx (SlX.putS i y vs) a = some (SlX.SlO a C dx (SlX.putS i y vs)) := by unfold SlX.slH; exact upd_same
  have atD : SlX.slH H a C dx (SlX.putS i y vs) dx = some (.xd []) := by unfold SlX.slH; rw [upd_ne hne, upd_same]
  have nofree : ∀ {b : Addr} {ds : List D}, Fre K B pn F H G b ds → b ≠ a ∧ b ≠ dx := fun f => ⟨fun z => f.nP (by rw [z]; exact dA), fun z => f.nP (by rw [z]; exact dD)⟩
  refine ⟨a, C, dx, vs, hσ, hC, slt, pnSet a (SlX.SlO a C dx (SlX.putS i y vs)) dx (.xd []) pn, ⟨⟨fun b u hb => ?_, fun b es hb => ?_, S.w.nd⟩, S.keepF, fun b u hb hg => ?_, S.unfr, S.regs, S.regk, by rw [List.length_set]; exact S.len, fun j e hj => ?_, fun j es hj => ?_, fun j k es gs b h1 h2 => ?_, fun b o hb => ?_, by rw [pnSet_dom]; exact S.pnd, fun nm' fs' hj => ?_⟩⟩
  · rw [away b (ne_of_none hb a2) (ne_of_none hb d2)]; exact S.w.sub b u hb
  · obtain ⟨h1, xs, h2, h3⟩ := S.w.reg b es hb
    have hm : b ∈ G.map (·.1) := List.mem_map.mpr ⟨_, hb, rfl⟩
    exact ⟨h1, xs, by rw [away b (fun z => a4 (by rw [← z]; exact hm)) (fun z => d4 (by rw [← z]; exact hm))]; exact h2, h3⟩
  · rw [away b (ne_of_none hb a3) (ne_of_none hb d3)]; exact S.keepH b u hb hg
  · rcases set_look hj with ⟨_, z⟩ | ⟨_, z⟩
    · cases z
    · exact S.slot j e z
  · rcases set_look hj with ⟨_, z⟩ | ⟨_, z⟩
    · cases z
    · obtain ⟨b, e1, f⟩ := S.own j es z
      obtain ⟨xs, e2, r2⟩ := f.ex
      obtain ⟨n1, n2⟩ := nofree f
      exact ⟨b, e1, ⟨f.nF, f.nB, f.nG, by rw [pnSet_dom]; exact f.nP, xs, by rw [away b n1 n2]; exact e2, r2⟩⟩
  · rcases set_look h1 with ⟨_, z⟩ | ⟨_, z⟩
    · cases z
    rcases set_look h2 with ⟨_, z'⟩ | ⟨_, z'⟩
    · cases z'
    exact S.ownd j k es gs b z z'
  · unfold pnSet at hb
    obtain ⟨p, hp, e⟩ := List.mem_map.mp hb
    by_cases q1 : p.1 = a
    · rw [if_pos q1] at e
      cases e
      exact ⟨atA, a2, a3, a4⟩
    · rw [if_neg q1] at e
      by_cases q2 : p.1 = dx
      · rw [if_pos q2] at e
        cases e
        exact ⟨atD, d2, d3, d4⟩
      · rw [if_neg q2] at e
        obtain ⟨p1, p2⟩ := p
        cases e
        obtain ⟨x1, x2, x3, x4⟩ := S.pend _ _ hp
        exact ⟨by rw [away _ q1 q2]; exact x1, x2, x3, x4⟩
  · rcases set_look hj with ⟨_, z⟩ | ⟨ne, z⟩
    · cases z
      refine ⟨a, C, dx, _, ⟨ha, hσ⟩, hne, hC, hR.put i r, .inr ⟨?_, ?_⟩⟩
      · exact List.mem_map.mpr ⟨_, mA, by simp⟩
      · exact List.mem_map.mpr ⟨_, mD, by simp [hne]⟩
    · exact absurd rfl ne
def dSetA (tbl : List (Str × Nat)) (te : DE) : DSt := fun D E G => te E G fun r E1 G1 => ∃ d E2, r.ice E1 = some (d, E2) ∧ ∃ nm fs, E2[0]? = some (Sl3.new nm fs) ∧ ∃ i, tbl.lookup nm = some i ∧ D.nx (E2.set 0 (Sl3.new nm (putO i d fs))) G1
theorem ls_attr {o value : Expr} {f : Str} {pos pos' : Pos} {tv : DE} (tbl : List (Str × Nat)) (h : ∀ nm i, tbl.lookup nm = some i → SlotAt X.K nm f i) (ho : PE X o (tVar 0)) (hv : LE X B value tv)
    (hs : swapsWith value (some (.Attribute o f pos')) pos.line X.env = pure false := by rfl) : LS X B (.Assign [.Attribute o f pos'] value pos) (dSetA tbl tv) :=
  ⟨ps_imp (SlX.ps_sl ho hv.pe hs) fun D σ H ⟨pn, F, E, G, D3, S, ht, ok⟩ => ⟨pn, F, E, G, _, S, ht, fun r E1 G1 ⟨d, E2, hi, nm, fs, h0, i, hl, h1⟩ y F1 H1 S1 s1 r1 => by
    obtain ⟨F2, S2, s2, ry⟩ := S1.ice r1 hi
    obtain ⟨a, C, dx, vs, hσ, hC, slt, pn', S3⟩ := S2.slotWrite h0 i ry
    obtain ⟨C', p, hC', sc, sl⟩ := (h nm i hl).ex
    cases hC.eq hC'
    exact ⟨_, hσ, a, C, dx, p, vs, i, rfl, slt, sc, sl, ok.nx _ _ h1 σ F2 _ S3 (s1.trans s2)⟩⟩⟩
end
end L3

set_option Elab.async false
set_option maxRecDepth 100000
set_option maxHeartbeats 4000000
/-! L3, part o: an instance is made: the promise of its __init__. -/
namespace L3
open PySem PySem.Spec PyProof.Rows L2
/-- a promise of __init__: of the arguments behind self; the slots, filled -/
abbrev DSpI := List D → Reg → (List D → Reg → Prop) → (Exc3 → Reg → Prop) → Prop
def LSpI (K : PySem.W.Frag) (nm : Str) (sp : DSpI) : Sp := fun vs H Q E => ∃ (H0 F : Hp) (G : Reg) (a C dx : Addr) (rest : List V) (ds : List D) (k : List D → Reg → Prop) (kx : Exc3 → Reg → Prop),
  vs = V.ref a :: rest ∧ (H0 a = none ∧ H0 dx = none ∧ dx ≠ a ∧ H = upd (upd H0 dx (.own a)) a (.ins C dx []) ∧ ClsN K nm C) ∧ Wld K F H0 G ∧ RepL K F ds rest ∧ sp ds G k kx ∧
  (∀ fs G', k fs G' → ∀ (F' H' : Hp) (dx' : Addr) (xs : List V), After K F H0 G F' H' G' → (F' a = none ∧ a ∉ G'.map (·.1) ∧ H' a = some (SlX.SlO a C dx' (xs.map some))) → (H0 dx' = none ∧ F' dx' = none ∧ dx' ∉ G'.map (·.1) ∧ dx' ≠ a ∧ H' dx' = some (.xd [])) → RepL K F' fs xs → Q .non H') ∧
  (∀ x G', kx x G' → ∀ cls dd F' H', After K F H0 G F' H' G' → RepX K F' x cls dd → E cls dd H')
/-- the frame of __init__ as it begins -/
def startI (nm : Str) (N : List Str) (ds : List D) : Env3 := (start3 N (.non :: ds)).set 0 (Sl3.new nm [])
section
variable {P : Program} {w : World} {K : PySem.W.Frag} {mg : Str → Option Value} {base : Heap}
theorem noOwn_at {B : Base3} {pn : Pend} {F H : Hp} {σ : L2.St} {E : Env3} {G : Reg} (S : St3 K B pn F H σ E G) {a : Addr} (h : H a = none) : NoOwn σ E a := fun i es hi e => by
  obtain ⟨b, e1, f⟩ := S.own i es hi
  rw [e] at e1
  cases e1
  obtain ⟨xs, q, _⟩ := f.ex
  rw [h] at q; cases q
theorem notReg_at {F H : Hp} {G : Reg} (w : Wld K F H G) {a : Addr} (h : H a = none) : a ∉ G.map (·.1) := fun hm => by
  obtain ⟨o, q⟩ := w.regH hm
  rw [h] at q; cases q
theorem startI_st {N : List Str} {nm : Str} {F H0 : Hp} {G : Reg} {ds : List D} {rest : List V} {a C dx : Addr} (hN : 0 < N.length) (wl : Wld K F H0 G) (r : RepL K F ds rest) (ha : H0 a = none) (hd : H0 dx = none) (hne : dx ≠ a) (hC : ClsN K nm C) :
    St3 K ⟨F, H0, G.map (·.1), a⟩ [(a, .ins C dx []), (dx, .own a)] F (upd (upd H0 dx (.own a)) a (.ins C dx [])) (L2.start N (V.ref a :: rest)) (startI nm N ds) G := by
  have S0 : St3 K ⟨F, H0, G.map (·.1), a⟩ [] F H0 (L2.start N (V.ref a :: rest)) (start3 N (.ref a :: ds)) G := by
    have := start_st (N := N) wl (RepL.cons (.ref a) r)
    exact ⟨this.w, this.keepF, this.keepH, this.unfr, this.regs, this.regk, this.len, this.slot, fun i es h => by
      obtain ⟨b, e, f⟩ := this.own i es h
      exact ⟨b, e, ⟨f.nF, f.nB, f.nG, f.nP, f.ex⟩⟩, this.ownd, this.pend, this.pnd, fun nm fs h => by
      obtain ⟨b, C, dx, vs, h1, h2, h3, h4, h5⟩ := this.news nm fs h
      rcases h5 with ⟨_, z, _⟩ | ⟨z, _⟩ <;> cases z⟩
  have no : ∀ b, NoOwn (L2.start N (V.ref a :: rest)) (start3 N (.ref a :: ds)) b := fun b i es h => by
    unfold start3 at h
    by_cases q : i < (D.ref a :: ds).length
    · rw [List.getElem?_append_left (by simpa using q), List.getElem?_map, List.getElem?_eq_getElem q] at h
      cases h
    · rw [List.getElem?_append_right (by simpa using Nat.le_of_not_lt q)] at h
      have := List.eq_of_mem_replicate (List.mem_of_getElem? h)
      cases this
  have fA := wl.fNone ha
  have fD := wl.fNone hd
  have gA := notReg_at wl ha
  have gD := notReg_at wl hd
  have S1 := (S0.newU (o := .own a) hd).pendOn fD hd gD (by simp) upd_same (no dx)
  have ha1 : upd H0 dx (.own a) a = none := by rw [upd_ne hne.symm]; exact ha
  have S2 := (S1.newU (o := .ins C dx []) ha1).pendOn fA ha gA (by simp; exact fun z => hne z.symm) upd_same (no a)
  have e0 : (start3 N (.ref a :: ds)).set 0 (Sl3.new nm []) = startI nm N ds := by
    unfold startI start3
    rfl
  rw [← e0]
  have hσ : (L2.start N (V.ref a :: rest))[0]? = some (some (V.ref a)) := by unfold L2.start; rfl
  refine ⟨S2.w, S2.keepF, S2.keepH, S2.unfr, S2.regs, S2.regk, by rw [List.length_set]; exact S2.len, fun j e hj => ?_, fun j es hj => ?_, fun j k es gs b h1 h2 => ?_, S2.pend, S2.pnd, fun nm' fs' hj => ?_⟩
  · rcases set_look hj with ⟨_, z⟩ | ⟨_, z⟩
    · cases z
    · exact S2.slot j e z
  · rcases set_look hj with ⟨_, z⟩ | ⟨_, z⟩
    · cases z
    · exact S2.own j es z
  · rcases set_look h1 with ⟨_, z⟩ | ⟨_, z⟩
    · cases z
    rcases set_look h2 with ⟨_, z'⟩ | ⟨_, z'⟩
    · cases z'
    exact S2.ownd j k es gs b z z'
  · rcases set_look hj with ⟨_, z⟩ | ⟨ne, z⟩
    · cases z
      exact ⟨a, C, dx, [], ⟨rfl, hσ⟩, hne, hC, ⟨rfl, fun i d h => by simp at h⟩, .inl ⟨rfl, by simp, by simp⟩⟩
    · exact absurd rfl ne
theorem RepO.full {F : Hp} : ∀ {gs : List D} {vs : List (Option V)}, RepO K F (gs.map some) vs → ∃ xs, vs = xs.map some ∧ RepL K F gs xs
  | [], vs, h => by
    have := h.1
    cases vs with
    | nil => exact ⟨[], rfl, .nil⟩
    | cons _ _ => simp at this
  | g :: gs, [], h => by have := h.1; simp at this
  | g :: gs, v :: vs, h => by
    obtain ⟨u, h1, h2⟩ := h.2 0 g rfl
    have h1' : v = some u := by simpa using h1
    obtain ⟨xs, e, r⟩ := RepO.full (gs := gs) (vs := vs) ⟨by have := h.1; simpa using this, fun i d hi => h.2 (i + 1) d (by simpa using hi)⟩
    exact ⟨u :: xs, by rw [h1', e]; rfl, .cons h2 r⟩
/-- THE RULE for an __init__ -/
theorem okI3 {x qual nm : Str} {st : Stmt} {f : Addr} {fd : FuncData} {N ps : List Str} {k : Nat} {sp : DSpI} (F : Fun K x qual st f fd) (S : FnScope N ps (defScope st)) (hN : 0 < N.length) (len : ∀ ds G q e, sp ds G q e → ds.length + 1 = ps.length)
    (body : ∀ (cdv : Value) (A : Around) (outer : List Env) (s : Shared) (H : Hp) (E : XK) (B : Base3) (dw : Exc3 → Reg → Prop), Room k (A.deeper (envOfC qual (defScope st) s.heap.objs.size f cdv)) →
      WOk (cxOf (L2.CX P w) P w K mg base N qual (defScope st) f cdv A outer s H E) B (fun x _ G => dw x G) →
      ∃ t : DSt, LSs (cxOf (L2.CX P w) P w K mg base N qual (defScope st) f cdv A outer s H E) B (defBody st) t ∧ ∀ ds G q, sp ds G q dw → t { nx := fun E' G' => ∃ gs : List D, E'[0]? = some (Sl3.new nm (gs.map some)) ∧ gs ≠ [] ∧ q gs G', rt := fun _ _ => False } (startI nm N ds) G) :
    FnOk P w K mg base (L2.CX P w) (k + 1) f fd ps (LSpI K nm sp) := by
  refine F.okX S (fun vs H Q E h => ?_) (fun cdv A outer s H vs Q E hr h => ?_)
  · obtain ⟨H0, F, G, a, C, dx, rest, ds, q, e, rfl, _, _, r, h, _⟩ := h
    rw [List.length_cons, ← r.length]
    exact len _ _ _ _ h
  · obtain ⟨H0, F, G, a, C, dx, rest, ds, q, e, rfl, ⟨ha, hd, hne, rfl, hC⟩, wl, r, h, hq, he⟩ := h
    have aft : ∀ {F' H' : Hp} {G' : Reg} {pn : Pend} {σ : L2.St} {E : Env3}, St3 K ⟨F, H0, G.map (·.1), a⟩ pn F' H' σ E G' → After K F H0 G F' H' G' := fun S => ⟨S.w, S.keepF, S.keepH, S.unfr, S.regs, S.regk⟩
    have wk : WOk (cxOf (L2.CX P w) P w K mg base N qual (defScope st) f cdv A outer s (upd (upd H0 dx (.own a)) a (.ins C dx [])) E) ⟨F, H0, G.map (·.1), a⟩ (fun x _ G => e x G) :=
      ⟨fun cls d _ H => E cls d H, takes_of rfl rfl rfl rfl, fun pn F' H' σ E' G' x cls dd S' rx hx => he x G' hx cls dd F' H' (aft S') rx⟩
    obtain ⟨t, hb, ht⟩ := body cdv A outer s (upd (upd H0 dx (.own a)) a (.ins C dx [])) E ⟨F, H0, G.map (·.1), a⟩ e hr wk
    refine ⟨_, hb.pss, ⟨_, F, startI nm N ds, G, _, startI_st hN wl r ha hd hne hC, ht ds G q h, ⟨fun E' G' h' σ' F' H' S' _ => ?_, fun _ _ z => z.elim, fun _ _ z => z.elim, fun _ _ z => z.elim⟩⟩⟩
    obtain ⟨gs, h0, hg, hk⟩ := h'
    obtain ⟨a', C', dx', vs, ⟨rfl, _⟩, hne', hC', hR, hP⟩ := S'.news nm _ h0
    obtain ⟨xs, rfl, rx⟩ := hR.full
    cases hC.eq hC'
    have fin : H' a' = some (SlX.SlO a' C dx' (xs.map some)) ∧ H' dx' = some (.xd []) ∧ (F' dx' = none ∧ H0 dx' = none ∧ dx' ∉ G'.map (·.1)) ∧ (F' a' = none ∧ a' ∉ G'.map (·.1)) → _ := fun ⟨h1, h2, ⟨h3, h4, h5⟩, h6, h7⟩ => hq gs G' hk F' H' dx' xs (aft S') ⟨h6, h7, h1⟩ ⟨h4, h3, h5, hne', h2⟩ rx
    rcases hP with ⟨z, _, _⟩ | ⟨z1, z2⟩
    · have : xs = [] := by simpa using z
      subst this
      cases rx
      exact absurd rfl hg
    · obtain ⟨b1, b2, b3, b4⟩ := S'.pend _ _ z1
      obtain ⟨c1, c2, c3, c4⟩ := S'.pend _ _ z2
      exact fin ⟨b1, c1, ⟨c2, c3, c4⟩, b2, b4⟩
/-- a class whose instances are made by such an __init__ -/
structure New3 (P : Program) (w : World) (K : PySem.W.Frag) (mg : Str → Option Value) (base : Heap) (nm : Str) (k : Nat) (sp : DSpI) : Prop where
  ex : ∃ (C f : Addr) (fd : FuncData) (ps : List Str), ClsN K nm C ∧ Mk K C f ∧ mg nm = some (.ref C) ∧ Binds K fd ps [] ∧ FnOk P w K mg base (L2.CX P w) k f fd ps (LSpI K nm sp)
end
section
variable {X : Cx} {B : Base3}
def dMake (nm : Str) (sp : DSpI) (ta : DA) : DE := fun E G k => ta E G fun ds E1 G1 => sp ds G1 (fun fs G2 => k (.val (.obj nm fs)) E1 G2) (fun _ _ => False)
theorem passF : Passes (L2.CX X.prog X.w) X (fun _ _ _ => False) := fun _ _ _ _ _ _ _ ⟨_, _, _, _, _, _, _, _, _, _, _, _, z⟩ => z.elim
theorem le_make {nm : Str} {k j : Nat} {sp : DSpI} {ta : DA} {p pos : Pos} {e : Expr} {es : List Expr} (n : New3 X.prog X.w X.K X.mg X.base nm k sp) (hr : Room j X.A) (hk : k + 1 ≤ j) (hg : Gl X nm) (ha : LA X B (e :: es) ta)
    (hdb : (nm == ("__debug__" : Str)) = false := by decide) (he : starEach (e :: es) X.env = (false, eval e X.env) :: starEach es X.env := by rfl) (hpl : (backTo pos (starEach es X.env)).any (·.1) = false := by rfl) :
    LE X B (.Call (.Name nm p) (e :: es) [] pos) (dMake nm sp ta) := by
  obtain ⟨C, f, fd, ps, hC, M, hm, hb, Fn⟩ := n.ex
  refine ⟨pe_imp (pe_make M Fn (hr.mono hk) hg hm hb .nil passF ha.pa hdb he hpl) fun σ H Q ⟨pn, F, E, G, k, S, ht, hk⟩ => ⟨pn, F, E, G, _, S, ht, fun ds E1 G1 h1 vs F1 H1 S1 s1 r1 x dx nx ndx ne => ?_⟩⟩
  refine ⟨H1, F1, G1, x, C, dx, vs, ds, _, _, by rw [List.append_nil], ⟨nx, ndx, ne, rfl, hC⟩, S1.w, r1, h1, fun fs G' h2 F2 H2 dx' xs A ⟨a1, a2, a3⟩ ⟨b0, b1, b2, b3, b4⟩ r2 => ⟨rfl, ?_⟩, fun _ _ z => z.elim⟩
  have S2 := S1.wldAfter A
  have dom : ∀ {b : Addr}, H1 b = none → b ∉ pn.map (·.1) := fun h hm => by
    obtain ⟨q, hq, rfl⟩ := List.mem_map.mp hm
    have := (S1.pend q.1 q.2 hq).1
    rw [h] at this; cases this
  have noo : ∀ {b : Addr}, H1 b = none → NoOwn σ E1 b := fun h => noOwn_at S1 h
  obtain ⟨S3, s3⟩ := S2.freezeAt b1 (S1.baseNone b0) b2 (dom b0) (noo b0) b4
  have a1' : upd F2 dx' (.xd []) x = none := by rw [upd_ne b3.symm]; exact a1
  obtain ⟨S4, s4⟩ := S3.freezeAt a1' (S1.baseNone nx) a2 (dom nx) (noo nx) a3
  refine hk _ _ _ h2 _ _ _ S4 (((s1.trans A.keepF).trans s3).trans s4) ?_
  exact .obj hC upd_same (s4 _ _ upd_same) (RepL.mono (s3.trans s4) _ _ r2)
end
end L3

set_option Elab.async false
set_option maxRecDepth 100000
set_option maxHeartbeats 4000000
/-! L3, part p: properties, methods, isinstance of instances. -/
namespace L3
open PySem PySem.Spec PyProof.Rows L2
section
variable {P : Program} {w : World} {K : PySem.W.Frag} {mg : Str → Option Value} {base : Heap}
/-- a def from which nothing is raised -/
theorem okP3 {x qual : Str} {st : Stmt} {f : Addr} {fd : FuncData} {N ps : List Str} {k : Nat} {sp : DSp} (F : Fun K x qual st f fd) (S : FnScope N ps (defScope st)) (len : ∀ ds G q e, sp ds G q e → ds.length = ps.length)
    (body : ∀ (cdv : Value) (A : Around) (outer : List Env) (s : Shared) (H : Hp) (E : XK) (B : Base3) (dw : Exc3 → Reg → Prop), Room k (A.deeper (envOfC qual (defScope st) s.heap.objs.size f cdv)) →
      ∃ t : DSt, LSs (cxOf CX0 P w K mg base N qual (defScope st) f cdv A outer s H E).nox B (defBody st) t ∧ ∀ ds G q, sp ds G q dw → t { nx := fun _ G' => q (.val .non) G', rt := q } (start3 N ds) G) :
    FnOk P w K mg base CX0 (k + 1) f fd ps (LSp K sp) := by
  refine F.ok S (fun vs H Q E h => ?_) (fun cdv A outer s H vs Q E hr h => ?_)
  · obtain ⟨F, G, ds, q, e, _, r, h, _⟩ := h
    rw [← r.length]
    exact len _ _ _ _ h
  · obtain ⟨F, G, ds, q, e, wl, r, h, hq, he⟩ := h
    obtain ⟨t, hb, ht⟩ := body cdv A outer s H E ⟨F, H, G.map (·.1), 0⟩ e hr
    refine ⟨_, hb.pss, ⟨[], F, start3 N ds, G, _, start_st wl r, ht ds G q h, ⟨fun E' G' h' σ' F' H' S' _ => hq _ _ h' _ F' H' S'.afterB .non, fun r' G' h' v F' H' σ' E' S' _ rr => hq _ _ h' v F' H' S'.afterB ?_, fun _ _ z => z.elim, fun _ _ z => z.elim⟩⟩⟩
    cases r' with
    | val d => exact rr
    | fr es =>
      obtain ⟨a, rfl, f⟩ := rr
      obtain ⟨xs, h1, h2⟩ := f.ex
      exact ⟨a, xs, rfl, f.nF, f.nB, f.nG, h1, h2⟩
    | sl i => exact rr.elim
/-- the property f of the class of that name -/
structure Prop3 (P : Program) (w : World) (K : PySem.W.Frag) (mg : Str → Option Value) (base : Heap) (nm f : Str) (k : Nat) (sp : DSp) : Prop where
  ex : ∃ (C p g : Addr) (fd : FuncData) (ps : List Str), ClsN K nm C ∧ SlX.SCls K C ∧ PySem.W.findIn K (.ref C) f = some (some (.ref p)) ∧ PySem.W.specialIn K (.ref p) "__get__" = some (some (.builtin "property.__get__")) ∧ PySem.W.takesIn K (.ref p) = some true ∧
    (∃ rest, PySem.W.recIn K p "property" = some (.ref g :: rest)) ∧ FnOk P w K mg base CX0 k g fd ps (LSp K sp) ∧ Binds K fd ps []
/-- a method of the class of that name -/
structure Meth3 (P : Program) (w : World) (K : PySem.W.Frag) (mg : Str → Option Value) (base : Heap) (nm m : Str) (k : Nat) (sp : DSp) : Prop where
  ex : ∃ (C g : Addr) (fd : FuncData) (ps : List Str), ClsN K nm C ∧ SlX.SCls K C ∧ Meth K C m g ∧ FnOk P w K mg base (L2.CX P w) k g fd ps (LSp K sp) ∧ Binds K fd ps []
/-- isinstance of an instance of n1 and the class n2 -/
structure Isi3 (K : PySem.W.Frag) (n1 n2 : Str) (b : Bool) : Prop where
  ex : ∃ C1 C2, ClsN K n1 C1 ∧ ClsN K n2 C2 ∧ SlX.SCls K C1 ∧ SlX.SIsi K C1 ∧ PySem.W.kitOne K (.ref C1) (.ref C2) = some b
end
section
variable {X : Cx} {B : Base3}
def dProp (nm : Str) (sp : DSp) (te : DE) : DE := fun E G k => te E G fun x E1 G1 => ∃ fs, x.get E1 = some (.obj nm fs) ∧ sp [.obj nm fs] G1 (fun r G2 => k r E1 G2) (fun _ _ => False)
theorem RepH.obj' {K : PySem.W.Frag} {F H : Hp} {nm : Str} {fs : List D} {v : V} (r : RepH K F H (.obj nm fs) v) (s : Same F H) : ∃ (a C dx : Addr) (xs : List V), v = .ref a ∧ ClsN K nm C ∧ SlX.Slt H a C dx (xs.map some) ∧ Rep K F (.obj nm fs) (.ref a) := by
  rcases r with r | ⟨_, _, _, e, _⟩
  · cases r with
    | obj h1 h2 h3 h4 => exact ⟨_, _, _, _, rfl, h1, .inr ⟨s _ _ h2, s _ _ h3⟩, .obj h1 h2 h3 h4⟩
  · cases e
theorem le_prop {nm f : Str} {k j : Nat} {sp : DSp} {e : Expr} {te : DE} {pos : Pos} (p : Prop3 X.prog X.w X.K X.mg X.base nm f k sp) (hr : Room j X.A) (hk : k + 1 ≤ j) (he : LE X B e te) (hb : attributeBase e f X.env (eval e X.env) = eval e X.env := by rfl) :
    LE X B (.Attribute e f pos) (dProp nm sp te) := by
  obtain ⟨C, pp, g, fd, ps, hC, sc, at_, get, tk, rc, Fn, hbd⟩ := p.ex
  refine ⟨pe_imp (SlX.pe_propSl (E := fun _ _ _ => False) he.pe sc at_ get tk rc (Fn.raw hbd .nil) (hr.mono hk) (fun _ _ _ _ z => z) hb) fun σ H Q ⟨pn, F, E, G, k, S, ht, hk⟩ => ⟨pn, F, E, G, _, S, ht, fun x E1 G1 ⟨fs, hx, h1⟩ v F1 H1 S1 s1 r1 => ?_⟩⟩
  obtain ⟨a, C', dx, xs, rfl, hC', hs, r⟩ := (S1.getH r1 hx).obj' S1.w.sub
  cases hC.eq hC'
  refine ⟨a, dx, _, rfl, hs, F1, G1, [.obj nm fs], _, _, S1.w, .cons r .nil, h1, fun r' G' h2 v F2 H2 A r2 => ?_, fun _ _ z => z.elim⟩
  exact hk _ _ _ h2 v F2 H2 (S1.wldAfter A) (s1.trans A.keepF) (S1.retR r2)
def bIsiC (tbl : List ((Str × Str) × Bool)) : Reg → List D → (Res → Prop) → Prop := fun _ ds k => match ds with
  | [.obj n1 _, .cls n2] => ∃ b, tbl.lookup (n1, n2) = some b ∧ k (.val (.bl b))
  | _ => False
theorem le_isiC {e e2 : Expr} {ta : DA} {p pos : Pos} (tbl : List ((Str × Str) × Bool)) (hT : ∀ n1 n2 b, tbl.lookup (n1, n2) = some b → Isi3 X.K n1 n2 b) (hg : Gl X "isinstance") (hm : X.mg "isinstance" = none) (ha : LP X B [e, e2] ta) (he : starEach [e, e2] X.env = (false, eval e X.env) :: starEach [e2] X.env := by rfl) (hpl : (backTo pos (starEach [e2] X.env)).any (·.1) = false := by rfl) :
    LE X B (.Call (.Name "isinstance" p) [e, e2] [] pos) (dCB (bIsiC tbl) ta) :=
  le_callB (r := fun xs H Q => ∃ u, SlX.rIsiSl X.K u xs H Q) (fun pins s σ H xs us Q I r ⟨u, h⟩ => SlX.call_isiSl u pins s σ H xs us Q I r h) (fun pn F H σ E G vs ds k Q S r h hk => by
  unfold bIsiC at h
  split at h
  · obtain ⟨b, hl, h⟩ := h
    obtain ⟨v, u, rfl, rx, ry⟩ := hl2 r
    obtain ⟨a, C', dx, xs, rfl, hC', hs, _⟩ := rx.obj' S.w.sub
    have ry2 := ry.val (fun _ q => nomatch q)
    cases ry2 with
    | cls hC2 =>
      obtain ⟨C1, C2, h1, h2, h3, h4, h5⟩ := (hT _ _ b hl).ex
      cases hC'.eq h1
      cases hC2.eq h2
      exact ⟨.ref _, a, _, dx, _, _, b, rfl, rfl, fun w hw => hw, hs, h3, h4, h5, hk _ h _ F H S (Same.refl F) (.bl _)⟩
  · exact h.elim) hg hm (by decide +kernel) ha (by decide) (by decide) he hpl
theorem le_cls {nm : Str} {pos : Pos} (hg : Gl X nm) (hm : ∃ C, ClsN X.K nm C ∧ X.mg nm = some (.ref C)) (hd : (nm == ("__debug__" : Str)) = false := by decide) : LE X B (.Name nm pos) (dC (.cls nm)) := by
  obtain ⟨C, hC, hm⟩ := hm
  exact le_c (v := .ref C) (pe_glob hg hm rfl hd) fun _ => .cls hC
def dMeth (nm : Str) (sp : DSp) (to : DE) (ta : DA) : DE := fun E G k => to E G fun x E1 G1 => ∃ fs, x.get E1 = some (.obj nm fs) ∧ ta E1 G1 fun ds E2 G2 => sp (.obj nm fs :: ds) G2 (fun r G3 => k r E2 G3) (fun _ _ => False)
theorem le_meth {nm m : Str} {k j : Nat} {sp : DSp} {o e : Expr} {es : List Expr} {to : DE} {ta : DA} {pos apos : Pos} {pl : Sem Bool} (p : Meth3 X.prog X.w X.K X.mg X.base nm m k sp) (hr : Room j X.A) (hk : k ≤ j) (ho : LE X B o to) (ha : LA X B (e :: es) ta)
    (hst : starEach (e :: es) X.env = (false, eval e X.env) :: starEach es X.env := by rfl) (hpl : (backTo pos (starEach es X.env)).any (·.1) = false := by rfl)
    (ht : eval (.Call (.Attribute o m apos) (e :: es) [] pos) X.env = (do
      let ov ← eval o X.env
      standAt apos.atName
      let (f, first) ← holding [ov] (getMethod ov m pl)
      callWith pos f first (backTo pos (starEach (e :: es) X.env)) (backToKw pos (keywordEach [] X.env))) := by rfl) :
    LE X B (.Call (.Attribute o m apos) (e :: es) [] pos) (dMeth nm sp to ta) := by
  obtain ⟨C, g, fd, ps, hC, sc, M, Fn, hb⟩ := p.ex
  refine ⟨pe_imp (SlX.pe_methSl (E := fun _ _ _ => False) ho.pe sc M (Fn.raw hb .nil) (hr.mono hk) passF ha.pa hst hpl ht) fun σ H Q ⟨pn, F, E, G, k, S, ht, hk⟩ => ⟨pn, F, E, G, _, S, ht, fun x E1 G1 ⟨fs, hx, h1⟩ v F1 H1 S1 s1 r1 => ?_⟩⟩
  obtain ⟨a, C', dx, xs, rfl, hC', hs, r⟩ := (S1.getH r1 hx).obj' S1.w.sub
  cases hC.eq hC'
  refine ⟨a, dx, _, rfl, hs, pn, F1, E1, G1, _, S1, h1, fun ds E2 G2 h2 vs F2 H2 S2 s2 r2 => ?_⟩
  refine ⟨F2, G2, .obj nm fs :: ds, _, _, S2.w, by rw [List.append_nil]; exact .cons (Rep.mono s2 _ _ r) r2, h2, fun r' G' h3 v F3 H3 A r3 => ?_, fun _ _ z => z.elim⟩
  exact hk _ _ _ h3 v F3 H3 (S2.wldAfter A) ((s1.trans s2).trans A.keepF) (S2.retR r3)
theorem le_meth0 {nm m : Str} {k j : Nat} {sp : DSp} {o : Expr} {to : DE} {pos apos : Pos} {pl : Sem Bool} (p : Meth3 X.prog X.w X.K X.mg X.base nm m k sp) (hr : Room j X.A) (hk : k ≤ j) (ho : LE X B o to)
    (ht : eval (.Call (.Attribute o m apos) [] [] pos) X.env = (do
      let ov ← eval o X.env
      standAt apos.atName
      let (f, first) ← holding [ov] (getMethod ov m pl)
      callWith pos f first (backTo pos (starEach [] X.env)) (backToKw pos (keywordEach [] X.env))) := by rfl) :
    LE X B (.Call (.Attribute o m apos) [] [] pos) (dMeth nm sp to dNil) := by
  obtain ⟨C, g, fd, ps, hC, sc, M, Fn, hb⟩ := p.ex
  refine ⟨pe_imp (SlX.pe_methSl0 (E := fun _ _ _ => False) ho.pe sc M (Fn.raw hb .nil) (hr.mono hk) passF ht) fun σ H Q ⟨pn, F, E, G, k, S, ht, hk⟩ => ⟨pn, F, E, G, _, S, ht, fun x E1 G1 ⟨fs, hx, h1⟩ v F1 H1 S1 s1 r1 => ?_⟩⟩
  obtain ⟨a, C', dx, xs, rfl, hC', hs, r⟩ := (S1.getH r1 hx).obj' S1.w.sub
  cases hC.eq hC'
  refine ⟨a, dx, _, rfl, hs, F1, G1, [.obj nm fs], _, _, S1.w, by exact .cons r .nil, h1, fun r' G' h3 v F3 H3 A r3 => ?_, fun _ _ z => z.elim⟩
  exact hk _ _ _ h3 v F3 H3 (S1.wldAfter A) (s1.trans A.keepF) (S1.retR r3)
end
end L3

set_option Elab.async false
set_option maxRecDepth 100000
set_option maxHeartbeats 4000000
/-! L3, part q: zip and enumerate. -/
namespace L3
open PySem PySem.Spec PyProof.Rows L2
def pairD (x y : D) : D := .tup [x, y]
def zipD : List D → Option (List D)
  | [.lst xs, .lst ys] => some (List.zipWith pairD xs ys)
  | [.tup xs, .tup ys] => some (List.zipWith pairD xs ys)
  | _ => none
def enumFrom (n : Nat) : List D → List D
  | [] => []
  | d :: ds => pairD (.int (n : Nat)) d :: enumFrom (n + 1) ds
def enumD : List D → Option (List D)
  | [.lst xs] => some (enumFrom 0 xs)
  | _ => none
theorem enumFrom_get : ∀ (ds : List D) (n i : Nat) (d : D), ds[i]? = some d → (enumFrom n ds)[i]? = some (pairD (.int ((n + i : Nat) : Int)) d)
  | [], _, _, _, h => by simp at h
  | d :: ds, n, 0, e, h => by
    simp at h
    subst h
    rfl
  | d :: ds, n, i + 1, e, h => by
    have := enumFrom_get ds (n + 1) i e (by simpa using h)
    unfold enumFrom
    rw [List.getElem?_cons_succ, this, show n + 1 + i = n + (i + 1) by omega]
theorem enumFrom_len : ∀ (ds : List D) (n : Nat), (enumFrom n ds).length = ds.length
  | [], _ => rfl
  | d :: ds, n => by unfold enumFrom; rw [List.length_cons, enumFrom_len ds, List.length_cons]
section
variable {X : Cx} {B : Base3} {K : PySem.W.Frag}
theorem tup2 {pn : Pend} {F H : Hp} {σ : L2.St} {E : Env3} {G : Reg} (S : St3 K B pn F H σ E G) {T : Addr} {x y : V} {d e : D} (n : H T = none) (rd : Rep K F d x) (re : Rep K F e y) :
    ∃ F', St3 K B pn F' (upd H T (.tup [x, y])) σ E G ∧ Same F F' ∧ Rep K F' (pairD d e) (.ref T) := by
  obtain ⟨S2, s2⟩ := S.newF (o := .tup [x, y]) n
  exact ⟨_, S2, s2, .tup (SqT.of upd_same) (.cons (Rep.mono s2 _ _ rd) (.cons (Rep.mono s2 _ _ re) .nil))⟩
theorem zip_get {xs ys : List D} {i : Nat} {d e : D} (h1 : xs[i]? = some d) (h2 : ys[i]? = some e) : (List.zipWith pairD xs ys)[i]? = some (pairD d e) := by
  rw [List.getElem?_zipWith, h1, h2]
theorem wk_zip {F0 : Hp} {a b : Addr} {xs ys : List V} {ds es : List D} (ha : SqL K F0 a xs) (hb : SqL K F0 b ys) (ra : RepL K F0 ds xs) (rb : RepL K F0 es ys) : Wk K B (Itz K a b) (List.zipWith pairD ds es) F0 := by
  have l1 := ra.length
  have l2 := rb.length
  refine ⟨fun pn F H σ E G i S s h => ?_, fun pn F H σ E G i x H' S s h y => ?_, fun pn F H σ E G i S s h => ?_⟩
  · rw [List.length_zipWith] at h
    exact ⟨xs, ys, xs[i], ys[i], S.w.sub.seq (s.seq ha), S.w.sub.seq (s.seq hb), List.getElem?_eq_getElem _, List.getElem?_eq_getElem _⟩
  · obtain ⟨T, u, v, rfl, nT, rfl, q1, q2⟩ := y
    obtain ⟨d, h1, r1⟩ := ra.get' (q1 xs (S.w.sub.seq (s.seq ha)))
    obtain ⟨e, h2, r2⟩ := rb.get' (q2 ys (S.w.sub.seq (s.seq hb)))
    obtain ⟨F', S', s', r⟩ := tup2 S nT (Rep.mono s _ _ r1) (Rep.mono s _ _ r2)
    exact ⟨F', S', s', _, zip_get h1 h2, r⟩
  · rw [List.length_zipWith] at h
    exact ⟨xs, ys, S.w.sub.seq (s.seq ha), S.w.sub.seq (s.seq hb), by omega⟩
theorem wk_zipT {F0 : Hp} {a b : Addr} {xs ys : List V} {ds es : List D} (ha : SqT K F0 a xs) (hb : SqT K F0 b ys) (ra : RepL K F0 ds xs) (rb : RepL K F0 es ys) : Wk K B (RZ.ItzT K a b) (List.zipWith pairD ds es) F0 := by
  have l1 := ra.length
  have l2 := rb.length
  refine ⟨fun pn F H σ E G i S s h => ?_, fun pn F H σ E G i x H' S s h y => ?_, fun pn F H σ E G i S s h => ?_⟩
  · rw [List.length_zipWith] at h
    exact ⟨xs, ys, xs[i], ys[i], sameT S.w.sub (sameT s ha), sameT S.w.sub (sameT s hb), List.getElem?_eq_getElem _, List.getElem?_eq_getElem _⟩
  · obtain ⟨T, u, v, rfl, nT, rfl, q1, q2⟩ := y
    obtain ⟨d, h1, r1⟩ := ra.get' (q1 xs (sameT S.w.sub (sameT s ha)))
    obtain ⟨e, h2, r2⟩ := rb.get' (q2 ys (sameT S.w.sub (sameT s hb)))
    obtain ⟨F', S', s', r⟩ := tup2 S nT (Rep.mono s _ _ r1) (Rep.mono s _ _ r2)
    exact ⟨F', S', s', _, zip_get h1 h2, r⟩
  · rw [List.length_zipWith] at h
    exact ⟨xs, ys, sameT S.w.sub (sameT s ha), sameT S.w.sub (sameT s hb), by omega⟩
theorem wk_enum {F0 : Hp} {a : Addr} {xs : List V} {ds : List D} (ha : SqL K F0 a xs) (ra : RepL K F0 ds xs) : Wk K B (Ite K a) (enumFrom 0 ds) F0 := by
  have l1 := ra.length
  refine ⟨fun pn F H σ E G i S s h => ?_, fun pn F H σ E G i x H' S s h y => ?_, fun pn F H σ E G i S s h => ?_⟩
  · rw [enumFrom_len] at h
    exact ⟨xs, xs[i], S.w.sub.seq (s.seq ha), List.getElem?_eq_getElem _⟩
  · obtain ⟨T, u, rfl, nT, rfl, q1⟩ := y
    obtain ⟨d, h1, r1⟩ := ra.get' (q1 xs (S.w.sub.seq (s.seq ha)))
    obtain ⟨F', S', s', r⟩ := tup2 S nT (.int (i : Nat)) (Rep.mono s _ _ r1)
    have := enumFrom_get ds 0 i d h1
    rw [Nat.zero_add] at this
    exact ⟨F', S', s', _, this, r⟩
  · rw [enumFrom_len] at h
    exact ⟨xs, S.w.sub.seq (s.seq ha), by omega⟩
def dZip (ta : DA) : DI := fun E G k => ta E G fun ds E1 G1 => ∃ l, zipD ds = some l ∧ k l E1 G1
def dEnum (ta : DA) : DI := fun E G k => ta E G fun ds E1 G1 => ∃ l, enumD ds = some l ∧ k l E1 G1
theorem li_zip {elts : List Expr} {kk : Nat} {tpos p pos : Pos} {e e2 : Expr} {ta : DA} (hg : Gl X "zip") (hm : X.mg "zip" = none) (ha : LA X B [e, e2] ta)
    (hs : starEach [e, e2] X.env = (false, eval e X.env) :: starEach [e2] X.env := by rfl) (hpl : (backTo pos (starEach [e2] X.env)).any (·.1) = false := by rfl) :
    LI X B (.Tuple elts kk tpos) (.Call (.Name "zip" p) [e, e2] [] pos) (dZip ta) :=
  ⟨pi_imp (RZ.pi_zipA hg hm ha.pa hs hpl) fun σ H R ⟨pn, F, E, G, k, S, h, hk⟩ => ⟨pn, F, E, G, _, S, h, fun ds E1 G1 ⟨l, e, h1⟩ vs F1 H1 S1 s1 r1 => by
    unfold zipD at e
    split at e
    · cases e
      cases r1 with
      | cons ra r2 => cases r2 with
        | cons rb r3 =>
          cases r3
          cases ra with
          | lst qa ra => cases rb with
            | lst qb rb => exact ⟨_, _, _, _, rfl, .inl ⟨S1.w.sub.seq (.inl qa), S1.w.sub.seq (.inl qb), hk _ _ _ h1 _ F1 H1 S1 s1 (wk_zip (.inl qa) (.inl qb) ra rb)⟩⟩
    · cases e
      cases r1 with
      | cons ra r2 => cases r2 with
        | cons rb r3 =>
          cases r3
          cases ra with
          | tup qa ra => cases rb with
            | tup qb rb => exact ⟨_, _, _, _, rfl, .inr ⟨sameT S1.w.sub qa, sameT S1.w.sub qb, hk _ _ _ h1 _ F1 H1 S1 s1 (wk_zipT qa qb ra rb)⟩⟩
    · cases e⟩⟩
theorem li_enum {elts : List Expr} {kk : Nat} {tpos p pos : Pos} {e : Expr} {ta : DA} (hg : Gl X "enumerate") (hm : X.mg "enumerate" = none) (ha : LA X B [e] ta) (hs : starEach [e] X.env = [(false, eval e X.env)] := by rfl) :
    LI X B (.Tuple elts kk tpos) (.Call (.Name "enumerate" p) [e] [] pos) (dEnum ta) :=
  ⟨pi_imp (pi_enum hg hm ha.pa hs) fun σ H R ⟨pn, F, E, G, k, S, h, hk⟩ => ⟨pn, F, E, G, _, S, h, fun ds E1 G1 ⟨l, e, h1⟩ vs F1 H1 S1 s1 r1 => by
    unfold enumD at e
    split at e
    · cases e
      cases r1 with
      | cons ra r2 =>
        cases r2
        cases ra with
        | lst qa ra => exact ⟨_, _, rfl, S1.w.sub.seq (.inl qa), hk _ _ _ h1 _ F1 H1 S1 s1 (wk_enum (.inl qa) ra)⟩
    · cases e⟩⟩
end
end L3

set_option Elab.async false
set_option maxRecDepth 100000
set_option maxHeartbeats 4000000
/-! L3, part r: starred items, texts of numbers, f-strings, join. -/
namespace L3
open PySem PySem.Spec PyProof.Rows L2
section
variable {X : Cx} {B : Base3}
def seqD : D → Option (List D)
  | .tup ds => some ds
  | .lst ds => some ds
  | _ => none
def dStar (te : DE) (tr : DA) : DA := fun E G k => te E G fun x E1 G1 => ∃ d E2, x.ice E1 = some (d, E2) ∧ ∃ ds, seqD d = some ds ∧ tr E2 G1 fun es E3 G3 => k (ds ++ es) E3 G3
theorem la_star {e : Expr} {p : Pos} {es : List Expr} {ta : DE} {tr : DA} (ha : LE X B e ta) (hr : LA X B es tr) : LA X B (.Starred e p :: es) (dStar ta tr) :=
  ⟨pa_imp (StX.pa_star ha.pe hr.pa) fun σ H Q ⟨pn, F, E, G, k, S, ht, hk⟩ => ⟨pn, F, E, G, _, S, ht, fun x E1 G1 ⟨d, E2, h0, ds, hd, h1⟩ v F1 H1 S1 s1 r1 => by
    obtain ⟨F1', S1', s1', r1'⟩ := S1.ice r1 h0
    unfold seqD at hd
    split at hd
    · cases hd
      cases r1' with
      | tup qs rs => exact ⟨_, _, rfl, .inl (sameT S1'.w.sub qs), pn, F1', E2, G1, _, S1', h1, fun es E3 G3 h3 vs F3 H3 S3 s3 r3 => hk _ _ _ h3 _ F3 H3 S3 ((s1.trans s1').trans s3) (RepL.append (RepL.mono s3 _ _ rs) r3)⟩
    · cases hd
      cases r1' with
      | lst qs rs => exact ⟨_, _, rfl, .inr (S1'.w.sub.seq (.inl qs)), pn, F1', E2, G1, _, S1', h1, fun es E3 G3 h3 vs F3 H3 S3 s3 r3 => hk _ _ _ h3 _ F3 H3 S3 ((s1.trans s1').trans s3) (RepL.append (RepL.mono s3 _ _ rs) r3)⟩
    · cases hd⟩⟩
/-! ### str -/
def bStr : Reg → List D → (Res → Prop) → Prop := fun _ ds k => match ds with
  | [.int i] => i.natAbs.log2 < 1920 ∧ k (.val (.str (toString i)))
  | [.str x] => k (.val (.str x))
  | _ => False
theorem le_strOf {e : Expr} {ta : DA} {p pos : Pos} (hg : Gl X "str") (hm : X.mg "str" = none) (ha : LP X B [e] ta) (he : starEach [e] X.env = (false, eval e X.env) :: starEach [] X.env := by rfl) (hpl : (backTo pos (starEach [] X.env)).any (·.1) = false := by rfl) :
    LE X B (.Call (.Name "str" p) [e] [] pos) (dCB bStr ta) :=
  le_callTy (r := fun xs H Q => (∃ i : Int, xs = [.int i] ∧ i.natAbs.log2 < 1920 ∧ Q (.str (toString i)) H) ∨ ∃ a, xs = [.str a] ∧ Q (.str a) H)
    (fun pins s σ H xs us Q I r h => h.elim (fun h => call_str_int pins s σ H xs us Q I r h) fun h => SkE.call_str_str pins s σ H xs us Q I r h) (fun pn F H σ E G vs ds k Q S r h hk => by
  unfold bStr at h
  split at h
  · obtain ⟨v, rfl, rx⟩ := hl1 r
    rw [rx.int]
    exact .inl ⟨_, rfl, h.1, hk _ h.2 _ F H S (Same.refl F) (.str _)⟩
  · obtain ⟨v, rfl, rx⟩ := hl1 r
    have rv := rx.val (fun _ q => nomatch q)
    cases rv
    exact .inr ⟨_, rfl, hk _ h _ F H S (Same.refl F) (.str _)⟩
  · exact h.elim) hg hm (by decide +kernel) ha (by decide) (by decide) he hpl
/-! ### f-strings -/
def uFmt : D → (Res → Prop) → Prop := fun d k => match d with
  | .str y => y.length ≤ sizeLine ∧ k (.val (.str y))
  | .int i => i.natAbs.log2 < 1920 ∧ k (.val (.str (toString i)))
  | _ => False
theorem le_fmt {e : Expr} {te : DE} {pos : Pos} (he : LE X B e te) : LE X B (.FormattedValue e (-1) none pos) (dUn uFmt te) :=
  ⟨pe_imp (pe_fmt he.pe) fun σ H Q ⟨pn, F, E, G, k, S, ht, hk⟩ => ⟨pn, F, E, G, _, S, ht, fun x E1 G1 ⟨d, hd, h1⟩ v F1 H1 S1 s1 r1 => by
    have rx := S1.getH r1 hd
    unfold uFmt at h1
    split at h1
    · have rv := rx.val (fun _ q => nomatch q)
      cases rv
      exact .inl ⟨_, rfl, h1.1, hk _ _ _ h1.2 _ F1 H1 S1 s1 (.str _)⟩
    · rw [rx.int]
      exact .inr ⟨_, rfl, h1.1, hk _ _ _ h1.2 _ F1 H1 S1 s1 (.str _)⟩
    · exact h1.elim⟩⟩
inductive LJ (X : Cx) (B : Base3) : List Expr → List DE → Prop where
  | nil : LJ X B [] []
  | cons {e : Expr} {t : DE} {es : List Expr} {ts : List DE} (h : LE X B e t) (r : LJ X B es ts) : LJ X B (e :: es) (t :: ts)
def dJs : List DE → Str → Env3 → Reg → (Str → Env3 → Reg → Prop) → Prop
  | [], acc, E, G, k => k acc E G
  | t :: ts, acc, E, G, k => t E G fun r E1 G1 => ∃ y : Str, r = .val (.str y) ∧ (acc ++ y).length ≤ sizeLine ∧ dJs ts (acc ++ y) E1 G1 k
def dFstr (ts : List DE) : DE := fun E G k => dJs ts Str.empty E G fun out E1 G1 => k (.val (.str out)) E1 G1
theorem LJ.pj {es : List Expr} {ts : List DE} : LJ X B es ts → PJ X es (ts.map (Lift X.K B))
  | .nil => .nil
  | .cons h r => .cons h.pe r.pj
theorem dJs_lift : ∀ (ts : List DE) (acc : Str) (σ : L2.St) (H : Hp) (Q : Str → Hp → Prop) (pn : Pend) (F : Hp) (E : Env3) (G : Reg) (k : Str → Env3 → Reg → Prop), St3 X.K B pn F H σ E G → dJs ts acc E G k →
    (∀ out E' G', k out E' G' → ∀ F' H', St3 X.K B pn F' H' σ E' G' → Same F F' → Q out H') → tJs (ts.map (Lift X.K B)) acc σ H Q
  | [], acc, σ, H, Q, pn, F, E, G, k, S, h, hk => hk _ _ _ h F H S (Same.refl F)
  | t :: ts, acc, σ, H, Q, pn, F, E, G, k, S, h, hk => ⟨pn, F, E, G, _, S, h, fun r E1 G1 ⟨y, e, hl, h1⟩ v F1 H1 S1 s1 r1 => by
    subst e
    have r1 : Rep X.K F1 (.str y) v := r1
    cases r1
    exact ⟨y, rfl, hl, dJs_lift ts _ σ H1 Q pn F1 E1 G1 k S1 h1 fun out E' G' q F' H' S' s' => hk out E' G' q F' H' S' (s1.trans s')⟩⟩
theorem le_fstr {v1 v2 : Expr} {rest : List Expr} {ts : List DE} {pos : Pos} (h : LJ X B (v1 :: v2 :: rest) ts) : LE X B (.JoinedStr (v1 :: v2 :: rest) pos) (dFstr ts) :=
  ⟨pe_imp (pe_joined h.pj) fun σ H Q ⟨pn, F, E, G, k, S, ht, hk⟩ => dJs_lift ts _ σ H _ pn F E G _ S ht fun out E' G' q F' H' S' s' => hk _ _ _ q _ F' H' S' s' (.str out)⟩
theorem le_fstr1 {e : Expr} {te : DE} {pos : Pos} (he : LE X B e te) : LE X B (.JoinedStr [e] pos) te := ⟨pe_joined1 he.pe⟩
end
end L3

set_option Elab.async false
set_option maxRecDepth 100000
set_option maxHeartbeats 4000000
/-! L3, part s: join and split. -/
namespace L3
open PySem PySem.Spec PyProof.Rows L2
section
variable {X : Cx} {B : Base3}
def strsOf : List D → Option (List Str)
  | [] => some []
  | .str x :: ds => (strsOf ds).map (x :: ·)
  | _ :: _ => none
theorem strsOf_map : ∀ xs : List Str, strsOf (xs.map D.str) = some xs
  | [] => rfl
  | x :: xs => by rw [List.map_cons, strsOf, strsOf_map xs]; rfl
theorem strsOf_eq : ∀ {ds : List D} {ys : List Str}, strsOf ds = some ys → ds = ys.map D.str
  | [], _, h => by cases h; rfl
  | .str x :: ds, ys, h => by
    unfold strsOf at h
    cases e : strsOf ds with
    | none => rw [e] at h; cases h
    | some zs => rw [e] at h; cases h; rw [strsOf_eq e]; rfl
  | .non :: _, _, h => by cases h
  | .bl _ :: _, _, h => by cases h
  | .int _ :: _, _, h => by cases h
  | .ref _ :: _, _, h => by cases h
  | .ty _ :: _, _, h => by cases h
  | .tup _ :: _, _, h => by cases h
  | .lst _ :: _, _, h => by cases h
  | .scr _ :: _, _, h => by cases h
  | .obj _ _ :: _, _, h => by cases h
  | .cls _ :: _, _, h => by cases h
  | .dcK _ _ :: _, _, h => by cases h
  | .dcT _ _ :: _, _, h => by cases h
theorem repl_strs {K : PySem.W.Frag} {F : Hp} : ∀ {ys : List Str} {vs : List V}, RepL K F (ys.map D.str) vs → vs = ys.map V.str
  | [], _, h => by cases h; rfl
  | y :: ys, _, h => by
    cases h with
    | cons h1 h2 => cases h1; rw [repl_strs h2]; rfl
theorem strs_repl {K : PySem.W.Frag} {F : Hp} : ∀ ys : List Str, RepL K F (ys.map D.str) (ys.map V.str)
  | [] => .nil
  | y :: ys => .cons (.str y) (strs_repl ys)
def textsD : D → Option (List Str)
  | .tup ds => strsOf ds
  | .lst ds => strsOf ds
  | _ => none
def dJoin (to te : DE) : DE := fun E G k => to E G fun x E1 G1 => ∃ a, x = .val (.str a) ∧ te E1 G1 fun y E2 G2 => ∃ d, y.get E2 = some d ∧ ∃ ys, textsD d = some ys ∧ (ys.map (·.length)).sum + ys.length * a.length ≤ 16777216 ∧ k (.val (.str (Txt.join a ys))) E2 G2
theorem le_join {o e : Expr} {to te : DE} {apos pos : Pos} (ho : LE X B o to) (he : LE X B e te) (hs : starEach [e] X.env = [(false, eval e X.env)] := by rfl) (hbase : attributeBase o "join" X.env (eval o X.env) = eval o X.env := by rfl) (hline : (apos.endLine == pos.line) = true := by rfl) :
    LE X B (.Call (.Attribute o "join" apos) [e] [] pos) (dJoin to te) :=
  ⟨pe_imp (pe_join ho.pe he.pe hs hbase hline) fun σ H Q ⟨pn, F, E, G, k, S, ht, hk⟩ => ⟨pn, F, E, G, _, S, ht, fun x E1 G1 ⟨a, ex, h1⟩ v F1 H1 S1 s1 r1 => by
    subst ex
    have r1 : Rep X.K F1 (.str a) v := r1
    cases r1
    refine ⟨⟨a, rfl⟩, pn, F1, E1, G1, _, S1, h1, fun y E2 G2 ⟨d, hd, ys, hy, hz, h2⟩ u F2 H2 S2 s2 r2 => ?_⟩
    have rx := S2.getH r2 hd
    unfold textsD at hy
    split at hy
    · obtain ⟨p, xs, rfl, hs, ra⟩ := rx.tup S2.w.sub
      rw [strsOf_eq hy] at ra
      rw [repl_strs ra] at hs
      exact ⟨a, p, ys, rfl, rfl, .inr hs, hz, hk _ _ _ h2 _ F2 H2 S2 (s1.trans s2) (.str _)⟩
    · obtain ⟨p, xs, rfl, hs, ra⟩ := rx.lst S2.w.sub
      rw [strsOf_eq hy] at ra
      rw [repl_strs ra] at hs
      exact ⟨a, p, ys, rfl, rfl, .inl (.inl hs), hz, hk _ _ _ h2 _ F2 H2 S2 (s1.trans s2) (.str _)⟩
    · cases hy⟩⟩
def dSplit (to te : DE) : DE := fun E G k => to E G fun x E1 G1 => ∃ a, x = .val (.str a) ∧ te E1 G1 fun y E2 G2 => ∃ b, y = .val (.str b) ∧ (b.length == 0) = false ∧ a.length + 2 ≤ sizeLine ∧ k (.fr ((Txt.split a b).map D.str)) E2 G2
theorem le_split {o e : Expr} {to te : DE} {apos pos : Pos} (ho : LE X B o to) (he : LE X B e te) (hs : starEach [e] X.env = [(false, eval e X.env)] := by rfl) (hbase : attributeBase o "split" X.env (eval o X.env) = eval o X.env := by rfl) (hline : (apos.endLine == pos.line) = true := by rfl) :
    LE X B (.Call (.Attribute o "split" apos) [e] [] pos) (dSplit to te) :=
  ⟨pe_imp (pe_split ho.pe he.pe hs hbase hline) fun σ H Q ⟨pn, F, E, G, k, S, ht, hk⟩ => ⟨pn, F, E, G, _, S, ht, fun x E1 G1 ⟨a, ex, h1⟩ v F1 H1 S1 s1 r1 => by
    subst ex
    have r1 : Rep X.K F1 (.str a) v := r1
    cases r1
    refine ⟨⟨a, rfl⟩, pn, F1, E1, G1, _, S1, h1, fun y E2 G2 ⟨b, ey, hb, hz, h2⟩ u F2 H2 S2 s2 r2 => ?_⟩
    subst ey
    have r2 : Rep X.K F2 (.str b) u := r2
    cases r2
    refine ⟨a, b, rfl, rfl, hb, hz, fun p np => ?_⟩
    obtain ⟨f, no⟩ := S2.newFre np (strs_repl (Txt.split a b))
    exact hk _ _ _ h2 _ _ _ (S2.newU np) (s1.trans s2) ⟨p, rfl, f, no⟩⟩⟩
end
end L3

set_option Elab.async false
set_option maxRecDepth 100000
set_option maxHeartbeats 4000000
/-! L3, part t: what the head tells of a class with slots. -/
namespace L3
open PySem PySem.Spec PyProof.Rows L2
/-- a def in the class of that name -/
structure MethAt (K : PySem.W.Frag) (nm m qual : Str) (st : Stmt) : Prop where
  ex : ∃ (C f : Addr) (oc : Value) (od an : Option Addr) (osl : Array (Option Value)) (kV doc pm cdv ct : Value), ClsN K nm C ∧ PySem.W.findIn K (.ref C) m = some (some (.ref f)) ∧ PySem.W.isFn K (.ref f) = true ∧
    K.lookup f = some ⟨oc, od, .func (PySem.W.fnOf m qual (defArgs st) (defBody st) (defScope st) .none kV doc pm an cdv ct), osl⟩ ∧ PySem.W.codeIn K cdv qual = true ∧ PySem.W.keepIn K (.ref f) = true
structure MakeAt (K : PySem.W.Frag) (mg : Str → Option Value) (nm : Str) : Prop where
  ex : ∃ C : Addr, ClsN K nm C ∧ PySem.W.makesIn K C = true ∧ PySem.W.keepIn K (.ref C) = true ∧ mg nm = some (.ref C)
structure PropAt (K : PySem.W.Frag) (nm m qual : Str) (st : Stmt) : Prop where
  ex : ∃ (C p f : Addr) (oc : Value) (od an : Option Addr) (osl : Array (Option Value)) (kV doc pm cdv ct : Value), ClsN K nm C ∧ SlX.SCls K C ∧ PySem.W.findIn K (.ref C) m = some (some (.ref p)) ∧ PySem.W.specialIn K (.ref p) "__get__" = some (some (.builtin "property.__get__")) ∧ PySem.W.takesIn K (.ref p) = some true ∧
    (∃ rest, PySem.W.recIn K p "property" = some (.ref f :: rest)) ∧
    K.lookup f = some ⟨oc, od, .func (PySem.W.fnOf m qual (defArgs st) (defBody st) (defScope st) .none kV doc pm an cdv ct), osl⟩ ∧ PySem.W.codeIn K cdv qual = true ∧ PySem.W.keepIn K (.ref f) = true
structure SClsN (K : PySem.W.Frag) (nm : Str) : Prop where
  ex : ∃ C, ClsN K nm C ∧ SlX.SCls K C
section
variable {P : Program} {w : World} {K : PySem.W.Frag} {mg : Str → Option Value} {base : Heap}
theorem new3 {nm qual : Str} {st : Stmt} {k : Nat} {ps N : List Str} {sp : DSpI} (c : MakeAt K mg nm) (d : MethAt K nm "__init__" qual st)
    (hb : ∀ (kV doc pm : Value) (an : Option Addr) (cdv ct : Value) (us : List Value), us.length = ps.length → bindArgs (PySem.W.fnOf "__init__" qual (defArgs st) (defBody st) (defScope st) .none kV doc pm an cdv ct) ⟨us, []⟩ = pure (ps.zip us))
    (S : FnScope N ps (defScope st)) (hN : 0 < N.length) (len : ∀ ds G q e, sp ds G q e → ds.length + 1 = ps.length)
    (body : ∀ (f : Addr) (cdv : Value) (A : Around) (outer : List Env) (s : Shared) (H : Hp) (E : XK) (B : Base3) (dw : Exc3 → Reg → Prop), Room k (A.deeper (envOfC qual (defScope st) s.heap.objs.size f cdv)) →
      WOk (cxOf (L2.CX P w) P w K mg base N qual (defScope st) f cdv A outer s H E) B (fun x _ G => dw x G) →
      ∃ t : DSt, LSs (cxOf (L2.CX P w) P w K mg base N qual (defScope st) f cdv A outer s H E) B (defBody st) t ∧ ∀ ds G q, sp ds G q dw → t { nx := fun E' G' => ∃ gs : List D, E'[0]? = some (Sl3.new nm (gs.map some)) ∧ gs ≠ [] ∧ q gs G', rt := fun _ _ => False } (startI nm N ds) G) :
    New3 P w K mg base nm (k + 1) sp := by
  obtain ⟨C, hC, mk, kc, hm⟩ := c.ex
  obtain ⟨C', f, oc, od, an, osl, kV, doc, pm, cdv, ct, hC', fi, fn, l, cd, kp⟩ := d.ex
  cases hC.eq hC'
  have F := fun_mk (st := st) l cd kp
  exact ⟨C, f, _, ps, hC, ⟨mk, fi, fn, kc⟩, hm, F.binds hb, okI3 F S hN len fun cdv A outer s H E B dw hr wk => body f cdv A outer s H E B dw hr wk⟩
theorem meth3 {nm m qual : Str} {st : Stmt} {k : Nat} {ps N : List Str} {sp : DSp} (c : SClsN K nm) (d : MethAt K nm m qual st)
    (hb : ∀ (kV doc pm : Value) (an : Option Addr) (cdv ct : Value) (us : List Value), us.length = ps.length → bindArgs (PySem.W.fnOf m qual (defArgs st) (defBody st) (defScope st) .none kV doc pm an cdv ct) ⟨us, []⟩ = pure (ps.zip us))
    (S : FnScope N ps (defScope st)) (len : ∀ ds G q e, sp ds G q e → ds.length = ps.length)
    (body : ∀ (f : Addr) (cdv : Value) (A : Around) (outer : List Env) (s : Shared) (H : Hp) (E : XK) (B : Base3) (dw : Exc3 → Reg → Prop), Room k (A.deeper (envOfC qual (defScope st) s.heap.objs.size f cdv)) →
      WOk (cxOf (L2.CX P w) P w K mg base N qual (defScope st) f cdv A outer s H E) B (fun x _ G => dw x G) →
      ∃ t : DSt, LSs (cxOf (L2.CX P w) P w K mg base N qual (defScope st) f cdv A outer s H E) B (defBody st) t ∧ ∀ ds G q, sp ds G q dw → t { nx := fun _ G' => q (.val .non) G', rt := q } (start3 N ds) G) :
    Meth3 P w K mg base nm m (k + 1) sp := by
  obtain ⟨C, hC, sc⟩ := c.ex
  obtain ⟨C', f, oc, od, an, osl, kV, doc, pm, cdv, ct, hC', fi, fn, l, cd, kp⟩ := d.ex
  cases hC.eq hC'
  have F := fun_mk (st := st) l cd kp
  exact ⟨C, f, _, ps, hC, sc, ⟨fi, fn, kp⟩, ok3 F S len (fun cdv A outer s H E B dw hr wk => body f cdv A outer s H E B dw hr wk), F.binds hb⟩
theorem prop3 {nm m qual : Str} {st : Stmt} {k : Nat} {ps N : List Str} {sp : DSp} (d : PropAt K nm m qual st)
    (hb : ∀ (kV doc pm : Value) (an : Option Addr) (cdv ct : Value) (us : List Value), us.length = ps.length → bindArgs (PySem.W.fnOf m qual (defArgs st) (defBody st) (defScope st) .none kV doc pm an cdv ct) ⟨us, []⟩ = pure (ps.zip us))
    (S : FnScope N ps (defScope st)) (len : ∀ ds G q e, sp ds G q e → ds.length = ps.length)
    (body : ∀ (f : Addr) (cdv : Value) (A : Around) (outer : List Env) (s : Shared) (H : Hp) (E : XK) (B : Base3) (dw : Exc3 → Reg → Prop), Room k (A.deeper (envOfC qual (defScope st) s.heap.objs.size f cdv)) →
      ∃ t : DSt, LSs (cxOf CX0 P w K mg base N qual (defScope st) f cdv A outer s H E).nox B (defBody st) t ∧ ∀ ds G q, sp ds G q dw → t { nx := fun _ G' => q (.val .non) G', rt := q } (start3 N ds) G) :
    Prop3 P w K mg base nm m (k + 1) sp := by
  obtain ⟨C, p, f, oc, od, an, osl, kV, doc, pm, cdv, ct, hC, sc, at_, get, tk, rc, l, cd, kp⟩ := d.ex
  have F := fun_mk (st := st) l cd kp
  exact ⟨C, p, f, _, ps, hC, sc, at_, get, tk, rc, okP3 F S len (fun cdv A outer s H E B dw hr => body f cdv A outer s H E B dw hr), F.binds hb⟩
theorem tbl_nil {f : Str} : ∀ (nm : Str) (i : Nat), List.lookup nm ([] : List (Str × Nat)) = some i → SlotAt K nm f i := fun _ _ h => by cases h
theorem tbl_cons {n f : Str} {j : Nat} {r : List (Str × Nat)} (s : SlotAt K n f j) (h : ∀ (nm : Str) (i : Nat), List.lookup nm r = some i → SlotAt K nm f i) : ∀ (nm : Str) (i : Nat), List.lookup nm ((n, j) :: r) = some i → SlotAt K nm f i := fun nm i e => by
  rw [List.lookup_cons] at e
  by_cases q : (nm == n) = true
  · rw [q] at e
    cases e
    rw [LawfulBEq.eq_of_beq q]
    exact s
  · rw [Bool.not_eq_true] at q
    rw [q] at e
    exact h nm i e
theorem isi_nil : ∀ (n1 n2 : Str) (b : Bool), List.lookup (n1, n2) ([] : List ((Str × Str) × Bool)) = some b → Isi3 K n1 n2 b := fun _ _ _ h => by cases h
theorem isi_cons {m1 m2 : Str} {c : Bool} {r : List ((Str × Str) × Bool)} (s : Isi3 K m1 m2 c) (h : ∀ (n1 n2 : Str) (b : Bool), List.lookup (n1, n2) r = some b → Isi3 K n1 n2 b) : ∀ (n1 n2 : Str) (b : Bool), List.lookup (n1, n2) (((m1, m2), c) :: r) = some b → Isi3 K n1 n2 b := fun n1 n2 b e => by
  rw [List.lookup_cons] at e
  by_cases q : ((n1, n2) == (m1, m2)) = true
  · rw [q] at e
    cases e
    have := LawfulBEq.eq_of_beq q
    cases this
    exact s
  · rw [Bool.not_eq_true] at q
    rw [q] at e
    exact h n1 n2 b e
/-! ### from what k_is finds -/
theorem scls_mk {nm : Str} {C : Addr} (a : PySem.W.nsIn K mainGlobals nm = some (some (.ref C))) (pg : PySem.W.plainGet K C Str.empty = true) (ic : PySem.W.isClsIn K C = true) (po : PySem.W.plainOver K C = true)
    (sa : PySem.W.findIn K (.ref C) "__setattr__" = some (some (.builtin "object.__setattr__"))) : SClsN K nm := ⟨C, a, ⟨pg, ic, po, sa⟩⟩
theorem slot_mk {nm f : Str} {C p : Addr} {i : Nat} (c : SClsN K nm) (a : PySem.W.nsIn K mainGlobals nm = some (some (.ref C))) (at_ : PySem.W.findIn K (.ref C) f = some (some (.ref p)))
    (get : PySem.W.specialIn K (.ref p) "__get__" = some (some (.builtin "member_descriptor.__get__"))) (tk : PySem.W.takesIn K (.ref p) = some true) (ty : PySem.W.typeIn K (.ref p) = some (.type "member_descriptor")) (ix : PySem.W.slotIn K p C = some i) (lt : i < 1000) : SlotAt K nm f i := by
  obtain ⟨C', h, sc⟩ := c.ex
  cases ClsN.eq a h
  exact ⟨C, p, a, sc, ⟨at_, get, tk, ty, ix, lt⟩⟩
theorem make_mk {h : Heap} {nm : Str} {C : Addr} (X : K.In h) (G : h.Ns mainGlobals mg) (a : PySem.W.nsIn K mainGlobals nm = some (some (.ref C))) (mk : PySem.W.makesIn K C = true) (kc : PySem.W.keepIn K (.ref C) = true) : MakeAt K mg nm := ⟨C, a, mk, kc, PySem.W.mg_of X G a⟩
theorem cls_mk {h : Heap} {nm : Str} {C : Addr} (X : K.In h) (G : h.Ns mainGlobals mg) (a : PySem.W.nsIn K mainGlobals nm = some (some (.ref C))) : ∃ C, ClsN K nm C ∧ mg nm = some (.ref C) := ⟨C, a, PySem.W.mg_of X G a⟩
theorem isi_mk {n1 n2 : Str} {C1 C2 : Addr} {b : Bool} (c : SClsN K n1) (a1 : PySem.W.nsIn K mainGlobals n1 = some (some (.ref C1))) (a2 : PySem.W.nsIn K mainGlobals n2 = some (some (.ref C2)))
    (ca : PySem.W.findIn K (.ref C1) "__class__" = some (some (.builtin "object.__class__"))) (cn : PySem.W.specialIn K (.builtin "object.__class__") "__get__" = some (some (.builtin "getset_descriptor.__get__"))) (ct : PySem.W.takesIn K (.builtin "object.__class__") = some true) (cm : PySem.W.mroIn K C1 (.type "object") = some true)
    (k : PySem.W.kitOne K (.ref C1) (.ref C2) = some b) : Isi3 K n1 n2 b := by
  obtain ⟨C', h, sc⟩ := c.ex
  cases ClsN.eq a1 h
  exact ⟨C1, C2, a1, a2, sc, ⟨ca, cn, ct, cm⟩, k⟩
theorem methAt_mk {nm m qual : Str} {st : Stmt} {C f : Addr} {oc : Value} {od an : Option Addr} {osl : Array (Option Value)} {kV doc pm cdv ct : Value} (a : PySem.W.nsIn K mainGlobals nm = some (some (.ref C))) (fi : PySem.W.findIn K (.ref C) m = some (some (.ref f))) (fn : PySem.W.isFn K (.ref f) = true)
    (l : K.lookup f = some ⟨oc, od, .func (PySem.W.fnOf m qual (defArgs st) (defBody st) (defScope st) .none kV doc pm an cdv ct), osl⟩) (cd : PySem.W.codeIn K cdv qual = true) (kp : PySem.W.keepIn K (.ref f) = true) : MethAt K nm m qual st :=
  ⟨C, f, oc, od, an, osl, kV, doc, pm, cdv, ct, a, fi, fn, l, cd, kp⟩
theorem propAt_mk {nm m qual : Str} {st : Stmt} {C p f : Addr} {rest : List Value} {oc : Value} {od an : Option Addr} {osl : Array (Option Value)} {kV doc pm cdv ct : Value} (c : SClsN K nm) (a : PySem.W.nsIn K mainGlobals nm = some (some (.ref C))) (at_ : PySem.W.findIn K (.ref C) m = some (some (.ref p)))
    (get : PySem.W.specialIn K (.ref p) "__get__" = some (some (.builtin "property.__get__"))) (tk : PySem.W.takesIn K (.ref p) = some true) (rc : PySem.W.recIn K p "property" = some (.ref f :: rest))
    (l : K.lookup f = some ⟨oc, od, .func (PySem.W.fnOf m qual (defArgs st) (defBody st) (defScope st) .none kV doc pm an cdv ct), osl⟩) (cd : PySem.W.codeIn K cdv qual = true) (kp : PySem.W.keepIn K (.ref f) = true) : PropAt K nm m qual st := by
  obtain ⟨C', h, sc⟩ := c.ex
  cases ClsN.eq a h
  exact ⟨C, p, f, oc, od, an, osl, kV, doc, pm, cdv, ct, a, sc, at_, get, tk, ⟨rest, rc⟩, l, cd, kp⟩
end
end L3

set_option Elab.async false
set_option maxRecDepth 100000
set_option maxHeartbeats 4000000
/-! L3, part u: the least, the greatest of a list of ints; sorted. -/
namespace L3
open PySem PySem.Spec PyProof.Rows L2
section
variable {X : Cx} {B : Base3}
def bMinL : Reg → List D → (Res → Prop) → Prop := fun _ ds k => match ds with
  | [.lst xs] => ∃ ns, intsOf xs = some ns ∧ 0 < ns.length ∧ ∀ m : Int, m ∈ ns → (∀ y, y ∈ ns → m ≤ y) → k (.val (.int m))
  | _ => False
def bMaxL : Reg → List D → (Res → Prop) → Prop := fun _ ds k => match ds with
  | [.lst xs] => ∃ ns, intsOf xs = some ns ∧ 0 < ns.length ∧ ∀ m : Int, m ∈ ns → (∀ y, y ∈ ns → y ≤ m) → k (.val (.int m))
  | _ => False
def bSortI : Reg → List D → (Res → Prop) → Prop := fun _ ds k => match ds with
  | [.lst xs] => ∃ ns, intsOf xs = some ns ∧ ∀ ms : List Int, ms.Perm ns → ms.Pairwise (· ≤ ·) → k (.fr (ms.map D.int))
  | _ => False
theorem ints_at {pn : Pend} {F H : Hp} {σ : L2.St} {E : Env3} {G : Reg} (S : St3 X.K B pn F H σ E G) {xs : List D} {v : V} {ns : List Int} (rx : RepH X.K F H (.lst xs) v) (e : intsOf xs = some ns) : ∃ p, v = .ref p ∧ SqL X.K H p (ns.map V.int) := by
  obtain ⟨p, ys, rfl, hs, ra⟩ := rx.lst S.w.sub
  rw [intsOf_eq e] at ra
  rw [ra.ints_of] at hs
  exact ⟨p, rfl, .inl hs⟩
theorem le_minL {e : Expr} {ta : DA} {p pos : Pos} (hc : X.calm = true) (hg : Gl X "min") (hm : X.mg "min" = none) (ha : LP X B [e] ta) (he : starEach [e] X.env = (false, eval e X.env) :: starEach [] X.env := by rfl) (hpl : (backTo pos (starEach [] X.env)).any (·.1) = false := by rfl) :
    LE X B (.Call (.Name "min" p) [e] [] pos) (dCB bMinL ta) := le_callB (cr_min hc) (fun pn F H σ E G vs ds k Q S r h hk => by
  unfold bMinL at h
  split at h
  · obtain ⟨ns, e, hl, h⟩ := h
    obtain ⟨v, rfl, rx⟩ := hl1 r
    obtain ⟨p, rfl, hs⟩ := ints_at S rx e
    exact ⟨p, ns, rfl, hs, hl, fun m h1 h2 => hk _ (h m h1 h2) _ F H S (Same.refl F) (.int _)⟩
  · exact h.elim) hg hm (by decide +kernel) ha (by decide) (by decide) he hpl
theorem le_maxL {e : Expr} {ta : DA} {p pos : Pos} (hc : X.calm = true) (hg : Gl X "max") (hm : X.mg "max" = none) (ha : LP X B [e] ta) (he : starEach [e] X.env = (false, eval e X.env) :: starEach [] X.env := by rfl) (hpl : (backTo pos (starEach [] X.env)).any (·.1) = false := by rfl) :
    LE X B (.Call (.Name "max" p) [e] [] pos) (dCB bMaxL ta) := le_callB (cr_max hc) (fun pn F H σ E G vs ds k Q S r h hk => by
  unfold bMaxL at h
  split at h
  · obtain ⟨ns, e, hl, h⟩ := h
    obtain ⟨v, rfl, rx⟩ := hl1 r
    obtain ⟨p, rfl, hs⟩ := ints_at S rx e
    exact ⟨p, ns, rfl, hs, hl, fun m h1 h2 => hk _ (h m h1 h2) _ F H S (Same.refl F) (.int _)⟩
  · exact h.elim) hg hm (by decide +kernel) ha (by decide) (by decide) he hpl
theorem ints_repl {K : PySem.W.Frag} {F : Hp} : ∀ ns : List Int, RepL K F (ns.map D.int) (ns.map V.int)
  | [] => .nil
  | n :: ns => .cons (.int n) (ints_repl ns)
theorem le_sortI {e : Expr} {ta : DA} {p pos : Pos} (hg : Gl X "sorted") (hm : X.mg "sorted" = none) (ha : LP X B [e] ta) (he : starEach [e] X.env = (false, eval e X.env) :: starEach [] X.env := by rfl) (hpl : (backTo pos (starEach [] X.env)).any (·.1) = false := by rfl) :
    LE X B (.Call (.Name "sorted" p) [e] [] pos) (dCB bSortI ta) := le_callB cr_sortedI (fun pn F H σ E G vs ds k Q S r h hk => by
  unfold bSortI at h
  split at h
  · obtain ⟨ns, e, h⟩ := h
    obtain ⟨v, rfl, rx⟩ := hl1 r
    obtain ⟨p, rfl, hs⟩ := ints_at S rx e
    refine ⟨p, ns, rfl, hs, fun ms q h1 h2 nq => ?_⟩
    obtain ⟨f, no⟩ := S.newFre nq (ints_repl ms)
    exact hk _ (h ms h1 h2) _ _ _ (S.newU nq) (Same.refl F) ⟨q, rfl, f, no⟩
  · exact h.elim) hg hm (by decide +kernel) ha (by decide) (by decide) he hpl
end
end L3

set_option Elab.async false
set_option maxRecDepth 100000
set_option maxHeartbeats 4000000
/-! L3, part v: t[::-1] of a tuple. -/
namespace L3
open PySem PySem.Spec PyProof.Rows L2 HT
section
variable {prog : Program} {w : World} {A : Around} {E : Value → Shared → Prop} {s : Shared}
theorem applied_back {sl : Addr} {vl vu vs : Value} {n : Nat} {Q : Int × Int × Nat → Shared → Prop} (hs : s.heap.IsSliceOf sl vl vu vs) (pl : IsPart vl none) (pu : IsPart vu none) (ps : IsPart vs (some (-1))) (h : Q ((n : Int) - 1, -1, n) s) :
    wpAny (model prog w) A (Builtin.Slice.sliceApplied (.ref sl) (pure (n : Int))) Q E s := by
  obtain ⟨so, g1, g2, g3⟩ := id hs
  unfold Builtin.Slice.sliceApplied Builtin.Slice.sliceFields
  refine wpAny_bind (wpAny_bind (wpAny_field g1 g3 (x := vl) rfl (wpAny_bind (wpAny_field g1 g3 (x := vu) rfl (wpAny_bind (wpAny_field g1 g3 (x := vs) rfl (wpAny_pure ?_)))))))
  refine wpAny_bind (slicePart_ ps ?_)
  rw [show (Option.getD (some (-1 : Int)) 1) = -1 from rfl, if_neg (by decide)]
  refine wpAny_bind (slicePart_ pl (wpAny_bind (slicePart_ pu (wpAny_bind (wpAny_pure ?_)))))
  show wpAny _ _ (pure (((n : Int) - 1), (-1 : Int), Builtin.Slice.slicePlaces ((n : Int) - 1) (-1) (-1))) _ _ s
  have e : Builtin.Slice.slicePlaces ((n : Int) - 1) (-1) (-1) = n := by
    unfold Builtin.Slice.slicePlaces
    rw [if_neg (by decide)]
    by_cases z : (n : Int) - 1 > -1
    · rw [if_pos z]
      have : ((n : Int) - 1 - -1 - 1) / (- -1) = (n : Int) - 1 := by
        rw [show (- -1 : Int) = 1 by decide, Int.ediv_one]; omega
      rw [this]; omega
    · rw [if_neg z]; omega
  rw [e]
  exact wpAny_pure h
theorem pick_back (xs : Array Value) : ((List.range xs.size).filterMap fun (k : Nat) => xs[(((xs.size : Nat) : Int) - 1 + (k : Int) * (-1)).toNat]?) = xs.toList.reverse := by
  have e1 : ∀ k ∈ List.range xs.size, xs[(((xs.size : Nat) : Int) - 1 + (k : Int) * (-1)).toNat]? = some (xs.toList.reverse.getD k default) := fun k hk => by
    rw [List.mem_range] at hk
    have q : (((xs.size : Nat) : Int) - 1 + (k : Int) * (-1)).toNat = xs.size - 1 - k := by omega
    rw [q, List.getD_eq_getElem?_getD, List.getElem?_reverse (by simpa using hk)]
    rw [Array.getElem?_eq_getElem (by omega)]
    simp only [Array.length_toList, Array.getElem?_toList]
    rw [Array.getElem?_eq_getElem (by omega)]
    rfl
  rw [fmap_all e1]
  refine List.ext_getElem (by simp) fun i h1 h2 => ?_
  simp only [List.getElem_map, List.getElem_range]
  rw [List.getD_eq_getElem?_getD, List.getElem?_eq_getElem h2]
  rfl
theorem tup_back_item {t sl : Addr} {items : Array Value} {vl vu vs : Value} {Q : Value → Shared → Prop} (ht : IsTup s.heap t items) (hs : s.heap.IsSliceOf sl vl vu vs) (pl : IsPart vl none) (pu : IsPart vu none) (ps : IsPart vs (some (-1)))
    (h : Q (.ref s.heap.objs.size) { s with heap := s.heap.push { cls := .type "tuple", data := .seq items.toList.reverse.toArray } }) (hz : items.size ≤ sizeLine) : wpAny (model prog w) A (getItem (.ref t) (.ref sl)) Q E s := by
  have fit : sizeOk (.seq items.toList.reverse.toArray) := by
    show items.toList.reverse.toArray.size ≤ sizeLine
    simpa using hz
  obtain ⟨so, g1, g2, g3⟩ := id hs
  have kT : s.TypeIs (.ref sl) "slice" := ⟨so, g1, g2⟩
  unfold getItem
  (try with_reducible refine wpAny_holding ?_); (first | refine wpAny_bind (wpAny_pure ?_) | skip)
  refine wpAny_bind (wpAny_sequenceKey ht.typeIs (by decide) (wpAny_bind ?_))
  refine wpAny_callSpecial?_slot (name := Str.ofString "__getitem__") ht.typeIs PyProof.Rows.slot_tuple_getitem (wpAny_call_entry PyProof.Rows.slot_tuple_getitem ht.typeIs entry_tuple_getitem ?_ (args_tuple_getitem _ _))
  show wpAny _ _ (Builtin.Tuple.tupleItemsOf (.ref t) >>= _) _ _ s
  refine wpAny_bind (tupleItemsOf_ ht (wpAny_bind (wpAny_typeOf kT ?_)))
  rw [if_pos (by decide)]
  refine wpAny_bind (applied_back hs pl pu ps ?_)
  have no : ¬ (((((items.size : Nat) : Int) - 1 == 0) && ((-1 : Int) == 1) && (items.size == items.size)) = true) := by
    rw [show ((-1 : Int) == 1) = false from rfl, Bool.and_false, Bool.false_and]
    exact Bool.false_ne_true
  show wpAny _ _ (if ((((items.size : Nat) : Int) - 1 == 0) && ((-1 : Int) == 1) && (items.size == items.size)) = true then _ else _) _ _ s
  rw [if_neg no, pick_back]
  refine wpAny_bind (m := Builtin.Tuple.tupleExact items.toList.reverse.toArray) (wpAny_newObj_type ?_ fit)
  first | exact wpAny_pure ⟨_, rfl, wpAny_pure h⟩ | exact wpAny_bind (wpAny_pure (wpAny_pure ⟨_, rfl, wpAny_pure h⟩))
end
def tRevT (K : PySem.W.Frag) (te : TE) : TE := fun σ H Q => te σ H fun x H1 => ∃ a xs, x = .ref a ∧ ((SqT K H1 a xs ∧ ∀ p, H1 p = none → Q (.ref p) (upd H1 p (.tup xs.reverse))) ∨ (SqL K H1 a xs ∧ ∀ p, H1 p = none → Q (.ref p) (upd H1 p (.lst xs.reverse))))
section
variable {X : Cx}
theorem pe_revA {e : Expr} {te : TE} {k : Nat} {p1 p2 p3 pos : Pos} (he : PE X e te) : PE X (.Subscript e (.Slice none none (some (.UnaryOp .USub (.Constant (.int 1) k p1) p2)) p3) pos) (tRevT X.K te) := by
  refine ⟨fun ps s σ H Q I h => Subscript_ (thn (he.run ps s σ H _ I h) fun v s1 ⟨x, H1, I1, r1, a, xs, ex, hx⟩ => ?_)⟩
  subst ex
  cases r1
  have part : PO X (some (.UnaryOp .USub (.Constant (.int 1) k p1) p2)) (tPart (tUn (rU fun i => .int (-i)) (tC (.int 1)))) := po_some (pe_un un_neg pe_int)
  refine wpAny_Slice (thn (po_none.run ps s1 σ H1 (fun o G => o = none ∧ G = H1) I1 ⟨rfl, rfl⟩) fun vl s2 ⟨l, H2, I2, pl, el, e2⟩ => thn (po_none.run ps s2 σ H2 (fun o G => o = none ∧ G = H2) I2 ⟨rfl, rfl⟩) fun vu s3 ⟨u, H3, I3, pu, eu, e3⟩ =>
    thn (part.run ps s3 σ H3 (fun o G => o = some (-1) ∧ G = H3) I3 ⟨1, rfl, -1, rfl, rfl, rfl⟩) fun vs s4 ⟨o, H4, I4, pp, eo, e4⟩ => ?_)
  subst el e2 eu e3 eo e4
  have I5 : Inv X ps σ H4 { s4 with heap := s4.heap.push { cls := .type "slice", data := .fields #[vl, vu, vs] } } := I4.kept (t' := s4.toks) fun b ob q => Heap.get?_push_of_some _ q
  rcases hx with ⟨hx, q⟩ | ⟨hx, q⟩
  · obtain ⟨its, r, ht, hz⟩ := I5.tuple hx
    show wpAny (model X.prog X.w) X.A (subscriptTail e _ (.ref a) (.ref s4.heap.objs.size)) (EP X ps σ Q) X.xe _
    refine tail_any (ops := [.ref a, .ref s4.heap.objs.size]) ht.typeIs PyProof.Rows.slot_tuple_getitem.lookup ?_ (by with_unfolding_all rfl)
    refine tup_back_item ht (Heap.IsSliceOf.new _ vl vu vs) pl pu pp ?_ (by rw [List.size_toArray]; have := r.length; omega)
    exact ⟨.ref _, _, I5.laid (t' := s4.toks) (o := .tup xs.reverse) (fun b ob q => Heap.get?_push_of_some _ q) (Nat.le_refl _) ⟨by rw [List.length_reverse]; exact hz, _, r.reverse, IsTup.new _ _⟩, rfl, q _ (I5.hok.fresh (Nat.le_refl _))⟩
  · obtain ⟨its, r, ht, hz⟩ := I5.list hx
    have hl := r.length
    show wpAny (model X.prog X.w) X.A (subscriptTail e _ (.ref a) (.ref s4.heap.objs.size)) (EP X ps σ Q) X.xe _
    refine tail_any (ops := [.ref a, .ref s4.heap.objs.size]) ht.isList.typeIs PySem.slot_list_getitem.lookup ?_ (by with_unfolding_all rfl)
    refine wpAny_getItem_list_slice ht.isList (Heap.IsSliceOf.new _ vl vu vs) pl pu pp (by decide) ?_ (by rw [List.size_toArray, ← hl]; exact hz)
    rw [PySem.W.krv_pick]
    exact ⟨.ref _, _, I5.laid (t' := s4.toks) (o := .lst xs.reverse) (fun b ob q => Heap.get?_push_of_some _ q) (Nat.le_refl _) ⟨by rw [List.length_reverse]; exact hz, _, 0, r.reverse, Heap.get?_push_size _ rfl⟩, rfl, q _ (I5.hok.fresh (Nat.le_refl _))⟩
end
/-- x[::-1], of a list or a tuple -/
def uRevA : D → (Res → Prop) → Prop := fun d k => match d with
  | .lst ds => k (.fr ds.reverse)
  | .tup ds => k (.val (.tup ds.reverse))
  | _ => False
theorem le_revA {X : Cx} {B : Base3} {e : Expr} {ta : DE} {k : Nat} {p1 p2 p3 pos : Pos} (ha : LE X B e ta) : LE X B (.Subscript e (.Slice none none (some (.UnaryOp .USub (.Constant (.int 1) k p1) p2)) p3) pos) (dUn uRevA ta) :=
  ⟨pe_imp (pe_revA ha.pe) fun σ H Q ⟨pn, F, E, G, k, S, ht, hk⟩ => ⟨pn, F, E, G, _, S, ht, fun x E1 G1 ⟨d, hd, h1⟩ v F1 H1 S1 s1 r1 => by
    have rx := S1.getH r1 hd
    unfold uRevA at h1
    split at h1
    · obtain ⟨a, xs, rfl, hs, ra⟩ := rx.lst S1.w.sub
      refine ⟨a, xs, rfl, .inr ⟨.inl hs, fun q nq => ?_⟩⟩
      obtain ⟨f, no⟩ := S1.newFre nq ra.reverse
      exact hk _ _ _ h1 _ _ _ (S1.newU nq) s1 ⟨q, rfl, f, no⟩
    · obtain ⟨a, xs, rfl, hs, ra⟩ := rx.tup S1.w.sub
      refine ⟨a, xs, rfl, .inl ⟨hs, fun q nq => ?_⟩⟩
      obtain ⟨S2, s2⟩ := S1.newF nq
      exact hk _ _ _ h1 _ _ _ S2 (s1.trans s2) (.tup (SqT.of upd_same) (RepL.mono s2 _ _ ra.reverse))
    · exact h1.elim⟩⟩
end L3

set_option Elab.async false
set_option maxRecDepth 100000
set_option maxHeartbeats 4000000
/-! L3, part w: enumerate of a tuple. -/
namespace L3
open PySem PySem.Spec PyProof.Rows L2
theorem meets_en1 {v : Value} {o : Obj} {H : Heap → Prop} (B : Begins v o H) :
    Meets (Builtin.«enumerate.__new__» ⟨[.type "enumerate", v], []⟩) (fun _ R s => H s.heap ∧ R (.ok (.ret (.ref (s.heap.push o).objs.size)))
      { s with heap := (s.heap.push o).push { cls := .type "enumerate", data := .fields #[.none, .bool false, .ref s.heap.objs.size, rawInt 0, .none, .none] } }) :=
  .of_wp fun prog w A R s hh => by
    obtain ⟨hp, gg, dr, tk, os⟩ := s
    obtain ⟨hb, hr⟩ := hh
    have u := sub_enumerate
    have go : ∀ {A2 : Around} {E2 : Value → Shared → Prop} {Q2 : Value → Shared → Prop}, Q2 (.ref hp.objs.size) ⟨hp.push o, gg, dr, tk, os⟩ → wpAny (model prog w) A2 (pyIter v) Q2 E2 ⟨hp, gg, dr, tk, os⟩ :=
      fun x => B.iter prog w _ _ ⟨hp, gg, dr, tk, os⟩ _ hb x
    wp_walk
    refine wpAny_stack_any fun k => wpAny_pure ?_
    split
    · rename_i c _ _ _ _ _
      cases (c == Value.type "enumerate") <;>
        (wp_walk using go
         exact ⟨_, rfl, hr⟩)
    · wp_walk using go
      exact ⟨_, rfl, hr⟩
theorem call_en1 {prog : Program} {w : World} {A : Around} {E : Value → Shared → Prop} {s : Shared} {v : Value} {o : Obj} {H : Heap → Prop} {Q : Value → Shared → Prop} (B : Begins v o H) (hb : H s.heap)
    (k : ∀ g, IsEnum g (s.heap.objs.size + 1) s.heap.objs.size 0 .none → g.get? s.heap.objs.size = some o → (∀ b x, s.heap.get? b = some x → g.get? b = some x) → Q (.ref (s.heap.objs.size + 1)) { s with heap := g }) :
    wpAny (model prog w) A (call (.type "enumerate") [v]) Q E s := by
  refine callType_new F.called_enumerate (by decide) (F.typeCall_enumerate_1 _) (F.newCall_enumerate_1 _) (fun x => F.args_object_init_2 x _) F.entry_enumerate_new (meets_en1 B) ⟨hb, ?_⟩
  have z : (s.heap.push o).objs.size = s.heap.objs.size + 1 := Heap.size_push ..
  have q := Heap.get?_push_size (s.heap.push o) (o := { cls := .type "enumerate", data := .fields #[.none, .bool false, .ref s.heap.objs.size, rawInt 0, .none, .none] }) rfl
  rw [z] at q
  show _ ∧ _
  rw [z]
  exact ⟨⟨_, q, rfl⟩, k _ q (Heap.get?_push_of_some _ (Heap.get?_push_size _ B.free)) fun b x y => Heap.get?_push_of_some _ (Heap.get?_push_of_some _ y)⟩
/-- the tuple at a, each item in a new pair -/
def IteT (K : PySem.W.Frag) (a : Addr) : It where
  go i H := ∃ (xs : List V) (x : V), SqT K H a xs ∧ xs[i]? = some x
  yld i H v H' := ∃ T x, v = .ref T ∧ H T = none ∧ H' = upd H T (.tup [.int (i : Nat), x]) ∧ ∀ xs, SqT K H a xs → xs[i]? = some x
  stop i H := ∃ xs : List V, SqT K H a xs ∧ xs.length ≤ i
theorem turn_enT {P : Program} {w : World} {K : PySem.W.Frag} {elts : List Expr} {kk : Nat} {tpos : Pos} (a e it : Addr) :
    Turn P w K (.Tuple elts kk tpos) (IteT K a) [e, it] e (fun i h => (∃ old, IsEnum h e it ((i : Nat) : Int) old) ∧ h.IsTupleIter it a i ∧ e ≠ it ∧ a ≠ it ∧ e ≠ a) where
  mem := by simp
  obj := fun i h st b hb => by
    obtain ⟨⟨old, he⟩, ⟨o, ho, hc, hd⟩, _⟩ := st
    rcases (by simpa using hb : b = e ∨ b = it) with rfl | rfl
    · exact ⟨_, he, fun v q => nomatch q⟩
    · exact ⟨o, ho, fun v q => by rw [hd] at q; cases q⟩
  keep := fun i h h' st k => let ⟨⟨old, he⟩, hi, r⟩ := st; ⟨⟨old, k e (by simp) _ he⟩, hi.at fun o q => k it (by simp) o q, r⟩
  item := by
    intro X hP hw hK hc i pins s σ H E I hf st hg
    subst hP hw hK
    obtain ⟨⟨old, he⟩, hit, hne, na, nea⟩ := st
    obtain ⟨xs, x, hq, hx⟩ := hg
    obtain ⟨its, rv, p, hz⟩ := I.tuple hq
    obtain ⟨u, hu, ru⟩ := rv.get hx
    have hel : e < s.heap.objs.size := Heap.lt_size he
    have hil : it < s.heap.objs.size := by obtain ⟨_, q, _⟩ := hit; exact Heap.lt_size q
    have hil2 : i < its.toArray.size := by
      have : i < its.length := by
        rcases Nat.lt_or_ge i its.length with h | h
        · exact h
        · rw [List.getElem?_eq_none h] at hu; cases hu
      simpa using this
    refine wpAny_pyNext_enum_itemD (Draws.tuple (A := X.A.in1) (show X.A.in1.handled = none from I.ok.hd hc) it a na its.toArray) he ⟨hit, p⟩ hil2 hne (by simp [hne, nea]) fun y h' tk hP ho hs' hT hsz hk => ?_
    have ey : y = u := by
      have : its[i]? = some y := by simpa using hP
      rw [hu] at this
      cases this
      rfl
    subst ey
    refine ⟨_, rfl, wpAny_letOwnedTupleGo_enum (s := { s with heap := h', toks := tk + 1 }) ho fun h2 he2 sb => ?_⟩
    have hT2 : h2.get? s.heap.objs.size = some { cls := .type "tuple", data := .seq #[.int i tk, y] } := (sb.2 _ (Nat.ne_of_gt hel)).trans hT
    have nw : ObjOk X.prog X.w (upd H s.heap.objs.size (.tup [.int (i : Nat), x])) h2 s.heap.objs.size (.tup [.int (i : Nat), x]) :=
      ⟨by show 2 ≤ sizeLine; decide, [.int i tk, y], .cons ⟨_, rfl⟩ (.cons ru .nil), ⟨_, hT2, rfl, _, rfl⟩⟩
    have I1 : Inv X pins σ (upd H s.heap.objs.size (.tup [.int (i : Nat), x])) { s with heap := h2, toks := tk + 1 } := by
      refine I.turnedNew (ch := [e, it]) (fun b ob hb q => ?_) hf (Nat.le_refl _) nw
      have b1 : b ≠ e := fun z => hb (by simp [z])
      have b2 : b ≠ it := fun z => hb (by simp [z])
      exact (sb.2 b b1).trans (hk b ob b1 b2 q)
    refine ⟨.ref s.heap.objs.size, _, I1, rfl, ⟨_, x, rfl, I.hok.fresh (Nat.le_refl _), rfl, fun ys hy => by rw [I.tuple_inj hy hq]; exact hx⟩, ⟨⟨y, ?_⟩, hs'.1.at fun o q => (sb.2 it (Ne.symm hne)).trans q, hne, na, nea⟩, fun b hb => ?_⟩
    · rw [show ((i + 1 : Nat) : Int) = (i : Int) + 1 by omega]
      exact he2
    · have lt : b < s.heap.objs.size := by
        rcases (by simpa using hb : b = e ∨ b = it) with rfl | rfl <;> assumption
      rw [upd_ne (Nat.ne_of_lt lt)]
      exact (hf b hb).1
  done := by
    intro X hP hw hK hc i pins s σ H E I hf st hg
    subst hP hw hK
    obtain ⟨⟨old, he⟩, hit, hne, na, nea⟩ := st
    obtain ⟨xs, hq, hx⟩ := hg
    obtain ⟨its, rv, p, hz⟩ := I.tuple hq
    have f := hf it (by simp)
    have hl := rv.length
    have hn : its.toArray[i]? = none := Array.getElem?_eq_none (by simp; omega)
    have D : Draws X.prog X.w X.A.in1 it [it, a] i (fun j v => its.toArray[j]? = some v) (fun j h => j = i ∧ h.IsTupleIter it a i ∧ h.IsTuple a its.toArray) :=
      ⟨fun _ _ st => let ⟨o, ho, _⟩ := st.2.1; ⟨o, ho⟩, fun _ _ _ st k => ⟨st.1, st.2.1.at fun o z => k it (by simp) o z, st.2.2.at fun o z => k a (by simp) o z⟩, fun j s Q E hlt st _ => absurd st.1 (by omega),
        fun s Q E st z => wpAny_nextOf_tuple_end (I.ok.hd hc) st.2.1 st.2.2 hn z⟩
    exact wpAny_pyNext_enum_endD D he ⟨rfl, hit, p⟩ fun h' eb => ⟨rfl, I.turned (t' := s.toks) (fun b o hb q => eb b o hb q) f.1 f.2.1 f.2.2.2.1 f.2.2.2.2.1 f.2.2.2.2.2⟩
  self := fun A i s Q E st h => let ⟨⟨_, he⟩, _⟩ := st; wpAny_pyIter_enum he h
/-- enumerate of a list or of a tuple -/
def iEnumA (K : PySem.W.Frag) (ta : TA) : TI := fun σ H R => ta σ H fun vs H1 => ∃ a xs, vs = [.ref a] ∧ ((SqL K H1 a xs ∧ R (Ite K a) H1) ∨ (SqT K H1 a xs ∧ R (IteT K a) H1))
theorem pi_enumA {X : Cx} {e : Expr} {ta : TA} {p pos tpos : Pos} {elts : List Expr} {kk : Nat} (hg : Gl X "enumerate") (hm : X.mg "enumerate" = none) (ha : PA X [e] ta) (hs : starEach [e] X.env = [(false, eval e X.env)] := by rfl) :
    PI X (.Tuple elts kk tpos) (.Call (.Name "enumerate" p) [e] [] pos) (iEnumA X.K ta) := by
  refine ⟨fun pins s σ H R I h => Call_ (ld_blt I hg hm boot_enumerate (PyProof.Rows.callWith_type1 (thn (ha.run pos pins s σ H _ I h) fun us s1 ⟨vs, H1, I1, r1, q1⟩ => ?_) hs rfl))⟩
  obtain ⟨a, xs, rfl, q1⟩ := q1
  cases r1 with
  | cons r rr =>
    cases rr
    cases r
    have fr : ∀ b ∈ [s1.heap.objs.size + 1, s1.heap.objs.size], FpOk X pins H1 b := fun b hb => by
      have le : s1.heap.objs.size ≤ b := by
        rcases (by simpa using hb : b = s1.heap.objs.size + 1 ∨ b = s1.heap.objs.size) with z | z <;> omega
      exact I1.fpOk le (I1.hok.fresh le)
    rcases q1 with ⟨hq, q⟩ | ⟨hq, q⟩
    · obtain ⟨its, rv, pl, hz⟩ := I1.list hq
      refine call_en1 (begins_list a its.toArray) pl.isList fun g he hi hk => wpAny_pyIter_enum he ?_
      exact ⟨s1.heap.objs.size + 1, _, _, _, H1, rfl, I1.kept (t' := s1.toks) hk, turn_enum a (s1.heap.objs.size + 1) s1.heap.objs.size, ⟨⟨.none, he⟩, ⟨_, hi, rfl, rfl⟩, Nat.succ_ne_self _⟩, fr, q⟩
    · obtain ⟨its, rv, pl, hz⟩ := I1.tuple hq
      obtain ⟨o, ho, _⟩ := id pl
      have lt := Heap.lt_size ho
      refine call_en1 (begins_tuple a its.toArray) pl fun g he hi hk => wpAny_pyIter_enum he ?_
      exact ⟨s1.heap.objs.size + 1, _, _, _, H1, rfl, I1.kept (t' := s1.toks) hk, turn_enT a (s1.heap.objs.size + 1) s1.heap.objs.size, ⟨⟨.none, he⟩, ⟨_, hi, rfl, rfl⟩, Nat.succ_ne_self _, Nat.ne_of_lt lt, Nat.ne_of_gt (Nat.lt_succ_of_lt lt)⟩, fr, q⟩
def enumAD : List D → Option (List D)
  | [.lst xs] => some (enumFrom 0 xs)
  | [.tup xs] => some (enumFrom 0 xs)
  | _ => none
section
variable {X : Cx} {B : Base3} {K : PySem.W.Frag}
theorem wk_enT {F0 : Hp} {a : Addr} {xs : List V} {ds : List D} (ha : SqT K F0 a xs) (ra : RepL K F0 ds xs) : Wk K B (IteT K a) (enumFrom 0 ds) F0 := by
  have l1 := ra.length
  refine ⟨fun pn F H σ E G i S s h => ?_, fun pn F H σ E G i x H' S s h y => ?_, fun pn F H σ E G i S s h => ?_⟩
  · rw [enumFrom_len] at h
    exact ⟨xs, xs[i], sameT S.w.sub (sameT s ha), List.getElem?_eq_getElem _⟩
  · obtain ⟨T, u, rfl, nT, rfl, q1⟩ := y
    obtain ⟨d, h1, r1⟩ := ra.get' (q1 xs (sameT S.w.sub (sameT s ha)))
    obtain ⟨F', S', s', r⟩ := tup2 S nT (.int (i : Nat)) (Rep.mono s _ _ r1)
    have := enumFrom_get ds 0 i d h1
    rw [Nat.zero_add] at this
    exact ⟨F', S', s', _, this, r⟩
  · rw [enumFrom_len] at h
    exact ⟨xs, sameT S.w.sub (sameT s ha), by omega⟩
def dEnumA (ta : DA) : DI := fun E G k => ta E G fun ds E1 G1 => ∃ l, enumAD ds = some l ∧ k l E1 G1
theorem li_enumA {elts : List Expr} {kk : Nat} {tpos p pos : Pos} {e : Expr} {ta : DA} (hg : Gl X "enumerate") (hm : X.mg "enumerate" = none) (ha : LA X B [e] ta) (hs : starEach [e] X.env = [(false, eval e X.env)] := by rfl) :
    LI X B (.Tuple elts kk tpos) (.Call (.Name "enumerate" p) [e] [] pos) (dEnumA ta) :=
  ⟨pi_imp (pi_enumA hg hm ha.pa hs) fun σ H R ⟨pn, F, E, G, k, S, h, hk⟩ => ⟨pn, F, E, G, _, S, h, fun ds E1 G1 ⟨l, e, h1⟩ vs F1 H1 S1 s1 r1 => by
    unfold enumAD at e
    split at e
    · cases e
      cases r1 with
      | cons ra r2 =>
        cases r2
        cases ra with
        | lst qa ra => exact ⟨_, _, rfl, .inl ⟨S1.w.sub.seq (.inl qa), hk _ _ _ h1 _ F1 H1 S1 s1 (wk_enum (.inl qa) ra)⟩⟩
    · cases e
      cases r1 with
      | cons ra r2 =>
        cases r2
        cases ra with
        | tup qa ra => exact ⟨_, _, rfl, .inr ⟨sameT S1.w.sub qa, hk _ _ _ h1 _ F1 H1 S1 s1 (wk_enT qa ra)⟩⟩
    · cases e⟩⟩
end
end L3

set_option Elab.async false
set_option maxRecDepth 100000
set_option maxHeartbeats 4000000
/-! L3, part x: list(range(..)), tuple(range(..)); another name of a def. -/
namespace L3
open PySem PySem.Spec PyProof.Rows L2
theorem rgV_rep {K : PySem.W.Frag} {F : Hp} (a b : Int) : RepL K F (rangeD a (b - a).toNat) (rgV a b) := by
  unfold rangeD rgV
  generalize List.range (b - a).toNat = l
  induction l with
  | nil => exact .nil
  | cons x l ih => exact .cons (.int _) ih
section
variable {X : Cx} {B : Base3}
def dLstRg (ta tb : DE) : DE := fun E G k => ta E G fun x E1 G1 => ∃ i, x = .val (.int i) ∧ tb E1 G1 fun y E2 G2 => ∃ j, y = .val (.int j) ∧ RgOk i j ∧ k (.fr (rangeD i (j - i).toNat)) E2 G2
def dTupRg (ta tb : DE) : DE := fun E G k => ta E G fun x E1 G1 => ∃ i, x = .val (.int i) ∧ tb E1 G1 fun y E2 G2 => ∃ j, y = .val (.int j) ∧ RgOk i j ∧ k (.val (.tup (rangeD i (j - i).toNat))) E2 G2
theorem le_listRg {a b : Expr} {ta tb : DE} {p p2 pos pos2 : Pos} (hc : X.calm = true) (hg : Gl X "list") (hm : X.mg "list" = none) (hg2 : Gl X "range") (hm2 : X.mg "range" = none) (ha : LE X B a ta) (hb : LE X B b tb)
    (na : starEach [.Call (.Name "range" p2) [a, b] [] pos2] X.env = (false, eval (.Call (.Name "range" p2) [a, b] [] pos2) X.env) :: starEach [] X.env := by rfl)
    (n1 : starEach [a, b] X.env = (false, eval a X.env) :: starEach [b] X.env := by rfl) (n2 : starEach [b] X.env = (false, eval b X.env) :: starEach [] X.env := by rfl) (hp : (backTo pos2 (starEach [b] X.env)).any (·.1) = false := by rfl) :
    LE X B (.Call (.Name "list" p) [.Call (.Name "range" p2) [a, b] [] pos2] [] pos) (dLstRg ta tb) :=
  ⟨pe_imp (pe_listRg hc hg hm (prg_2 hg2 hm2 ha.pe hb.pe n1 n2 hp) na) fun σ H Q ⟨pn, F, E, G, k, S, ht, hk⟩ => ⟨pn, F, E, G, _, S, ht, fun x E1 G1 ⟨i, ex, h1⟩ v F1 H1 S1 s1 r1 => by
    subst ex
    have r1 : Rep X.K F1 (.int i) v := r1
    cases r1
    refine ⟨pn, F1, E1, G1, _, S1, h1, fun y E2 G2 ⟨j, ey, ok, h2⟩ u F2 H2 S2 s2 r2 => ?_⟩
    subst ey
    have r2 : Rep X.K F2 (.int j) u := r2
    cases r2
    refine ⟨i, j, rfl, rfl, ok, fun q nq => ?_⟩
    obtain ⟨f, no⟩ := S2.newFre nq (rgV_rep i j)
    exact hk _ _ _ h2 _ _ _ (S2.newU nq) (s1.trans s2) ⟨q, rfl, f, no⟩⟩⟩
theorem le_tupRg {a b : Expr} {ta tb : DE} {p p2 pos pos2 : Pos} (hc : X.calm = true) (hg : Gl X "tuple") (hm : X.mg "tuple" = none) (hg2 : Gl X "range") (hm2 : X.mg "range" = none) (ha : LE X B a ta) (hb : LE X B b tb)
    (na : starEach [.Call (.Name "range" p2) [a, b] [] pos2] X.env = (false, eval (.Call (.Name "range" p2) [a, b] [] pos2) X.env) :: starEach [] X.env := by rfl)
    (n1 : starEach [a, b] X.env = (false, eval a X.env) :: starEach [b] X.env := by rfl) (n2 : starEach [b] X.env = (false, eval b X.env) :: starEach [] X.env := by rfl) (hp : (backTo pos2 (starEach [b] X.env)).any (·.1) = false := by rfl) :
    LE X B (.Call (.Name "tuple" p) [.Call (.Name "range" p2) [a, b] [] pos2] [] pos) (dTupRg ta tb) :=
  ⟨pe_imp (pe_tupRg hc hg hm (prg_2 hg2 hm2 ha.pe hb.pe n1 n2 hp) na) fun σ H Q ⟨pn, F, E, G, k, S, ht, hk⟩ => ⟨pn, F, E, G, _, S, ht, fun x E1 G1 ⟨i, ex, h1⟩ v F1 H1 S1 s1 r1 => by
    subst ex
    have r1 : Rep X.K F1 (.int i) v := r1
    cases r1
    refine ⟨pn, F1, E1, G1, _, S1, h1, fun y E2 G2 ⟨j, ey, ok, h2⟩ u F2 H2 S2 s2 r2 => ?_⟩
    subst ey
    have r2 : Rep X.K F2 (.int j) u := r2
    cases r2
    refine ⟨i, j, rfl, rfl, ok, fun q nq => ?_⟩
    obtain ⟨S3, s3⟩ := S2.newF (o := .tup (rgV i j)) nq
    exact hk _ _ _ h2 _ _ _ S3 ((s1.trans s2).trans s3) (.tup (SqT.of upd_same) (rgV_rep i j))⟩⟩
end
/-! ### another name of a def -/
theorem cal3_alias {P : Program} {w : World} {K : PySem.W.Frag} {mg : Str → Option Value} {base : Heap} {x y : Str} {k : Nat} {ps : List Str} {sp : DSp} (a : mg x = mg y) (c : Cal3 P w K mg base y k ps sp) : Cal3 P w K mg base x k ps sp := by
  obtain ⟨f, fd, h1, h2, h3⟩ := c.ex
  exact ⟨f, fd, h1, a.trans h2, h3⟩
end L3

set_option Elab.async false
set_option maxRecDepth 100000
set_option maxHeartbeats 4000000
set_option exponentiation.threshold 2000
/-! LD: the dice of all laws, over plain values. -/
namespace LD
open PySem PySem.Spec PyProof.Rows L2 L3
/-- the dice stand at a; R: the other registers -/
def Dice (a : Addr) (R G : Reg) : Prop := ∃ l m c : Int, G = (a, [D.int l, D.int m, D.int c]) :: R
def BIG : Int := 2 ^ 600
def sp__law_dice : DSp := fun ds G q _ => ∃ (ns : List Int) (i : Nat), ds = [.scr ns, .int (i : Int)] ∧ ∀ l m c : Int, q (.fr [D.int l, D.int m, D.int c]) G
def sp__law_roll : DSp := fun ds G q _ => ∃ (a : Addr) (R : Reg) (t : Int), ds = [.ref a, .int t] ∧ Dice a R G ∧ 0 < t ∧ t < BIG ∧ ∀ (r : Int) G', 0 ≤ r → r < t → Dice a R G' → q (.val (.int r)) G'
def sp__law_pick : DSp := fun ds G q _ => ∃ (a : Addr) (R : Reg) (es : List D), ds = [.ref a, .lst es] ∧ Dice a R G ∧ es ≠ [] ∧ es.length ≤ 1000 ∧ ∀ d G', d ∈ es → Dice a R G' → q (.val d) G'
theorem len__law_dice : ∀ ds G q e, sp__law_dice ds G q e → ds.length = 2 := fun ds G q e ⟨_, _, h, _⟩ => by rw [h]; rfl
theorem len__law_roll : ∀ ds G q e, sp__law_roll ds G q e → ds.length = 2 := fun ds G q e ⟨_, _, _, h, _⟩ => by rw [h]; rfl
theorem len__law_pick : ∀ ds G q e, sp__law_pick ds G q e → ds.length = 2 := fun ds G q e ⟨_, _, _, h, _⟩ => by rw [h]; rfl
def t__law_dice (dw : Exc3 → Reg → Prop) : DSt :=
  (dSeq (dSet 2 (dIf (dTest (dOp oLt (dVar 1) (dCB bLen (dPCons (dVar 0) dNil)))) (dCB bIntOf (dPCons (dOp oIx (dVar 0) (dVar 1)) dNil)) (dOp oAdd (dOp oMul (dC (.int 83)) (dVar 1)) (dC (.int 29)))))
    (dSeq (dSet 3 (dOp oMod (dCB bMax (dPCons (dC (.int 0)) (dPCons (dOp oSub (dCB bAbs (dPCons (dVar 2) dNil)) (dOp oPow (dC (.int 10)) (dC (.int 16)))) dNil))) (dOp oMul (dOp oPow (dC (.int 10)) (dC (.int 60))) (dOp oPow (dC (.int 10)) (dC (.int 60))))))
    (dRet (dLst (dCons (dVar 3) (dCons (dOp oAdd (dOp oAdd (dOp oAdd (dOp oMul (dOp oMod (dCB bAbs (dPCons (dVar 2) dNil)) (dC (.int 1152921504606846899))) (dC (.int 47))) (dOp oMul (dC (.int 839)) (dVar 1))) (dOp oMul (dC (.int 41)) (dCB bIntOf (dPCons (dOp oLt (dVar 2) (dC (.int 0))) dNil)))) (dC (.int 7))) (dCons (dC (.int 0)) dNil)))))))
def t__law_roll (dw : Exc3 → Reg → Prop) : DSt :=
  (dSeq (dIfS (dTest (dOp oGt (dOp oIx (dVar 0) (dC (.int 0))) (dC (.int 0)))) (dSeq (dSet 2 (dOp oMod (dCB bIntOf (dPCons (dOp oIx (dVar 0) (dC (.int 0))) dNil)) (dVar 1)))
    (dSeq (dStore (dOp oFdiv (dOp oIx (dVar 0) (dC (.int 0))) (dVar 1)) (dVar 0) (dC (.int 0)))
    (dRet (dVar 2)))) dNext)
    (dSeq (dStore (dOp oAdd (dOp oIx (dVar 0) (dC (.int 2))) (dC (.int 1))) (dVar 0) (dC (.int 2)))
    (dSeq (dSet 3 (dOp oMod (dCB bIntOf (dPCons (dOp oAdd (dOp oIx (dVar 0) (dC (.int 1))) (dOp oMul (dC (.int 32452867)) (dOp oIx (dVar 0) (dC (.int 2))))) dNil)) (dC (.int 2305843009213693907))))
    (dSeq (dSet 4 (dOp oAdd (dOp oMul (dOp oMod (dCB bIntOf (dPCons (dOp oAdd (dOp oMul (dVar 3) (dVar 3)) (dOp oMul (dC (.int 97)) (dOp oIx (dVar 0) (dC (.int 2))))) dNil)) (dC (.int 2305843009213693921))) (dC (.int 6700417))) (dVar 3)))
    (dRet (dOp oMod (dCB bIntOf (dPCons (dOp oFdiv (dVar 4) (dC (.int 65536))) dNil)) (dVar 1)))))))
def t__law_pick (dw : Exc3 → Reg → Prop) : DSt :=
  (dRet (dOp oIx (dVar 1) (dCall sp__law_roll (fun x _ G => dw x G) (dCons (dVar 0) (dCons (dCB bLen (dPCons (dVar 1) dNil)) dNil)))))
theorem pow1060 : MulOk (10 ^ (60 : Int).toNat) (10 ^ (60 : Int).toNat) := .inr (by unfold CMulW; decide +kernel)
theorem div_ok {l t : Int} (h : 0 < t) (h2 : t < BIG) : CDivW l t := wide_div h (b := 600) (by unfold BIG at h2; omega) (by decide) (by decide)
local macro_rules | `(tactic| walk_at "ev") => `(tactic| repeat (first | refine ⟨_, rfl, ?_⟩ | refine ⟨_, _, rfl, ?_⟩ | refine ⟨_, look0, ?_⟩ | refine ⟨_, at0, ?_⟩ | refine ⟨_, at1, ?_⟩ | refine ⟨_, at2, ?_⟩ | refine ⟨by decide, ?_⟩ | refine ⟨ltL rfl, ?_⟩ | refine ⟨mulC (by decide), ?_⟩ | refine ⟨mulC' (by decide), ?_⟩ | refine ⟨_, _, _, rfl, ?_⟩ | refine ⟨_, ix0, ?_⟩ | refine ⟨_, ix1, ?_⟩ | refine ⟨_, ix2, ?_⟩ | refine ⟨cpow _ (by decide) (by decide), ?_⟩ | refine ⟨pow1060, ?_⟩))
theorem p__law_roll (N : List Str) (hN : N.length = 5) : ∀ ds G q dw, sp__law_roll ds G q dw → t__law_roll dw { nx := fun _ G' => q (.val .non) G', rt := q } (start3 N ds) G := by
  intro ds G q dw h
  obtain ⟨a, R, t, rfl, ⟨l, m, c, rfl⟩, ht, hb, h⟩ := h
  unfold t__law_roll start3
  rw [hN]
  walk_at "ev"
  refine ifD (fun h1 => ?_) (fun h1 => ?_)
  · walk_at "ev"
    refine ⟨ht, ?_⟩
    walk_at "ev"
    refine ⟨div_ok ht hb, ?_⟩
    walk_at "ev"
    rw [regS]
    walk_at "ev"
    exact h _ _ (Int.emod_nonneg _ (by omega)) (Int.emod_lt_of_pos _ ht) ⟨_, _, _, rfl⟩
  · walk_at "ev"
    rw [regS]
    walk_at "ev"
    refine ⟨mulC ⟨?_, ?_⟩, ?_⟩
    · have := Int.emod_nonneg (m + 32452867 * (c + 1)) (b := 2305843009213693907) (by omega); omega
    · have := Int.emod_lt_of_pos (m + 32452867 * (c + 1)) (b := 2305843009213693907) (by omega); omega
    walk_at "ev"
    refine ⟨div_ok (by decide) (by decide), ?_⟩
    walk_at "ev"
    refine ⟨ht, ?_⟩
    walk_at "ev"
    exact h _ _ (Int.emod_nonneg _ (by omega)) (Int.emod_lt_of_pos _ ht) ⟨_, _, _, rfl⟩
theorem len_big {α : Type} {es : List α} (h : es.length ≤ 1000) : (es.length : Int) < BIG := by unfold BIG; omega
theorem p__law_pick (N : List Str) (hN : N.length = 2) : ∀ ds G q dw, sp__law_pick ds G q dw → t__law_pick dw { nx := fun _ G' => q (.val .non) G', rt := q } (start3 N ds) G := by
  intro ds G q dw h
  obtain ⟨a, R, es, rfl, hd, hne, hle, h⟩ := h
  unfold t__law_pick start3
  rw [hN]
  walk_at "ev"
  refine ⟨a, R, (es.length : Int), rfl, hd, by have := List.length_pos_iff.2 hne; omega, len_big hle, fun r G' h0 h1 hd' => ?_⟩
  obtain ⟨d, e, hm⟩ := atN h0 h1
  walk_at "ev"
  refine ⟨d, e, ?_⟩
  walk_at "ev"
  exact h d G' hm hd'
theorem p__law_dice (N : List Str) (hN : N.length = 4) : ∀ ds G q dw, sp__law_dice ds G q dw → t__law_dice dw { nx := fun _ G' => q (.val .non) G', rt := q } (start3 N ds) G := by
  intro ds G q dw h
  obtain ⟨ns, i, rfl, h⟩ := h
  unfold t__law_dice start3
  rw [hN]
  walk_at "ev"
  refine ifD (fun h1 => ?_) (fun h1 => ?_)
  · obtain ⟨v, e, _⟩ := atN (ds := ns) (Int.natCast_nonneg i) h1
    walk_at "ev"
    refine ⟨v, e, ?_⟩
    walk_at "ev"
    exact h _ _ _
  · walk_at "ev"
    exact h _ _ _
theorem small_big {x : Int} (h : x ≤ 1000000) : x < BIG := by unfold BIG; omega
end LD

set_option Elab.async false
set_option maxRecDepth 100000
set_option maxHeartbeats 4000000
/-! LN: whole numbers, primes, letters, points of the program: what they answer where nothing is refused. -/
namespace LN
open PySem PySem.Spec PyProof.Rows L2 L3
local macro_rules | `(tactic| walk_at "ev") => `(tactic| repeat (first | refine ⟨_, rfl, ?_⟩ | refine ⟨_, _, rfl, ?_⟩ | refine ⟨rfl, ?_⟩ | refine And.intro (by assumption) ?_ | refine ⟨by decide, ?_⟩ | refine ⟨ltL rfl, ?_⟩ | refine ⟨_, at0, ?_⟩ | refine ⟨_, at1, ?_⟩ | refine ⟨_, at2, ?_⟩ | refine ⟨_, _, _, rfl, ?_⟩))
def primes : List Int := [2, 3, 5, 7, 11, 13, 17, 19, 23, 29, 31]
/-- the primes of the program -/
def Pr (p : Int) : Prop := p ∈ primes
/-- a point, as a value -/
def pt (ws : List Int) : D := .tup (ws.map D.int)
theorem sh_pt (ws : List Int) : (pt ws).sh = true := by unfold pt; rw [sh_tup]; exact all_shl_ints ws
theorem eqv_pt (xs ys : List Int) : D.eqv (pt xs) (pt ys) = decide (xs = ys) := by unfold pt; rw [eqv_tup, eqvL_ints]
theorem sh_ints (ws : List Int) : (D.lst (ws.map D.int)).sh = true := by rw [sh_lst]; exact all_shl_ints ws
theorem sh_cut (ws : List Int) (lo hi : Option Int) : (D.tup (cutD (ws.map D.int) lo hi)).sh = true := by rw [cutD_map]; exact sh_pt _
theorem eqv_ints (xs ys : List Int) : D.eqv (.lst (xs.map D.int)) (.lst (ys.map D.int)) = decide (xs = ys) := by rw [eqv_lst, eqvL_ints]
theorem eqvL_pts : ∀ xs ys : List (List Int), eqvL (xs.map pt) (ys.map pt) = decide (xs = ys)
  | [], [] => rfl
  | [], _ :: _ => rfl
  | _ :: _, [] => rfl
  | x :: xs, y :: ys => by
    rw [List.map_cons, List.map_cons, eqvL_cons, eqv_pt, eqvL_pts xs ys]
    by_cases h : x = y <;> by_cases h2 : xs = ys <;> simp [h, h2]
theorem eqv_tpts (xs ys : List (List Int)) : D.eqv (.tup (xs.map pt)) (.tup (ys.map pt)) = decide (xs = ys) := by rw [eqv_tup, eqvL_pts]
theorem eqv_lpts (xs ys : List (List Int)) : D.eqv (.lst (xs.map pt)) (.lst (ys.map pt)) = decide (xs = ys) := by rw [eqv_lst, eqvL_pts]
theorem shl_pt {p : D → Bool} (hp : ∀ n, p (.int n) = true) (ws : List Int) : shl p (pt ws) = true := by
  unfold pt
  rw [shl_tup, List.all_map]
  exact List.all_eq_true.2 fun x _ => hp x
theorem sh_tpts (xs : List (List Int)) : (D.tup (xs.map pt)).sh = true := by
  rw [sh_tup, List.all_map]
  exact List.all_eq_true.2 fun x _ => shl_pt (fun _ => rfl) x
theorem sh_lpts (xs : List (List Int)) : (D.lst (xs.map pt)).sh = true := by
  rw [sh_lst, List.all_map]
  exact List.all_eq_true.2 fun x _ => shl_pt (fun _ => rfl) x
theorem among_pts (y : List Int) : ∀ xs : List (List Int), D.among (pt y) (xs.map pt) = decide (y ∈ xs)
  | [] => rfl
  | x :: xs => by
    have := among_pts y xs
    unfold D.among at this ⊢
    rw [List.map_cons, List.any_cons, eqv_pt, this]
    by_cases h : x = y
    · simp [h]
    · have h' : ¬ y = x := fun e => h e.symm
      by_cases h2 : y ∈ xs <;> simp [h, h', h2]
def unint : D → Int
  | .int i => i
  | _ => 0
def unpt : D → List Int
  | .tup ds => (intsOf ds).getD []
  | _ => []
theorem unpt_pt (ws : List Int) : unpt (pt ws) = ws := by unfold unpt pt; simp only; rw [intsOf_map]; rfl
def Pt (p : Int) (ws : List Int) : Prop := ws.length ≤ 60 ∧ ∀ x ∈ ws, -1 ≤ x ∧ x < p
def Lim (v : Int) : Prop := -(10 ^ 60) < v ∧ v < 10 ^ 60
theorem Pr.le {p : Int} (h : Pr p) : 2 ≤ p ∧ p ≤ 31 := by
  unfold Pr primes at h
  simp only [List.mem_cons, List.not_mem_nil, or_false] at h
  omega
theorem Pr.lim {p : Int} (h : Pr p) : Lim p := by have := h.le; unfold Lim; omega
abbrev tru (q : Res → Reg → Prop) (G : Reg) : Prop := q (.val (.bl true)) G
def sp_is_whole : DSp := fun ds G q _ => ∃ v : Int, ds = [.int v] ∧ tru q G
def sp_is_integer : DSp := fun ds G q _ => ∃ v : Int, ds = [.int v] ∧ Lim v ∧ tru q G
def sp_is_prime : DSp := fun ds G q _ => ∃ v : Int, ds = [.int v] ∧ Pr v ∧ tru q G
def sp_require_prime : DSp := fun ds G q _ => ∃ v : Int, ds = [.int v] ∧ Pr v ∧ q (.val .non) G
def sp_is_letter : DSp := fun ds G q _ => ∃ p v : Int, ds = [.int p, .int v] ∧ Pr p ∧ -1 ≤ v ∧ v < p ∧ tru q G
def sp_are_letters : DSp := fun ds G q _ => ∃ (p : Int) (ws : List Int), ds = [.int p, pt ws] ∧ Pr p ∧ Pt p ws ∧ tru q G
def sp_is_point : DSp := fun ds G q _ => ∃ (p : Int) (ws : List Int), ds = [.int p, pt ws] ∧ Pr p ∧ Pt p ws ∧ tru q G
def sp_require_point : DSp := fun ds G q _ => ∃ (p : Int) (ws : List Int), ds = [.int p, pt ws] ∧ Pr p ∧ Pt p ws ∧ q (.val .non) G
theorem len_is_whole : ∀ ds G q e, sp_is_whole ds G q e → ds.length = 1 := fun ds G q e ⟨_, h, _⟩ => by rw [h]; rfl
theorem len_is_integer : ∀ ds G q e, sp_is_integer ds G q e → ds.length = 1 := fun ds G q e ⟨_, h, _⟩ => by rw [h]; rfl
theorem len_is_prime : ∀ ds G q e, sp_is_prime ds G q e → ds.length = 1 := fun ds G q e ⟨_, h, _⟩ => by rw [h]; rfl
theorem len_require_prime : ∀ ds G q e, sp_require_prime ds G q e → ds.length = 1 := fun ds G q e ⟨_, h, _⟩ => by rw [h]; rfl
theorem len_is_letter : ∀ ds G q e, sp_is_letter ds G q e → ds.length = 2 := fun ds G q e ⟨_, _, h, _⟩ => by rw [h]; rfl
theorem len_are_letters : ∀ ds G q e, sp_are_letters ds G q e → ds.length = 2 := fun ds G q e ⟨_, _, h, _⟩ => by rw [h]; rfl
theorem len_is_point : ∀ ds G q e, sp_is_point ds G q e → ds.length = 2 := fun ds G q e ⟨_, _, h, _⟩ => by rw [h]; rfl
theorem len_require_point : ∀ ds G q e, sp_require_point ds G q e → ds.length = 2 := fun ds G q e ⟨_, _, h, _⟩ => by rw [h]; rfl
def t_is_whole (dw : Exc3 → Reg → Prop) : DSt :=
  (dRet (dAndV (dCB bIsi (dPCons (dVar 0) (dPCons (dC (.ty "int")) dNil))) (dNotV (dCB bIsi (dPCons (dVar 0) (dPCons (dC (.ty "bool")) dNil))))))
def t_is_integer (dw : Exc3 → Reg → Prop) : DSt :=
  (dRet (dAndV (dCall sp_is_whole (fun x _ G => dw x G) (dCons (dVar 0) dNil)) (dChain oLt oLt (dUn uNeg (dC (.int (1000000000000000000000000000000000000000000000000000000000000)))) (dVar 0) (dC (.int (1000000000000000000000000000000000000000000000000000000000000))))))
def t_is_prime (dw : Exc3 → Reg → Prop) : DSt :=
  (dRet (dAndV (dCall sp_is_whole (fun x _ G => dw x G) (dCons (dVar 0) dNil)) (dOp (oIn false) (dVar 0) (dC (.tup (([2, 3, 5, 7, 11, 13, 17, 19, 23, 29, 31] : List Int).map D.int))))))
def t_require_prime (dw : Exc3 → Reg → Prop) : DSt :=
  (dIfS (dNot (dTest (dCall sp_is_prime (fun x _ G => dw x G) (dCons (dVar 0) dNil)))) dNever dNext)
def t_is_letter (dw : Exc3 → Reg → Prop) : DSt :=
  (dRet (dAndV (dCall sp_is_integer (fun x _ G => dw x G) (dCons (dVar 1) dNil)) (dChain oLe oLt (dC (.int (-1))) (dVar 1) (dVar 0))))
def t_are_letters (dw : Exc3 → Reg → Prop) : DSt :=
  (dSeq (dIfS (dOr (dNot (dTest (dCB bIsi (dPCons (dVar 1) (dPCons (dC (.ty "tuple")) dNil))))) (dTest (dOp oGt (dCB bLen (dPCons (dVar 1) dNil)) (dC (.int (60)))))) (dRet (dC (.bl false))) dNext)
    (dRet (dCB bAll (dPCons (dLc (dIter (dVar 1)) (gNm 2) dYes (dCall sp_is_letter dw0 (dCons (dVar 0) (dCons (dVar 2) dNil))) [2]) dNil))))
def t_is_point (dw : Exc3 → Reg → Prop) : DSt :=
  (dSeq (dDrop (dCall sp_require_prime (fun x _ G => dw x G) (dCons (dVar 0) dNil)))
    (dRet (dCall sp_are_letters (fun x _ G => dw x G) (dCons (dVar 0) (dCons (dVar 1) dNil)))))
def t_require_point (dw : Exc3 → Reg → Prop) : DSt :=
  (dIfS (dNot (dTest (dCall sp_is_point (fun x _ G => dw x G) (dCons (dVar 0) (dCons (dVar 1) dNil))))) dNever dNext)
theorem eqv_mem {v : Int} : ∀ ns : List Int, v ∈ ns → ((ns.map D.int).any fun z => D.eqv z (.int v)) = true
  | [], h => by cases h
  | n :: ns, h => by
    rw [List.map_cons, List.any_cons, eqv_int]
    rcases List.mem_cons.mp h with e | e
    · rw [e, decide_eq_true rfl]; rfl
    · rw [eqv_mem ns e, Bool.or_true]
theorem p_is_whole (N : List Str) (hN : N.length = 1) : ∀ ds G q dw, sp_is_whole ds G q dw → t_is_whole dw { nx := fun _ G' => q (.val .non) G', rt := q } (start3 N ds) G := by
  intro ds G q dw h
  unfold t_is_whole start3
  rw [hN]
  obtain ⟨v, rfl, h⟩ := h
  walk_at "ev"
  exact h
theorem p_is_integer (N : List Str) (hN : N.length = 1) : ∀ ds G q dw, sp_is_integer ds G q dw → t_is_integer dw { nx := fun _ G' => q (.val .non) G', rt := q } (start3 N ds) G := by
  intro ds G q dw h
  unfold t_is_integer start3
  rw [hN]
  obtain ⟨v, rfl, l, h⟩ := h
  walk_at "ev"
  refine ifD (fun _ => ?_) (fun z => absurd l.1 z)
  walk_at "ev"
  exact qT (q := q) (decide_eq_true l.2) h
theorem p_is_prime (N : List Str) (hN : N.length = 1) : ∀ ds G q dw, sp_is_prime ds G q dw → t_is_prime dw { nx := fun _ G' => q (.val .non) G', rt := q } (start3 N ds) G := by
  intro ds G q dw h
  unfold t_is_prime start3
  rw [hN]
  obtain ⟨v, rfl, l, h⟩ := h
  walk_at "ev"
  exact qT (q := q) (eqv_mem primes l) h
theorem p_require_prime (N : List Str) (hN : N.length = 1) : ∀ ds G q dw, sp_require_prime ds G q dw → t_require_prime dw { nx := fun _ G' => q (.val .non) G', rt := q } (start3 N ds) G := by
  intro ds G q dw h
  unfold t_require_prime start3
  rw [hN]
  obtain ⟨v, rfl, l, h⟩ := h
  walk_at "ev"
  exact h
theorem p_is_letter (N : List Str) (hN : N.length = 2) : ∀ ds G q dw, sp_is_letter ds G q dw → t_is_letter dw { nx := fun _ G' => q (.val .non) G', rt := q } (start3 N ds) G := by
  intro ds G q dw h
  unfold t_is_letter start3
  rw [hN]
  obtain ⟨p, v, rfl, hp, l1, l2, h⟩ := h
  walk_at "ev"
  refine ⟨by have := hp.le; unfold Lim; omega, ?_⟩
  walk_at "ev"
  refine ifD (fun _ => ?_) (fun z => absurd l1 z)
  walk_at "ev"
  exact qT (q := q) (decide_eq_true l2) h
theorem all_tru {α : Type} (xs : List α) : (xs.map fun _ => true).all id = true := by simp
theorem blsT {α : Type} : ∀ xs : List α, blsOf (xs.map fun _ => D.bl true) = some (xs.map fun _ => true) := fun xs => by
  have := blsOf_map (xs.map fun _ => true)
  rw [List.map_map] at this
  exact this
theorem p_are_letters (N : List Str) (hN : N.length = 3) : ∀ ds G q dw, sp_are_letters ds G q dw → t_are_letters dw { nx := fun _ G' => q (.val .non) G', rt := q } (start3 N ds) G := by
  intro ds G q dw h
  unfold t_are_letters start3
  rw [hN]
  obtain ⟨p, ws, rfl, hp, l, h⟩ := h
  walk_at "ev"
  refine ifD (fun z => ?_) (fun _ => ?_)
  · have := l.1; rw [List.length_map] at z; omega
  walk_at "ev"
  refine ⟨by rw [List.length_map, sizeLine_eq]; have := l.1; omega, ?_⟩
  refine lc_pure (E := [.val (.int p), .val (pt ws), .no]) (fun d => ∃ x ∈ ws, d = D.int x) (fun _ => some (.bl true)) (fun d k1 k2 hd h1 h2 => ?_) _ _ _ (fun d hd => ?_) ?_
  · obtain ⟨x, hx, rfl⟩ := hd
    walk_at "ev"
    refine ⟨(l.2 x hx).1, (l.2 x hx).2, ?_⟩
    walk_at "ev"
    exact h1 _ _ rfl rfl
  · obtain ⟨x, hx, e⟩ := List.mem_map.mp hd
    exact ⟨x, hx, e.symm⟩
  · rw [fmap_all (g := fun _ => D.bl true) (fun _ _ => rfl)]
    walk_at "ev"
    refine ⟨_, blsT _, ?_⟩
    walk_at "ev"
    exact qT (q := q) (all_tru _) h
theorem p_is_point (N : List Str) (hN : N.length = 2) : ∀ ds G q dw, sp_is_point ds G q dw → t_is_point dw { nx := fun _ G' => q (.val .non) G', rt := q } (start3 N ds) G := by
  intro ds G q dw h
  unfold t_is_point start3
  rw [hN]
  obtain ⟨p, ws, rfl, hp, l, h⟩ := h
  walk_at "ev"
  exact h
theorem p_require_point (N : List Str) (hN : N.length = 2) : ∀ ds G q dw, sp_require_point ds G q dw → t_require_point dw { nx := fun _ G' => q (.val .non) G', rt := q } (start3 N ds) G := by
  intro ds G q dw h
  unfold t_require_point start3
  rw [hN]
  obtain ⟨p, ws, rfl, hp, l, h⟩ := h
  walk_at "ev"
  exact h
end LN

set_option Elab.async false
set_option maxRecDepth 100000
set_option maxHeartbeats 4000000
set_option exponentiation.threshold 2000
/-! LP: points near others; points drawn. -/
namespace LP
open PySem PySem.Spec PyProof.Rows L2 L3 LD LN
local macro_rules | `(tactic| walk_at "ev") => `(tactic| repeat (first | refine ⟨_, rfl, ?_⟩ | refine ⟨_, _, rfl, ?_⟩ | refine ⟨rfl, ?_⟩ | refine And.intro (by assumption) ?_ | refine ⟨by decide, ?_⟩ | refine ⟨ltL rfl, ?_⟩ | refine ⟨_, at0, ?_⟩ | refine ⟨_, at1, ?_⟩ | refine ⟨_, at2, ?_⟩ | refine ifT ?_ | refine ifF ?_))

/-- the size of the first j letters once the noughts at their end are off -/
def nz (ws : List Int) : Nat → Nat
  | 0 => 0
  | k + 1 => if ws.getD k 1 = 0 then nz ws k else k + 1
def second (ws : List Int) : Option (List Int) :=
  if nz ws ws.length < 2 ∨ ws.getD (nz ws ws.length - 1) 0 ≠ -1 then none else some (ws.take (nz ws ws.length - 2))
def secD (ws : List Int) : D := match second ws with
  | none => .non
  | some l => pt l
def nears (ws : List Int) : List (List Int) := if ws = [] then [] else ws.dropLast :: (second ws).toList
def sp_second_below : DSp := fun ds G q _ => ∃ ws : List Int, ds = [pt ws] ∧ q (.val (secD ws)) G
def sp_nears_of : DSp := fun ds G q _ => ∃ ws : List Int, ds = [pt ws] ∧ q (.val (.tup ((nears ws).map pt))) G
def sp__law_letter : DSp := fun ds G q _ => ∃ (a : Addr) (R : Reg) (p : Int), ds = [.ref a, .int p] ∧ Dice a R G ∧ Pr p ∧ ∀ (v : Int) G', -1 ≤ v → v < p → Dice a R G' → q (.val (.int v)) G'
def sp__law_point_drawn : DSp := fun ds G q _ => ∃ (a : Addr) (R : Reg) (p m : Int), ds = [.ref a, .int p, .int m] ∧ Dice a R G ∧ Pr p ∧ 0 ≤ m ∧ m ≤ 60 ∧ ∀ (ws : List Int) G', (ws.length : Int) ≤ m → Pt p ws → Dice a R G' → q (.val (pt ws)) G'
theorem len_second_below : ∀ ds G q e, sp_second_below ds G q e → ds.length = 1 := fun ds G q e ⟨_, h, _⟩ => by rw [h]; rfl
theorem len_nears_of : ∀ ds G q e, sp_nears_of ds G q e → ds.length = 1 := fun ds G q e ⟨_, h, _⟩ => by rw [h]; rfl
theorem len__law_letter : ∀ ds G q e, sp__law_letter ds G q e → ds.length = 2 := fun ds G q e ⟨_, _, _, h, _⟩ => by rw [h]; rfl
theorem len__law_point_drawn : ∀ ds G q e, sp__law_point_drawn ds G q e → ds.length = 3 := fun ds G q e ⟨_, _, _, _, h, _⟩ => by rw [h]; rfl
def t_second_below (dw : Exc3 → Reg → Prop) : DSt :=
  (dSeq (dSet 1 (dCB bLen (dPCons (dVar 0) dNil)))
    (dSeq (dWhile (dAnd (dTest (dOp oGt (dVar 1) (dC (.int 0)))) (dTest (dOp oEq (dOp oIx (dVar 0) (dOp oSub (dVar 1) (dC (.int 1)))) (dC (.int 0))))) (dAug 1 oSub (dC (.int 1))))
    (dSeq (dIfS (dOr (dTest (dOp oLt (dVar 1) (dC (.int 2)))) (dTest (dOp oNe (dOp oIx (dVar 0) (dOp oSub (dVar 1) (dC (.int 1)))) (dC (.int (-1)))))) (dRet (dC .non)) dNext)
    (dRet (dSl oSl (dVar 0) dNoPart (dPart (dOp oSub (dVar 1) (dC (.int 2)))))))))
def t_nears_of (dw : Exc3 → Reg → Prop) : DSt :=
  (dSeq (dIfS (dTest (dOp oEq (dVar 0) (dTup dNil))) (dRet (dTup dNil)) dNext)
    (dSeq (dSet 1 (dCall sp_second_below (fun x _ G => dw x G) (dCons (dVar 0) dNil)))
    (dRet (dIf (dTest (dOp (oIs false) (dVar 1) (dC .non))) (dTup (dCons (dSl oSl (dVar 0) dNoPart (dPart (dUn uNeg (dC (.int 1))))) dNil)) (dTup (dCons (dSl oSl (dVar 0) dNoPart (dPart (dUn uNeg (dC (.int 1))))) (dCons (dVar 1) dNil)))))))
def t__law_letter (dw : Exc3 → Reg → Prop) : DSt :=
  (dSeq (dSet 2 (dCall sp__law_roll (fun x _ G => dw x G) (dCons (dVar 0) (dCons (dC (.int 5)) dNil))))
    (dRet (dIf (dTest (dOp oLt (dVar 2) (dC (.int 2)))) (dUn uNeg (dC (.int 1))) (dIf (dTest (dOp oEq (dVar 2) (dC (.int 2)))) (dC (.int 0)) (dCall sp__law_roll (fun x _ G => dw x G) (dCons (dVar 0) (dCons (dVar 1) dNil)))))))
def t__law_point_drawn (dw : Exc3 → Reg → Prop) : DSt :=
  (dSeq (dSet 3 (dCB bMax (dPCons (dCall sp__law_roll (fun x _ G => dw x G) (dCons (dVar 0) (dCons (dOp oAdd (dVar 2) (dC (.int 1))) dNil))) (dPCons (dCall sp__law_roll (fun x _ G => dw x G) (dCons (dVar 0) (dCons (dOp oAdd (dVar 2) (dC (.int 1))) dNil))) dNil))))
    (dRet (dCB bTuple (dPCons (dLc (dRng1 (dCons (dVar 3) dNil)) (gNm 4) dYes (dCall sp__law_letter dw0 (dCons (dVar 0) (dCons (dVar 1) dNil))) [4]) dNil))))
theorem nz_le (ws : List Int) : ∀ k, nz ws k ≤ k
  | 0 => Nat.le_refl 0
  | k + 1 => by
    unfold nz
    split
    · exact Nat.le_succ_of_le (nz_le ws k)
    · exact Nat.le_refl _
theorem at_pred {ws : List Int} {k : Nat} (h : k < ws.length) : atI (ws.map D.int) ((((k + 1 : Nat) : Int)) - 1) = some (.int (ws.getD k 1)) := by
  have e : (((k + 1 : Nat) : Int)) - 1 = (k : Int) := by omega
  rw [e, at_nat (by rw [List.length_map]; exact h), List.getElem_map, List.getD_eq_getElem?_getD, List.getElem?_eq_getElem h]
  rfl
theorem w_second {Dn : Ends3} {ws : List Int} {G : Reg} (m : Nat) (hm : m = ws.length) (h : Dn.nx [.val (pt ws), .val (.int (nz ws ws.length : Nat))] G) :
    dWhile (dAnd (dTest (dOp oGt (dVar 1) (dC (.int 0)))) (dTest (dOp oEq (dOp oIx (dVar 0) (dOp oSub (dVar 1) (dC (.int 1)))) (dC (.int 0))))) (dAug 1 oSub (dC (.int 1))) Dn [.val (pt ws), .val (.int (m : Nat))] G := by
  subst hm
  refine ⟨(ws.length - nz ws ws.length) + 1, ?_⟩
  refine wh_ind (fun n E G' => G' = G ∧ ∃ k, k ≤ ws.length ∧ nz ws k = nz ws ws.length ∧ n = k - nz ws k ∧ E = [.val (pt ws), .val (.int (k : Nat))]) (fun n E G1 nx hI hn => ?_) _ _ _ ⟨rfl, ws.length, Nat.le_refl _, rfl, rfl, rfl⟩
  obtain ⟨rfl, k, hk, hz, rfl, rfl⟩ := hI
  walk_at "ev"
  refine ifD (fun h1 => ?_) (fun h1 => ?_)
  · obtain ⟨j, rfl⟩ : ∃ j, k = j + 1 := ⟨k - 1, by omega⟩
    walk_at "ev"
    refine ⟨_, at_pred (by omega), ?_⟩
    walk_at "ev"
    refine ifE (fun e => ?_) (fun e => ?_)
    · walk_at "ev"
      have hz1 : nz ws (j + 1) = nz ws j := by rw [nz, if_pos e]
      have := nz_le ws j
      refine hn _ _ (j - nz ws j) (by omega) ⟨rfl, j, by omega, by omega, rfl, ?_⟩
      show [Sl3.val (pt ws), Sl3.val (.int (((j + 1 : Nat) : Int) - 1))] = _
      rw [show ((j + 1 : Nat) : Int) - 1 = (j : Int) by omega]
    · have hz1 : nz ws (j + 1) = j + 1 := by rw [nz, if_neg e]
      show Dn.nx _ _
      rw [← hz, hz1] at h
      exact h
  · have : k = 0 := by omega
    subst this
    show Dn.nx _ _
    rw [← hz] at h
    exact h
theorem p_second_below (N : List Str) (hN : N.length = 2) : ∀ ds G q dw, sp_second_below ds G q dw → t_second_below dw { nx := fun _ G' => q (.val .non) G', rt := q } (start3 N ds) G := by
  intro ds G q dw h
  unfold t_second_below start3
  rw [hN]
  obtain ⟨ws, rfl, h⟩ := h
  walk_at "ev"
  refine w_second (ws := ws) _ (List.length_map _) ?_
  walk_at "ev"
  have hle := nz_le ws ws.length
  unfold secD second at h
  refine ifD (fun h1 => ?_) (fun h1 => ?_)
  · rw [if_pos (.inl (by omega))] at h
    walk_at "ev"
    exact h
  · obtain ⟨j, hj⟩ : ∃ j, nz ws ws.length = j + 1 + 1 := ⟨nz ws ws.length - 2, by omega⟩
    rw [hj] at h hle ⊢
    walk_at "ev"
    refine ⟨_, at_pred (by omega), ?_⟩
    walk_at "ev"
    have eg : ws.getD (j + 1) 1 = ws.getD (j + 1) 0 := by rw [List.getD_eq_getElem?_getD, List.getD_eq_getElem?_getD, List.getElem?_eq_getElem (show j + 1 < ws.length by omega)]; rfl
    refine ifNE (fun e => ?_) (fun e => ?_)
    · rw [if_pos (.inr (by rw [show j + 1 + 1 - 1 = j + 1 by omega, ← eg]; exact e))] at h
      walk_at "ev"
      exact h
    · walk_at "ev"
      rw [if_neg (by rw [show j + 1 + 1 - 1 = j + 1 by omega, ← eg]; exact fun z => z.elim (by omega) (fun z => z e))] at h
      show q (.val (.tup (cutD (ws.map D.int) none (some (((j + 1 + 1 : Nat) : Int) - 2))))) G
      rw [show (((j + 1 + 1 : Nat) : Int) - 2) = ((j : Nat) : Int) by omega, cut_to, ← List.map_take]
      rw [show j + 1 + 1 - 2 = j by omega] at h
      exact h
theorem p_nears_of (N : List Str) (hN : N.length = 2) : ∀ ds G q dw, sp_nears_of ds G q dw → t_nears_of dw { nx := fun _ G' => q (.val .non) G', rt := q } (start3 N ds) G := by
  intro ds G q dw h
  unfold t_nears_of start3
  rw [hN]
  obtain ⟨ws, rfl, h⟩ := h
  walk_at "ev"
  refine ⟨sh_pt _, rfl, ?_⟩
  walk_at "ev"
  refine ifQ (eqv_pt ws []) (fun e => ?_) (fun e => ?_)
  · subst e
    walk_at "ev"
    exact h
  · unfold nears at h
    rw [if_neg e] at h
    walk_at "ev"
    unfold secD
    cases e2 : second ws with
    | none =>
      rw [e2] at h
      walk_at "ev"
      show q (.val (.tup [.tup (cutD (ws.map D.int) none (some (-1)))])) G
      rw [cut_last, ← List.map_dropLast]
      exact h
    | some l =>
      rw [e2] at h
      walk_at "ev"
      show q (.val (.tup [.tup (cutD (ws.map D.int) none (some (-1))), pt l])) G
      rw [cut_last, ← List.map_dropLast]
      exact h
theorem p__law_letter (N : List Str) (hN : N.length = 3) : ∀ ds G q dw, sp__law_letter ds G q dw → t__law_letter dw { nx := fun _ G' => q (.val .non) G', rt := q } (start3 N ds) G := by
  intro ds G q dw h
  unfold t__law_letter start3
  rw [hN]
  obtain ⟨a, R, p, rfl, d, hp, h⟩ := h
  have hl := hp.le
  walk_at "ev"
  refine ⟨a, R, _, rfl, d, by decide, small_big (by decide), fun r G' r0 r1 d' => ?_⟩
  walk_at "ev"
  refine ifD (fun _ => ?_) (fun _ => ?_)
  · walk_at "ev"
    exact h _ _ (by omega) (by omega) d'
  · walk_at "ev"
    refine ifE (fun _ => ?_) (fun _ => ?_)
    · walk_at "ev"
      exact h _ _ (by omega) (by omega) d'
    · walk_at "ev"
      refine ⟨a, R, _, rfl, d', by omega, small_big (by omega), fun r2 G2 r20 r21 d2 => ?_⟩
      walk_at "ev"
      exact h _ _ (by omega) (by omega) d2
theorem ints_of : ∀ (xs : List D) (p : Int), (∀ x ∈ xs, ∃ v, x = D.int v ∧ -1 ≤ v ∧ v < p) → ∃ ws : List Int, xs = ws.map D.int ∧ ∀ w ∈ ws, -1 ≤ w ∧ w < p
  | [], _, _ => ⟨[], rfl, fun _ h => by cases h⟩
  | x :: xs, p, h => by
    obtain ⟨v, rfl, hv⟩ := h x List.mem_cons_self
    obtain ⟨ws, rfl, hw⟩ := ints_of xs p fun z hz => h z (List.mem_cons_of_mem _ hz)
    exact ⟨v :: ws, rfl, fun w hm => (List.mem_cons.mp hm).elim (fun e => by rw [e]; exact hv) (hw w)⟩
theorem p__law_point_drawn (N : List Str) (hN : N.length = 5) : ∀ ds G q dw, sp__law_point_drawn ds G q dw → t__law_point_drawn dw { nx := fun _ G' => q (.val .non) G', rt := q } (start3 N ds) G := by
  intro ds G q dw h
  unfold t__law_point_drawn start3
  rw [hN]
  obtain ⟨a, R, p, m, rfl, d, hp, m0, m1, h⟩ := h
  have hl := hp.le
  walk_at "ev"
  refine ⟨a, R, _, rfl, d, by omega, small_big (by omega), fun r1 G1 r10 r11 d1 => ?_⟩
  walk_at "ev"
  refine ⟨a, R, _, rfl, d1, by omega, small_big (by omega), fun r2 G2 r20 r21 d2 => ?_⟩
  walk_at "ev"
  have hM : 0 ≤ (if r2 > r1 then r2 else r1) ∧ (if r2 > r1 then r2 else r1) ≤ m := by split <;> omega
  refine ⟨Int.le_trans (by decide) hM.1, Int.lt_of_le_of_lt hM.2 (by omega), ?_⟩
  have hL : (rangeD 0 (if r2 > r1 then r2 else r1).toNat).length ≤ 60 := by rw [rangeD_len]; omega
  refine ⟨Nat.le_trans hL (by decide), ?_⟩
  refine lc_reg (fun _ => True) (Dice a R) (fun x => ∃ v, x = D.int v ∧ -1 ≤ v ∧ v < p) (fun x G k1 k2 _ hd h1 h2 => ?_) _ _ _ _ (fun _ _ => trivial) d2 (fun xs G' hx hl2 d3 => ?_)
  · walk_at "ev"
    refine ⟨a, R, p, rfl, hd, hp, fun v G' v0 v1 d' => ?_⟩
    walk_at "ev"
    exact h1 _ _ _ ⟨v, rfl, v0, v1⟩ d' rfl
  · obtain ⟨ws, rfl, hw⟩ := ints_of xs p hx
    walk_at "ev"
    rw [List.length_map, rangeD_len] at hl2
    have hl3 : ws.length ≤ (if r2 > r1 then r2 else r1).toNat := hl2
    exact h ws _ (by omega) ⟨by omega, hw⟩ d3
end LP

set_option maxHeartbeats 4000000
/-! LO: plain: words, the orders of both coordinates told backwards, degrees, rows of residues by their entries. -/
namespace LO
/-- a word: nothing, the turn alone, or a last letter above 0 -/
def Wd (ws : List Int) : Prop := ws = [] ∨ ws = [-1] ∨ ∃ l, ws.getLast? = some l ∧ 0 < l
theorem Wd.tail {l : Int} {ws : List Int} (h : Wd (l :: ws)) : Wd ws := by
  rcases h with h | h | ⟨m, e, h⟩
  · cases h
  · cases h; exact .inl rfl
  · cases ws with
    | nil => exact .inl rfl
    | cons w ws =>
      rw [List.getLast?_cons_cons] at e
      exact .inr (.inr ⟨m, e, h⟩)
theorem Wd.drop {ws : List Int} : ∀ (pre : List Int), Wd (pre ++ ws) → Wd ws
  | [], h => h
  | _ :: pre, h => Wd.drop pre (Wd.tail h)
theorem Wd.dropN {ws : List Int} (h : Wd ws) (n : Nat) : Wd (ws.drop n) := Wd.drop (ws.take n) (by rw [List.take_append_drop]; exact h)
def addO : Option Nat → Option Nat → Option Nat
  | some a, some b => some (a + b)
  | _, _ => none
def stepO (l : Int) (s : Option Nat × Option Nat) : Option Nat × Option Nat :=
  if l = -1 then (addO s.1 s.2, s.1) else if l = 0 then (s.1, addO s.1 s.2) else (s.1, s.1)
/-- the orders of both coordinates at a word -/
def ord2 : List Int → Option Nat × Option Nat
  | [] => (some 1, none)
  | l :: ws => stepO l (ord2 ws)
theorem addO_some {a b : Option Nat} (h1 : a.isSome) (h2 : b.isSome) : (addO a b).isSome := by
  cases a <;> cases b <;> simp_all [addO]
/-- where a letter stands ahead, the first order is there -/
theorem ord_both : ∀ {ws : List Int}, ws ≠ [] → ws ≠ [-1] → Wd ws → (ord2 ws).1.isSome ∧ (ord2 ws).2.isSome
  | [], h, _, _ => absurd rfl h
  | l :: ws, _, h2, h3 => by
    by_cases e : ws = []
    · subst e
      rcases h3 with z | z | ⟨m, e, h⟩
      · cases z
      · exact absurd z h2
      · have : l = m := by simpa using e
        subst this
        simp only [ord2, stepO]
        rw [if_neg (by omega), if_neg (by omega)]
        exact ⟨rfl, rfl⟩
    · by_cases e2 : ws = [-1]
      · subst e2
        rcases h3 with z | z | ⟨m, e, h⟩
        · cases z
        · cases z
        · have : -1 = m := by simpa using e
          omega
      · obtain ⟨i1, i2⟩ := ord_both e e2 h3.tail
        simp only [ord2, stepO]
        have := addO_some i1 i2
        split
        · exact ⟨this, i1⟩
        · split
          · exact ⟨i1, this⟩
          · exact ⟨i1, i1⟩
theorem ord_first {l : Int} {ws : List Int} (h : Wd (l :: ws)) : (ord2 ws).1.isSome := by
  by_cases e : ws = []
  · subst e; rfl
  · by_cases e2 : ws = [-1]
    · subst e2
      rcases h with z | z | ⟨m, e, h⟩
      · cases z
      · cases z
      · have : -1 = m := by simpa using e
        omega
    · exact (ord_both e e2 h.tail).1
theorem ord_one {ws : List Int} (h : Wd ws) : (ord2 ws).1.isSome ∨ (ord2 ws).2.isSome := by
  by_cases e : ws = []
  · subst e; exact .inl rfl
  · by_cases e2 : ws = [-1]
    · subst e2; exact .inr rfl
    · exact .inl (ord_both e e2 h).1
theorem addO_pos {a b : Option Nat} (h1 : ∀ n, a = some n → 1 ≤ n) : ∀ n, addO a b = some n → 1 ≤ n := by
  intro n h
  cases a with
  | none => cases h
  | some x => cases b with
    | none => cases h
    | some y =>
      have := h1 x rfl
      simp only [addO, Option.some.injEq] at h
      omega
theorem ord_pos : ∀ ws : List Int, (∀ n, (ord2 ws).1 = some n → 1 ≤ n) ∧ ∀ n, (ord2 ws).2 = some n → 1 ≤ n
  | [] => ⟨fun n h => by cases h; decide, fun n h => by cases h⟩
  | l :: ws => by
    obtain ⟨h1, h2⟩ := ord_pos ws
    simp only [ord2, stepO]
    split
    · exact ⟨addO_pos h1, h1⟩
    · split
      · exact ⟨h1, addO_pos h1⟩
      · exact ⟨h1, h1⟩
/-- the count: the lesser one -/
def mn : Option Nat × Option Nat → Nat
  | (some a, some b) => if b < a then b else a
  | (some a, none) => a
  | (none, some b) => b
  | _ => 0
/-! ### degrees -/
def dg : List Int → Nat × Nat
  | [] => (1, 0)
  | l :: ws => if l = -1 then ((dg ws).1 + (dg ws).2, (dg ws).1) else ((dg ws).1, (dg ws).1 + (dg ws).2)
def dgm (ws : List Int) : Nat := if (dg ws).2 > (dg ws).1 then (dg ws).2 else (dg ws).1
theorem dg_le (ws : List Int) : (dg ws).1 ≤ dgm ws ∧ (dg ws).2 ≤ dgm ws := by
  unfold dgm
  split <;> omega
theorem dgm_cons (l : Int) (ws : List Int) : dgm ws ≤ dgm (l :: ws) := by
  unfold dgm
  simp only [dg]
  split <;> split <;> split <;> simp_all <;> omega
theorem dgm_app (pre ws : List Int) : dgm ws ≤ dgm (pre ++ ws) := by
  induction pre with
  | nil => exact Nat.le_refl _
  | cons l pre ih => exact Nat.le_trans ih (dgm_cons l _)
theorem dgm_drop (ws : List Int) (n : Nat) : dgm (ws.drop n) ≤ dgm ws := by
  have := dgm_app (ws.take n) (ws.drop n)
  rw [List.take_append_drop] at this
  exact this
/-! ### all ends of a word -/
def sfx : List Int → List (List Int)
  | [] => [[]]
  | l :: ws => (l :: ws) :: sfx ws
theorem sfx_len : ∀ ws : List Int, (sfx ws).length = ws.length + 1
  | [] => rfl
  | _ :: ws => by simp [sfx, sfx_len ws]
theorem sfx_get : ∀ (ws : List Int) (i : Nat) (h : i < (sfx ws).length), (sfx ws)[i] = ws.drop i
  | [], 0, _ => rfl
  | [], i + 1, h => by simp [sfx] at h
  | l :: ws, 0, _ => rfl
  | l :: ws, i + 1, h => by
    simp only [sfx, List.getElem_cons_succ, List.drop_succ_cons]
    exact sfx_get ws i _
theorem sfx_eq (ws : List Int) : sfx ws = (List.range (ws.length + 1)).map fun i => ws.drop i := by
  apply List.ext_getElem
  · rw [sfx_len]; simp
  · intro i h1 h2
    rw [sfx_get]; simp
theorem sfx_head (ws : List Int) : ∃ r, sfx ws = ws :: r := by
  cases ws with
  | nil => exact ⟨[], rfl⟩
  | cons l ws => exact ⟨sfx ws, rfl⟩
/-! ### rows of residues -/
abbrev co (xs : List Int) (i : Nat) : Int := xs.getD i 0
def Cf (p : Int) (xs : List Int) : Prop := ∀ i, 0 ≤ co xs i ∧ co xs i < p
def Ord (xs : List Int) : Option Nat → Prop
  | none => ∀ i, co xs i = 0
  | some n => co xs n ≠ 0 ∧ ∀ i, i < n → co xs i = 0
theorem co_out {xs : List Int} {i : Nat} (h : xs.length ≤ i) : co xs i = 0 := by
  unfold co
  rw [List.getD_eq_getElem?_getD, List.getElem?_eq_none h]; rfl
theorem co_in {xs : List Int} {i : Nat} (h : i < xs.length) : co xs i = xs[i] := by
  unfold co
  rw [List.getD_eq_getElem?_getD, List.getElem?_eq_getElem h]; rfl
theorem Ord.lt {xs : List Int} {n : Nat} (h : Ord xs (some n)) : n < xs.length := by
  rcases Nat.lt_or_ge n xs.length with z | z
  · exact z
  · exact absurd (co_out z) h.1
theorem Ord.congr {xs ys : List Int} (h : ∀ i, co ys i = co xs i) : ∀ {o : Option Nat}, Ord xs o → Ord ys o
  | none, z => fun i => (h i).trans (z i)
  | some n, z => ⟨by rw [h]; exact z.1, fun i hi => (h i).trans (z.2 i hi)⟩
theorem Ord.uniq {xs : List Int} : ∀ {o o' : Option Nat}, Ord xs o → Ord xs o' → o = o'
  | none, none, _, _ => rfl
  | none, some n, a, b => absurd (a n) b.1
  | some n, none, a, b => absurd (b n) a.1
  | some n, some m, a, b => by
    rcases Nat.lt_trichotomy n m with z | z | z
    · exact absurd (b.2 n z) a.1
    · rw [z]
    · exact absurd (a.2 m z) b.1
theorem co_set {xs : List Int} {j : Nat} {v : Int} (h : j < xs.length) (i : Nat) : co (xs.set j v) i = if i = j then v else co xs i := by
  unfold co
  rw [List.getD_eq_getElem?_getD, List.getD_eq_getElem?_getD, List.getElem?_set]
  by_cases e : i = j
  · subst e
    rw [if_pos rfl, if_pos h, if_pos rfl]; rfl
  · rw [if_neg (fun z => e z.symm), if_neg e]
theorem co_rep (n i : Nat) : co (List.replicate n 0) i = 0 := by
  unfold co
  rw [List.getD_eq_getElem?_getD, List.getElem?_replicate]
  split <;> rfl
def prs : List Nat := [2, 3, 5, 7, 11, 13, 17, 19, 23, 29, 31]
theorem noZeroN : ∀ p ∈ prs, ∀ x, x < p → ∀ y, y < p → x ≠ 0 → y ≠ 0 → x * y % p ≠ 0 := by decide +kernel
/-- no zero divisors -/
theorem noZero {p x y : Int} (hp : p ∈ ([2, 3, 5, 7, 11, 13, 17, 19, 23, 29, 31] : List Int)) (x0 : 0 ≤ x) (x1 : x < p) (y0 : 0 ≤ y) (y1 : y < p) (hx : x ≠ 0) (hy : y ≠ 0) : x * y % p ≠ 0 := by
  obtain ⟨a, rfl⟩ := Int.eq_ofNat_of_zero_le x0
  obtain ⟨b, rfl⟩ := Int.eq_ofNat_of_zero_le y0
  have h0 : 0 ≤ p := by omega
  obtain ⟨n, rfl⟩ := Int.eq_ofNat_of_zero_le h0
  have hn : n ∈ prs := by
    unfold prs
    simp only [List.mem_cons, List.not_mem_nil, or_false] at hp ⊢
    omega
  have := noZeroN n hn a (by omega) b (by omega) (by omega) (by omega)
  intro z
  apply this
  have e : ((a * b % n : Nat) : Int) = ((0 : Nat) : Int) := by
    rw [Int.natCast_emod, Int.natCast_mul]; exact z
  exact_mod_cast e
/-- what stands in the product's row while it is made: rows below i are done, in row i the entries below j -/
structure Mid (p : Int) (xs ys : List Int) (i j : Nat) (zs : List Int) : Prop where
  len : zs.length = xs.length + ys.length - 1
  cf : Cf p zs
  low : ∀ ox oy, Ord xs ox → Ord ys oy → match ox, oy with
    | some a, some b => (∀ k, k < a + b → co zs k = 0) ∧ co zs (a + b) = if i > a ∨ (i = a ∧ j > b) then co xs a * co ys b % p else 0
    | _, _ => ∀ k, co zs k = 0
theorem Mid.start {p : Int} {xs ys : List Int} (hp : 0 < p) : Mid p xs ys 0 0 (List.replicate (xs.length + ys.length - 1) 0) := by
  refine ⟨List.length_replicate, fun i => by rw [co_rep]; omega, fun ox oy hx hy => ?_⟩
  cases ox <;> cases oy <;> simp only
  · exact fun k => co_rep _ _
  · exact fun k => co_rep _ _
  · exact fun k => co_rep _ _
  · refine ⟨fun k _ => co_rep _ _, ?_⟩
    rw [if_neg (by omega)]
    exact co_rep _ _
theorem Mid.row {p : Int} {xs ys zs : List Int} {i : Nat} (h : Mid p xs ys i ys.length zs) : Mid p xs ys (i + 1) 0 zs := by
  refine ⟨h.len, h.cf, fun ox oy hx hy => ?_⟩
  have q := h.low ox oy hx hy
  cases ox with
  | none => exact q
  | some a =>
    cases oy with
    | none => exact q
    | some b =>
      refine ⟨q.1, ?_⟩
      have lt := hy.lt
      have q2 : co zs (a + b) = if i > a ∨ (i = a ∧ ys.length > b) then co xs a * co ys b % p else 0 := q.2
      show co zs (a + b) = if i + 1 > a ∨ (i + 1 = a ∧ 0 > b) then co xs a * co ys b % p else 0
      rw [q2]
      by_cases z : i > a ∨ (i = a ∧ ys.length > b)
      · rw [if_pos z, if_pos (by omega)]
      · rw [if_neg z, if_neg (by omega)]
theorem Mid.step {p : Int} {xs ys zs : List Int} {i j : Nat} (hp : 0 < p) (h : Mid p xs ys i j zs) (hi : i < xs.length) (hj : j < ys.length) :
    Mid p xs ys i (j + 1) (zs.set (i + j) ((co zs (i + j) + co xs i * co ys j) % p)) := by
  have hl : i + j < zs.length := by rw [h.len]; omega
  have hset : ∀ k, co (zs.set (i + j) ((co zs (i + j) + co xs i * co ys j) % p)) k = if k = i + j then (co zs (i + j) + co xs i * co ys j) % p else co zs k := co_set hl
  have same : co xs i * co ys j = 0 → ∀ k, co (zs.set (i + j) ((co zs (i + j) + co xs i * co ys j) % p)) k = co zs k := fun e k => by
    rw [hset, e, Int.add_zero, Int.emod_eq_of_lt (h.cf _).1 (h.cf _).2]
    split
    · rename_i z; rw [z]
    · rfl
  refine ⟨by rw [List.length_set]; exact h.len, fun k => ?_, fun ox oy hx hy => ?_⟩
  · rw [hset]
    split
    · exact ⟨Int.emod_nonneg _ (by omega), Int.emod_lt_of_pos _ hp⟩
    · exact h.cf k
  · have q := h.low ox oy hx hy
    cases ox with
    | none =>
      have z : co xs i * co ys j = 0 := by rw [hx i, Int.zero_mul]
      exact fun k => (same z k).trans (q k)
    | some a =>
      cases oy with
      | none =>
        have z : co xs i * co ys j = 0 := by rw [hy j, Int.mul_zero]
        exact fun k => (same z k).trans (q k)
      | some b =>
        have q1 : ∀ k, k < a + b → co zs k = 0 := q.1
        have q2 : co zs (a + b) = if i > a ∨ (i = a ∧ j > b) then co xs a * co ys b % p else 0 := q.2
        show (∀ k, k < a + b → _ = 0) ∧ _ = if i > a ∨ (i = a ∧ j + 1 > b) then co xs a * co ys b % p else 0
        by_cases c1 : i < a ∨ j < b
        · have z : co xs i * co ys j = 0 := by
            rcases c1 with c | c
            · rw [hx.2 i c, Int.zero_mul]
            · rw [hy.2 j c, Int.mul_zero]
          refine ⟨fun k hk => (same z k).trans (q1 k hk), ?_⟩
          rw [same z, q2]
          by_cases w : i > a ∨ (i = a ∧ j > b)
          · rw [if_pos w, if_pos (by omega)]
          · rw [if_neg w, if_neg (by omega)]
        · by_cases c2 : i = a ∧ j = b
          · obtain ⟨rfl, rfl⟩ := c2
            refine ⟨fun k hk => ?_, ?_⟩
            · rw [hset, if_neg (by omega)]; exact q1 k hk
            · rw [hset, if_pos rfl, q2, if_neg (by omega), if_pos (by omega), Int.zero_add]
          · refine ⟨fun k hk => ?_, ?_⟩
            · rw [hset, if_neg (by omega)]; exact q1 k hk
            · rw [hset, if_neg (by omega), q2]
              by_cases w : i > a ∨ (i = a ∧ j > b)
              · rw [if_pos w, if_pos (by omega)]
              · rw [if_neg w, if_neg (by omega)]
theorem Mid.fin {p : Int} {xs ys zs : List Int} (hp : p ∈ ([2, 3, 5, 7, 11, 13, 17, 19, 23, 29, 31] : List Int)) (cx : Cf p xs) (cy : Cf p ys) (h : Mid p xs ys xs.length 0 zs) {ox oy : Option Nat} (hx : Ord xs ox) (hy : Ord ys oy) : Ord zs (addO ox oy) := by
  have q := h.low ox oy hx hy
  cases ox with
  | none => exact q
  | some a =>
    cases oy with
    | none => exact q
    | some b =>
      have q2 : co zs (a + b) = if xs.length > a ∨ (xs.length = a ∧ 0 > b) then co xs a * co ys b % p else 0 := q.2
      rw [if_pos (.inl hx.lt)] at q2
      exact ⟨by rw [q2]; exact noZero hp (cx a).1 (cx a).2 (cy b).1 (cy b).2 hx.1 hy.1, q.1⟩
end LO

set_option Elab.async false
set_option maxRecDepth 100000
set_option maxHeartbeats 4000000
set_option exponentiation.threshold 2000
/-! LB: branches and their orders; words drawn. -/
namespace LB
open PySem PySem.Spec PyProof.Rows L2 L3 LD LN LP LO
local macro_rules | `(tactic| walk_at "ev") => `(tactic| repeat (first | refine lc_stop ?_ | refine for_stop ?_ | refine ⟨_, rfl, ?_⟩ | refine ⟨_, _, rfl, ?_⟩ | refine ⟨rfl, ?_⟩ | refine And.intro (by assumption) ?_ | refine ⟨by decide, ?_⟩ | refine ⟨ltL rfl, ?_⟩ | refine ⟨_, at0, ?_⟩ | refine ⟨_, at1, ?_⟩ | refine ⟨_, at2, ?_⟩ | refine ifT ?_ | refine ifF ?_ | refine ⟨_, _, _, rfl, ?_⟩ | refine ⟨⟨_, rfl⟩, ?_⟩))
local macro_rules | `(tactic| walk_at "eva") => `(tactic| repeat (first | refine ⟨_, rfl, ?_⟩ | refine ⟨_, _, rfl, ?_⟩ | refine ⟨rfl, ?_⟩ | refine And.intro (by assumption) ?_ | refine ⟨by decide, ?_⟩ | refine ⟨ltL rfl, ?_⟩ | refine ⟨_, at0, ?_⟩ | refine ⟨_, at1, ?_⟩ | refine ⟨_, at2, ?_⟩ | refine ifT ?_ | refine ifF ?_ | refine ⟨_, _, _, rfl, ?_⟩ | refine ⟨⟨_, rfl⟩, ?_⟩))
theorem at_last {α : Type} {xs : List α} {x : α} (h : xs.getLast? = some x) : atI xs (-1) = some x := by
  have hp : 0 < xs.length := by
    cases xs with
    | nil => cases h
    | cons a b => simp
  unfold atI ixN
  rw [if_neg (by decide), if_pos (by omega), List.getLast?_eq_getElem?] at *
  show xs[((-1 : Int) + xs.length).toNat]? = _
  rw [show ((-1 : Int) + xs.length).toNat = xs.length - 1 by omega]
  exact h
/-- a branch, as a value -/
def br (p : Int) (ws : List Int) (s : Str) : D := .obj "Branch" [.int p, .str s, pt ws]
def oD : Option Nat → D
  | none => .non
  | some a => .int (a : Nat)
/-- a pair of orders, as a value -/
def prD (s : Option Nat × Option Nat) : D := .tup [oD s.1, oD s.2]
def ordsD (ws : List Int) : List D := (sfx ws).map fun t => prD (ord2 t)
theorem sh_prD (s : Option Nat × Option Nat) : (prD s).sh = true := by
  obtain ⟨a, b⟩ := s
  cases a <;> cases b <;> rfl
theorem eqv_oD (a : Option Nat) : D.eqv (oD a) (oD a) = true := by
  cases a with
  | none => rfl
  | some a =>
    show D.eqv (.int _) (.int _) = true
    rw [eqv_int]; simp
theorem eqv_prD (s : Option Nat × Option Nat) : D.eqv (prD s) (prD s) = true := by
  unfold prD
  rw [eqv_tup, eqvL_cons, eqvL_cons, eqv_oD, eqv_oD]; rfl
theorem eqvL_ords {α : Type} (g : α → Option Nat × Option Nat) : ∀ l : List α, eqvL (l.map fun t => prD (g t)) (l.map fun t => prD (g t)) = true
  | [] => rfl
  | x :: l => by rw [List.map_cons, eqvL_cons, eqv_prD, eqvL_ords g l]; rfl
theorem sh_ords {α : Type} (g : α → Option Nat × Option Nat) (l : List α) : (D.lst (l.map fun t => prD (g t))).sh = true := by
  rw [sh_lst, List.all_map]
  exact List.all_eq_true.2 fun x _ => by
    show shl _ (prD _) = true
    generalize g x = s
    obtain ⟨a, b⟩ := s
    cases a <;> cases b <;> rfl
/-! ### promises -/
def sp_ends_as_word : DSp := fun ds G q _ => ∃ ws : List Int, ds = [pt ws] ∧ Wd ws ∧ tru q G
def sp_letters_text : DSp := fun ds G q _ => ∃ (p : Int) (ws : List Int), ds = [pt ws] ∧ Pr p ∧ Pt p ws ∧ ∀ s : Str, s.length ≤ 1000 → q (.val (.str s)) G
def sp_Branch_init : DSpI := fun ds G q _ => ∃ (p : Int) (ws : List Int), ds = [.int p, pt ws] ∧ Pr p ∧ Pt p ws ∧ Wd ws ∧ ∀ s : Str, q [.int p, .str s, pt ws] G
def sp_Branch_word : DSp := fun ds G q _ => ∃ (p : Int) (ws : List Int) (s : Str), ds = [br p ws s] ∧ q (.val (pt ws)) G
def sp_require_branch : DSp := fun ds G q _ => ∃ (p : Int) (ws : List Int) (s : Str), ds = [br p ws s] ∧ q (.val .non) G
def sp_require_height : DSp := fun ds G q _ => ∃ h m : Int, ds = [.int h, .int m] ∧ m ≤ h ∧ -200 ≤ h ∧ h ≤ 200 ∧ q (.val .non) G
def sp_all_orders : DSp := fun ds G q _ => ∃ ws : List Int, ds = [pt ws] ∧ ws.length ≤ 60 ∧ Wd ws ∧ q (.fr (ordsD ws)) G
def sp__law_orders : DSp := sp_all_orders
def sp_count_in : DSp := fun ds G q _ => ∃ s : Option Nat × Option Nat, ds = [prD s] ∧ (s.1.isSome ∨ s.2.isSome) ∧ q (.val (.int (mn s : Nat))) G
def sp_orders_at : DSp := fun ds G q _ => ∃ (p : Int) (ws : List Int) (s : Str) (h : Nat), ds = [br p ws s, .int (h : Nat)] ∧ ws.length ≤ 60 ∧ Wd ws ∧ h ≤ 200 ∧ q (.val (prD (ord2 (ws.drop h)))) G
def sp_count_at : DSp := fun ds G q _ => ∃ (p : Int) (ws : List Int) (s : Str) (h : Nat), ds = [br p ws s, .int (h : Nat)] ∧ ws.length ≤ 60 ∧ Wd ws ∧ h ≤ 200 ∧ q (.val (.int (mn (ord2 (ws.drop h)) : Nat))) G
def sp__law_word_drawn : DSp := fun ds G q _ => ∃ (a : Addr) (R : Reg) (p m : Int), ds = [.ref a, .int p, .int m] ∧ Dice a R G ∧ Pr p ∧ 1 ≤ m ∧ m ≤ 60 ∧ ∀ (ws : List Int) G', (ws.length : Int) ≤ m → Pt p ws → Wd ws → Dice a R G' → q (.val (pt ws)) G'
theorem len_ends_as_word : ∀ ds G q e, sp_ends_as_word ds G q e → ds.length = 1 := fun ds G q e ⟨_, h, _⟩ => by rw [h]; rfl
theorem len_letters_text : ∀ ds G q e, sp_letters_text ds G q e → ds.length = 1 := fun ds G q e ⟨_, _, h, _⟩ => by rw [h]; rfl
theorem len_Branch_init : ∀ ds G q e, sp_Branch_init ds G q e → ds.length + 1 = 3 := fun ds G q e ⟨_, _, h, _⟩ => by rw [h]; rfl
theorem len_Branch_word : ∀ ds G q e, sp_Branch_word ds G q e → ds.length = 1 := fun ds G q e ⟨_, _, _, h, _⟩ => by rw [h]; rfl
theorem len_require_branch : ∀ ds G q e, sp_require_branch ds G q e → ds.length = 1 := fun ds G q e ⟨_, _, _, h, _⟩ => by rw [h]; rfl
theorem len_require_height : ∀ ds G q e, sp_require_height ds G q e → ds.length = 2 := fun ds G q e ⟨_, _, h, _⟩ => by rw [h]; rfl
theorem len_all_orders : ∀ ds G q e, sp_all_orders ds G q e → ds.length = 1 := fun ds G q e ⟨_, h, _⟩ => by rw [h]; rfl
theorem len__law_orders : ∀ ds G q e, sp__law_orders ds G q e → ds.length = 1 := len_all_orders
theorem len_count_in : ∀ ds G q e, sp_count_in ds G q e → ds.length = 1 := fun ds G q e ⟨_, h, _⟩ => by rw [h]; rfl
theorem len_orders_at : ∀ ds G q e, sp_orders_at ds G q e → ds.length = 2 := fun ds G q e ⟨_, _, _, _, h, _⟩ => by rw [h]; rfl
theorem len_count_at : ∀ ds G q e, sp_count_at ds G q e → ds.length = 2 := fun ds G q e ⟨_, _, _, _, h, _⟩ => by rw [h]; rfl
theorem len__law_word_drawn : ∀ ds G q e, sp__law_word_drawn ds G q e → ds.length = 3 := fun ds G q e ⟨_, _, _, _, h, _⟩ => by rw [h]; rfl
/-! ### readings (as gen.py prints them) -/
def t_ends_as_word (dw : Exc3 → Reg → Prop) : DSt :=
  (dRet (dOrV (dOp (oIn false) (dVar 0) (dTup (dCons (dTup dNil) (dCons (dTup (dCons (dC (.int (-1))) dNil)) dNil)))) (dOp oGt (dOp oIx (dVar 0) (dUn uNeg (dC (.int 1)))) (dC (.int 0)))))
def t_letters_text (dw : Exc3 → Reg → Prop) : DSt :=
  (dSeq (dIfS (dTest (dOp oEq (dVar 0) (dTup dNil))) (dRet (dC (.str "."))) dNext)
    (dRet (dJoin (dC (.str " ")) (dLc (dIter (dVar 0)) (gNm 1) dYes (dIf (dTest (dOp oEq (dVar 1) (dC (.int (-1))))) (dC (.str "t")) (dCB bStr (dPCons (dVar 1) dNil))) [1]))))
def t_Branch_init (dw : Exc3 → Reg → Prop) : DSt :=
  (dSeq (dDrop (dCall sp_require_prime (fun x _ G => dw x G) (dCons (dVar 1) dNil)))
    (dSeq (dIfS (dOr (dNot (dTest (dCall sp_are_letters (fun x _ G => dw x G) (dCons (dVar 1) (dCons (dVar 2) dNil))))) (dNot (dTest (dCall sp_ends_as_word (fun x _ G => dw x G) (dCons (dVar 2) dNil))))) dNever dNext)
    (dSeq (dSetA [("Branch", 0)] (dVar 1))
    (dSeq (dSetA [("Branch", 2)] (dVar 2))
    (dSetA [("Branch", 1)] (dFstr [(dUn uFmt (dCall sp_letters_text (fun x _ G => dw x G) (dCons (dVar 2) dNil))), (dC (.str " over ")), (dUn uFmt (dVar 1))]))))))
def t_Branch_word (dw : Exc3 → Reg → Prop) : DSt :=
  (dRet (dAttr [("Branch", 2)] (dVar 0)))
def t_require_branch (dw : Exc3 → Reg → Prop) : DSt :=
  (dIfS (dNot (dTest (dCB (bIsiC [(("Branch", "Branch"), true)]) (dPCons (dVar 0) (dPCons (dC (.cls "Branch")) dNil))))) dNever dNext)
def t_require_height (dw : Exc3 → Reg → Prop) : DSt :=
  (dIfS (dOr (dNot (dTest (dCall sp_is_integer (fun x _ G => dw x G) (dCons (dVar 0) dNil)))) (dNot (dTest (dChain oLe oLe (dVar 1) (dVar 0) (dC (.int (200))))))) dNever dNext)
def t_all_orders (dw : Exc3 → Reg → Prop) : DSt :=
  (dSeq (dSet 1 (dLst (dCons (dTup (dCons (dC (.int 1)) (dCons (dC .non) dNil))) dNil)))
    (dSeq (dFor (dIter (dUn uRevA (dVar 0))) (gNm 2) (dSeq (dAsg (dOp oIx (dVar 1) (dUn uNeg (dC (.int 1)))) (gTp 2 (gsCons (gNm 3) (gsCons (gNm 4) gsNil))))
    (dIfS (dTest (dOp oEq (dVar 2) (dC (.int (-1))))) (dDrop (dApp 1 (dTup (dCons (dIf (dTest (dOp (oIs false) (dVar 4) (dC .non))) (dC .non) (dOp oAdd (dVar 3) (dVar 4))) (dCons (dVar 3) dNil))))) (dIfS (dTest (dOp oEq (dVar 2) (dC (.int 0)))) (dDrop (dApp 1 (dTup (dCons (dVar 3) (dCons (dIf (dTest (dOp (oIs false) (dVar 4) (dC .non))) (dC .non) (dOp oAdd (dVar 3) (dVar 4))) dNil))))) (dDrop (dApp 1 (dTup (dCons (dVar 3) (dCons (dVar 3) dNil)))))))))
    (dRet (dUn uRevA (dVar 1)))))
def t_count_in (dw : Exc3 → Reg → Prop) : DSt :=
  (dRet (dCB bMinL (dPCons (dLc (dIter (dVar 0)) (gNm 1) (dTest (dOp (oIs true) (dVar 1) (dC .non))) (dVar 1) [1]) dNil)))
def t_orders_at (dw : Exc3 → Reg → Prop) : DSt :=
  (dSeq (dDrop (dCall sp_require_branch (fun x _ G => dw x G) (dCons (dVar 0) dNil)))
    (dSeq (dDrop (dCall sp_require_height (fun x _ G => dw x G) (dCons (dVar 1) (dCons (dC (.int 0)) dNil))))
    (dSeq (dSet 2 (dCall sp_all_orders (fun x _ G => dw x G) (dCons (dProp "Branch" sp_Branch_word (dVar 0)) dNil)))
    (dRet (dIf (dTest (dOp oLt (dVar 1) (dCB bLen (dPCons (dVar 2) dNil)))) (dOp oIx (dVar 2) (dVar 1)) (dTup (dCons (dC (.int 1)) (dCons (dC .non) dNil))))))))
def t_count_at (dw : Exc3 → Reg → Prop) : DSt :=
  (dRet (dCall sp_count_in (fun x _ G => dw x G) (dCons (dCall sp_orders_at (fun x _ G => dw x G) (dCons (dVar 0) (dCons (dVar 1) dNil))) dNil)))
def t__law_word_drawn (dw : Exc3 → Reg → Prop) : DSt :=
  (dSeq (dSet 3 (dCall sp__law_point_drawn (fun x _ G => dw x G) (dCons (dVar 0) (dCons (dVar 1) (dCons (dOp oSub (dVar 2) (dC (.int 1))) dNil)))))
    (dSeq (dIfS (dAnd (dTest (dOp oEq (dVar 3) (dTup dNil))) (dTest (dOp oEq (dCall sp__law_roll (fun x _ G => dw x G) (dCons (dVar 0) (dCons (dC (.int 6)) dNil))) (dC (.int 0))))) (dRet (dCall sp__law_pick (fun x _ G => dw x G) (dCons (dVar 0) (dCons (dLst (dCons (dTup dNil) (dCons (dTup (dCons (dUn uNeg (dC (.int 1))) dNil)) dNil))) dNil)))) dNext)
    (dRet (dOp oAdd (dVar 3) (dTup (dCons (dIf (dTest (dOp oGt (dVar 1) (dC (.int 2)))) (dOp oAdd (dC (.int 1)) (dCall sp__law_roll (fun x _ G => dw x G) (dCons (dVar 0) (dCons (dOp oSub (dVar 1) (dC (.int 1))) dNil)))) (dC (.int 1))) dNil))))))
def t__law_orders (dw : Exc3 → Reg → Prop) : DSt :=
  (dSeq (dSet 1 (dLst (dCons (dTup (dCons (dC (.int 1)) (dCons (dC .non) dNil))) dNil)))
    (dSeq (dFor (dIter (dUn uRevA (dVar 0))) (gNm 2) (dSeq (dAsg (dOp oIx (dVar 1) (dUn uNeg (dC (.int 1)))) (gTp 2 (gsCons (gNm 3) (gsCons (gNm 4) gsNil))))
    (dIfS (dTest (dOp oEq (dVar 2) (dUn uNeg (dC (.int 1))))) (dDrop (dApp 1 (dTup (dCons (dIf (dTest (dOp (oIs false) (dVar 4) (dC .non))) (dC .non) (dOp oAdd (dVar 3) (dVar 4))) (dCons (dVar 3) dNil))))) (dIfS (dTest (dOp oEq (dVar 2) (dC (.int 0)))) (dDrop (dApp 1 (dTup (dCons (dVar 3) (dCons (dIf (dTest (dOp (oIs false) (dVar 4) (dC .non))) (dC .non) (dOp oAdd (dVar 3) (dVar 4))) dNil))))) (dDrop (dApp 1 (dTup (dCons (dVar 3) (dCons (dVar 3) dNil)))))))))
    (dRet (dUn uRevA (dVar 1)))))
/-! ### the walks -/
theorem p_ends_as_word (N : List Str) (hN : N.length = 1) : ∀ ds G q dw, sp_ends_as_word ds G q dw → t_ends_as_word dw { nx := fun _ G' => q (.val .non) G', rt := q } (start3 N ds) G := by
  intro ds G q dw h
  unfold t_ends_as_word start3
  rw [hN]
  obtain ⟨ws, rfl, hw, h⟩ := h
  walk_at "ev"
  refine ⟨sh_pt _, rfl, ?_⟩
  walk_at "ev"
  have e := among_pts ws [[], [-1]]
  refine ifB (fun _ => ?_) (fun z => ?_)
  · walk_at "ev"
    exact h
  · have z2 : D.among (pt ws) ([[], [-1]].map pt) = false := z
    rw [e] at z2
    have z3 := of_decide_eq_false z2
    rcases hw with rfl | rfl | ⟨l, e2, hl⟩
    · simp at z3
    · simp at z3
    · walk_at "ev"
      refine ⟨.int l, at_last (by rw [List.getLast?_map, e2]; rfl), ?_⟩
      walk_at "ev"
      exact qT (q := q) (decide_eq_true hl) h
theorem p_Branch_word (N : List Str) (hN : N.length = 1) : ∀ ds G q dw, sp_Branch_word ds G q dw → t_Branch_word dw { nx := fun _ G' => q (.val .non) G', rt := q } (start3 N ds) G := by
  intro ds G q dw h
  unfold t_Branch_word start3
  rw [hN]
  obtain ⟨p, ws, s, rfl, h⟩ := h
  walk_at "ev"
  exact h
theorem p_require_branch (N : List Str) (hN : N.length = 1) : ∀ ds G q dw, sp_require_branch ds G q dw → t_require_branch dw { nx := fun _ G' => q (.val .non) G', rt := q } (start3 N ds) G := by
  intro ds G q dw h
  unfold t_require_branch start3
  rw [hN]
  obtain ⟨p, ws, s, rfl, h⟩ := h
  walk_at "ev"
  exact h
theorem p_require_height (N : List Str) (hN : N.length = 2) : ∀ ds G q dw, sp_require_height ds G q dw → t_require_height dw { nx := fun _ G' => q (.val .non) G', rt := q } (start3 N ds) G := by
  intro ds G q dw h
  unfold t_require_height start3
  rw [hN]
  obtain ⟨hh, m, rfl, h1, h2, h3, h⟩ := h
  walk_at "ev"
  refine ⟨by unfold Lim; omega, ?_⟩
  walk_at "ev"
  refine ifD (fun _ => ?_) (fun z => absurd h1 z)
  walk_at "ev"
  show if (!decide (hh ≤ 200)) = true then _ else _
  rw [decide_eq_true h3]
  walk_at "ev"
  exact h
theorem ordsD_step (l : Int) (suf : List Int) : (ordsD (l :: suf)).reverse = (ordsD suf).reverse ++ [prD (ord2 (l :: suf))] := by
  unfold ordsD
  rw [sfx, List.map_cons, List.reverse_cons]
theorem ordsD_last (suf : List Int) : atI (ordsD suf).reverse (-1) = some (prD (ord2 suf)) := by
  apply at_last
  obtain ⟨r, e⟩ := sfx_head suf
  unfold ordsD
  rw [e, List.map_cons, List.reverse_cons, List.getLast?_append]; rfl
theorem ordsD_len (ws : List Int) : (ordsD ws).length = ws.length + 1 := by unfold ordsD; rw [List.length_map, sfx_len]
theorem ordsD_at {ws : List Int} {n : Nat} (h : n ≤ ws.length) : atI (ordsD ws) (n : Int) = some (prD (ord2 (ws.drop n))) := by
  have lt : n < ((sfx ws).map fun t => prD (ord2 t)).length := by rw [List.length_map, sfx_len]; omega
  show atI ((sfx ws).map fun t => prD (ord2 t)) _ = _
  rw [at_nat lt, List.getElem_map, sfx_get]
theorem oD_add (a b : Nat) : D.int ((a : Int) + (b : Int)) = oD (some (a + b)) := by
  show D.int _ = D.int _
  rw [Int.natCast_add]
theorem ords_body {Dn : Ends3} {ws : List Int} (h60 : ws.length ≤ 60) (hw : Wd ws) {G : Reg} {tm : DE} (htm : ∀ E G k, k (.val (.int (-1))) E G → tm E G k)
    (h : ∀ E, E[1]? = some (Sl3.own (ordsD ws).reverse) → E.length = 5 → Dn.nx E G) :
    dForL (gNm 2) (dSeq (dAsg (dOp oIx (dVar 1) (dUn uNeg (dC (.int 1)))) (gTp 2 (gsCons (gNm 3) (gsCons (gNm 4) gsNil))))
    (dIfS (dTest (dOp oEq (dVar 2) tm)) (dDrop (dApp 1 (dTup (dCons (dIf (dTest (dOp (oIs false) (dVar 4) (dC .non))) (dC .non) (dOp oAdd (dVar 3) (dVar 4))) (dCons (dVar 3) dNil))))) (dIfS (dTest (dOp oEq (dVar 2) (dC (.int 0)))) (dDrop (dApp 1 (dTup (dCons (dVar 3) (dCons (dIf (dTest (dOp (oIs false) (dVar 4) (dC .non))) (dC .non) (dOp oAdd (dVar 3) (dVar 4))) dNil))))) (dDrop (dApp 1 (dTup (dCons (dVar 3) (dCons (dVar 3) dNil))))))))
    (ws.map D.int).reverse Dn [.val (pt ws), .own [.tup [.int 1, .non]], .no, .no, .no] G := by
  refine for_ind (fun ds E G1 => G1 = G ∧ ∃ pre suf s2 s3 s4, ws = pre ++ suf ∧ ds = (pre.map D.int).reverse ∧ E = [.val (pt ws), .own (ordsD suf).reverse, s2, s3, s4]) (fun E G1 hI => ?_) (fun d ds E G1 nx hI hn => ?_) _ _ _ ⟨rfl, ws, [], _, _, _, by simp, rfl, rfl⟩
  · obtain ⟨rfl, pre, suf, s2, s3, s4, e, e2, rfl⟩ := hI
    have : pre = [] := by
      cases pre with
      | nil => rfl
      | cons a b => simp at e2
    subst this
    rw [List.nil_append] at e
    subst e
    exact h _ rfl rfl
  · obtain ⟨rfl, pre, suf, s2, s3, s4, e, e2, rfl⟩ := hI
    obtain ⟨pre', l, rfl⟩ : ∃ pre' l, pre = pre' ++ [l] := by
      rcases List.eq_nil_or_concat pre with z | ⟨a, b, z⟩
      · subst z; simp at e2
      · exact ⟨a, b, by simpa using z⟩
    rw [List.map_append, List.reverse_append] at e2
    have e3 : d = .int l ∧ ds = (pre'.map D.int).reverse := by simpa using e2
    obtain ⟨rfl, rfl⟩ := e3
    have e4 : ws = pre' ++ (l :: suf) := by rw [e, List.append_assoc]; rfl
    have hl : Wd (l :: suf) := Wd.drop pre' (by rw [← e4]; exact hw)
    have hlen : suf.length + 1 ≤ 60 := by
      have := congrArg List.length e4
      simp only [List.length_append, List.length_cons] at this
      omega
    have hsz : (ordsD suf).reverse.length < sizeLine := by rw [List.length_reverse, ordsD_len, sizeLine_eq]; omega
    have f1 := ord_first hl
    have fin : ∀ E', (∃ s3 s4, E' = [.val (pt ws), .own ((ordsD suf).reverse ++ [prD (stepO l (ord2 suf))]), .val (.int l), s3, s4]) → nx E' G1 := fun E' ⟨s3, s4, e5⟩ => by
      subst e5
      exact hn _ _ ⟨rfl, pre', l :: suf, .val (.int l), s3, s4, e4, rfl, by rw [ordsD_step]; rfl⟩
    walk_at "ev"
    refine ⟨_, ordsD_last suf, ?_⟩
    cases e6 : ord2 suf with
    | mk o1 o2 =>
      rw [e6] at f1 fin
      cases o1 with
      | none => cases f1
      | some a =>
        walk_at "ev"
        refine htm _ _ _ ?_
        walk_at "ev"
        refine ifE (fun z => ?_) (fun z => ?_)
        · subst z
          cases o2 with
          | none =>
            walk_at "ev"
            exact fin _ ⟨_, _, rfl⟩
          | some b =>
            walk_at "ev"
            rw [oD_add]
            exact fin _ ⟨_, _, rfl⟩
        · walk_at "ev"
          refine ifE (fun z2 => ?_) (fun z2 => ?_)
          · subst z2
            cases o2 with
            | none =>
              walk_at "ev"
              exact fin _ ⟨_, _, rfl⟩
            | some b =>
              walk_at "ev"
              rw [oD_add]
              exact fin _ ⟨_, _, rfl⟩
          · have es : stepO l (some a, o2) = (some a, some a) := by unfold stepO; rw [if_neg z, if_neg z2]
            rw [es] at fin
            walk_at "ev"
            exact fin _ ⟨_, _, rfl⟩
theorem p_all_orders (N : List Str) (hN : N.length = 5) : ∀ ds G q dw, sp_all_orders ds G q dw → t_all_orders dw { nx := fun _ G' => q (.val .non) G', rt := q } (start3 N ds) G := by
  intro ds G q dw h
  unfold t_all_orders start3
  rw [hN]
  obtain ⟨ws, rfl, h60, hw, h⟩ := h
  walk_at "ev"
  refine .go ?_
  refine ords_body h60 hw (fun E G k h => h) fun E h1 h2 => ?_
  obtain ⟨e0, e1, e2, e3, e4, rfl⟩ : ∃ e0 e1 e2 e3 e4, E = [e0, e1, e2, e3, e4] := by
    match E, h2 with
    | [a, b, c, d, e], _ => exact ⟨a, b, c, d, e, rfl⟩
  have : e1 = Sl3.own (ordsD ws).reverse := by simpa using h1
  subst this
  walk_at "ev"
  rw [List.reverse_reverse]
  exact h
theorem p__law_orders (N : List Str) (hN : N.length = 5) : ∀ ds G q dw, sp__law_orders ds G q dw → t__law_orders dw { nx := fun _ G' => q (.val .non) G', rt := q } (start3 N ds) G := by
  intro ds G q dw h
  unfold t__law_orders start3
  rw [hN]
  obtain ⟨ws, rfl, h60, hw, h⟩ := h
  walk_at "ev"
  refine .go ?_
  refine ords_body h60 hw (fun E G k h => ⟨_, rfl, h⟩) fun E h1 h2 => ?_
  obtain ⟨e0, e1, e2, e3, e4, rfl⟩ : ∃ e0 e1 e2 e3 e4, E = [e0, e1, e2, e3, e4] := by
    match E, h2 with
    | [a, b, c, d, e], _ => exact ⟨a, b, c, d, e, rfl⟩
  have : e1 = Sl3.own (ordsD ws).reverse := by simpa using h1
  subst this
  walk_at "ev"
  rw [List.reverse_reverse]
  exact h
theorem min_two {a b m : Nat} (h1 : (m : Int) ∈ [(a : Int), (b : Int)]) (h2 : ∀ y ∈ [(a : Int), (b : Int)], (m : Int) ≤ y) : m = if b < a then b else a := by
  simp only [List.mem_cons, List.not_mem_nil, or_false] at h1 h2
  have := h2 _ (.inl rfl)
  have := h2 _ (.inr rfl)
  split <;> omega
theorem p_count_in (N : List Str) (hN : N.length = 2) : ∀ ds G q dw, sp_count_in ds G q dw → t_count_in dw { nx := fun _ G' => q (.val .non) G', rt := q } (start3 N ds) G := by
  intro ds G q dw h
  unfold t_count_in start3
  rw [hN]
  obtain ⟨s, rfl, hs, h⟩ := h
  obtain ⟨a, b⟩ := s
  cases a <;> cases b
  · simp at hs
  · rename_i b
    walk_at "eva"
    refine fun m h1 h2 => ?_
    have : m = (b : Int) := by simpa using h1
    subst this
    walk_at "eva"
    exact h
  · rename_i a
    walk_at "eva"
    refine fun m h1 h2 => ?_
    have : m = (a : Int) := by simpa using h1
    subst this
    walk_at "eva"
    exact h
  · rename_i a b
    walk_at "eva"
    refine fun m h1 h2 => ?_
    have hm : m = ((mn (some a, some b) : Nat) : Int) := by
      simp only [List.mem_cons, List.not_mem_nil, or_false] at h1 h2
      have := h2 _ (.inl rfl)
      have := h2 _ (.inr rfl)
      unfold mn
      simp only
      split <;> omega
    subst hm
    walk_at "eva"
    exact h
theorem p_orders_at (N : List Str) (hN : N.length = 3) : ∀ ds G q dw, sp_orders_at ds G q dw → t_orders_at dw { nx := fun _ G' => q (.val .non) G', rt := q } (start3 N ds) G := by
  intro ds G q dw h
  unfold t_orders_at start3
  rw [hN]
  obtain ⟨p, ws, s, hh, rfl, h60, hw, h200, h⟩ := h
  walk_at "ev"
  refine ⟨by omega, by omega, by omega, ?_⟩
  walk_at "ev"
  refine ifD (fun z => ?_) (fun z => ?_)
  · rw [ordsD_len] at z
    walk_at "ev"
    refine ⟨_, ordsD_at (by omega), ?_⟩
    walk_at "ev"
    exact h
  · rw [ordsD_len] at z
    rw [List.drop_eq_nil_of_le (by omega)] at h
    walk_at "ev"
    exact h
theorem p_count_at (N : List Str) (hN : N.length = 2) : ∀ ds G q dw, sp_count_at ds G q dw → t_count_at dw { nx := fun _ G' => q (.val .non) G', rt := q } (start3 N ds) G := by
  intro ds G q dw h
  unfold t_count_at start3
  rw [hN]
  obtain ⟨p, ws, s, hh, rfl, h60, hw, h200, h⟩ := h
  walk_at "ev"
  refine ⟨p, ws, s, hh, rfl, h60, hw, h200, ?_⟩
  walk_at "ev"
  refine ⟨ord_one (hw.dropN hh), ?_⟩
  walk_at "ev"
  exact h
theorem txt2 : ∀ n : Nat, n < 32 → (Str.ofString (toString (n : Int))).length ≤ 2 := by decide +kernel
theorem p_letters_text (N : List Str) (hN : N.length = 2) : ∀ ds G q dw, sp_letters_text ds G q dw → t_letters_text dw { nx := fun _ G' => q (.val .non) G', rt := q } (start3 N ds) G := by
  intro ds G q dw h
  unfold t_letters_text start3
  rw [hN]
  obtain ⟨p, ws, rfl, hp, hw, h⟩ := h
  have hl := hp.le
  walk_at "ev"
  refine ⟨sh_pt _, rfl, ?_⟩
  walk_at "ev"
  refine ifQ (eqv_pt ws []) (fun e => ?_) (fun e => ?_)
  · walk_at "ev"
    exact h _ (by decide)
  · walk_at "ev"
    refine ⟨by rw [List.length_map, sizeLine_eq]; have := hw.1; omega, ?_⟩
    refine lc_pure0 (fun d => ∃ x ∈ ws, d = D.int x) (fun d => match d with | .int x => some (.str (if x = -1 then "t" else toString x)) | _ => none) (fun d k1 k2 hd h1 h2 => ?_) (fun d hd => ?_) ?_
    · obtain ⟨x, hx, rfl⟩ := hd
      have hx2 := hw.2 x hx
      walk_at "ev"
      refine ifE (fun z => ?_) (fun z => ?_)
      · walk_at "ev"
        exact h1 _ _ (by show some (D.str (if x = -1 then _ else _)) = _; rw [if_pos z]) rfl
      · walk_at "ev"
        refine ⟨?_, ?_⟩
        · have : x.natAbs < 31 := by omega
          exact Nat.lt_of_le_of_lt (Nat.log2_le_self _) (by omega)
        walk_at "ev"
        exact h1 _ _ (by show some (D.str (if x = -1 then _ else _)) = _; rw [if_neg z]) rfl
    · obtain ⟨x, hx, e⟩ := List.mem_map.mp hd
      exact ⟨x, hx, e.symm⟩
    · have em : (ws.map D.int).filterMap (fun d => match d with | .int x => some (D.str (if x = -1 then "t" else toString x)) | _ => none) = (ws.map fun x => (if x = -1 then "t" else toString x : Str)).map D.str := by
        rw [List.filterMap_map, List.map_map]
        rw [show ((fun d => match d with | D.int x => some (D.str (if x = -1 then "t" else toString x)) | _ => none) ∘ D.int) = some ∘ (D.str ∘ fun x => (if x = -1 then "t" else toString x : Str)) from rfl, List.filterMap_eq_map]
      rw [em]
      have hsum : ∀ l : List Int, (∀ x ∈ l, -1 ≤ x ∧ x < p) → ((l.map fun x => (if x = -1 then "t" else toString x : Str)).map (·.length)).sum ≤ 2 * l.length := by
        intro l
        induction l with
        | nil => intro _; exact Nat.le_refl _
        | cons x l ih =>
          intro hm
          have h3 := ih fun z hz => hm z (List.mem_cons_of_mem _ hz)
          have h4 := hm x List.mem_cons_self
          have h5 : (if x = -1 then "t" else toString x : Str).length ≤ 2 := by
            split
            · decide
            · rename_i z
              obtain ⟨n, rfl⟩ := Int.eq_ofNat_of_zero_le (show 0 ≤ x by omega)
              exact txt2 n (by omega)
          simp only [List.map_cons, List.sum_cons, List.length_cons] at h3 ⊢
          omega
      have hs := hsum ws hw.2
      have h6 := hw.1
      walk_at "ev"
      refine ⟨_, strsOf_map _, ?_⟩
      have e1 : (Str.ofString " ").length = 1 := by decide
      refine ⟨?_, ?_⟩
      · rw [e1, List.length_map]; omega
      walk_at "ev"
      refine h _ ?_
      unfold PySem.Txt.join
      rw [StrLaws.glued_eq_join]
      refine Nat.le_trans (StrLaws.join_length_le _ _) ?_
      rw [e1, List.length_map]; omega
theorem p_Branch_init (N : List Str) (hN : N.length = 3) : ∀ ds G q dw, sp_Branch_init ds G q dw → t_Branch_init dw { nx := fun E' G' => ∃ gs : List D, E'[0]? = some (Sl3.new "Branch" (gs.map some)) ∧ gs ≠ [] ∧ q gs G', rt := fun _ _ => False } (startI "Branch" N ds) G := by
  intro ds G q dw h
  unfold t_Branch_init startI start3
  rw [hN]
  obtain ⟨p, ws, rfl, hp, hw, hwd, h⟩ := h
  have hl := hp.le
  walk_at "ev"
  refine ⟨p, ws, rfl, hp, hw, fun s hs => ?_⟩
  walk_at "ev"
  have e0 : Str.empty.length = 0 := rfl
  have e1 : (Str.ofString " over ").length = 6 := by decide
  refine ⟨by rw [sizeLine_eq]; omega, ?_⟩
  walk_at "ev"
  refine ⟨by rw [Str.length_append, sizeLine_eq]; omega, ?_⟩
  walk_at "ev"
  refine ⟨by rw [Str.length_append, Str.length_append, sizeLine_eq]; omega, ?_⟩
  walk_at "ev"
  have hlog : p.natAbs.log2 < 1920 := Nat.lt_of_le_of_lt (Nat.log2_le_self _) (by omega)
  refine ⟨hlog, ?_⟩
  walk_at "ev"
  have e2 : (Str.ofString (toString p)).length ≤ 2 := by
    obtain ⟨n, rfl⟩ := Int.eq_ofNat_of_zero_le (show 0 ≤ p by omega)
    exact txt2 n (by omega)
  refine ⟨by rw [Str.length_append, Str.length_append, Str.length_append, sizeLine_eq]; omega, ?_⟩
  walk_at "ev"
  exact ⟨[.int p, .str _, pt ws], rfl, by simp, h _⟩
theorem p__law_word_drawn (N : List Str) (hN : N.length = 4) : ∀ ds G q dw, sp__law_word_drawn ds G q dw → t__law_word_drawn dw { nx := fun _ G' => q (.val .non) G', rt := q } (start3 N ds) G := by
  intro ds G q dw h
  unfold t__law_word_drawn start3
  rw [hN]
  obtain ⟨a, R, p, m, rfl, d, hp, h1, h2, h⟩ := h
  have hl := hp.le
  walk_at "ev"
  refine ⟨a, R, p, _, rfl, d, hp, by omega, by omega, fun ws G1 hlen hpt d1 => ?_⟩
  walk_at "ev"
  have fin : ∀ (c : Int) G2, 1 ≤ c → c < p → Dice a R G2 → q (.val (.tup (ws.map D.int ++ [.int c]))) G2 := fun c G2 c1 c2 d2 => by
    have e : (D.tup (ws.map D.int ++ [.int c])) = pt (ws ++ [c]) := by unfold pt; rw [List.map_append]; rfl
    rw [e]
    refine h _ _ (by rw [List.length_append]; simp only [List.length_cons, List.length_nil]; omega) ⟨by rw [List.length_append]; simp only [List.length_cons, List.length_nil]; omega, fun x hx => ?_⟩ (.inr (.inr ⟨c, by simp, by omega⟩)) d2
    rcases List.mem_append.mp hx with z | z
    · exact hpt.2 x z
    · have : x = c := by simpa using z
      omega
  have hsz : (ws.map D.int).length + [D.int 1].length ≤ sizeLine := by rw [List.length_map, sizeLine_eq]; simp only [List.length_cons, List.length_nil]; omega
  have rest : ∀ G2, Dice a R G2 → dRet (dOp oAdd (dVar 3) (dTup (dCons (dIf (dTest (dOp oGt (dVar 1) (dC (D.int 2)))) (dOp oAdd (dC (D.int 1)) (dCall sp__law_roll (fun x x_1 G => dw x G) (dCons (dVar 0) (dCons (dOp oSub (dVar 1) (dC (D.int 1))) dNil)))) (dC (D.int 1))) dNil))) { nx := fun x G' => q (Res.val D.non) G', rt := q } [.val (.ref a), .val (.int p), .val (.int m), .val (pt ws)] G2 := fun G2 d2 => by
    walk_at "ev"
    refine ifD (fun z => ?_) (fun z => ?_)
    · walk_at "ev"
      refine ⟨a, R, _, rfl, d2, by omega, small_big (by omega), fun r G3 r0 r1 d3 => ?_⟩
      walk_at "ev"
      exact fin _ _ (by omega) (by omega) d3
    · walk_at "ev"
      exact fin _ _ (by omega) (by omega) d2
  refine ⟨sh_pt _, rfl, ?_⟩
  walk_at "ev"
  refine ifQ (eqv_pt ws []) (fun e => ?_) (fun e => ?_)
  · subst e
    walk_at "ev"
    refine ⟨a, R, _, rfl, d1, by decide, small_big (by decide), fun r G2 r0 r1 d2 => ?_⟩
    walk_at "ev"
    refine ifE (fun z => ?_) (fun z => ?_)
    · walk_at "ev"
      refine ⟨a, R, _, rfl, d2, by simp, by decide, fun x G3 hx d3 => ?_⟩
      simp only [List.mem_cons, List.not_mem_nil, or_false] at hx
      rcases hx with rfl | rfl
      · walk_at "ev"
        exact h [] _ (by simp; omega) ⟨by decide, fun x hx => by cases hx⟩ (.inl rfl) d3
      · walk_at "ev"
        exact h [-1] _ (by simp; omega) ⟨by decide, fun x hx => by have : x = -1 := (by simpa using hx); omega⟩ (.inr (.inl rfl)) d3
    · exact rest _ d2
  · exact rest _ d1
end LB

set_option Elab.async false
set_option maxRecDepth 100000
set_option maxHeartbeats 4000000
set_option exponentiation.threshold 2000
/-! LC: the counts of branches. -/
namespace LC
open PySem PySem.Spec PyProof.Rows L2 L3 LD LN LP LO LB
local macro_rules | `(tactic| walk_at "ev") => `(tactic| repeat (first | refine lc_stop ?_ | refine for_stop ?_ | refine ⟨_, rfl, ?_⟩ | refine ⟨_, _, rfl, ?_⟩ | refine ⟨rfl, ?_⟩ | refine And.intro (by assumption) ?_ | refine ⟨by decide, ?_⟩ | refine ⟨ltL rfl, ?_⟩ | refine ⟨_, at0, ?_⟩ | refine ⟨_, at1, ?_⟩ | refine ⟨_, at2, ?_⟩ | refine ifT ?_ | refine ifF ?_ | refine ⟨_, _, _, rfl, ?_⟩ | refine ⟨⟨_, rfl⟩, ?_⟩))
local macro_rules | `(tactic| walk_at "eva") => `(tactic| repeat (first | refine ⟨_, rfl, ?_⟩ | refine ⟨_, _, rfl, ?_⟩ | refine ⟨rfl, ?_⟩ | refine And.intro (by assumption) ?_ | refine ⟨by decide, ?_⟩ | refine ⟨ltL rfl, ?_⟩ | refine ⟨_, at0, ?_⟩ | refine ⟨_, at1, ?_⟩ | refine ⟨_, at2, ?_⟩ | refine ifT ?_ | refine ifF ?_ | refine ⟨_, _, _, rfl, ?_⟩ | refine ⟨⟨_, rfl⟩, ?_⟩))
/-! ### plain -/
/-- the count at a height -/
def cnt (ws : List Int) (i : Nat) : Nat := mn (ord2 (ws.drop i))
/-- the counts of the first n heights -/
def cto (ws : List Int) (n : Nat) : List Int := (List.range n).map fun i => ((cnt ws i : Nat) : Int)
theorem cto_len (ws : List Int) (n : Nat) : (cto ws n).length = n := by unfold cto; rw [List.length_map, List.length_range]
theorem cto_succ (ws : List Int) (n : Nat) : cto ws (n + 1) = cto ws n ++ [((cnt ws n : Nat) : Int)] := by
  unfold cto
  rw [List.range_succ, List.map_append]; rfl
theorem cto_get {ws : List Int} {n i : Nat} (h : i < (cto ws n).length) : (cto ws n)[i] = ((cnt ws i : Nat) : Int) := by
  have h2 : i < ((List.range n).map fun i => ((cnt ws i : Nat) : Int)).length := h
  show ((List.range n).map fun i => ((cnt ws i : Nat) : Int))[i] = _
  rw [List.getElem_map, List.getElem_range]
theorem cnt_out {ws : List Int} {i : Nat} (h : ws.length ≤ i) : cnt ws i = 1 := by
  unfold cnt
  rw [List.drop_eq_nil_of_le h]; rfl
/-- counts, then ones, cut -/
theorem cto_cut (ws : List Int) (n : Nat) : (cto ws (ws.length + 1) ++ List.replicate n 1).take n = cto ws n := by
  apply List.ext_getElem
  · rw [List.length_take, List.length_append, cto_len, cto_len, List.length_replicate]; omega
  · intro i h1 h2
    rw [cto_len] at h2
    rw [List.getElem_take, List.getElem_append, cto_get]
    split
    · rw [cto_get]
    · rename_i h
      rw [cto_len] at h
      rw [List.getElem_replicate, cnt_out (by omega)]; rfl
theorem first_mn {l : Int} {ws : List Int} (h : Wd (l :: ws)) : ∃ a, (ord2 ws).1 = some a ∧ mn (ord2 (l :: ws)) = a ∧ mn (ord2 ws) ≤ a := by
  have h1 := ord_first h
  have h2 := ord_pos ws
  cases e : ord2 ws with
  | mk o1 o2 =>
    rw [e] at h1 h2
    cases o1 with
    | none => cases h1
    | some a =>
      refine ⟨a, rfl, ?_, ?_⟩
      · rw [ord2, e]
        unfold stepO
        cases o2 with
        | none =>
          split
          · rfl
          · split
            · rfl
            · show (if a < a then a else a) = a
              rw [if_neg (Nat.lt_irrefl a)]
        | some b =>
          have hb : 1 ≤ b := h2.2 b rfl
          split
          · show (if a < a + b then a else a + b) = a
            rw [if_pos (by omega)]
          · split
            · show (if a + b < a then a + b else a) = a
              rw [if_neg (by omega)]
            · show (if a < a then a else a) = a
              rw [if_neg (Nat.lt_irrefl a)]
      · cases o2 with
        | none => exact Nat.le_refl a
        | some b =>
          show (if b < a then b else a) ≤ a
          split <;> omega
theorem cnt_mono {ws : List Int} (h : Wd ws) (i : Nat) : cnt ws (i + 1) ≤ cnt ws i := by
  unfold cnt
  by_cases z : i < ws.length
  · have e : ws.drop i = ws[i] :: ws.drop (i + 1) := List.drop_eq_getElem_cons z
    obtain ⟨a, _, h2, h3⟩ := first_mn (l := ws[i]) (ws := ws.drop (i + 1)) (by rw [← e]; exact h.dropN i)
    rw [e, h2]
    exact h3
  · rw [List.drop_eq_nil_of_le (by omega), List.drop_eq_nil_of_le (by omega)]
    exact Nat.le_refl _
theorem mn_pos {ws : List Int} (h : Wd ws) : 1 ≤ mn (ord2 ws) := by
  have h1 := ord_one h
  have h2 := ord_pos ws
  cases e : ord2 ws with
  | mk o1 o2 =>
    rw [e] at h1 h2
    cases o1 with
    | none =>
      cases o2 with
      | none => simp at h1
      | some b => exact h2.2 b rfl
    | some a =>
      cases o2 with
      | none => exact h2.1 a rfl
      | some b =>
        have := h2.1 a rfl
        have := h2.2 b rfl
        show 1 ≤ (if b < a then b else a)
        split <;> assumption
theorem cnt_pos {ws : List Int} (h : Wd ws) (i : Nat) : 1 ≤ cnt ws i := mn_pos (h.dropN i)
theorem cnt_le {ws : List Int} (h : Wd ws) (i j : Nat) (hij : i ≤ j) : cnt ws j ≤ cnt ws i := by
  induction j with
  | zero => rw [show i = 0 by omega]; exact Nat.le_refl _
  | succ j ih =>
    by_cases e : i = j + 1
    · rw [e]; exact Nat.le_refl _
    · exact Nat.le_trans (cnt_mono h j) (ih (by omega))
/-- no turn in a word: the first order is 1 -/
theorem first_one : ∀ {ws : List Int}, Wd ws → ws ≠ [-1] → ((ord2 ws).1 = some 1 ↔ (-1 : Int) ∉ ws)
  | [], _, _ => ⟨fun _ h => (by cases h), fun _ => rfl⟩
  | l :: ws, hw, h2 => by
    have nt : ws ≠ [-1] := fun e => by
      subst e
      rcases hw with z | z | ⟨m, e, h⟩
      · cases z
      · cases z
      · have : -1 = m := by simpa using e
        omega
    have ih := first_one hw.tail nt
    have f := ord_first hw
    rw [ord2]
    unfold stepO
    by_cases z : l = -1
    · subst z
      rw [if_pos rfl]
      have ne : ws ≠ [] := fun e => h2 (by rw [e])
      obtain ⟨i1, i2⟩ := ord_both ne nt hw.tail
      have hp := ord_pos ws
      cases e : ord2 ws with
      | mk o1 o2 =>
        rw [e] at i1 i2 hp
        cases o1 with
        | none => cases i1
        | some a =>
          cases o2 with
          | none => cases i2
          | some b =>
            have := hp.1 a rfl
            have := hp.2 b rfl
            constructor
            · intro w
              have : a + b = 1 := Option.some.inj w
              omega
            · intro w
              exact absurd List.mem_cons_self w
    · rw [if_neg z]
      have mem : (-1 : Int) ∉ l :: ws ↔ (-1 : Int) ∉ ws := by
        rw [List.mem_cons, not_or]
        exact ⟨fun h => h.2, fun h => ⟨fun e => z e.symm, h⟩⟩
      rw [mem, ← ih]
      split <;> exact Iff.rfl
/-- smooth: no turn but the first letter -/
theorem smooth_cnt {ws : List Int} (h : Wd ws) : cnt ws 0 = 1 ↔ (-1 : Int) ∉ ws.drop 1 := by
  unfold cnt
  rw [List.drop_zero]
  cases ws with
  | nil => exact ⟨fun _ h => (by cases h), fun _ => rfl⟩
  | cons l ws =>
    obtain ⟨a, h1, h2, h3⟩ := first_mn h
    rw [h2]
    show a = 1 ↔ (-1 : Int) ∉ ws
    have nt : ws ≠ [-1] := fun e => by
      subst e
      rcases h with z | z | ⟨m, e, h⟩
      · cases z
      · cases z
      · have : -1 = m := by simpa using e
        omega
    rw [← first_one h.tail nt, h1]
    exact ⟨fun e => by rw [e], fun e => Option.some.inj e⟩
/-! ### second points below -/
theorem getD_any {ws : List Int} {k : Nat} (h : k < ws.length) (d e : Int) : ws.getD k d = ws.getD k e := by
  rw [List.getD_eq_getElem?_getD, List.getD_eq_getElem?_getD, List.getElem?_eq_getElem h]; rfl
theorem nz_zero {ws : List Int} : ∀ k j, nz ws k ≤ j → j < k → ws.getD j 1 = 0
  | 0, j, _, h => absurd h (Nat.not_lt_zero j)
  | k + 1, j, h1, h2 => by
    unfold nz at h1
    split at h1
    · rename_i e
      by_cases hj : j = k
      · rw [hj]; exact e
      · exact nz_zero k j h1 (by omega)
    · omega
theorem nz_of {ws : List Int} {j : Nat} : ∀ k, j < k → ws.getD j 1 ≠ 0 → (∀ i, j < i → i < k → ws.getD i 1 = 0) → nz ws k = j + 1
  | 0, h, _, _ => absurd h (Nat.not_lt_zero j)
  | k + 1, h, h1, h2 => by
    unfold nz
    by_cases hj : j = k
    · rw [if_neg (by rw [← hj]; exact h1), hj]
    · rw [if_pos (h2 k (by omega) (by omega))]
      exact nz_of k (by omega) h1 fun i a b => h2 i a (by omega)
theorem second_iff (ws ys : List Int) : second ws = some ys ↔ ∃ k, k + 1 < ws.length ∧ ws.getD (k + 1) 0 = -1 ∧ (∀ i, k + 1 < i → i < ws.length → ws.getD i 1 = 0) ∧ ys = ws.take k := by
  unfold second
  have hle := nz_le ws ws.length
  constructor
  · intro h
    split at h
    · cases h
    · rename_i hn
      have h1 : 2 ≤ nz ws ws.length := by
        by_cases z : nz ws ws.length < 2
        · exact absurd (.inl z) hn
        · omega
      obtain ⟨k, hk⟩ : ∃ k, nz ws ws.length = k + 1 + 1 := ⟨nz ws ws.length - 2, by omega⟩
      rw [hk] at h hn hle
      have h2 : ws.getD (k + 1) 0 = -1 := by
        by_cases z : ws.getD (k + 1) 0 = -1
        · exact z
        · exact absurd (.inr z) hn
      exact ⟨k, by omega, h2, fun i a b => nz_zero ws.length i (by omega) b, (Option.some.inj h).symm⟩
  · rintro ⟨k, h1, h2, h3, rfl⟩
    have hk : nz ws ws.length = k + 1 + 1 := nz_of ws.length h1 (by rw [getD_any h1 1 0, h2]; decide) h3
    rw [hk, if_neg (by rw [show k + 1 + 1 - 1 = k + 1 by omega]; exact fun z => z.elim (by omega) fun z => z h2)]
    rfl
/-- a corner stands at that height of a word -/
def Crn (ws : List Int) (h : Nat) : Prop := ∃ k, k + 1 < h ∧ h ≤ ws.length ∧ ws.getD (k + 1) 0 = -1 ∧ ∀ i, k + 1 < i → i < h → ws.getD i 1 = 0
theorem getD_take {ws : List Int} {h i : Nat} (hi : i < h) (d : Int) : (ws.take h).getD i d = ws.getD i d := by
  rw [List.getD_eq_getElem?_getD, List.getD_eq_getElem?_getD, List.getElem?_take, if_pos hi]
theorem crn_iff {ws : List Int} {h : Nat} (hl : h ≤ ws.length) : (second (ws.take h)).isSome = true ↔ Crn ws h := by
  rw [Option.isSome_iff_exists]
  have len : (ws.take h).length = h := by rw [List.length_take]; omega
  constructor
  · rintro ⟨ys, e⟩
    obtain ⟨k, h1, h2, h3, _⟩ := (second_iff _ _).1 e
    rw [len] at h1 h3
    exact ⟨k, h1, hl, by rw [getD_take h1] at h2; exact h2, fun i a b => by have := h3 i a b; rw [getD_take b] at this; exact this⟩
  · rintro ⟨k, h1, _, h2, h3⟩
    exact ⟨_, (second_iff _ _).2 ⟨k, by rw [len]; exact h1, by rw [getD_take h1]; exact h2, fun i a b => by rw [len] at b; rw [getD_take b]; exact h3 i a b, rfl⟩⟩
/-- the heights of corners -/
def crn (ws : List Int) : List Nat := (List.range (ws.length + 1)).filter fun h => (second (ws.take h)).isSome
theorem crn_nil (ws : List Int) : crn ws = [] ↔ (-1 : Int) ∉ ws.drop 1 := by
  unfold crn
  rw [List.filter_eq_nil_iff]
  constructor
  · intro h hm
    rw [List.mem_drop_iff_getElem] at hm
    obtain ⟨j, hj, e⟩ := hm
    refine h (1 + j + 1) (by rw [List.mem_range]; omega) ((crn_iff (by omega)).2 ⟨j, by omega, by omega, ?_, fun i a b => by omega⟩)
    rw [List.getD_eq_getElem?_getD, show j + 1 = 1 + j by omega, List.getElem?_eq_getElem (by omega)]
    exact e
  · intro h x hx hs
    rw [List.mem_range] at hx
    obtain ⟨k, h1, h2, h3, _⟩ := (crn_iff (by omega)).1 hs
    apply h
    rw [List.mem_drop_iff_getElem]
    refine ⟨k, by omega, ?_⟩
    rw [List.getD_eq_getElem?_getD, List.getElem?_eq_getElem (by omega)] at h3
    have : ws[k + 1] = -1 := h3
    rw [← this]
    congr 1
    omega
/-! ### words with letters 0 and 1 -/
def fl (ws : List Int) : List Int := ws.map fun l => if 1 < l then 1 else l
theorem step_fl (l : Int) (s : Option Nat × Option Nat) : stepO (if 1 < l then 1 else l) s = stepO l s := by
  by_cases h : 1 < l
  · rw [if_pos h]
    unfold stepO
    rw [if_neg (by decide), if_neg (by decide), if_neg (by omega), if_neg (by omega)]
  · rw [if_neg h]
theorem ord2_fl : ∀ ws : List Int, ord2 (fl ws) = ord2 ws
  | [] => rfl
  | l :: ws => by
    show stepO _ (ord2 (fl ws)) = stepO l (ord2 ws)
    rw [step_fl, ord2_fl ws]
theorem cnt_fl (ws : List Int) (i : Nat) : cnt (fl ws) i = cnt ws i := by
  unfold cnt
  rw [show (fl ws).drop i = fl (ws.drop i) by unfold fl; rw [List.map_drop], ord2_fl]
theorem cto_fl (ws : List Int) (n : Nat) : cto (fl ws) n = cto ws n := by
  unfold cto
  simp only [cnt_fl]
theorem getD_fl (ws : List Int) (i : Nat) {d : Int} (hd : d = 0 ∨ d = 1) : (fl ws).getD i d = if 1 < ws.getD i d then 1 else ws.getD i d := by
  unfold fl
  rw [List.getD_eq_getElem?_getD, List.getD_eq_getElem?_getD, List.getElem?_map]
  cases ws[i]? with
  | none => rcases hd with rfl | rfl <;> rfl
  | some x => rfl
theorem Crn_fl (ws : List Int) (h : Nat) : Crn (fl ws) h ↔ Crn ws h := by
  unfold Crn
  have e : (fl ws).length = ws.length := by unfold fl; rw [List.length_map]
  constructor
  · rintro ⟨k, h1, h2, h3, h4⟩
    refine ⟨k, h1, by omega, ?_, fun i a b => ?_⟩
    · rw [getD_fl _ _ (.inl rfl)] at h3
      split at h3
      · omega
      · exact h3
    · have := h4 i a b
      rw [getD_fl _ _ (.inr rfl)] at this
      split at this
      · omega
      · exact this
  · rintro ⟨k, h1, h2, h3, h4⟩
    refine ⟨k, h1, by omega, ?_, fun i a b => ?_⟩
    · rw [getD_fl _ _ (.inl rfl), h3]; decide
    · rw [getD_fl _ _ (.inr rfl), h4 i a b]; decide
theorem crn_fl (ws : List Int) : crn (fl ws) = crn ws := by
  unfold crn
  have e : (fl ws).length = ws.length := by unfold fl; rw [List.length_map]
  rw [e]
  apply List.filter_congr
  intro h hm
  rw [List.mem_range] at hm
  rw [Bool.eq_iff_iff, crn_iff (by omega), crn_iff (by omega), Crn_fl]
theorem Wd_fl {ws : List Int} (h : Wd ws) : Wd (fl ws) := by
  rcases h with rfl | rfl | ⟨l, h1, h2⟩
  · exact .inl rfl
  · exact .inr (.inl rfl)
  · refine .inr (.inr ⟨if 1 < l then 1 else l, by unfold fl; rw [List.getLast?_map, h1]; rfl, ?_⟩)
    split <;> omega
/-! ### tall -/
def tall (ws : List Int) (h : Nat) : Bool := decide (1 < cnt ws h) || (second (ws.take h)).isSome
def tl (ws : List Int) : List Nat := (List.range (ws.length + 1)).filter (tall ws)
def tw (ws : List Int) : Nat := (tl ws).foldr (fun h m => if m < h + 1 then h + 1 else m) 0
theorem fold_max : ∀ (l : List Nat), (∀ h ∈ l, h + 1 ≤ l.foldr (fun h m => if m < h + 1 then h + 1 else m) 0) ∧ (l.foldr (fun h m => if m < h + 1 then h + 1 else m) 0 = 0 ∨ ∃ h ∈ l, l.foldr (fun h m => if m < h + 1 then h + 1 else m) 0 = h + 1)
  | [] => ⟨fun h hm => by (cases hm), .inl rfl⟩
  | x :: l => by
    obtain ⟨h1, h2⟩ := fold_max l
    rw [List.foldr_cons]
    generalize l.foldr (fun h m => if m < h + 1 then h + 1 else m) 0 = M at h1 h2 ⊢
    constructor
    · intro h hm
      rcases List.mem_cons.mp hm with e | e
      · subst e; split <;> omega
      · have := h1 h e
        split <;> omega
    · right
      split
      · exact ⟨x, List.mem_cons_self, rfl⟩
      · rcases h2 with z | ⟨h, hm, e⟩
        · omega
        · exact ⟨h, List.mem_cons_of_mem _ hm, e⟩
theorem tw_is {ws : List Int} {M : Nat} (h1 : ∀ h ∈ tl ws, h + 1 ≤ M) (h2 : M = 0 ∨ ∃ h ∈ tl ws, M = h + 1) : M = tw ws := by
  obtain ⟨f1, f2⟩ := fold_max (tl ws)
  unfold tw
  generalize (tl ws).foldr (fun h m => if m < h + 1 then h + 1 else m) 0 = N at f1 f2 ⊢
  rcases h2 with z | ⟨h, hm, e⟩
  · rcases f2 with w | ⟨h, hm, e⟩
    · omega
    · have := h1 h hm; omega
  · have := f1 h hm
    rcases f2 with w | ⟨h', hm', e'⟩
    · omega
    · have := h1 h' hm'; omega
theorem smooth_tw {ws : List Int} (h : Wd ws) : tw ws = 0 ↔ (-1 : Int) ∉ ws.drop 1 := by
  obtain ⟨f1, f2⟩ := fold_max (tl ws)
  have e0 : tw ws = 0 ↔ tl ws = [] := by
    constructor
    · intro z
      cases e : tl ws with
      | nil => rfl
      | cons a b =>
        have := f1 a (by rw [e]; exact List.mem_cons_self)
        unfold tw at z
        rw [z] at this
        omega
    · intro z
      unfold tw
      rw [z]; rfl
  rw [e0]
  unfold tl
  rw [List.filter_eq_nil_iff]
  constructor
  · intro z
    rw [← crn_nil]
    unfold crn
    rw [List.filter_eq_nil_iff]
    intro x hx hs
    apply z x hx
    unfold tall
    rw [hs, Bool.or_true]
  · intro z x hx
    have c := (crn_nil ws).2 z
    unfold crn at c
    rw [List.filter_eq_nil_iff] at c
    have n := c x hx
    have c0 := (smooth_cnt h).2 z
    have c1 := cnt_le h 0 x (Nat.zero_le _)
    unfold tall
    rw [decide_eq_false (by omega), Bool.false_or]
    exact n
end LC

set_option Elab.async false
set_option maxRecDepth 100000
set_option maxHeartbeats 4000000
set_option exponentiation.threshold 2000
/-! LC2: the counts of branches, walked. -/
namespace LC
open PySem PySem.Spec PyProof.Rows L2 L3 LD LN LP LO LB
local macro_rules | `(tactic| walk_at "ev") => `(tactic| repeat (first | refine lc_stop ?_ | refine for_stop ?_ | refine ⟨_, rfl, ?_⟩ | refine ⟨_, _, rfl, ?_⟩ | refine ⟨rfl, ?_⟩ | refine And.intro (by assumption) ?_ | refine ⟨by decide, ?_⟩ | refine ⟨ltL rfl, ?_⟩ | refine ⟨_, at0, ?_⟩ | refine ⟨_, at1, ?_⟩ | refine ⟨_, at2, ?_⟩ | refine ifT ?_ | refine ifF ?_ | refine ⟨_, _, _, rfl, ?_⟩ | refine ⟨⟨_, rfl⟩, ?_⟩))
local macro_rules | `(tactic| walk_at "eva") => `(tactic| repeat (first | refine ⟨_, rfl, ?_⟩ | refine ⟨_, _, rfl, ?_⟩ | refine ⟨rfl, ?_⟩ | refine And.intro (by assumption) ?_ | refine ⟨by decide, ?_⟩ | refine ⟨ltL rfl, ?_⟩ | refine ⟨_, at0, ?_⟩ | refine ⟨_, at1, ?_⟩ | refine ⟨_, at2, ?_⟩ | refine ifT ?_ | refine ifF ?_ | refine ⟨_, _, _, rfl, ?_⟩ | refine ⟨⟨_, rfl⟩, ?_⟩))
/-! ### promises -/
def sp_Branch_is_smooth : DSp := fun ds G q _ => ∃ (p : Int) (ws : List Int) (s : Str), ds = [br p ws s] ∧ q (.val (.bl (decide ((-1 : Int) ∉ ws.drop 1)))) G
def sp_all_counts : DSp := fun ds G q _ => ∃ ws : List Int, ds = [pt ws] ∧ ws.length ≤ 60 ∧ Wd ws ∧ q (.fr ((cto ws (ws.length + 1)).map D.int)) G
def sp_counts_to : DSp := fun ds G q _ => ∃ (ws : List Int) (n : Nat), ds = [pt ws, .int (n : Nat)] ∧ ws.length ≤ 60 ∧ Wd ws ∧ n ≤ 300 ∧ q (.fr ((cto ws n).map D.int)) G
def sp__law_counts : DSp := sp_counts_to
def sp_counts_of : DSp := fun ds G q _ => ∃ (p : Int) (ws : List Int) (s : Str) (h : Nat), ds = [br p ws s, .int (h : Nat)] ∧ ws.length ≤ 60 ∧ Wd ws ∧ h ≤ 200 ∧ q (.val (pt (cto ws (h + 1)))) G
def sp__law_second : DSp := fun ds G q _ => ∃ ws : List Int, ds = [pt ws] ∧ q (.val (secD ws)) G
def sp__law_nears : DSp := fun ds G q _ => ∃ ws : List Int, ds = [pt ws] ∧ q (.fr ((nears ws).map pt)) G
def sp__law_prime_of : DSp := fun ds G q _ => ∃ (a : Addr) (R : Reg), ds = [.ref a] ∧ Dice a R G ∧ ∀ (p : Int) G', Pr p → Dice a R G' → q (.val (.int p)) G'
theorem len_Branch_is_smooth : ∀ ds G q e, sp_Branch_is_smooth ds G q e → ds.length = 1 := fun ds G q e ⟨_, _, _, h, _⟩ => by rw [h]; rfl
theorem len_all_counts : ∀ ds G q e, sp_all_counts ds G q e → ds.length = 1 := fun ds G q e ⟨_, h, _⟩ => by rw [h]; rfl
theorem len_counts_to : ∀ ds G q e, sp_counts_to ds G q e → ds.length = 2 := fun ds G q e ⟨_, _, h, _⟩ => by rw [h]; rfl
theorem len__law_counts : ∀ ds G q e, sp__law_counts ds G q e → ds.length = 2 := len_counts_to
theorem len_counts_of : ∀ ds G q e, sp_counts_of ds G q e → ds.length = 2 := fun ds G q e ⟨_, _, _, _, h, _⟩ => by rw [h]; rfl
theorem len__law_second : ∀ ds G q e, sp__law_second ds G q e → ds.length = 1 := fun ds G q e ⟨_, h, _⟩ => by rw [h]; rfl
theorem len__law_nears : ∀ ds G q e, sp__law_nears ds G q e → ds.length = 1 := fun ds G q e ⟨_, h, _⟩ => by rw [h]; rfl
theorem len__law_prime_of : ∀ ds G q e, sp__law_prime_of ds G q e → ds.length = 1 := fun ds G q e ⟨_, _, h, _⟩ => by rw [h]; rfl
/-! ### readings (as gen.py prints them) -/
def t_Branch_is_smooth (dw : Exc3 → Reg → Prop) : DSt :=
  (dRet (dOp (oIn true) (dC (.int (-1))) (dSl oSl (dAttr [("Branch", 2)] (dVar 0)) (dPart (dC (.int 1))) dNoPart)))
def t_all_counts (dw : Exc3 → Reg → Prop) : DSt :=
  (dRet (dLc (dIter (dCall sp_all_orders (fun x _ G => dw x G) (dCons (dVar 0) dNil))) (gNm 1) dYes (dCall sp_count_in dw0 (dCons (dVar 1) dNil)) [1]))
def t_counts_to (dw : Exc3 → Reg → Prop) : DSt :=
  (dRet (dSl oSl (dOp oAdd (dCall sp_all_counts (fun x _ G => dw x G) (dCons (dVar 0) dNil)) (dOp oMul (dLst (dCons (dC (.int 1)) dNil)) (dVar 1))) dNoPart (dPart (dVar 1))))
def t_counts_of (dw : Exc3 → Reg → Prop) : DSt :=
  (dSeq (dDrop (dCall sp_require_branch (fun x _ G => dw x G) (dCons (dVar 0) dNil)))
    (dSeq (dDrop (dCall sp_require_height (fun x _ G => dw x G) (dCons (dVar 1) (dCons (dC (.int 0)) dNil))))
    (dRet (dCB bTuple (dPCons (dCall sp_counts_to (fun x _ G => dw x G) (dCons (dProp "Branch" sp_Branch_word (dVar 0)) (dCons (dOp oAdd (dVar 1) (dC (.int 1))) dNil))) dNil)))))
def t__law_counts (dw : Exc3 → Reg → Prop) : DSt :=
  (dSeq (dSet 2 (dLst dNil))
    (dSeq (dFor (dIter (dCall sp__law_orders (fun x _ G => dw x G) (dCons (dVar 0) dNil))) (gTp 2 (gsCons (gNm 3) (gsCons (gNm 4) gsNil))) (dDrop (dApp 2 (dCB bMinL (dPCons (dLc (dIter (dTup (dCons (dVar 3) (dCons (dVar 4) dNil)))) (gNm 5) (dTest (dOp (oIs true) (dVar 5) (dC .non))) (dVar 5) [5]) dNil)))))
    (dRet (dSl oSl (dOp oAdd (dVar 2) (dOp oMul (dLst (dCons (dC (.int 1)) dNil)) (dVar 1))) dNoPart (dPart (dVar 1))))))
def t__law_second (dw : Exc3 → Reg → Prop) : DSt :=
  (dSeq (dSet 1 (dCB bLen (dPCons (dVar 0) dNil)))
    (dSeq (dWhile (dAnd (dTest (dOp oGt (dVar 1) (dC (.int 0)))) (dTest (dOp oEq (dOp oIx (dVar 0) (dOp oSub (dVar 1) (dC (.int 1)))) (dC (.int 0))))) (dSet 1 (dOp oSub (dVar 1) (dC (.int 1)))))
    (dSeq (dIfS (dOr (dTest (dOp oLt (dVar 1) (dC (.int 2)))) (dTest (dOp oNe (dOp oIx (dVar 0) (dOp oSub (dVar 1) (dC (.int 1)))) (dUn uNeg (dC (.int 1)))))) (dRet (dC .non)) dNext)
    (dRet (dCB bTuple (dPCons (dSl oSl (dVar 0) dNoPart (dPart (dOp oSub (dVar 1) (dC (.int 2))))) dNil))))))
def t__law_nears (dw : Exc3 → Reg → Prop) : DSt :=
  (dSeq (dIfS (dTest (dOp oEq (dVar 0) (dTup dNil))) (dRet (dLst dNil)) dNext)
    (dSeq (dSet 1 (dCall sp__law_second (fun x _ G => dw x G) (dCons (dVar 0) dNil)))
    (dRet (dOp oAdd (dLst (dCons (dCB bTuple (dPCons (dSl oSl (dVar 0) dNoPart (dPart (dUn uNeg (dC (.int 1))))) dNil)) dNil)) (dIf (dTest (dOp (oIs false) (dVar 1) (dC .non))) (dLst dNil) (dLst (dCons (dVar 1) dNil)))))))
def t__law_prime_of (dw : Exc3 → Reg → Prop) : DSt :=
  (dRet (dCall sp__law_pick (fun x _ G => dw x G) (dCons (dVar 0) (dCons (dLst (dCons (dC (.int 2)) (dCons (dC (.int 2)) (dCons (dC (.int 3)) (dCons (dC (.int 3)) (dCons (dC (.int 5)) (dCons (dC (.int 7)) (dCons (dC (.int 31)) dNil)))))))) dNil))))
/-! ### the walks -/
def unO : D → Option Nat
  | .int i => some i.toNat
  | _ => none
def cntF : D → Option D
  | .tup [a, b] => some (.int ((mn (unO a, unO b) : Nat) : Int))
  | _ => none
theorem unO_oD (o : Option Nat) : unO (oD o) = o := by
  cases o with
  | none => rfl
  | some a => rfl
theorem cntF_prD (s : Option Nat × Option Nat) : cntF (prD s) = some (.int ((mn s : Nat) : Int)) := by
  show some (D.int ((mn (unO (oD s.1), unO (oD s.2)) : Nat) : Int)) = _
  rw [unO_oD, unO_oD]
theorem ordsD_rng (ws : List Int) : ordsD ws = (List.range (ws.length + 1)).map fun k => prD (ord2 (ws.drop k)) := by
  unfold ordsD
  rw [sfx_eq, List.map_map]
  rfl
theorem cntD (ws : List Int) : (ordsD ws).filterMap cntF = (cto ws (ws.length + 1)).map D.int := by
  rw [ordsD_rng]
  unfold cto
  rw [List.map_map, List.filterMap_map]
  exact fmap_all fun k _ => cntF_prD _
theorem sfx_mem : ∀ (ws : List Int) (t : List Int), t ∈ sfx ws → ∃ n, t = ws.drop n := by
  intro ws t h
  rw [sfx_eq] at h
  obtain ⟨i, _, e⟩ := List.mem_map.mp h
  exact ⟨i, e.symm⟩
theorem rep1 (n : Nat) (v : Int) : (List.replicate n [D.int v]).flatten = (List.replicate n v).map D.int := by
  rw [List.map_replicate]
  induction n with
  | zero => rfl
  | succ n ih => rw [List.replicate_succ, List.flatten_cons, ih]; rfl
theorem cut_ints {ns : List Int} (j : Nat) : cutD (ns.map D.int) none (some (j : Int)) = (ns.take j).map D.int := by rw [cut_to, List.map_take]
theorem drop1 {ns : List Int} : cutD (ns.map D.int) (some 1) none = (ns.drop 1).map D.int := by
  have := cut_from (ds := ns.map D.int) 1
  rw [List.map_drop]
  exact this
theorem among_ints (v : Int) : ∀ ns : List Int, D.among (.int v) (ns.map D.int) = decide (v ∈ ns)
  | [] => rfl
  | n :: ns => by
    have := among_ints v ns
    unfold D.among at this ⊢
    rw [List.map_cons, List.any_cons, eqv_int, this]
    by_cases h : n = v
    · simp [h]
    · have h' : ¬ v = n := fun e => h e.symm
      by_cases h2 : v ∈ ns <;> simp [h, h', h2]
theorem p_Branch_is_smooth (N : List Str) (hN : N.length = 1) : ∀ ds G q dw, sp_Branch_is_smooth ds G q dw → t_Branch_is_smooth dw { nx := fun _ G' => q (.val .non) G', rt := q } (start3 N ds) G := by
  intro ds G q dw h
  unfold t_Branch_is_smooth start3
  rw [hN]
  obtain ⟨p, ws, s, rfl, h⟩ := h
  walk_at "ev"
  refine ⟨sh_cut _ _ _, ?_⟩
  walk_at "ev"
  refine qB (q := q) h ?_
  show (!D.among (.int (-1)) (cutD (ws.map D.int) (some 1) none)) = _
  rw [drop1, among_ints]
  by_cases z : (-1 : Int) ∈ ws.drop 1
  · rw [decide_eq_true z, decide_eq_false (fun w => w z)]; rfl
  · rw [decide_eq_false z, decide_eq_true z]; rfl
theorem p_all_counts (N : List Str) (hN : N.length = 2) : ∀ ds G q dw, sp_all_counts ds G q dw → t_all_counts dw { nx := fun _ G' => q (.val .non) G', rt := q } (start3 N ds) G := by
  intro ds G q dw h
  unfold t_all_counts start3
  rw [hN]
  obtain ⟨ws, rfl, h60, hw, h⟩ := h
  walk_at "ev"
  refine ⟨by rw [ordsD_len, sizeLine_eq]; omega, ?_⟩
  refine lc_pure0 (fun d => ∃ t ∈ sfx ws, d = prD (ord2 t)) cntF (fun d k1 k2 hd h1 h2 => ?_) (fun d hd => ?_) ?_
  · obtain ⟨t, ht, rfl⟩ := hd
    obtain ⟨n, rfl⟩ := sfx_mem ws t ht
    walk_at "ev"
    refine ⟨ord_one (hw.dropN n), ?_⟩
    walk_at "ev"
    exact h1 _ _ (cntF_prD _) rfl
  · unfold ordsD at hd
    obtain ⟨t, ht, e⟩ := List.mem_map.mp hd
    exact ⟨t, ht, e.symm⟩
  · rw [cntD]
    walk_at "ev"
    exact h
theorem p_counts_to (N : List Str) (hN : N.length = 2) : ∀ ds G q dw, sp_counts_to ds G q dw → t_counts_to dw { nx := fun _ G' => q (.val .non) G', rt := q } (start3 N ds) G := by
  intro ds G q dw h
  unfold t_counts_to start3
  rw [hN]
  obtain ⟨ws, n, rfl, h60, hw, hn, h⟩ := h
  walk_at "ev"
  refine ⟨by omega, by omega, by rw [sizeLine_eq, Int.toNat_natCast]; simp only [List.length_cons, List.length_nil]; omega, ?_⟩
  rw [Int.toNat_natCast, rep1]
  walk_at "ev"
  refine ⟨by rw [List.length_map, cto_len, List.length_map, List.length_replicate, sizeLine_eq]; omega, ?_⟩
  walk_at "ev"
  show q (.fr (cutD ((cto ws (ws.length + 1)).map D.int ++ (List.replicate n 1).map D.int) none (some (n : Int)))) G
  rw [← List.map_append, cut_ints, cto_cut]
  exact h
theorem p_counts_of (N : List Str) (hN : N.length = 2) : ∀ ds G q dw, sp_counts_of ds G q dw → t_counts_of dw { nx := fun _ G' => q (.val .non) G', rt := q } (start3 N ds) G := by
  intro ds G q dw h
  unfold t_counts_of start3
  rw [hN]
  obtain ⟨p, ws, s, hh, rfl, h60, hw, h200, h⟩ := h
  walk_at "ev"
  refine ⟨by omega, by omega, by omega, ?_⟩
  walk_at "ev"
  refine ⟨Nat.le_trans (Nat.succ_le_succ h200) (by decide), ?_⟩
  walk_at "ev"
  exact h
theorem p__law_counts (N : List Str) (hN : N.length = 6) : ∀ ds G q dw, sp__law_counts ds G q dw → t__law_counts dw { nx := fun _ G' => q (.val .non) G', rt := q } (start3 N ds) G := by
  intro ds G q dw h
  unfold t__law_counts start3
  rw [hN]
  obtain ⟨ws, n, rfl, h60, hw, hn, h⟩ := h
  walk_at "ev"
  refine .go ?_
  refine for_ind (fun ds E G1 => G1 = G ∧ ∃ pre suf s3 s4, sfx ws = pre ++ suf ∧ ds = suf.map (fun t => prD (ord2 t)) ∧ E = [.val (pt ws), .val (.int (n : Nat)), .own (pre.map fun t => D.int ((mn (ord2 t) : Nat) : Int)), s3, s4, .no]) (fun E G1 hI => ?_) (fun d ds E G1 nx hI hn2 => ?_) _ _ _ ⟨rfl, [], sfx ws, _, _, rfl, rfl, rfl⟩
  · obtain ⟨rfl, pre, suf, s3, s4, e, e2, rfl⟩ := hI
    have : suf = [] := by
      cases suf with
      | nil => rfl
      | cons a b => cases e2
    subst this
    rw [List.append_nil] at e
    have ec : (pre.map fun t => D.int ((mn (ord2 t) : Nat) : Int)) = (cto ws (ws.length + 1)).map D.int := by
      rw [← e, sfx_eq, List.map_map]
      unfold cto
      rw [List.map_map]
      rfl
    rw [ec]
    walk_at "ev"
    refine ⟨by omega, by omega, by rw [sizeLine_eq, Int.toNat_natCast]; simp only [List.length_cons, List.length_nil]; omega, ?_⟩
    rw [Int.toNat_natCast, rep1]
    walk_at "ev"
    refine ⟨by rw [List.length_map, cto_len, List.length_map, List.length_replicate, sizeLine_eq]; omega, ?_⟩
    walk_at "ev"
    show q (.fr (cutD ((cto ws (ws.length + 1)).map D.int ++ (List.replicate n 1).map D.int) none (some (n : Int)))) _
    rw [← List.map_append, cut_ints, cto_cut]
    exact h
  · obtain ⟨rfl, pre, suf, s3, s4, e, e2, rfl⟩ := hI
    cases suf with
    | nil => cases e2
    | cons t suf =>
      rw [List.map_cons] at e2
      cases e2
      obtain ⟨m, rfl⟩ := sfx_mem ws t (by rw [e]; simp)
      have one := ord_one (hw.dropN m)
      have hsz : (pre.map fun t => D.int ((mn (ord2 t) : Nat) : Int)).length < sizeLine := by
        have := congrArg List.length e
        rw [sfx_len, List.length_append, List.length_cons] at this
        rw [List.length_map, sizeLine_eq]
        omega
      have fin : ∀ s3 s4, nx [.val (pt ws), .val (.int (n : Nat)), .own ((pre.map fun t => D.int ((mn (ord2 t) : Nat) : Int)) ++ [.int ((mn (ord2 (ws.drop m)) : Nat) : Int)]), s3, s4, .no] G1 := fun s3 s4 => hn2 _ _ ⟨rfl, pre ++ [ws.drop m], suf, s3, s4, by rw [e, List.append_assoc]; rfl, rfl, by rw [List.map_append]; rfl⟩
      clear hn2 h
      generalize ord2 (ws.drop m) = o at one fin ⊢
      obtain ⟨o1, o2⟩ := o
      cases o1 <;> cases o2
      · simp at one
      · rename_i b
        walk_at "eva"
        refine fun m h1 h2 => ?_
        have : m = (b : Int) := by simpa using h1
        subst this
        walk_at "eva"
        exact fin _ _
      · rename_i b
        walk_at "eva"
        refine fun m h1 h2 => ?_
        have : m = (b : Int) := by simpa using h1
        subst this
        walk_at "eva"
        exact fin _ _
      · rename_i x y
        walk_at "eva"
        refine fun m h1 h2 => ?_
        have hm : m = ((mn (some x, some y) : Nat) : Int) := by
          simp only [List.mem_cons, List.not_mem_nil, or_false] at h1 h2
          have := h2 _ (.inl rfl)
          have := h2 _ (.inr rfl)
          unfold mn
          simp only
          split <;> omega
        subst hm
        walk_at "eva"
        exact fin _ _
theorem w_size {Dn : Ends3} {xs : List Int} {G : Reg} (m : Nat) (hm : m = xs.length) (h : Dn.nx [.val (pt xs), .val (.int (nz xs xs.length : Nat))] G) :
    dWhile (dAnd (dTest (dOp oGt (dVar 1) (dC (.int 0)))) (dTest (dOp oEq (dOp oIx (dVar 0) (dOp oSub (dVar 1) (dC (.int 1)))) (dC (.int 0))))) (dSet 1 (dOp oSub (dVar 1) (dC (.int 1)))) Dn [.val (pt xs), .val (.int (m : Nat))] G := by
  subst hm
  refine ⟨(xs.length - nz xs xs.length) + 1, ?_⟩
  refine wh_ind (fun n E G' => G' = G ∧ ∃ k, k ≤ xs.length ∧ nz xs k = nz xs xs.length ∧ n = k - nz xs k ∧ E = [.val (pt xs), .val (.int (k : Nat))]) (fun n E G1 nx hI hn => ?_) _ _ _ ⟨rfl, xs.length, Nat.le_refl _, rfl, rfl, rfl⟩
  obtain ⟨rfl, k, hk, hz, rfl, rfl⟩ := hI
  walk_at "ev"
  refine ifD (fun h1 => ?_) (fun h1 => ?_)
  · obtain ⟨j, rfl⟩ : ∃ j, k = j + 1 := ⟨k - 1, by omega⟩
    walk_at "ev"
    refine ⟨_, at_pred (by omega), ?_⟩
    walk_at "ev"
    refine ifE (fun e => ?_) (fun e => ?_)
    · walk_at "ev"
      have hz1 : nz xs (j + 1) = nz xs j := by rw [nz, if_pos e]
      have := nz_le xs j
      refine hn _ _ (j - nz xs j) (by omega) ⟨rfl, j, by omega, by omega, rfl, ?_⟩
      show [_, Sl3.val (.int (((j + 1 : Nat) : Int) - 1))] = _
      rw [show ((j + 1 : Nat) : Int) - 1 = (j : Int) by omega]
    · have hz1 : nz xs (j + 1) = j + 1 := by rw [nz, if_neg e]
      show Dn.nx _ _
      rw [← hz, hz1] at h
      exact h
  · have : k = 0 := by omega
    subst this
    show Dn.nx _ _
    rw [← hz] at h
    exact h
theorem p__law_second (N : List Str) (hN : N.length = 2) : ∀ ds G q dw, sp__law_second ds G q dw → t__law_second dw { nx := fun _ G' => q (.val .non) G', rt := q } (start3 N ds) G := by
  intro ds G q dw h
  unfold t__law_second start3
  rw [hN]
  obtain ⟨ws, rfl, h⟩ := h
  walk_at "ev"
  refine w_size (xs := ws) _ (List.length_map _) ?_
  walk_at "ev"
  have hle := nz_le ws ws.length
  unfold secD second at h
  refine ifD (fun h1 => ?_) (fun h1 => ?_)
  · rw [if_pos (.inl (by omega))] at h
    walk_at "ev"
    exact h
  · obtain ⟨j, hj⟩ : ∃ j, nz ws ws.length = j + 1 + 1 := ⟨nz ws ws.length - 2, by omega⟩
    rw [hj] at h hle ⊢
    walk_at "ev"
    refine ⟨_, at_pred (by omega), ?_⟩
    walk_at "ev"
    have eg : ws.getD (j + 1) 1 = ws.getD (j + 1) 0 := by rw [List.getD_eq_getElem?_getD, List.getD_eq_getElem?_getD, List.getElem?_eq_getElem (show j + 1 < ws.length by omega)]; rfl
    refine ifNE (fun e => ?_) (fun e => ?_)
    · rw [if_pos (.inr (by rw [show j + 1 + 1 - 1 = j + 1 by omega, ← eg]; exact e))] at h
      walk_at "ev"
      exact h
    · walk_at "ev"
      rw [if_neg (by rw [show j + 1 + 1 - 1 = j + 1 by omega, ← eg]; exact fun z => z.elim (by omega) (fun z => z e))] at h
      show q (.val (.tup (cutD (ws.map D.int) none (some (((j + 1 + 1 : Nat) : Int) - 2))))) G
      rw [show (((j + 1 + 1 : Nat) : Int) - 2) = ((j : Nat) : Int) by omega, cut_to, ← List.map_take]
      rw [show j + 1 + 1 - 2 = j by omega] at h
      exact h
theorem p__law_nears (N : List Str) (hN : N.length = 2) : ∀ ds G q dw, sp__law_nears ds G q dw → t__law_nears dw { nx := fun _ G' => q (.val .non) G', rt := q } (start3 N ds) G := by
  intro ds G q dw h
  unfold t__law_nears start3
  rw [hN]
  obtain ⟨ws, rfl, h⟩ := h
  walk_at "ev"
  refine ⟨sh_pt _, rfl, ?_⟩
  walk_at "ev"
  refine ifQ (eqv_pt ws []) (fun e => ?_) (fun e => ?_)
  · subst e
    walk_at "ev"
    exact h
  · unfold nears at h
    rw [if_neg e] at h
    walk_at "ev"
    unfold secD
    cases e2 : second ws with
    | none =>
      rw [e2] at h
      walk_at "ev"
      show q (.fr [.tup (cutD (ws.map D.int) none (some (-1)))]) G
      rw [cut_last, ← List.map_dropLast]
      exact h
    | some l =>
      rw [e2] at h
      walk_at "ev"
      show q (.fr [.tup (cutD (ws.map D.int) none (some (-1))), pt l]) G
      rw [cut_last, ← List.map_dropLast]
      exact h
theorem p__law_prime_of (N : List Str) (hN : N.length = 1) : ∀ ds G q dw, sp__law_prime_of ds G q dw → t__law_prime_of dw { nx := fun _ G' => q (.val .non) G', rt := q } (start3 N ds) G := by
  intro ds G q dw h
  unfold t__law_prime_of start3
  rw [hN]
  obtain ⟨a, R, rfl, d, h⟩ := h
  walk_at "ev"
  refine ⟨a, R, _, rfl, d, by simp, by decide, fun x G' hx d' => ?_⟩
  obtain ⟨p, hp, rfl⟩ : ∃ p, Pr p ∧ x = D.int p := by
    simp only [List.mem_cons, List.not_mem_nil, or_false] at hx
    unfold Pr primes
    rcases hx with rfl | rfl | rfl | rfl | rfl | rfl | rfl <;> exact ⟨_, by decide, rfl⟩
  walk_at "ev"
  exact h p G' hp d'
end LC

set_option Elab.async false
set_option maxRecDepth 100000
set_option maxHeartbeats 4000000
/-! LE2: plain: points near one another along a branch; counts as divisions with remainders. -/
namespace LE2
open LN LP LO LB LC
def flat (ws : List Int) (n : Nat) : List Int := (ws ++ List.replicate n 0).take n
theorem flat_len (ws : List Int) (n : Nat) : (flat ws n).length = n := by
  unfold flat
  rw [List.length_take, List.length_append, List.length_replicate]; omega
theorem flat_getD {ws : List Int} {n i : Nat} (h : i < n) (d : Int) : (flat ws n).getD i d = ws.getD i 0 := by
  unfold flat
  rw [List.getD_eq_getElem?_getD, List.getD_eq_getElem?_getD, List.getElem?_take, if_pos h, List.getElem?_append]
  split
  · rename_i z
    rw [List.getElem?_eq_getElem z]; rfl
  · rename_i z
    rw [List.getElem?_replicate, if_pos (by omega), List.getElem?_eq_none (by omega)]; rfl
theorem flat_take {ws : List Int} {n h : Nat} (hh : h ≤ n) : (flat ws n).take h = flat ws h := by
  apply List.ext_getElem
  · rw [List.length_take, flat_len, flat_len]; omega
  · intro i h1 h2
    rw [flat_len] at h2
    have e1 := flat_getD (ws := ws) (n := n) (i := i) (by omega) 0
    have e2 := flat_getD (ws := ws) (n := h) (i := i) h2 0
    rw [List.getD_eq_getElem?_getD, List.getElem?_eq_getElem (by rw [flat_len]; omega)] at e1
    rw [List.getD_eq_getElem?_getD, List.getElem?_eq_getElem (by rw [flat_len]; exact h2)] at e2
    rw [List.getElem_take]
    exact e1.trans e2.symm
theorem flat_in {ws : List Int} {n : Nat} (h : n ≤ ws.length) : flat ws n = ws.take n := by
  unfold flat
  rw [List.take_append_of_le_length h]
theorem flat_pt {p : Int} {ws : List Int} (hp : 2 ≤ p) (h : Pt p ws) {n : Nat} (hn : n ≤ 60) : Pt p (flat ws n) := by
  refine ⟨by rw [flat_len]; exact hn, fun x hx => ?_⟩
  unfold flat at hx
  rcases List.mem_append.1 (List.mem_of_mem_take hx) with z | z
  · exact h.2 x z
  · have := List.eq_of_mem_replicate z
    omega
/-- o is near h along the branch -/
def NC (ws : List Int) (h o : Nat) : Prop := o = h + 1 ∨ (h + 1 < o ∧ ws.getD (h + 1) 0 = -1 ∧ ∀ i, h + 1 < i → i < o → ws.getD i 0 = 0)
theorem near_iff {ws : List Int} {h o : Nat} (ho : h < o) : flat ws h ∈ nears (flat ws o) ↔ NC ws h o := by
  have ne : flat ws o ≠ [] := fun e => by
    have := congrArg List.length e
    rw [flat_len] at this
    have : o = 0 := this
    omega
  unfold nears
  rw [if_neg ne, List.mem_cons, Option.mem_toList, second_iff, flat_len]
  have dl : (flat ws o).dropLast = flat ws (o - 1) := by
    rw [List.dropLast_eq_take, flat_len, flat_take (by omega)]
  rw [dl]
  constructor
  · rintro (e | ⟨k, h1, h2, h3, e⟩)
    · have := congrArg List.length e
      rw [flat_len, flat_len] at this
      exact .inl (by omega)
    · have := congrArg List.length e
      rw [flat_len, List.length_take, flat_len] at this
      have ek : k = h := by omega
      subst ek
      rw [flat_getD h1] at h2
      exact .inr ⟨h1, h2, fun i a b => by have := h3 i a b; rw [flat_getD b] at this; exact this⟩
  · rintro (e | ⟨h1, h2, h3⟩)
    · exact .inl (by rw [e]; rfl)
    · exact .inr ⟨h, h1, by rw [flat_getD h1]; exact h2, fun i a b => by rw [flat_getD b]; exact h3 i a b, (flat_take (by omega)).symm⟩
theorem NC.down {ws : List Int} {h o o' : Nat} (n : NC ws h o) (h1 : h + 1 ≤ o') (h2 : o' ≤ o) : NC ws h o' := by
  rcases n with e | ⟨a, b, c⟩
  · exact .inl (by omega)
  · by_cases z : o' = h + 1
    · exact .inl z
    · exact .inr ⟨by omega, b, fun i x y => c i x (by omega)⟩
def nearTo (ws : List Int) (h o : Nat) : Bool := decide (flat ws h ∈ nears (flat ws o))
theorem nearTo_iff {ws : List Int} {h o : Nat} (ho : h < o) : nearTo ws h o = true ↔ NC ws h o := by
  unfold nearTo
  rw [decide_eq_true_iff]
  exact near_iff ho
/-- the heights near h, up to m -/
def spots (ws : List Int) (h m : Nat) : List Nat := ((List.range (m - h)).map fun i => h + 1 + i).filter (nearTo ws h)
/-- what is closed downwards is a beginning -/
theorem filter_down (P : Nat → Bool) (hd : ∀ i j, i ≤ j → P j = true → P i = true) : ∀ n, ∃ k, k ≤ n ∧ (List.range n).filter P = List.range k ∧ (∀ i, i < k → P i = true) ∧ ∀ i, k ≤ i → i < n → P i = false
  | 0 => ⟨0, Nat.le_refl 0, rfl, fun i h => absurd h (Nat.not_lt_zero i), fun i _ h => absurd h (Nat.not_lt_zero i)⟩
  | n + 1 => by
    obtain ⟨k, h1, h2, h3, h4⟩ := filter_down P hd n
    rw [List.range_succ, List.filter_append, h2]
    cases e : P n with
    | true =>
      have kn : k = n := by
        rcases Nat.lt_or_ge k n with z | z
        · have := hd k n h1 e
          rw [h4 k (Nat.le_refl k) z] at this
          cases this
        · omega
      subst kn
      refine ⟨k + 1, Nat.le_refl _, ?_, fun i hi => ?_, fun i a b => by omega⟩
      · rw [List.range_succ, List.filter_cons_of_pos (by rw [e])]; rfl
      · by_cases z : i = k
        · rw [z]; exact e
        · exact h3 i (by omega)
    | false =>
      refine ⟨k, by omega, ?_, h3, fun i a b => ?_⟩
      · rw [List.filter_cons_of_neg (by rw [e]; exact Bool.false_ne_true), List.filter_nil, List.append_nil]
      · by_cases z : i = n
        · rw [z]; exact e
        · exact h4 i a (by omega)
theorem spots_is (ws : List Int) (h m : Nat) (hm : h < m) : ∃ k, 1 ≤ k ∧ k ≤ m - h ∧ spots ws h m = (List.range k).map (fun i => h + 1 + i) ∧ (∀ i, i < k → NC ws h (h + 1 + i)) ∧ ∀ i, k ≤ i → i < m - h → ¬ NC ws h (h + 1 + i) := by
  obtain ⟨k, h1, h2, h3, h4⟩ := filter_down (fun i => nearTo ws h (h + 1 + i)) (fun i j hij hj => (nearTo_iff (by omega)).2 (((nearTo_iff (by omega)).1 hj).down (by omega) (by omega))) (m - h)
  refine ⟨k, ?_, h1, ?_, fun i hi => (nearTo_iff (by omega)).1 (h3 i hi), fun i a b c => ?_⟩
  · rcases Nat.lt_or_ge 0 k with z | z
    · exact z
    · have := h4 0 z (by omega)
      rw [show nearTo ws h (h + 1 + 0) = true from (nearTo_iff (by omega)).2 (.inl rfl)] at this
      cases this
  · unfold spots
    rw [List.filter_map]
    show List.map _ (List.filter (fun i => nearTo ws h (h + 1 + i)) (List.range (m - h))) = _
    rw [h2]
  · have := h4 i a b
    rw [(nearTo_iff (by omega)).2 c] at this
    cases this
theorem drop_cons' {ws : List Int} {i : Nat} (h : i < ws.length) : ws.drop i = ws.getD i 0 :: ws.drop (i + 1) := by
  rw [List.drop_eq_getElem_cons h, List.getD_eq_getElem?_getD, List.getElem?_eq_getElem h]; rfl
/-- at a word that begins with a letter that is not 0, the second order is the count -/
theorem head_nonzero {l : Int} {t : List Int} (hw : Wd (l :: t)) (h1 : l :: t ≠ [-1]) (h0 : l ≠ 0) : ∃ a b, ord2 (l :: t) = (some a, some b) ∧ b ≤ a ∧ mn (ord2 (l :: t)) = b ∧ 1 ≤ b := by
  obtain ⟨s1, s2⟩ := ord_both (List.cons_ne_nil l t) h1 hw
  have hp := ord_pos (l :: t)
  have hf := ord_first hw
  cases e : ord2 t with
  | mk o1 o2 =>
    rw [e] at hf
    cases o1 with
    | none => cases hf
    | some x =>
      rw [ord2, e] at s1 s2 hp ⊢
      unfold stepO at s1 s2 hp ⊢
      by_cases z : l = -1
      · rw [if_pos z] at s1 s2 hp ⊢
        cases o2 with
        | none => cases s1
        | some y =>
          refine ⟨x + y, x, rfl, by omega, ?_, hp.2 x rfl⟩
          show (if x < x + y then x else x + y) = x
          split <;> omega
      · rw [if_neg z, if_neg h0] at s1 s2 hp ⊢
        exact ⟨x, x, rfl, Nat.le_refl x, by show (if x < x then x else x) = x; split <;> rfl, hp.2 x rfl⟩
theorem sum_rep (k a b : Nat) (f : Nat → Nat) (h1 : ∀ j, j < k → f j = a) (h2 : f k = b) : ((List.range (k + 1)).map fun j => ((f j : Nat) : Int)).sum = ((k * a + b : Nat) : Int) := by
  have e : ((List.range k).map fun j => ((f j : Nat) : Int)).sum = ((k * a : Nat) : Int) := by
    induction k generalizing b with
    | zero => simp
    | succ k ih =>
      rw [List.range_succ, List.map_append, List.sum_append, ih (f k) (fun j hj => h1 j (by omega)) rfl]
      show _ + ([((f k : Nat) : Int)] : List Int).sum = _
      rw [h1 k (by omega), Nat.succ_mul]
      simp
  rw [List.range_succ, List.map_append, List.sum_append, e]
  show _ + ([((f k : Nat) : Int)] : List Int).sum = _
  rw [h2]
  simp
/-- the counts at the points near a height: all alike but the last one; their sum is the count -/
theorem place {ws : List Int} (hw : Wd ws) (hn : ws ≠ [-1]) {h : Nat} (ht : (-1 : Int) ∈ ws.drop h) : ∃ k, 1 ≤ k ∧ h + k ≤ ws.length ∧ spots ws h (ws.length + 1) = (List.range k).map (fun i => h + 1 + i) ∧
    (∀ j, j + 1 < k → cnt ws (h + 1 + j) = cnt ws (h + 1)) ∧ ((List.range k).map fun j => ((cnt ws (h + 1 + j) : Nat) : Int)).sum = ((cnt ws h : Nat) : Int) := by
  have hl : h < ws.length := by
    rcases Nat.lt_or_ge h ws.length with z | z
    · exact z
    · rw [List.drop_eq_nil_of_le z] at ht; cases ht
  have hlast : ∃ l, ws.getLast? = some l ∧ 0 < l := by
    rcases hw with z | z | z
    · rw [z] at hl; exact absurd hl (Nat.not_lt_zero h)
    · exact absurd z hn
    · exact z
  obtain ⟨l, hl1, hl2⟩ := hlast
  rw [List.getLast?_eq_getElem?] at hl1
  have hlD : ws.getD (ws.length - 1) 0 = l := by rw [List.getD_eq_getElem?_getD, hl1]; rfl
  -- not the last letter alone
  have hl3 : h + 1 < ws.length := by
    rcases Nat.lt_or_ge (h + 1) ws.length with z | z
    · exact z
    · rw [drop_cons' hl, List.drop_eq_nil_of_le z] at ht
      have e : ws.getD h 0 = -1 := (List.mem_singleton.1 ht).symm
      rw [show ws.length - 1 = h by omega] at hlD
      omega
  have neD : ∀ i, i < ws.length → ws.drop i ≠ [-1] := fun i hi e => by
    have := congrArg List.getLast? e
    rw [List.getLast?_drop, if_neg (by omega), List.getLast?_eq_getElem?, hl1] at this
    have : l = -1 := by simpa using this
    omega
  obtain ⟨k, k1, k2, e, n1, n2⟩ := spots_is ws h (ws.length + 1) (by omega)
  obtain ⟨c, c1, c2, _⟩ := first_mn (l := ws.getD h 0) (ws := ws.drop (h + 1)) (by rw [← drop_cons' hl]; exact hw.dropN h)
  rw [← drop_cons' hl] at c2
  have ch : cnt ws h = c := c2
  by_cases turn : ws.getD (h + 1) 0 = -1
  · -- k ≥ 2
    have k3 : 2 ≤ k := by
      rcases Nat.lt_or_ge 1 k with z | z
      · exact z
      · exact absurd (.inr ⟨by omega, turn, fun i a b => by omega⟩) (n2 1 z (by omega))
    obtain ⟨m, rfl⟩ : ∃ m, k = m + 2 := ⟨k - 2, by omega⟩
    have zeros : ∀ i, h + 1 < i → i < h + 1 + (m + 1) → ws.getD i 0 = 0 := fun i a b => by
      rcases n1 (m + 1) (by omega) with z | ⟨_, _, z⟩
      · omega
      · exact z i a b
    have hP : h + 1 + (m + 1) ≤ ws.length - 1 := by
      rcases Nat.lt_or_ge (ws.length - 1) (h + 1 + (m + 1)) with z | z
      · have lz : h + 1 < ws.length - 1 := by
          rcases Nat.lt_or_ge (h + 1) (ws.length - 1) with y | y
          · exact y
          · rw [show ws.length - 1 = h + 1 by omega] at hlD; omega
        have := zeros (ws.length - 1) lz z
        omega
      · exact z
    have hPl : h + 1 + (m + 1) < ws.length := by omega
    have nz : ws.getD (h + 1 + (m + 1)) 0 ≠ 0 := fun z => by
      refine n2 (m + 2) (Nat.le_refl _) (by omega) (.inr ⟨by omega, turn, fun i a b => ?_⟩)
      by_cases y : i = h + 1 + (m + 1)
      · rw [y]; exact z
      · exact zeros i a (by omega)
    obtain ⟨a, b, o1, o2, o3, o4⟩ := head_nonzero (l := ws.getD (h + 1 + (m + 1)) 0) (t := ws.drop (h + 1 + (m + 1) + 1)) (by rw [← drop_cons' hPl]; exact hw.dropN _) (by rw [← drop_cons' hPl]; exact neD _ hPl) nz
    rw [← drop_cons' hPl] at o1 o3
    have zd : ∀ d, d ≤ m → ord2 (ws.drop (h + 1 + (m + 1) - d)) = (some a, some (b + d * a)) := by
      intro d
      induction d with
      | zero => intro _; rw [Nat.zero_mul]; exact o1
      | succ d ih =>
        intro hd
        have ih := ih (by omega)
        have lt : h + 1 + (m + 1) - (d + 1) < ws.length := by omega
        rw [drop_cons' lt, zeros _ (by omega) (by omega), show h + 1 + (m + 1) - (d + 1) + 1 = h + 1 + (m + 1) - d by omega, ord2, ih]
        unfold stepO
        rw [if_neg (by decide), if_pos rfl]
        show (some a, some (a + (b + d * a))) = _
        rw [Nat.succ_mul]
        congr 2
        omega
    have e1 : ord2 (ws.drop (h + 1)) = (some (a + (b + m * a)), some a) := by
      have := zd m (Nat.le_refl m)
      rw [show h + 1 + (m + 1) - m = h + 1 + 1 by omega] at this
      rw [drop_cons' hl3, turn, ord2, this]
      unfold stepO
      rw [if_pos rfl]; rfl
    have f0 : cnt ws (h + 1) = a := by
      show mn (ord2 (ws.drop (h + 1))) = a
      rw [e1]
      show (if a < a + (b + m * a) then a else a + (b + m * a)) = a
      rw [if_pos (by omega)]
    have f1 : ∀ j, j < m + 1 → cnt ws (h + 1 + j) = a := fun j hj => by
      by_cases z : j = 0
      · rw [z]; exact f0
      · have := zd (m + 1 - j) (by omega)
        rw [show h + 1 + (m + 1) - (m + 1 - j) = h + 1 + j by omega] at this
        show mn (ord2 (ws.drop (h + 1 + j))) = a
        rw [this]
        obtain ⟨d, hd⟩ : ∃ d, m + 1 - j = d + 1 := ⟨m - j, by omega⟩
        rw [hd, Nat.succ_mul]
        show (if b + (d * a + a) < a then b + (d * a + a) else a) = a
        rw [if_neg (by omega)]
    have f2 : cnt ws (h + 1 + (m + 1)) = b := o3
    refine ⟨m + 2, by omega, by omega, e, fun j hj => by rw [f1 j (by omega), f0], ?_⟩
    rw [sum_rep (m + 1) a b (fun j => cnt ws (h + 1 + j)) f1 f2, ch]
    have : c = a + (b + m * a) := by rw [e1] at c1; exact (Option.some.inj c1).symm
    rw [this, Nat.succ_mul]
    congr 1
    omega
  · -- no turn: one point
    have k3 : k = 1 := by
      rcases Nat.lt_or_ge 1 k with z | z
      · rcases n1 1 z with y | ⟨_, y, _⟩
        · omega
        · exact absurd y turn
      · omega
    subst k3
    refine ⟨1, Nat.le_refl 1, by omega, e, fun j hj => by omega, ?_⟩
    show ([((cnt ws (h + 1 + 0) : Nat) : Int)] : List Int).sum = _
    rw [List.sum_cons, List.sum_nil, Int.add_zero, ch]
    congr 1
    show mn (ord2 (ws.drop (h + 1))) = c
    obtain ⟨a, a1, a2, _⟩ := first_mn (l := ws.getD (h + 1) 0) (ws := ws.drop (h + 1 + 1)) (by rw [← drop_cons' hl3]; exact hw.dropN _)
    rw [← drop_cons' hl3] at a2
    rw [a2]
    rw [drop_cons' hl3, ord2] at c1
    unfold stepO at c1
    rw [if_neg turn] at c1
    have : (ord2 (ws.drop (h + 1 + 1))).1 = some c := by
      split at c1 <;> exact c1
    rw [a1] at this
    exact Option.some.inj this
/-- divisions with remainders -/
theorem divided : ∀ (t : List Int), Wd t → ∀ x y, ord2 t = (some x, some y) → (if y > x then y else x) % (if y < x then y else x) ≠ 0 →
    (if y > x then y else x) / (if y < x then y else x) < t.length ∧ (∀ i, i < (if y > x then y else x) / (if y < x then y else x) → mn (ord2 (t.drop i)) = (if y < x then y else x)) ∧
      mn (ord2 (t.drop ((if y > x then y else x) / (if y < x then y else x)))) = (if y > x then y else x) % (if y < x then y else x)
  | [], _, x, y, e, _ => by cases e
  | l :: u, hw, x, y, e, hr => by
    have hp := ord_pos u
    have hf := ord_first hw
    have t1 : l :: u ≠ [-1] := fun z => by
      rw [z] at e
      cases e
    cases e2 : ord2 u with
    | mk o1 o2 =>
      rw [e2] at hp hf
      rw [ord2, e2] at e
      cases o1 with
      | none => cases hf
      | some a =>
        have ha : 1 ≤ a := hp.1 a rfl
        unfold stepO at e
        by_cases l1 : l = -1
        · rw [if_pos l1] at e
          cases o2 with
          | none => cases e
          | some b =>
            have hb : 1 ≤ b := hp.2 b rfl
            have ex : x = a + b ∧ y = a := by
              have := Prod.mk.inj e
              exact ⟨(Option.some.inj this.1).symm, (Option.some.inj this.2).symm⟩
            obtain ⟨rfl, rfl⟩ := ex
            rw [if_neg (by omega), if_pos (by omega)] at hr ⊢
            exact divided_step hw ha hb e2 (by rw [ord2, e2]; unfold stepO; rw [if_pos l1]; show (if y < y + b then y else y + b) = y; rw [if_pos (by omega)]) hr (fun hw' h => divided u hw' _ _ e2 h)
        · rw [if_neg l1] at e
          by_cases l0 : l = 0
          · rw [if_pos l0] at e
            cases o2 with
            | none => cases e
            | some b =>
              have hb : 1 ≤ b := hp.2 b rfl
              have ex : x = a ∧ y = a + b := by
                have := Prod.mk.inj e
                exact ⟨(Option.some.inj this.1).symm, (Option.some.inj this.2).symm⟩
              obtain ⟨rfl, rfl⟩ := ex
              rw [if_pos (by omega), if_neg (by omega)] at hr ⊢
              exact divided_step hw ha hb e2 (by rw [ord2, e2]; unfold stepO; rw [if_neg l1, if_pos l0]; show (if x + b < x then x + b else x) = x; rw [if_neg (by omega)]) hr (fun hw' h => divided u hw' _ _ e2 h)
          · rw [if_neg l0] at e
            have ex : x = a ∧ y = a := by
              have := Prod.mk.inj e
              exact ⟨(Option.some.inj this.1).symm, (Option.some.inj this.2).symm⟩
            obtain ⟨rfl, rfl⟩ := ex
            rw [if_neg (Nat.lt_irrefl _)] at hr
            exact absurd (Nat.mod_self _) hr
where
  divided_step {l : Int} {u : List Int} {a b : Nat} (hw : Wd (l :: u)) (ha : 1 ≤ a) (hb : 1 ≤ b) (e2 : ord2 u = (some a, some b)) (h0 : mn (ord2 (l :: u)) = a) (hr : (a + b) % a ≠ 0)
      (ih : Wd u → (if b > a then b else a) % (if b < a then b else a) ≠ 0 →
        (if b > a then b else a) / (if b < a then b else a) < u.length ∧ (∀ i, i < (if b > a then b else a) / (if b < a then b else a) → mn (ord2 (u.drop i)) = (if b < a then b else a)) ∧
          mn (ord2 (u.drop ((if b > a then b else a) / (if b < a then b else a)))) = (if b > a then b else a) % (if b < a then b else a)) :
      (a + b) / a < (l :: u).length ∧ (∀ i, i < (a + b) / a → mn (ord2 ((l :: u).drop i)) = a) ∧ mn (ord2 ((l :: u).drop ((a + b) / a))) = (a + b) % a := by
    have q1 : (a + b) / a = b / a + 1 := by rw [Nat.add_comm, Nat.add_div_right _ ha]
    have q2 : (a + b) % a = b % a := by rw [Nat.add_comm, Nat.add_mod_right]
    rw [q2] at hr
    rw [q1, q2]
    have ul : 0 < u.length := by
      cases u with
      | nil => cases e2
      | cons _ _ => simp
    by_cases lt : b < a
    · have d0 : b / a = 0 := Nat.div_eq_of_lt lt
      have m0 : b % a = b := Nat.mod_eq_of_lt lt
      rw [d0, m0]
      refine ⟨by simp; omega, fun i hi => ?_, ?_⟩
      · have : i = 0 := by omega
        subst this
        exact h0
      · show mn (ord2 u) = b
        rw [e2]
        show (if b < a then b else a) = b
        rw [if_pos lt]
    · have gt : b > a := by
        rcases Nat.lt_or_ge a b with z | z
        · exact z
        · rw [show b = a by omega, Nat.mod_self] at hr
          exact absurd rfl hr
      rw [if_pos gt, if_neg lt] at ih
      obtain ⟨i1, i2, i3⟩ := ih hw.tail hr
      refine ⟨by simp; exact i1, fun i hi => ?_, ?_⟩
      · cases i with
        | zero => exact h0
        | succ i => exact i2 i (by omega)
      · exact i3
theorem ord_small : ∀ ws : List Int, (∀ n, (ord2 ws).1 = some n → n ≤ 2 ^ ws.length) ∧ ∀ n, (ord2 ws).2 = some n → n ≤ 2 ^ ws.length
  | [] => ⟨fun n h => by cases h; decide, fun n h => by cases h⟩
  | l :: ws => by
    obtain ⟨h1, h2⟩ := ord_small ws
    have hs : 2 ^ (l :: ws).length = 2 ^ ws.length + 2 ^ ws.length := by rw [List.length_cons, Nat.pow_succ]; omega
    rw [hs]
    have ha : ∀ n, addO (ord2 ws).1 (ord2 ws).2 = some n → n ≤ 2 ^ ws.length + 2 ^ ws.length := by
      intro n h
      cases e1 : (ord2 ws).1 with
      | none => rw [e1] at h; cases h
      | some a => cases e2 : (ord2 ws).2 with
        | none => rw [e1, e2] at h; cases h
        | some b =>
          rw [e1, e2] at h
          have := h1 a e1
          have := h2 b e2
          have : a + b = n := Option.some.inj h
          omega
    have hb : ∀ n, (ord2 ws).1 = some n → n ≤ 2 ^ ws.length + 2 ^ ws.length := fun n h => by have := h1 n h; omega
    rw [ord2]
    unfold stepO
    split
    · exact ⟨ha, hb⟩
    · split
      · exact ⟨hb, ha⟩
      · exact ⟨hb, hb⟩
end LE2

set_option Elab.async false
set_option maxRecDepth 100000
set_option maxHeartbeats 4000000
set_option exponentiation.threshold 2000
/-! LF: points on branches, near points. -/
namespace LF
open PySem PySem.Spec PyProof.Rows L2 L3 LD LN LP LO LB LC LE2
local macro_rules | `(tactic| walk_at "ev") => `(tactic| repeat (first | refine lc_stop ?_ | refine for_stop ?_ | refine ⟨_, rfl, ?_⟩ | refine ⟨_, _, rfl, ?_⟩ | refine ⟨rfl, ?_⟩ | refine And.intro (by assumption) ?_ | refine ⟨by decide, ?_⟩ | refine ⟨ltL rfl, ?_⟩ | refine ⟨_, at0, ?_⟩ | refine ⟨_, at1, ?_⟩ | refine ⟨_, at2, ?_⟩ | refine ifT ?_ | refine ifF ?_ | refine ⟨_, _, _, rfl, ?_⟩ | refine ⟨⟨_, rfl⟩, ?_⟩ | refine ⟨_, _, _, _, rfl, ?_⟩))
def zi (l : List Nat) : List Int := l.map fun n => ((n : Nat) : Int)
theorem map_zi (l : List Nat) : (zi l).map D.int = l.map fun n => D.int ((n : Nat) : Int) := by
  unfold zi
  rw [List.map_map]
  rfl
theorem ifNR {d : D} {A C : Prop} (h : D.eqv d d = true) (hc : C) : if (!D.eqv d d) = true then A else C := by rw [h]; exact hc
theorem ifER {d : D} {A C : Prop} (h : D.eqv d d = true) (hc : A) : if D.eqv d d = true then A else C := by rw [h]; exact hc
theorem eqv_ptR (xs : List Int) : D.eqv (pt xs) (pt xs) = true := by rw [eqv_pt]; simp
theorem eqv_lsR (xs : List Int) : D.eqv (.lst (xs.map D.int)) (.lst (xs.map D.int)) = true := by rw [eqv_ints]; simp
theorem eqv_intR (x : Int) : D.eqv (.int x) (.int x) = true := by rw [eqv_int]; simp
theorem fmap_sel {α : Type} {f : D → Option D} {g h : α → D} {p : α → Bool} : ∀ {l : List α}, (∀ y ∈ l, f (g y) = if p y then some (h y) else none) → (l.map g).filterMap f = (l.filter p).map h
  | [], _ => rfl
  | y :: l, e => by
    have r := fmap_sel (l := l) fun z hz => e z (List.mem_cons_of_mem _ hz)
    have e1 := e y List.mem_cons_self
    cases hp : p y with
    | true =>
      rw [hp, if_pos rfl] at e1
      rw [List.map_cons, List.filterMap_cons_some e1, r, List.filter_cons_of_pos hp, List.map_cons]
    | false =>
      rw [hp, if_neg Bool.false_ne_true] at e1
      rw [List.map_cons, List.filterMap_cons_none e1, r, List.filter_cons_of_neg (by rw [hp]; exact Bool.false_ne_true)]
theorem rep00 (n : Nat) : (List.replicate n [D.int 0]).flatten = (List.replicate n (0 : Int)).map D.int := rep1 n 0
theorem mem_rangeD {n : Nat} {d : D} (h : d ∈ rangeD 0 n) : ∃ k : Nat, d = .int (k : Int) ∧ k < n := by
  unfold rangeD at h
  obtain ⟨k, hk, e⟩ := List.mem_map.mp h
  rw [List.mem_range] at hk
  exact ⟨k, by rw [← e, Int.zero_add], hk⟩
theorem flat_eq (ws : List Int) (n : Nat) : flat ws n = ws.take n ++ List.replicate (n - ws.length) 0 := by
  apply List.ext_getElem
  · rw [flat_len, List.length_append, List.length_take, List.length_replicate]; omega
  · intro i h1 h2
    rw [flat_len] at h1
    have e1 := flat_getD (ws := ws) (n := n) (i := i) h1 0
    rw [List.getD_eq_getElem?_getD, List.getElem?_eq_getElem (by rw [flat_len]; exact h1)] at e1
    rw [List.getElem_append]
    refine (show (flat ws n)[i]'(by rw [flat_len]; exact h1) = ws.getD i 0 from e1).trans ?_
    split
    · rename_i z
      rw [List.length_take] at z
      rw [List.getElem_take, List.getD_eq_getElem?_getD, List.getElem?_eq_getElem (by omega)]; rfl
    · rename_i z
      rw [List.length_take] at z
      rw [List.getElem_replicate, List.getD_eq_getElem?_getD, List.getElem?_eq_none (by omega)]; rfl
/-! ### promises -/
def sp_require_count : DSp := fun ds G q _ => ∃ v lo hi : Int, ds = [.int v, .int lo, .int hi] ∧ lo ≤ v ∧ v ≤ hi ∧ Lim v ∧ q (.val .non) G
def sp_Branch_prime : DSp := fun ds G q _ => ∃ (p : Int) (ws : List Int) (s : Str), ds = [br p ws s] ∧ q (.val (.int p)) G
def sp_point_on : DSp := fun ds G q _ => ∃ (ws : List Int) (n : Nat), ds = [pt ws, .int (n : Nat)] ∧ ws.length ≤ 60 ∧ n ≤ 1000 ∧ q (.val (pt (flat ws n))) G
def sp_Branch_point_at : DSp := fun ds G q _ => ∃ (p : Int) (ws : List Int) (s : Str) (n : Nat), ds = [br p ws s, .int (n : Nat)] ∧ ws.length ≤ 60 ∧ n ≤ 60 ∧ q (.val (pt (flat ws n))) G
def sp_is_near : DSp := fun ds G q _ => ∃ (p : Int) (ws ys : List Int), ds = [.int p, pt ws, pt ys] ∧ Pr p ∧ Pt p ws ∧ Pt p ys ∧ q (.val (.bl (decide (ys ∈ nears ws)))) G
def sp__law_flat : DSp := fun ds G q _ => ∃ (ws : List Int) (n : Nat), ds = [pt ws, .int (n : Nat)] ∧ ws.length ≤ 60 ∧ n ≤ 1000 ∧ q (.val (pt (flat ws n))) G
theorem len_require_count : ∀ ds G q e, sp_require_count ds G q e → ds.length = 3 := fun ds G q e ⟨_, _, _, h, _⟩ => by rw [h]; rfl
theorem len_Branch_prime : ∀ ds G q e, sp_Branch_prime ds G q e → ds.length = 1 := fun ds G q e ⟨_, _, _, h, _⟩ => by rw [h]; rfl
theorem len_point_on : ∀ ds G q e, sp_point_on ds G q e → ds.length = 2 := fun ds G q e ⟨_, _, h, _⟩ => by rw [h]; rfl
theorem len_Branch_point_at : ∀ ds G q e, sp_Branch_point_at ds G q e → ds.length = 2 := fun ds G q e ⟨_, _, _, _, h, _⟩ => by rw [h]; rfl
theorem len_is_near : ∀ ds G q e, sp_is_near ds G q e → ds.length = 3 := fun ds G q e ⟨_, _, _, h, _⟩ => by rw [h]; rfl
theorem len__law_flat : ∀ ds G q e, sp__law_flat ds G q e → ds.length = 2 := fun ds G q e ⟨_, _, h, _⟩ => by rw [h]; rfl
/-! ### readings (as gen.py prints them) -/
def t_require_count (dw : Exc3 → Reg → Prop) : DSt :=
  (dIfS (dOr (dNot (dTest (dCall sp_is_integer (fun x _ G => dw x G) (dCons (dVar 0) dNil)))) (dNot (dTest (dChain oLe oLe (dVar 1) (dVar 0) (dVar 2))))) dNever dNext)
def t_Branch_prime (dw : Exc3 → Reg → Prop) : DSt :=
  (dRet (dAttr [("Branch", 0)] (dVar 0)))
def t_point_on (dw : Exc3 → Reg → Prop) : DSt :=
  (dRet (dTup (dStar (dSl oSl (dVar 0) dNoPart (dPart (dVar 1))) (dStar (dLc (dRng2 (dCons (dCB bLen (dPCons (dVar 0) dNil)) (dCons (dVar 1) dNil))) (gNm 2) dYes (dC (.int 0)) [2]) dNil))))
def t_Branch_point_at (dw : Exc3 → Reg → Prop) : DSt :=
  (dSeq (dDrop (dCall sp_require_count (fun x _ G => dw x G) (dCons (dVar 1) (dCons (dC (.int 0)) (dCons (dC (.int (60))) dNil)))))
    (dRet (dCall sp_point_on (fun x _ G => dw x G) (dCons (dAttr [("Branch", 2)] (dVar 0)) (dCons (dVar 1) dNil)))))
def t_is_near (dw : Exc3 → Reg → Prop) : DSt :=
  (dSeq (dDrop (dCall sp_require_point (fun x _ G => dw x G) (dCons (dVar 0) (dCons (dVar 1) dNil))))
    (dSeq (dDrop (dCall sp_require_point (fun x _ G => dw x G) (dCons (dVar 0) (dCons (dVar 2) dNil))))
    (dRet (dOp (oIn false) (dVar 2) (dCall sp_nears_of (fun x _ G => dw x G) (dCons (dVar 1) dNil))))))
def t__law_flat (dw : Exc3 → Reg → Prop) : DSt :=
  (dRet (dSl oSl (dOp oAdd (dCB bTuple (dPCons (dVar 0) dNil)) (dOp oMul (dTup (dCons (dC (.int 0)) dNil)) (dVar 1))) dNoPart (dPart (dVar 1))))
/-! ### the walks -/
theorem p_require_count (N : List Str) (hN : N.length = 3) : ∀ ds G q dw, sp_require_count ds G q dw → t_require_count dw { nx := fun _ G' => q (.val .non) G', rt := q } (start3 N ds) G := by
  intro ds G q dw h
  unfold t_require_count start3
  rw [hN]
  obtain ⟨v, lo, hi, rfl, h1, h2, h3, h⟩ := h
  walk_at "ev"
  refine ifD (fun _ => ?_) (fun z => absurd h1 z)
  walk_at "ev"
  show if (!decide (v ≤ hi)) = true then _ else _
  rw [decide_eq_true h2]
  walk_at "ev"
  exact h
theorem p_Branch_prime (N : List Str) (hN : N.length = 1) : ∀ ds G q dw, sp_Branch_prime ds G q dw → t_Branch_prime dw { nx := fun _ G' => q (.val .non) G', rt := q } (start3 N ds) G := by
  intro ds G q dw h
  unfold t_Branch_prime start3
  rw [hN]
  obtain ⟨p, ws, s, rfl, h⟩ := h
  walk_at "ev"
  exact h
theorem p_point_on (N : List Str) (hN : N.length = 3) : ∀ ds G q dw, sp_point_on ds G q dw → t_point_on dw { nx := fun _ G' => q (.val .non) G', rt := q } (start3 N ds) G := by
  intro ds G q dw h
  unfold t_point_on start3
  rw [hN]
  obtain ⟨ws, n, rfl, h60, hn, h⟩ := h
  walk_at "ev"
  refine ⟨⟨by rw [List.length_map]; omega, by rw [List.length_map]; omega, by omega, by omega⟩, ?_⟩
  rw [show ((n : Int) - ((ws.map D.int).length : Int)).toNat = n - ws.length by rw [List.length_map]; omega]
  refine ⟨by rw [rangeD_len, sizeLine_eq]; omega, ?_⟩
  refine lc_pure0 (fun d => True) (fun _ => some (.int 0)) (fun d k1 k2 hd h1 h2 => ?_) (fun d hd => trivial) ?_
  · walk_at "ev"
    exact h1 _ _ rfl rfl
  · have e : (rangeD ((ws.map D.int).length : Int) (n - ws.length)).filterMap (fun _ => some (D.int 0)) = (List.replicate (n - ws.length) (0 : Int)).map D.int := by
      rw [fmap_all (g := fun _ => D.int 0) (fun _ _ => rfl)]
      unfold rangeD
      rw [List.map_map, List.map_replicate]
      apply List.ext_getElem
      · rw [List.length_map, List.length_range, List.length_replicate]
      · intro i h1 h2
        rw [List.getElem_map, List.getElem_replicate]; rfl
    rw [e]
    walk_at "ev"
    have ec : cutD (ws.map D.int) none (some (n : Int)) ++ ((List.replicate (n - ws.length) (0 : Int)).map D.int ++ []) = (flat ws n).map D.int := by
      rw [cut_ints, List.append_nil, ← List.map_append, flat_eq]
    show _ ≤ sizeLine ∧ _
    refine ⟨?_, ?_⟩
    · show (cutD (ws.map D.int) none (some (n : Int)) ++ ((List.replicate (n - ws.length) (0 : Int)).map D.int ++ [])).length ≤ sizeLine
      rw [ec, List.length_map, flat_len, sizeLine_eq]; omega
    · walk_at "ev"
      show q (.val (.tup (cutD (ws.map D.int) none (some (n : Int)) ++ ((List.replicate (n - ws.length) (0 : Int)).map D.int ++ [])))) G
      rw [ec]
      exact h
theorem p_Branch_point_at (N : List Str) (hN : N.length = 2) : ∀ ds G q dw, sp_Branch_point_at ds G q dw → t_Branch_point_at dw { nx := fun _ G' => q (.val .non) G', rt := q } (start3 N ds) G := by
  intro ds G q dw h
  unfold t_Branch_point_at start3
  rw [hN]
  obtain ⟨p, ws, s, n, rfl, h60, hn, h⟩ := h
  have hn2 : n ≤ 1000 := by omega
  walk_at "ev"
  refine ⟨by omega, by omega, by unfold Lim; omega, ?_⟩
  walk_at "ev"
  exact h
theorem p_is_near (N : List Str) (hN : N.length = 3) : ∀ ds G q dw, sp_is_near ds G q dw → t_is_near dw { nx := fun _ G' => q (.val .non) G', rt := q } (start3 N ds) G := by
  intro ds G q dw h
  unfold t_is_near start3
  rw [hN]
  obtain ⟨p, ws, ys, rfl, hp, hw, hy, h⟩ := h
  walk_at "ev"
  refine ⟨sh_pt _, sh_tpts _, ?_⟩
  walk_at "ev"
  exact qB (q := q) h (among_pts _ _)
theorem p__law_flat (N : List Str) (hN : N.length = 2) : ∀ ds G q dw, sp__law_flat ds G q dw → t__law_flat dw { nx := fun _ G' => q (.val .non) G', rt := q } (start3 N ds) G := by
  intro ds G q dw h
  unfold t__law_flat start3
  rw [hN]
  obtain ⟨ws, n, rfl, h60, hn, h⟩ := h
  walk_at "ev"
  refine ⟨by omega, by omega, by decide, ?_⟩
  rw [Int.toNat_natCast, rep00]
  walk_at "ev"
  refine ⟨by rw [List.length_map, List.length_map, List.length_replicate, sizeLine_eq]; omega, ?_⟩
  walk_at "ev"
  show q (.val (.tup (cutD (ws.map D.int ++ (List.replicate n (0 : Int)).map D.int) none (some (n : Int))))) G
  rw [← List.map_append, cut_ints]
  exact h
end LF

set_option Elab.async false
set_option maxRecDepth 100000
set_option maxHeartbeats 4000000
/-! K22: what each def promises -/
namespace K22
open PySem PySem.Spec PyProof.Rows L2 L3 LD LN LP LO LB LC LE2 LF
/-- the counts that the law goes by -/
def cs (ws : List Int) : List Int := cto ws (ws.length + 2)
def sp__law_spots_near : DSp := fun ds G q _ => ∃ (ws : List Int) (h m : Nat), ds = [pt ws, .int (h : Nat), .int (m : Nat)] ∧ ws.length ≤ 40 ∧ h ≤ 50 ∧ m ≤ 60 ∧ q (.fr ((zi (spots ws h m)).map D.int)) G
def sp__law_place_right : DSp := fun ds G q _ => ∃ (p : Int) (ws : List Int) (s : Str) (h : Nat), ds = [br p ws s, pt ws, .int (h : Nat), .lst ((cs ws).map D.int)] ∧ Pr p ∧ Pt p ws ∧ ws.length ≤ 40 ∧ Wd ws ∧ ws ≠ [-1] ∧ (-1 : Int) ∈ ws.drop h ∧ tru q G
def sp__law_divided_right : DSp := fun ds G q _ => ∃ (p : Int) (ws : List Int) (s : Str), ds = [br p ws s, pt ws, .lst ((cs ws).map D.int)] ∧ ws.length ≤ 40 ∧ Wd ws ∧ tru q G
def sp__law_right : DSp := fun ds G q _ => ∃ (a : Addr) (R : Reg), ds = [.ref a] ∧ Dice a R G ∧ ∀ G', Dice a R G' → tru q G'
def sp_law : DSp := fun ds G q _ => ∃ ns : List Int, ds = [.scr ns] ∧ ns.length ≤ 63 ∧ ∀ G', tru q G'
theorem len__law_spots_near : ∀ ds G q e, sp__law_spots_near ds G q e → ds.length = 3 := fun ds G q e ⟨_, _, _, h, _⟩ => by rw [h]; rfl
theorem len__law_place_right : ∀ ds G q e, sp__law_place_right ds G q e → ds.length = 4 := fun ds G q e ⟨_, _, _, _, h, _⟩ => by rw [h]; rfl
theorem len__law_divided_right : ∀ ds G q e, sp__law_divided_right ds G q e → ds.length = 3 := fun ds G q e ⟨_, _, _, h, _⟩ => by rw [h]; rfl
theorem len__law_right : ∀ ds G q e, sp__law_right ds G q e → ds.length = 1 := fun ds G q e ⟨_, _, h, _⟩ => by rw [h]; rfl
theorem len_law : ∀ ds G q e, sp_law ds G q e → ds.length = 1 := fun ds G q e ⟨_, h, _⟩ => by rw [h]; rfl
theorem law_holds : ∀ ns : List Int, ns.length ≤ 63 → sp_law [.scr ns] [] (fun r _ => r = .val (.bl true)) fun _ _ => False := fun ns h => ⟨ns, rfl, h, fun _ => rfl⟩
end K22

set_option Elab.async false
set_option maxRecDepth 100000
set_option maxHeartbeats 4000000
/-! K22: the plain readings (printed by gen.py) -/
namespace K22
open PySem PySem.Spec PyProof.Rows L2 L3 LD LN LP LO LB LC LE2 LF
def t__law_spots_near (dw : Exc3 → Reg → Prop) : DSt :=
  (dSeq (dPar 3 4 (dCall sp__law_flat (fun x _ G => dw x G) (dCons (dVar 0) (dCons (dVar 1) dNil))) (dLst dNil))
    (dSeq (dFor (dRng2 (dCons (dOp oAdd (dVar 1) (dC (.int 1))) (dCons (dOp oAdd (dVar 2) (dC (.int 1))) dNil))) (gNm 5) (dIfS (dTest (dOp (oIn false) (dVar 3) (dCall sp__law_nears (fun x _ G => dw x G) (dCons (dCall sp__law_flat (fun x _ G => dw x G) (dCons (dVar 0) (dCons (dVar 5) dNil))) dNil)))) (dDrop (dApp 4 (dVar 5))) dNext))
    (dRet (dVar 4))))
def t__law_place_right (dw : Exc3 → Reg → Prop) : DSt :=
  (dSeq (dPar 4 5 (dCall sp__law_flat (fun x _ G => dw x G) (dCons (dVar 1) (dCons (dVar 2) dNil))) (dLst dNil))
    (dSeq (dFor (dRng2 (dCons (dOp oAdd (dVar 2) (dC (.int 1))) (dCons (dOp oAdd (dCB bLen (dPCons (dVar 1) dNil)) (dC (.int 2))) dNil))) (gNm 6) (dSeq (dSet 7 (dCall sp__law_flat (fun x _ G => dw x G) (dCons (dVar 1) (dCons (dVar 6) dNil))))
    (dIfS (dAnd (dTest (dOp oLe (dCB bLen (dPCons (dVar 7) dNil)) (dC (.int 60)))) (dTest (dCall sp_is_near (fun x _ G => dw x G) (dCons (dProp "Branch" sp_Branch_prime (dVar 0)) (dCons (dVar 7) (dCons (dVar 4) dNil)))))) (dDrop (dApp 5 (dVar 6))) dNext)))
    (dSeq (dIfS (dOr (dTest (dOp oNe (dVar 5) (dCall sp__law_spots_near (fun x _ G => dw x G) (dCons (dVar 1) (dCons (dVar 2) (dCons (dCB bMin (dPCons (dC (.int 60)) (dPCons (dOp oAdd (dCB bLen (dPCons (dVar 1) dNil)) (dC (.int 1))) dNil))) dNil)))))) (dTest (dOp oNe (dVar 5) (dLstRg (dOp oAdd (dVar 2) (dC (.int 1))) (dOp oAdd (dOp oAdd (dVar 2) (dC (.int 1))) (dCB bLen (dPCons (dVar 5) dNil))))))) (dRet (dC (.bl false))) dNext)
    (dSeq (dSet 8 (dLc (dIter (dVar 5)) (gNm 6) dYes (dOp oIx (dVar 3) (dVar 6)) [6]))
    (dSeq (dIfS (dOr (dTest (dOp oNe (dLc (dIter (dSl oSl (dVar 8) dNoPart (dPart (dUn uNeg (dC (.int 1)))))) (gNm 9) (dTest (dOp oNe (dVar 9) (dOp oIx (dVar 8) (dC (.int 0))))) (dC (.int 1)) [9]) (dLst dNil))) (dAnd (dTest (dOp oNe (dVar 8) (dLst dNil))) (dTest (dOp oGt (dOp oIx (dVar 8) (dUn uNeg (dC (.int 1)))) (dOp oIx (dVar 8) (dC (.int 0))))))) (dRet (dC (.bl false))) dNext)
    (dRet (dOrV (dOp oEq (dCB bSum (dPCons (dVar 8) dNil)) (dOp oIx (dVar 3) (dVar 2))) (dOp oGt (dOp oAdd (dVar 2) (dC (.int 1))) (dC (.int 60))))))))))
def t__law_divided_right (dw : Exc3 → Reg → Prop) : DSt :=
  (dSeq (dFor (dRng1 (dCons (dCB bLen (dPCons (dVar 1) dNil)) dNil)) (gNm 3) (dSeq (dAsg (dCall sp_orders_at (fun x _ G => dw x G) (dCons (dVar 0) (dCons (dVar 3) dNil))) (gTp 2 (gsCons (gNm 4) (gsCons (gNm 5) gsNil))))
    (dIfS (dAnd (dTest (dOp (oIs true) (dVar 4) (dC .non))) (dAnd (dTest (dOp (oIs true) (dVar 5) (dC .non))) (dAnd (dTest (dOp oGt (dVar 4) (dC (.int 0)))) (dTest (dOp oNe (dOp oMod (dCB bIntOf (dPCons (dCB bMax (dPCons (dVar 4) (dPCons (dVar 5) dNil))) dNil)) (dCB bMin (dPCons (dVar 4) (dPCons (dVar 5) dNil)))) (dC (.int 0))))))) (dSeq (dSet 6 (dOp oFdiv (dCB bMax (dPCons (dVar 4) (dPCons (dVar 5) dNil))) (dCB bMin (dPCons (dVar 4) (dPCons (dVar 5) dNil)))))
    (dSeq (dIfS (dTest (dOp oNe (dSl oSl (dVar 2) (dPart (dVar 3)) (dPart (dOp oAdd (dVar 3) (dVar 6)))) (dOp oMul (dLst (dCons (dCB bMin (dPCons (dVar 4) (dPCons (dVar 5) dNil))) dNil)) (dVar 6)))) (dRet (dC (.bl false))) dNext)
    (dIfS (dTest (dOp oNe (dOp oIx (dVar 2) (dOp oAdd (dVar 3) (dVar 6))) (dOp oMod (dCB bIntOf (dPCons (dCB bMax (dPCons (dVar 4) (dPCons (dVar 5) dNil))) dNil)) (dCB bMin (dPCons (dVar 4) (dPCons (dVar 5) dNil)))))) (dRet (dC (.bl false))) dNext))) dNext)))
    (dRet (dC (.bl true))))
def t__law_right (dw : Exc3 → Reg → Prop) : DSt :=
  (dSeq (dSet 1 (dCall sp__law_prime_of (fun x _ G => dw x G) (dCons (dVar 0) dNil)))
    (dSeq (dSet 2 (dCall sp__law_word_drawn (fun x _ G => dw x G) (dCons (dVar 0) (dCons (dVar 1) (dCons (dCall sp__law_pick (fun x _ G => dw x G) (dCons (dVar 0) (dCons (dLst (dCons (dC (.int 4)) (dCons (dC (.int 9)) (dCons (dC (.int 20)) (dCons (dC (.int 40)) dNil))))) dNil))) dNil)))))
    (dSeq (dSet 3 (dMake "Branch" sp_Branch_init (dCons (dVar 1) (dCons (dVar 2) dNil))))
    (dSeq (dSet 4 (dCB bList (dPCons (dCall sp_counts_of (fun x _ G => dw x G) (dCons (dVar 3) (dCons (dOp oAdd (dCB bLen (dPCons (dVar 2) dNil)) (dC (.int 1))) dNil))) dNil)))
    (dSeq (dFor (dRng1 (dCons (dOp oAdd (dCB bLen (dPCons (dVar 2) dNil)) (dC (.int 1))) dNil)) (gNm 5) (dIfS (dAnd (dTest (dOp (oIn false) (dUn uNeg (dC (.int 1))) (dSl oSl (dVar 2) (dPart (dVar 5)) dNoPart))) (dAnd (dTest (dOp oNe (dVar 2) (dTup (dCons (dUn uNeg (dC (.int 1))) dNil)))) (dNot (dTest (dCall sp__law_place_right (fun x _ G => dw x G) (dCons (dVar 3) (dCons (dVar 2) (dCons (dVar 5) (dCons (dVar 4) dNil))))))))) (dRet (dC (.bl false))) dNext))
    (dSeq (dSet 6 (dLc (dEnumA (dCons (dVar 2) dNil)) (gTp 2 (gsCons (gNm 8) (gsCons (gNm 9) gsNil))) (dTest (dOp oEq (dVar 9) (dUn uNeg (dC (.int 1))))) (dVar 8) [8, 9]))
    (dSeq (dIfS (dAnd (dTest (dOp oNe (dVar 6) (dLst dNil))) (dTest (dOp oNe (dVar 2) (dTup (dCons (dUn uNeg (dC (.int 1))) dNil))))) (dSeq (dSet 7 (dLc (dRng2 (dCons (dOp oAdd (dOp oIx (dVar 6) (dUn uNeg (dC (.int 1)))) (dC (.int 1))) (dCons (dCB bLen (dPCons (dVar 2) dNil)) dNil))) (gNm 8) (dTest (dOp oNe (dOp oIx (dVar 2) (dVar 8)) (dC (.int 0)))) (dVar 8) [8]))
    (dIfS (dTest (dOp oNe (dLc (dRng2 (dCons (dOp oAdd (dOp oIx (dVar 7) (dC (.int 0))) (dC (.int 1))) (dCons (dOp oAdd (dOp oIx (dVar 7) (dC (.int 0))) (dC (.int 20))) dNil))) (gNm 5) (dTest (dOp oNe (dCall sp_count_at dw0 (dCons (dVar 3) (dCons (dVar 5) dNil))) (dC (.int 1)))) (dC (.int 1)) [5]) (dLst dNil))) (dRet (dC (.bl false))) dNext)) dNext)
    (dRet (dCall sp__law_divided_right (fun x _ G => dw x G) (dCons (dVar 3) (dCons (dVar 2) (dCons (dVar 4) dNil))))))))))))
def t_law (dw : Exc3 → Reg → Prop) : DSt :=
  (dSeq (dFor (dRng1 (dCons (dCB bMax (dPCons (dC (.int 1)) (dPCons (dCB bMin (dPCons (dC (.int 3)) (dPCons (dCB bLen (dPCons (dVar 0) dNil)) dNil))) dNil))) dNil)) (gNm 1) (dSeq (dSetReg 2 (dCall sp__law_dice (fun x _ G => dw x G) (dCons (dVar 0) (dCons (dVar 1) dNil))))
    (dIfS (dOr (dNot (dTest (dCall sp__law_right (fun x _ G => dw x G) (dCons (dVar 2) dNil)))) (dOr (dNot (dTest (dCall sp__law_right (fun x _ G => dw x G) (dCons (dVar 2) dNil)))) (dNot (dTest (dCall sp__law_right (fun x _ G => dw x G) (dCons (dVar 2) dNil)))))) (dRet (dC (.bl false))) dNext)))
    (dSeq (dSet 3 (dMake "Branch" sp_Branch_init (dCons (dC (.int 3)) (dCons (dTup (dCons (dC (.int 1)) (dCons (dUn uNeg (dC (.int 1))) (dCons (dC (.int 0)) (dCons (dC (.int 1)) (dCons (dC (.int 0)) (dCons (dUn uNeg (dC (.int 1))) (dCons (dC (.int 2)) dNil)))))))) dNil))))
    (dSeq (dSet 4 (dLc (dRng2 (dCons (dC (.int 1)) (dCons (dC (.int 8)) dNil))) (gNm 5) (dTest (dCall sp_is_near dw0 (dCons (dC (.int 3)) (dCons (dMeth "Branch" sp_Branch_point_at (dVar 3) (dCons (dVar 5) dNil)) (dCons (dTup dNil) dNil))))) (dVar 5) [5]))
    (dRet (dAndV (dOp oEq (dVar 4) (dLst (dCons (dC (.int 1)) (dCons (dC (.int 2)) (dCons (dC (.int 3)) dNil))))) (dOp oEq (dLc (dIter (dOp oAdd (dLst (dCons (dC (.int 0)) dNil)) (dVar 4))) (gNm 5) dYes (dCall sp_count_at dw0 (dCons (dVar 3) (dCons (dVar 5) dNil))) [5]) (dLst (dCons (dC (.int 6)) (dCons (dC (.int 2)) (dCons (dC (.int 2)) (dCons (dC (.int 2)) dNil)))))))))))
end K22

set_option Elab.async false
set_option maxRecDepth 100000
set_option maxHeartbeats 4000000
set_option exponentiation.threshold 2000
/-! K22: places, divisions -/
namespace K22
open PySem PySem.Spec PyProof.Rows L2 L3 LD LN LP LO LB LC LE2 LF
local macro_rules | `(tactic| walk_at "ev") => `(tactic| repeat (first | refine lc_stop ?_ | refine for_stop ?_ | refine ⟨_, rfl, ?_⟩ | refine ⟨_, _, rfl, ?_⟩ | refine ⟨rfl, ?_⟩ | refine And.intro (by assumption) ?_ | refine ⟨by decide, ?_⟩ | refine ⟨ltL rfl, ?_⟩ | refine ⟨_, at0, ?_⟩ | refine ⟨_, at1, ?_⟩ | refine ⟨_, at2, ?_⟩ | refine ifT ?_ | refine ifF ?_ | refine ⟨_, _, _, rfl, ?_⟩ | refine ⟨⟨_, rfl⟩, ?_⟩ | refine ⟨_, _, _, _, rfl, ?_⟩))
local macro_rules | `(tactic| walk_at "evn") => `(tactic| repeat (first | refine lc_stop ?_ | refine for_stop ?_ | refine ⟨_, rfl, ?_⟩ | refine ⟨_, _, rfl, ?_⟩ | refine ⟨rfl, ?_⟩ | refine And.intro (by assumption) ?_ | refine ⟨_, at0, ?_⟩ | refine ⟨_, at1, ?_⟩ | refine ⟨_, at2, ?_⟩ | refine ifT ?_ | refine ifF ?_ | refine ⟨_, _, _, rfl, ?_⟩ | refine ⟨⟨_, rfl⟩, ?_⟩ | refine ⟨_, _, _, _, rfl, ?_⟩))
theorem p__law_spots_near : ∀ ds G q dw, sp__law_spots_near ds G q dw → t__law_spots_near dw { nx := fun _ G' => q (.val .non) G', rt := q } (start3 ["_law_word", "_law_height", "_law_most", "_law_here", "_law_found", "_law_other"] ds) G := by
  intro ds G q dw h
  unfold t__law_spots_near
  obtain ⟨ws, hh, m, rfl, h40, h50, m60, h⟩ := h
  have h60 : ws.length ≤ 60 := by omega
  have h1000 : hh ≤ 1000 := by omega
  walk_at "ev"
  refine ⟨⟨by omega, by omega, by omega, by omega⟩, ?_⟩
  rw [show (((m : Int) + 1) - ((hh : Int) + 1)).toNat = m - hh by omega]
  refine for_stop (.go ?_)
  refine for_ind (fun ds E G1 => G1 = G ∧ ∃ done rest s5, (List.range (m - hh)).map (fun i => hh + 1 + i) = done ++ rest ∧ ds = rest.map (fun (k : Nat) => D.int ((k : Nat) : Int)) ∧ E = [.val (pt ws), .val (.int (hh : Nat)), .val (.int (m : Nat)), .val (pt (flat ws hh)), .own ((zi (done.filter (nearTo ws hh))).map D.int), s5]) (fun E G1 hI => ?_) (fun d ds E G1 nx hI hn => ?_) _ _ _ ⟨rfl, [], (List.range (m - hh)).map (fun i => hh + 1 + i), _, rfl, ?_, rfl⟩
  · obtain ⟨rfl, done, rest, s5, e, e2, rfl⟩ := hI
    have : rest = [] := by
      cases rest with
      | nil => rfl
      | cons a b => cases e2
    subst this
    rw [List.append_nil] at e
    walk_at "ev"
    unfold spots at h
    rw [e] at h
    exact h
  · obtain ⟨rfl, done, rest, s5, e, e2, rfl⟩ := hI
    cases rest with
    | nil => cases e2
    | cons k rest =>
      rw [List.map_cons] at e2
      cases e2
      have hk : k ≤ m ∧ hh < k := by
        have : k ∈ (List.range (m - hh)).map (fun i => hh + 1 + i) := by rw [e]; simp
        obtain ⟨i, hi, ei⟩ := List.mem_map.1 this
        rw [List.mem_range] at hi
        omega
      have hk1000 : k ≤ 1000 := by omega
      have e3 : (List.range (m - hh)).map (fun i => hh + 1 + i) = (done ++ [k]) ++ rest := by rw [e, List.append_assoc]; rfl
      have hsz : ((zi (done.filter (nearTo ws hh))).map D.int).length < sizeLine := by
        have := congrArg List.length e
        rw [List.length_map, List.length_range, List.length_append, List.length_cons] at this
        have h3 := List.length_filter_le (nearTo ws hh) done
        unfold zi
        rw [List.length_map, List.length_map, sizeLine_eq]
        omega
      walk_at "ev"
      refine ⟨sh_pt _, sh_lpts _, ?_⟩
      walk_at "ev"
      show if D.among (pt (flat ws hh)) ((nears (flat ws k)).map pt) = true then _ else _
      rw [among_pts]
      refine ifD (fun z => ?_) (fun z => ?_)
      · have z2 : nearTo ws hh k = true := decide_eq_true z
        walk_at "ev"
        refine hn _ _ ⟨rfl, done ++ [k], rest, .val (.int k), e3, rfl, ?_⟩
        rw [List.filter_append, List.filter_cons_of_pos (p := nearTo ws hh) (a := k) (l := []) z2]
        unfold zi
        rw [List.map_append, List.map_append]
        rfl
      · have z2 : nearTo ws hh k = false := decide_eq_false z
        refine hn _ _ ⟨rfl, done ++ [k], rest, .val (.int k), e3, rfl, ?_⟩
        rw [List.filter_append, List.filter_cons_of_neg (p := nearTo ws hh) (a := k) (l := []) (by rw [z2]; exact Bool.false_ne_true), List.filter_nil, List.append_nil]
        rfl
  · unfold rangeD
    rw [List.map_map]
    apply List.map_congr_left
    intro i _
    show D.int ((hh : Int) + 1 + (i : Int)) = D.int (((hh + 1 + i : Nat)) : Int)
    congr 1
theorem cs_at {ws : List Int} {i : Nat} (h : i < ws.length + 2) : atI ((cs ws).map D.int) ((i : Nat) : Int) = some (.int ((cnt ws i : Nat) : Int)) := by
  unfold cs
  have h0 : i < ((cto ws (ws.length + 2)).map D.int).length := by rw [List.length_map, cto_len]; exact h
  rw [at_nat h0, List.getElem_map, cto_get]
def pickF (ws : List Int) : D → Option D
  | .int i => some (.int ((cnt ws i.toNat : Nat) : Int))
  | _ => none
def neF (c : Int) : D → Option D
  | .int i => if i = c then none else some (.int 1)
  | _ => none
theorem p__law_place_right : ∀ ds G q dw, sp__law_place_right ds G q dw → t__law_place_right dw { nx := fun _ G' => q (.val .non) G', rt := q } (start3 ["_law_branch", "_law_word", "_law_height", "_law_counts", "_law_here", "_law_near", "_law_other", "_law_point", "_law_some", "_law_count"] ds) G := by
  intro ds G q dw h
  unfold t__law_place_right
  obtain ⟨p, ws, s, hh, rfl, hp, hw, h40, hwd, hne, ht, h⟩ := h
  have hpl := hp.le
  have h60 : ws.length ≤ 60 := by omega
  obtain ⟨k, k1, k2, hsp, hall, hsum⟩ := place hwd hne ht
  have h1000 : hh ≤ 1000 := by omega
  walk_at "ev"
  refine ⟨⟨by omega, by omega, by rw [List.length_map]; omega, by rw [List.length_map]; omega⟩, ?_⟩
  rw [show ((((ws.map D.int).length : Int) + 2) - ((hh : Int) + 1)).toNat = ws.length + 1 - hh by rw [List.length_map]; omega]
  refine for_stop (.go ?_)
  refine for_ind (fun ds E G1 => G1 = G ∧ ∃ done rest s6 s7, (List.range (ws.length + 1 - hh)).map (fun i => hh + 1 + i) = done ++ rest ∧ ds = rest.map (fun (k : Nat) => D.int ((k : Nat) : Int)) ∧ E = [.val (br p ws s), .val (pt ws), .val (.int (hh : Nat)), .val (.lst ((cs ws).map D.int)), .val (pt (flat ws hh)), .own ((zi (done.filter (nearTo ws hh))).map D.int), s6, s7, .no, .no]) (fun E G1 hI => ?_) (fun d ds E G1 nx hI hn => ?_) _ _ _ ⟨rfl, [], (List.range (ws.length + 1 - hh)).map (fun i => hh + 1 + i), _, _, rfl, ?_, rfl⟩
  · obtain ⟨rfl, done, rest, s6, s7, e, e2, rfl⟩ := hI
    have : rest = [] := by
      cases rest with
      | nil => rfl
      | cons a b => cases e2
    subst this
    rw [List.append_nil] at e
    have e5 : done.filter (nearTo ws hh) = spots ws hh (ws.length + 1) := by rw [← e]; rfl
    rw [e5]
    have hslen : (zi (spots ws hh (ws.length + 1))).length = k := by unfold zi; rw [hsp, List.length_map, List.length_map, List.length_range]
    walk_at "ev"
    refine ⟨ws, hh, ws.length + 1, ?_, h40, by omega, by omega, ?_⟩
    · show [_, _, D.int (if ((ws.map D.int).length : Int) + 1 < 60 then ((ws.map D.int).length : Int) + 1 else 60)] = _
      rw [List.length_map, if_pos (by omega), Int.natCast_add]; rfl
    walk_at "ev"
    refine ⟨sh_ints _, sh_ints _, ?_⟩
    walk_at "ev"
    refine ifNR (eqv_lsR _) ?_
    walk_at "ev"
    refine ⟨⟨by omega, by omega, by rw [List.length_map, hslen]; omega, by rw [List.length_map, hslen]; omega, by rw [List.length_map, hslen]; omega⟩, ?_⟩
    have erg : rangeD ((hh : Int) + 1) ((hh : Int) + 1 + (((zi (spots ws hh (ws.length + 1))).map D.int).length : Int) - ((hh : Int) + 1)).toNat = (zi (spots ws hh (ws.length + 1))).map D.int := by
      rw [List.length_map, hslen, show ((hh : Int) + 1 + (k : Int) - ((hh : Int) + 1)).toNat = k by omega, map_zi, hsp, List.map_map]
      unfold rangeD
      apply List.map_congr_left
      intro i _
      show D.int ((hh : Int) + 1 + (i : Int)) = D.int (((hh + 1 + i : Nat)) : Int)
      congr 1
    rw [erg]
    walk_at "ev"
    refine ⟨sh_ints _, sh_ints _, ?_⟩
    walk_at "ev"
    refine ifNR (eqv_lsR _) ?_
    walk_at "ev"
    refine ⟨by rw [List.length_map, hslen, sizeLine_eq]; omega, ?_⟩
    refine lc_pure0 (fun d => ∃ n : Nat, d = .int (n : Int) ∧ n < ws.length + 2) (pickF ws) (fun d k1 k2 hd h1 h2 => ?_) (fun d hd => ?_) ?_
    · obtain ⟨n, rfl, hn⟩ := hd
      walk_at "ev"
      refine ⟨_, cs_at hn, ?_⟩
      walk_at "ev"
      exact h1 _ _ rfl rfl
    · rw [map_zi, hsp, List.map_map] at hd
      obtain ⟨i, hi, e⟩ := List.mem_map.1 hd
      rw [List.mem_range] at hi
      exact ⟨hh + 1 + i, e.symm, by omega⟩
    · have eS : ((zi (spots ws hh (ws.length + 1))).map D.int).filterMap (pickF ws) = ((List.range k).map fun j => ((cnt ws (hh + 1 + j) : Nat) : Int)).map D.int := by
        rw [map_zi, hsp, List.map_map, List.map_map, List.filterMap_map]
        exact fmap_all fun j _ => rfl
      rw [eS]
      generalize eL : (List.range k).map (fun j => ((cnt ws (hh + 1 + j) : Nat) : Int)) = S at hsum
      have lS : S.length = k := by rw [← eL, List.length_map, List.length_range]
      have gS : ∀ j (hj : j < S.length), S[j] = ((cnt ws (hh + 1 + j) : Nat) : Int) := fun j hj => by
        subst eL
        rw [List.getElem_map, List.getElem_range]
      have a0 : atI (S.map D.int) 0 = some (.int ((cnt ws (hh + 1) : Nat) : Int)) := by
        have h0 : 0 < (S.map D.int).length := by rw [List.length_map]; omega
        have := at_nat h0
        rw [List.getElem_map, gS 0 (by omega)] at this
        exact this
      walk_at "ev"
      show (cutD (S.map D.int) none (some (-1))).length ≤ sizeLine ∧ dLcL _ _ _ _ (cutD (S.map D.int) none (some (-1))) _ _ _ _
      rw [cut_last, ← List.map_dropLast]
      refine ⟨by rw [List.length_map, List.length_dropLast, sizeLine_eq]; omega, ?_⟩
      refine lc_pure0 (fun d => d = D.int ((cnt ws (hh + 1) : Nat) : Int)) (fun _ => none) (fun d k1 k2 hd h1 h2 => ?_) (fun d hd => ?_) ?_
      · subst hd
        walk_at "ev"
        refine ⟨_, a0, ?_⟩
        walk_at "ev"
        refine ifNR (eqv_intR _) ?_
        exact h2 _ rfl rfl
      · obtain ⟨x, hx, e⟩ := List.mem_map.1 hd
        rw [← e]
        obtain ⟨j, hj, ej⟩ := List.mem_iff_getElem.1 hx
        rw [List.length_dropLast] at hj
        rw [List.getElem_dropLast, gS j (by omega)] at ej
        rw [← ej, hall j (by omega)]
      · have en : ((S.dropLast.map D.int).filterMap fun _ => (none : Option D)) = [] := by rw [List.filterMap_eq_nil_iff]; intro _ _; rfl
        rw [en]
        walk_at "ev"
        refine ⟨sh_ints _, rfl, ?_⟩
        walk_at "ev"
        have alast : atI (S.map D.int) (-1) = some (.int ((cnt ws (hh + 1 + (k - 1)) : Nat) : Int)) := at_last (by
          rw [List.getLast?_map, List.getLast?_eq_getElem?, lS, List.getElem?_eq_getElem (by omega), gS (k - 1) (by omega)]; rfl)
        refine ifNQ (eqv_ints S []) (fun z => ?_) (fun z => absurd lS (by rw [z]; simp only [List.length_nil]; omega))
        walk_at "ev"
        refine ⟨_, alast, ?_⟩
        walk_at "ev"
        refine ⟨_, a0, ?_⟩
        walk_at "ev"
        refine ifD (fun z2 => absurd z2 ?_) (fun _ => ?_)
        · have := cnt_le hwd (hh + 1) (hh + 1 + (k - 1)) (by omega)
          omega
        walk_at "ev"
        refine ⟨S, intsOf_map _, ?_⟩
        walk_at "ev"
        refine ⟨_, cs_at (by omega), ?_⟩
        walk_at "ev"
        rw [hsum]
        refine ifER (eqv_intR _) ?_
        walk_at "ev"
        exact h
  · obtain ⟨rfl, done, rest, s6, s7, e, e2, rfl⟩ := hI
    cases rest with
    | nil => cases e2
    | cons o rest =>
      rw [List.map_cons] at e2
      cases e2
      have ho : o ≤ ws.length + 1 ∧ hh < o := by
        have : o ∈ (List.range (ws.length + 1 - hh)).map (fun i => hh + 1 + i) := by rw [e]; simp
        obtain ⟨i, hi, ei⟩ := List.mem_map.1 this
        rw [List.mem_range] at hi
        omega
      have ho1000 : o ≤ 1000 := by omega
      have e3 : (List.range (ws.length + 1 - hh)).map (fun i => hh + 1 + i) = (done ++ [o]) ++ rest := by rw [e, List.append_assoc]; rfl
      have hsz : ((zi (done.filter (nearTo ws hh))).map D.int).length < sizeLine := by
        have := congrArg List.length e
        rw [List.length_map, List.length_range, List.length_append, List.length_cons] at this
        have h3 := List.length_filter_le (nearTo ws hh) done
        unfold zi
        rw [List.length_map, List.length_map, sizeLine_eq]
        omega
      walk_at "ev"
      refine ifD (fun z => ?_) (fun z => absurd (by rw [List.length_map, flat_len]; omega) z)
      walk_at "ev"
      have p1 := flat_pt hpl.1 hw (n := o) (by omega)
      have p2 := flat_pt hpl.1 hw (n := hh) (by omega)
      refine ⟨p1, p2, ?_⟩
      walk_at "ev"
      refine ifD (fun z => ?_) (fun z => ?_)
      · have z2 : nearTo ws hh o = true := decide_eq_true z
        walk_at "ev"
        refine hn _ _ ⟨rfl, done ++ [o], rest, .val (.int o), .val (pt (flat ws o)), e3, rfl, ?_⟩
        rw [List.filter_append, List.filter_cons_of_pos (p := nearTo ws hh) (a := o) (l := []) z2]
        unfold zi
        rw [List.map_append, List.map_append]
        rfl
      · have z2 : nearTo ws hh o = false := decide_eq_false z
        refine hn _ _ ⟨rfl, done ++ [o], rest, .val (.int o), .val (pt (flat ws o)), e3, rfl, ?_⟩
        rw [List.filter_append, List.filter_cons_of_neg (p := nearTo ws hh) (a := o) (l := []) (by rw [z2]; exact Bool.false_ne_true), List.filter_nil, List.append_nil]
        rfl
  · unfold rangeD
    rw [List.map_map]
    apply List.map_congr_left
    intro i _
    show D.int ((hh : Int) + 1 + (i : Int)) = D.int (((hh + 1 + i : Nat)) : Int)
    congr 1
theorem big40 {m : Nat} (h : m ≤ 1099511627776) : (m : Int) < BIG := by
  unfold BIG
  omega
theorem cs_cut {ws : List Int} {h q : Nat} (hq : h + q ≤ ws.length + 2) : cutD ((cs ws).map D.int) (some (h : Int)) (some ((h : Int) + (q : Int))) = ((List.range q).map fun i => ((cnt ws (h + i) : Nat) : Int)).map D.int := by
  have hl : ((cs ws).map D.int).length = ws.length + 2 := by unfold cs; rw [List.length_map, cto_len]
  unfold L3.cutD
  rw [show ((h : Int) + (q : Int)) = ((h + q : Nat) : Int) by rw [Int.natCast_add], HT.sIx_nat, HT.sIx_nat, hl, Nat.min_eq_left hq, Nat.min_eq_left (show h ≤ ws.length + 2 by omega), show h + q - h = q by omega, ← List.map_drop, ← List.map_take]
  congr 1
  apply List.ext_getElem
  · rw [List.length_take, List.length_drop, List.length_map, List.length_range]
    unfold cs
    rw [cto_len]; omega
  · intro i h1 h2
    rw [List.getElem_take, List.getElem_drop, List.getElem_map, List.getElem_range]
    exact cto_get _
theorem p__law_divided_right : ∀ ds G q dw, sp__law_divided_right ds G q dw → t__law_divided_right dw { nx := fun _ G' => q (.val .non) G', rt := q } (start3 ["_law_branch", "_law_word", "_law_counts", "_law_height", "_law_one", "_law_other", "_law_times"] ds) G := by
  intro ds G q dw h
  unfold t__law_divided_right
  obtain ⟨p, ws, s, rfl, h40, hwd, h⟩ := h
  have h60 : ws.length ≤ 60 := by omega
  walk_at "ev"
  refine ⟨by rw [List.length_map]; omega, by rw [List.length_map]; omega, ?_⟩
  rw [show (((ws.map D.int).length : Nat) : Int).toNat = ws.length by rw [List.length_map]; omega]
  refine for_stop (.go ?_)
  refine for_ind (fun ds E G2 => G2 = G ∧ (∀ d ∈ ds, ∃ k : Nat, d = .int (k : Int) ∧ k < ws.length) ∧ ∃ s3 s4 s5 s6, E = [.val (br p ws s), .val (pt ws), .val (.lst ((cs ws).map D.int)), s3, s4, s5, s6]) (fun E G2 hI => ?_) (fun d' ds E G2 nx hI hn => ?_) _ _ _ ⟨rfl, fun d hd => mem_rangeD hd, _, _, _, _, rfl⟩
  · obtain ⟨rfl, _, s3, s4, s5, s6, rfl⟩ := hI
    walk_at "ev"
    exact h
  · obtain ⟨rfl, hd, s3, s4, s5, s6, rfl⟩ := hI
    obtain ⟨k, rfl, hk⟩ := hd d' List.mem_cons_self
    have k200 : k ≤ 200 := by omega
    have hn2 : ∀ s3 s4 s5 s6, nx [.val (br p ws s), .val (pt ws), .val (.lst ((cs ws).map D.int)), s3, s4, s5, s6] G2 := fun s3 s4 s5 s6 => hn _ _ ⟨rfl, fun z hz => hd z (List.mem_cons_of_mem _ hz), s3, s4, s5, s6, rfl⟩
    walk_at "ev"
    have pos := ord_pos (ws.drop k)
    have sml := ord_small (ws.drop k)
    have div := divided (ws.drop k) (hwd.dropN k)
    have hpow : 2 ^ (ws.drop k).length ≤ 1099511627776 := Nat.le_trans (Nat.pow_le_pow_right (by decide) (show (ws.drop k).length ≤ 40 by rw [List.length_drop]; omega)) (by decide)
    cases e : ord2 (ws.drop k) with
    | mk o1 o2 =>
      rw [e] at pos sml div
      cases o1 with
      | none =>
        walk_at "ev"
        exact hn2 _ _ _ _
      | some x =>
        cases o2 with
        | none =>
          walk_at "ev"
          exact hn2 _ _ _ _
        | some y =>
          have x1 := pos.1 x rfl
          have y1 := pos.2 y rfl
          have x2 := sml.1 x rfl
          have y2 := sml.2 y rfl
          have div := div x y rfl
          walk_at "ev"
          refine ifD (fun _ => ?_) (fun z => absurd (by show (0 : Int) < (x : Int); omega) z)
          walk_at "ev"
          obtain ⟨M, hM, hM2⟩ : ∃ M : Nat, (if (y : Int) > (x : Int) then (y : Int) else (x : Int)) = (M : Int) ∧ M = (if y > x then y else x) := by
            refine ⟨_, ?_, rfl⟩
            by_cases z : y > x
            · rw [if_pos z, if_pos (by omega)]
            · rw [if_neg z, if_neg (by omega)]
          obtain ⟨m, hm, hm2⟩ : ∃ m : Nat, (if (y : Int) < (x : Int) then (y : Int) else (x : Int)) = (m : Int) ∧ m = (if y < x then y else x) := by
            refine ⟨_, ?_, rfl⟩
            by_cases z : y < x
            · rw [if_pos z, if_pos (by omega)]
            · rw [if_neg z, if_neg (by omega)]
          rw [← hM2, ← hm2] at div
          have m1 : 1 ≤ m := by rw [hm2]; split <;> assumption
          dsimp only
          rw [hM, hm]
          have m0 : (0 : Int) < (m : Int) := Int.natCast_pos.2 m1
          have mBig : (m : Int) < BIG := big40 (Nat.le_trans (hm2 ▸ (by split <;> assumption)) hpow)
          clear hpow x2 y2 sml
          refine ⟨m0, ?_⟩
          walk_at "ev"
          refine ifNE (fun z => ?_) (fun z => ?_)
          · have z2 : M % m ≠ 0 := fun w => z (by rw [← Int.natCast_emod, w]; rfl)
            obtain ⟨d1, d2, d3⟩ := div z2
            rw [List.length_drop] at d1
            walk_at "ev"
            dsimp only
            rw [hM, hm]
            refine ⟨div_ok m0 mBig, ?_⟩
            clear mBig
            rw [← Int.natCast_ediv]
            generalize hq : M / m = qq at d1 d2 d3
            refine ⟨ltL rfl, ?_⟩
            walk_at "evn"
            dsimp only
            rw [hm]
            refine ⟨show ([D.int (m : Int)]).length ≤ sizeLine by rw [sizeLine_eq]; exact (by decide : 1 ≤ 16777216), ?_⟩
            walk_at "evn"
            have q40 : qq ≤ 40 := by omega
            refine ⟨by omega, by omega, by rw [sizeLine_eq, Int.toNat_natCast]; show 1 * qq ≤ 16777216; omega, ?_⟩
            rw [Int.toNat_natCast, rep1]
            have e1 : (List.range qq).map (fun i => ((cnt ws (k + i) : Nat) : Int)) = List.replicate qq (m : Int) := by
              apply List.ext_getElem
              · rw [List.length_map, List.length_range, List.length_replicate]
              · intro i h1 h2
                rw [List.length_replicate] at h2
                rw [List.getElem_map, List.getElem_range, List.getElem_replicate]
                have := d2 i h2
                rw [List.drop_drop] at this
                show ((mn (ord2 (ws.drop (k + i))) : Nat) : Int) = _
                rw [this]
            have e2 : cnt ws (k + qq) = M % m := by
              rw [List.drop_drop] at d3
              exact d3
            rw [cs_cut (by omega), e1]
            walk_at "evn"
            refine ⟨sh_ints _, sh_ints _, ?_⟩
            walk_at "evn"
            refine ifNR (eqv_lsR _) ?_
            walk_at "evn"
            have e3 : atI ((cs ws).map D.int) ((k : Int) + (qq : Int)) = some (.int ((M % m : Nat) : Int)) := by
              rw [← Int.natCast_add, cs_at (by omega), e2]
            refine ⟨_, e3, ?_⟩
            walk_at "evn"
            dsimp only
            rw [hM, hm]
            refine ⟨m0, ?_⟩
            rw [← Int.natCast_emod]
            walk_at "evn"
            refine ifNR (eqv_intR _) ?_
            exact hn2 _ _ _ _
          · exact hn2 _ _ _ _
end K22

set_option Elab.async false
set_option maxRecDepth 100000
set_option maxHeartbeats 4000000
set_option exponentiation.threshold 2000
/-! K22: right -/
namespace K22
open PySem PySem.Spec PyProof.Rows L2 L3 LD LN LP LO LB LC LE2 LF
local macro_rules | `(tactic| walk_at "ev") => `(tactic| repeat (first | refine lc_stop ?_ | refine for_stop ?_ | refine ⟨_, rfl, ?_⟩ | refine ⟨_, _, rfl, ?_⟩ | refine ⟨rfl, ?_⟩ | refine And.intro (by assumption) ?_ | refine ⟨by decide, ?_⟩ | refine ⟨ltL rfl, ?_⟩ | refine ⟨_, at0, ?_⟩ | refine ⟨_, at1, ?_⟩ | refine ⟨_, at2, ?_⟩ | refine ifT ?_ | refine ifF ?_ | refine ⟨_, _, _, rfl, ?_⟩ | refine ⟨⟨_, rfl⟩, ?_⟩ | refine ⟨_, _, _, _, rfl, ?_⟩))
theorem enum_pt (ws : List Int) : enumFrom 0 (ws.map D.int) = (List.range ws.length).map fun i => D.tup [.int ((i : Nat) : Int), .int (ws.getD i 0)] := by
  apply List.ext_getElem?
  intro i
  by_cases h : i < ws.length
  · have h2 : i < (ws.map D.int).length := by rw [List.length_map]; exact h
    have e := enumFrom_get (ws.map D.int) 0 i _ (List.getElem?_eq_getElem h2)
    have eg : ws.getD i 0 = ws[i] := by rw [List.getD_eq_getElem?_getD, List.getElem?_eq_getElem h]; rfl
    rw [e, List.getElem_map, List.getElem?_map, List.getElem?_range h, Nat.zero_add, Option.map_some, eg]
    rfl
  · rw [List.getElem?_eq_none (by rw [enumFrom_len, List.length_map]; omega), List.getElem?_eq_none (by rw [List.length_map, List.length_range]; omega)]
def turns (ws : List Int) : List Nat := (List.range ws.length).filter fun i => decide (ws.getD i 0 = -1)
def turnF : D → Option D
  | .tup [.int i, .int v] => if decide (v = -1) = true then some (.int i) else none
  | _ => none
theorem turn_fmap (ws : List Int) : (enumFrom 0 (ws.map D.int)).filterMap turnF = (zi (turns ws)).map D.int := by
  rw [enum_pt, map_zi]
  exact fmap_sel fun k _ => rfl
theorem mem_enum2 {xs : List Int} {k : Nat} {d : D} (h : d ∈ enumFrom k (xs.map D.int)) : ∃ i c : Int, d = .tup [.int i, .int c] := by
  induction xs generalizing k with
  | nil => cases h
  | cons c cs ih =>
    rcases List.mem_cons.mp h with z | z
    · exact ⟨_, _, z⟩
    · exact ih z
/-- the places of letters that are not 0 behind a place -/
def aft (ws : List Int) (t : Nat) : List Nat := ((List.range (ws.length - (t + 1))).map fun i => t + 1 + i).filter fun i => decide (ws.getD i 0 ≠ 0)
def aftF (ws : List Int) : D → Option D
  | .int i => if decide (ws.getD i.toNat 0 ≠ 0) = true then some (.int i) else none
  | _ => none
theorem aft_fmap (ws : List Int) (t : Nat) : (rangeD ((t : Int) + 1) (ws.length - (t + 1))).filterMap (aftF ws) = (zi (aft ws t)).map D.int := by
  rw [map_zi]
  have e : rangeD ((t : Int) + 1) (ws.length - (t + 1)) = ((List.range (ws.length - (t + 1))).map fun i => t + 1 + i).map fun n => D.int ((n : Nat) : Int) := by
    unfold rangeD
    rw [List.map_map]
    apply List.map_congr_left
    intro i _
    show D.int ((t : Int) + 1 + (i : Int)) = D.int (((t + 1 + i : Nat)) : Int)
    congr 1
  rw [e]
  exact fmap_sel fun k _ => by
    show (if decide (ws.getD ((k : Int)).toNat 0 ≠ 0) = true then some (D.int (k : Int)) else none) = _
    rw [Int.toNat_natCast]
/-- behind the last turn all counts are 1 -/
theorem behind {ws : List Int} (hw : Wd ws) {t h : Nat} (ht : (turns ws).getLast? = some t) (hh : t ≤ h) : cnt ws h = 1 := by
  have := smooth_cnt (hw.dropN h)
  unfold LC.cnt at this ⊢
  rw [List.drop_zero] at this
  rw [this, List.drop_drop]
  intro hm
  rw [List.mem_drop_iff_getElem] at hm
  obtain ⟨j, hj, e⟩ := hm
  have hm2 : h + 1 + j ∈ turns ws := by
    unfold turns
    rw [List.mem_filter, List.mem_range]
    refine ⟨by omega, decide_eq_true ?_⟩
    rw [List.getD_eq_getElem?_getD, List.getElem?_eq_getElem (by omega)]
    exact e
  have sorted : (turns ws).Pairwise (· < ·) := List.Pairwise.filter _ List.pairwise_lt_range
  obtain ⟨i, hi, ei⟩ := List.mem_iff_getElem.1 hm2
  rw [List.getLast?_eq_getElem?] at ht
  have hlast : (turns ws).length - 1 < (turns ws).length := by omega
  rw [List.getElem?_eq_getElem hlast] at ht
  have ht := Option.some.inj ht
  by_cases z : i = (turns ws).length - 1
  · subst z; omega
  · have := List.pairwise_iff_getElem.1 sorted i ((turns ws).length - 1) hi hlast (by omega)
    omega
theorem getD_at {ws : List Int} {i : Nat} (h : i < ws.length) : atI (ws.map D.int) (i : Int) = some (.int (ws.getD i 0)) := by
  rw [at_nat (by rw [List.length_map]; exact h), List.getElem_map, List.getD_eq_getElem?_getD, List.getElem?_eq_getElem h]; rfl
theorem p__law_right : ∀ ds G q dw, sp__law_right ds G q dw → t__law_right dw { nx := fun _ G' => q (.val .non) G', rt := q } (start3 ["_law_dice_here", "_law_prime", "_law_word", "_law_branch", "_law_counts", "_law_height", "_law_turns", "_law_after", "_law_at", "_law_letter_here"] ds) G := by
  intro ds G q dw h
  unfold t__law_right
  obtain ⟨a, R, rfl, d, h⟩ := h
  walk_at "ev"
  refine ⟨a, R, rfl, d, fun p G1 hp d1 => ?_⟩
  have hpl := hp.le
  walk_at "ev"
  refine ⟨a, R, _, rfl, d1, by simp, by decide, fun x G2 hx d2 => ?_⟩
  obtain ⟨m, hm1, hm2, rfl⟩ : ∃ m : Int, 1 ≤ m ∧ m ≤ 40 ∧ x = D.int m := by
    simp only [List.mem_cons, List.not_mem_nil, or_false] at hx
    rcases hx with rfl | rfl | rfl | rfl <;> exact ⟨_, by decide, by decide, rfl⟩
  walk_at "ev"
  refine ⟨a, R, p, m, rfl, d2, hp, hm1, by omega, fun ws G3 hl hw hwd d3 => ?_⟩
  have h40 : ws.length ≤ 40 := by omega
  have h60 : ws.length ≤ 60 := by omega
  walk_at "ev"
  intro s
  walk_at "ev"
  rw [List.length_map (as := ws)]
  refine ⟨by show ws.length + 1 ≤ 200; omega, ?_⟩
  have hfin : ∀ s4 s5 s6 s7 s8 s9 : Sl3, (s4 = .own ((cs ws).map D.int) ∨ s4 = .val (.lst ((cs ws).map D.int))) → dRet (dCall sp__law_divided_right (fun x _ G => dw x G) (dCons (dVar 3) (dCons (dVar 2) (dCons (dVar 4) dNil)))) { nx := fun _ G' => q (.val .non) G', rt := q } [.val (.ref a), .val (.int p), .val (pt ws), .val (br p ws s), s4, s5, s6, s7, s8, s9] G3 := fun s4 s5 s6 s7 s8 s9 hs => by
    rcases hs with rfl | rfl
    · walk_at "ev"
      exact h _ d3
    · walk_at "ev"
      exact h _ d3
  walk_at "ev"
  have e0 : (((ws.map D.int).length : Int) + 1).toNat = ws.length + 1 := by rw [List.length_map]; omega
  refine ⟨by rw [List.length_map]; omega, by rw [List.length_map]; omega, ?_⟩
  rw [e0]
  refine for_stop (.go ?_)
  refine for_ind (fun ds E G2 => G2 = G3 ∧ (∀ d ∈ ds, ∃ k : Nat, d = .int (k : Int) ∧ k < ws.length + 1) ∧ ∃ s4 s5, (s4 = .own ((cs ws).map D.int) ∨ s4 = .val (.lst ((cs ws).map D.int))) ∧ E = [.val (.ref a), .val (.int p), .val (pt ws), .val (br p ws s), s4, s5, .no, .no, .no, .no]) (fun E G2 hI => ?_) (fun d' ds E G2 nx hI hn => ?_) _ _ _ ⟨rfl, fun d hd => mem_rangeD hd, _, _, .inl rfl, rfl⟩
  · obtain ⟨rfl, _, s4, s5, h4, rfl⟩ := hI
    walk_at "ev"
    refine ⟨by rw [enumFrom_len, List.length_map, sizeLine_eq]; omega, ?_⟩
    refine lc_pure0 (fun d => ∃ i c : Int, d = .tup [.int i, .int c]) turnF (fun d k1 k2 hd h1 h2 => ?_) (fun d hd => mem_enum2 hd) ?_
    · obtain ⟨i, c, rfl⟩ := hd
      walk_at "ev"
      refine ifE (fun z => ?_) (fun z => ?_)
      · walk_at "ev"
        exact h1 _ _ (by show (if decide (c = -1) = true then some (D.int i) else none) = _; rw [if_pos (decide_eq_true z)]) rfl
      · exact h2 _ (by show (if decide (c = -1) = true then some (D.int i) else none) = _; rw [if_neg (by rw [decide_eq_false z]; exact Bool.false_ne_true)]) rfl
    · rw [turn_fmap]
      walk_at "ev"
      refine ⟨sh_ints _, rfl, ?_⟩
      walk_at "ev"
      refine ifNQ (eqv_ints (zi (turns ws)) []) (fun z => ?_) (fun z => ?_)
      · walk_at "ev"
        refine ⟨sh_pt _, rfl, ?_⟩
        walk_at "ev"
        refine ifNQ (eqv_pt ws [-1]) (fun z2 => ?_) (fun z2 => ?_)
        · obtain ⟨t, ht⟩ : ∃ t, (turns ws).getLast? = some t := by
            cases e : turns ws with
            | nil => rw [e] at z; exact absurd rfl z
            | cons x r => exact ⟨_, List.getLast?_cons⟩
          have tm : t < ws.length ∧ ws.getD t 0 = -1 := by
            have := List.mem_of_getLast? ht
            unfold turns at this
            rw [List.mem_filter, List.mem_range] at this
            exact ⟨this.1, of_decide_eq_true this.2⟩
          have hlast : ∃ l, ws.getLast? = some l ∧ 0 < l := by
            rcases hwd with y | y | y
            · rw [y] at tm; exact absurd tm.1 (Nat.not_lt_zero t)
            · exact absurd y z2
            · exact y
          obtain ⟨l, hl1, hl2⟩ := hlast
          rw [List.getLast?_eq_getElem?] at hl1
          have hlD : ws.getD (ws.length - 1) 0 = l := by rw [List.getD_eq_getElem?_getD, hl1]; rfl
          have tlt : t < ws.length - 1 := by
            rcases Nat.lt_or_ge t (ws.length - 1) with y | y
            · exact y
            · rw [show t = ws.length - 1 by omega] at tm; omega
          have aT : atI ((zi (turns ws)).map D.int) (-1) = some (.int (t : Int)) := at_last (by
            rw [map_zi, List.getLast?_map, ht]; rfl)
          walk_at "ev"
          refine ⟨_, aT, ?_⟩
          walk_at "ev"
          refine ⟨⟨by omega, by omega, by rw [List.length_map]; omega, by rw [List.length_map]; omega⟩, ?_⟩
          rw [show (((ws.map D.int).length : Int) - ((t : Int) + 1)).toNat = ws.length - (t + 1) by rw [List.length_map]; omega]
          refine ⟨by rw [rangeD_len, sizeLine_eq]; omega, ?_⟩
          refine lc_pure0 (fun d => ∃ k : Nat, d = .int (k : Int) ∧ k < ws.length) (aftF ws) (fun d k1 k2 hd h1 h2 => ?_) (fun d hd => ?_) ?_
          · obtain ⟨k, rfl, hk⟩ := hd
            walk_at "ev"
            refine ⟨_, getD_at hk, ?_⟩
            walk_at "ev"
            refine ifNE (fun y => ?_) (fun y => ?_)
            · walk_at "ev"
              exact h1 _ _ (by show (if decide (ws.getD ((k : Int)).toNat 0 ≠ 0) = true then some (D.int (k : Int)) else none) = _; rw [Int.toNat_natCast, if_pos (decide_eq_true y)]) rfl
            · exact h2 _ (by show (if decide (ws.getD ((k : Int)).toNat 0 ≠ 0) = true then some (D.int (k : Int)) else none) = _; rw [Int.toNat_natCast, if_neg (by rw [decide_eq_false (fun w => w y)]; exact Bool.false_ne_true)]) rfl
          · unfold rangeD at hd
            obtain ⟨i, hi, e⟩ := List.mem_map.1 hd
            rw [List.mem_range] at hi
            exact ⟨t + 1 + i, by rw [← e]; rfl, by omega⟩
          · rw [aft_fmap]
            have am : ws.length - 1 ∈ aft ws t := by
              unfold aft
              rw [List.mem_filter, List.mem_map]
              refine ⟨⟨ws.length - 1 - (t + 1), List.mem_range.2 (by omega), by omega⟩, decide_eq_true (by rw [hlD]; omega)⟩
            obtain ⟨f, r, ef⟩ : ∃ f r, aft ws t = f :: r := by
              cases e : aft ws t with
              | nil => rw [e] at am; cases am
              | cons f r => exact ⟨f, r, rfl⟩
            have fm : t < f ∧ f < ws.length := by
              have : f ∈ aft ws t := by rw [ef]; exact List.mem_cons_self
              unfold aft at this
              rw [List.mem_filter, List.mem_map] at this
              obtain ⟨⟨i, hi, e⟩, _⟩ := this
              rw [List.mem_range] at hi
              omega
            have aF : atI ((zi (aft ws t)).map D.int) 0 = some (.int (f : Int)) := by
              rw [ef]
              exact at0
            walk_at "ev"
            refine ⟨_, aF, ?_⟩
            walk_at "ev"
            refine ⟨_, aF, ?_⟩
            walk_at "ev"
            refine ⟨⟨by omega, by omega, by omega, by omega⟩, ?_⟩
            rw [show (((f : Int) + 20) - ((f : Int) + 1)).toNat = 19 by omega]
            refine ⟨by rw [rangeD_len, sizeLine_eq]; decide, ?_⟩
            refine lc_pure0 (fun d => ∃ k : Nat, d = .int (k : Int) ∧ t ≤ k ∧ k ≤ 200) (fun _ => none) (fun d k1 k2 hd h1 h2 => ?_) (fun d hd => ?_) ?_
            · obtain ⟨k, rfl, hk, hk2⟩ := hd
              walk_at "ev"
              show if (!D.eqv (.int ((LC.cnt ws k : Nat) : Int)) (.int 1)) = true then _ else _
              rw [behind hwd ht hk]
              refine ifNR (eqv_intR _) ?_
              exact h2 _ rfl rfl
            · unfold rangeD at hd
              obtain ⟨i, hi, e⟩ := List.mem_map.1 hd
              rw [List.mem_range] at hi
              exact ⟨f + 1 + i, by rw [← e]; rfl, by omega, by omega⟩
            · have en : ((rangeD ((f : Int) + 1) 19).filterMap fun _ => (none : Option D)) = [] := by rw [List.filterMap_eq_nil_iff]; intro _ _; rfl
              rw [en]
              clear hfin
              rcases h4 with rfl | rfl
              · walk_at "ev"
                exact h _ d3
              · walk_at "ev"
                exact h _ d3
        · exact hfin _ _ _ _ _ _ h4
      · exact hfin _ _ _ _ _ _ h4
  · obtain ⟨rfl, hd, s4, s5, h4, rfl⟩ := hI
    obtain ⟨k, rfl, hk⟩ := hd d' List.mem_cons_self
    have hn2 : ∀ s4 s5, (s4 = .own ((cs ws).map D.int) ∨ s4 = .val (.lst ((cs ws).map D.int))) → nx [.val (.ref a), .val (.int p), .val (pt ws), .val (br p ws s), s4, s5, .no, .no, .no, .no] G2 := fun s4 s5 h4 => hn _ _ ⟨rfl, fun z hz => hd z (List.mem_cons_of_mem _ hz), s4, s5, h4, rfl⟩
    walk_at "ev"
    have ec : cutD (ws.map D.int) (some (k : Int)) none = (ws.drop k).map D.int := by
      rw [List.map_drop]
      exact cut_from k
    refine ⟨sh_cut _ _ _, ?_⟩
    walk_at "ev"
    show if D.among (.int (-1)) (L3.cutD (ws.map D.int) (some (k : Int)) none) = true then _ else _
    rw [ec, among_ints]
    refine ifD (fun z => ?_) (fun z => ?_)
    · walk_at "ev"
      refine ⟨sh_pt _, rfl, ?_⟩
      walk_at "ev"
      refine ifNQ (eqv_pt ws [-1]) (fun z2 => ?_) (fun z2 => ?_)
      · rcases h4 with rfl | rfl
        · walk_at "ev"
          exact hn2 _ _ (.inr rfl)
        · walk_at "ev"
          exact hn2 _ _ (.inr rfl)
      · exact hn2 _ _ h4
    · exact hn2 _ _ h4
end K22

set_option Elab.async false
set_option maxRecDepth 100000
set_option maxHeartbeats 4000000
set_option exponentiation.threshold 2000
/-! K22: the law -/
namespace K22
open PySem PySem.Spec PyProof.Rows L2 L3 LD LN LP LO LB LC LE2 LF
local macro_rules | `(tactic| walk_at "ev") => `(tactic| repeat (first | refine lc_stop ?_ | refine for_stop ?_ | refine ⟨_, rfl, ?_⟩ | refine ⟨_, _, rfl, ?_⟩ | refine ⟨rfl, ?_⟩ | refine And.intro (by assumption) ?_ | refine ⟨by decide, ?_⟩ | refine ⟨ltL rfl, ?_⟩ | refine ⟨_, at0, ?_⟩ | refine ⟨_, at1, ?_⟩ | refine ⟨_, at2, ?_⟩ | refine ifT ?_ | refine ifF ?_ | refine ⟨_, _, _, rfl, ?_⟩ | refine ⟨⟨_, rfl⟩, ?_⟩ | refine ⟨_, _, _, _, rfl, ?_⟩))
theorem pt3 {ws : List Int} (h1 : ws.length ≤ 60) (h2 : (ws.all fun x => decide (-1 ≤ x) && decide (x < 3)) = true) : Pt 3 ws := ⟨h1, fun x hx => by
  have := List.all_eq_true.1 h2 x hx
  simp only [Bool.and_eq_true, decide_eq_true_eq] at this
  exact this⟩
theorem pr3 : Pr 3 := by unfold Pr primes; decide
theorem wdLit {ws : List Int} {l : Int} (h : ws.getLast? = some l) (h2 : 0 < l) : Wd ws := .inr (.inr ⟨l, h, h2⟩)
def dp : List Int := [1, -1, 0, 1, 0, -1, 2]
def npF : D → Option D
  | .int i => if decide (([] : List Int) ∈ nears (flat dp i.toNat)) = true then some (.int i) else none
  | _ => none
def ctF : D → Option D
  | .int i => some (.int ((LC.cnt dp i.toNat : Nat) : Int))
  | _ => none
theorem np_is : (rangeD 1 7).filterMap npF = [D.int 1, D.int 2, D.int 3] := by rfl
theorem p_law : ∀ ds G q dw, sp_law ds G q dw → t_law dw { nx := fun _ G' => q (.val .non) G', rt := q } (start3 ["_law_script", "_law_spot", "_law_dice_here", "_law_deep", "_law_near", "_law_height"] ds) G := by
  intro ds G q dw h
  unfold t_law
  obtain ⟨ns, rfl, hn, h⟩ := h
  walk_at "ev"
  have hM : 0 ≤ (if (if (ns.length : Int) < 3 then (ns.length : Int) else 3) > 1 then (if (ns.length : Int) < 3 then (ns.length : Int) else 3) else 1) ∧ (if (if (ns.length : Int) < 3 then (ns.length : Int) else 3) > 1 then (if (ns.length : Int) < 3 then (ns.length : Int) else 3) else 1) ≤ 3 := by
    by_cases h1 : (ns.length : Int) < 3
    · simp only [if_pos h1]
      split <;> omega
    · simp only [if_neg h1]
      decide
  refine ⟨Int.le_trans (by decide) hM.1, Int.lt_of_le_of_lt hM.2 (by decide), ?_⟩
  refine for_stop (.go ?_)
  refine for_ind (fun ds E G => (∀ d ∈ ds, ∃ k : Nat, d = .int (k : Int)) ∧ ∃ s1 s2, E = [.val (.scr ns), s1, s2, .no, .no, .no]) (fun E G hI => ?_) (fun d ds E G nx hI hn => ?_) _ _ _ ⟨fun d hd => ?_, _, _, rfl⟩
  · obtain ⟨_, s1, s2, rfl⟩ := hI
    walk_at "ev"
    have w2 : Wd dp := wdLit (l := 2) rfl (by decide)
    have l2 : dp.length ≤ 60 := by decide
    have q2 : Pt 3 dp := pt3 (by decide) (by decide)
    refine ⟨3, dp, rfl, pr3, q2, w2, fun sa => ?_⟩
    walk_at "ev"
    refine .go ?_
    show dLcL _ _ _ _ (rangeD 1 7) _ _ _ _
    refine lc_pure0 (fun d => ∃ k : Nat, d = .int (k : Int) ∧ k ≤ 60) npF (fun d k1 k2 hd h1 h2 => ?_) (fun d hd => ?_) ?_
    · obtain ⟨k, rfl, hk⟩ := hd
      walk_at "ev"
      refine ⟨3, flat dp k, [], rfl, pr3, flat_pt (by decide) q2 hk, pt3 (by decide) (by decide), ?_⟩
      walk_at "ev"
      refine ifD (fun z => ?_) (fun z => ?_)
      · walk_at "ev"
        exact h1 _ _ (by show (if decide (([] : List Int) ∈ nears (flat dp ((k : Int)).toNat)) = true then some (D.int (k : Int)) else none) = _; rw [Int.toNat_natCast, if_pos (decide_eq_true z)]) rfl
      · exact h2 _ (by show (if decide (([] : List Int) ∈ nears (flat dp ((k : Int)).toNat)) = true then some (D.int (k : Int)) else none) = _; rw [Int.toNat_natCast, if_neg (by rw [decide_eq_false z]; exact Bool.false_ne_true)]) rfl
    · unfold rangeD at hd
      obtain ⟨i, hi, e⟩ := List.mem_map.1 hd
      rw [List.mem_range] at hi
      exact ⟨1 + i, by rw [← e]; rfl, by omega⟩
    · rw [np_is]
      walk_at "ev"
      refine .go ?_
      refine lc_pure0 (fun d => ∃ k : Nat, d = .int (k : Int) ∧ k ≤ 200) ctF (fun d k1 k2 hd h1 h2 => ?_) (fun d hd => ?_) ?_
      · obtain ⟨k, rfl, hk⟩ := hd
        walk_at "ev"
        exact h1 _ _ rfl rfl
      · have hd : d ∈ [D.int 0, D.int 1, D.int 2, D.int 3] := hd
        simp only [List.mem_cons, List.not_mem_nil, or_false] at hd
        rcases hd with rfl | rfl | rfl | rfl
        · exact ⟨0, rfl, by decide⟩
        · exact ⟨1, rfl, by decide⟩
        · exact ⟨2, rfl, by decide⟩
        · exact ⟨3, rfl, by decide⟩
      · walk_at "ev"
        exact qT (q := q) (by decide +kernel) (h _)
  · obtain ⟨hd, s1, s2, rfl⟩ := hI
    obtain ⟨k, rfl⟩ := hd d List.mem_cons_self
    walk_at "ev"
    intro l m c
    walk_at "ev"
    intro a
    walk_at "ev"
    refine ⟨a, _, rfl, ⟨l, m, c, rfl⟩, fun G1 d1 => ?_⟩
    walk_at "ev"
    refine ⟨a, _, rfl, d1, fun G2 d2 => ?_⟩
    walk_at "ev"
    refine ⟨a, _, rfl, d2, fun G3 d3 => ?_⟩
    walk_at "ev"
    exact hn _ _ ⟨fun z hz => hd z (List.mem_cons_of_mem _ hz), _, _, rfl⟩
  · unfold rangeD at hd
    obtain ⟨k, _, e⟩ := List.mem_map.mp hd
    exact ⟨k, by rw [← e, Int.zero_add]⟩
end K22

set_option Elab.async false
set_option maxRecDepth 100000
set_option maxHeartbeats 4000000
/-! K22: the derivations (printed by gen.py) -/
namespace K22
open PySem PySem.Spec PyProof.Rows L2 L3 LD LN LP LO LB LC LE2 LF
def topS (i : Nat) : Stmt := PySem.Challenge.pw_touchtowers_k22_whole_counts_at_near_poi.main.body.getD i (.Pass ⟨0, 0, 0, 0⟩)
structure Txt (K : PySem.W.Frag) (mg : Str → Option Value) : Prop where
  n_abs : mg "abs" = none
  n_all : mg "all" = none
  n_bool : mg "bool" = none
  n_enumerate : mg "enumerate" = none
  n_int : mg "int" = none
  n_isinstance : mg "isinstance" = none
  n_len : mg "len" = none
  n_list : mg "list" = none
  n_max : mg "max" = none
  n_min : mg "min" = none
  n_range : mg "range" = none
  n_str : mg "str" = none
  n_sum : mg "sum" = none
  n_tuple : mg "tuple" = none
  g_BLANK : ∃ t, mg "BLANK" = some (.str " " t)
  g_GREAT : ∃ t, mg "GREAT" = some (.int (1000000000000000000000000000000000000000000000000000000000000) t)
  g_MAX_HEIGHT : ∃ t, mg "MAX_HEIGHT" = some (.int (200) t)
  g_MAX_LETTERS : ∃ t, mg "MAX_LETTERS" = some (.int (60) t)
  g_ORIGIN_TEXT : ∃ t, mg "ORIGIN_TEXT" = some (.str "." t)
  g_PRIMES : TupAt K mg "PRIMES" [2, 3, 5, 7, 11, 13, 17, 19, 23, 29, 31]
  g_TURN : ∃ t, mg "TURN" = some (.int (-1) t)
  g_TURN_TEXT : ∃ t, mg "TURN_TEXT" = some (.str "t" t)
  sl_Branch_own_prime : SlotAt K "Branch" "own_prime" 0
  sl_Branch_own_text : SlotAt K "Branch" "own_text" 1
  sl_Branch_own_word : SlotAt K "Branch" "own_word" 2
  isi_Branch_Branch : Isi3 K "Branch" "Branch" true
  k_Branch : ∃ C, ClsN K "Branch" C ∧ mg "Branch" = some (.ref C)
section
variable {P : Program} {w : World} {K : PySem.W.Frag} {mg : Str → Option Value} {base : Heap}
abbrev s_is_whole : Stmt := topS 11
abbrev N_is_whole : List Str := ["value"]
theorem sc_is_whole : FnScope N_is_whole ["value"] (defScope s_is_whole) := ⟨rfl, rfl, rfl, by decide +kernel, rfl, by decide +kernel, by decide +kernel⟩
theorem ok_is_whole (T : Txt K mg) (d_is_whole : DefAt K mg "is_whole" s_is_whole)  : Cal3 P w K mg base "is_whole" 2 ["value"] sp_is_whole :=
  cal3 d_is_whole (fun _ _ _ _ _ _ us hl => match us, hl with | [_], _ => rfl) sc_is_whole len_is_whole fun f cdv A outer s H E B dw hr wk => ⟨t_is_whole dw,
    (lss_one (ls_ret (le_and (le_isi (by rfl) T.n_isinstance (lp_cons (le_pv (pv 0)) (lp_cons (le_ty (by rfl) T.n_int (by decide +kernel)) lp_nil))) (le_one (le_not (le_isi (by rfl) T.n_isinstance (lp_cons (le_pv (pv 0)) (lp_cons (le_ty (by rfl) T.n_bool (by decide +kernel)) lp_nil)))))))),
    fun ds G q h => p_is_whole N_is_whole rfl ds G q dw h⟩
abbrev s_is_integer : Stmt := topS 12
abbrev N_is_integer : List Str := ["value"]
theorem sc_is_integer : FnScope N_is_integer ["value"] (defScope s_is_integer) := ⟨rfl, rfl, rfl, by decide +kernel, rfl, by decide +kernel, by decide +kernel⟩
theorem ok_is_integer (T : Txt K mg) (d_is_integer : DefAt K mg "is_integer" s_is_integer) (c_is_whole : Cal3 P w K mg base "is_whole" 2 ["value"] sp_is_whole) : Cal3 P w K mg base "is_integer" 3 ["value"] sp_is_integer :=
  cal3 d_is_integer (fun _ _ _ _ _ _ us hl => match us, hl with | [_], _ => rfl) sc_is_integer len_is_integer fun f cdv A outer s H E B dw hr wk => ⟨t_is_integer dw,
    (lss_one (ls_ret (le_and (le_callC c_is_whole hr (by decide) wk (by rfl) (la_cons (le_pv (pv 0)) la_nil)) (le_one (le_ch on_lt on_lt (le_neg (le_gint (by rfl) T.g_GREAT)) (le_pv (pv 0)) (le_gint (by rfl) T.g_GREAT)))))),
    fun ds G q h => p_is_integer N_is_integer rfl ds G q dw h⟩
abbrev s_is_prime : Stmt := topS 13
abbrev N_is_prime : List Str := ["value"]
theorem sc_is_prime : FnScope N_is_prime ["value"] (defScope s_is_prime) := ⟨rfl, rfl, rfl, by decide +kernel, rfl, by decide +kernel, by decide +kernel⟩
theorem ok_is_prime (T : Txt K mg) (d_is_prime : DefAt K mg "is_prime" s_is_prime) (c_is_whole : Cal3 P w K mg base "is_whole" 2 ["value"] sp_is_whole) : Cal3 P w K mg base "is_prime" 3 ["value"] sp_is_prime :=
  cal3 d_is_prime (fun _ _ _ _ _ _ us hl => match us, hl with | [_], _ => rfl) sc_is_prime len_is_prime fun f cdv A outer s H E B dw hr wk => ⟨t_is_prime dw,
    (lss_one (ls_ret (le_and (le_callC c_is_whole hr (by decide) wk (by rfl) (la_cons (le_pv (pv 0)) la_nil)) (le_one (le_in hr (le_pv (pv 0)) (le_gtup (by rfl) T.g_PRIMES)))))),
    fun ds G q h => p_is_prime N_is_prime rfl ds G q dw h⟩
abbrev s_require_prime : Stmt := topS 20
abbrev N_require_prime : List Str := ["value"]
theorem sc_require_prime : FnScope N_require_prime ["value"] (defScope s_require_prime) := ⟨rfl, rfl, rfl, by decide +kernel, rfl, by decide +kernel, by decide +kernel⟩
theorem ok_require_prime (T : Txt K mg) (d_require_prime : DefAt K mg "require_prime" s_require_prime) (c_is_prime : Cal3 P w K mg base "is_prime" 3 ["value"] sp_is_prime) : Cal3 P w K mg base "require_prime" 4 ["value"] sp_require_prime :=
  cal3 d_require_prime (fun _ _ _ _ _ _ us hl => match us, hl with | [_], _ => rfl) sc_require_prime len_require_prime fun f cdv A outer s H E B dw hr wk => ⟨t_require_prime dw,
    (lss_one (ls_if (lt_not (lt_val (le_callC c_is_prime hr (by decide) wk (by rfl) (la_cons (le_pv (pv 0)) la_nil)))) (lss_one ls_never) lss_nil)),
    fun ds G q h => p_require_prime N_require_prime rfl ds G q dw h⟩
abbrev s_require_count : Stmt := topS 21
abbrev N_require_count : List Str := ["value", "least", "most"]
theorem sc_require_count : FnScope N_require_count ["value", "least", "most"] (defScope s_require_count) := ⟨rfl, rfl, rfl, by decide +kernel, rfl, by decide +kernel, by decide +kernel⟩
theorem ok_require_count (T : Txt K mg) (d_require_count : DefAt K mg "require_count" s_require_count) (c_is_integer : Cal3 P w K mg base "is_integer" 3 ["value"] sp_is_integer) : Cal3 P w K mg base "require_count" 4 ["value", "least", "most"] sp_require_count :=
  cal3 d_require_count (fun _ _ _ _ _ _ us hl => match us, hl with | [_, _, _], _ => rfl) sc_require_count len_require_count fun f cdv A outer s H E B dw hr wk => ⟨t_require_count dw,
    (lss_one (ls_if (LW.lt (lw_or (lt_not (lt_val (le_callC c_is_integer hr (by decide) wk (by rfl) (la_cons (le_pv (pv 0)) la_nil)))) (lw_or1 (lt_not (lt_ch on_le on_le (le_pv (pv 1)) (le_pv (pv 0)) (le_pv (pv 2))))))) (lss_one ls_never) lss_nil)),
    fun ds G q h => p_require_count N_require_count rfl ds G q dw h⟩
abbrev s_is_letter : Stmt := topS 22
abbrev N_is_letter : List Str := ["prime", "value"]
theorem sc_is_letter : FnScope N_is_letter ["prime", "value"] (defScope s_is_letter) := ⟨rfl, rfl, rfl, by decide +kernel, rfl, by decide +kernel, by decide +kernel⟩
theorem ok_is_letter (T : Txt K mg) (d_is_letter : DefAt K mg "is_letter" s_is_letter) (c_is_integer : Cal3 P w K mg base "is_integer" 3 ["value"] sp_is_integer) : Cal3 P w K mg base "is_letter" 4 ["prime", "value"] sp_is_letter :=
  cal3 d_is_letter (fun _ _ _ _ _ _ us hl => match us, hl with | [_, _], _ => rfl) sc_is_letter len_is_letter fun f cdv A outer s H E B dw hr wk => ⟨t_is_letter dw,
    (lss_one (ls_ret (le_and (le_callC c_is_integer hr (by decide) wk (by rfl) (la_cons (le_pv (pv 1)) la_nil)) (le_one (le_ch on_le on_lt (le_gint (by rfl) T.g_TURN) (le_pv (pv 1)) (le_pv (pv 0))))))),
    fun ds G q h => p_is_letter N_is_letter rfl ds G q dw h⟩
abbrev s_are_letters : Stmt := topS 23
abbrev N_are_letters : List Str := ["prime", "value", "letter"]
theorem sc_are_letters : FnScope N_are_letters ["prime", "value"] (defScope s_are_letters) := ⟨rfl, rfl, rfl, by decide +kernel, rfl, by decide +kernel, by decide +kernel⟩
theorem ok_are_letters (T : Txt K mg) (d_are_letters : DefAt K mg "are_letters" s_are_letters) (c_is_letter : Cal3 P w K mg base "is_letter" 4 ["prime", "value"] sp_is_letter) : Cal3 P w K mg base "are_letters" 5 ["prime", "value"] sp_are_letters :=
  cal3 d_are_letters (fun _ _ _ _ _ _ us hl => match us, hl with | [_, _], _ => rfl) sc_are_letters len_are_letters fun f cdv A outer s H E B dw hr wk => ⟨t_are_letters dw,
    (lss_cons (ls_if (LW.lt (lw_or (lt_not (lt_val (le_isi (by rfl) T.n_isinstance (lp_cons (le_pv (pv 1)) (lp_cons (le_ty (by rfl) T.n_tuple (by decide +kernel)) lp_nil))))) (lw_or1 (lt_gt (le_len (by rfl) T.n_len (lp_cons (le_pv (pv 1)) lp_nil)) (le_gint (by rfl) T.g_MAX_LETTERS))))) (lss_one (ls_ret le_bl)) lss_nil)
      (lss_one (ls_ret (le_all rfl (by rfl) T.n_all (lp_cons (le_lc (own := [("letter", 2)]) rfl sc_are_letters.nd (li_seq (le_pv (pv 1))) (blkOk_by (N := N_are_letters) (sc := defScope s_are_letters) (by decide +kernel)) (fun _ _ _ _ _ => (lg_name (i := 2) sc_are_letters.nd rfl (by first | exact Or.inl rfl | exact Or.inr rfl) (by decide))) (fun _ _ _ _ _ => lts_nil) (fun _ _ _ _ _ => (le_callC c_is_letter hr (by decide) wok0 (by rfl) (la_cons (le_pv (pv 0)) (la_cons (le_pv (pv 2)) la_nil))))) lp_nil))))),
    fun ds G q h => p_are_letters N_are_letters rfl ds G q dw h⟩
abbrev s_ends_as_word : Stmt := topS 24
abbrev N_ends_as_word : List Str := ["point"]
theorem sc_ends_as_word : FnScope N_ends_as_word ["point"] (defScope s_ends_as_word) := ⟨rfl, rfl, rfl, by decide +kernel, rfl, by decide +kernel, by decide +kernel⟩
theorem ok_ends_as_word (T : Txt K mg) (d_ends_as_word : DefAt K mg "ends_as_word" s_ends_as_word)  : Cal3 P w K mg base "ends_as_word" 2 ["point"] sp_ends_as_word :=
  cal3 d_ends_as_word (fun _ _ _ _ _ _ us hl => match us, hl with | [_], _ => rfl) sc_ends_as_word len_ends_as_word fun f cdv A outer s H E B dw hr wk => ⟨t_ends_as_word dw,
    (lss_one (ls_ret (le_or (le_in hr (le_pv (pv 0)) (le_tup (la_cons (le_tup la_nil) (la_cons (le_tup (la_cons (le_gint (by rfl) T.g_TURN) la_nil)) la_nil)))) (le_one (le_gt (le_item (le_pv (pv 0)) (le_neg le_int)) le_int))))),
    fun ds G q h => p_ends_as_word N_ends_as_word rfl ds G q dw h⟩
abbrev s_is_point : Stmt := topS 25
abbrev N_is_point : List Str := ["prime", "value"]
theorem sc_is_point : FnScope N_is_point ["prime", "value"] (defScope s_is_point) := ⟨rfl, rfl, rfl, by decide +kernel, rfl, by decide +kernel, by decide +kernel⟩
theorem ok_is_point (T : Txt K mg) (d_is_point : DefAt K mg "is_point" s_is_point) (c_require_prime : Cal3 P w K mg base "require_prime" 4 ["value"] sp_require_prime) (c_are_letters : Cal3 P w K mg base "are_letters" 5 ["prime", "value"] sp_are_letters) : Cal3 P w K mg base "is_point" 6 ["prime", "value"] sp_is_point :=
  cal3 d_is_point (fun _ _ _ _ _ _ us hl => match us, hl with | [_, _], _ => rfl) sc_is_point len_is_point fun f cdv A outer s H E B dw hr wk => ⟨t_is_point dw,
    (lss_cons (ls_expr (le_callC c_require_prime hr (by decide) wk (by rfl) (la_cons (le_pv (pv 0)) la_nil)))
      (lss_one (ls_ret (le_callC c_are_letters hr (by decide) wk (by rfl) (la_cons (le_pv (pv 0)) (la_cons (le_pv (pv 1)) la_nil)))))),
    fun ds G q h => p_is_point N_is_point rfl ds G q dw h⟩
abbrev s_letters_text : Stmt := topS 26
abbrev N_letters_text : List Str := ["point", "letter"]
theorem sc_letters_text : FnScope N_letters_text ["point"] (defScope s_letters_text) := ⟨rfl, rfl, rfl, by decide +kernel, rfl, by decide +kernel, by decide +kernel⟩
theorem ok_letters_text (T : Txt K mg) (d_letters_text : DefAt K mg "letters_text" s_letters_text)  : Cal3 P w K mg base "letters_text" 2 ["point"] sp_letters_text :=
  cal3 d_letters_text (fun _ _ _ _ _ _ us hl => match us, hl with | [_], _ => rfl) sc_letters_text len_letters_text fun f cdv A outer s H E B dw hr wk => ⟨t_letters_text dw,
    (lss_cons (ls_if (lt_eq hr (le_pv (pv 0)) (le_tup la_nil)) (lss_one (ls_ret (le_gstr (by rfl) T.g_ORIGIN_TEXT))) lss_nil)
      (lss_one (ls_ret (le_join (le_gstr (by rfl) T.g_BLANK) (le_lc (own := [("letter", 1)]) rfl sc_letters_text.nd (li_seq (le_pv (pv 0))) (blkOk_by (N := N_letters_text) (sc := defScope s_letters_text) (by decide +kernel)) (fun _ _ _ _ _ => (lg_name (i := 1) sc_letters_text.nd rfl (by first | exact Or.inl rfl | exact Or.inr rfl) (by decide))) (fun _ _ _ _ _ => lts_nil) (fun _ _ _ _ _ => (le_ifExp (lt_eq hr (le_pv (pv 1)) (le_gint (by rfl) T.g_TURN)) (le_gstr (by rfl) T.g_TURN_TEXT) (le_strOf (by rfl) T.n_str (lp_cons (le_pv (pv 1)) lp_nil))))))))),
    fun ds G q h => p_letters_text N_letters_text rfl ds G q dw h⟩
abbrev s_Branch_init : Stmt := inClass (topS 29) 1
abbrev N_Branch_init : List Str := ["self", "prime", "word"]
theorem sc_Branch_init : FnScope N_Branch_init ["self", "prime", "word"] (defScope s_Branch_init) := ⟨rfl, rfl, rfl, by decide +kernel, rfl, by decide +kernel, by decide +kernel⟩
theorem ok_Branch_init (T : Txt K mg) (d_Branch_init : MethAt K "Branch" "__init__" "Branch.__init__" s_Branch_init) (m_Branch : MakeAt K mg "Branch") (c_require_prime : Cal3 P w K mg base "require_prime" 4 ["value"] sp_require_prime) (c_are_letters : Cal3 P w K mg base "are_letters" 5 ["prime", "value"] sp_are_letters) (c_ends_as_word : Cal3 P w K mg base "ends_as_word" 2 ["point"] sp_ends_as_word) (c_letters_text : Cal3 P w K mg base "letters_text" 2 ["point"] sp_letters_text) : New3 P w K mg base "Branch" 6 sp_Branch_init :=
  new3 m_Branch d_Branch_init (fun _ _ _ _ _ _ us hl => match us, hl with | [_, _, _], _ => rfl) sc_Branch_init (by decide) len_Branch_init fun f cdv A outer s H E B dw hr wk => ⟨t_Branch_init dw,
    (lss_cons (ls_expr (le_callC c_require_prime hr (by decide) wk (by rfl) (la_cons (le_pv (pv 1)) la_nil)))
      (lss_cons (ls_if (LW.lt (lw_or (lt_not (lt_val (le_callC c_are_letters hr (by decide) wk (by rfl) (la_cons (le_pv (pv 1)) (la_cons (le_pv (pv 2)) la_nil))))) (lw_or1 (lt_not (lt_val (le_callC c_ends_as_word hr (by decide) wk (by rfl) (la_cons (le_pv (pv 2)) la_nil))))))) (lss_one ls_never) lss_nil)
      (lss_cons (ls_attr [("Branch", 0)] (tbl_cons T.sl_Branch_own_prime tbl_nil) (pv 0) (le_pv (pv 1)))
      (lss_cons (ls_attr [("Branch", 2)] (tbl_cons T.sl_Branch_own_word tbl_nil) (pv 0) (le_pv (pv 2)))
      (lss_one (ls_attr [("Branch", 1)] (tbl_cons T.sl_Branch_own_text tbl_nil) (pv 0) (le_fstr (.cons (le_fmt (le_callC c_letters_text hr (by decide) wk (by rfl) (la_cons (le_pv (pv 2)) la_nil))) (.cons le_str (.cons (le_fmt (le_pv (pv 1))) .nil)))))))))),
    fun ds G q h => p_Branch_init N_Branch_init rfl ds G q dw h⟩
abbrev s_Branch_prime : Stmt := inClass (topS 29) 3
abbrev N_Branch_prime : List Str := ["self"]
theorem sc_Branch_prime : FnScope N_Branch_prime ["self"] (defScope s_Branch_prime) := ⟨rfl, rfl, rfl, by decide +kernel, rfl, by decide +kernel, by decide +kernel⟩
theorem ok_Branch_prime (T : Txt K mg) (d_Branch_prime : PropAt K "Branch" "prime" "Branch.prime" s_Branch_prime)  : Prop3 P w K mg base "Branch" "prime" 2 sp_Branch_prime :=
  prop3 d_Branch_prime (fun _ _ _ _ _ _ us hl => match us, hl with | [_], _ => rfl) sc_Branch_prime len_Branch_prime fun f cdv A outer s H E B dw hr => ⟨t_Branch_prime dw,
    (lss_one (ls_ret (le_attr [("Branch", 0)] (tbl_cons T.sl_Branch_own_prime tbl_nil) (le_pv (pv 0))))),
    fun ds G q h => p_Branch_prime N_Branch_prime rfl ds G q dw h⟩
abbrev s_Branch_word : Stmt := inClass (topS 29) 4
abbrev N_Branch_word : List Str := ["self"]
theorem sc_Branch_word : FnScope N_Branch_word ["self"] (defScope s_Branch_word) := ⟨rfl, rfl, rfl, by decide +kernel, rfl, by decide +kernel, by decide +kernel⟩
theorem ok_Branch_word (T : Txt K mg) (d_Branch_word : PropAt K "Branch" "word" "Branch.word" s_Branch_word)  : Prop3 P w K mg base "Branch" "word" 2 sp_Branch_word :=
  prop3 d_Branch_word (fun _ _ _ _ _ _ us hl => match us, hl with | [_], _ => rfl) sc_Branch_word len_Branch_word fun f cdv A outer s H E B dw hr => ⟨t_Branch_word dw,
    (lss_one (ls_ret (le_attr [("Branch", 2)] (tbl_cons T.sl_Branch_own_word tbl_nil) (le_pv (pv 0))))),
    fun ds G q h => p_Branch_word N_Branch_word rfl ds G q dw h⟩
abbrev s_Branch_point_at : Stmt := inClass (topS 29) 7
abbrev N_Branch_point_at : List Str := ["self", "height"]
theorem sc_Branch_point_at : FnScope N_Branch_point_at ["self", "height"] (defScope s_Branch_point_at) := ⟨rfl, rfl, rfl, by decide +kernel, rfl, by decide +kernel, by decide +kernel⟩
theorem ok_Branch_point_at (T : Txt K mg) (d_Branch_point_at : MethAt K "Branch" "point_at" "Branch.point_at" s_Branch_point_at) (q_Branch_point_at : SClsN K "Branch") (c_require_count : Cal3 P w K mg base "require_count" 4 ["value", "least", "most"] sp_require_count) (c_point_on : Cal3 P w K mg base "point_on" 2 ["word", "height"] sp_point_on) : Meth3 P w K mg base "Branch" "point_at" 5 sp_Branch_point_at :=
  meth3 q_Branch_point_at d_Branch_point_at (fun _ _ _ _ _ _ us hl => match us, hl with | [_, _], _ => rfl) sc_Branch_point_at len_Branch_point_at fun f cdv A outer s H E B dw hr wk => ⟨t_Branch_point_at dw,
    (lss_cons (ls_expr (le_callC c_require_count hr (by decide) wk (by rfl) (la_cons (le_pv (pv 1)) (la_cons le_int (la_cons (le_gint (by rfl) T.g_MAX_LETTERS) la_nil)))))
      (lss_one (ls_ret (le_callC c_point_on hr (by decide) wk (by rfl) (la_cons (le_attr [("Branch", 2)] (tbl_cons T.sl_Branch_own_word tbl_nil) (le_pv (pv 0))) (la_cons (le_pv (pv 1)) la_nil)))))),
    fun ds G q h => p_Branch_point_at N_Branch_point_at rfl ds G q dw h⟩
abbrev s_point_on : Stmt := topS 30
abbrev N_point_on : List Str := ["word", "height", "place"]
theorem sc_point_on : FnScope N_point_on ["word", "height"] (defScope s_point_on) := ⟨rfl, rfl, rfl, by decide +kernel, rfl, by decide +kernel, by decide +kernel⟩
theorem ok_point_on (T : Txt K mg) (d_point_on : DefAt K mg "point_on" s_point_on)  : Cal3 P w K mg base "point_on" 2 ["word", "height"] sp_point_on :=
  cal3 d_point_on (fun _ _ _ _ _ _ us hl => match us, hl with | [_, _], _ => rfl) sc_point_on len_point_on fun f cdv A outer s H E B dw hr wk => ⟨t_point_on dw,
    (lss_one (ls_ret (le_tup (la_star (le_cut (le_pv (pv 0)) lo_none (lo_some (le_pv (pv 1)))) (la_star (le_lc (own := [("place", 2)]) rfl sc_point_on.nd (li_range2 (by rfl) T.n_range (la_cons (le_len (by rfl) T.n_len (lp_cons (le_pv (pv 0)) lp_nil)) (la_cons (le_pv (pv 1)) la_nil))) (blkOk_by (N := N_point_on) (sc := defScope s_point_on) (by decide +kernel)) (fun _ _ _ _ _ => (lg_name (i := 2) sc_point_on.nd rfl (by first | exact Or.inl rfl | exact Or.inr rfl) (by decide))) (fun _ _ _ _ _ => lts_nil) (fun _ _ _ _ _ => le_int)) la_nil))))),
    fun ds G q h => p_point_on N_point_on rfl ds G q dw h⟩
abbrev s_require_point : Stmt := topS 33
abbrev N_require_point : List Str := ["prime", "value"]
theorem sc_require_point : FnScope N_require_point ["prime", "value"] (defScope s_require_point) := ⟨rfl, rfl, rfl, by decide +kernel, rfl, by decide +kernel, by decide +kernel⟩
theorem ok_require_point (T : Txt K mg) (d_require_point : DefAt K mg "require_point" s_require_point) (c_is_point : Cal3 P w K mg base "is_point" 6 ["prime", "value"] sp_is_point) : Cal3 P w K mg base "require_point" 7 ["prime", "value"] sp_require_point :=
  cal3 d_require_point (fun _ _ _ _ _ _ us hl => match us, hl with | [_, _], _ => rfl) sc_require_point len_require_point fun f cdv A outer s H E B dw hr wk => ⟨t_require_point dw,
    (lss_one (ls_if (lt_not (lt_val (le_callC c_is_point hr (by decide) wk (by rfl) (la_cons (le_pv (pv 0)) (la_cons (le_pv (pv 1)) la_nil))))) (lss_one ls_never) lss_nil)),
    fun ds G q h => p_require_point N_require_point rfl ds G q dw h⟩
abbrev s_require_branch : Stmt := topS 34
abbrev N_require_branch : List Str := ["value"]
theorem sc_require_branch : FnScope N_require_branch ["value"] (defScope s_require_branch) := ⟨rfl, rfl, rfl, by decide +kernel, rfl, by decide +kernel, by decide +kernel⟩
theorem ok_require_branch (T : Txt K mg) (d_require_branch : DefAt K mg "require_branch" s_require_branch)  : Cal3 P w K mg base "require_branch" 2 ["value"] sp_require_branch :=
  cal3 d_require_branch (fun _ _ _ _ _ _ us hl => match us, hl with | [_], _ => rfl) sc_require_branch len_require_branch fun f cdv A outer s H E B dw hr wk => ⟨t_require_branch dw,
    (lss_one (ls_if (lt_not (lt_val (le_isiC [(("Branch", "Branch"), true)] (isi_cons T.isi_Branch_Branch isi_nil) (by rfl) T.n_isinstance (lp_cons (le_pv (pv 0)) (lp_cons (le_cls (by rfl) T.k_Branch) lp_nil))))) (lss_one ls_never) lss_nil)),
    fun ds G q h => p_require_branch N_require_branch rfl ds G q dw h⟩
abbrev s_require_height : Stmt := topS 35
abbrev N_require_height : List Str := ["value", "least"]
theorem sc_require_height : FnScope N_require_height ["value", "least"] (defScope s_require_height) := ⟨rfl, rfl, rfl, by decide +kernel, rfl, by decide +kernel, by decide +kernel⟩
theorem ok_require_height (T : Txt K mg) (d_require_height : DefAt K mg "require_height" s_require_height) (c_is_integer : Cal3 P w K mg base "is_integer" 3 ["value"] sp_is_integer) : Cal3 P w K mg base "require_height" 4 ["value", "least"] sp_require_height :=
  cal3 d_require_height (fun _ _ _ _ _ _ us hl => match us, hl with | [_, _], _ => rfl) sc_require_height len_require_height fun f cdv A outer s H E B dw hr wk => ⟨t_require_height dw,
    (lss_one (ls_if (LW.lt (lw_or (lt_not (lt_val (le_callC c_is_integer hr (by decide) wk (by rfl) (la_cons (le_pv (pv 0)) la_nil)))) (lw_or1 (lt_not (lt_ch on_le on_le (le_pv (pv 1)) (le_pv (pv 0)) (le_gint (by rfl) T.g_MAX_HEIGHT)))))) (lss_one ls_never) lss_nil)),
    fun ds G q h => p_require_height N_require_height rfl ds G q dw h⟩
abbrev s_second_below : Stmt := topS 36
abbrev N_second_below : List Str := ["point", "size"]
theorem sc_second_below : FnScope N_second_below ["point"] (defScope s_second_below) := ⟨rfl, rfl, rfl, by decide +kernel, rfl, by decide +kernel, by decide +kernel⟩
theorem ok_second_below (T : Txt K mg) (d_second_below : DefAt K mg "second_below" s_second_below)  : Cal3 P w K mg base "second_below" 2 ["point"] sp_second_below :=
  cal3 d_second_below (fun _ _ _ _ _ _ us hl => match us, hl with | [_], _ => rfl) sc_second_below len_second_below fun f cdv A outer s H E B dw hr wk => ⟨t_second_below dw,
    (lss_cons (ls_set (i := 1) sc_second_below.nd rfl (by first | exact Or.inl rfl | exact Or.inr rfl) (le_len (by rfl) T.n_len (lp_cons (le_pv (pv 0)) lp_nil)))
      (lss_cons (ls_while (passes_of rfl) (LW.lt (lw_and (lt_gt (le_pv (pv 1)) le_int) (lw_and1 (lt_eq hr (le_item (le_pv (pv 0)) (le_sub (le_pv (pv 1)) le_int)) le_int)))) (lss_one (ls_aug (i := 1) sc_second_below.nd rfl (by first | exact Or.inl rfl | exact Or.inr rfl) le_int ip_subI r_sub3)))
      (lss_cons (ls_if (LW.lt (lw_or (lt_lt (le_pv (pv 1)) le_int) (lw_or1 (lt_ne hr (le_item (le_pv (pv 0)) (le_sub (le_pv (pv 1)) le_int)) (le_gint (by rfl) T.g_TURN))))) (lss_one (ls_ret le_non)) lss_nil)
      (lss_one (ls_ret (le_cut (le_pv (pv 0)) lo_none (lo_some (le_sub (le_pv (pv 1)) le_int)))))))),
    fun ds G q h => p_second_below N_second_below rfl ds G q dw h⟩
abbrev s_nears_of : Stmt := topS 37
abbrev N_nears_of : List Str := ["point", "second"]
theorem sc_nears_of : FnScope N_nears_of ["point"] (defScope s_nears_of) := ⟨rfl, rfl, rfl, by decide +kernel, rfl, by decide +kernel, by decide +kernel⟩
theorem ok_nears_of (T : Txt K mg) (d_nears_of : DefAt K mg "nears_of" s_nears_of) (c_second_below : Cal3 P w K mg base "second_below" 2 ["point"] sp_second_below) : Cal3 P w K mg base "nears_of" 3 ["point"] sp_nears_of :=
  cal3 d_nears_of (fun _ _ _ _ _ _ us hl => match us, hl with | [_], _ => rfl) sc_nears_of len_nears_of fun f cdv A outer s H E B dw hr wk => ⟨t_nears_of dw,
    (lss_cons (ls_if (lt_eq hr (le_pv (pv 0)) (le_tup la_nil)) (lss_one (ls_ret (le_tup la_nil))) lss_nil)
      (lss_cons (ls_set (i := 1) sc_nears_of.nd rfl (by first | exact Or.inl rfl | exact Or.inr rfl) (le_callC c_second_below hr (by decide) wk (by rfl) (la_cons (le_pv (pv 0)) la_nil)))
      (lss_one (ls_ret (le_ifExp (lt_isN (le_pv (pv 1)) le_non) (le_tup (la_cons (le_cut (le_pv (pv 0)) lo_none (lo_some (le_neg le_int))) la_nil)) (le_tup (la_cons (le_cut (le_pv (pv 0)) lo_none (lo_some (le_neg le_int))) (la_cons (le_pv (pv 1)) la_nil)))))))),
    fun ds G q h => p_nears_of N_nears_of rfl ds G q dw h⟩
abbrev s_is_near : Stmt := topS 38
abbrev N_is_near : List Str := ["prime", "one", "other"]
theorem sc_is_near : FnScope N_is_near ["prime", "one", "other"] (defScope s_is_near) := ⟨rfl, rfl, rfl, by decide +kernel, rfl, by decide +kernel, by decide +kernel⟩
theorem ok_is_near (T : Txt K mg) (d_is_near : DefAt K mg "is_near" s_is_near) (c_require_point : Cal3 P w K mg base "require_point" 7 ["prime", "value"] sp_require_point) (c_nears_of : Cal3 P w K mg base "nears_of" 3 ["point"] sp_nears_of) : Cal3 P w K mg base "is_near" 8 ["prime", "one", "other"] sp_is_near :=
  cal3 d_is_near (fun _ _ _ _ _ _ us hl => match us, hl with | [_, _, _], _ => rfl) sc_is_near len_is_near fun f cdv A outer s H E B dw hr wk => ⟨t_is_near dw,
    (lss_cons (ls_expr (le_callC c_require_point hr (by decide) wk (by rfl) (la_cons (le_pv (pv 0)) (la_cons (le_pv (pv 1)) la_nil))))
      (lss_cons (ls_expr (le_callC c_require_point hr (by decide) wk (by rfl) (la_cons (le_pv (pv 0)) (la_cons (le_pv (pv 2)) la_nil))))
      (lss_one (ls_ret (le_in hr (le_pv (pv 2)) (le_callC c_nears_of hr (by decide) wk (by rfl) (la_cons (le_pv (pv 1)) la_nil))))))),
    fun ds G q h => p_is_near N_is_near rfl ds G q dw h⟩
abbrev s_all_orders : Stmt := topS 39
abbrev N_all_orders : List Str := ["word", "found", "letter", "one", "other"]
theorem sc_all_orders : FnScope N_all_orders ["word"] (defScope s_all_orders) := ⟨rfl, rfl, rfl, by decide +kernel, rfl, by decide +kernel, by decide +kernel⟩
theorem ok_all_orders (T : Txt K mg) (d_all_orders : DefAt K mg "all_orders" s_all_orders)  : Cal3 P w K mg base "all_orders" 2 ["word"] sp_all_orders :=
  cal3 d_all_orders (fun _ _ _ _ _ _ us hl => match us, hl with | [_], _ => rfl) sc_all_orders len_all_orders fun f cdv A outer s H E B dw hr wk => ⟨t_all_orders dw,
    (lss_cons (ls_set (i := 1) sc_all_orders.nd rfl (by first | exact Or.inl rfl | exact Or.inr rfl) (le_lst (la_cons (le_tup (la_cons le_int (la_cons le_non la_nil))) la_nil)))
      (lss_cons (ls_for (vs := [2]) (passes_of rfl) rfl (li_seq (le_revA (le_pv (pv 0)))) (lg_name (i := 2) sc_all_orders.nd rfl (by first | exact Or.inl rfl | exact Or.inr rfl) (by decide)) (lss_cons (ls_asg (vs := [3, 4]) (le_item (le_pv (pv 1)) (le_neg le_int)) (lg_tup rfl (lgs_cons (lg_name (i := 3) sc_all_orders.nd rfl (by first | exact Or.inl rfl | exact Or.inr rfl) (by decide)) (lgs_cons (lg_name (i := 4) sc_all_orders.nd rfl (by first | exact Or.inl rfl | exact Or.inr rfl) (by decide)) lgs_nil))))
      (lss_one (ls_if (lt_eq hr (le_pv (pv 2)) (le_gint (by rfl) T.g_TURN)) (lss_one (ls_expr (le_append (pv 1) (le_tup (la_cons (le_ifExp (lt_isN (le_pv (pv 4)) le_non) le_non (le_add (le_pv (pv 3)) (le_pv (pv 4)))) (la_cons (le_pv (pv 3)) la_nil)))))) (lss_one (ls_if (lt_eq hr (le_pv (pv 2)) le_int) (lss_one (ls_expr (le_append (pv 1) (le_tup (la_cons (le_pv (pv 3)) (la_cons (le_ifExp (lt_isN (le_pv (pv 4)) le_non) le_non (le_add (le_pv (pv 3)) (le_pv (pv 4)))) la_nil)))))) (lss_one (ls_expr (le_append (pv 1) (le_tup (la_cons (le_pv (pv 3)) (la_cons (le_pv (pv 3)) la_nil))))))))))))
      (lss_one (ls_ret (le_revA (le_pv (pv 1))))))),
    fun ds G q h => p_all_orders N_all_orders rfl ds G q dw h⟩
abbrev s_count_in : Stmt := topS 40
abbrev N_count_in : List Str := ["pair", "order"]
theorem sc_count_in : FnScope N_count_in ["pair"] (defScope s_count_in) := ⟨rfl, rfl, rfl, by decide +kernel, rfl, by decide +kernel, by decide +kernel⟩
theorem ok_count_in (T : Txt K mg) (d_count_in : DefAt K mg "count_in" s_count_in)  : Cal3 P w K mg base "count_in" 2 ["pair"] sp_count_in :=
  cal3 d_count_in (fun _ _ _ _ _ _ us hl => match us, hl with | [_], _ => rfl) sc_count_in len_count_in fun f cdv A outer s H E B dw hr wk => ⟨t_count_in dw,
    (lss_one (ls_ret (le_minL rfl (by rfl) T.n_min (lp_cons (le_lc (own := [("order", 1)]) rfl sc_count_in.nd (li_seq (le_pv (pv 0))) (blkOk_by (N := N_count_in) (sc := defScope s_count_in) (by decide +kernel)) (fun _ _ _ _ _ => (lg_name (i := 1) sc_count_in.nd rfl (by first | exact Or.inl rfl | exact Or.inr rfl) (by decide))) (fun _ _ _ _ _ => (lts_one (lt_notN (le_pv (pv 1)) le_non))) (fun _ _ _ _ _ => (le_pv (pv 1)))) lp_nil)))),
    fun ds G q h => p_count_in N_count_in rfl ds G q dw h⟩
abbrev s_all_counts : Stmt := topS 41
abbrev N_all_counts : List Str := ["word", "pair"]
theorem sc_all_counts : FnScope N_all_counts ["word"] (defScope s_all_counts) := ⟨rfl, rfl, rfl, by decide +kernel, rfl, by decide +kernel, by decide +kernel⟩
theorem ok_all_counts (T : Txt K mg) (d_all_counts : DefAt K mg "all_counts" s_all_counts) (c_all_orders : Cal3 P w K mg base "all_orders" 2 ["word"] sp_all_orders) (c_count_in : Cal3 P w K mg base "count_in" 2 ["pair"] sp_count_in) : Cal3 P w K mg base "all_counts" 3 ["word"] sp_all_counts :=
  cal3 d_all_counts (fun _ _ _ _ _ _ us hl => match us, hl with | [_], _ => rfl) sc_all_counts len_all_counts fun f cdv A outer s H E B dw hr wk => ⟨t_all_counts dw,
    (lss_one (ls_ret (le_lc (own := [("pair", 1)]) rfl sc_all_counts.nd (li_seq (le_callC c_all_orders hr (by decide) wk (by rfl) (la_cons (le_pv (pv 0)) la_nil))) (blkOk_by (N := N_all_counts) (sc := defScope s_all_counts) (by decide +kernel)) (fun _ _ _ _ _ => (lg_name (i := 1) sc_all_counts.nd rfl (by first | exact Or.inl rfl | exact Or.inr rfl) (by decide))) (fun _ _ _ _ _ => lts_nil) (fun _ _ _ _ _ => (le_callC c_count_in hr (by decide) wok0 (by rfl) (la_cons (le_pv (pv 1)) la_nil)))))),
    fun ds G q h => p_all_counts N_all_counts rfl ds G q dw h⟩
abbrev s_counts_to : Stmt := topS 42
abbrev N_counts_to : List Str := ["word", "size"]
theorem sc_counts_to : FnScope N_counts_to ["word", "size"] (defScope s_counts_to) := ⟨rfl, rfl, rfl, by decide +kernel, rfl, by decide +kernel, by decide +kernel⟩
theorem ok_counts_to (T : Txt K mg) (d_counts_to : DefAt K mg "counts_to" s_counts_to) (c_all_counts : Cal3 P w K mg base "all_counts" 3 ["word"] sp_all_counts) : Cal3 P w K mg base "counts_to" 4 ["word", "size"] sp_counts_to :=
  cal3 d_counts_to (fun _ _ _ _ _ _ us hl => match us, hl with | [_, _], _ => rfl) sc_counts_to len_counts_to fun f cdv A outer s H E B dw hr wk => ⟨t_counts_to dw,
    (lss_one (ls_ret (le_cut (le_add (le_callC c_all_counts hr (by decide) wk (by rfl) (la_cons (le_pv (pv 0)) la_nil)) (le_mul (le_lst (la_cons le_int la_nil)) (le_pv (pv 1)))) lo_none (lo_some (le_pv (pv 1)))))),
    fun ds G q h => p_counts_to N_counts_to rfl ds G q dw h⟩
abbrev s_orders_at : Stmt := topS 43
abbrev N_orders_at : List Str := ["branch", "height", "found"]
theorem sc_orders_at : FnScope N_orders_at ["branch", "height"] (defScope s_orders_at) := ⟨rfl, rfl, rfl, by decide +kernel, rfl, by decide +kernel, by decide +kernel⟩
theorem ok_orders_at (T : Txt K mg) (d_orders_at : DefAt K mg "orders_at" s_orders_at) (c_require_branch : Cal3 P w K mg base "require_branch" 2 ["value"] sp_require_branch) (c_require_height : Cal3 P w K mg base "require_height" 4 ["value", "least"] sp_require_height) (c_Branch_word : Prop3 P w K mg base "Branch" "word" 2 sp_Branch_word) (c_all_orders : Cal3 P w K mg base "all_orders" 2 ["word"] sp_all_orders) : Cal3 P w K mg base "orders_at" 5 ["branch", "height"] sp_orders_at :=
  cal3 d_orders_at (fun _ _ _ _ _ _ us hl => match us, hl with | [_, _], _ => rfl) sc_orders_at len_orders_at fun f cdv A outer s H E B dw hr wk => ⟨t_orders_at dw,
    (lss_cons (ls_expr (le_callC c_require_branch hr (by decide) wk (by rfl) (la_cons (le_pv (pv 0)) la_nil)))
      (lss_cons (ls_expr (le_callC c_require_height hr (by decide) wk (by rfl) (la_cons (le_pv (pv 1)) (la_cons le_int la_nil))))
      (lss_cons (ls_set (i := 2) sc_orders_at.nd rfl (by first | exact Or.inl rfl | exact Or.inr rfl) (le_callC c_all_orders hr (by decide) wk (by rfl) (la_cons (le_prop c_Branch_word hr (by decide) (le_pv (pv 0))) la_nil)))
      (lss_one (ls_ret (le_ifExp (lt_lt (le_pv (pv 1)) (le_len (by rfl) T.n_len (lp_cons (le_pv (pv 2)) lp_nil))) (le_item (le_pv (pv 2)) (le_pv (pv 1))) (le_tup (la_cons le_int (la_cons le_non la_nil))))))))),
    fun ds G q h => p_orders_at N_orders_at rfl ds G q dw h⟩
abbrev s_count_at : Stmt := topS 44
abbrev N_count_at : List Str := ["branch", "height"]
theorem sc_count_at : FnScope N_count_at ["branch", "height"] (defScope s_count_at) := ⟨rfl, rfl, rfl, by decide +kernel, rfl, by decide +kernel, by decide +kernel⟩
theorem ok_count_at (T : Txt K mg) (d_count_at : DefAt K mg "count_at" s_count_at) (c_orders_at : Cal3 P w K mg base "orders_at" 5 ["branch", "height"] sp_orders_at) (c_count_in : Cal3 P w K mg base "count_in" 2 ["pair"] sp_count_in) : Cal3 P w K mg base "count_at" 6 ["branch", "height"] sp_count_at :=
  cal3 d_count_at (fun _ _ _ _ _ _ us hl => match us, hl with | [_, _], _ => rfl) sc_count_at len_count_at fun f cdv A outer s H E B dw hr wk => ⟨t_count_at dw,
    (lss_one (ls_ret (le_callC c_count_in hr (by decide) wk (by rfl) (la_cons (le_callC c_orders_at hr (by decide) wk (by rfl) (la_cons (le_pv (pv 0)) (la_cons (le_pv (pv 1)) la_nil))) la_nil)))),
    fun ds G q h => p_count_at N_count_at rfl ds G q dw h⟩
abbrev s_counts_of : Stmt := topS 45
abbrev N_counts_of : List Str := ["branch", "height"]
theorem sc_counts_of : FnScope N_counts_of ["branch", "height"] (defScope s_counts_of) := ⟨rfl, rfl, rfl, by decide +kernel, rfl, by decide +kernel, by decide +kernel⟩
theorem ok_counts_of (T : Txt K mg) (d_counts_of : DefAt K mg "counts_of" s_counts_of) (c_require_branch : Cal3 P w K mg base "require_branch" 2 ["value"] sp_require_branch) (c_require_height : Cal3 P w K mg base "require_height" 4 ["value", "least"] sp_require_height) (c_Branch_word : Prop3 P w K mg base "Branch" "word" 2 sp_Branch_word) (c_counts_to : Cal3 P w K mg base "counts_to" 4 ["word", "size"] sp_counts_to) : Cal3 P w K mg base "counts_of" 5 ["branch", "height"] sp_counts_of :=
  cal3 d_counts_of (fun _ _ _ _ _ _ us hl => match us, hl with | [_, _], _ => rfl) sc_counts_of len_counts_of fun f cdv A outer s H E B dw hr wk => ⟨t_counts_of dw,
    (lss_cons (ls_expr (le_callC c_require_branch hr (by decide) wk (by rfl) (la_cons (le_pv (pv 0)) la_nil)))
      (lss_cons (ls_expr (le_callC c_require_height hr (by decide) wk (by rfl) (la_cons (le_pv (pv 1)) (la_cons le_int la_nil))))
      (lss_one (ls_ret (le_tuple (by rfl) T.n_tuple (lp_cons (le_callC c_counts_to hr (by decide) wk (by rfl) (la_cons (le_prop c_Branch_word hr (by decide) (le_pv (pv 0))) (la_cons (le_add (le_pv (pv 1)) le_int) la_nil))) lp_nil)))))),
    fun ds G q h => p_counts_of N_counts_of rfl ds G q dw h⟩
abbrev s__law_dice : Stmt := topS 47
abbrev N__law_dice : List Str := ["_law_script", "_law_spot", "_law_cell", "_law_left"]
theorem sc__law_dice : FnScope N__law_dice ["_law_script", "_law_spot"] (defScope s__law_dice) := ⟨rfl, rfl, rfl, by decide +kernel, rfl, by decide +kernel, by decide +kernel⟩
theorem ok__law_dice (T : Txt K mg) (d__law_dice : DefAt K mg "_law_dice" s__law_dice)  : Cal3 P w K mg base "_law_dice" 2 ["_law_script", "_law_spot"] sp__law_dice :=
  cal3 d__law_dice (fun _ _ _ _ _ _ us hl => match us, hl with | [_, _], _ => rfl) sc__law_dice len__law_dice fun f cdv A outer s H E B dw hr wk => ⟨t__law_dice dw,
    (lss_cons (ls_set (i := 2) sc__law_dice.nd rfl (by first | exact Or.inl rfl | exact Or.inr rfl) (le_ifExp (lt_lt (le_pv (pv 1)) (le_len (by rfl) T.n_len (lp_cons (le_pv (pv 0)) lp_nil))) (le_intOf (by rfl) T.n_int (lp_cons (le_item (le_pv (pv 0)) (le_pv (pv 1))) lp_nil)) (le_add (le_mul le_int (le_pv (pv 1))) le_int)))
      (lss_cons (ls_set (i := 3) sc__law_dice.nd rfl (by first | exact Or.inl rfl | exact Or.inr rfl) (le_mod (le_max2 rfl (by rfl) T.n_max (lp_cons le_int (lp_cons (le_sub (le_abs (by rfl) T.n_abs (lp_cons (le_pv (pv 2)) lp_nil)) (le_pow le_int le_int)) lp_nil))) (le_mul (le_pow le_int le_int) (le_pow le_int le_int))))
      (lss_one (ls_ret (le_lst (la_cons (le_pv (pv 3)) (la_cons (le_add (le_add (le_add (le_mul (le_mod (le_abs (by rfl) T.n_abs (lp_cons (le_pv (pv 2)) lp_nil)) le_int) le_int) (le_mul le_int (le_pv (pv 1)))) (le_mul le_int (le_intOf (by rfl) T.n_int (lp_cons (le_lt (le_pv (pv 2)) le_int) lp_nil)))) le_int) (la_cons le_int la_nil)))))))),
    fun ds G q h => p__law_dice N__law_dice rfl ds G q dw h⟩
abbrev s__law_roll : Stmt := topS 48
abbrev N__law_roll : List Str := ["_law_dice_here", "_law_total", "_law_found", "_law_one", "_law_two"]
theorem sc__law_roll : FnScope N__law_roll ["_law_dice_here", "_law_total"] (defScope s__law_roll) := ⟨rfl, rfl, rfl, by decide +kernel, rfl, by decide +kernel, by decide +kernel⟩
theorem ok__law_roll (T : Txt K mg) (d__law_roll : DefAt K mg "_law_roll" s__law_roll)  : Cal3 P w K mg base "_law_roll" 2 ["_law_dice_here", "_law_total"] sp__law_roll :=
  cal3 d__law_roll (fun _ _ _ _ _ _ us hl => match us, hl with | [_, _], _ => rfl) sc__law_roll len__law_roll fun f cdv A outer s H E B dw hr wk => ⟨t__law_roll dw,
    (lss_cons (ls_if (lt_gt (le_item (le_pv (pv 0)) le_int) le_int) (lss_cons (ls_set (i := 2) sc__law_roll.nd rfl (by first | exact Or.inl rfl | exact Or.inr rfl) (le_mod (le_intOf (by rfl) T.n_int (lp_cons (le_item (le_pv (pv 0)) le_int) lp_nil)) (le_pv (pv 1))))
      (lss_cons (ls_store (le_fdiv (le_item (le_pv (pv 0)) le_int) (le_pv (pv 1))) (le_pv (pv 0)) le_int)
      (lss_one (ls_ret (le_pv (pv 2)))))) lss_nil)
      (lss_cons (ls_store (le_add (le_item (le_pv (pv 0)) le_int) le_int) (le_pv (pv 0)) le_int)
      (lss_cons (ls_set (i := 3) sc__law_roll.nd rfl (by first | exact Or.inl rfl | exact Or.inr rfl) (le_mod (le_intOf (by rfl) T.n_int (lp_cons (le_add (le_item (le_pv (pv 0)) le_int) (le_mul le_int (le_item (le_pv (pv 0)) le_int))) lp_nil)) le_int))
      (lss_cons (ls_set (i := 4) sc__law_roll.nd rfl (by first | exact Or.inl rfl | exact Or.inr rfl) (le_add (le_mul (le_mod (le_intOf (by rfl) T.n_int (lp_cons (le_add (le_mul (le_pv (pv 3)) (le_pv (pv 3))) (le_mul le_int (le_item (le_pv (pv 0)) le_int))) lp_nil)) le_int) le_int) (le_pv (pv 3))))
      (lss_one (ls_ret (le_mod (le_intOf (by rfl) T.n_int (lp_cons (le_fdiv (le_pv (pv 4)) le_int) lp_nil)) (le_pv (pv 1))))))))),
    fun ds G q h => p__law_roll N__law_roll rfl ds G q dw h⟩
abbrev s__law_pick : Stmt := topS 49
abbrev N__law_pick : List Str := ["_law_dice_here", "_law_items"]
theorem sc__law_pick : FnScope N__law_pick ["_law_dice_here", "_law_items"] (defScope s__law_pick) := ⟨rfl, rfl, rfl, by decide +kernel, rfl, by decide +kernel, by decide +kernel⟩
theorem ok__law_pick (T : Txt K mg) (d__law_pick : DefAt K mg "_law_pick" s__law_pick) (c__law_roll : Cal3 P w K mg base "_law_roll" 2 ["_law_dice_here", "_law_total"] sp__law_roll) : Cal3 P w K mg base "_law_pick" 3 ["_law_dice_here", "_law_items"] sp__law_pick :=
  cal3 d__law_pick (fun _ _ _ _ _ _ us hl => match us, hl with | [_, _], _ => rfl) sc__law_pick len__law_pick fun f cdv A outer s H E B dw hr wk => ⟨t__law_pick dw,
    (lss_one (ls_ret (le_item (le_pv (pv 1)) (le_callC c__law_roll hr (by decide) wk (by rfl) (la_cons (le_pv (pv 0)) (la_cons (le_len (by rfl) T.n_len (lp_cons (le_pv (pv 1)) lp_nil)) la_nil)))))),
    fun ds G q h => p__law_pick N__law_pick rfl ds G q dw h⟩
abbrev s__law_letter : Stmt := topS 50
abbrev N__law_letter : List Str := ["_law_dice_here", "_law_prime", "_law_way"]
theorem sc__law_letter : FnScope N__law_letter ["_law_dice_here", "_law_prime"] (defScope s__law_letter) := ⟨rfl, rfl, rfl, by decide +kernel, rfl, by decide +kernel, by decide +kernel⟩
theorem ok__law_letter (T : Txt K mg) (d__law_letter : DefAt K mg "_law_letter" s__law_letter) (c__law_roll : Cal3 P w K mg base "_law_roll" 2 ["_law_dice_here", "_law_total"] sp__law_roll) : Cal3 P w K mg base "_law_letter" 3 ["_law_dice_here", "_law_prime"] sp__law_letter :=
  cal3 d__law_letter (fun _ _ _ _ _ _ us hl => match us, hl with | [_, _], _ => rfl) sc__law_letter len__law_letter fun f cdv A outer s H E B dw hr wk => ⟨t__law_letter dw,
    (lss_cons (ls_set (i := 2) sc__law_letter.nd rfl (by first | exact Or.inl rfl | exact Or.inr rfl) (le_callC c__law_roll hr (by decide) wk (by rfl) (la_cons (le_pv (pv 0)) (la_cons le_int la_nil))))
      (lss_one (ls_ret (le_ifExp (lt_lt (le_pv (pv 2)) le_int) (le_neg le_int) (le_ifExp (lt_eq hr (le_pv (pv 2)) le_int) le_int (le_callC c__law_roll hr (by decide) wk (by rfl) (la_cons (le_pv (pv 0)) (la_cons (le_pv (pv 1)) la_nil)))))))),
    fun ds G q h => p__law_letter N__law_letter rfl ds G q dw h⟩
abbrev s__law_point_drawn : Stmt := topS 51
abbrev N__law_point_drawn : List Str := ["_law_dice_here", "_law_prime", "_law_most", "_law_size", "_law_turn"]
theorem sc__law_point_drawn : FnScope N__law_point_drawn ["_law_dice_here", "_law_prime", "_law_most"] (defScope s__law_point_drawn) := ⟨rfl, rfl, rfl, by decide +kernel, rfl, by decide +kernel, by decide +kernel⟩
theorem ok__law_point_drawn (T : Txt K mg) (d__law_point_drawn : DefAt K mg "_law_point_drawn" s__law_point_drawn) (c__law_roll : Cal3 P w K mg base "_law_roll" 2 ["_law_dice_here", "_law_total"] sp__law_roll) (c__law_letter : Cal3 P w K mg base "_law_letter" 3 ["_law_dice_here", "_law_prime"] sp__law_letter) : Cal3 P w K mg base "_law_point_drawn" 4 ["_law_dice_here", "_law_prime", "_law_most"] sp__law_point_drawn :=
  cal3 d__law_point_drawn (fun _ _ _ _ _ _ us hl => match us, hl with | [_, _, _], _ => rfl) sc__law_point_drawn len__law_point_drawn fun f cdv A outer s H E B dw hr wk => ⟨t__law_point_drawn dw,
    (lss_cons (ls_set (i := 3) sc__law_point_drawn.nd rfl (by first | exact Or.inl rfl | exact Or.inr rfl) (le_max2 rfl (by rfl) T.n_max (lp_cons (le_callC c__law_roll hr (by decide) wk (by rfl) (la_cons (le_pv (pv 0)) (la_cons (le_add (le_pv (pv 2)) le_int) la_nil))) (lp_cons (le_callC c__law_roll hr (by decide) wk (by rfl) (la_cons (le_pv (pv 0)) (la_cons (le_add (le_pv (pv 2)) le_int) la_nil))) lp_nil))))
      (lss_one (ls_ret (le_tuple (by rfl) T.n_tuple (lp_cons (le_lc (own := [("_law_turn", 4)]) rfl sc__law_point_drawn.nd (li_range1 (by rfl) T.n_range (la_cons (le_pv (pv 3)) la_nil)) (blkOk_by (N := N__law_point_drawn) (sc := defScope s__law_point_drawn) (by decide +kernel)) (fun _ _ _ _ _ => (lg_name (i := 4) sc__law_point_drawn.nd rfl (by first | exact Or.inl rfl | exact Or.inr rfl) (by decide))) (fun _ _ _ _ _ => lts_nil) (fun _ _ _ _ _ => (le_callC c__law_letter hr (by decide) wok0 (by rfl) (la_cons (le_pv (pv 0)) (la_cons (le_pv (pv 1)) la_nil))))) lp_nil))))),
    fun ds G q h => p__law_point_drawn N__law_point_drawn rfl ds G q dw h⟩
abbrev s__law_word_drawn : Stmt := topS 52
abbrev N__law_word_drawn : List Str := ["_law_dice_here", "_law_prime", "_law_most", "_law_begun"]
theorem sc__law_word_drawn : FnScope N__law_word_drawn ["_law_dice_here", "_law_prime", "_law_most"] (defScope s__law_word_drawn) := ⟨rfl, rfl, rfl, by decide +kernel, rfl, by decide +kernel, by decide +kernel⟩
theorem ok__law_word_drawn (T : Txt K mg) (d__law_word_drawn : DefAt K mg "_law_word_drawn" s__law_word_drawn) (c__law_point_drawn : Cal3 P w K mg base "_law_point_drawn" 4 ["_law_dice_here", "_law_prime", "_law_most"] sp__law_point_drawn) (c__law_roll : Cal3 P w K mg base "_law_roll" 2 ["_law_dice_here", "_law_total"] sp__law_roll) (c__law_pick : Cal3 P w K mg base "_law_pick" 3 ["_law_dice_here", "_law_items"] sp__law_pick) : Cal3 P w K mg base "_law_word_drawn" 5 ["_law_dice_here", "_law_prime", "_law_most"] sp__law_word_drawn :=
  cal3 d__law_word_drawn (fun _ _ _ _ _ _ us hl => match us, hl with | [_, _, _], _ => rfl) sc__law_word_drawn len__law_word_drawn fun f cdv A outer s H E B dw hr wk => ⟨t__law_word_drawn dw,
    (lss_cons (ls_set (i := 3) sc__law_word_drawn.nd rfl (by first | exact Or.inl rfl | exact Or.inr rfl) (le_callC c__law_point_drawn hr (by decide) wk (by rfl) (la_cons (le_pv (pv 0)) (la_cons (le_pv (pv 1)) (la_cons (le_sub (le_pv (pv 2)) le_int) la_nil)))))
      (lss_cons (ls_if (LW.lt (lw_and (lt_eq hr (le_pv (pv 3)) (le_tup la_nil)) (lw_and1 (lt_eq hr (le_callC c__law_roll hr (by decide) wk (by rfl) (la_cons (le_pv (pv 0)) (la_cons le_int la_nil))) le_int)))) (lss_one (ls_ret (le_callC c__law_pick hr (by decide) wk (by rfl) (la_cons (le_pv (pv 0)) (la_cons (le_lst (la_cons (le_tup la_nil) (la_cons (le_tup (la_cons (le_neg le_int) la_nil)) la_nil))) la_nil))))) lss_nil)
      (lss_one (ls_ret (le_add (le_pv (pv 3)) (le_tup (la_cons (le_ifExp (lt_gt (le_pv (pv 1)) le_int) (le_add le_int (le_callC c__law_roll hr (by decide) wk (by rfl) (la_cons (le_pv (pv 0)) (la_cons (le_sub (le_pv (pv 1)) le_int) la_nil)))) le_int) la_nil))))))),
    fun ds G q h => p__law_word_drawn N__law_word_drawn rfl ds G q dw h⟩
abbrev s__law_second : Stmt := topS 53
abbrev N__law_second : List Str := ["_law_point", "_law_size"]
theorem sc__law_second : FnScope N__law_second ["_law_point"] (defScope s__law_second) := ⟨rfl, rfl, rfl, by decide +kernel, rfl, by decide +kernel, by decide +kernel⟩
theorem ok__law_second (T : Txt K mg) (d__law_second : DefAt K mg "_law_second" s__law_second)  : Cal3 P w K mg base "_law_second" 2 ["_law_point"] sp__law_second :=
  cal3 d__law_second (fun _ _ _ _ _ _ us hl => match us, hl with | [_], _ => rfl) sc__law_second len__law_second fun f cdv A outer s H E B dw hr wk => ⟨t__law_second dw,
    (lss_cons (ls_set (i := 1) sc__law_second.nd rfl (by first | exact Or.inl rfl | exact Or.inr rfl) (le_len (by rfl) T.n_len (lp_cons (le_pv (pv 0)) lp_nil)))
      (lss_cons (ls_while (passes_of rfl) (LW.lt (lw_and (lt_gt (le_pv (pv 1)) le_int) (lw_and1 (lt_eq hr (le_item (le_pv (pv 0)) (le_sub (le_pv (pv 1)) le_int)) le_int)))) (lss_one (ls_set (i := 1) sc__law_second.nd rfl (by first | exact Or.inl rfl | exact Or.inr rfl) (le_sub (le_pv (pv 1)) le_int))))
      (lss_cons (ls_if (LW.lt (lw_or (lt_lt (le_pv (pv 1)) le_int) (lw_or1 (lt_ne hr (le_item (le_pv (pv 0)) (le_sub (le_pv (pv 1)) le_int)) (le_neg le_int))))) (lss_one (ls_ret le_non)) lss_nil)
      (lss_one (ls_ret (le_tuple (by rfl) T.n_tuple (lp_cons (le_cut (le_pv (pv 0)) lo_none (lo_some (le_sub (le_pv (pv 1)) le_int))) lp_nil))))))),
    fun ds G q h => p__law_second N__law_second rfl ds G q dw h⟩
abbrev s__law_nears : Stmt := topS 54
abbrev N__law_nears : List Str := ["_law_point", "_law_second_here"]
theorem sc__law_nears : FnScope N__law_nears ["_law_point"] (defScope s__law_nears) := ⟨rfl, rfl, rfl, by decide +kernel, rfl, by decide +kernel, by decide +kernel⟩
theorem ok__law_nears (T : Txt K mg) (d__law_nears : DefAt K mg "_law_nears" s__law_nears) (c__law_second : Cal3 P w K mg base "_law_second" 2 ["_law_point"] sp__law_second) : Cal3 P w K mg base "_law_nears" 3 ["_law_point"] sp__law_nears :=
  cal3 d__law_nears (fun _ _ _ _ _ _ us hl => match us, hl with | [_], _ => rfl) sc__law_nears len__law_nears fun f cdv A outer s H E B dw hr wk => ⟨t__law_nears dw,
    (lss_cons (ls_if (lt_eq hr (le_pv (pv 0)) (le_tup la_nil)) (lss_one (ls_ret (le_lst la_nil))) lss_nil)
      (lss_cons (ls_set (i := 1) sc__law_nears.nd rfl (by first | exact Or.inl rfl | exact Or.inr rfl) (le_callC c__law_second hr (by decide) wk (by rfl) (la_cons (le_pv (pv 0)) la_nil)))
      (lss_one (ls_ret (le_add (le_lst (la_cons (le_tuple (by rfl) T.n_tuple (lp_cons (le_cut (le_pv (pv 0)) lo_none (lo_some (le_neg le_int))) lp_nil)) la_nil)) (le_ifExp (lt_isN (le_pv (pv 1)) le_non) (le_lst la_nil) (le_lst (la_cons (le_pv (pv 1)) la_nil)))))))),
    fun ds G q h => p__law_nears N__law_nears rfl ds G q dw h⟩
abbrev s__law_prime_of : Stmt := topS 55
abbrev N__law_prime_of : List Str := ["_law_dice_here"]
theorem sc__law_prime_of : FnScope N__law_prime_of ["_law_dice_here"] (defScope s__law_prime_of) := ⟨rfl, rfl, rfl, by decide +kernel, rfl, by decide +kernel, by decide +kernel⟩
theorem ok__law_prime_of (T : Txt K mg) (d__law_prime_of : DefAt K mg "_law_prime_of" s__law_prime_of) (c__law_pick : Cal3 P w K mg base "_law_pick" 3 ["_law_dice_here", "_law_items"] sp__law_pick) : Cal3 P w K mg base "_law_prime_of" 4 ["_law_dice_here"] sp__law_prime_of :=
  cal3 d__law_prime_of (fun _ _ _ _ _ _ us hl => match us, hl with | [_], _ => rfl) sc__law_prime_of len__law_prime_of fun f cdv A outer s H E B dw hr wk => ⟨t__law_prime_of dw,
    (lss_one (ls_ret (le_callC c__law_pick hr (by decide) wk (by rfl) (la_cons (le_pv (pv 0)) (la_cons (le_lst (la_cons le_int (la_cons le_int (la_cons le_int (la_cons le_int (la_cons le_int (la_cons le_int (la_cons le_int la_nil)))))))) la_nil))))),
    fun ds G q h => p__law_prime_of N__law_prime_of rfl ds G q dw h⟩
abbrev s__law_flat : Stmt := topS 56
abbrev N__law_flat : List Str := ["_law_word", "_law_size"]
theorem sc__law_flat : FnScope N__law_flat ["_law_word", "_law_size"] (defScope s__law_flat) := ⟨rfl, rfl, rfl, by decide +kernel, rfl, by decide +kernel, by decide +kernel⟩
theorem ok__law_flat (T : Txt K mg) (d__law_flat : DefAt K mg "_law_flat" s__law_flat)  : Cal3 P w K mg base "_law_flat" 2 ["_law_word", "_law_size"] sp__law_flat :=
  cal3 d__law_flat (fun _ _ _ _ _ _ us hl => match us, hl with | [_, _], _ => rfl) sc__law_flat len__law_flat fun f cdv A outer s H E B dw hr wk => ⟨t__law_flat dw,
    (lss_one (ls_ret (le_cut (le_add (le_tuple (by rfl) T.n_tuple (lp_cons (le_pv (pv 0)) lp_nil)) (le_mul (le_tup (la_cons le_int la_nil)) (le_pv (pv 1)))) lo_none (lo_some (le_pv (pv 1)))))),
    fun ds G q h => p__law_flat N__law_flat rfl ds G q dw h⟩
abbrev s__law_spots_near : Stmt := topS 57
abbrev N__law_spots_near : List Str := ["_law_word", "_law_height", "_law_most", "_law_here", "_law_found", "_law_other"]
theorem sc__law_spots_near : FnScope N__law_spots_near ["_law_word", "_law_height", "_law_most"] (defScope s__law_spots_near) := ⟨rfl, rfl, rfl, by decide +kernel, rfl, by decide +kernel, by decide +kernel⟩
theorem ok__law_spots_near (T : Txt K mg) (d__law_spots_near : DefAt K mg "_law_spots_near" s__law_spots_near) (c__law_flat : Cal3 P w K mg base "_law_flat" 2 ["_law_word", "_law_size"] sp__law_flat) (c__law_nears : Cal3 P w K mg base "_law_nears" 3 ["_law_point"] sp__law_nears) : Cal3 P w K mg base "_law_spots_near" 4 ["_law_word", "_law_height", "_law_most"] sp__law_spots_near :=
  cal3 d__law_spots_near (fun _ _ _ _ _ _ us hl => match us, hl with | [_, _, _], _ => rfl) sc__law_spots_near len__law_spots_near fun f cdv A outer s H E B dw hr wk => ⟨t__law_spots_near dw,
    (lss_cons (ls_par (i := 3) (j := 4) rfl sc__law_spots_near.nd rfl rfl (by decide) rfl rfl (le_callC c__law_flat hr (by decide) wk (by rfl) (la_cons (le_pv (pv 0)) (la_cons (le_pv (pv 1)) la_nil))) (le_lst la_nil) rfl)
      (lss_cons (ls_for (vs := [5]) (passes_of rfl) rfl (li_range2 (by rfl) T.n_range (la_cons (le_add (le_pv (pv 1)) le_int) (la_cons (le_add (le_pv (pv 2)) le_int) la_nil))) (lg_name (i := 5) sc__law_spots_near.nd rfl (by first | exact Or.inl rfl | exact Or.inr rfl) (by decide)) (lss_one (ls_if (lt_in hr (le_pv (pv 3)) (le_callC c__law_nears hr (by decide) wk (by rfl) (la_cons (le_callC c__law_flat hr (by decide) wk (by rfl) (la_cons (le_pv (pv 0)) (la_cons (le_pv (pv 5)) la_nil))) la_nil))) (lss_one (ls_expr (le_append (pv 4) (le_pv (pv 5))))) lss_nil)))
      (lss_one (ls_ret (le_pv (pv 4)))))),
    fun ds G q h => p__law_spots_near ds G q dw h⟩
abbrev s__law_place_right : Stmt := topS 58
abbrev N__law_place_right : List Str := ["_law_branch", "_law_word", "_law_height", "_law_counts", "_law_here", "_law_near", "_law_other", "_law_point", "_law_some", "_law_count"]
theorem sc__law_place_right : FnScope N__law_place_right ["_law_branch", "_law_word", "_law_height", "_law_counts"] (defScope s__law_place_right) := ⟨rfl, rfl, rfl, by decide +kernel, rfl, by decide +kernel, by decide +kernel⟩
theorem ok__law_place_right (T : Txt K mg) (d__law_place_right : DefAt K mg "_law_place_right" s__law_place_right) (c__law_flat : Cal3 P w K mg base "_law_flat" 2 ["_law_word", "_law_size"] sp__law_flat) (c_Branch_prime : Prop3 P w K mg base "Branch" "prime" 2 sp_Branch_prime) (c_is_near : Cal3 P w K mg base "is_near" 8 ["prime", "one", "other"] sp_is_near) (c__law_spots_near : Cal3 P w K mg base "_law_spots_near" 4 ["_law_word", "_law_height", "_law_most"] sp__law_spots_near) : Cal3 P w K mg base "_law_place_right" 9 ["_law_branch", "_law_word", "_law_height", "_law_counts"] sp__law_place_right :=
  cal3 d__law_place_right (fun _ _ _ _ _ _ us hl => match us, hl with | [_, _, _, _], _ => rfl) sc__law_place_right len__law_place_right fun f cdv A outer s H E B dw hr wk => ⟨t__law_place_right dw,
    (lss_cons (ls_par (i := 4) (j := 5) rfl sc__law_place_right.nd rfl rfl (by decide) rfl rfl (le_callC c__law_flat hr (by decide) wk (by rfl) (la_cons (le_pv (pv 1)) (la_cons (le_pv (pv 2)) la_nil))) (le_lst la_nil) rfl)
      (lss_cons (ls_for (vs := [6]) (passes_of rfl) rfl (li_range2 (by rfl) T.n_range (la_cons (le_add (le_pv (pv 2)) le_int) (la_cons (le_add (le_len (by rfl) T.n_len (lp_cons (le_pv (pv 1)) lp_nil)) le_int) la_nil))) (lg_name (i := 6) sc__law_place_right.nd rfl (by first | exact Or.inl rfl | exact Or.inr rfl) (by decide)) (lss_cons (ls_set (i := 7) sc__law_place_right.nd rfl (by first | exact Or.inl rfl | exact Or.inr rfl) (le_callC c__law_flat hr (by decide) wk (by rfl) (la_cons (le_pv (pv 1)) (la_cons (le_pv (pv 6)) la_nil))))
      (lss_one (ls_if (LW.lt (lw_and (lt_le (le_len (by rfl) T.n_len (lp_cons (le_pv (pv 7)) lp_nil)) le_int) (lw_and1 (lt_val (le_callC c_is_near hr (by decide) wk (by rfl) (la_cons (le_prop c_Branch_prime hr (by decide) (le_pv (pv 0))) (la_cons (le_pv (pv 7)) (la_cons (le_pv (pv 4)) la_nil)))))))) (lss_one (ls_expr (le_append (pv 5) (le_pv (pv 6))))) lss_nil))))
      (lss_cons (ls_if (LW.lt (lw_or (lt_ne hr (le_pv (pv 5)) (le_callC c__law_spots_near hr (by decide) wk (by rfl) (la_cons (le_pv (pv 1)) (la_cons (le_pv (pv 2)) (la_cons (le_min2 rfl (by rfl) T.n_min (lp_cons le_int (lp_cons (le_add (le_len (by rfl) T.n_len (lp_cons (le_pv (pv 1)) lp_nil)) le_int) lp_nil))) la_nil))))) (lw_or1 (lt_ne hr (le_pv (pv 5)) (le_listRg rfl (by rfl) T.n_list (by rfl) T.n_range (le_add (le_pv (pv 2)) le_int) (le_add (le_add (le_pv (pv 2)) le_int) (le_len (by rfl) T.n_len (lp_cons (le_pv (pv 5)) lp_nil)))))))) (lss_one (ls_ret le_bl)) lss_nil)
      (lss_cons (ls_set (i := 8) sc__law_place_right.nd rfl (by first | exact Or.inl rfl | exact Or.inr rfl) (le_lc (own := [("_law_other", 6)]) rfl sc__law_place_right.nd (li_seq (le_pv (pv 5))) (blkOk_by (N := N__law_place_right) (sc := defScope s__law_place_right) (by decide +kernel)) (fun _ _ _ _ _ => (lg_name (i := 6) sc__law_place_right.nd rfl (by first | exact Or.inl rfl | exact Or.inr rfl) (by decide))) (fun _ _ _ _ _ => lts_nil) (fun _ _ _ _ _ => (le_item (le_pv (pv 3)) (le_pv (pv 6))))))
      (lss_cons (ls_if (LW.lt (lw_or (lt_ne hr (le_lc (own := [("_law_count", 9)]) rfl sc__law_place_right.nd (li_seq (le_cut (le_pv (pv 8)) lo_none (lo_some (le_neg le_int)))) (blkOk_by (N := N__law_place_right) (sc := defScope s__law_place_right) (by decide +kernel)) (fun _ _ _ _ _ => (lg_name (i := 9) sc__law_place_right.nd rfl (by first | exact Or.inl rfl | exact Or.inr rfl) (by decide))) (fun _ _ _ _ _ => (lts_one (lt_ne hr (le_pv (pv 9)) (le_item (le_pv (pv 8)) le_int)))) (fun _ _ _ _ _ => le_int)) (le_lst la_nil)) (lw_or1 (LW.lt (lw_and (lt_ne hr (le_pv (pv 8)) (le_lst la_nil)) (lw_and1 (lt_gt (le_item (le_pv (pv 8)) (le_neg le_int)) (le_item (le_pv (pv 8)) le_int)))))))) (lss_one (ls_ret le_bl)) lss_nil)
      (lss_one (ls_ret (le_or (le_eq hr (le_sum rfl (by rfl) T.n_sum (lp_cons (le_pv (pv 8)) lp_nil)) (le_item (le_pv (pv 3)) (le_pv (pv 2)))) (le_one (le_gt (le_add (le_pv (pv 2)) le_int) le_int)))))))))),
    fun ds G q h => p__law_place_right ds G q dw h⟩
abbrev s__law_divided_right : Stmt := topS 59
abbrev N__law_divided_right : List Str := ["_law_branch", "_law_word", "_law_counts", "_law_height", "_law_one", "_law_other", "_law_times"]
theorem sc__law_divided_right : FnScope N__law_divided_right ["_law_branch", "_law_word", "_law_counts"] (defScope s__law_divided_right) := ⟨rfl, rfl, rfl, by decide +kernel, rfl, by decide +kernel, by decide +kernel⟩
theorem ok__law_divided_right (T : Txt K mg) (d__law_divided_right : DefAt K mg "_law_divided_right" s__law_divided_right) (c_orders_at : Cal3 P w K mg base "orders_at" 5 ["branch", "height"] sp_orders_at) : Cal3 P w K mg base "_law_divided_right" 6 ["_law_branch", "_law_word", "_law_counts"] sp__law_divided_right :=
  cal3 d__law_divided_right (fun _ _ _ _ _ _ us hl => match us, hl with | [_, _, _], _ => rfl) sc__law_divided_right len__law_divided_right fun f cdv A outer s H E B dw hr wk => ⟨t__law_divided_right dw,
    (lss_cons (ls_for (vs := [3]) (passes_of rfl) rfl (li_range1 (by rfl) T.n_range (la_cons (le_len (by rfl) T.n_len (lp_cons (le_pv (pv 1)) lp_nil)) la_nil)) (lg_name (i := 3) sc__law_divided_right.nd rfl (by first | exact Or.inl rfl | exact Or.inr rfl) (by decide)) (lss_cons (ls_asg (vs := [4, 5]) (le_callC c_orders_at hr (by decide) wk (by rfl) (la_cons (le_pv (pv 0)) (la_cons (le_pv (pv 3)) la_nil))) (lg_tup rfl (lgs_cons (lg_name (i := 4) sc__law_divided_right.nd rfl (by first | exact Or.inl rfl | exact Or.inr rfl) (by decide)) (lgs_cons (lg_name (i := 5) sc__law_divided_right.nd rfl (by first | exact Or.inl rfl | exact Or.inr rfl) (by decide)) lgs_nil))))
      (lss_one (ls_if (LW.lt (lw_and (lt_notN (le_pv (pv 4)) le_non) (lw_and (lt_notN (le_pv (pv 5)) le_non) (lw_and (lt_gt (le_pv (pv 4)) le_int) (lw_and1 (lt_ne hr (le_mod (le_intOf (by rfl) T.n_int (lp_cons (le_max2 rfl (by rfl) T.n_max (lp_cons (le_pv (pv 4)) (lp_cons (le_pv (pv 5)) lp_nil))) lp_nil)) (le_min2 rfl (by rfl) T.n_min (lp_cons (le_pv (pv 4)) (lp_cons (le_pv (pv 5)) lp_nil)))) le_int)))))) (lss_cons (ls_set (i := 6) sc__law_divided_right.nd rfl (by first | exact Or.inl rfl | exact Or.inr rfl) (le_fdiv (le_max2 rfl (by rfl) T.n_max (lp_cons (le_pv (pv 4)) (lp_cons (le_pv (pv 5)) lp_nil))) (le_min2 rfl (by rfl) T.n_min (lp_cons (le_pv (pv 4)) (lp_cons (le_pv (pv 5)) lp_nil)))))
      (lss_cons (ls_if (lt_ne hr (le_cut (le_pv (pv 2)) (lo_some (le_pv (pv 3))) (lo_some (le_add (le_pv (pv 3)) (le_pv (pv 6))))) (le_mul (le_lst (la_cons (le_min2 rfl (by rfl) T.n_min (lp_cons (le_pv (pv 4)) (lp_cons (le_pv (pv 5)) lp_nil))) la_nil)) (le_pv (pv 6)))) (lss_one (ls_ret le_bl)) lss_nil)
      (lss_one (ls_if (lt_ne hr (le_item (le_pv (pv 2)) (le_add (le_pv (pv 3)) (le_pv (pv 6)))) (le_mod (le_intOf (by rfl) T.n_int (lp_cons (le_max2 rfl (by rfl) T.n_max (lp_cons (le_pv (pv 4)) (lp_cons (le_pv (pv 5)) lp_nil))) lp_nil)) (le_min2 rfl (by rfl) T.n_min (lp_cons (le_pv (pv 4)) (lp_cons (le_pv (pv 5)) lp_nil))))) (lss_one (ls_ret le_bl)) lss_nil)))) lss_nil))))
      (lss_one (ls_ret le_bl))),
    fun ds G q h => p__law_divided_right ds G q dw h⟩
abbrev s__law_right : Stmt := topS 60
abbrev N__law_right : List Str := ["_law_dice_here", "_law_prime", "_law_word", "_law_branch", "_law_counts", "_law_height", "_law_turns", "_law_after", "_law_at", "_law_letter_here"]
theorem sc__law_right : FnScope N__law_right ["_law_dice_here"] (defScope s__law_right) := ⟨rfl, rfl, rfl, by decide +kernel, rfl, by decide +kernel, by decide +kernel⟩
theorem ok__law_right (T : Txt K mg) (d__law_right : DefAt K mg "_law_right" s__law_right) (c__law_prime_of : Cal3 P w K mg base "_law_prime_of" 4 ["_law_dice_here"] sp__law_prime_of) (c__law_pick : Cal3 P w K mg base "_law_pick" 3 ["_law_dice_here", "_law_items"] sp__law_pick) (c__law_word_drawn : Cal3 P w K mg base "_law_word_drawn" 5 ["_law_dice_here", "_law_prime", "_law_most"] sp__law_word_drawn) (c_Branch_init : New3 P w K mg base "Branch" 6 sp_Branch_init) (c_counts_of : Cal3 P w K mg base "counts_of" 5 ["branch", "height"] sp_counts_of) (c__law_place_right : Cal3 P w K mg base "_law_place_right" 9 ["_law_branch", "_law_word", "_law_height", "_law_counts"] sp__law_place_right) (c_count_at : Cal3 P w K mg base "count_at" 6 ["branch", "height"] sp_count_at) (c__law_divided_right : Cal3 P w K mg base "_law_divided_right" 6 ["_law_branch", "_law_word", "_law_counts"] sp__law_divided_right) : Cal3 P w K mg base "_law_right" 10 ["_law_dice_here"] sp__law_right :=
  cal3 d__law_right (fun _ _ _ _ _ _ us hl => match us, hl with | [_], _ => rfl) sc__law_right len__law_right fun f cdv A outer s H E B dw hr wk => ⟨t__law_right dw,
    (lss_cons (ls_set (i := 1) sc__law_right.nd rfl (by first | exact Or.inl rfl | exact Or.inr rfl) (le_callC c__law_prime_of hr (by decide) wk (by rfl) (la_cons (le_pv (pv 0)) la_nil)))
      (lss_cons (ls_set (i := 2) sc__law_right.nd rfl (by first | exact Or.inl rfl | exact Or.inr rfl) (le_callC c__law_word_drawn hr (by decide) wk (by rfl) (la_cons (le_pv (pv 0)) (la_cons (le_pv (pv 1)) (la_cons (le_callC c__law_pick hr (by decide) wk (by rfl) (la_cons (le_pv (pv 0)) (la_cons (le_lst (la_cons le_int (la_cons le_int (la_cons le_int (la_cons le_int la_nil))))) la_nil))) la_nil)))))
      (lss_cons (ls_set (i := 3) sc__law_right.nd rfl (by first | exact Or.inl rfl | exact Or.inr rfl) (le_make c_Branch_init hr (by decide) (by rfl) (la_cons (le_pv (pv 1)) (la_cons (le_pv (pv 2)) la_nil))))
      (lss_cons (ls_set (i := 4) sc__law_right.nd rfl (by first | exact Or.inl rfl | exact Or.inr rfl) (le_list (by rfl) T.n_list (lp_cons (le_callC c_counts_of hr (by decide) wk (by rfl) (la_cons (le_pv (pv 3)) (la_cons (le_add (le_len (by rfl) T.n_len (lp_cons (le_pv (pv 2)) lp_nil)) le_int) la_nil))) lp_nil)))
      (lss_cons (ls_for (vs := [5]) (passes_of rfl) rfl (li_range1 (by rfl) T.n_range (la_cons (le_add (le_len (by rfl) T.n_len (lp_cons (le_pv (pv 2)) lp_nil)) le_int) la_nil)) (lg_name (i := 5) sc__law_right.nd rfl (by first | exact Or.inl rfl | exact Or.inr rfl) (by decide)) (lss_one (ls_if (LW.lt (lw_and (lt_in hr (le_neg le_int) (le_cut (le_pv (pv 2)) (lo_some (le_pv (pv 5))) lo_none)) (lw_and (lt_ne hr (le_pv (pv 2)) (le_tup (la_cons (le_neg le_int) la_nil))) (lw_and1 (lt_not (lt_val (le_callC c__law_place_right hr (by decide) wk (by rfl) (la_cons (le_pv (pv 3)) (la_cons (le_pv (pv 2)) (la_cons (le_pv (pv 5)) (la_cons (le_pv (pv 4)) la_nil))))))))))) (lss_one (ls_ret le_bl)) lss_nil)))
      (lss_cons (ls_setLc (i := 6) (own := [("_law_at", 8), ("_law_letter_here", 9)]) rfl sc__law_right.nd rfl rfl (sw_true rfl rfl rfl (by decide +kernel)) (li_enumA (by rfl) T.n_enumerate (la_cons (le_pv (pv 2)) la_nil)) (blkOk_by (N := N__law_right) (sc := defScope s__law_right) (by decide +kernel)) (fun _ _ _ _ _ => (lg_tup rfl (lgs_cons (lg_name (i := 8) sc__law_right.nd rfl (by first | exact Or.inl rfl | exact Or.inr rfl) (by decide)) (lgs_cons (lg_name (i := 9) sc__law_right.nd rfl (by first | exact Or.inl rfl | exact Or.inr rfl) (by decide)) lgs_nil)))) (fun _ _ _ _ _ => (lts_one (lt_eq hr (le_pv (pv 9)) (le_neg le_int)))) (fun _ _ _ _ _ => (le_pv (pv 8))))
      (lss_cons (ls_if (LW.lt (lw_and (lt_ne hr (le_pv (pv 6)) (le_lst la_nil)) (lw_and1 (lt_ne hr (le_pv (pv 2)) (le_tup (la_cons (le_neg le_int) la_nil)))))) (lss_cons (ls_setLc (i := 7) (own := [("_law_at", 8)]) rfl sc__law_right.nd rfl rfl (sw_true rfl rfl rfl (by decide +kernel)) (li_range2 (by rfl) T.n_range (la_cons (le_add (le_item (le_pv (pv 6)) (le_neg le_int)) le_int) (la_cons (le_len (by rfl) T.n_len (lp_cons (le_pv (pv 2)) lp_nil)) la_nil))) (blkOk_by (N := N__law_right) (sc := defScope s__law_right) (by decide +kernel)) (fun _ _ _ _ _ => (lg_name (i := 8) sc__law_right.nd rfl (by first | exact Or.inl rfl | exact Or.inr rfl) (by decide))) (fun _ _ _ _ _ => (lts_one (lt_ne hr (le_item (le_pv (pv 2)) (le_pv (pv 8))) le_int))) (fun _ _ _ _ _ => (le_pv (pv 8))))
      (lss_one (ls_if (lt_ne hr (le_lc (own := [("_law_height", 5)]) rfl sc__law_right.nd (li_range2 (by rfl) T.n_range (la_cons (le_add (le_item (le_pv (pv 7)) le_int) le_int) (la_cons (le_add (le_item (le_pv (pv 7)) le_int) le_int) la_nil))) (blkOk_by (N := N__law_right) (sc := defScope s__law_right) (by decide +kernel)) (fun _ _ _ _ _ => (lg_name (i := 5) sc__law_right.nd rfl (by first | exact Or.inl rfl | exact Or.inr rfl) (by decide))) (fun _ _ _ _ _ => (lts_one (lt_ne hr (le_callC c_count_at hr (by decide) wok0 (by rfl) (la_cons (le_pv (pv 3)) (la_cons (le_pv (pv 5)) la_nil))) le_int))) (fun _ _ _ _ _ => le_int)) (le_lst la_nil)) (lss_one (ls_ret le_bl)) lss_nil))) lss_nil)
      (lss_one (ls_ret (le_callC c__law_divided_right hr (by decide) wk (by rfl) (la_cons (le_pv (pv 3)) (la_cons (le_pv (pv 2)) (la_cons (le_pv (pv 4)) la_nil))))))))))))),
    fun ds G q h => p__law_right ds G q dw h⟩
abbrev s_law : Stmt := topS 61
abbrev N_law : List Str := ["_law_script", "_law_spot", "_law_dice_here", "_law_deep", "_law_near", "_law_height"]
theorem sc_law : FnScope N_law ["_law_script"] (defScope s_law) := ⟨rfl, rfl, rfl, by decide +kernel, rfl, by decide +kernel, by decide +kernel⟩
theorem ok_law (T : Txt K mg) (d_law : DefAt K mg "law" s_law) (c__law_dice : Cal3 P w K mg base "_law_dice" 2 ["_law_script", "_law_spot"] sp__law_dice) (c__law_right : Cal3 P w K mg base "_law_right" 10 ["_law_dice_here"] sp__law_right) (c_Branch_init : New3 P w K mg base "Branch" 6 sp_Branch_init) (c_Branch_point_at : Meth3 P w K mg base "Branch" "point_at" 5 sp_Branch_point_at) (c_is_near : Cal3 P w K mg base "is_near" 8 ["prime", "one", "other"] sp_is_near) (c_count_at : Cal3 P w K mg base "count_at" 6 ["branch", "height"] sp_count_at) : Cal3 P w K mg base "law" 11 ["_law_script"] sp_law :=
  cal3 d_law (fun _ _ _ _ _ _ us hl => match us, hl with | [_], _ => rfl) sc_law len_law fun f cdv A outer s H E B dw hr wk => ⟨t_law dw,
    (lss_cons (ls_for (vs := [1]) (passes_of rfl) rfl (li_range1 (by rfl) T.n_range (la_cons (le_max2 rfl (by rfl) T.n_max (lp_cons le_int (lp_cons (le_min2 rfl (by rfl) T.n_min (lp_cons le_int (lp_cons (le_len (by rfl) T.n_len (lp_cons (le_pv (pv 0)) lp_nil)) lp_nil))) lp_nil))) la_nil)) (lg_name (i := 1) sc_law.nd rfl (by first | exact Or.inl rfl | exact Or.inr rfl) (by decide)) (lss_cons (ls_setReg (i := 2) sc_law.nd rfl (by first | exact Or.inl rfl | exact Or.inr rfl) (le_callC c__law_dice hr (by decide) wk (by rfl) (la_cons (le_pv (pv 0)) (la_cons (le_pv (pv 1)) la_nil))))
      (lss_one (ls_if (LW.lt (lw_or (lt_not (lt_val (le_callC c__law_right hr (by decide) wk (by rfl) (la_cons (le_pv (pv 2)) la_nil)))) (lw_or (lt_not (lt_val (le_callC c__law_right hr (by decide) wk (by rfl) (la_cons (le_pv (pv 2)) la_nil)))) (lw_or1 (lt_not (lt_val (le_callC c__law_right hr (by decide) wk (by rfl) (la_cons (le_pv (pv 2)) la_nil)))))))) (lss_one (ls_ret le_bl)) lss_nil))))
      (lss_cons (ls_set (i := 3) sc_law.nd rfl (by first | exact Or.inl rfl | exact Or.inr rfl) (le_make c_Branch_init hr (by decide) (by rfl) (la_cons le_int (la_cons (le_tup (la_cons le_int (la_cons (le_neg le_int) (la_cons le_int (la_cons le_int (la_cons le_int (la_cons (le_neg le_int) (la_cons le_int la_nil)))))))) la_nil))))
      (lss_cons (ls_setLc (i := 4) (own := [("_law_height", 5)]) rfl sc_law.nd rfl rfl (sw_true rfl rfl rfl (by decide +kernel)) (li_range2 (by rfl) T.n_range (la_cons le_int (la_cons le_int la_nil))) (blkOk_by (N := N_law) (sc := defScope s_law) (by decide +kernel)) (fun _ _ _ _ _ => (lg_name (i := 5) sc_law.nd rfl (by first | exact Or.inl rfl | exact Or.inr rfl) (by decide))) (fun _ _ _ _ _ => (lts_one (lt_val (le_callC c_is_near hr (by decide) wok0 (by rfl) (la_cons le_int (la_cons (le_meth c_Branch_point_at hr (by decide) (le_pv (pv 3)) (la_cons (le_pv (pv 5)) la_nil)) (la_cons (le_tup la_nil) la_nil))))))) (fun _ _ _ _ _ => (le_pv (pv 5))))
      (lss_one (ls_ret (le_and (le_eq hr (le_pv (pv 4)) (le_lst (la_cons le_int (la_cons le_int (la_cons le_int la_nil))))) (le_one (le_eq hr (le_lc (own := [("_law_height", 5)]) rfl sc_law.nd (li_seq (le_add (le_lst (la_cons le_int la_nil)) (le_pv (pv 4)))) (blkOk_by (N := N_law) (sc := defScope s_law) (by decide +kernel)) (fun _ _ _ _ _ => (lg_name (i := 5) sc_law.nd rfl (by first | exact Or.inl rfl | exact Or.inr rfl) (by decide))) (fun _ _ _ _ _ => lts_nil) (fun _ _ _ _ _ => (le_callC c_count_at hr (by decide) wok0 (by rfl) (la_cons (le_pv (pv 3)) (la_cons (le_pv (pv 5)) la_nil))))) (le_lst (la_cons le_int (la_cons le_int (la_cons le_int (la_cons le_int la_nil))))))))))))),
    fun ds G q h => p_law ds G q dw h⟩
theorem all_law (T : Txt K mg) (d_is_whole : DefAt K mg "is_whole" s_is_whole) (d_ends_as_word : DefAt K mg "ends_as_word" s_ends_as_word) (d_letters_text : DefAt K mg "letters_text" s_letters_text) (d_Branch_prime : PropAt K "Branch" "prime" "Branch.prime" s_Branch_prime) (d_Branch_word : PropAt K "Branch" "word" "Branch.word" s_Branch_word) (d_point_on : DefAt K mg "point_on" s_point_on) (d_require_branch : DefAt K mg "require_branch" s_require_branch) (d_second_below : DefAt K mg "second_below" s_second_below) (d_all_orders : DefAt K mg "all_orders" s_all_orders) (d_count_in : DefAt K mg "count_in" s_count_in) (d__law_dice : DefAt K mg "_law_dice" s__law_dice) (d__law_roll : DefAt K mg "_law_roll" s__law_roll) (d__law_second : DefAt K mg "_law_second" s__law_second) (d__law_flat : DefAt K mg "_law_flat" s__law_flat) (d_is_integer : DefAt K mg "is_integer" s_is_integer) (d_is_prime : DefAt K mg "is_prime" s_is_prime) (d_nears_of : DefAt K mg "nears_of" s_nears_of) (d_all_counts : DefAt K mg "all_counts" s_all_counts) (d__law_pick : DefAt K mg "_law_pick" s__law_pick) (d__law_letter : DefAt K mg "_law_letter" s__law_letter) (d__law_nears : DefAt K mg "_law_nears" s__law_nears) (d_require_prime : DefAt K mg "require_prime" s_require_prime) (d_require_count : DefAt K mg "require_count" s_require_count) (d_is_letter : DefAt K mg "is_letter" s_is_letter) (d_require_height : DefAt K mg "require_height" s_require_height) (d_counts_to : DefAt K mg "counts_to" s_counts_to) (d__law_point_drawn : DefAt K mg "_law_point_drawn" s__law_point_drawn) (d__law_prime_of : DefAt K mg "_law_prime_of" s__law_prime_of) (d__law_spots_near : DefAt K mg "_law_spots_near" s__law_spots_near) (d_are_letters : DefAt K mg "are_letters" s_are_letters) (d_Branch_point_at : MethAt K "Branch" "point_at" "Branch.point_at" s_Branch_point_at) (q_Branch_point_at : SClsN K "Branch") (d_orders_at : DefAt K mg "orders_at" s_orders_at) (d_counts_of : DefAt K mg "counts_of" s_counts_of) (d__law_word_drawn : DefAt K mg "_law_word_drawn" s__law_word_drawn) (d_is_point : DefAt K mg "is_point" s_is_point) (d_Branch_init : MethAt K "Branch" "__init__" "Branch.__init__" s_Branch_init) (m_Branch : MakeAt K mg "Branch") (d_count_at : DefAt K mg "count_at" s_count_at) (d__law_divided_right : DefAt K mg "_law_divided_right" s__law_divided_right) (d_require_point : DefAt K mg "require_point" s_require_point) (d_is_near : DefAt K mg "is_near" s_is_near) (d__law_place_right : DefAt K mg "_law_place_right" s__law_place_right) (d__law_right : DefAt K mg "_law_right" s__law_right) (d_law : DefAt K mg "law" s_law) : Cal3 P w K mg base "law" 11 ["_law_script"] sp_law := by
  have c_is_whole : Cal3 P w K mg base "is_whole" 2 ["value"] sp_is_whole := ok_is_whole T d_is_whole 
  have c_ends_as_word : Cal3 P w K mg base "ends_as_word" 2 ["point"] sp_ends_as_word := ok_ends_as_word T d_ends_as_word 
  have c_letters_text : Cal3 P w K mg base "letters_text" 2 ["point"] sp_letters_text := ok_letters_text T d_letters_text 
  have c_Branch_prime : Prop3 P w K mg base "Branch" "prime" 2 sp_Branch_prime := ok_Branch_prime T d_Branch_prime 
  have c_Branch_word : Prop3 P w K mg base "Branch" "word" 2 sp_Branch_word := ok_Branch_word T d_Branch_word 
  have c_point_on : Cal3 P w K mg base "point_on" 2 ["word", "height"] sp_point_on := ok_point_on T d_point_on 
  have c_require_branch : Cal3 P w K mg base "require_branch" 2 ["value"] sp_require_branch := ok_require_branch T d_require_branch 
  have c_second_below : Cal3 P w K mg base "second_below" 2 ["point"] sp_second_below := ok_second_below T d_second_below 
  have c_all_orders : Cal3 P w K mg base "all_orders" 2 ["word"] sp_all_orders := ok_all_orders T d_all_orders 
  have c_count_in : Cal3 P w K mg base "count_in" 2 ["pair"] sp_count_in := ok_count_in T d_count_in 
  have c__law_dice : Cal3 P w K mg base "_law_dice" 2 ["_law_script", "_law_spot"] sp__law_dice := ok__law_dice T d__law_dice 
  have c__law_roll : Cal3 P w K mg base "_law_roll" 2 ["_law_dice_here", "_law_total"] sp__law_roll := ok__law_roll T d__law_roll 
  have c__law_second : Cal3 P w K mg base "_law_second" 2 ["_law_point"] sp__law_second := ok__law_second T d__law_second 
  have c__law_flat : Cal3 P w K mg base "_law_flat" 2 ["_law_word", "_law_size"] sp__law_flat := ok__law_flat T d__law_flat 
  have c_is_integer : Cal3 P w K mg base "is_integer" 3 ["value"] sp_is_integer := ok_is_integer T d_is_integer c_is_whole
  have c_is_prime : Cal3 P w K mg base "is_prime" 3 ["value"] sp_is_prime := ok_is_prime T d_is_prime c_is_whole
  have c_nears_of : Cal3 P w K mg base "nears_of" 3 ["point"] sp_nears_of := ok_nears_of T d_nears_of c_second_below
  have c_all_counts : Cal3 P w K mg base "all_counts" 3 ["word"] sp_all_counts := ok_all_counts T d_all_counts c_all_orders c_count_in
  have c__law_pick : Cal3 P w K mg base "_law_pick" 3 ["_law_dice_here", "_law_items"] sp__law_pick := ok__law_pick T d__law_pick c__law_roll
  have c__law_letter : Cal3 P w K mg base "_law_letter" 3 ["_law_dice_here", "_law_prime"] sp__law_letter := ok__law_letter T d__law_letter c__law_roll
  have c__law_nears : Cal3 P w K mg base "_law_nears" 3 ["_law_point"] sp__law_nears := ok__law_nears T d__law_nears c__law_second
  have c_require_prime : Cal3 P w K mg base "require_prime" 4 ["value"] sp_require_prime := ok_require_prime T d_require_prime c_is_prime
  have c_require_count : Cal3 P w K mg base "require_count" 4 ["value", "least", "most"] sp_require_count := ok_require_count T d_require_count c_is_integer
  have c_is_letter : Cal3 P w K mg base "is_letter" 4 ["prime", "value"] sp_is_letter := ok_is_letter T d_is_letter c_is_integer
  have c_require_height : Cal3 P w K mg base "require_height" 4 ["value", "least"] sp_require_height := ok_require_height T d_require_height c_is_integer
  have c_counts_to : Cal3 P w K mg base "counts_to" 4 ["word", "size"] sp_counts_to := ok_counts_to T d_counts_to c_all_counts
  have c__law_point_drawn : Cal3 P w K mg base "_law_point_drawn" 4 ["_law_dice_here", "_law_prime", "_law_most"] sp__law_point_drawn := ok__law_point_drawn T d__law_point_drawn c__law_roll c__law_letter
  have c__law_prime_of : Cal3 P w K mg base "_law_prime_of" 4 ["_law_dice_here"] sp__law_prime_of := ok__law_prime_of T d__law_prime_of c__law_pick
  have c__law_spots_near : Cal3 P w K mg base "_law_spots_near" 4 ["_law_word", "_law_height", "_law_most"] sp__law_spots_near := ok__law_spots_near T d__law_spots_near c__law_flat c__law_nears
  have c_are_letters : Cal3 P w K mg base "are_letters" 5 ["prime", "value"] sp_are_letters := ok_are_letters T d_are_letters c_is_letter
  have c_Branch_point_at : Meth3 P w K mg base "Branch" "point_at" 5 sp_Branch_point_at := ok_Branch_point_at T d_Branch_point_at q_Branch_point_at c_require_count c_point_on
  have c_orders_at : Cal3 P w K mg base "orders_at" 5 ["branch", "height"] sp_orders_at := ok_orders_at T d_orders_at c_require_branch c_require_height c_Branch_word c_all_orders
  have c_counts_of : Cal3 P w K mg base "counts_of" 5 ["branch", "height"] sp_counts_of := ok_counts_of T d_counts_of c_require_branch c_require_height c_Branch_word c_counts_to
  have c__law_word_drawn : Cal3 P w K mg base "_law_word_drawn" 5 ["_law_dice_here", "_law_prime", "_law_most"] sp__law_word_drawn := ok__law_word_drawn T d__law_word_drawn c__law_point_drawn c__law_roll c__law_pick
  have c_is_point : Cal3 P w K mg base "is_point" 6 ["prime", "value"] sp_is_point := ok_is_point T d_is_point c_require_prime c_are_letters
  have c_Branch_init : New3 P w K mg base "Branch" 6 sp_Branch_init := ok_Branch_init T d_Branch_init m_Branch c_require_prime c_are_letters c_ends_as_word c_letters_text
  have c_count_at : Cal3 P w K mg base "count_at" 6 ["branch", "height"] sp_count_at := ok_count_at T d_count_at c_orders_at c_count_in
  have c__law_divided_right : Cal3 P w K mg base "_law_divided_right" 6 ["_law_branch", "_law_word", "_law_counts"] sp__law_divided_right := ok__law_divided_right T d__law_divided_right c_orders_at
  have c_require_point : Cal3 P w K mg base "require_point" 7 ["prime", "value"] sp_require_point := ok_require_point T d_require_point c_is_point
  have c_is_near : Cal3 P w K mg base "is_near" 8 ["prime", "one", "other"] sp_is_near := ok_is_near T d_is_near c_require_point c_nears_of
  have c__law_place_right : Cal3 P w K mg base "_law_place_right" 9 ["_law_branch", "_law_word", "_law_height", "_law_counts"] sp__law_place_right := ok__law_place_right T d__law_place_right c__law_flat c_Branch_prime c_is_near c__law_spots_near
  have c__law_right : Cal3 P w K mg base "_law_right" 10 ["_law_dice_here"] sp__law_right := ok__law_right T d__law_right c__law_prime_of c__law_pick c__law_word_drawn c_Branch_init c_counts_of c__law_place_right c_count_at c__law_divided_right
  have c_law : Cal3 P w K mg base "law" 11 ["_law_script"] sp_law := ok_law T d_law c__law_dice c__law_right c_Branch_init c_Branch_point_at c_is_near c_count_at
  exact c_law
end
end K22

set_option Elab.async false
namespace K22
open PySem PySem.Spec PyProof.Rows L2 L3 LD LN LP LO LB LC LE2 LF
theorem all_mk {P : Program} {w : World} {K : PySem.W.Frag} {h : Heap} {mg : Str → Option Value} {fa : Addr} (X : K.In h) (G : h.Ns mainGlobals mg) (hfa : mg "law" = some (.ref fa))
    (n_abs : PySem.W.nsIn K mainGlobals "abs" = some none)
    (n_all : PySem.W.nsIn K mainGlobals "all" = some none)
    (n_bool : PySem.W.nsIn K mainGlobals "bool" = some none)
    (n_enumerate : PySem.W.nsIn K mainGlobals "enumerate" = some none)
    (n_int : PySem.W.nsIn K mainGlobals "int" = some none)
    (n_isinstance : PySem.W.nsIn K mainGlobals "isinstance" = some none)
    (n_len : PySem.W.nsIn K mainGlobals "len" = some none)
    (n_list : PySem.W.nsIn K mainGlobals "list" = some none)
    (n_max : PySem.W.nsIn K mainGlobals "max" = some none)
    (n_min : PySem.W.nsIn K mainGlobals "min" = some none)
    (n_range : PySem.W.nsIn K mainGlobals "range" = some none)
    (n_str : PySem.W.nsIn K mainGlobals "str" = some none)
    (n_sum : PySem.W.nsIn K mainGlobals "sum" = some none)
    (n_tuple : PySem.W.nsIn K mainGlobals "tuple" = some none)
    {tk_BLANK : Tok} (g_BLANK : PySem.W.nsIn K mainGlobals "BLANK" = some (some (.str " " tk_BLANK)))
    {tk_GREAT : Tok} (g_GREAT : PySem.W.nsIn K mainGlobals "GREAT" = some (some (.int (1000000000000000000000000000000000000000000000000000000000000) tk_GREAT)))
    {tk_MAX_HEIGHT : Tok} (g_MAX_HEIGHT : PySem.W.nsIn K mainGlobals "MAX_HEIGHT" = some (some (.int (200) tk_MAX_HEIGHT)))
    {tk_MAX_LETTERS : Tok} (g_MAX_LETTERS : PySem.W.nsIn K mainGlobals "MAX_LETTERS" = some (some (.int (60) tk_MAX_LETTERS)))
    {tk_ORIGIN_TEXT : Tok} (g_ORIGIN_TEXT : PySem.W.nsIn K mainGlobals "ORIGIN_TEXT" = some (some (.str "." tk_ORIGIN_TEXT)))
    {ad_PRIMES : Addr} {dd_PRIMES : Option Addr} {n_PRIMES_ : Nat} {sl_PRIMES : Array (Option Value)} {tk_PRIMES_0 tk_PRIMES_1 tk_PRIMES_2 tk_PRIMES_3 tk_PRIMES_4 tk_PRIMES_5 tk_PRIMES_6 tk_PRIMES_7 tk_PRIMES_8 tk_PRIMES_9 tk_PRIMES_10 : Tok} (g_PRIMES : PySem.W.nsIn K mainGlobals "PRIMES" = some (some (.ref ad_PRIMES))) (l_PRIMES : K.lookup ad_PRIMES = some ⟨.type "tuple", dd_PRIMES, .seq #[.int (2) tk_PRIMES_0, .int (3) tk_PRIMES_1, .int (5) tk_PRIMES_2, .int (7) tk_PRIMES_3, .int (11) tk_PRIMES_4, .int (13) tk_PRIMES_5, .int (17) tk_PRIMES_6, .int (19) tk_PRIMES_7, .int (23) tk_PRIMES_8, .int (29) tk_PRIMES_9, .int (31) tk_PRIMES_10] n_PRIMES_, sl_PRIMES⟩)
    {tk_TURN : Tok} (g_TURN : PySem.W.nsIn K mainGlobals "TURN" = some (some (.int (-1) tk_TURN)))
    {tk_TURN_TEXT : Tok} (g_TURN_TEXT : PySem.W.nsIn K mainGlobals "TURN_TEXT" = some (some (.str "t" tk_TURN_TEXT)))
    {C_Branch : Addr} (a_Branch : PySem.W.nsIn K mainGlobals "Branch" = some (some (.ref C_Branch)))
    (pg_Branch : PySem.W.plainGet K C_Branch Str.empty = true) (ic_Branch : PySem.W.isClsIn K C_Branch = true) (po_Branch : PySem.W.plainOver K C_Branch = true) (sa_Branch : PySem.W.findIn K (.ref C_Branch) "__setattr__" = some (some (.builtin "object.__setattr__")))
    {p_Branch_own_prime : Addr} (sat_Branch_own_prime : PySem.W.findIn K (.ref C_Branch) "own_prime" = some (some (.ref p_Branch_own_prime))) (sge_Branch_own_prime : PySem.W.specialIn K (.ref p_Branch_own_prime) "__get__" = some (some (.builtin "member_descriptor.__get__"))) (stk_Branch_own_prime : PySem.W.takesIn K (.ref p_Branch_own_prime) = some true) (sty_Branch_own_prime : PySem.W.typeIn K (.ref p_Branch_own_prime) = some (.type "member_descriptor")) (six_Branch_own_prime : PySem.W.slotIn K p_Branch_own_prime C_Branch = some 0)
    {p_Branch_own_text : Addr} (sat_Branch_own_text : PySem.W.findIn K (.ref C_Branch) "own_text" = some (some (.ref p_Branch_own_text))) (sge_Branch_own_text : PySem.W.specialIn K (.ref p_Branch_own_text) "__get__" = some (some (.builtin "member_descriptor.__get__"))) (stk_Branch_own_text : PySem.W.takesIn K (.ref p_Branch_own_text) = some true) (sty_Branch_own_text : PySem.W.typeIn K (.ref p_Branch_own_text) = some (.type "member_descriptor")) (six_Branch_own_text : PySem.W.slotIn K p_Branch_own_text C_Branch = some 1)
    {p_Branch_own_word : Addr} (sat_Branch_own_word : PySem.W.findIn K (.ref C_Branch) "own_word" = some (some (.ref p_Branch_own_word))) (sge_Branch_own_word : PySem.W.specialIn K (.ref p_Branch_own_word) "__get__" = some (some (.builtin "member_descriptor.__get__"))) (stk_Branch_own_word : PySem.W.takesIn K (.ref p_Branch_own_word) = some true) (sty_Branch_own_word : PySem.W.typeIn K (.ref p_Branch_own_word) = some (.type "member_descriptor")) (six_Branch_own_word : PySem.W.slotIn K p_Branch_own_word C_Branch = some 2)
    (icn : PySem.W.specialIn K (.builtin "object.__class__") "__get__" = some (some (.builtin "getset_descriptor.__get__"))) (ict : PySem.W.takesIn K (.builtin "object.__class__") = some true)
    (ica_Branch : PySem.W.findIn K (.ref C_Branch) "__class__" = some (some (.builtin "object.__class__"))) (icm_Branch : PySem.W.mroIn K C_Branch (.type "object") = some true)
    (ik_Branch_Branch : PySem.W.kitOne K (.ref C_Branch) (.ref C_Branch) = some true)
    {f_is_whole : Addr} {oc_is_whole : Value} {od_is_whole an_is_whole : Option Addr} {sl_is_whole : Array (Option Value)} {kV_is_whole dc_is_whole pm_is_whole cd_is_whole ct_is_whole : Value} (a_is_whole : PySem.W.nsIn K mainGlobals "is_whole" = some (some (.ref f_is_whole))) (l_is_whole : K.lookup f_is_whole = some ⟨oc_is_whole, od_is_whole, .func (PySem.W.fnOf "is_whole" "is_whole" (defArgs s_is_whole) (defBody s_is_whole) (defScope s_is_whole) .none kV_is_whole dc_is_whole pm_is_whole an_is_whole cd_is_whole ct_is_whole), sl_is_whole⟩) (c_is_whole : PySem.W.codeIn K cd_is_whole "is_whole" = true) (k_is_whole : PySem.W.keepIn K (.ref f_is_whole) = true)
    {f_ends_as_word : Addr} {oc_ends_as_word : Value} {od_ends_as_word an_ends_as_word : Option Addr} {sl_ends_as_word : Array (Option Value)} {kV_ends_as_word dc_ends_as_word pm_ends_as_word cd_ends_as_word ct_ends_as_word : Value} (a_ends_as_word : PySem.W.nsIn K mainGlobals "ends_as_word" = some (some (.ref f_ends_as_word))) (l_ends_as_word : K.lookup f_ends_as_word = some ⟨oc_ends_as_word, od_ends_as_word, .func (PySem.W.fnOf "ends_as_word" "ends_as_word" (defArgs s_ends_as_word) (defBody s_ends_as_word) (defScope s_ends_as_word) .none kV_ends_as_word dc_ends_as_word pm_ends_as_word an_ends_as_word cd_ends_as_word ct_ends_as_word), sl_ends_as_word⟩) (c_ends_as_word : PySem.W.codeIn K cd_ends_as_word "ends_as_word" = true) (k_ends_as_word : PySem.W.keepIn K (.ref f_ends_as_word) = true)
    {f_letters_text : Addr} {oc_letters_text : Value} {od_letters_text an_letters_text : Option Addr} {sl_letters_text : Array (Option Value)} {kV_letters_text dc_letters_text pm_letters_text cd_letters_text ct_letters_text : Value} (a_letters_text : PySem.W.nsIn K mainGlobals "letters_text" = some (some (.ref f_letters_text))) (l_letters_text : K.lookup f_letters_text = some ⟨oc_letters_text, od_letters_text, .func (PySem.W.fnOf "letters_text" "letters_text" (defArgs s_letters_text) (defBody s_letters_text) (defScope s_letters_text) .none kV_letters_text dc_letters_text pm_letters_text an_letters_text cd_letters_text ct_letters_text), sl_letters_text⟩) (c_letters_text : PySem.W.codeIn K cd_letters_text "letters_text" = true) (k_letters_text : PySem.W.keepIn K (.ref f_letters_text) = true)
    {f_Branch_prime : Addr} {oc_Branch_prime : Value} {od_Branch_prime an_Branch_prime : Option Addr} {sl_Branch_prime : Array (Option Value)} {kV_Branch_prime dc_Branch_prime pm_Branch_prime cd_Branch_prime ct_Branch_prime : Value} {pp_Branch_prime : Addr} {re_Branch_prime : List Value} (pa_Branch_prime : PySem.W.findIn K (.ref C_Branch) "prime" = some (some (.ref pp_Branch_prime))) (pe_Branch_prime : PySem.W.specialIn K (.ref pp_Branch_prime) "__get__" = some (some (.builtin "property.__get__"))) (pt_Branch_prime : PySem.W.takesIn K (.ref pp_Branch_prime) = some true) (pr_Branch_prime : PySem.W.recIn K pp_Branch_prime "property" = some (.ref f_Branch_prime :: re_Branch_prime)) (l_Branch_prime : K.lookup f_Branch_prime = some ⟨oc_Branch_prime, od_Branch_prime, .func (PySem.W.fnOf "prime" "Branch.prime" (defArgs s_Branch_prime) (defBody s_Branch_prime) (defScope s_Branch_prime) .none kV_Branch_prime dc_Branch_prime pm_Branch_prime an_Branch_prime cd_Branch_prime ct_Branch_prime), sl_Branch_prime⟩) (c_Branch_prime : PySem.W.codeIn K cd_Branch_prime "Branch.prime" = true) (k_Branch_prime : PySem.W.keepIn K (.ref f_Branch_prime) = true)
    {f_Branch_word : Addr} {oc_Branch_word : Value} {od_Branch_word an_Branch_word : Option Addr} {sl_Branch_word : Array (Option Value)} {kV_Branch_word dc_Branch_word pm_Branch_word cd_Branch_word ct_Branch_word : Value} {pp_Branch_word : Addr} {re_Branch_word : List Value} (pa_Branch_word : PySem.W.findIn K (.ref C_Branch) "word" = some (some (.ref pp_Branch_word))) (pe_Branch_word : PySem.W.specialIn K (.ref pp_Branch_word) "__get__" = some (some (.builtin "property.__get__"))) (pt_Branch_word : PySem.W.takesIn K (.ref pp_Branch_word) = some true) (pr_Branch_word : PySem.W.recIn K pp_Branch_word "property" = some (.ref f_Branch_word :: re_Branch_word)) (l_Branch_word : K.lookup f_Branch_word = some ⟨oc_Branch_word, od_Branch_word, .func (PySem.W.fnOf "word" "Branch.word" (defArgs s_Branch_word) (defBody s_Branch_word) (defScope s_Branch_word) .none kV_Branch_word dc_Branch_word pm_Branch_word an_Branch_word cd_Branch_word ct_Branch_word), sl_Branch_word⟩) (c_Branch_word : PySem.W.codeIn K cd_Branch_word "Branch.word" = true) (k_Branch_word : PySem.W.keepIn K (.ref f_Branch_word) = true)
    {f_point_on : Addr} {oc_point_on : Value} {od_point_on an_point_on : Option Addr} {sl_point_on : Array (Option Value)} {kV_point_on dc_point_on pm_point_on cd_point_on ct_point_on : Value} (a_point_on : PySem.W.nsIn K mainGlobals "point_on" = some (some (.ref f_point_on))) (l_point_on : K.lookup f_point_on = some ⟨oc_point_on, od_point_on, .func (PySem.W.fnOf "point_on" "point_on" (defArgs s_point_on) (defBody s_point_on) (defScope s_point_on) .none kV_point_on dc_point_on pm_point_on an_point_on cd_point_on ct_point_on), sl_point_on⟩) (c_point_on : PySem.W.codeIn K cd_point_on "point_on" = true) (k_point_on : PySem.W.keepIn K (.ref f_point_on) = true)
    {f_require_branch : Addr} {oc_require_branch : Value} {od_require_branch an_require_branch : Option Addr} {sl_require_branch : Array (Option Value)} {kV_require_branch dc_require_branch pm_require_branch cd_require_branch ct_require_branch : Value} (a_require_branch : PySem.W.nsIn K mainGlobals "require_branch" = some (some (.ref f_require_branch))) (l_require_branch : K.lookup f_require_branch = some ⟨oc_require_branch, od_require_branch, .func (PySem.W.fnOf "require_branch" "require_branch" (defArgs s_require_branch) (defBody s_require_branch) (defScope s_require_branch) .none kV_require_branch dc_require_branch pm_require_branch an_require_branch cd_require_branch ct_require_branch), sl_require_branch⟩) (c_require_branch : PySem.W.codeIn K cd_require_branch "require_branch" = true) (k_require_branch : PySem.W.keepIn K (.ref f_require_branch) = true)
    {f_second_below : Addr} {oc_second_below : Value} {od_second_below an_second_below : Option Addr} {sl_second_below : Array (Option Value)} {kV_second_below dc_second_below pm_second_below cd_second_below ct_second_below : Value} (a_second_below : PySem.W.nsIn K mainGlobals "second_below" = some (some (.ref f_second_below))) (l_second_below : K.lookup f_second_below = some ⟨oc_second_below, od_second_below, .func (PySem.W.fnOf "second_below" "second_below" (defArgs s_second_below) (defBody s_second_below) (defScope s_second_below) .none kV_second_below dc_second_below pm_second_below an_second_below cd_second_below ct_second_below), sl_second_below⟩) (c_second_below : PySem.W.codeIn K cd_second_below "second_below" = true) (k_second_below : PySem.W.keepIn K (.ref f_second_below) = true)
    {f_all_orders : Addr} {oc_all_orders : Value} {od_all_orders an_all_orders : Option Addr} {sl_all_orders : Array (Option Value)} {kV_all_orders dc_all_orders pm_all_orders cd_all_orders ct_all_orders : Value} (a_all_orders : PySem.W.nsIn K mainGlobals "all_orders" = some (some (.ref f_all_orders))) (l_all_orders : K.lookup f_all_orders = some ⟨oc_all_orders, od_all_orders, .func (PySem.W.fnOf "all_orders" "all_orders" (defArgs s_all_orders) (defBody s_all_orders) (defScope s_all_orders) .none kV_all_orders dc_all_orders pm_all_orders an_all_orders cd_all_orders ct_all_orders), sl_all_orders⟩) (c_all_orders : PySem.W.codeIn K cd_all_orders "all_orders" = true) (k_all_orders : PySem.W.keepIn K (.ref f_all_orders) = true)
    {f_count_in : Addr} {oc_count_in : Value} {od_count_in an_count_in : Option Addr} {sl_count_in : Array (Option Value)} {kV_count_in dc_count_in pm_count_in cd_count_in ct_count_in : Value} (a_count_in : PySem.W.nsIn K mainGlobals "count_in" = some (some (.ref f_count_in))) (l_count_in : K.lookup f_count_in = some ⟨oc_count_in, od_count_in, .func (PySem.W.fnOf "count_in" "count_in" (defArgs s_count_in) (defBody s_count_in) (defScope s_count_in) .none kV_count_in dc_count_in pm_count_in an_count_in cd_count_in ct_count_in), sl_count_in⟩) (c_count_in : PySem.W.codeIn K cd_count_in "count_in" = true) (k_count_in : PySem.W.keepIn K (.ref f_count_in) = true)
    {f__law_dice : Addr} {oc__law_dice : Value} {od__law_dice an__law_dice : Option Addr} {sl__law_dice : Array (Option Value)} {kV__law_dice dc__law_dice pm__law_dice cd__law_dice ct__law_dice : Value} (a__law_dice : PySem.W.nsIn K mainGlobals "_law_dice" = some (some (.ref f__law_dice))) (l__law_dice : K.lookup f__law_dice = some ⟨oc__law_dice, od__law_dice, .func (PySem.W.fnOf "_law_dice" "_law_dice" (defArgs s__law_dice) (defBody s__law_dice) (defScope s__law_dice) .none kV__law_dice dc__law_dice pm__law_dice an__law_dice cd__law_dice ct__law_dice), sl__law_dice⟩) (c__law_dice : PySem.W.codeIn K cd__law_dice "_law_dice" = true) (k__law_dice : PySem.W.keepIn K (.ref f__law_dice) = true)
    {f__law_roll : Addr} {oc__law_roll : Value} {od__law_roll an__law_roll : Option Addr} {sl__law_roll : Array (Option Value)} {kV__law_roll dc__law_roll pm__law_roll cd__law_roll ct__law_roll : Value} (a__law_roll : PySem.W.nsIn K mainGlobals "_law_roll" = some (some (.ref f__law_roll))) (l__law_roll : K.lookup f__law_roll = some ⟨oc__law_roll, od__law_roll, .func (PySem.W.fnOf "_law_roll" "_law_roll" (defArgs s__law_roll) (defBody s__law_roll) (defScope s__law_roll) .none kV__law_roll dc__law_roll pm__law_roll an__law_roll cd__law_roll ct__law_roll), sl__law_roll⟩) (c__law_roll : PySem.W.codeIn K cd__law_roll "_law_roll" = true) (k__law_roll : PySem.W.keepIn K (.ref f__law_roll) = true)
    {f__law_second : Addr} {oc__law_second : Value} {od__law_second an__law_second : Option Addr} {sl__law_second : Array (Option Value)} {kV__law_second dc__law_second pm__law_second cd__law_second ct__law_second : Value} (a__law_second : PySem.W.nsIn K mainGlobals "_law_second" = some (some (.ref f__law_second))) (l__law_second : K.lookup f__law_second = some ⟨oc__law_second, od__law_second, .func (PySem.W.fnOf "_law_second" "_law_second" (defArgs s__law_second) (defBody s__law_second) (defScope s__law_second) .none kV__law_second dc__law_second pm__law_second an__law_second cd__law_second ct__law_second), sl__law_second⟩) (c__law_second : PySem.W.codeIn K cd__law_second "_law_second" = true) (k__law_second : PySem.W.keepIn K (.ref f__law_second) = true)
    {f__law_flat : Addr} {oc__law_flat : Value} {od__law_flat an__law_flat : Option Addr} {sl__law_flat : Array (Option Value)} {kV__law_flat dc__law_flat pm__law_flat cd__law_flat ct__law_flat : Value} (a__law_flat : PySem.W.nsIn K mainGlobals "_law_flat" = some (some (.ref f__law_flat))) (l__law_flat : K.lookup f__law_flat = some ⟨oc__law_flat, od__law_flat, .func (PySem.W.fnOf "_law_flat" "_law_flat" (defArgs s__law_flat) (defBody s__law_flat) (defScope s__law_flat) .none kV__law_flat dc__law_flat pm__law_flat an__law_flat cd__law_flat ct__law_flat), sl__law_flat⟩) (c__law_flat : PySem.W.codeIn K cd__law_flat "_law_flat" = true) (k__law_flat : PySem.W.keepIn K (.ref f__law_flat) = true)
    {f_is_integer : Addr} {oc_is_integer : Value} {od_is_integer an_is_integer : Option Addr} {sl_is_integer : Array (Option Value)} {kV_is_integer dc_is_integer pm_is_integer cd_is_integer ct_is_integer : Value} (a_is_integer : PySem.W.nsIn K mainGlobals "is_integer" = some (some (.ref f_is_integer))) (l_is_integer : K.lookup f_is_integer = some ⟨oc_is_integer, od_is_integer, .func (PySem.W.fnOf "is_integer" "is_integer" (defArgs s_is_integer) (defBody s_is_integer) (defScope s_is_integer) .none kV_is_integer dc_is_integer pm_is_integer an_is_integer cd_is_integer ct_is_integer), sl_is_integer⟩) (c_is_integer : PySem.W.codeIn K cd_is_integer "is_integer" = true) (k_is_integer : PySem.W.keepIn K (.ref f_is_integer) = true)
    {f_is_prime : Addr} {oc_is_prime : Value} {od_is_prime an_is_prime : Option Addr} {sl_is_prime : Array (Option Value)} {kV_is_prime dc_is_prime pm_is_prime cd_is_prime ct_is_prime : Value} (a_is_prime : PySem.W.nsIn K mainGlobals "is_prime" = some (some (.ref f_is_prime))) (l_is_prime : K.lookup f_is_prime = some ⟨oc_is_prime, od_is_prime, .func (PySem.W.fnOf "is_prime" "is_prime" (defArgs s_is_prime) (defBody s_is_prime) (defScope s_is_prime) .none kV_is_prime dc_is_prime pm_is_prime an_is_prime cd_is_prime ct_is_prime), sl_is_prime⟩) (c_is_prime : PySem.W.codeIn K cd_is_prime "is_prime" = true) (k_is_prime : PySem.W.keepIn K (.ref f_is_prime) = true)
    {f_nears_of : Addr} {oc_nears_of : Value} {od_nears_of an_nears_of : Option Addr} {sl_nears_of : Array (Option Value)} {kV_nears_of dc_nears_of pm_nears_of cd_nears_of ct_nears_of : Value} (a_nears_of : PySem.W.nsIn K mainGlobals "nears_of" = some (some (.ref f_nears_of))) (l_nears_of : K.lookup f_nears_of = some ⟨oc_nears_of, od_nears_of, .func (PySem.W.fnOf "nears_of" "nears_of" (defArgs s_nears_of) (defBody s_nears_of) (defScope s_nears_of) .none kV_nears_of dc_nears_of pm_nears_of an_nears_of cd_nears_of ct_nears_of), sl_nears_of⟩) (c_nears_of : PySem.W.codeIn K cd_nears_of "nears_of" = true) (k_nears_of : PySem.W.keepIn K (.ref f_nears_of) = true)
    {f_all_counts : Addr} {oc_all_counts : Value} {od_all_counts an_all_counts : Option Addr} {sl_all_counts : Array (Option Value)} {kV_all_counts dc_all_counts pm_all_counts cd_all_counts ct_all_counts : Value} (a_all_counts : PySem.W.nsIn K mainGlobals "all_counts" = some (some (.ref f_all_counts))) (l_all_counts : K.lookup f_all_counts = some ⟨oc_all_counts, od_all_counts, .func (PySem.W.fnOf "all_counts" "all_counts" (defArgs s_all_counts) (defBody s_all_counts) (defScope s_all_counts) .none kV_all_counts dc_all_counts pm_all_counts an_all_counts cd_all_counts ct_all_counts), sl_all_counts⟩) (c_all_counts : PySem.W.codeIn K cd_all_counts "all_counts" = true) (k_all_counts : PySem.W.keepIn K (.ref f_all_counts) = true)
    {f__law_pick : Addr} {oc__law_pick : Value} {od__law_pick an__law_pick : Option Addr} {sl__law_pick : Array (Option Value)} {kV__law_pick dc__law_pick pm__law_pick cd__law_pick ct__law_pick : Value} (a__law_pick : PySem.W.nsIn K mainGlobals "_law_pick" = some (some (.ref f__law_pick))) (l__law_pick : K.lookup f__law_pick = some ⟨oc__law_pick, od__law_pick, .func (PySem.W.fnOf "_law_pick" "_law_pick" (defArgs s__law_pick) (defBody s__law_pick) (defScope s__law_pick) .none kV__law_pick dc__law_pick pm__law_pick an__law_pick cd__law_pick ct__law_pick), sl__law_pick⟩) (c__law_pick : PySem.W.codeIn K cd__law_pick "_law_pick" = true) (k__law_pick : PySem.W.keepIn K (.ref f__law_pick) = true)
    {f__law_letter : Addr} {oc__law_letter : Value} {od__law_letter an__law_letter : Option Addr} {sl__law_letter : Array (Option Value)} {kV__law_letter dc__law_letter pm__law_letter cd__law_letter ct__law_letter : Value} (a__law_letter : PySem.W.nsIn K mainGlobals "_law_letter" = some (some (.ref f__law_letter))) (l__law_letter : K.lookup f__law_letter = some ⟨oc__law_letter, od__law_letter, .func (PySem.W.fnOf "_law_letter" "_law_letter" (defArgs s__law_letter) (defBody s__law_letter) (defScope s__law_letter) .none kV__law_letter dc__law_letter pm__law_letter an__law_letter cd__law_letter ct__law_letter), sl__law_letter⟩) (c__law_letter : PySem.W.codeIn K cd__law_letter "_law_letter" = true) (k__law_letter : PySem.W.keepIn K (.ref f__law_letter) = true)
    {f__law_nears : Addr} {oc__law_nears : Value} {od__law_nears an__law_nears : Option Addr} {sl__law_nears : Array (Option Value)} {kV__law_nears dc__law_nears pm__law_nears cd__law_nears ct__law_nears : Value} (a__law_nears : PySem.W.nsIn K mainGlobals "_law_nears" = some (some (.ref f__law_nears))) (l__law_nears : K.lookup f__law_nears = some ⟨oc__law_nears, od__law_nears, .func (PySem.W.fnOf "_law_nears" "_law_nears" (defArgs s__law_nears) (defBody s__law_nears) (defScope s__law_nears) .none kV__law_nears dc__law_nears pm__law_nears an__law_nears cd__law_nears ct__law_nears), sl__law_nears⟩) (c__law_nears : PySem.W.codeIn K cd__law_nears "_law_nears" = true) (k__law_nears : PySem.W.keepIn K (.ref f__law_nears) = true)
    {f_require_prime : Addr} {oc_require_prime : Value} {od_require_prime an_require_prime : Option Addr} {sl_require_prime : Array (Option Value)} {kV_require_prime dc_require_prime pm_require_prime cd_require_prime ct_require_prime : Value} (a_require_prime : PySem.W.nsIn K mainGlobals "require_prime" = some (some (.ref f_require_prime))) (l_require_prime : K.lookup f_require_prime = some ⟨oc_require_prime, od_require_prime, .func (PySem.W.fnOf "require_prime" "require_prime" (defArgs s_require_prime) (defBody s_require_prime) (defScope s_require_prime) .none kV_require_prime dc_require_prime pm_require_prime an_require_prime cd_require_prime ct_require_prime), sl_require_prime⟩) (c_require_prime : PySem.W.codeIn K cd_require_prime "require_prime" = true) (k_require_prime : PySem.W.keepIn K (.ref f_require_prime) = true)
    {f_require_count : Addr} {oc_require_count : Value} {od_require_count an_require_count : Option Addr} {sl_require_count : Array (Option Value)} {kV_require_count dc_require_count pm_require_count cd_require_count ct_require_count : Value} (a_require_count : PySem.W.nsIn K mainGlobals "require_count" = some (some (.ref f_require_count))) (l_require_count : K.lookup f_require_count = some ⟨oc_require_count, od_require_count, .func (PySem.W.fnOf "require_count" "require_count" (defArgs s_require_count) (defBody s_require_count) (defScope s_require_count) .none kV_require_count dc_require_count pm_require_count an_require_count cd_require_count ct_require_count), sl_require_count⟩) (c_require_count : PySem.W.codeIn K cd_require_count "require_count" = true) (k_require_count : PySem.W.keepIn K (.ref f_require_count) = true)
    {f_is_letter : Addr} {oc_is_letter : Value} {od_is_letter an_is_letter : Option Addr} {sl_is_letter : Array (Option Value)} {kV_is_letter dc_is_letter pm_is_letter cd_is_letter ct_is_letter : Value} (a_is_letter : PySem.W.nsIn K mainGlobals "is_letter" = some (some (.ref f_is_letter))) (l_is_letter : K.lookup f_is_letter = some ⟨oc_is_letter, od_is_letter, .func (PySem.W.fnOf "is_letter" "is_letter" (defArgs s_is_letter) (defBody s_is_letter) (defScope s_is_letter) .none kV_is_letter dc_is_letter pm_is_letter an_is_letter cd_is_letter ct_is_letter), sl_is_letter⟩) (c_is_letter : PySem.W.codeIn K cd_is_letter "is_letter" = true) (k_is_letter : PySem.W.keepIn K (.ref f_is_letter) = true)
    {f_require_height : Addr} {oc_require_height : Value} {od_require_height an_require_height : Option Addr} {sl_require_height : Array (Option Value)} {kV_require_height dc_require_height pm_require_height cd_require_height ct_require_height : Value} (a_require_height : PySem.W.nsIn K mainGlobals "require_height" = some (some (.ref f_require_height))) (l_require_height : K.lookup f_require_height = some ⟨oc_require_height, od_require_height, .func (PySem.W.fnOf "require_height" "require_height" (defArgs s_require_height) (defBody s_require_height) (defScope s_require_height) .none kV_require_height dc_require_height pm_require_height an_require_height cd_require_height ct_require_height), sl_require_height⟩) (c_require_height : PySem.W.codeIn K cd_require_height "require_height" = true) (k_require_height : PySem.W.keepIn K (.ref f_require_height) = true)
    {f_counts_to : Addr} {oc_counts_to : Value} {od_counts_to an_counts_to : Option Addr} {sl_counts_to : Array (Option Value)} {kV_counts_to dc_counts_to pm_counts_to cd_counts_to ct_counts_to : Value} (a_counts_to : PySem.W.nsIn K mainGlobals "counts_to" = some (some (.ref f_counts_to))) (l_counts_to : K.lookup f_counts_to = some ⟨oc_counts_to, od_counts_to, .func (PySem.W.fnOf "counts_to" "counts_to" (defArgs s_counts_to) (defBody s_counts_to) (defScope s_counts_to) .none kV_counts_to dc_counts_to pm_counts_to an_counts_to cd_counts_to ct_counts_to), sl_counts_to⟩) (c_counts_to : PySem.W.codeIn K cd_counts_to "counts_to" = true) (k_counts_to : PySem.W.keepIn K (.ref f_counts_to) = true)
    {f__law_point_drawn : Addr} {oc__law_point_drawn : Value} {od__law_point_drawn an__law_point_drawn : Option Addr} {sl__law_point_drawn : Array (Option Value)} {kV__law_point_drawn dc__law_point_drawn pm__law_point_drawn cd__law_point_drawn ct__law_point_drawn : Value} (a__law_point_drawn : PySem.W.nsIn K mainGlobals "_law_point_drawn" = some (some (.ref f__law_point_drawn))) (l__law_point_drawn : K.lookup f__law_point_drawn = some ⟨oc__law_point_drawn, od__law_point_drawn, .func (PySem.W.fnOf "_law_point_drawn" "_law_point_drawn" (defArgs s__law_point_drawn) (defBody s__law_point_drawn) (defScope s__law_point_drawn) .none kV__law_point_drawn dc__law_point_drawn pm__law_point_drawn an__law_point_drawn cd__law_point_drawn ct__law_point_drawn), sl__law_point_drawn⟩) (c__law_point_drawn : PySem.W.codeIn K cd__law_point_drawn "_law_point_drawn" = true) (k__law_point_drawn : PySem.W.keepIn K (.ref f__law_point_drawn) = true)
    {f__law_prime_of : Addr} {oc__law_prime_of : Value} {od__law_prime_of an__law_prime_of : Option Addr} {sl__law_prime_of : Array (Option Value)} {kV__law_prime_of dc__law_prime_of pm__law_prime_of cd__law_prime_of ct__law_prime_of : Value} (a__law_prime_of : PySem.W.nsIn K mainGlobals "_law_prime_of" = some (some (.ref f__law_prime_of))) (l__law_prime_of : K.lookup f__law_prime_of = some ⟨oc__law_prime_of, od__law_prime_of, .func (PySem.W.fnOf "_law_prime_of" "_law_prime_of" (defArgs s__law_prime_of) (defBody s__law_prime_of) (defScope s__law_prime_of) .none kV__law_prime_of dc__law_prime_of pm__law_prime_of an__law_prime_of cd__law_prime_of ct__law_prime_of), sl__law_prime_of⟩) (c__law_prime_of : PySem.W.codeIn K cd__law_prime_of "_law_prime_of" = true) (k__law_prime_of : PySem.W.keepIn K (.ref f__law_prime_of) = true)
    {f__law_spots_near : Addr} {oc__law_spots_near : Value} {od__law_spots_near an__law_spots_near : Option Addr} {sl__law_spots_near : Array (Option Value)} {kV__law_spots_near dc__law_spots_near pm__law_spots_near cd__law_spots_near ct__law_spots_near : Value} (a__law_spots_near : PySem.W.nsIn K mainGlobals "_law_spots_near" = some (some (.ref f__law_spots_near))) (l__law_spots_near : K.lookup f__law_spots_near = some ⟨oc__law_spots_near, od__law_spots_near, .func (PySem.W.fnOf "_law_spots_near" "_law_spots_near" (defArgs s__law_spots_near) (defBody s__law_spots_near) (defScope s__law_spots_near) .none kV__law_spots_near dc__law_spots_near pm__law_spots_near an__law_spots_near cd__law_spots_near ct__law_spots_near), sl__law_spots_near⟩) (c__law_spots_near : PySem.W.codeIn K cd__law_spots_near "_law_spots_near" = true) (k__law_spots_near : PySem.W.keepIn K (.ref f__law_spots_near) = true)
    {f_are_letters : Addr} {oc_are_letters : Value} {od_are_letters an_are_letters : Option Addr} {sl_are_letters : Array (Option Value)} {kV_are_letters dc_are_letters pm_are_letters cd_are_letters ct_are_letters : Value} (a_are_letters : PySem.W.nsIn K mainGlobals "are_letters" = some (some (.ref f_are_letters))) (l_are_letters : K.lookup f_are_letters = some ⟨oc_are_letters, od_are_letters, .func (PySem.W.fnOf "are_letters" "are_letters" (defArgs s_are_letters) (defBody s_are_letters) (defScope s_are_letters) .none kV_are_letters dc_are_letters pm_are_letters an_are_letters cd_are_letters ct_are_letters), sl_are_letters⟩) (c_are_letters : PySem.W.codeIn K cd_are_letters "are_letters" = true) (k_are_letters : PySem.W.keepIn K (.ref f_are_letters) = true)
    {f_Branch_point_at : Addr} {oc_Branch_point_at : Value} {od_Branch_point_at an_Branch_point_at : Option Addr} {sl_Branch_point_at : Array (Option Value)} {kV_Branch_point_at dc_Branch_point_at pm_Branch_point_at cd_Branch_point_at ct_Branch_point_at : Value} (fi_Branch_point_at : PySem.W.findIn K (.ref C_Branch) "point_at" = some (some (.ref f_Branch_point_at))) (fn_Branch_point_at : PySem.W.isFn K (.ref f_Branch_point_at) = true) (l_Branch_point_at : K.lookup f_Branch_point_at = some ⟨oc_Branch_point_at, od_Branch_point_at, .func (PySem.W.fnOf "point_at" "Branch.point_at" (defArgs s_Branch_point_at) (defBody s_Branch_point_at) (defScope s_Branch_point_at) .none kV_Branch_point_at dc_Branch_point_at pm_Branch_point_at an_Branch_point_at cd_Branch_point_at ct_Branch_point_at), sl_Branch_point_at⟩) (c_Branch_point_at : PySem.W.codeIn K cd_Branch_point_at "Branch.point_at" = true) (k_Branch_point_at : PySem.W.keepIn K (.ref f_Branch_point_at) = true)
    {f_orders_at : Addr} {oc_orders_at : Value} {od_orders_at an_orders_at : Option Addr} {sl_orders_at : Array (Option Value)} {kV_orders_at dc_orders_at pm_orders_at cd_orders_at ct_orders_at : Value} (a_orders_at : PySem.W.nsIn K mainGlobals "orders_at" = some (some (.ref f_orders_at))) (l_orders_at : K.lookup f_orders_at = some ⟨oc_orders_at, od_orders_at, .func (PySem.W.fnOf "orders_at" "orders_at" (defArgs s_orders_at) (defBody s_orders_at) (defScope s_orders_at) .none kV_orders_at dc_orders_at pm_orders_at an_orders_at cd_orders_at ct_orders_at), sl_orders_at⟩) (c_orders_at : PySem.W.codeIn K cd_orders_at "orders_at" = true) (k_orders_at : PySem.W.keepIn K (.ref f_orders_at) = true)
    {f_counts_of : Addr} {oc_counts_of : Value} {od_counts_of an_counts_of : Option Addr} {sl_counts_of : Array (Option Value)} {kV_counts_of dc_counts_of pm_counts_of cd_counts_of ct_counts_of : Value} (a_counts_of : PySem.W.nsIn K mainGlobals "counts_of" = some (some (.ref f_counts_of))) (l_counts_of : K.lookup f_counts_of = some ⟨oc_counts_of, od_counts_of, .func (PySem.W.fnOf "counts_of" "counts_of" (defArgs s_counts_of) (defBody s_counts_of) (defScope s_counts_of) .none kV_counts_of dc_counts_of pm_counts_of an_counts_of cd_counts_of ct_counts_of), sl_counts_of⟩) (c_counts_of : PySem.W.codeIn K cd_counts_of "counts_of" = true) (k_counts_of : PySem.W.keepIn K (.ref f_counts_of) = true)
    {f__law_word_drawn : Addr} {oc__law_word_drawn : Value} {od__law_word_drawn an__law_word_drawn : Option Addr} {sl__law_word_drawn : Array (Option Value)} {kV__law_word_drawn dc__law_word_drawn pm__law_word_drawn cd__law_word_drawn ct__law_word_drawn : Value} (a__law_word_drawn : PySem.W.nsIn K mainGlobals "_law_word_drawn" = some (some (.ref f__law_word_drawn))) (l__law_word_drawn : K.lookup f__law_word_drawn = some ⟨oc__law_word_drawn, od__law_word_drawn, .func (PySem.W.fnOf "_law_word_drawn" "_law_word_drawn" (defArgs s__law_word_drawn) (defBody s__law_word_drawn) (defScope s__law_word_drawn) .none kV__law_word_drawn dc__law_word_drawn pm__law_word_drawn an__law_word_drawn cd__law_word_drawn ct__law_word_drawn), sl__law_word_drawn⟩) (c__law_word_drawn : PySem.W.codeIn K cd__law_word_drawn "_law_word_drawn" = true) (k__law_word_drawn : PySem.W.keepIn K (.ref f__law_word_drawn) = true)
    {f_is_point : Addr} {oc_is_point : Value} {od_is_point an_is_point : Option Addr} {sl_is_point : Array (Option Value)} {kV_is_point dc_is_point pm_is_point cd_is_point ct_is_point : Value} (a_is_point : PySem.W.nsIn K mainGlobals "is_point" = some (some (.ref f_is_point))) (l_is_point : K.lookup f_is_point = some ⟨oc_is_point, od_is_point, .func (PySem.W.fnOf "is_point" "is_point" (defArgs s_is_point) (defBody s_is_point) (defScope s_is_point) .none kV_is_point dc_is_point pm_is_point an_is_point cd_is_point ct_is_point), sl_is_point⟩) (c_is_point : PySem.W.codeIn K cd_is_point "is_point" = true) (k_is_point : PySem.W.keepIn K (.ref f_is_point) = true)
    {f_Branch_init : Addr} {oc_Branch_init : Value} {od_Branch_init an_Branch_init : Option Addr} {sl_Branch_init : Array (Option Value)} {kV_Branch_init dc_Branch_init pm_Branch_init cd_Branch_init ct_Branch_init : Value} (fi_Branch_init : PySem.W.findIn K (.ref C_Branch) "__init__" = some (some (.ref f_Branch_init))) (fn_Branch_init : PySem.W.isFn K (.ref f_Branch_init) = true) (l_Branch_init : K.lookup f_Branch_init = some ⟨oc_Branch_init, od_Branch_init, .func (PySem.W.fnOf "__init__" "Branch.__init__" (defArgs s_Branch_init) (defBody s_Branch_init) (defScope s_Branch_init) .none kV_Branch_init dc_Branch_init pm_Branch_init an_Branch_init cd_Branch_init ct_Branch_init), sl_Branch_init⟩) (c_Branch_init : PySem.W.codeIn K cd_Branch_init "Branch.__init__" = true) (k_Branch_init : PySem.W.keepIn K (.ref f_Branch_init) = true)
    (mk_Branch : PySem.W.makesIn K C_Branch = true) (kc_Branch : PySem.W.keepIn K (.ref C_Branch) = true)
    {f_count_at : Addr} {oc_count_at : Value} {od_count_at an_count_at : Option Addr} {sl_count_at : Array (Option Value)} {kV_count_at dc_count_at pm_count_at cd_count_at ct_count_at : Value} (a_count_at : PySem.W.nsIn K mainGlobals "count_at" = some (some (.ref f_count_at))) (l_count_at : K.lookup f_count_at = some ⟨oc_count_at, od_count_at, .func (PySem.W.fnOf "count_at" "count_at" (defArgs s_count_at) (defBody s_count_at) (defScope s_count_at) .none kV_count_at dc_count_at pm_count_at an_count_at cd_count_at ct_count_at), sl_count_at⟩) (c_count_at : PySem.W.codeIn K cd_count_at "count_at" = true) (k_count_at : PySem.W.keepIn K (.ref f_count_at) = true)
    {f__law_divided_right : Addr} {oc__law_divided_right : Value} {od__law_divided_right an__law_divided_right : Option Addr} {sl__law_divided_right : Array (Option Value)} {kV__law_divided_right dc__law_divided_right pm__law_divided_right cd__law_divided_right ct__law_divided_right : Value} (a__law_divided_right : PySem.W.nsIn K mainGlobals "_law_divided_right" = some (some (.ref f__law_divided_right))) (l__law_divided_right : K.lookup f__law_divided_right = some ⟨oc__law_divided_right, od__law_divided_right, .func (PySem.W.fnOf "_law_divided_right" "_law_divided_right" (defArgs s__law_divided_right) (defBody s__law_divided_right) (defScope s__law_divided_right) .none kV__law_divided_right dc__law_divided_right pm__law_divided_right an__law_divided_right cd__law_divided_right ct__law_divided_right), sl__law_divided_right⟩) (c__law_divided_right : PySem.W.codeIn K cd__law_divided_right "_law_divided_right" = true) (k__law_divided_right : PySem.W.keepIn K (.ref f__law_divided_right) = true)
    {f_require_point : Addr} {oc_require_point : Value} {od_require_point an_require_point : Option Addr} {sl_require_point : Array (Option Value)} {kV_require_point dc_require_point pm_require_point cd_require_point ct_require_point : Value} (a_require_point : PySem.W.nsIn K mainGlobals "require_point" = some (some (.ref f_require_point))) (l_require_point : K.lookup f_require_point = some ⟨oc_require_point, od_require_point, .func (PySem.W.fnOf "require_point" "require_point" (defArgs s_require_point) (defBody s_require_point) (defScope s_require_point) .none kV_require_point dc_require_point pm_require_point an_require_point cd_require_point ct_require_point), sl_require_point⟩) (c_require_point : PySem.W.codeIn K cd_require_point "require_point" = true) (k_require_point : PySem.W.keepIn K (.ref f_require_point) = true)
    {f_is_near : Addr} {oc_is_near : Value} {od_is_near an_is_near : Option Addr} {sl_is_near : Array (Option Value)} {kV_is_near dc_is_near pm_is_near cd_is_near ct_is_near : Value} (a_is_near : PySem.W.nsIn K mainGlobals "is_near" = some (some (.ref f_is_near))) (l_is_near : K.lookup f_is_near = some ⟨oc_is_near, od_is_near, .func (PySem.W.fnOf "is_near" "is_near" (defArgs s_is_near) (defBody s_is_near) (defScope s_is_near) .none kV_is_near dc_is_near pm_is_near an_is_near cd_is_near ct_is_near), sl_is_near⟩) (c_is_near : PySem.W.codeIn K cd_is_near "is_near" = true) (k_is_near : PySem.W.keepIn K (.ref f_is_near) = true)
    {f__law_place_right : Addr} {oc__law_place_right : Value} {od__law_place_right an__law_place_right : Option Addr} {sl__law_place_right : Array (Option Value)} {kV__law_place_right dc__law_place_right pm__law_place_right cd__law_place_right ct__law_place_right : Value} (a__law_place_right : PySem.W.nsIn K mainGlobals "_law_place_right" = some (some (.ref f__law_place_right))) (l__law_place_right : K.lookup f__law_place_right = some ⟨oc__law_place_right, od__law_place_right, .func (PySem.W.fnOf "_law_place_right" "_law_place_right" (defArgs s__law_place_right) (defBody s__law_place_right) (defScope s__law_place_right) .none kV__law_place_right dc__law_place_right pm__law_place_right an__law_place_right cd__law_place_right ct__law_place_right), sl__law_place_right⟩) (c__law_place_right : PySem.W.codeIn K cd__law_place_right "_law_place_right" = true) (k__law_place_right : PySem.W.keepIn K (.ref f__law_place_right) = true)
    {f__law_right : Addr} {oc__law_right : Value} {od__law_right an__law_right : Option Addr} {sl__law_right : Array (Option Value)} {kV__law_right dc__law_right pm__law_right cd__law_right ct__law_right : Value} (a__law_right : PySem.W.nsIn K mainGlobals "_law_right" = some (some (.ref f__law_right))) (l__law_right : K.lookup f__law_right = some ⟨oc__law_right, od__law_right, .func (PySem.W.fnOf "_law_right" "_law_right" (defArgs s__law_right) (defBody s__law_right) (defScope s__law_right) .none kV__law_right dc__law_right pm__law_right an__law_right cd__law_right ct__law_right), sl__law_right⟩) (c__law_right : PySem.W.codeIn K cd__law_right "_law_right" = true) (k__law_right : PySem.W.keepIn K (.ref f__law_right) = true)
    {f_law : Addr} {oc_law : Value} {od_law an_law : Option Addr} {sl_law : Array (Option Value)} {kV_law dc_law pm_law cd_law ct_law : Value} (a_law : PySem.W.nsIn K mainGlobals "law" = some (some (.ref f_law))) (l_law : K.lookup f_law = some ⟨oc_law, od_law, .func (PySem.W.fnOf "law" "law" (defArgs s_law) (defBody s_law) (defScope s_law) .none kV_law dc_law pm_law an_law cd_law ct_law), sl_law⟩) (c_law : PySem.W.codeIn K cd_law "law" = true) (k_law : PySem.W.keepIn K (.ref f_law) = true) :
    ∃ fd : FuncData, (∀ (s : Shared) (v : Value), BindsTo s fd ⟨[v], []⟩ [("_law_script", v)]) ∧ ∀ base : Heap, K.In base → base.Ns mainGlobals mg → FnOk P w K mg base (L2.CX P w) 11 fa fd ["_law_script"] (LSp K sp_law) := by
  have q_Branch : SClsN K "Branch" := scls_mk a_Branch pg_Branch ic_Branch po_Branch sa_Branch
  have T : Txt K mg := ⟨PySem.W.mg_none_of X G n_abs, PySem.W.mg_none_of X G n_all, PySem.W.mg_none_of X G n_bool, PySem.W.mg_none_of X G n_enumerate, PySem.W.mg_none_of X G n_int, PySem.W.mg_none_of X G n_isinstance, PySem.W.mg_none_of X G n_len, PySem.W.mg_none_of X G n_list, PySem.W.mg_none_of X G n_max, PySem.W.mg_none_of X G n_min, PySem.W.mg_none_of X G n_range, PySem.W.mg_none_of X G n_str, PySem.W.mg_none_of X G n_sum, PySem.W.mg_none_of X G n_tuple, ⟨_, PySem.W.mg_of X G g_BLANK⟩, ⟨_, PySem.W.mg_of X G g_GREAT⟩, ⟨_, PySem.W.mg_of X G g_MAX_HEIGHT⟩, ⟨_, PySem.W.mg_of X G g_MAX_LETTERS⟩, ⟨_, PySem.W.mg_of X G g_ORIGIN_TEXT⟩, tupAt_mk (its := [.int (2) tk_PRIMES_0, .int (3) tk_PRIMES_1, .int (5) tk_PRIMES_2, .int (7) tk_PRIMES_3, .int (11) tk_PRIMES_4, .int (13) tk_PRIMES_5, .int (17) tk_PRIMES_6, .int (19) tk_PRIMES_7, .int (23) tk_PRIMES_8, .int (29) tk_PRIMES_9, .int (31) tk_PRIMES_10]) X G g_PRIMES l_PRIMES (.cons ⟨_, rfl⟩ (.cons ⟨_, rfl⟩ (.cons ⟨_, rfl⟩ (.cons ⟨_, rfl⟩ (.cons ⟨_, rfl⟩ (.cons ⟨_, rfl⟩ (.cons ⟨_, rfl⟩ (.cons ⟨_, rfl⟩ (.cons ⟨_, rfl⟩ (.cons ⟨_, rfl⟩ (.cons ⟨_, rfl⟩ .nil))))))))))) (by rw [sizeLine_eq]; exact Nat.le_of_ble_eq_true rfl), ⟨_, PySem.W.mg_of X G g_TURN⟩, ⟨_, PySem.W.mg_of X G g_TURN_TEXT⟩, slot_mk q_Branch a_Branch sat_Branch_own_prime sge_Branch_own_prime stk_Branch_own_prime sty_Branch_own_prime six_Branch_own_prime (by decide), slot_mk q_Branch a_Branch sat_Branch_own_text sge_Branch_own_text stk_Branch_own_text sty_Branch_own_text six_Branch_own_text (by decide), slot_mk q_Branch a_Branch sat_Branch_own_word sge_Branch_own_word stk_Branch_own_word sty_Branch_own_word six_Branch_own_word (by decide), isi_mk q_Branch a_Branch a_Branch ica_Branch icn ict icm_Branch ik_Branch_Branch, cls_mk X G a_Branch⟩
  have e := hfa.symm.trans (PySem.W.mg_of X G a_law)
  cases e
  refine ⟨PySem.W.fnOf "law" "law" (defArgs s_law) (defBody s_law) (defScope s_law) .none kV_law dc_law pm_law an_law cd_law ct_law, fun s v => .of_eq rfl, fun base _ _ => ?_⟩
  exact ok_at (all_law (P := P) (w := w) (base := base) T (defAt_mk X G a_is_whole l_is_whole c_is_whole k_is_whole) (defAt_mk X G a_ends_as_word l_ends_as_word c_ends_as_word k_ends_as_word) (defAt_mk X G a_letters_text l_letters_text c_letters_text k_letters_text) (propAt_mk q_Branch a_Branch pa_Branch_prime pe_Branch_prime pt_Branch_prime pr_Branch_prime l_Branch_prime c_Branch_prime k_Branch_prime) (propAt_mk q_Branch a_Branch pa_Branch_word pe_Branch_word pt_Branch_word pr_Branch_word l_Branch_word c_Branch_word k_Branch_word) (defAt_mk X G a_point_on l_point_on c_point_on k_point_on) (defAt_mk X G a_require_branch l_require_branch c_require_branch k_require_branch) (defAt_mk X G a_second_below l_second_below c_second_below k_second_below) (defAt_mk X G a_all_orders l_all_orders c_all_orders k_all_orders) (defAt_mk X G a_count_in l_count_in c_count_in k_count_in) (defAt_mk X G a__law_dice l__law_dice c__law_dice k__law_dice) (defAt_mk X G a__law_roll l__law_roll c__law_roll k__law_roll) (defAt_mk X G a__law_second l__law_second c__law_second k__law_second) (defAt_mk X G a__law_flat l__law_flat c__law_flat k__law_flat) (defAt_mk X G a_is_integer l_is_integer c_is_integer k_is_integer) (defAt_mk X G a_is_prime l_is_prime c_is_prime k_is_prime) (defAt_mk X G a_nears_of l_nears_of c_nears_of k_nears_of) (defAt_mk X G a_all_counts l_all_counts c_all_counts k_all_counts) (defAt_mk X G a__law_pick l__law_pick c__law_pick k__law_pick) (defAt_mk X G a__law_letter l__law_letter c__law_letter k__law_letter) (defAt_mk X G a__law_nears l__law_nears c__law_nears k__law_nears) (defAt_mk X G a_require_prime l_require_prime c_require_prime k_require_prime) (defAt_mk X G a_require_count l_require_count c_require_count k_require_count) (defAt_mk X G a_is_letter l_is_letter c_is_letter k_is_letter) (defAt_mk X G a_require_height l_require_height c_require_height k_require_height) (defAt_mk X G a_counts_to l_counts_to c_counts_to k_counts_to) (defAt_mk X G a__law_point_drawn l__law_point_drawn c__law_point_drawn k__law_point_drawn) (defAt_mk X G a__law_prime_of l__law_prime_of c__law_prime_of k__law_prime_of) (defAt_mk X G a__law_spots_near l__law_spots_near c__law_spots_near k__law_spots_near) (defAt_mk X G a_are_letters l_are_letters c_are_letters k_are_letters) (methAt_mk a_Branch fi_Branch_point_at fn_Branch_point_at l_Branch_point_at c_Branch_point_at k_Branch_point_at) q_Branch (defAt_mk X G a_orders_at l_orders_at c_orders_at k_orders_at) (defAt_mk X G a_counts_of l_counts_of c_counts_of k_counts_of) (defAt_mk X G a__law_word_drawn l__law_word_drawn c__law_word_drawn k__law_word_drawn) (defAt_mk X G a_is_point l_is_point c_is_point k_is_point) (methAt_mk a_Branch fi_Branch_init fn_Branch_init l_Branch_init c_Branch_init k_Branch_init) (make_mk X G a_Branch mk_Branch kc_Branch) (defAt_mk X G a_count_at l_count_at c_count_at k_count_at) (defAt_mk X G a__law_divided_right l__law_divided_right c__law_divided_right k__law_divided_right) (defAt_mk X G a_require_point l_require_point c_require_point k_require_point) (defAt_mk X G a_is_near l_is_near c_is_near k_is_near) (defAt_mk X G a__law_place_right l__law_place_right c__law_place_right k__law_place_right) (defAt_mk X G a__law_right l__law_right c__law_right k__law_right) (defAt_mk X G a_law l_law c_law k_law)) (PySem.W.mg_of X G a_law) l_law
end K22
open PySem PySem.W PyProof.Rows in
set_option maxRecDepth 100000 in
set_option maxHeartbeats 0 in
theorem PySem.Challenge.cw_touchtowers_k22_whole_counts_at_near_poi_holds : PySem.Challenge.rw_touchtowers_k22_whole_counts_at_near_poi.Holds := by
  w_on; o_law; k_head; (case hw => w_witness2)
  k_fill
  refine L3.walk3 (l := PySem.Challenge.rw_touchtowers_k22_whole_counts_at_near_poi) (k := 11) (x := "_law_script") (sp := K22.sp_law) rfl (by decide) rfl ⟨rfl, by decide, by decide⟩ (fun w h Y => PySem.W.kIn_of Y) ?F K22.law_holds
  case F =>
    intro w mg fa h KX G hmg
    refine' K22.all_mk KX G hmg ?n_abs ?n_all ?n_bool ?n_enumerate ?n_int ?n_isinstance ?n_len ?n_list ?n_max ?n_min ?n_range ?n_str ?n_sum ?n_tuple ?g_BLANK ?g_GREAT ?g_MAX_HEIGHT ?g_MAX_LETTERS ?g_ORIGIN_TEXT ?g_PRIMES ?l_PRIMES ?g_TURN ?g_TURN_TEXT ?a_Branch ?pg_Branch ?ic_Branch ?po_Branch ?sa_Branch ?sat_Branch_own_prime ?sge_Branch_own_prime ?stk_Branch_own_prime ?sty_Branch_own_prime ?six_Branch_own_prime ?sat_Branch_own_text ?sge_Branch_own_text ?stk_Branch_own_text ?sty_Branch_own_text ?six_Branch_own_text ?sat_Branch_own_word ?sge_Branch_own_word ?stk_Branch_own_word ?sty_Branch_own_word ?six_Branch_own_word ?icn ?ict ?ica_Branch ?icm_Branch ?ik_Branch_Branch ?a_is_whole ?l_is_whole ?c_is_whole ?k_is_whole ?a_ends_as_word ?l_ends_as_word ?c_ends_as_word ?k_ends_as_word ?a_letters_text ?l_letters_text ?c_letters_text ?k_letters_text ?pa_Branch_prime ?pe_Branch_prime ?pt_Branch_prime ?pr_Branch_prime ?l_Branch_prime ?c_Branch_prime ?k_Branch_prime ?pa_Branch_word ?pe_Branch_word ?pt_Branch_word ?pr_Branch_word ?l_Branch_word ?c_Branch_word ?k_Branch_word ?a_point_on ?l_point_on ?c_point_on ?k_point_on ?a_require_branch ?l_require_branch ?c_require_branch ?k_require_branch ?a_second_below ?l_second_below ?c_second_below ?k_second_below ?a_all_orders ?l_all_orders ?c_all_orders ?k_all_orders ?a_count_in ?l_count_in ?c_count_in ?k_count_in ?a__law_dice ?l__law_dice ?c__law_dice ?k__law_dice ?a__law_roll ?l__law_roll ?c__law_roll ?k__law_roll ?a__law_second ?l__law_second ?c__law_second ?k__law_second ?a__law_flat ?l__law_flat ?c__law_flat ?k__law_flat ?a_is_integer ?l_is_integer ?c_is_integer ?k_is_integer ?a_is_prime ?l_is_prime ?c_is_prime ?k_is_prime ?a_nears_of ?l_nears_of ?c_nears_of ?k_nears_of ?a_all_counts ?l_all_counts ?c_all_counts ?k_all_counts ?a__law_pick ?l__law_pick ?c__law_pick ?k__law_pick ?a__law_letter ?l__law_letter ?c__law_letter ?k__law_letter ?a__law_nears ?l__law_nears ?c__law_nears ?k__law_nears ?a_require_prime ?l_require_prime ?c_require_prime ?k_require_prime ?a_require_count ?l_require_count ?c_require_count ?k_require_count ?a_is_letter ?l_is_letter ?c_is_letter ?k_is_letter ?a_require_height ?l_require_height ?c_require_height ?k_require_height ?a_counts_to ?l_counts_to ?c_counts_to ?k_counts_to ?a__law_point_drawn ?l__law_point_drawn ?c__law_point_drawn ?k__law_point_drawn ?a__law_prime_of ?l__law_prime_of ?c__law_prime_of ?k__law_prime_of ?a__law_spots_near ?l__law_spots_near ?c__law_spots_near ?k__law_spots_near ?a_are_letters ?l_are_letters ?c_are_letters ?k_are_letters ?fi_Branch_point_at ?fn_Branch_point_at ?l_Branch_point_at ?c_Branch_point_at ?k_Branch_point_at ?a_orders_at ?l_orders_at ?c_orders_at ?k_orders_at ?a_counts_of ?l_counts_of ?c_counts_of ?k_counts_of ?a__law_word_drawn ?l__law_word_drawn ?c__law_word_drawn ?k__law_word_drawn ?a_is_point ?l_is_point ?c_is_point ?k_is_point ?fi_Branch_init ?fn_Branch_init ?l_Branch_init ?c_Branch_init ?k_Branch_init ?mk_Branch ?kc_Branch ?a_count_at ?l_count_at ?c_count_at ?k_count_at ?a__law_divided_right ?l__law_divided_right ?c__law_divided_right ?k__law_divided_right ?a_require_point ?l_require_point ?c_require_point ?k_require_point ?a_is_near ?l_is_near ?c_is_near ?k_is_near ?a__law_place_right ?l__law_place_right ?c__law_place_right ?k__law_place_right ?a__law_right ?l__law_right ?c__law_right ?k__law_right ?a_law ?l_law ?c_law ?k_law
    (case n_abs => k_is)
    (case n_all => k_is)
    (case n_bool => k_is)
    (case n_enumerate => k_is)
    (case n_int => k_is)
    (case n_isinstance => k_is)
    (case n_len => k_is)
    (case n_list => k_is)
    (case n_max => k_is)
    (case n_min => k_is)
    (case n_range => k_is)
    (case n_str => k_is)
    (case n_sum => k_is)
    (case n_tuple => k_is)
    (case g_BLANK => k_is)
    (case g_GREAT => k_is)
    (case g_MAX_HEIGHT => k_is)
    (case g_MAX_LETTERS => k_is)
    (case g_ORIGIN_TEXT => k_is)
    (case g_PRIMES => k_is)
    (case l_PRIMES => k_is)
    (case g_TURN => k_is)
    (case g_TURN_TEXT => k_is)
    (case a_Branch => k_is)
    (case pg_Branch => k_is)
    (case ic_Branch => k_is)
    (case po_Branch => k_is)
    (case sa_Branch => k_is)
    (case sat_Branch_own_prime => k_is)
    (case sge_Branch_own_prime => k_is)
    (case stk_Branch_own_prime => k_is)
    (case sty_Branch_own_prime => k_is)
    (case six_Branch_own_prime => k_is)
    (case sat_Branch_own_text => k_is)
    (case sge_Branch_own_text => k_is)
    (case stk_Branch_own_text => k_is)
    (case sty_Branch_own_text => k_is)
    (case six_Branch_own_text => k_is)
    (case sat_Branch_own_word => k_is)
    (case sge_Branch_own_word => k_is)
    (case stk_Branch_own_word => k_is)
    (case sty_Branch_own_word => k_is)
    (case six_Branch_own_word => k_is)
    (case icn => k_is)
    (case ict => k_is)
    (case ica_Branch => k_is)
    (case icm_Branch => k_is)
    (case ik_Branch_Branch => first | rfl | decide +kernel | k_is)
    (case a_is_whole => k_is)
    (case l_is_whole => k_is)
    (case c_is_whole => k_is)
    (case k_is_whole => k_is)
    (case a_ends_as_word => k_is)
    (case l_ends_as_word => k_is)
    (case c_ends_as_word => k_is)
    (case k_ends_as_word => k_is)
    (case a_letters_text => k_is)
    (case l_letters_text => k_is)
    (case c_letters_text => k_is)
    (case k_letters_text => k_is)
    (case pa_Branch_prime => k_is)
    (case pe_Branch_prime => k_is)
    (case pt_Branch_prime => k_is)
    (case pr_Branch_prime => k_is)
    (case l_Branch_prime => k_is)
    (case c_Branch_prime => k_is)
    (case k_Branch_prime => k_is)
    (case pa_Branch_word => k_is)
    (case pe_Branch_word => k_is)
    (case pt_Branch_word => k_is)
    (case pr_Branch_word => k_is)
    (case l_Branch_word => k_is)
    (case c_Branch_word => k_is)
    (case k_Branch_word => k_is)
    (case a_point_on => k_is)
    (case l_point_on => k_is)
    (case c_point_on => k_is)
    (case k_point_on => k_is)
    (case a_require_branch => k_is)
    (case l_require_branch => k_is)
    (case c_require_branch => k_is)
    (case k_require_branch => k_is)
    (case a_second_below => k_is)
    (case l_second_below => k_is)
    (case c_second_below => k_is)
    (case k_second_below => k_is)
    (case a_all_orders => k_is)
    (case l_all_orders => k_is)
    (case c_all_orders => k_is)
    (case k_all_orders => k_is)
    (case a_count_in => k_is)
    (case l_count_in => k_is)
    (case c_count_in => k_is)
    (case k_count_in => k_is)
    (case a__law_dice => k_is)
    (case l__law_dice => k_is)
    (case c__law_dice => k_is)
    (case k__law_dice => k_is)
    (case a__law_roll => k_is)
    (case l__law_roll => k_is)
    (case c__law_roll => k_is)
    (case k__law_roll => k_is)
    (case a__law_second => k_is)
    (case l__law_second => k_is)
    (case c__law_second => k_is)
    (case k__law_second => k_is)
    (case a__law_flat => k_is)
    (case l__law_flat => k_is)
    (case c__law_flat => k_is)
    (case k__law_flat => k_is)
    (case a_is_integer => k_is)
    (case l_is_integer => k_is)
    (case c_is_integer => k_is)
    (case k_is_integer => k_is)
    (case a_is_prime => k_is)
    (case l_is_prime => k_is)
    (case c_is_prime => k_is)
    (case k_is_prime => k_is)
    (case a_nears_of => k_is)
    (case l_nears_of => k_is)
    (case c_nears_of => k_is)
    (case k_nears_of => k_is)
    (case a_all_counts => k_is)
    (case l_all_counts => k_is)
    (case c_all_counts => k_is)
    (case k_all_counts => k_is)
    (case a__law_pick => k_is)
    (case l__law_pick => k_is)
    (case c__law_pick => k_is)
    (case k__law_pick => k_is)
    (case a__law_letter => k_is)
    (case l__law_letter => k_is)
    (case c__law_letter => k_is)
    (case k__law_letter => k_is)
    (case a__law_nears => k_is)
    (case l__law_nears => k_is)
    (case c__law_nears => k_is)
    (case k__law_nears => k_is)
    (case a_require_prime => k_is)
    (case l_require_prime => k_is)
    (case c_require_prime => k_is)
    (case k_require_prime => k_is)
    (case a_require_count => k_is)
    (case l_require_count => k_is)
    (case c_require_count => k_is)
    (case k_require_count => k_is)
    (case a_is_letter => k_is)
    (case l_is_letter => k_is)
    (case c_is_letter => k_is)
    (case k_is_letter => k_is)
    (case a_require_height => k_is)
    (case l_require_height => k_is)
    (case c_require_height => k_is)
    (case k_require_height => k_is)
    (case a_counts_to => k_is)
    (case l_counts_to => k_is)
    (case c_counts_to => k_is)
    (case k_counts_to => k_is)
    (case a__law_point_drawn => k_is)
    (case l__law_point_drawn => k_is)
    (case c__law_point_drawn => k_is)
    (case k__law_point_drawn => k_is)
    (case a__law_prime_of => k_is)
    (case l__law_prime_of => k_is)
    (case c__law_prime_of => k_is)
    (case k__law_prime_of => k_is)
    (case a__law_spots_near => k_is)
    (case l__law_spots_near => k_is)
    (case c__law_spots_near => k_is)
    (case k__law_spots_near => k_is)
    (case a_are_letters => k_is)
    (case l_are_letters => k_is)
    (case c_are_letters => k_is)
    (case k_are_letters => k_is)
    (case fi_Branch_point_at => k_is)
    (case fn_Branch_point_at => k_is)
    (case l_Branch_point_at => k_is)
    (case c_Branch_point_at => k_is)
    (case k_Branch_point_at => k_is)
    (case a_orders_at => k_is)
    (case l_orders_at => k_is)
    (case c_orders_at => k_is)
    (case k_orders_at => k_is)
    (case a_counts_of => k_is)
    (case l_counts_of => k_is)
    (case c_counts_of => k_is)
    (case k_counts_of => k_is)
    (case a__law_word_drawn => k_is)
    (case l__law_word_drawn => k_is)
    (case c__law_word_drawn => k_is)
    (case k__law_word_drawn => k_is)
    (case a_is_point => k_is)
    (case l_is_point => k_is)
    (case c_is_point => k_is)
    (case k_is_point => k_is)
    (case fi_Branch_init => k_is)
    (case fn_Branch_init => k_is)
    (case l_Branch_init => k_is)
    (case c_Branch_init => k_is)
    (case k_Branch_init => k_is)
    (case mk_Branch => k_is)
    (case kc_Branch => k_is)
    (case a_count_at => k_is)
    (case l_count_at => k_is)
    (case c_count_at => k_is)
    (case k_count_at => k_is)
    (case a__law_divided_right => k_is)
    (case l__law_divided_right => k_is)
    (case c__law_divided_right => k_is)
    (case k__law_divided_right => k_is)
    (case a_require_point => k_is)
    (case l_require_point => k_is)
    (case c_require_point => k_is)
    (case k_require_point => k_is)
    (case a_is_near => k_is)
    (case l_is_near => k_is)
    (case c_is_near => k_is)
    (case k_is_near => k_is)
    (case a__law_place_right => k_is)
    (case l__law_place_right => k_is)
    (case c__law_place_right => k_is)
    (case k__law_place_right => k_is)
    (case a__law_right => k_is)
    (case l__law_right => k_is)
    (case c__law_right => k_is)
    (case k__law_right => k_is)
    (case a_law => k_is)
    (case l_law => k_is)
    (case c_law => k_is)
    (case k_law => k_is)

