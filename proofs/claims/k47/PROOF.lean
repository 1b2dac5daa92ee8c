import PyProof.Rows.All
import HandS.Zip
import HandS.Iter
import HandS.IterVal
import Wide.All
import OpenK.AllK
import Wide.FinOn
import PyProof.EqAt
import PyProof.EqKinds
import PyProof.TupleCall
import HandS.Base
import HandS.Call
import HandS.List
import HandS.Comp
import HandS.Exc
import HandS.ExcOwn
import HandS.Ends
import HandS.Words
import HandS.TryMany
import HandS.TryOnly
import HandS.SlotsOwn
import HandS.Lambda
import HandS.Wide
import HandS.TupAny
import HandS.TupMul
import HandS.IsInst
import HandS.Deep
import HandS.Text
import HandS.WordsExc
import HandS.Style
import HandS.Star
import HandS.FStr
import HandS.RaiseMore
import HandS.SortInts
import KE.GoesEnum
import HandS.Conv
import KE.KExcSuper
import KE.KExcLine
import HandS.ExcField
import HandS.EndTab
import PyProof.ListStr
import HandS.AnyAll
import HandS.GenList
import KE.KDictIter
import KE.KDictZip
import HandS.CallLocal
import KE.KTupSum
import HandS.TupSets
import KE.SortData
import KE.DataMinMax
import HandS.GenYield
import PyProof.ForAny
import KE.KCallOwn
import KE.KFmtOwn
import PyProof.FactsAll.object_2
import HandS.OwnEq
import HandS.TupLen
import PySem.Challenge.RW_touchtowers_k47_whole_words_of_a_kind
set_option linter.all false
set_option Elab.async false
set_option maxRecDepth 100000
set_option maxHeartbeats 4000000
/-! ZN: zip of any number of lists and tuples, at the library's level. -/
namespace ZN
open PySem PySem.Spec PyProof.Rows L2
inductive Kd where
  | l | t
def ItAt : Kd → Heap → Addr → Addr → Nat → Prop
  | .l, h, it, a, i => h.IsListIter it a i
  | .t, h, it, a, i => h.IsTupleIter it a i
def SqAt : Kd → Heap → Addr → Array Value → Prop
  | .l, h, a, xs => h.IsList a xs
  | .t, h, a, xs => h.IsTuple a xs
structure Src where
  k : Kd
  it : Nat
  a : Nat
abbrev IsTup (h : Heap) (T : Addr) (vs : List Value) : Prop := h.get? T = some { cls := .type "tuple", data := .seq vs.toArray }
theorem ItAt.over {k : Kd} {h h' : Heap} {it a : Addr} {i : Nat} (x : ItAt k h it a i) (e : ∀ o, h.get? it = some o → h'.get? it = some o) : ItAt k h' it a i := by
  cases k with
  | l => exact Heap.IsListIter.at x e
  | t => exact Heap.IsTupleIter.at x e
theorem SqAt.over {k : Kd} {h h' : Heap} {a : Addr} {xs : Array Value} (x : SqAt k h a xs) (e : ∀ o, h.get? a = some o → h'.get? a = some o) : SqAt k h' a xs := by
  cases k with
  | l => exact Heap.IsList.at x e
  | t => exact Heap.IsTuple.at x e
theorem ItAt.live {k : Kd} {h : Heap} {it a : Addr} {i : Nat} (x : ItAt k h it a i) : ∃ o vs, h.get? it = some o ∧ o.data = .fields vs := by
  cases k with
  | l => obtain ⟨o, e, _, d⟩ := x; exact ⟨o, _, e, d⟩
  | t => obtain ⟨o, e, _, d⟩ := x; exact ⟨o, _, e, d⟩
structure Apart (z TI TO : Addr) (cs : List Src) : Prop where
  TIz : TI ≠ z
  TOz : TO ≠ z
  TITO : TI ≠ TO
  TIi : ∀ c ∈ cs, TI ≠ c.it
  TOi : ∀ c ∈ cs, TO ≠ c.it
  iz : ∀ c ∈ cs, c.it ≠ z
  az : ∀ c ∈ cs, c.a ≠ z
  aTO : ∀ c ∈ cs, c.a ≠ TO
  ai : ∀ c ∈ cs, ∀ d ∈ cs, c.a ≠ d.it
  nd : (cs.map Src.it).Nodup
section
variable {prog : Program} {w : World} {A : Around} {E : Value → Shared → Prop} {s : Shared}
theorem next_item {k : Kd} {it a : Addr} {i : Nat} {xs : Array Value} {x : Value} {Q : Value → Shared → Prop} (hit : ItAt k s.heap it a i) (hl : SqAt k s.heap a xs) (hx : xs[i]? = some x)
    (hQ : ∀ h', ItAt k h' it a (i + 1) → Heap.SameBut it s.heap h' → Q x { s with heap := h' }) : wpAny (model prog w) A (Builtin.SmallTypes.nextOf (.ref it)) Q E s := by
  cases k with
  | l => exact wpAny_nextOf_list_item hit hl hx hQ
  | t => exact RZ.nextOf_tuple_item hit hl hx hQ
theorem next_end {k : Kd} {it a : Addr} {i : Nat} {xs : Array Value} {Q : Value → Shared → Prop} (hh : A.handled = none) (hit : ItAt k s.heap it a i) (hl : SqAt k s.heap a xs) (hx : xs[i]? = none)
    (hE : ∀ h' e, Heap.ExtBut it s.heap h' → (∃ o, h'.get? e = some o ∧ o.cls = .type "StopIteration") → E (.ref e) { s with heap := h' }) : wpAny (model prog w) A (Builtin.SmallTypes.nextOf (.ref it)) Q E s := by
  cases k with
  | l => exact wpAny_nextOf_list_end hh hit hl hx hE
  | t => exact RZ.nextOf_tuple_end hh hit hl hx hE
theorem set_tup {T : Addr} {us ws : List Value} {y x : Value} {k : Nat} {Q : Unit → Shared → Prop} (hT : IsTup s.heap T (us ++ y :: ws)) (hk : us.length = k) (hn : us.length + ws.length < 1000)
    (h : ∀ h', IsTup h' T (us ++ x :: ws) → Heap.SameBut T s.heap h' → Q () { s with heap := h' }) : wpAny (model prog w) A (updateSeq T (·.setIfInBounds k x)) Q E s := by
  refine wpAny_updateSeq hT rfl (h _ ?_ (Heap.SameBut.update ..)) (by rw [List.size_toArray, List.length_append, List.length_cons]; show _ ≤ sizeLine; unfold sizeLine; omega)
    (by rw [Array.size_setIfInBounds, List.size_toArray, List.length_append, List.length_cons]; show _ ≤ sizeLine + 1; unfold sizeLine; omega)
  show (s.heap.update T _).get? T = _
  rw [Heap.get?_update_self _ hT rfl]
  subst hk
  simp [Obj.mapSeq]
/-- zip.__next__ over any number of lists and tuples -/
theorem zip_next {z TI TO : Addr} {cs : List Src} {i : Nat} {xs : Src → Array Value} {ys : List Value} {Q : Value → Shared → Prop} (hh : A.handled = none) (D : Apart z TI TO cs) (hne : cs ≠ []) (hn : cs.length < 1000)
    (hz : IsZip s.heap z TI TO .none) (hTI : IsTup s.heap TI (cs.map fun c => .ref c.it)) (hTO : IsTup s.heap TO ys) (hy : ys.length = cs.length) (hst : ∀ c ∈ cs, ItAt c.k s.heap c.it c.a i) (hsq : ∀ c ∈ cs, SqAt c.k s.heap c.a (xs c))
    (hQ : ∀ vs : List Value, cs.map (fun c => (xs c)[i]?) = vs.map some → ∀ h', IsZip h' z TI TO (rawInt s.heap.objs.size) → IsTup h' TO vs → (∀ c ∈ cs, ItAt c.k h' c.it c.a (i + 1)) → IsTup h' s.heap.objs.size vs → h'.objs.size = s.heap.objs.size + 1 →
      (∀ b o, b ≠ z → b ≠ TO → b ∉ cs.map Src.it → s.heap.get? b = some o → h'.get? b = some o) → Q (.ref s.heap.objs.size) { s with heap := h' })
    (hE : (∃ c ∈ cs, (xs c)[i]? = none) → ∀ h' e, (∀ b o, b ≠ z → b ≠ TO → b ∉ cs.map Src.it → s.heap.get? b = some o → h'.get? b = some o) → (∃ o, h'.get? e = some o ∧ o.cls = .type "StopIteration") → E (.ref e) { s with heap := h' }) :
    wpAny (model prog w) A (Builtin.«zip.__next__» ⟨[.ref z], []⟩) (fun fin s' => ∃ v, fin = .done (.ret v) ∧ Q v s') E s := by
  show wpAny _ _ (field (.ref z) 2 >>= _) _ _ _
  refine wpAny_bind (wpAny_field hz rfl (x := .bool false) rfl ?_)
  show wpAny _ _ (field (.ref z) 3 >>= _) _ _ _
  refine wpAny_bind (wpAny_field hz rfl (x := .ref TI) rfl ?_)
  refine wpAny_bind (wpAny_seqItems hTI rfl ?_)
  have he : (List.map (fun c : Src => Value.ref c.it) cs).toArray.isEmpty = false := by
    cases cs with
    | nil => exact absurd rfl hne
    | cons c r => simp
  dsimp only
  rw [he]
  simp only [Bool.false_eq_true, if_false]
  show wpAny _ _ (Builtin.SmallTypes.ownedTupleIsFree (.ref z) >>= _) _ _ _
  refine wpAny_bind ?_
  unfold Builtin.SmallTypes.ownedTupleIsFree
  refine wpAny_bind (wpAny_field hz rfl (x := .none) rfl (wpAny_pure ?_))
  simp only [if_true]
  refine wpAny_bind (wpAny_rule ?_)
  refine wpAny_bind (wpAny_field hz rfl (x := .ref TO) rfl ?_)
  refine wpAny_bind (wpAny_setField_rec hz (by simp) fun h0 hz0 hs0 => ?_)
  replace hz0 : IsZip h0 z TI TO .ellipsis := hz0
  refine wpAny_bind ?_
  have strict : (Value.bool false == Value.bool true) = false := rfl
  refine wpAny_forIn_list _ (fun rest b s1 => b = (none, ()) ∧ ∃ (pre suf : List Src) (us ws : List Value) (h : Heap), cs = pre ++ suf ∧ rest = (suf.map fun c => Value.ref c.it).zipIdx pre.length ∧ s1 = { s with heap := h } ∧
    us.length = pre.length ∧ ws.length = suf.length ∧ pre.map (fun c => (xs c)[i]?) = us.map some ∧ IsZip h z TI TO .ellipsis ∧ IsTup h TO (us ++ ws) ∧ (∀ c ∈ pre, ItAt c.k h c.it c.a (i + 1)) ∧ (∀ c ∈ suf, ItAt c.k h c.it c.a i) ∧
    h.objs.size = s.heap.objs.size ∧ ∀ b o, b ≠ z → b ≠ TO → b ∉ cs.map Src.it → s.heap.get? b = some o → h.get? b = some o) _ ?_ ?_ _ _ ⟨rfl, [], cs, [], ys, h0, rfl, rfl, rfl, rfl, hy, rfl, hz0, (hs0.2 _ D.TOz).trans hTO, fun c h => (nomatch h), fun c hc => (hst c hc).over fun o e => (hs0.2 _ (D.iz c hc)).trans e, hs0.1, fun b o h1 _ _ e => (hs0.2 b h1).trans e⟩
  · rintro ⟨v, k⟩ rest b s1 ⟨rfl, pre, suf, us, ws, h, ec, er, rfl, hu, hw, hv, hzz, hT, hp, hsf, hsz, hk⟩
    cases suf with
    | nil => simp at er
    | cons c suf =>
      rw [List.map_cons, List.zipIdx_cons] at er
      obtain ⟨e1, e2⟩ := List.cons.inj er
      cases e1
      cases ws with
      | nil => simp at hw
      | cons y0 ws =>
      have hc : c ∈ cs := by rw [ec]; simp
      have mem_it : c.it ∈ cs.map Src.it := List.mem_map.mpr ⟨c, hc, rfl⟩
      have ncs : us.length + ws.length < 1000 := by
        have := congrArg List.length ec
        simp only [List.length_append, List.length_cons] at this hw
        omega
      have sqc : SqAt c.k h c.a (xs c) := (hsq c hc).over fun o e => hk _ o (D.az c hc) (D.aTO c hc) (fun q => by
        obtain ⟨d, hd, q⟩ := List.mem_map.mp q
        exact D.ai c hc d hd q.symm) e
      have other : ∀ d ∈ pre ++ suf, d.it ≠ c.it := fun d hd q => by
        have nd := D.nd
        rw [ec, List.map_append, List.map_cons] at nd
        have nd2 := (List.nodup_append.mp nd)
        have nd3 := List.nodup_cons.mp nd2.2.1
        rcases List.mem_append.mp hd with z | z
        · exact nd2.2.2 _ (List.mem_map.mpr ⟨d, z, rfl⟩) _ List.mem_cons_self q
        · exact nd3.1 (by rw [← q]; exact List.mem_map.mpr ⟨d, z, rfl⟩)
      have itO : ∀ d ∈ cs, d.it ≠ TO := fun d hd q => D.TOi d hd q.symm
      refine wpAny_bind (wpAny_onRaise ?_)
      show wpAny _ _ (Builtin.SmallTypes.nextOf (.ref c.it) >>= _) _ _ { s with heap := h }
      cases hx : (xs c)[i]? with
      | none =>
        refine wpAny_bind (next_end (s := { s with heap := h }) hh (hsf c List.mem_cons_self) sqc hx fun h2 e hs2 hee => ?_)
        replace hs2 : Heap.ExtBut c.it h h2 := hs2
        obtain ⟨oe, hoe, hce⟩ := hee
        have hz2 : IsZip h2 z TI TO .ellipsis := hs2 _ _ (Ne.symm (D.iz c hc)) hzz
        have hez : e ≠ z := fun q => by subst q; rw [hz2] at hoe; cases hoe; simp at hce
        refine wpAny_setField_rec (s := { s with heap := h2 }) hz2 (by simp) fun h3 _ hs3 => ?_
        exact hE ⟨c, hc, hx⟩ h3 e (fun b o b1 b2 b3 q => (hs3.2 b b1).trans (hs2 _ _ (fun q => b3 (by rw [q]; exact mem_it)) (hk b o b1 b2 b3 q))) ⟨oe, (hs3.2 e hez).trans hoe, hce⟩
      | some x =>
        refine wpAny_bind (next_item (s := { s with heap := h }) (hsf c List.mem_cons_self) sqc hx fun h2 hi2 hs2 => wpAny_pure ?_)
        replace hs2 : Heap.SameBut c.it h h2 := hs2
        have hT2 : IsTup h2 TO (us ++ y0 :: ws) := (hs2.2 _ (D.TOi c hc)).trans hT
        refine wpAny_bind (wpAny_seqItems (s := { s with heap := h2 }) hT2 rfl ?_)
        refine wpAny_bind (set_tup (s := { s with heap := h2 }) hT2 hu ncs fun h3 hT3 hs3 => ?_)
        replace hs3 : Heap.SameBut TO h2 h3 := hs3
        refine wpAny_bind (wpAny_letGo (wpAny_pure ?_))
        refine ⟨rfl, pre ++ [c], suf, us ++ [x], ws, h3, by rw [ec]; simp, by rw [e2, List.length_append]; rfl, rfl, by simp [hu], by simpa using hw, by rw [List.map_append, hv, List.map_append]; simp [hx], ?_, by rw [List.append_assoc]; exact hT3, fun d hd => ?_, fun d hd => ?_, ?_, fun b o b1 b2 b3 q => ?_⟩
        · exact (hs3.2 _ D.TOz.symm).trans ((hs2.2 _ (Ne.symm (D.iz c hc))).trans hzz)
        · rcases List.mem_append.mp hd with z | z
          · have hdc : d ∈ cs := by rw [ec]; exact List.mem_append_left _ z
            exact (hp d z).over fun o e => (hs3.2 _ (itO d hdc)).trans ((hs2.2 _ (other d (List.mem_append_left _ z))).trans e)
          · have e : d = c := by simpa using z
            rw [e]
            exact hi2.over fun o e => (hs3.2 _ (itO c hc)).trans e
        · have hdc : d ∈ cs := by rw [ec]; exact List.mem_append_right _ (List.mem_cons_of_mem _ hd)
          exact (hsf d (List.mem_cons_of_mem _ hd)).over fun o e => (hs3.2 _ (itO d hdc)).trans ((hs2.2 _ (other d (List.mem_append_right _ hd))).trans e)
        · rw [hs3.1, hs2.1, hsz]
        · exact (hs3.2 b b2).trans ((hs2.2 b (fun q => b3 (by rw [q]; exact mem_it))).trans (hk b o b1 b2 b3 q))
  · rintro b s1 ⟨rfl, pre, suf, us, ws, h, ec, er, rfl, hu, hw, hv, hzz, hT, hp, hsf, hsz, hk⟩
    cases suf with
    | cons c r => simp at er
    | nil =>
      have ews : ws = [] := List.length_eq_zero_iff.mp hw
      rw [List.append_nil] at ec
      subst ec ews
      rw [List.append_nil] at hT
      show wpAny _ _ (seqItems? (Value.ref TO) >>= _) _ _ _
      refine wpAny_bind (wpAny_seqItems (s := { s with heap := h }) hT rfl ?_)
      refine wpAny_bind (wpAny_newTuple ?_ (by
        show us.toArray.toList.length ≤ sizeLine
        simp only [List.toList_toArray]
        unfold sizeLine; omega))
      show wpAny _ _ (Builtin.SmallTypes.ownedTupleHandOut (.ref z) (.ref h.objs.size) >>= _) _ _ { s with heap := h.push { cls := .type "tuple", data := .seq us.toArray } }
      refine wpAny_bind ?_
      unfold Builtin.SmallTypes.ownedTupleHandOut
      have hz6 : IsZip (h.push { cls := .type "tuple", data := .seq us.toArray }) z TI TO .ellipsis := Heap.get?_push_of_some _ hzz
      refine wpAny_bind (wpAny_setField_rec (s := { s with heap := h.push { cls := .type "tuple", data := .seq us.toArray } }) hz6 (by simp) fun h7 hz7 hs7 => ?_)
      replace hz7 : IsZip h7 z TI TO (rawInt h.objs.size) := hz7
      refine wpAny_setField_rec (s := { s with heap := h7 }) hz7 (by simp) fun h8 hz8 hs8 => ?_
      replace hz8 : IsZip h8 z TI TO (rawInt h.objs.size) := hz8
      replace hs7 : Heap.SameBut z (h.push { cls := .type "tuple", data := .seq us.toArray }) h7 := hs7
      replace hs8 : Heap.SameBut z h7 h8 := hs8
      have hzlt : z < h.objs.size := Heap.lt_size hzz
      have up : ∀ b o, b ≠ z → h.get? b = some o → h8.get? b = some o := fun b o b1 e => (hs8.2 b b1).trans ((hs7.2 b b1).trans (Heap.get?_push_of_some _ e))
      have hT8 : IsTup h8 h.objs.size us := (hs8.2 _ (Nat.ne_of_gt hzlt)).trans ((hs7.2 _ (Nat.ne_of_gt hzlt)).trans (Heap.get?_push_size _ rfl))
      have hs8z : h8.objs.size = h.objs.size + 1 := by rw [hs8.1, hs7.1, Heap.size_push]
      rw [hsz] at hz8 hT8 hs8z
      refine wpAny_pure ⟨_, rfl, ?_⟩
      show Q (.ref h.objs.size) _
      rw [hsz]
      exact hQ us hv h8 hz8 (up _ _ D.TOz hT) (fun c hc => (hp c hc).over fun o e => up _ o (D.iz c hc) e) hT8 hs8z fun b o b1 b2 b3 q => up b o b1 (hk b o b1 b2 b3 q)
end
/-! ### zip(..): the cells that are laid -/
def srcs : Nat → List (Kd × Nat) → List Src
  | _, [] => []
  | b, p :: ps => ⟨p.1, b, p.2⟩ :: srcs (b + 1) ps
theorem srcs_app : ∀ (b : Nat) (ps qs : List (Kd × Nat)), srcs b (ps ++ qs) = srcs b ps ++ srcs (b + ps.length) qs
  | b, [], qs => by simp [srcs]
  | b, p :: ps, qs => by
    have := srcs_app (b + 1) ps qs
    rw [List.cons_append, srcs, srcs, List.cons_append, this, List.length_cons, show b + (ps.length + 1) = b + 1 + ps.length by omega]
theorem srcs_len : ∀ (b : Nat) (ps : List (Kd × Nat)), (srcs b ps).length = ps.length
  | _, [] => rfl
  | b, p :: ps => by rw [srcs, List.length_cons, srcs_len, List.length_cons]
theorem srcs_it : ∀ (b : Nat) (ps : List (Kd × Nat)) (c : Src), c ∈ srcs b ps → b ≤ c.it ∧ c.it < b + ps.length ∧ (c.k, c.a) ∈ ps
  | b, p :: ps, c, h => by
    rw [srcs] at h
    rcases List.mem_cons.mp h with e | h
    · subst e
      exact ⟨Nat.le_refl _, by rw [List.length_cons]; show b < b + (ps.length + 1); omega, List.mem_cons_self⟩
    · obtain ⟨h1, h2, h3⟩ := srcs_it (b + 1) ps c h
      exact ⟨by omega, by rw [List.length_cons]; omega, List.mem_cons_of_mem _ h3⟩
theorem srcs_nd : ∀ (b : Nat) (ps : List (Kd × Nat)), ((srcs b ps).map Src.it).Nodup
  | _, [] => List.nodup_nil
  | b, p :: ps => by
    rw [srcs, List.map_cons]
    refine List.nodup_cons.mpr ⟨fun h => ?_, srcs_nd (b + 1) ps⟩
    obtain ⟨c, hc, e⟩ := List.mem_map.mp h
    have e' : c.it = b := e
    have := (srcs_it _ _ _ hc).1
    omega
theorem apart_srcs {b : Nat} {ps : List (Kd × Nat)} (h : ∀ p ∈ ps, p.2 < b) : Apart (b + ps.length + 2) (b + ps.length) (b + ps.length + 1) (srcs b ps) where
  TIz := Nat.ne_of_lt (by omega)
  TOz := Nat.ne_of_lt (by omega)
  TITO := Nat.ne_of_lt (by omega)
  TIi := fun c hc => by have := srcs_it _ _ _ hc; exact Nat.ne_of_gt (by omega)
  TOi := fun c hc => by have := srcs_it _ _ _ hc; exact Nat.ne_of_gt (by omega)
  iz := fun c hc => by have := srcs_it _ _ _ hc; exact Nat.ne_of_lt (by omega)
  az := fun c hc => by have := h _ (srcs_it _ _ _ hc).2.2; exact Nat.ne_of_lt (by omega)
  aTO := fun c hc => by have := h _ (srcs_it _ _ _ hc).2.2; exact Nat.ne_of_lt (by omega)
  ai := fun c hc d hd => by have := h _ (srcs_it _ _ _ hc).2.2; have := srcs_it _ _ _ hd; exact Nat.ne_of_lt (by omega)
  nd := srcs_nd b ps
theorem newClass_zip {M : Model} {A : Around} {E : Value → Shared → Prop} {s : Shared} {vs : List Value} {Q : Value × List Value → Shared → Prop} (h : Q (.type "zip", vs) s) :
    wpAny M A (Builtin.SmallTypes.newClass "zip" { pos := Value.type "zip" :: vs }) Q E s := by
  have hsub := sub_zip
  unfold Builtin.SmallTypes.newClass
  wp_walk
  exact h
theorem iter_of {prog : Program} {w : World} {A : Around} {E : Value → Shared → Prop} {s : Shared} {k : Kd} {a : Addr} {xs : Array Value} {Q : Value → Shared → Prop} (h : SqAt k s.heap a xs)
    (hQ : ∀ h', ItAt k h' s.heap.objs.size a 0 → h'.objs.size = s.heap.objs.size + 1 → (∀ b o, s.heap.get? b = some o → h'.get? b = some o) → Q (.ref s.heap.objs.size) { s with heap := h' }) : wpAny (model prog w) A (pyIter (.ref a)) Q E s := by
  cases k with
  | l => exact wpAny_pyIter_list h (hQ _ ⟨_, Heap.get?_push_size _ rfl, rfl, rfl⟩ (Heap.size_push ..) fun b o e => Heap.get?_push_of_some _ e)
  | t => exact wpAny_pyIter_tuple h (hQ _ ⟨_, Heap.get?_push_size _ rfl, rfl, rfl⟩ (Heap.size_push ..) fun b o e => Heap.get?_push_of_some _ e)
def ZipS (ps : List (Kd × Nat)) : PySem.Spec := fun _ R s => (∀ p ∈ ps, ∃ xs, SqAt p.1 s.heap p.2 xs) ∧ ps.length < 1000 ∧ ∀ h', IsZip h' (s.heap.objs.size + ps.length + 2) (s.heap.objs.size + ps.length) (s.heap.objs.size + ps.length + 1) .none →
  IsTup h' (s.heap.objs.size + ps.length) ((srcs s.heap.objs.size ps).map fun c => .ref c.it) → IsTup h' (s.heap.objs.size + ps.length + 1) (ps.map fun _ => .none) → (∀ c ∈ srcs s.heap.objs.size ps, ItAt c.k h' c.it c.a 0) →
  h'.objs.size = s.heap.objs.size + ps.length + 3 → (∀ b o, s.heap.get? b = some o → h'.get? b = some o) → R (.ok (.ret (.ref (s.heap.objs.size + ps.length + 2)))) { s with heap := h' }
theorem zip_new (ps : List (Kd × Nat)) : Meets (Builtin.«zip.__new__» ⟨.type "zip" :: ps.map (fun p => .ref p.2), []⟩) (ZipS ps) :=
  .of_wp fun prog w A R s ⟨hx, hlen, hR⟩ => by
    unfold Builtin.«zip.__new__»
    refine wpAny_bind (newClass_zip ?_)
    dsimp only
    show wpAny _ _ (Builtin.SmallTypes.iterAll (ps.map fun p => .ref p.2) >>= _) _ _ _
    refine wpAny_bind ?_
    unfold Builtin.SmallTypes.iterAll
    refine wpAny_bind ?_
    refine wpAny_forIn_list _ (fun rest b s1 => ∃ (pre suf : List (Kd × Nat)) (h : Heap), ps = pre ++ suf ∧ rest = suf.map (fun p => Value.ref p.2) ∧ b = ((srcs s.heap.objs.size pre).map fun c => Value.ref c.it).toArray ∧ s1 = { s with heap := h } ∧
      (∀ c ∈ srcs s.heap.objs.size pre, ItAt c.k h c.it c.a 0) ∧ h.objs.size = s.heap.objs.size + pre.length ∧ ∀ b o, s.heap.get? b = some o → h.get? b = some o) _ ?_ ?_ _ _ ⟨[], ps, s.heap, rfl, rfl, rfl, rfl, fun c hc => (nomatch hc), rfl, fun _ _ e => e⟩
    · rintro x rest b s1 ⟨pre, suf, h, ep, er, rfl, rfl, hi, hsz, hk⟩
      cases suf with
      | nil => cases er
      | cons p suf =>
        cases er
        obtain ⟨xs, hxs⟩ := hx p (by rw [ep]; simp)
        refine wpAny_bind (wpAny_holding (iter_of (s := { s with heap := h }) (hxs.over fun o e => hk _ o e) fun h2 hi2 hs2 hk2 => wpAny_pure ?_))
        replace hi2 : ItAt p.1 h2 h.objs.size p.2 0 := hi2
        replace hk2 : ∀ b o, h.get? b = some o → h2.get? b = some o := hk2
        replace hs2 : h2.objs.size = h.objs.size + 1 := hs2
        refine ⟨pre ++ [p], suf, h2, by rw [ep]; simp, rfl, ?_, rfl, fun c hc => ?_, by rw [hs2, hsz, List.length_append]; rfl, fun b o e => hk2 b o (hk b o e)⟩
        · rw [srcs_app, List.map_append]
          simp [srcs, hsz]
        · rw [srcs_app] at hc
          rcases List.mem_append.mp hc with z | z
          · exact (hi c z).over fun o e => hk2 _ o e
          · have e : c = ⟨p.1, s.heap.objs.size + pre.length, p.2⟩ := by simpa [srcs] using z
            subst e
            rw [← hsz]
            exact hi2
    · rintro b s1 ⟨pre, suf, h, ep, er, rfl, rfl, hi, hsz, hk⟩
      cases suf with
      | cons p r => cases er
      | nil =>
        rw [List.append_nil] at ep
        subst ep
        refine wpAny_pure ?_
        have l1 : ((srcs s.heap.objs.size ps).map fun c => Value.ref c.it).length = ps.length := by rw [List.length_map, srcs_len]
        have z : sizeLine = sizeLine := rfl
        refine wpAny_bind (wpAny_newTuple ?_ (by simp only [List.toList_toArray]; rw [l1]; unfold sizeLine; omega))
        refine wpAny_bind (wpAny_newTuple ?_ (by simp only [List.toList_toArray]; rw [List.length_map, l1]; unfold sizeLine; omega))
        show wpAny _ _ (newObj (.type "zip") (.fields #[.none, .bool false, .bool false, _, _]) >>= _) _ _ _
        refine wpAny_bind (wpAny_newObj_type ?_ (by size_fits))
        refine wpAny_pure ⟨_, rfl, ?_⟩
        simp only [List.toList_toArray]
        have e1 : ((srcs s.heap.objs.size ps).map fun c => Value.ref c.it).map (fun _ => Value.none) = ps.map fun _ => Value.none := by
          apply List.ext_getElem
          · simp [srcs_len]
          · intro i _ _; simp
        rw [e1]
        have q1 := Heap.size_push h { cls := Value.type "tuple", data := .seq ((srcs s.heap.objs.size ps).map fun c => Value.ref c.it).toArray }
        have q2 := Heap.size_push (h.push { cls := Value.type "tuple", data := .seq ((srcs s.heap.objs.size ps).map fun c => Value.ref c.it).toArray }) { cls := Value.type "tuple", data := .seq (ps.map fun _ => Value.none).toArray }
        simp only [q1, q2, hsz]
        refine hR _ ?_ ?_ ?_ (fun c hc => (hi c hc).over fun o e => Heap.get?_push_of_some _ (Heap.get?_push_of_some _ (Heap.get?_push_of_some _ e))) ?_ fun b o e => Heap.get?_push_of_some _ (Heap.get?_push_of_some _ (Heap.get?_push_of_some _ (hk b o e)))
        · rw [show s.heap.objs.size + ps.length + 2 = ((h.push { cls := Value.type "tuple", data := .seq ((srcs s.heap.objs.size ps).map fun c => Value.ref c.it).toArray }).push { cls := Value.type "tuple", data := .seq (ps.map fun _ => Value.none).toArray }).objs.size by rw [q2, q1, hsz]]
          exact Heap.get?_push_size _ rfl
        · rw [← hsz]
          exact Heap.get?_push_of_some _ (Heap.get?_push_of_some _ (Heap.get?_push_size _ rfl))
        · rw [show s.heap.objs.size + ps.length + 1 = (h.push { cls := Value.type "tuple", data := .seq ((srcs s.heap.objs.size ps).map fun c => Value.ref c.it).toArray }).objs.size by rw [q1, hsz]]
          exact Heap.get?_push_of_some _ (Heap.get?_push_size _ rfl)
        · rw [Heap.size_push, q2, q1, hsz]
/-- zip of 2, 3 or 4 -/
theorem call_zipN {prog : Program} {w : World} {A : Around} {E : Value → Shared → Prop} {s : Shared} {ps : List (Kd × Nat)} {Q : Value → Shared → Prop} (hn : ps.length = 2 ∨ ps.length = 3 ∨ ps.length = 4) (hx : ∀ p ∈ ps, ∃ xs, SqAt p.1 s.heap p.2 xs)
    (h : ∀ h', IsZip h' (s.heap.objs.size + ps.length + 2) (s.heap.objs.size + ps.length) (s.heap.objs.size + ps.length + 1) .none → IsTup h' (s.heap.objs.size + ps.length) ((srcs s.heap.objs.size ps).map fun c => .ref c.it) →
      IsTup h' (s.heap.objs.size + ps.length + 1) (ps.map fun _ => .none) → (∀ c ∈ srcs s.heap.objs.size ps, ItAt c.k h' c.it c.a 0) → h'.objs.size = s.heap.objs.size + ps.length + 3 → (∀ b o, s.heap.get? b = some o → h'.get? b = some o) →
      Q (.ref (s.heap.objs.size + ps.length + 2)) { s with heap := h' }) : wpAny (model prog w) A (call (.type "zip") (ps.map fun p => .ref p.2)) Q E s := by
  have S : ZipS ps A.in1 (wants (fun obj s1 => s1.TypeIs obj "zip" ∧ Q obj s1) E) s :=
    ⟨hx, by omega, fun h' a1 a2 a3 a4 a5 a6 => ⟨⟨_, a1, rfl⟩, h h' a1 a2 a3 a4 a5 a6⟩⟩
  have g := zip_new ps
  rcases hn with e | e | e
  · match ps, e with
    | [a, b], _ => exact callType_new F.called_zip (by decide) (F.typeCall_zip_2 _ _) (F.newCall_zip_2 _ _) (fun obj => F.args_object_init_3 obj _ _) F.entry_zip_new g S
  · match ps, e with
    | [a, b, c], _ => exact callType_new F.called_zip (by decide) (by kernel_rfl) (by kernel_rfl) (fun obj => by
        unfold argsOk; rw [signature?_of (id := "object.__init__") (n := ['_', '_', 't', 'i', 'n', 'i', '_', '_']) (o := ['t', 'c', 'e', 'j', 'b', 'o']) (by kernel_rfl) F.owner_object]; kernel_rfl) F.entry_zip_new g S
  · match ps, e with
    | [a, b, c, d], _ => exact callType_new F.called_zip (by decide) (by kernel_rfl) (by kernel_rfl) (fun obj => by
        unfold argsOk; rw [signature?_of (id := "object.__init__") (n := ['_', '_', 't', 'i', 'n', 'i', '_', '_']) (o := ['t', 'c', 'e', 'j', 'b', 'o']) (by kernel_rfl) F.owner_object]; kernel_rfl) F.entry_zip_new g S
end ZN

set_option Elab.async false
set_option maxRecDepth 100000
set_option maxHeartbeats 4000000
/-! ZN2: zip of any number of lists and tuples, over the layer's heap. -/
namespace ZN
open PySem PySem.Spec PyProof.Rows L2
def SqK (K : PySem.W.Frag) : Kd → Hp → Nat → List V → Prop
  | .l, H, a, xs => SqL K H a xs
  | .t, H, a, xs => SqT K H a xs
structure CS where
  k : Kd
  a : Nat
  xs : List V
abbrev CS.key (c : CS) : Kd × Nat := (c.k, c.a)
abbrev Src.key (c : Src) : Kd × Nat := (c.k, c.a)
/-- the things of css, as they stand, the items of a turn in a new tuple -/
def ItzN (K : PySem.W.Frag) (css : List CS) : It :=
  ⟨fun i H => (∀ c ∈ css, SqK K c.k H c.a c.xs) ∧ ∃ us : List V, css.map (fun c => c.xs[i]?) = us.map some,
    fun i H v H' => ∃ (T : Addr) (us : List V), v = .ref T ∧ H T = none ∧ H' = upd H T (.tup us) ∧ css.map (fun c => c.xs[i]?) = us.map some,
    fun i H => (∀ c ∈ css, SqK K c.k H c.a c.xs) ∧ ∃ c ∈ css, c.xs[i]? = none⟩
def TnZ (z TI TO : Nat) (cs : List Src) (i : Nat) (h : Heap) : Prop :=
  IsZip h z TI TO .none ∧ IsTup h TI (cs.map fun c => .ref c.it) ∧ (∃ ys : List Value, ys.length = cs.length ∧ IsTup h TO ys) ∧ ∀ c ∈ cs, ItAt c.k h c.it c.a i
theorem SqAt.inj {k : Kd} {h : Heap} {a : Addr} {xs ys : Array Value} (h1 : SqAt k h a xs) (h2 : SqAt k h a ys) : xs = ys := by
  cases k with
  | l =>
    obtain ⟨o, e, _, n, d⟩ := h1
    obtain ⟨o', e', _, n', d'⟩ := h2
    rw [e] at e'; cases e'
    rw [d] at d'; cases d'; rfl
  | t =>
    obtain ⟨o, e, _, n, d⟩ := h1
    obtain ⟨o', e', _, n', d'⟩ := h2
    rw [e] at e'; cases e'
    rw [d] at d'; cases d'; rfl
section
variable {X : Cx} {pins : List (Addr × Obj)} {σ : L2.St} {H : Hp} {s : Shared}
theorem sq_at (I : Inv X pins σ H s) {k : Kd} {a : Nat} {xs : List V} (h : SqK X.K k H a xs) : ∃ its : List Value, SqAt k s.heap a its.toArray ∧ Vals xs its := by
  cases k with
  | l =>
    obtain ⟨its, r, p, _⟩ := I.list h
    exact ⟨its, p.isList, r⟩
  | t =>
    obtain ⟨its, r, p, _⟩ := I.tuple h
    exact ⟨its, p, r⟩
open Classical in
theorem contents (I : Inv X pins σ H s) (css : List CS) (hq : ∀ c ∈ css, SqK X.K c.k H c.a c.xs) : ∃ f : Kd × Nat → Array Value, ∀ c ∈ css, SqAt c.k s.heap c.a (f c.key) ∧ ∃ its : List Value, f c.key = its.toArray ∧ Vals c.xs its := by
  refine ⟨fun p => if h : ∃ xs, SqAt p.1 s.heap p.2 xs then Classical.choose h else #[], fun c hc => ?_⟩
  obtain ⟨its, h1, h2⟩ := sq_at I (hq c hc)
  have ex : ∃ xs, SqAt c.key.1 s.heap c.key.2 xs := ⟨_, h1⟩
  have e : (if h : ∃ xs, SqAt c.key.1 s.heap c.key.2 xs then Classical.choose h else #[]) = its.toArray := by
    rw [dif_pos ex]
    exact SqAt.inj (Classical.choose_spec ex) h1
  refine ⟨?_, its, e, h2⟩
  show SqAt c.k s.heap c.a (if h : ∃ xs, SqAt c.key.1 s.heap c.key.2 xs then Classical.choose h else #[])
  rw [e]; exact h1
end
theorem vals_of {f : Kd × Nat → Array Value} {i : Nat} : ∀ {css : List CS} {us : List V} {vs : List Value}, (∀ c ∈ css, ∃ its : List Value, f c.key = its.toArray ∧ Vals c.xs its) → css.map (fun c => c.xs[i]?) = us.map some →
    css.map (fun c => (f c.key)[i]?) = vs.map some → Vals us vs
  | [], us, vs, _, h1, h2 => by
    cases us with
    | cons _ _ => simp at h1
    | nil => cases vs with
      | cons _ _ => simp at h2
      | nil => exact .nil
  | c :: css, us, vs, h, h1, h2 => by
    cases us with
    | nil => simp at h1
    | cons u us => cases vs with
      | nil => simp at h2
      | cons v vs =>
        simp only [List.map_cons, List.cons.injEq] at h1 h2
        obtain ⟨its, e, r⟩ := h c List.mem_cons_self
        obtain ⟨w, hw, rw'⟩ := r.get h1.1
        have e2 := h2.1
        rw [e, List.getElem?_toArray, hw] at e2
        cases e2
        exact .cons rw' (vals_of (fun d hd => h d (List.mem_cons_of_mem _ hd)) h1.2 h2.2)
theorem map_key {α : Type} {cs : List Src} {css : List CS} (hk : cs.map Src.key = css.map CS.key) (g : Kd × Nat → α) : cs.map (fun c => g c.key) = css.map fun c => g c.key := by
  have := congrArg (List.map g) hk
  rw [List.map_map, List.map_map] at this
  exact this
theorem mem_key {cs : List Src} {css : List CS} (hk : cs.map Src.key = css.map CS.key) {c : Src} (hc : c ∈ cs) : ∃ d ∈ css, d.key = c.key := by
  have : c.key ∈ css.map CS.key := by rw [← hk]; exact List.mem_map.mpr ⟨c, hc, rfl⟩
  obtain ⟨d, hd, e⟩ := List.mem_map.mp this
  exact ⟨d, hd, e⟩
theorem turn_zipN {P : Program} {w : World} {K : PySem.W.Frag} {elts : List Expr} {kk : Nat} {tpos : Pos} {z TI TO : Nat} {cs : List Src} {css : List CS} (D : Apart z TI TO cs) (hk : cs.map Src.key = css.map CS.key) (hne : cs ≠ []) (hn : cs.length < 1000) :
    Turn P w K (.Tuple elts kk tpos) (ItzN K css) (z :: TI :: TO :: cs.map Src.it) z (TnZ z TI TO cs) where
  mem := List.mem_cons_self
  obj := fun i h st c hc => by
    obtain ⟨hz, hTI, ⟨ys, _, hTO⟩, hi⟩ := st
    simp only [List.mem_cons] at hc
    rcases hc with q | q | q | q
    · rw [q]; exact ⟨_, hz, fun v q => nomatch q⟩
    · rw [q]; exact ⟨_, hTI, fun v q => nomatch q⟩
    · rw [q]; exact ⟨_, hTO, fun v q => nomatch q⟩
    · obtain ⟨d, hd, e⟩ := List.mem_map.mp q
      obtain ⟨o, vs, e1, e2⟩ := (hi d hd).live
      rw [← e]
      exact ⟨o, e1, fun v q => by rw [e2] at q; cases q⟩
  keep := fun i h h' st k => by
    obtain ⟨hz, hTI, ⟨ys, hy, hTO⟩, hi⟩ := st
    exact ⟨k z (by simp) _ hz, k TI (by simp) _ hTI, ⟨ys, hy, k TO (by simp) _ hTO⟩, fun c hc => (hi c hc).over fun o q => k c.it (List.mem_cons_of_mem _ (List.mem_cons_of_mem _ (List.mem_cons_of_mem _ (List.mem_map.mpr ⟨c, hc, rfl⟩)))) o q⟩
  item := by
    intro X hP hw hK hc i pins s σ H E I hf st hg
    subst hP hw hK
    obtain ⟨hz, hTI, ⟨ys, hy, hTO⟩, hi⟩ := st
    obtain ⟨hq, us, hus⟩ := hg
    obtain ⟨f, hfc⟩ := contents I css hq
    have hsq : ∀ c ∈ cs, SqAt c.k s.heap c.a (f c.key) := fun c hc => by
      obtain ⟨d, hd, e⟩ := mem_key hk hc
      have := (hfc d hd).1
      rw [show d.k = c.k from congrArg Prod.fst e, show d.a = c.a from congrArg Prod.snd e, e] at this
      exact this
    have hzl : z < s.heap.objs.size := Heap.lt_size hz
    have hT : s.TypeIs (.ref z) "zip" := ⟨_, hz, rfl⟩
    unfold pyNext
    refine wpAny_bind (wpAny_attempt (wpAny_callSpecial?_slot (name := Str.ofString "__next__") hT F.slot_zip_next
      (wpAny_call_entry F.slot_zip_next hT F.entry_zip_next (zip_next (A := X.A.in1) (xs := fun c => f c.key) (I.ok.hd hc) D hne hn hz hTI hTO hy hi hsq (fun vs hvs h' z' TO' hi' hT' hsz kp => wpAny_pure ?_) (fun ⟨c, hcc, e⟩ => ?_)) (F.args_zip_next_1 _))))
    · refine ⟨_, rfl, ?_⟩
      rw [map_key hk (fun p => (f p)[i]?)] at hvs
      have rv : Vals us vs := vals_of (fun c hc => (hfc c hc).2) hus hvs
      refine wpAny_letOwnedTupleGo_zip (s := { s with heap := h' }) z' fun h'' z'' sb => ?_
      have hT2 : h''.get? s.heap.objs.size = some { cls := .type "tuple", data := .seq vs.toArray } := (sb.2 _ (Nat.ne_of_gt hzl)).trans hT'
      have lus : us.length = css.length := by
        have := congrArg List.length hus
        simpa using this.symm
      have lcs : cs.length = css.length := by
        have := congrArg List.length hk
        simpa using this
      have new : ObjOk X.prog X.w (upd H s.heap.objs.size (.tup us)) h'' s.heap.objs.size (.tup us) :=
        ⟨by show us.length ≤ sizeLine; unfold sizeLine; omega, vs, rv, ⟨_, hT2, rfl, _, rfl⟩⟩
      have nin : ∀ {b : Addr}, b ∉ z :: TI :: TO :: cs.map Src.it → b ≠ z ∧ b ≠ TO ∧ b ∉ cs.map Src.it := fun {b} hb => by
        simp only [List.mem_cons, not_or] at hb
        exact ⟨hb.1, hb.2.2.1, hb.2.2.2⟩
      have I1 : Inv X pins σ (upd H s.heap.objs.size (.tup us)) { s with heap := h'' } :=
        I.turnedNew (t' := s.toks) (ch := z :: TI :: TO :: cs.map Src.it) (fun c o hb q => (sb.2 c (nin hb).1).trans (kp c o (nin hb).1 (nin hb).2.1 (nin hb).2.2 q)) hf (Nat.le_refl _) new
      refine ⟨.ref s.heap.objs.size, _, I1, rfl, ⟨_, us, rfl, I.hok.fresh (Nat.le_refl _), rfl, hus⟩, ⟨z'', ?_, ⟨vs, ?_, ?_⟩, fun c hc => (hi' c hc).over fun o q => (sb.2 _ (D.iz c hc)).trans q⟩, fun c hcm => ?_⟩
      · refine (sb.2 _ D.TIz).trans (kp _ _ D.TIz D.TITO (fun q => ?_) hTI)
        obtain ⟨d, hd, e⟩ := List.mem_map.mp q
        exact D.TIi d hd e.symm
      · rw [← rv.length]; omega
      · exact (sb.2 _ D.TOz).trans TO'
      · have hlt : c < s.heap.objs.size := by
          simp only [List.mem_cons] at hcm
          rcases hcm with q | q | q | q
          · rw [q]; exact hzl
          · rw [q]; exact Heap.lt_size hTI
          · rw [q]; exact Heap.lt_size hTO
          · obtain ⟨d, hd, e⟩ := List.mem_map.mp q
            obtain ⟨o, _, e1, _⟩ := (hi d hd).live
            rw [← e]; exact Heap.lt_size e1
        rw [upd_ne (Nat.ne_of_lt hlt)]
        exact (hf c hcm).1
    · obtain ⟨d, hd, ek⟩ := mem_key hk hcc
      obtain ⟨its, e1, r⟩ := (hfc d hd).2
      have hm : d.xs[i]? ∈ us.map some := by rw [← hus]; exact List.mem_map.mpr ⟨d, hd, rfl⟩
      obtain ⟨u, _, eu⟩ := List.mem_map.mp hm
      obtain ⟨w', hw', _⟩ := r.get eu.symm
      rw [← ek, e1, List.getElem?_toArray, hw'] at e
      cases e
  done := by
    intro X hP hw hK hc i pins s σ H E I hf st hg
    subst hP hw hK
    obtain ⟨hz, hTI, ⟨ys, hy, hTO⟩, hi⟩ := st
    obtain ⟨hq, d0, hd0, hnone⟩ := hg
    obtain ⟨f, hfc⟩ := contents I css hq
    have hsq : ∀ c ∈ cs, SqAt c.k s.heap c.a (f c.key) := fun c hc => by
      obtain ⟨d, hd, e⟩ := mem_key hk hc
      have := (hfc d hd).1
      rw [show d.k = c.k from congrArg Prod.fst e, show d.a = c.a from congrArg Prod.snd e, e] at this
      exact this
    have hT : s.TypeIs (.ref z) "zip" := ⟨_, hz, rfl⟩
    unfold pyNext
    refine wpAny_bind (wpAny_attempt (wpAny_callSpecial?_slot (name := Str.ofString "__next__") hT F.slot_zip_next
      (wpAny_call_entry F.slot_zip_next hT F.entry_zip_next (zip_next (A := X.A.in1) (xs := fun c => f c.key) (I.ok.hd hc) D hne hn hz hTI hTO hy hi hsq (fun vs hvs h' z' TO' hi' hT' hsz kp => ?_) (fun _ h' e kp he => ?_)) (F.args_zip_next_1 _))))
    · rw [map_key hk (fun p => (f p)[i]?)] at hvs
      obtain ⟨its, e1, r⟩ := (hfc d0 hd0).2
      have hm : (f d0.key)[i]? ∈ vs.map some := by rw [← hvs]; exact List.mem_map.mpr ⟨d0, hd0, rfl⟩
      obtain ⟨u, _, eu⟩ := List.mem_map.mp hm
      rw [e1, List.getElem?_toArray, r.none_of hnone] at eu
      cases eu
    · obtain ⟨o, ho, hcl⟩ := he
      refine wpAny_bind (wpAny_isInstance (T := "StopIteration") (b := true) ⟨o, ho, hcl⟩ isSubtype_stop ?_)
      refine wpAny_pure ⟨rfl, I.turnedL (t' := s.toks) (ch := z :: TI :: TO :: cs.map Src.it) (fun c o hb q => ?_) hf⟩
      simp only [List.mem_cons, not_or] at hb
      exact kp c o hb.1 hb.2.2.1 hb.2.2.2 q
  self := fun A i s Q E st h => wpAny_pyIter_zip st.1 h
end ZN

set_option Elab.async false
set_option maxRecDepth 100000
set_option maxHeartbeats 4000000
/-! ZN3: zip(..) as what is walked, as a value, a name that holds one. -/
namespace ZN
open PySem PySem.Spec PyProof.Rows L2
/-! ### many cells laid, many forgotten -/
section
variable {X : Cx} {pins : List (Addr × Obj)} {σ : L2.St} {H : Hp} {s : Shared}
end
/-! ### the cells of a zip -/
def itO (k : Kd) (it a : Nat) : HO := .ext fun h => ItAt k h it a 0
def tupO (T : Nat) (vs : List Value) : HO := .ext fun h => IsTup h T vs
def zipO (z TI TO : Nat) : HO := .ext fun h => IsZip h z TI TO .none
def refsZ (b n : Nat) : List Value := (List.range n).map fun j => .ref (b + j)
/-- what stands at x, of the zip laid from b on -/
def cellZ (b : Nat) (ps : List (Kd × Nat)) (x : Nat) : Option HO :=
  if x = b + ps.length + 2 then some (zipO x (b + ps.length) (b + ps.length + 1))
  else if x = b + ps.length + 1 then some (tupO x (ps.map fun _ => .none))
  else if x = b + ps.length then some (tupO x (refsZ b ps.length))
  else if b ≤ x then (ps[x - b]?).map fun p => itO p.1 x p.2 else none
def N234 (n : Nat) : Prop := n = 2 ∨ n = 3 ∨ n = 4
theorem keys_srcs : ∀ (b : Nat) (ps : List (Kd × Nat)), (srcs b ps).map Src.key = ps
  | _, [] => rfl
  | b, p :: ps => by rw [srcs, List.map_cons, keys_srcs]
theorem refs_css {css : List CS} : (css.map CS.key).map (fun p => Value.ref p.2) = css.map fun c => Value.ref c.a := by
  rw [List.map_map]; rfl
theorem relV_refs : ∀ {css : List CS} {us : List Value}, Vals (css.map fun c => V.ref c.a) us → us = css.map fun c => Value.ref c.a
  | [], _, .nil => rfl
  | c :: r, _, .cons h t => by
    have e := relV_refs (css := r) t
    cases h
    rw [e]; rfl
def iZipN (K : PySem.W.Frag) (ta : TA) : TI := fun σ H R => ta σ H fun vs H1 => ∃ css : List CS, vs = css.map (fun c => V.ref c.a) ∧ N234 css.length ∧ (∀ c ∈ css, SqK K c.k H1 c.a c.xs) ∧ R (ItzN K css) H1
section
variable {X : Cx} {p pos tpos : Pos} {elts : List Expr} {kk : Nat} {e : Expr} {es : List Expr} {ta : TA}
theorem zip_call {pins : List (Addr × Obj)} {σ : L2.St} {H : Hp} {s : Shared} {css : List CS} {us : List Value} {Q : Value → Shared → Prop} (I : Inv X pins σ H s) (r : Vals (css.map fun c => V.ref c.a) us) (hn : N234 css.length) (hq : ∀ c ∈ css, SqK X.K c.k H c.a c.xs)
    (h : ∀ h', TnZ (s.heap.objs.size + css.length + 2) (s.heap.objs.size + css.length) (s.heap.objs.size + css.length + 1) (srcs s.heap.objs.size (css.map CS.key)) 0 h' → IsTup h' (s.heap.objs.size + css.length + 1) (css.map fun _ => .none) → (∀ b o, s.heap.get? b = some o → h'.get? b = some o) → (∀ c ∈ css, c.a < s.heap.objs.size) →
      Q (.ref (s.heap.objs.size + css.length + 2)) { s with heap := h' }) : wpAny (model X.prog X.w) X.A (call (.type "zip") us) Q X.xe s := by
  rw [relV_refs r, ← refs_css]
  have hl : (css.map CS.key).length = css.length := List.length_map ..
  have lt : ∀ c ∈ css, c.a < s.heap.objs.size := fun c hc => by
    obtain ⟨its, h1, _⟩ := sq_at I (hq c hc)
    cases q : c.k with
    | l => rw [q] at h1; obtain ⟨o, e, _⟩ := h1; exact Heap.lt_size e
    | t => rw [q] at h1; obtain ⟨o, e, _⟩ := h1; exact Heap.lt_size e
  refine call_zipN (by rw [hl]; exact hn) (fun p hp => ?_) fun h' a1 a2 a3 a4 a5 a6 => ?_
  · obtain ⟨c, hc, rfl⟩ := List.mem_map.mp hp
    obtain ⟨its, h1, _⟩ := sq_at I (hq c hc)
    exact ⟨_, h1⟩
  · rw [hl] at a1 a2 a3 ⊢
    rw [List.map_map] at a3
    exact h h' ⟨a1, a2, ⟨_, by simp [srcs_len], a3⟩, a4⟩ a3 a6 lt
theorem pi_zipN (hg : Gl X "zip") (hm : X.mg "zip" = none) (ha : PA X (e :: es) ta) (hs : starEach (e :: es) X.env = (false, eval e X.env) :: starEach es X.env := by rfl) (hpl : (backTo pos (starEach es X.env)).any (·.1) = false := by rfl) :
    PI X (.Tuple elts kk tpos) (.Call (.Name "zip" p) (e :: es) [] pos) (iZipN X.K ta) := by
  refine ⟨fun pins s σ H R I h => ?_⟩
  refine Call_ (ld_blt I hg hm PyProof.Rows.boot_zip (PyProof.Rows.callWith_type1 (thn (ha.run pos pins s σ H _ I h) fun us s1 ⟨vs, H1, I1, r1, q1⟩ => ?_) hs hpl))
  obtain ⟨css, rfl, hn, hq, q⟩ := q1
  refine zip_call I1 r1 hn hq fun h' st hTO k lt => wpAny_pyIter_zip st.1 ?_
  have hl : (css.map CS.key).length = css.length := List.length_map ..
  have D : Apart (s1.heap.objs.size + css.length + 2) (s1.heap.objs.size + css.length) (s1.heap.objs.size + css.length + 1) (srcs s1.heap.objs.size (css.map CS.key)) := by
    rw [← hl]
    exact apart_srcs fun p hp => by
      obtain ⟨c, hc, rfl⟩ := List.mem_map.mp hp
      exact lt c hc
  have ls : (srcs s1.heap.objs.size (css.map CS.key)).length = css.length := by rw [srcs_len, hl]
  refine ⟨_, _, _, _, H1, rfl, I1.kept (t' := s1.toks) k, turn_zipN D (keys_srcs _ _) (fun z => ?_) (by rw [ls]; rcases hn with z | z | z <;> omega), st, fun c hc => ?_, q⟩
  · rw [z] at ls
    rcases hn with q | q | q <;> (simp at ls; omega)
  · have hle : s1.heap.objs.size ≤ c := by
      simp only [List.mem_cons] at hc
      rcases hc with z | z | z | z
      · rw [z]; exact Nat.le_trans (Nat.le_add_right _ _) (Nat.le_add_right _ _)
      · rw [z]; exact Nat.le_add_right _ _
      · rw [z]; exact Nat.le_trans (Nat.le_add_right _ _) (Nat.le_add_right _ _)
      · obtain ⟨d, hd, ed⟩ := List.mem_map.mp z
        rw [← ed]; exact (srcs_it _ _ _ hd).1
    exact I1.fpOk hle (I1.hok.fresh hle)
end
end ZN

set_option Elab.async false
set_option maxRecDepth 100000
set_option maxHeartbeats 4000000
/-! L3, part a: plain values over the hand layer's abstract heap; the frame's plain state; its steps. -/
namespace L3
open PySem PySem.Spec PyProof.Rows L2

/-- plain data -/
inductive D where
  | non | bl (b : Bool) | int (i : Int) | str (x : Str) | ref (a : Addr) | ty (n : String)
  | tup (ds : List D) | lst (ds : List D) | scr (ns : List Int)
  /-- an instance of a class with slots, all of them filled -/
  | obj (nm : Str) (fs : List D)
  /-- a class of the text -/
  | cls (nm : Str)
  /-- a dict with keys of ints and texts; with keys of tuples of such -/
  | dcK (ks : List Key) (ds : List D) | dcT (ks : List (List Key)) (ds : List D)
  /-- a tuple of ints of the module -/
  | ktp (ns : List Int)
  /-- no value: the head of a register that is no list -/
  | tag (n : Nat)

/-- the class of that name -/
def ClsN (K : PySem.W.Frag) (nm : Str) (C : Addr) : Prop := PySem.W.nsIn K mainGlobals nm = some (some (.ref C))
mutual
inductive Rep (K : PySem.W.Frag) (F : Hp) : D → V → Prop
  | non : Rep K F .non .non
  | bl (b : Bool) : Rep K F (.bl b) (.bl b)
  | int (i : Int) : Rep K F (.int i) (.int i)
  | str (x : Str) : Rep K F (.str x) (.str x)
  | ref (a : Addr) : Rep K F (.ref a) (.ref a)
  | ty (n : String) : Rep K F (.ty n) (.ty n)
  | tup {a : Addr} {xs : List V} {ds : List D} : F a = some (.tup xs) → RepL K F ds xs → Rep K F (.tup ds) (.ref a)
  | ktp {a : Addr} {ns : List Int} : SqT K F a (ns.map V.int) → Rep K F (.ktp ns) (.ref a)
  | scr {a : Addr} {ns : List Int} : SqL K F a (ns.map V.int) → Rep K F (.scr ns) (.ref a)
  | lst {a : Addr} {xs : List V} {ds : List D} : Rd F a (.lst xs) → RepL K F ds xs → Rep K F (.lst ds) (.ref a)
  | obj {a C dx : Addr} {nm : Str} {xs : List V} {fs : List D} : ClsN K nm C → F a = some (SlX.SlO a C dx (xs.map some)) → F dx = some (.xd []) → RepL K F fs xs → Rep K F (.obj nm fs) (.ref a)
  | cls {C : Addr} {nm : Str} : ClsN K nm C → Rep K F (.cls nm) (.ref C)
  | dcK {a : Addr} {ob : Obj} {ks : List Key} {xs : List V} {ds : List D} : F a = some (.frz ob (.dK (ks.zip xs))) → ks.length = xs.length → RepL K F ds xs → Rep K F (.dcK ks ds) (.ref a)
  | dcT {a : Addr} {ob : Obj} {ks : List (List Key)} {xs : List V} {ds : List D} : F a = some (.frz ob (.dT (ks.zip xs))) → ks.length = xs.length → RepL K F ds xs → Rep K F (.dcT ks ds) (.ref a)
inductive RepL (K : PySem.W.Frag) (F : Hp) : List D → List V → Prop
  | nil : RepL K F [] []
  | cons {d : D} {ds : List D} {v : V} {vs : List V} : Rep K F d v → RepL K F ds vs → RepL K F (d :: ds) (v :: vs)
end

theorem sameT {K : PySem.W.Frag} {H H' : Hp} {a : Addr} {xs : List V} (e : Same H H') (h : SqT K H a xs) : SqT K H' a xs := by
  rcases h with (h | ⟨o, h⟩) | h
  · exact .inl (.inl (e _ _ h))
  · exact .inl (.inr ⟨o, e _ _ h⟩)
  · exact .inr h
theorem sameR {H H' : Hp} {a : Addr} {u : HO} (e : Same H H') (h : Rd H a u) : Rd H' a u := by
  rcases h with h | ⟨o, h⟩
  · exact .inl (e _ _ h)
  · exact .inr ⟨o, e _ _ h⟩
mutual
theorem Rep.mono {K : PySem.W.Frag} {F F' : Hp} (e : Same F F') : ∀ (d : D) (v : V), Rep K F d v → Rep K F' d v
  | .non, _, h => by cases h; exact .non
  | .bl _, _, h => by cases h; exact .bl _
  | .int _, _, h => by cases h; exact .int _
  | .str _, _, h => by cases h; exact .str _
  | .ref _, _, h => by cases h; exact .ref _
  | .ty _, _, h => by cases h; exact .ty _
  | .scr _, _, h => by
    cases h with
    | scr hs => exact .scr (e.seq hs)
  | .tup ds, _, h => by
    cases h with
    | tup hs ha => exact .tup (e _ _ hs) (RepL.mono e ds _ ha)
  | .ktp ns, _, h => by
    cases h with
    | ktp hs => exact .ktp (sameT e hs)
  | .lst ds, _, h => by
    cases h with
    | lst hs ha => exact .lst (sameR e hs) (RepL.mono e ds _ ha)
  | .tag _, _, h => by cases h
  | .cls _, _, h => by
    cases h with
    | cls hc => exact .cls hc
  | .obj _ fs, _, h => by
    cases h with
    | obj h1 h2 h3 ha => exact .obj h1 (e _ _ h2) (e _ _ h3) (RepL.mono e fs _ ha)
  | .dcK _ ds, _, h => by
    cases h with
    | dcK h1 h2 ha => exact .dcK (e _ _ h1) h2 (RepL.mono e ds _ ha)
  | .dcT _ ds, _, h => by
    cases h with
    | dcT h1 h2 ha => exact .dcT (e _ _ h1) h2 (RepL.mono e ds _ ha)
theorem RepL.mono {K : PySem.W.Frag} {F F' : Hp} (e : Same F F') : ∀ (ds : List D) (vs : List V), RepL K F ds vs → RepL K F' ds vs
  | [], _, h => by cases h; exact .nil
  | d :: ds, _, h => by
    cases h with
    | cons h1 h2 => exact .cons (Rep.mono e d _ h1) (RepL.mono e ds _ h2)
end
section
variable {K : PySem.W.Frag} {F : Hp}
theorem RepL.length : ∀ {ds : List D} {vs : List V}, RepL K F ds vs → ds.length = vs.length
  | _, _, .nil => rfl
  | _, _, .cons _ t => congrArg (· + 1) (RepL.length t)
theorem RepL.append : ∀ {ds es : List D} {vs us : List V}, RepL K F ds vs → RepL K F es us → RepL K F (ds ++ es) (vs ++ us)
  | _, _, _, _, .nil, s => s
  | _, _, _, _, .cons r t, s => .cons r (RepL.append t s)
theorem RepL.take : ∀ {ds : List D} {vs : List V} (n : Nat), RepL K F ds vs → RepL K F (ds.take n) (vs.take n)
  | _, _, 0, _ => .nil
  | _, _, _ + 1, .nil => .nil
  | _, _, n + 1, .cons r t => .cons r (RepL.take n t)
theorem RepL.drop : ∀ {ds : List D} {vs : List V} (n : Nat), RepL K F ds vs → RepL K F (ds.drop n) (vs.drop n)
  | _, _, 0, r => r
  | _, _, _ + 1, .nil => .nil
  | _, _, n + 1, .cons _ t => RepL.drop n t
theorem RepL.get : ∀ {ds : List D} {vs : List V} {i : Nat} {d : D}, RepL K F ds vs → ds[i]? = some d → ∃ v, vs[i]? = some v ∧ Rep K F d v
  | _, _, _, _, .nil, e => by simp at e
  | _, _, 0, _, .cons r _, e => by simp at e; subst e; exact ⟨_, rfl, r⟩
  | _, _, i + 1, d, .cons _ t, e => by
    obtain ⟨u, h1, h2⟩ := RepL.get (i := i) (d := d) t (by simpa using e)
    exact ⟨u, by simpa using h1, h2⟩
theorem RepL.get' : ∀ {ds : List D} {vs : List V} {i : Nat} {v : V}, RepL K F ds vs → vs[i]? = some v → ∃ d, ds[i]? = some d ∧ Rep K F d v
  | _, _, _, _, .nil, e => by simp at e
  | _, _, 0, _, .cons r _, e => by simp at e; subst e; exact ⟨_, rfl, r⟩
  | _, _, i + 1, d, .cons _ t, e => by
    obtain ⟨u, h1, h2⟩ := RepL.get' (i := i) (v := d) t (by simpa using e)
    exact ⟨u, by simpa using h1, h2⟩
theorem RepL.set : ∀ {ds : List D} {vs : List V} {d : D} {v : V} (i : Nat), Rep K F d v → RepL K F ds vs → RepL K F (ds.set i d) (vs.set i v)
  | _, _, _, _, _, _, .nil => .nil
  | _, _, _, _, 0, r, .cons _ t => .cons r t
  | _, _, _, _, i + 1, r, .cons q t => .cons q (RepL.set i r t)
theorem RepL.dropLast {ds : List D} {vs : List V} (h : RepL K F ds vs) : RepL K F ds.dropLast vs.dropLast := by
  rw [List.dropLast_eq_take, List.dropLast_eq_take, h.length]; exact h.take _
theorem RepL.reverse {ds : List D} {vs : List V} (h : RepL K F ds vs) : RepL K F ds.reverse vs.reverse := by
  induction ds generalizing vs with
  | nil => cases h; exact .nil
  | cons d r ih =>
    cases h with
    | cons h1 h2 => rw [List.reverse_cons, List.reverse_cons]; exact (ih h2).append (.cons h1 .nil)
theorem RepL.rep {ds : List D} {vs : List V} (h : RepL K F ds vs) : ∀ k : Nat, RepL K F (List.replicate k ds).flatten (List.replicate k vs).flatten
  | 0 => .nil
  | k + 1 => by rw [List.replicate_succ, List.replicate_succ, List.flatten_cons, List.flatten_cons]; exact h.append (RepL.rep h k)
theorem RepL.ints : ∀ (ns : List Int), RepL K F (ns.map D.int) (ns.map V.int)
  | [] => .nil
  | n :: r => .cons (.int n) (RepL.ints r)
theorem RepL.ints_of : ∀ {ns : List Int} {vs : List V}, RepL K F (ns.map D.int) vs → vs = ns.map V.int
  | [], _, h => by cases h; rfl
  | n :: r, _, h => by
    cases h with
    | cons h1 h2 => cases h1; rw [RepL.ints_of (ns := r) h2]; rfl
theorem RepL.bls_of : ∀ {ns : List Bool} {vs : List V}, RepL K F (ns.map D.bl) vs → vs = ns.map V.bl
  | [], _, h => by cases h; rfl
  | n :: r, _, h => by
    cases h with
    | cons h1 h2 => cases h1; rw [RepL.bls_of (ns := r) h2]; rfl
end

/-! ### the frame's plain state -/
inductive Sl3 where
  | no | val (d : D) | own (ds : List D)
  /-- a dict that only this slot holds -/
  | ownD (d : D)
  /-- the instance that __init__ is filling -/
  | new (nm : Str) (fs : List (Option D))
abbrev Env3 := List Sl3
/-- what a slot alone holds -/
def Sl3.ow : Sl3 → Option D
  | .own ds => some (.lst ds)
  | .ownD d => some d
  | _ => none
/-- an object that may change, and what it holds -/
def RepB (K : PySem.W.Frag) (F : Hp) : D → HO → Prop
  | .lst ds, o => ∃ xs, o = .lst xs ∧ RepL K F ds xs
  | .dcT ks ds, o => ∃ (ob : Obj) (xs : List V), o = .frz ob (.dT (ks.zip xs)) ∧ ks.length = xs.length ∧ RepL K F ds xs
  | .dcK ks ds, o => ∃ (ob : Obj) (xs : List V), o = .frz ob (.dK (ks.zip xs)) ∧ ks.length = xs.length ∧ RepL K F ds xs
  | _, _ => False
theorem RepB.mono {K : PySem.W.Frag} {F F' : Hp} {d : D} {o : HO} (e : Same F F') (h : RepB K F d o) : RepB K F' d o := by
  cases d with
  | lst ds => obtain ⟨xs, h1, h2⟩ := h; exact ⟨xs, h1, RepL.mono e _ _ h2⟩
  | dcT ks ds => obtain ⟨ob, xs, h1, h2, h3⟩ := h; exact ⟨ob, xs, h1, h2, RepL.mono e _ _ h3⟩
  | dcK ks ds => obtain ⟨ob, xs, h1, h2, h3⟩ := h; exact ⟨ob, xs, h1, h2, RepL.mono e _ _ h3⟩
  | _ => exact h.elim
/-- .. as a value, once it stands still -/
theorem RepB.rep {K : PySem.W.Frag} {F : Hp} {d : D} {o : HO} {a : Addr} (h : RepB K F d o) (e : F a = some o) : Rep K F d (.ref a) := by
  cases d with
  | lst ds => obtain ⟨xs, h1, h2⟩ := h; subst h1; exact .lst (Rd.of e) h2
  | dcT ks ds => obtain ⟨ob, xs, h1, h2, h3⟩ := h; subst h1; exact .dcT e h2 h3
  | dcK ks ds => obtain ⟨ob, xs, h1, h2, h3⟩ := h; subst h1; exact .dcK e h2 h3
  | _ => exact h.elim
abbrev Reg := List (Addr × List D)
abbrev Pend := List (Addr × HO)
structure Base3 where
  F : Hp
  H : Hp
  G : List Addr
  /-- where the instance stands that __init__ is filling -/
  nw : Addr

/-- no tuple -/
def isTp : HO → Bool
  | .tup _ => true
  | _ => false
/-- how the cells of a zip are told in a register -/
def encP (ps : List (ZN.Kd × Nat)) : List D := ps.map fun p => .tup [.bl (match p.1 with | .l => true | .t => false), .int p.2]
def encZ (b : Nat) (ps : List (ZN.Kd × Nat)) (dss : List (List D)) : List D := .tag 0 :: .int b :: .lst (encP ps) :: dss.map D.lst
inductive RepLs (K : PySem.W.Frag) (F : Hp) : List (List D) → List ZN.CS → Prop
  | nil : RepLs K F [] []
  | cons {ds : List D} {c : ZN.CS} {dss : List (List D)} {css : List ZN.CS} : ZN.SqK K c.k F c.a c.xs → RepL K F ds c.xs → RepLs K F dss css → RepLs K F (ds :: dss) (c :: css)
theorem sqK_same {K : PySem.W.Frag} {F F' : Hp} (e : Same F F') {k : ZN.Kd} {a : Nat} {xs : List V} (h : ZN.SqK K k F a xs) : ZN.SqK K k F' a xs := by
  cases k with
  | l => exact e.seq h
  | t => exact sameT e h
theorem RepLs.mono {K : PySem.W.Frag} {F F' : Hp} (e : Same F F') : ∀ {dss : List (List D)} {css : List ZN.CS}, RepLs K F dss css → RepLs K F' dss css
  | _, _, .nil => .nil
  | _, _, .cons h1 h2 h3 => .cons (sqK_same e h1) (RepL.mono e _ _ h2) (RepLs.mono e h3)
/-- how a table of code objects is told in a register -/
def encT (q : Str) : List D := [.tag 1, .str q]
/-- what a register tells: a list; a cell of a zip; a table of code objects -/
inductive RegO (K : PySem.W.Frag) (F : Hp) (a : Addr) : HO → List D → Prop
  | lst {xs : List V} {ds : List D} : RepL K F ds xs → RegO K F a (.lst xs) ds
  | zip {b : Nat} {css : List ZN.CS} {dss : List (List D)} {o : HO} : ZN.cellZ b (css.map ZN.CS.key) a = some o → ZN.N234 css.length → (∀ c ∈ css, c.a < b) → RepLs K F dss css → RegO K F a o (encZ b (css.map ZN.CS.key) dss)
  | tbl {q : Str} {ps : Array Value} : TriplesOk ps.toList → (∀ (pos : Pos) (cv : Value), codeAmong pos ps.toList = some cv → ∃ c, cv = .ref c ∧ F c = some (LamX.CodeO c q)) → RegO K F a (.tbl ps) (encT q)
theorem RegO.mono {K : PySem.W.Frag} {F F' : Hp} {a : Addr} {o : HO} {ds : List D} (e : Same F F') (h : RegO K F a o ds) : RegO K F' a o ds := by
  cases h with
  | lst r => exact .lst (RepL.mono e _ _ r)
  | zip h1 h2 h3 h4 => exact .zip h1 h2 h3 (h4.mono e)
  | tbl h1 h2 => exact .tbl h1 fun pos cv hc => by obtain ⟨c, e1, e2⟩ := h2 pos cv hc; exact ⟨c, e1, e _ _ e2⟩
/-- a register that is a list's -/
def isL : List D → Bool
  | .tag _ :: _ => false
  | _ => true
theorem RegO.lstOf {K : PySem.W.Frag} {F : Hp} {a : Addr} {o : HO} {ds : List D} (h : RegO K F a o ds) (hl : isL ds = true) : ∃ xs, o = .lst xs ∧ RepL K F ds xs := by
  cases h with
  | lst r => exact ⟨_, rfl, r⟩
  | zip h1 h2 h3 h4 => cases hl
  | tbl h1 h2 => cases hl
theorem RegO.nt {K : PySem.W.Frag} {F : Hp} {a : Addr} {o : HO} {ds : List D} (h : RegO K F a o ds) : isTp o = false := by
  cases h with
  | lst r => rfl
  | zip h1 h2 h3 h4 =>
    unfold ZN.cellZ at h1
    split at h1
    · cases h1; rfl
    split at h1
    · cases h1; rfl
    split at h1
    · cases h1; rfl
    split at h1
    · obtain ⟨p, _, rfl⟩ := Option.map_eq_some_iff.mp h1; rfl
    · cases h1
  | tbl h1 h2 => rfl
/-- the list of a register -/
def lookL (G : Reg) (a : Addr) : Option (List D) := match G.lookup a with
  | some ds => if isL ds = true then some ds else none
  | none => none
theorem lookL_iff {G : Reg} {a : Addr} {ds : List D} (h : lookL G a = some ds) : G.lookup a = some ds ∧ isL ds = true := by
  unfold lookL at h
  split at h
  · rename_i e hl
    split at h
    · rename_i hi; cases h; exact ⟨hl, hi⟩
    · cases h
  · cases h
structure Wld (K : PySem.W.Frag) (F H : Hp) (G : Reg) : Prop where
  sub : Same F H
  reg : ∀ (a : Addr) (ds : List D), (a, ds) ∈ G → F a = none ∧ ∃ o, H a = some o ∧ RegO K F a o ds
  nd : (G.map (·.1)).Nodup

/-- an object that stands free: nothing else names it -/
structure FreX (K : PySem.W.Frag) (B : Base3) (pn : Pend) (F H : Hp) (G : Reg) (a : Addr) (d : D) : Prop where
  nF : F a = none
  nB : B.H a = none
  nG : a ∉ G.map (·.1)
  nP : a ∉ pn.map (·.1)
  ex : ∃ o, H a = some o ∧ RepB K F d o
/-- a list that stands free: nothing else names it -/
structure Fre (K : PySem.W.Frag) (B : Base3) (pn : Pend) (F H : Hp) (G : Reg) (a : Addr) (ds : List D) : Prop where
  nF : F a = none
  nB : B.H a = none
  nG : a ∉ G.map (·.1)
  nP : a ∉ pn.map (·.1)
  ex : ∃ xs, H a = some (.lst xs) ∧ RepL K F ds xs
theorem Fre.x {K : PySem.W.Frag} {B : Base3} {pn : Pend} {F H : Hp} {G : Reg} {a : Addr} {ds : List D} (f : Fre K B pn F H G a ds) : FreX K B pn F H G a (.lst ds) :=
  ⟨f.nF, f.nB, f.nG, f.nP, by obtain ⟨xs, e, r⟩ := f.ex; exact ⟨_, e, xs, rfl, r⟩⟩
theorem FreX.l {K : PySem.W.Frag} {B : Base3} {pn : Pend} {F H : Hp} {G : Reg} {a : Addr} {ds : List D} (f : FreX K B pn F H G a (.lst ds)) : Fre K B pn F H G a ds :=
  ⟨f.nF, f.nB, f.nG, f.nP, by obtain ⟨o, e, xs, eo, r⟩ := f.ex; subst eo; exact ⟨xs, e, r⟩⟩

/-- the slots that are filled so far -/
def RepO (K : PySem.W.Frag) (F : Hp) (fs : List (Option D)) (vs : List (Option V)) : Prop := fs.length = vs.length ∧ ∀ (i : Nat) (d : D), fs[i]? = some (some d) → ∃ v, vs[i]? = some (some v) ∧ Rep K F d v
def NewAt (K : PySem.W.Frag) (nw : Addr) (pn : Pend) (F : Hp) (o : Option (Option V)) (nm : Str) (fs : List (Option D)) : Prop :=
  ∃ (a C dx : Addr) (vs : List (Option V)), (a = nw ∧ o = some (some (V.ref a))) ∧ dx ≠ a ∧ ClsN K nm C ∧ RepO K F fs vs ∧ ((vs = [] ∧ (a, HO.ins C dx []) ∈ pn ∧ (dx, HO.own a) ∈ pn) ∨ ((a, SlX.SlO a C dx vs) ∈ pn ∧ (dx, HO.xd []) ∈ pn))
structure St3 (K : PySem.W.Frag) (B : Base3) (pn : Pend) (F H : Hp) (σ : L2.St) (E : Env3) (G : Reg) : Prop where
  w : Wld K F H G
  keepF : Same B.F F
  keepH : ∀ (a : Addr) (o : HO), B.H a = some o → a ∉ B.G → H a = some o
  unfr : ∀ (a : Addr) (o : HO), B.H a = some o → isTp o = false → B.F a = none → F a = none
  regs : ∀ a, a ∈ G.map (·.1) → a ∈ B.G ∨ B.H a = none
  regk : ∀ a, a ∈ B.G → a ∈ G.map (·.1)
  len : E.length = σ.length
  slot : ∀ (i : Nat) (d : D), E[i]? = some (Sl3.val d) → ∃ v, σ[i]? = some (some v) ∧ Rep K F d v
  own : ∀ (i : Nat) (s : Sl3) (d : D), E[i]? = some s → s.ow = some d → ∃ a, σ[i]? = some (some (V.ref a)) ∧ FreX K B pn F H G a d
  ownd : ∀ (i j : Nat) (s t : Sl3) (d e : D) (a : Addr), E[i]? = some s → E[j]? = some t → s.ow = some d → t.ow = some e → σ[i]? = some (some (V.ref a)) → σ[j]? = some (some (V.ref a)) → i = j
  pend : ∀ (a : Addr) (o : HO), (a, o) ∈ pn → H a = some o ∧ F a = none ∧ B.H a = none ∧ a ∉ G.map (·.1)
  pnd : (pn.map (·.1)).Nodup ∧ ∀ p ∈ pn, isTp p.2 = false
  news : ∀ (nm : Str) (fs : List (Option D)), E[0]? = some (Sl3.new nm fs) → NewAt K B.nw pn F σ[0]? nm fs
theorem RepO.mono {K : PySem.W.Frag} {F F' : Hp} (s : Same F F') {fs : List (Option D)} {vs : List (Option V)} (h : RepO K F fs vs) : RepO K F' fs vs :=
  ⟨h.1, fun i d e => by obtain ⟨v, h1, h2⟩ := h.2 i d e; exact ⟨v, h1, Rep.mono s _ _ h2⟩⟩
theorem NewAt.mono {K : PySem.W.Frag} {nw : Addr} {F F' : Hp} {pn : Pend} {o : Option (Option V)} {nm : Str} {fs : List (Option D)} (s : Same F F') (h : NewAt K nw pn F o nm fs) : NewAt K nw pn F' o nm fs := by
  obtain ⟨a, C, dx, vs, h1, h2, h3, h4, h5⟩ := h
  exact ⟨a, C, dx, vs, h1, h2, h3, h4.mono s, h5⟩
theorem NewAt.push {K : PySem.W.Frag} {nw : Addr} {F : Hp} {pn : Pend} {p : Addr × HO} {o : Option (Option V)} {nm : Str} {fs : List (Option D)} (h : NewAt K nw pn F o nm fs) : NewAt K nw (p :: pn) F o nm fs := by
  obtain ⟨a, C, dx, vs, h1, h2, h3, h4, h5⟩ := h
  exact ⟨a, C, dx, vs, h1, h2, h3, h4, h5.imp (fun ⟨x, y, z⟩ => ⟨x, List.mem_cons_of_mem _ y, List.mem_cons_of_mem _ z⟩) fun ⟨y, z⟩ => ⟨List.mem_cons_of_mem _ y, List.mem_cons_of_mem _ z⟩⟩
inductive Dat : HO → Prop
  | lst {xs : List V} : Dat (.lst xs)
  | dT {ob : Obj} {k : List (List Key × V)} : Dat (.frz ob (.dT k))
  | dK {ob : Obj} {k : List (Key × V)} : Dat (.frz ob (.dK k))
  | dTu {k : List (List Key × V)} : Dat (.dT k)
  | dKu {k : List (Key × V)} : Dat (.dK k)
theorem RepB.dat {K : PySem.W.Frag} {F : Hp} {d : D} {o : HO} (h : RepB K F d o) : Dat o := by
  cases d with
  | lst ds => obtain ⟨xs, rfl, _⟩ := h; exact .lst
  | dcT ks ds => obtain ⟨ob, xs, rfl, _⟩ := h; exact .dT
  | dcK ks ds => obtain ⟨ob, xs, rfl, _⟩ := h; exact .dK
  | _ => exact h.elim
theorem Dat.nt {o : HO} (h : Dat o) : isTp o = false := by cases h <;> rfl
theorem NewAt.pop {K : PySem.W.Frag} {nw : Addr} {F : Hp} {pn : Pend} {b : Addr} {u : HO} {o : Option (Option V)} {nm : Str} {fs : List (Option D)} (hd : Dat u) (h : NewAt K nw ((b, u) :: pn) F o nm fs) : NewAt K nw pn F o nm fs := by
  obtain ⟨a, C, dx, vs, h1, h2, h3, h4, h5⟩ := h
  refine ⟨a, C, dx, vs, h1, h2, h3, h4, h5.imp (fun ⟨x, y, z⟩ => ⟨x, ?_, ?_⟩) fun ⟨y, z⟩ => ⟨?_, ?_⟩⟩
  all_goals first
    | exact (List.mem_cons.mp y).elim (fun e => by cases e; cases hd) id
    | exact (List.mem_cons.mp z).elim (fun e => by cases e; cases hd) id

/-- no slot of ours holds the list at a -/
def NoOwn (σ : L2.St) (E : Env3) (a : Addr) : Prop := ∀ (i : Nat) (s : Sl3) (d : D), E[i]? = some s → s.ow = some d → σ[i]? ≠ some (some (V.ref a))
theorem St3.ownL {K : PySem.W.Frag} {B : Base3} {pn : Pend} {F H : Hp} {σ : L2.St} {E : Env3} {G : Reg} (S : St3 K B pn F H σ E G) (i : Nat) (ds : List D) (h : E[i]? = some (Sl3.own ds)) : ∃ a, σ[i]? = some (some (V.ref a)) ∧ Fre K B pn F H G a ds := by
  obtain ⟨a, h1, f⟩ := S.own i _ _ h rfl
  exact ⟨a, h1, f.l⟩
theorem same_upd {F : Hp} {p : Addr} {o : HO} (n : F p = none) : Same F (upd F p o) := fun b u h => by
  rw [upd_ne (ne_of_none h n)]; exact h

section
variable {K : PySem.W.Frag} {B : Base3} {pn : Pend} {F H : Hp} {σ : L2.St} {E : Env3} {G : Reg}
theorem regMem {a : Addr} {G : Reg} (h : a ∈ G.map (·.1)) : ∃ ds, (a, ds) ∈ G := by
  obtain ⟨p, hp, rfl⟩ := List.mem_map.mp h
  exact ⟨p.2, hp⟩
theorem Wld.regH (w : Wld K F H G) {a : Addr} (h : a ∈ G.map (·.1)) : ∃ o, H a = some o := by
  obtain ⟨ds, hd⟩ := regMem h
  obtain ⟨_, xs, e, _⟩ := w.reg a ds hd
  exact ⟨_, e⟩
theorem St3.baseNone (S : St3 K B pn F H σ E G) {p : Addr} (n : H p = none) : B.H p = none := by
  cases q : B.H p with
  | none => rfl
  | some o =>
    by_cases hg : p ∈ B.G
    · obtain ⟨o', e⟩ := S.w.regH (S.regk p hg)
      rw [n] at e; cases e
    · have := S.keepH p o q hg
      rw [n] at this; cases this
theorem Wld.fNone (w : Wld K F H G) {p : Addr} (n : H p = none) : F p = none := by
  cases q : F p with
  | none => rfl
  | some o => have := w.sub p o q; rw [n] at this; cases this
/-- an object laid at a free place, frozen at once -/
theorem St3.newF (S : St3 K B pn F H σ E G) {p : Addr} {o : HO} (n : H p = none) : St3 K B pn (upd F p o) (upd H p o) σ E G ∧ Same F (upd F p o) := by
  have nF := S.w.fNone n
  have sF : Same F (upd F p o) := same_upd nF
  have sH : Same H (upd H p o) := same_upd n
  have nB := S.baseNone n
  refine ⟨⟨⟨fun a u h => ?_, fun a ds h => ?_, S.w.nd⟩, fun a u h => sF _ _ (S.keepF a u h), fun a u h hg => sH _ _ (S.keepH a u h hg), fun a u h ht h2 => ?_, S.regs, S.regk, S.len, fun i d h => ?_, fun i s d h ho => ?_, S.ownd, fun a xs h => ?_, S.pnd, fun nm fs h => (S.news nm fs h).mono sF⟩, sF⟩
  · unfold upd at h ⊢
    split at h
    · rename_i e; rw [if_pos e]; exact h
    · rename_i e; rw [if_neg e]; exact S.w.sub a u h
  · obtain ⟨h1, xs, h2, h3⟩ := S.w.reg a ds h
    have ne : a ≠ p := ne_of_none h2 n
    exact ⟨by rw [upd_ne ne]; exact h1, xs, by rw [upd_ne ne]; exact h2, RegO.mono sF h3⟩
  · have ne : a ≠ p := ne_of_none h nB
    rw [upd_ne ne]; exact S.unfr a u h ht h2
  · obtain ⟨v, h1, h2⟩ := S.slot i d h
    exact ⟨v, h1, Rep.mono sF _ _ h2⟩
  · obtain ⟨a, h1, f⟩ := S.own i s d h ho
    obtain ⟨xs, e, r⟩ := f.ex
    have ne : a ≠ p := ne_of_none e n
    exact ⟨a, h1, ⟨by rw [upd_ne ne]; exact f.nF, f.nB, f.nG, f.nP, xs, by rw [upd_ne ne]; exact e, RepB.mono sF r⟩⟩
  · obtain ⟨h1, h2, h3, h4⟩ := S.pend a xs h
    have ne : a ≠ p := ne_of_none h1 n
    exact ⟨by rw [upd_ne ne]; exact h1, by rw [upd_ne ne]; exact h2, h3, h4⟩
/-- an object laid at a free place, left free -/
theorem St3.newU (S : St3 K B pn F H σ E G) {p : Addr} {o : HO} (n : H p = none) : St3 K B pn F (upd H p o) σ E G := by
  have nF := S.w.fNone n
  have sH : Same H (upd H p o) := same_upd n
  refine ⟨⟨fun a u h => sH _ _ (S.w.sub a u h), fun a ds h => ?_, S.w.nd⟩, S.keepF, fun a u h hg => sH _ _ (S.keepH a u h hg), S.unfr, S.regs, S.regk, S.len, S.slot, fun i s d h ho => ?_, S.ownd, fun a xs h => ?_, S.pnd, S.news⟩
  · obtain ⟨h1, xs, h2, h3⟩ := S.w.reg a ds h
    exact ⟨h1, xs, sH _ _ h2, h3⟩
  · obtain ⟨a, h1, f⟩ := S.own i s d h ho
    obtain ⟨xs, e, r⟩ := f.ex
    exact ⟨a, h1, ⟨f.nF, f.nB, f.nG, f.nP, xs, sH _ _ e, r⟩⟩
  · obtain ⟨h1, h2⟩ := S.pend a xs h
    exact ⟨sH _ _ h1, h2⟩
theorem St3.newNo (S : St3 K B pn F H σ E G) {p : Addr} (n : H p = none) : NoOwn σ E p := fun i s d h ho e => by
  obtain ⟨a, h1, f⟩ := S.own i s d h ho
  rw [e] at h1
  cases h1
  obtain ⟨xs, q, _⟩ := f.ex
  rw [n] at q; cases q
theorem St3.newFreX (S : St3 K B pn F H σ E G) {p : Addr} {o : HO} {d : D} (n : H p = none) (r : RepB K F d o) : FreX K B pn F (upd H p o) G p d ∧ NoOwn σ E p := by
  refine ⟨⟨S.w.fNone n, S.baseNone n, fun h => ?_, fun h => ?_, o, upd_same, r⟩, S.newNo n⟩
  · obtain ⟨o, q⟩ := S.w.regH h
    rw [n] at q; cases q
  · obtain ⟨q, hq, rfl⟩ := List.mem_map.mp h
    have := (S.pend q.1 q.2 hq).1
    rw [n] at this; cases this
theorem St3.newFre (S : St3 K B pn F H σ E G) {p : Addr} {xs : List V} {ds : List D} (n : H p = none) (r : RepL K F ds xs) : Fre K B pn F (upd H p (.lst xs)) G p ds ∧ NoOwn σ E p := by
  obtain ⟨f, no⟩ := S.newFreX (d := .lst ds) n ⟨xs, rfl, r⟩
  exact ⟨f.l, no⟩
/-- an object that nothing of ours names freezes -/
theorem St3.freezeAt (S : St3 K B pn F H σ E G) {a : Addr} {o : HO} (nF : F a = none) (nB : B.H a = none) (nG : a ∉ G.map (·.1)) (nP : a ∉ pn.map (·.1)) (no : NoOwn σ E a) (e : H a = some o) : St3 K B pn (upd F a o) H σ E G ∧ Same F (upd F a o) := by
  have sF : Same F (upd F a o) := same_upd nF
  refine ⟨⟨⟨fun b u h => ?_, fun b es h => ?_, S.w.nd⟩, fun b u h => sF _ _ (S.keepF b u h), S.keepH, fun b u h ht h2 => ?_, S.regs, S.regk, S.len, fun i d h => ?_, fun i s d h ho => ?_, S.ownd, fun b ys h => ?_, S.pnd, fun nm fs h => (S.news nm fs h).mono sF⟩, sF⟩
  · unfold upd at h
    split at h
    · rename_i q; subst q; rw [e]; exact h
    · exact S.w.sub b u h
  · obtain ⟨h1, ys, h2, h3⟩ := S.w.reg b es h
    have ne : b ≠ a := fun z => nG (by rw [← z]; exact List.mem_map.mpr ⟨_, h, rfl⟩)
    exact ⟨by rw [upd_ne ne]; exact h1, ys, h2, RegO.mono sF h3⟩
  · rw [upd_ne (ne_of_none h nB)]; exact S.unfr b u h ht h2
  · obtain ⟨v, h1, h2⟩ := S.slot i d h
    exact ⟨v, h1, Rep.mono sF _ _ h2⟩
  · obtain ⟨b, h1, g⟩ := S.own i s d h ho
    obtain ⟨ys, e2, r2⟩ := g.ex
    have ne : b ≠ a := fun z => no i s d h ho (by rw [← z]; exact h1)
    exact ⟨b, h1, ⟨by rw [upd_ne ne]; exact g.nF, g.nB, g.nG, g.nP, ys, e2, RepB.mono sF r2⟩⟩
  · obtain ⟨h1, h2, h3, h4⟩ := S.pend b ys h
    have ne : b ≠ a := fun z => nP (by rw [← z]; exact List.mem_map.mpr ⟨_, h, rfl⟩)
    exact ⟨h1, by rw [upd_ne ne]; exact h2, h3, h4⟩
/-- a free object freezes -/
theorem St3.freezeX (S : St3 K B pn F H σ E G) {a : Addr} {d : D} (f : FreX K B pn F H G a d) (no : NoOwn σ E a) : ∃ F', St3 K B pn F' H σ E G ∧ Same F F' ∧ Rep K F' d (.ref a) := by
  obtain ⟨o, e, r⟩ := f.ex
  obtain ⟨S2, s⟩ := S.freezeAt f.nF f.nB f.nG f.nP no e
  exact ⟨_, S2, s, (r.mono s).rep upd_same⟩
/-- a free list freezes -/
theorem St3.freeze (S : St3 K B pn F H σ E G) {a : Addr} {ds : List D} (f : Fre K B pn F H G a ds) (no : NoOwn σ E a) : ∃ F', St3 K B pn F' H σ E G ∧ Same F F' ∧ Rep K F' (.lst ds) (.ref a) := S.freezeX f.x no
/-- a slot's content becomes unknown to us -/
theorem St3.forget (S : St3 K B pn F H σ E G) (i : Nat) : St3 K B pn F H σ (E.set i Sl3.no) G := by
  have look : ∀ {j : Nat} {s : Sl3}, s ≠ Sl3.no → (E.set i Sl3.no)[j]? = some s → E[j]? = some s := fun {j s} hs h => by
    by_cases q : i = j
    · subst q
      rw [List.getElem?_set] at h
      simp only [if_true] at h
      split at h
      · cases h; exact absurd rfl hs
      · cases h
    · rw [List.getElem?_set_ne q] at h; exact h
  have ne : ∀ {s : Sl3} {d : D}, s.ow = some d → s ≠ Sl3.no := fun h q => by subst q; cases h
  exact ⟨S.w, S.keepF, S.keepH, S.unfr, S.regs, S.regk, by rw [List.length_set]; exact S.len, fun j d h => S.slot j d (look (fun q => nomatch q) h), fun j s d h ho => S.own j s d (look (ne ho) h) ho,
    fun j k s t d e a h1 h2 o1 o2 => S.ownd j k s t d e a (look (ne o1) h1) (look (ne o2) h2) o1 o2, S.pend, S.pnd, fun nm fs h => S.news nm fs (look (fun q => nomatch q) h)⟩
theorem set_look {E : Env3} {i j : Nat} {s t : Sl3} (h : (E.set i t)[j]? = some s) : (i = j ∧ s = t) ∨ (i ≠ j ∧ E[j]? = some s) := by
  by_cases q : i = j
  · subst q
    rw [List.getElem?_set] at h
    simp only [if_true] at h
    split at h
    · cases h; exact .inl ⟨rfl, rfl⟩
    · cases h
  · rw [List.getElem?_set_ne q] at h; exact .inr ⟨q, h⟩
/-- a slot that owns an object freezes it -/
theorem St3.freezeSlotX (S : St3 K B pn F H σ E G) {i : Nat} {s : Sl3} {d : D} {v : V} (h : E[i]? = some s) (ho : s.ow = some d) (hv : σ[i]? = some (some v)) : ∃ F', St3 K B pn F' H σ (E.set i (Sl3.val d)) G ∧ Same F F' ∧ Rep K F' d v := by
  obtain ⟨a, h1, f⟩ := S.own i s d h ho
  rw [hv] at h1
  cases h1
  have S2 := S.forget i
  obtain ⟨F', S3, sm, r⟩ := S2.freezeX f (fun j t e hj ht q => by
    rcases set_look hj with ⟨_, z⟩ | ⟨ne, z⟩
    · subst z; cases ht
    · exact ne (S.ownd i j s t d e a h z ho ht hv q))
  refine ⟨F', ⟨S3.w, S3.keepF, S3.keepH, S3.unfr, S3.regs, S3.regk, by rw [List.length_set]; exact S.len, fun j e hj => ?_, fun j t e hj ht => ?_, fun j k t u e g b h1 h2 o1 o2 => ?_, S3.pend, S3.pnd, fun nm fs h => ?_⟩, sm, r⟩
  · rcases set_look hj with ⟨q, z⟩ | ⟨ne, z⟩
    · cases z; subst q; exact ⟨_, hv, r⟩
    · exact S3.slot j e (by rw [List.getElem?_set_ne ne]; exact z)
  · rcases set_look hj with ⟨q, z⟩ | ⟨ne, z⟩
    · subst z; cases ht
    · exact S3.own j t e (by rw [List.getElem?_set_ne ne]; exact z) ht
  · rcases set_look h1 with ⟨q, z⟩ | ⟨ne, z⟩
    · subst z; cases o1
    · rcases set_look h2 with ⟨q', z'⟩ | ⟨ne', z'⟩
      · subst z'; cases o2
      · exact S.ownd j k t u e g b z z' o1 o2
  · rcases set_look h with ⟨q, z⟩ | ⟨ne, z⟩
    · cases z
    · exact S3.news nm fs (by rw [List.getElem?_set_ne ne]; exact z)
theorem St3.freezeSlot (S : St3 K B pn F H σ E G) {i : Nat} {ds : List D} {v : V} (h : E[i]? = some (Sl3.own ds)) (hv : σ[i]? = some (some v)) : ∃ F', St3 K B pn F' H σ (E.set i (Sl3.val (.lst ds))) G ∧ Same F F' ∧ Rep K F' (.lst ds) v := S.freezeSlotX h rfl hv
theorem setσ_look {σ : L2.St} {i j : Nat} {v : Option V} : i < σ.length → (σ.set i v)[j]? = if i = j then some v else σ[j]? := fun hl => by
  by_cases q : i = j
  · subst q; rw [List.getElem?_set_self hl, if_pos rfl]
  · rw [List.getElem?_set_ne q, if_neg q]
theorem lt_of_look {α : Type} {l : List α} {i : Nat} {x : α} (h : l[i]? = some x) : i < l.length := (List.getElem?_eq_some_iff.mp h).1
/-- a slot is set to a value -/
theorem St3.setVal (S : St3 K B pn F H σ E G) {i : Nat} {d : D} {v : V} (hi : i < σ.length) (r : Rep K F d v) : St3 K B pn F H (σ.set i (some v)) (E.set i (Sl3.val d)) G := by
  refine ⟨S.w, S.keepF, S.keepH, S.unfr, S.regs, S.regk, by rw [List.length_set, List.length_set]; exact S.len, fun j e h => ?_, fun j s e h ho => ?_, fun j k s t e g a h1 h2 o1 o2 h3 h4 => ?_, S.pend, S.pnd, fun nm fs h => ?_⟩
  · rw [setσ_look hi]
    rcases set_look h with ⟨q, z⟩ | ⟨ne, z⟩
    · cases z; rw [if_pos q]; exact ⟨v, rfl, r⟩
    · rw [if_neg ne]; exact S.slot j e z
  · rw [setσ_look hi]
    rcases set_look h with ⟨q, z⟩ | ⟨ne, z⟩
    · subst z; cases ho
    · rw [if_neg ne]; exact S.own j s e z ho
  · rcases set_look h1 with ⟨q, z⟩ | ⟨ne, z⟩
    · subst z; cases o1
    rcases set_look h2 with ⟨q', z'⟩ | ⟨ne', z'⟩
    · subst z'; cases o2
    rw [setσ_look hi, if_neg ne] at h3
    rw [setσ_look hi, if_neg ne'] at h4
    exact S.ownd j k s t e g a z z' o1 o2 h3 h4
  · rcases set_look h with ⟨q, z⟩ | ⟨ne, z⟩
    · cases z
    · rw [setσ_look hi, if_neg ne]; exact S.news nm fs z
/-- a slot takes a free object -/
theorem St3.setOwnX (S : St3 K B pn F H σ E G) {i : Nat} {s : Sl3} {d : D} {a : Addr} (hi : i < σ.length) (f : FreX K B pn F H G a d) (hs : s.ow = some d) (no : NoOwn σ E a) : St3 K B pn F H (σ.set i (some (V.ref a))) (E.set i s) G := by
  refine ⟨S.w, S.keepF, S.keepH, S.unfr, S.regs, S.regk, by rw [List.length_set, List.length_set]; exact S.len, fun j e h => ?_, fun j t e h ho => ?_, fun j k t u e g b h1 h2 o1 o2 h3 h4 => ?_, S.pend, S.pnd, fun nm fs h => ?_⟩
  · rw [setσ_look hi]
    rcases set_look h with ⟨q, z⟩ | ⟨ne, z⟩
    · subst z; cases hs
    · rw [if_neg ne]; exact S.slot j e z
  · rw [setσ_look hi]
    rcases set_look h with ⟨q, z⟩ | ⟨ne, z⟩
    · subst z
      rw [hs] at ho
      cases ho
      rw [if_pos q]; exact ⟨a, rfl, f⟩
    · rw [if_neg ne]; exact S.own j t e z ho
  · rw [setσ_look hi] at h3 h4
    rcases set_look h1 with ⟨q, z⟩ | ⟨ne, z⟩
    · rcases set_look h2 with ⟨q', z'⟩ | ⟨ne', z'⟩
      · omega
      · rw [if_pos q] at h3
        rw [if_neg ne'] at h4
        cases h3
        exact absurd h4 (no k u g z' o2)
    · rcases set_look h2 with ⟨q', z'⟩ | ⟨ne', z'⟩
      · rw [if_neg ne] at h3
        rw [if_pos q'] at h4
        cases h4
        exact absurd h3 (no j t e z o1)
      · rw [if_neg ne] at h3
        rw [if_neg ne'] at h4
        exact S.ownd j k t u e g b z z' o1 o2 h3 h4
  · rcases set_look h with ⟨q, z⟩ | ⟨ne, z⟩
    · subst z; cases hs
    · rw [setσ_look hi, if_neg ne]; exact S.news nm fs z
/-- a slot takes a free list -/
theorem St3.setOwn (S : St3 K B pn F H σ E G) {i : Nat} {ds : List D} {a : Addr} (hi : i < σ.length) (f : Fre K B pn F H G a ds) (no : NoOwn σ E a) : St3 K B pn F H (σ.set i (some (V.ref a))) (E.set i (Sl3.own ds)) G := S.setOwnX hi f.x rfl no
/-- the object that a slot owns is written -/
theorem St3.ownWriteX (S : St3 K B pn F H σ E G) {i : Nat} {s t : Sl3} {d e : D} {a : Addr} {o : HO} (h : E[i]? = some s) (hs : s.ow = some d) (hv : σ[i]? = some (some (V.ref a))) (ht : t.ow = some e) (r : RepB K F e o) : St3 K B pn F (upd H a o) σ (E.set i t) G := by
  obtain ⟨a', h1, f⟩ := S.own i s d h hs
  rw [hv] at h1
  cases h1
  obtain ⟨xs, ea, _⟩ := f.ex
  refine ⟨⟨fun b u hb => ?_, fun b fs hb => ?_, S.w.nd⟩, S.keepF, fun b u hb hg => ?_, S.unfr, S.regs, S.regk, by rw [List.length_set]; exact S.len, fun j g hj => ?_, fun j u g hj hu => ?_, fun j k u w g g' b h1 h2 o1 o2 h3 h4 => ?_, fun b zs hb => ?_, S.pnd, fun nm fs h => ?_⟩
  · have ne : b ≠ a := ne_of_none hb f.nF
    rw [upd_ne ne]; exact S.w.sub b u hb
  · obtain ⟨h1, zs, h2, h3⟩ := S.w.reg b fs hb
    have ne : b ≠ a := fun z => f.nG (by rw [← z]; exact List.mem_map.mpr ⟨_, hb, rfl⟩)
    exact ⟨h1, zs, by rw [upd_ne ne]; exact h2, h3⟩
  · have ne : b ≠ a := ne_of_none hb f.nB
    rw [upd_ne ne]; exact S.keepH b u hb hg
  · rcases set_look hj with ⟨q, z⟩ | ⟨ne, z⟩
    · subst z; cases ht
    · exact S.slot j g z
  · rcases set_look hj with ⟨q, z⟩ | ⟨ne, z⟩
    · subst z
      rw [ht] at hu
      cases hu
      subst q
      exact ⟨a, hv, ⟨f.nF, f.nB, f.nG, f.nP, o, upd_same, r⟩⟩
    · obtain ⟨b, e1, g2⟩ := S.own j u g z hu
      obtain ⟨zs, e2, r2⟩ := g2.ex
      have nab : b ≠ a := fun q => ne (S.ownd i j s u d g a h z hs hu hv (by rw [← q]; exact e1))
      exact ⟨b, e1, ⟨g2.nF, g2.nB, g2.nG, g2.nP, zs, by rw [upd_ne nab]; exact e2, r2⟩⟩
  · have w1 : ∃ s' d', E[j]? = some s' ∧ s'.ow = some d' := by
      rcases set_look h1 with ⟨q, z⟩ | ⟨ne, z⟩
      · subst q; exact ⟨_, _, h, hs⟩
      · exact ⟨_, _, z, o1⟩
    have w2 : ∃ s' d', E[k]? = some s' ∧ s'.ow = some d' := by
      rcases set_look h2 with ⟨q, z⟩ | ⟨ne, z⟩
      · subst q; exact ⟨_, _, h, hs⟩
      · exact ⟨_, _, z, o2⟩
    obtain ⟨_, _, w1, p1⟩ := w1
    obtain ⟨_, _, w2, p2⟩ := w2
    exact S.ownd j k _ _ _ _ b w1 w2 p1 p2 h3 h4
  · obtain ⟨h1, h2, h3, h4⟩ := S.pend b zs hb
    have ne : b ≠ a := fun z => f.nP (by rw [← z]; exact List.mem_map.mpr ⟨_, hb, rfl⟩)
    exact ⟨by rw [upd_ne ne]; exact h1, h2, h3, h4⟩
  · rcases set_look h with ⟨q, z⟩ | ⟨ne, z⟩
    · subst z; cases ht
    · exact S.news nm fs z
/-- the list that a slot owns is written -/
theorem St3.ownWrite (S : St3 K B pn F H σ E G) {i : Nat} {ds es : List D} {a : Addr} {ys : List V} (h : E[i]? = some (Sl3.own ds)) (hv : σ[i]? = some (some (V.ref a))) (r : RepL K F es ys) : St3 K B pn F (upd H a (.lst ys)) σ (E.set i (Sl3.own es)) G :=
  S.ownWriteX h rfl hv (t := Sl3.own es) (e := .lst es) rfl ⟨ys, rfl, r⟩
def regSet : Reg → Addr → List D → Reg
  | [], _, _ => []
  | (b, ds) :: r, a, es => if b = a then (a, es) :: r else (b, ds) :: regSet r a es
theorem regSet_dom (a : Addr) (es : List D) : ∀ G : Reg, (regSet G a es).map (·.1) = G.map (·.1)
  | [] => rfl
  | (b, ds) :: r => by
    unfold regSet
    by_cases h : b = a
    · rw [if_pos h, List.map_cons, List.map_cons]; subst h; rfl
    · rw [if_neg h, List.map_cons, List.map_cons, regSet_dom a es r]
theorem regSet_mem {a b : Addr} {es fs : List D} : ∀ {G : Reg}, (G.map (·.1)).Nodup → (b, fs) ∈ regSet G a es → (b = a ∧ fs = es) ∨ ((b, fs) ∈ G ∧ b ≠ a)
  | [], _, h => by cases h
  | (c, ds) :: r, nd, h => by
    unfold regSet at h
    rw [List.map_cons] at nd
    have nd' := List.nodup_cons.mp nd
    by_cases q : c = a
    · rw [if_pos q] at h
      rcases List.mem_cons.mp h with h | h
      · cases h; exact .inl ⟨rfl, rfl⟩
      · refine .inr ⟨List.mem_cons_of_mem _ h, fun e => nd'.1 ?_⟩
        show c ∈ _
        rw [q, ← e]
        exact List.mem_map.mpr ⟨_, h, rfl⟩
    · rw [if_neg q] at h
      rcases List.mem_cons.mp h with h | h
      · cases h; exact .inr ⟨List.mem_cons_self, q⟩
      · rcases regSet_mem nd'.2 h with z | ⟨z, ne⟩
        · exact .inl z
        · exact .inr ⟨List.mem_cons_of_mem _ z, ne⟩
/-- a register is written -/
theorem St3.regWrite (S : St3 K B pn F H σ E G) {ds es : List D} {a : Addr} {ys : List V} (h : (a, ds) ∈ G) (r : RepL K F es ys) : St3 K B pn F (upd H a (.lst ys)) σ E (regSet G a es) := by
  obtain ⟨nF, xs, ea, _⟩ := S.w.reg a ds h
  have ha : a ∈ G.map (·.1) := List.mem_map.mpr ⟨_, h, rfl⟩
  refine ⟨⟨fun b u hb => ?_, fun b fs hb => ?_, by rw [regSet_dom]; exact S.w.nd⟩, S.keepF, fun b u hb hg => ?_, S.unfr, by rw [regSet_dom]; exact S.regs, by rw [regSet_dom]; exact S.regk, S.len, S.slot, fun j s d hj ho => ?_, S.ownd, fun b zs hb => ?_, S.pnd, S.news⟩
  · have ne : b ≠ a := ne_of_none hb nF
    rw [upd_ne ne]; exact S.w.sub b u hb
  · rcases regSet_mem S.w.nd hb with ⟨e1, e2⟩ | ⟨hp, q⟩
    · subst e1 e2
      exact ⟨nF, _, upd_same, .lst r⟩
    · obtain ⟨h1, zs, h2, h3⟩ := S.w.reg b fs hp
      exact ⟨h1, zs, by rw [upd_ne q]; exact h2, h3⟩
  · rcases S.regs a ha with z | z
    · have ne : b ≠ a := fun q => hg (by rw [q]; exact z)
      rw [upd_ne ne]; exact S.keepH b u hb hg
    · have ne : b ≠ a := ne_of_none hb z
      rw [upd_ne ne]; exact S.keepH b u hb hg
  · obtain ⟨b, e1, g⟩ := S.own j s d hj ho
    obtain ⟨zs, e2, r2⟩ := g.ex
    have nab : b ≠ a := fun q => g.nG (by rw [q]; exact ha)
    exact ⟨b, e1, ⟨g.nF, g.nB, by rw [regSet_dom]; exact g.nG, g.nP, zs, by rw [upd_ne nab]; exact e2, r2⟩⟩
  · obtain ⟨h1, h2, h3, h4⟩ := S.pend b zs hb
    have ne : b ≠ a := fun z => h4 (by rw [z]; exact ha)
    exact ⟨by rw [upd_ne ne]; exact h1, h2, h3, by rw [regSet_dom]; exact h4⟩
/-- a free list becomes pending, comes back -/
theorem St3.pendOn (S : St3 K B pn F H σ E G) {a : Addr} {o : HO} (hF : F a = none) (hB : B.H a = none) (hG : a ∉ G.map (·.1)) (hP : a ∉ pn.map (·.1)) (hH : H a = some o) (no : NoOwn σ E a) (nt : isTp o = false := by rfl) : St3 K B ((a, o) :: pn) F H σ E G := by
  refine ⟨S.w, S.keepF, S.keepH, S.unfr, S.regs, S.regk, S.len, S.slot, fun i s d h ho => ?_, S.ownd, fun b ys h => ?_, ?_, fun nm fs h => (S.news nm fs h).push⟩
  · obtain ⟨b, h1, f⟩ := S.own i s d h ho
    refine ⟨b, h1, ⟨f.nF, f.nB, f.nG, ?_, f.ex⟩⟩
    rw [List.map_cons]
    intro z
    rcases List.mem_cons.mp z with z | z
    · have z' : b = a := z
      exact no i s d h ho (by rw [← z']; exact h1)
    · exact f.nP z
  · rcases List.mem_cons.mp h with h | h
    · cases h; exact ⟨hH, hF, hB, hG⟩
    · exact S.pend b ys h
  · rw [List.map_cons]
    refine ⟨List.nodup_cons.mpr ⟨hP, S.pnd.1⟩, fun p hp => ?_⟩
    rcases List.mem_cons.mp hp with q | q
    · subst q; exact nt
    · exact S.pnd.2 p q
theorem St3.pendOff {a : Addr} {o : HO} (S : St3 K B ((a, o) :: pn) F H σ E G) (hd : Dat o := by exact .lst) : St3 K B pn F H σ E G ∧ F a = none ∧ B.H a = none ∧ a ∉ G.map (·.1) ∧ a ∉ pn.map (·.1) ∧ H a = some o ∧ NoOwn σ E a := by
  obtain ⟨h1, h2, h3, h4⟩ := S.pend a _ List.mem_cons_self
  have nd := S.pnd.1
  rw [List.map_cons] at nd
  refine ⟨⟨S.w, S.keepF, S.keepH, S.unfr, S.regs, S.regk, S.len, S.slot, fun i s d h ho => ?_, S.ownd, fun b ys h => S.pend b ys (List.mem_cons_of_mem _ h), ⟨(List.nodup_cons.mp nd).2, fun p hp => S.pnd.2 p (List.mem_cons_of_mem _ hp)⟩, fun nm fs h => (S.news nm fs h).pop hd⟩, h2, h3, h4, (List.nodup_cons.mp nd).1, h1, fun i s d h ho e => ?_⟩
  · obtain ⟨b, h1, f⟩ := S.own i s d h ho
    exact ⟨b, h1, ⟨f.nF, f.nB, f.nG, fun z => f.nP (by rw [List.map_cons]; exact List.mem_cons_of_mem _ z), f.ex⟩⟩
  · obtain ⟨b, e1, f⟩ := S.own i s d h ho
    rw [e] at e1
    cases e1
    exact f.nP (by rw [List.map_cons]; exact List.mem_cons_self)
/-- a pending list is written -/
theorem St3.pendWrite {a : Addr} {xs ys : List V} (S : St3 K B ((a, .lst xs) :: pn) F H σ E G) : St3 K B ((a, .lst ys) :: pn) F (upd H a (.lst ys)) σ E G := by
  obtain ⟨S0, hF, hB, hG, hP, hH, no⟩ := S.pendOff
  have S1 : St3 K B pn F (upd H a (.lst ys)) σ E G := by
    refine ⟨⟨fun b u hb => ?_, fun b fs hb => ?_, S.w.nd⟩, S.keepF, fun b u hb hg => ?_, S.unfr, S.regs, S.regk, S.len, S.slot, fun j s d hj ho => ?_, S.ownd, fun b zs hb => ?_, S0.pnd, S0.news⟩
    · have ne : b ≠ a := ne_of_none hb hF
      rw [upd_ne ne]; exact S.w.sub b u hb
    · obtain ⟨h1, zs, h2, h3⟩ := S.w.reg b fs hb
      have ne : b ≠ a := fun z => hG (by rw [← z]; exact List.mem_map.mpr ⟨_, hb, rfl⟩)
      exact ⟨h1, zs, by rw [upd_ne ne]; exact h2, h3⟩
    · have ne : b ≠ a := ne_of_none hb hB
      rw [upd_ne ne]; exact S.keepH b u hb hg
    · obtain ⟨b, e1, g⟩ := S0.own j s d hj ho
      obtain ⟨zs, e2, r2⟩ := g.ex
      have nab : b ≠ a := fun q => no j s d hj ho (by rw [← q]; exact e1)
      exact ⟨b, e1, ⟨g.nF, g.nB, g.nG, g.nP, zs, by rw [upd_ne nab]; exact e2, r2⟩⟩
    · obtain ⟨h1, h2, h3, h4⟩ := S0.pend b zs hb
      have ne : b ≠ a := fun z => hP (by rw [← z]; exact List.mem_map.mpr ⟨_, hb, rfl⟩)
      exact ⟨by rw [upd_ne ne]; exact h1, h2, h3, h4⟩
  exact S1.pendOn hF hB hG hP upd_same no
end
end L3

set_option Elab.async false
set_option maxRecDepth 100000
set_option maxHeartbeats 4000000
/-! L3, part b: judgements over plain values. -/
namespace L3
open PySem PySem.Spec PyProof.Rows L2

/-- what an expression gives: a value; the list that a slot owns; a list that stands free -/
inductive Res where
  | val (d : D) | sl (i : Nat) | fr (ds : List D)
  /-- a dict that stands free -/
  | frD (d : D)
abbrev DK := Res → Env3 → Reg → Prop
abbrev DE := Env3 → Reg → DK → Prop
abbrev DT := Env3 → Reg → (Bool → Env3 → Reg → Prop) → Prop
abbrev DA := Env3 → Reg → (List D → Env3 → Reg → Prop) → Prop
/-- an exception: its class's name, the field that it keeps -/
abbrev Exc3 := Str × Option (Str × D)
abbrev DW := Exc3 → Env3 → Reg → Prop

section
variable (K : PySem.W.Frag) (B : Base3) (pn : Pend) (F H : Hp) (σ : L2.St) (E : Env3) (G : Reg)
def RepR : Res → V → Prop
  | .val d, v => Rep K F d v
  | .sl i, v => σ[i]? = some (some v)
  | .fr ds, v => ∃ a, v = .ref a ∧ Fre K B pn F H G a ds ∧ NoOwn σ E a
  | .frD d, v => ∃ a, v = .ref a ∧ FreX K B pn F H G a d ∧ NoOwn σ E a
def RepH : D → V → Prop := fun d v => Rep K F d v ∨ ∃ a o, v = .ref a ∧ H a = some o ∧ RepB K F d o
end
/-- what it is worth where it is used -/
def Res.get (r : Res) (E : Env3) : Option D := match r with
  | .val d => some d
  | .fr ds => some (.lst ds)
  | .frD d => some d
  | .sl i => match E[i]? with
    | some (Sl3.val d) => some d
    | some (Sl3.own ds) => some (.lst ds)
    | some (Sl3.ownD d) => some d
    | _ => none
/-- frozen -/
def Res.fz : Res → Res
  | .val d => .val d
  | .sl i => .sl i
  | .fr ds => .val (.lst ds)
  | .frD d => .val d
/-- .. for good: the value, the slots behind it -/
def Res.ice (r : Res) (E : Env3) : Option (D × Env3) := match r with
  | .val d => some (d, E)
  | .fr ds => some (.lst ds, E)
  | .frD d => some (d, E)
  | .sl i => match E[i]? with
    | some (Sl3.val d) => some (d, E)
    | some (Sl3.own ds) => some (.lst ds, E.set i (Sl3.val (.lst ds)))
    | some (Sl3.ownD d) => some (d, E.set i (Sl3.val d))
    | _ => none

inductive RepHL (K : PySem.W.Frag) (F H : Hp) : List D → List V → Prop
  | nil : RepHL K F H [] []
  | cons {d : D} {ds : List D} {v : V} {vs : List V} : RepH K F H d v → RepHL K F H ds vs → RepHL K F H (d :: ds) (v :: vs)

section
variable {K : PySem.W.Frag} {B : Base3} {pn : Pend} {F F' H H' : Hp} {σ : L2.St} {E E' : Env3} {G G' : Reg}
theorem RepH.mono {d : D} {v : V} (r : RepH K F H d v) (e : Same F F') (h : ∀ a o, H a = some o → H' a = some o) : RepH K F' H' d v := by
  rcases r with r | ⟨a, o, rfl, h1, h2⟩
  · exact .inl (Rep.mono e _ _ r)
  · exact .inr ⟨a, o, rfl, h _ _ h1, h2.mono e⟩
theorem St3.resolve (S : St3 K B pn F H σ E G) {i : Nat} {v : V} {d : D} (hv : σ[i]? = some (some v)) (h : (Res.sl i).get E = some d) : RepH K F H d v := by
  unfold Res.get at h
  dsimp only at h
  split at h
  · rename_i d' q
    cases h
    obtain ⟨v', h1, h2⟩ := S.slot i d q
    rw [hv] at h1
    cases h1
    exact .inl h2
  · rename_i ds q
    cases h
    obtain ⟨a, h1, f⟩ := S.own i _ _ q rfl
    rw [hv] at h1
    cases h1
    obtain ⟨o, h2, h3⟩ := f.ex
    exact .inr ⟨a, o, rfl, h2, h3⟩
  · rename_i d' q
    cases h
    obtain ⟨a, h1, f⟩ := S.own i _ _ q rfl
    rw [hv] at h1
    cases h1
    obtain ⟨o, h2, h3⟩ := f.ex
    exact .inr ⟨a, o, rfl, h2, h3⟩
  · cases h
theorem St3.getH (S : St3 K B pn F H σ E G) {r : Res} {v : V} {d : D} (hr : RepR K B pn F H σ E G r v) (h : r.get E = some d) : RepH K F H d v := by
  cases r with
  | val d' => cases h; exact .inl hr
  | sl i => exact S.resolve hr h
  | fr ds =>
    cases h
    obtain ⟨a, rfl, f, _⟩ := hr
    obtain ⟨xs, h2, h3⟩ := f.ex
    exact .inr ⟨a, _, rfl, h2, xs, rfl, h3⟩
  | frD d' =>
    cases h
    obtain ⟨a, rfl, f, _⟩ := hr
    obtain ⟨o, h2, h3⟩ := f.ex
    exact .inr ⟨a, o, rfl, h2, h3⟩
/-- a free list freezes; the others stand -/
theorem St3.fz (S : St3 K B pn F H σ E G) {r : Res} {v : V} (hr : RepR K B pn F H σ E G r v) : ∃ F', St3 K B pn F' H σ E G ∧ Same F F' ∧ RepR K B pn F' H σ E G r.fz v := by
  cases r with
  | val d => exact ⟨F, S, Same.refl F, hr⟩
  | sl i => exact ⟨F, S, Same.refl F, hr⟩
  | fr ds =>
    obtain ⟨a, rfl, f, no⟩ := hr
    exact S.freeze f no
  | frD d =>
    obtain ⟨a, rfl, f, no⟩ := hr
    exact S.freezeX f no
/-- what is frozen keeps its sense further on -/
theorem RepR.onward {r : Res} {v : V} (hr : RepR K B pn F H σ E G r.fz v) (e : Same F F') : RepR K B pn F' H' σ E' G' r.fz v := by
  cases r with
  | val d => exact Rep.mono e _ _ hr
  | sl i => exact hr
  | fr ds => exact Rep.mono e _ _ hr
  | frD d => exact Rep.mono e _ _ hr
theorem St3.ice (S : St3 K B pn F H σ E G) {r : Res} {v : V} {d : D} {E' : Env3} (hr : RepR K B pn F H σ E G r v) (h : r.ice E = some (d, E')) : ∃ F', St3 K B pn F' H σ E' G ∧ Same F F' ∧ Rep K F' d v := by
  cases r with
  | val d' => cases h; exact ⟨F, S, Same.refl F, hr⟩
  | fr ds =>
    cases h
    obtain ⟨a, rfl, f, no⟩ := hr
    exact S.freeze f no
  | frD d' =>
    cases h
    obtain ⟨a, rfl, f, no⟩ := hr
    exact S.freezeX f no
  | sl i =>
    unfold Res.ice at h
    dsimp only at h
    split at h
    · rename_i d' q
      cases h
      obtain ⟨v', h1, h2⟩ := S.slot i d q
      have hr' : σ[i]? = some (some v) := hr
      rw [hr'] at h1
      cases h1
      exact ⟨F, S, Same.refl F, h2⟩
    · rename_i ds q
      cases h
      exact S.freezeSlot q hr
    · rename_i d' q
      cases h
      exact S.freezeSlotX q rfl hr
    · cases h
end

/-! ### the lifted readings -/
section
variable (K : PySem.W.Frag) (B : Base3)
def Lift (te : DE) : TE := fun σ H Q => ∃ pn F E G k, St3 K B pn F H σ E G ∧ te E G k ∧
  ∀ r E' G', k r E' G' → ∀ v F' H', St3 K B pn F' H' σ E' G' → Same F F' → RepR K B pn F' H' σ E' G' r v → Q v H'
def LiftT (tt : DT) : TT := fun σ H Q => ∃ pn F E G k, St3 K B pn F H σ E G ∧ tt E G k ∧
  ∀ b E' G', k b E' G' → ∀ F' H', St3 K B pn F' H' σ E' G' → Same F F' → Q b H'
/-- arguments, frozen -/
def LiftA (ta : DA) : TA := fun σ H Q => ∃ pn F E G k, St3 K B pn F H σ E G ∧ ta E G k ∧
  ∀ ds E' G', k ds E' G' → ∀ vs F' H', St3 K B pn F' H' σ E' G' → Same F F' → RepL K F' ds vs → Q vs H'
/-- arguments, as they stand at the call -/
def LiftP (ta : DA) : TA := fun σ H Q => ∃ pn F E G k, St3 K B pn F H σ E G ∧ ta E G k ∧
  ∀ ds E' G', k ds E' G' → ∀ vs F' H', St3 K B pn F' H' σ E' G' → Same F F' → RepHL K F' H' ds vs → Q vs H'
end
section
variable (X : Cx) (B : Base3)
structure LE (e : Expr) (te : DE) : Prop where
  pe : PE X e (Lift X.K B te)
structure LT (e : Expr) (tt : DT) : Prop where
  pt : PT X e (LiftT X.K B tt)
/-- a test whatever its 'whole' is -/
structure LW (e : Expr) (tt : DT) : Prop where
  pw : PW X e (LiftT X.K B tt)
structure LA (es : List Expr) (ta : DA) : Prop where
  pa : PA X es (LiftA X.K B ta)
structure LP (es : List Expr) (ta : DA) : Prop where
  pa : PA X es (LiftP X.K B ta)
end
section
variable {X : Cx}
theorem pe_imp {e : Expr} {t t' : TE} (h : PE X e t) (hi : ∀ σ H Q, t' σ H Q → t σ H Q) : PE X e t' := ⟨fun pins s σ H Q I hw => h.run pins s σ H Q I (hi σ H Q hw)⟩
theorem pt_imp {e : Expr} {t t' : TT} (h : PT X e t) (hi : ∀ σ H Q, t' σ H Q → t σ H Q) : PT X e t' := ⟨fun pins s σ H Q I hw => h.run pins s σ H Q I (hi σ H Q hw)⟩
theorem pw_imp {e : Expr} {t t' : TT} (h : PW X e t) (hi : ∀ σ H Q, t' σ H Q → t σ H Q) : PW X e t' := ⟨fun wh pins s σ H Q I hw => h.run wh pins s σ H Q I (hi σ H Q hw)⟩
theorem pa_imp {e : List Expr} {t t' : TA} (h : PA X e t) (hi : ∀ σ H Q, t' σ H Q → t σ H Q) : PA X e t' := ⟨fun pos pins s σ H Q I hw => h.run pos pins s σ H Q I (hi σ H Q hw)⟩
theorem ps_imp {e : Stmt} {t t' : TS} (h : PS X e t) (hi : ∀ D σ H, t' D σ H → t D σ H) : PS X e t' := ⟨fun pins s σ H D I hw => h.run pins s σ H D I (hi D σ H hw)⟩
theorem pss_imp {e : List Stmt} {t t' : TS} (h : PSs X e t) (hi : ∀ D σ H, t' D σ H → t D σ H) : PSs X e t' := ⟨fun pins s σ H D I hw => h.run pins s σ H D I (hi D σ H hw)⟩
end

/-! ### names, constants -/
def dVar (i : Nat) : DE := fun E G k => match E[i]? with
  | some (Sl3.val d) => k (.val d) E G
  | some (Sl3.own _) => k (.sl i) E G
  | some (Sl3.ownD _) => k (.sl i) E G
  | _ => False
def dC (d : D) : DE := fun E G k => k (.val d) E G
section
variable {X : Cx} {B : Base3}
theorem le_pv {i : Nat} {e : Expr} (h : PE X e (tVar i)) : LE X B e (dVar i) := ⟨pe_imp h fun σ H Q ⟨pn, F, E, G, k, S, ht, hk⟩ => by
  unfold dVar at ht
  split at ht
  · rename_i d q
    obtain ⟨v, h1, h2⟩ := S.slot i d q
    exact ⟨v, h1, hk _ _ _ ht v F H S (Same.refl F) h2⟩
  · rename_i ds q
    obtain ⟨a, h1, h2⟩ := S.own i _ _ q rfl
    exact ⟨_, h1, hk _ _ _ ht _ F H S (Same.refl F) h1⟩
  · rename_i d q
    obtain ⟨a, h1, h2⟩ := S.own i _ _ q rfl
    exact ⟨_, h1, hk _ _ _ ht _ F H S (Same.refl F) h1⟩
  · exact ht.elim⟩
theorem le_c {d : D} {v : V} {e : Expr} (h : PE X e (tC v)) (r : ∀ F, Rep X.K F d v) : LE X B e (dC d) := ⟨pe_imp h fun σ H Q ⟨pn, F, E, G, k, S, ht, hk⟩ =>
  hk _ _ _ ht v F H S (Same.refl F) (r F)⟩
theorem le_int {i j pos} : LE X B (.Constant (.int i) j pos) (dC (.int i)) := le_c pe_int fun _ => .int i
theorem le_bl {b j pos} : LE X B (.Constant (.bool b) j pos) (dC (.bl b)) := le_c pe_bl fun _ => .bl b
theorem le_non {j pos} : LE X B (.Constant .none j pos) (dC .non) := le_c pe_non fun _ => .non
theorem le_str {x j pos} : LE X B (.Constant (.str x) j pos) (dC (.str x)) := le_c pe_str fun _ => .str x
end

/-! ### operators -/
/-- what an operator's reading makes of plain operands -/
def ROp (X : Cx) (B : Base3) (r : R2) (rd : Reg → D → D → (Res → Prop) → Prop) : Prop :=
  ∀ pn F H σ E G x y d e k Q, St3 X.K B pn F H σ E G → RepH X.K F H d x → RepH X.K F H e y → rd G d e k →
    (∀ res, k res → ∀ v F' H', St3 X.K B pn F' H' σ E G → Same F F' → RepR X.K B pn F' H' σ E G res v → Q v H') → r x y H Q
def dOp (rd : Reg → D → D → (Res → Prop) → Prop) (ta tb : DE) : DE := fun E G k => ta E G fun x E1 G1 => tb E1 G1 fun y E2 G2 =>
  ∃ d, x.fz.get E2 = some d ∧ ∃ e, y.get E2 = some e ∧ rd G2 d e fun r => k r E2 G2
section
variable {X : Cx} {B : Base3}
/-- two operands -/
theorem two {ta tb : DE} {σ : L2.St} {H : Hp} {Q : VK} {r : R2} {rd : Reg → D → D → (Res → Prop) → Prop} (hr : ROp X B r rd) (h : Lift X.K B (dOp rd ta tb) σ H Q) : tOp r (Lift X.K B ta) (Lift X.K B tb) σ H Q := by
  obtain ⟨pn, F, E, G, k, S, ht, hk⟩ := h
  refine ⟨pn, F, E, G, _, S, ht, fun x E1 G1 h1 v F1 H1 S1 s1 r1 => ?_⟩
  obtain ⟨F1', S1', s1', r1'⟩ := S1.fz r1
  refine ⟨pn, F1', E1, G1, _, S1', h1, fun y E2 G2 h2 u F2 H2 S2 s2 r2 => ?_⟩
  obtain ⟨d, hd, e, he, h3⟩ := h2
  refine hr pn F2 H2 σ E2 G2 v u d e _ Q S2 (S2.getH (r1'.onward s2) hd) (S2.getH r2 he) h3 fun res hres z F' H' S' s' rr => ?_
  exact hk _ _ _ hres z F' H' S' ((s1.trans s1').trans (s2.trans s')) rr
theorem le_op {op : Operator} {r : R2} {rd : Reg → D → D → (Res → Prop) → Prop} {a b : Expr} {ta tb : DE} {pos : Pos} (ho : OpR X (binaryOp op) r) (hr : ROp X B r rd) (ha : LE X B a ta) (hb : LE X B b tb) : LE X B (.BinOp a op b pos) (dOp rd ta tb) :=
  ⟨pe_imp (pe_op ho ha.pe hb.pe) fun _ _ _ h => two hr h⟩
theorem le_cmp {op : CmpOp} {r : R2} {rd : Reg → D → D → (Res → Prop) → Prop} {a b : Expr} {ta tb : DE} {pos : Pos} (ho : OpR X (compareOp op) r) (hr : ROp X B r rd) (ha : LE X B a ta) (hb : LE X B b tb) (hm : behindInMarks op b = false) : LE X B (.Compare a [op] [b] pos) (dOp rd ta tb) :=
  ⟨pe_imp (pe_cmpR ho ha.pe hb.pe hm) fun _ _ _ h => two hr h⟩
theorem le_ix {r : R2} {rd : Reg → D → D → (Res → Prop) → Prop} {a b : Expr} {ta tb : DE} {pos : Pos} (ho : IxR X r) (hr : ROp X B r rd) (ha : LE X B a ta) (hb : LE X B b tb) (hs : PlainIx b) : LE X B (.Subscript a b pos) (dOp rd ta tb) :=
  ⟨pe_imp (pe_ix ho ha.pe hb.pe hs) fun _ _ _ h => two hr h⟩

/-! ### tests -/
def dTest (te : DE) : DT := fun E G k => te E G fun r E1 G1 => ∃ b, r = .val (.bl b) ∧ k b E1 G1
theorem lt_val {e : Expr} {te : DE} (h : LE X B e te) (he : ∀ whole, isTrue e X.env whole = (do let v ← whole; standAt e.pos; holding [v] (truthy v)) := by intro _; rfl) : LT X B e (dTest te) :=
  ⟨pt_imp (pt_val h.pe he) fun σ H Q ⟨pn, F, E, G, k, S, ht, hk⟩ => ⟨pn, F, E, G, _, S, ht, fun r E1 G1 ⟨b, e1, h1⟩ v F1 H1 S1 s1 r1 => by
    subst e1
    cases r1
    exact ⟨b, rfl, hk _ _ _ h1 F1 H1 S1 s1⟩⟩⟩
theorem lt_cmp {op : CmpOp} {r : R2} {rd : Reg → D → D → (Res → Prop) → Prop} {a b : Expr} {ta tb : DE} {pos : Pos} (ho : OpR X (compareOp op) r) (hr : ROp X B r rd) (ha : LE X B a ta) (hb : LE X B b tb) (hm : behindInMarks op b = false) : LT X B (.Compare a [op] [b] pos) (dTest (dOp rd ta tb)) :=
  ⟨pt_imp (pt_cmpR ho ha.pe hb.pe hm) fun σ H Q ⟨pn, F, E, G, k, S, ht, hk⟩ => by
    refine two (Q := fun x H' => ∃ k, x = .bl k ∧ Q k H') hr ⟨pn, F, E, G, _, S, ht, fun r E1 G1 ⟨b, e1, h1⟩ v F1 H1 S1 s1 r1 => ?_⟩
    subst e1
    cases r1
    exact ⟨b, rfl, hk _ _ _ h1 F1 H1 S1 s1⟩⟩
def dNot (t : DT) : DT := fun E G k => t E G fun b E1 G1 => k (!b) E1 G1
def dAnd (t u : DT) : DT := fun E G k => t E G fun b E1 G1 => if b = true then u E1 G1 k else k false E1 G1
def dOr (t u : DT) : DT := fun E G k => t E G fun b E1 G1 => if b = true then k true E1 G1 else u E1 G1 k
theorem LW.lt {e : Expr} {t : DT} (h : LW X B e t) : LT X B e t := ⟨h.pw.pt⟩
theorem lt_not {a : Expr} {t : DT} {pos : Pos} (ha : LT X B a t) : LT X B (.UnaryOp .Not a pos) (dNot t) :=
  ⟨pt_imp (pt_not ha.pt) fun σ H Q ⟨pn, F, E, G, k, S, ht, hk⟩ => ⟨pn, F, E, G, _, S, ht, fun b E1 G1 h1 F1 H1 S1 s1 => hk _ _ _ h1 F1 H1 S1 s1⟩⟩
theorem lw_and1 {a : Expr} {t : DT} {pos : Pos} (ha : LT X B a t) : LW X B (.BoolOp .And [a] pos) t := ⟨pw_and1 ha.pt⟩
theorem lw_or1 {a : Expr} {t : DT} {pos : Pos} (ha : LT X B a t) : LW X B (.BoolOp .Or [a] pos) t := ⟨pw_or1 ha.pt⟩
theorem lw_and {a b : Expr} {rest : List Expr} {t u : DT} {pos : Pos} (ha : LT X B a t) (hb : LW X B (.BoolOp .And (b :: rest) pos) u) : LW X B (.BoolOp .And (a :: b :: rest) pos) (dAnd t u) :=
  ⟨pw_imp (pw_and ha.pt hb.pw) fun σ H Q ⟨pn, F, E, G, k, S, ht, hk⟩ => ⟨pn, F, E, G, _, S, ht, fun b E1 G1 h1 F1 H1 S1 s1 => by
    cases b with
    | true => exact ⟨pn, F1, E1, G1, k, S1, h1, fun b' E2 G2 h2 F2 H2 S2 s2 => hk _ _ _ h2 F2 H2 S2 (s1.trans s2)⟩
    | false => exact hk _ _ _ h1 F1 H1 S1 s1⟩⟩
theorem lw_or {a b : Expr} {rest : List Expr} {t u : DT} {pos : Pos} (ha : LT X B a t) (hb : LW X B (.BoolOp .Or (b :: rest) pos) u) : LW X B (.BoolOp .Or (a :: b :: rest) pos) (dOr t u) :=
  ⟨pw_imp (pw_or ha.pt hb.pw) fun σ H Q ⟨pn, F, E, G, k, S, ht, hk⟩ => ⟨pn, F, E, G, _, S, ht, fun b E1 G1 h1 F1 H1 S1 s1 => by
    cases b with
    | true => exact hk _ _ _ h1 F1 H1 S1 s1
    | false => exact ⟨pn, F1, E1, G1, k, S1, h1, fun b' E2 G2 h2 F2 H2 S2 s2 => hk _ _ _ h2 F2 H2 S2 (s1.trans s2)⟩⟩⟩
/-- .. as values -/
def dAndV (ta tb : DE) : DE := fun E G k => ta E G fun r E1 G1 => ∃ b, r = .val (.bl b) ∧ if b = true then tb E1 G1 k else k (.val (.bl false)) E1 G1
def dOrV (ta tb : DE) : DE := fun E G k => ta E G fun r E1 G1 => ∃ b, r = .val (.bl b) ∧ if b = true then k (.val (.bl true)) E1 G1 else tb E1 G1 k
def dNotV (ta : DE) : DE := fun E G k => ta E G fun r E1 G1 => ∃ b, r = .val (.bl b) ∧ k (.val (.bl (!b))) E1 G1
theorem le_one {op} {a : Expr} {t : DE} {pos : Pos} (h : LE X B a t) : LE X B (.BoolOp op [a] pos) t := ⟨pe_one h.pe⟩
theorem le_and {a b : Expr} {rest : List Expr} {ta tb : DE} {pos : Pos} (ha : LE X B a ta) (hb : LE X B (.BoolOp .And (b :: rest) pos) tb) : LE X B (.BoolOp .And (a :: b :: rest) pos) (dAndV ta tb) :=
  ⟨pe_imp (pe_and ha.pe hb.pe) fun σ H Q ⟨pn, F, E, G, k, S, ht, hk⟩ => ⟨pn, F, E, G, _, S, ht, fun r E1 G1 ⟨b, e1, h1⟩ v F1 H1 S1 s1 r1 => by
    subst e1
    cases r1
    refine ⟨b, rfl, ?_⟩
    cases b with
    | true => exact ⟨pn, F1, E1, G1, k, S1, h1, fun b' E2 G2 h2 v F2 H2 S2 s2 r2 => hk _ _ _ h2 v F2 H2 S2 (s1.trans s2) r2⟩
    | false => exact hk _ _ _ h1 _ F1 H1 S1 s1 (.bl false)⟩⟩
theorem le_or {a b : Expr} {rest : List Expr} {ta tb : DE} {pos : Pos} (ha : LE X B a ta) (hb : LE X B (.BoolOp .Or (b :: rest) pos) tb) : LE X B (.BoolOp .Or (a :: b :: rest) pos) (dOrV ta tb) :=
  ⟨pe_imp (pe_or ha.pe hb.pe) fun σ H Q ⟨pn, F, E, G, k, S, ht, hk⟩ => ⟨pn, F, E, G, _, S, ht, fun r E1 G1 ⟨b, e1, h1⟩ v F1 H1 S1 s1 r1 => by
    subst e1
    cases r1
    refine ⟨b, rfl, ?_⟩
    cases b with
    | true => exact hk _ _ _ h1 _ F1 H1 S1 s1 (.bl true)
    | false => exact ⟨pn, F1, E1, G1, k, S1, h1, fun b' E2 G2 h2 v F2 H2 S2 s2 r2 => hk _ _ _ h2 v F2 H2 S2 (s1.trans s2) r2⟩⟩⟩
theorem le_not {a : Expr} {ta : DE} {pos : Pos} (ha : LE X B a ta) : LE X B (.UnaryOp .Not a pos) (dNotV ta) :=
  ⟨pe_imp (pe_not ha.pe) fun σ H Q ⟨pn, F, E, G, k, S, ht, hk⟩ => ⟨pn, F, E, G, _, S, ht, fun r E1 G1 ⟨b, e1, h1⟩ v F1 H1 S1 s1 r1 => by
    subst e1
    cases r1
    exact ⟨b, rfl, hk _ _ _ h1 _ F1 H1 S1 s1 (.bl (!b))⟩⟩⟩
def dIf (t : DT) (ta tb : DE) : DE := fun E G k => t E G fun b E1 G1 => if b = true then ta E1 G1 k else tb E1 G1 k
theorem le_ifExp {c a b : Expr} {t : DT} {ta tb : DE} {pos : Pos} (hc : LT X B c t) (ha : LE X B a ta) (hb : LE X B b tb) : LE X B (.IfExp c a b pos) (dIf t ta tb) :=
  ⟨pe_imp (pe_ifExp hc.pt ha.pe hb.pe) fun σ H Q ⟨pn, F, E, G, k, S, ht, hk⟩ => ⟨pn, F, E, G, _, S, ht, fun b E1 G1 h1 F1 H1 S1 s1 => by
    cases b with
    | true => exact ⟨pn, F1, E1, G1, k, S1, h1, fun b' E2 G2 h2 v F2 H2 S2 s2 r2 => hk _ _ _ h2 v F2 H2 S2 (s1.trans s2) r2⟩
    | false => exact ⟨pn, F1, E1, G1, k, S1, h1, fun b' E2 G2 h2 v F2 H2 S2 s2 r2 => hk _ _ _ h2 v F2 H2 S2 (s1.trans s2) r2⟩⟩⟩
/-- unary -/
def RUn (X : Cx) (B : Base3) (r : V → Hp → VK → Prop) (rd : D → (Res → Prop) → Prop) : Prop :=
  ∀ pn F H σ E G x d k Q, St3 X.K B pn F H σ E G → RepH X.K F H d x → rd d k →
    (∀ res, k res → ∀ v F' H', St3 X.K B pn F' H' σ E G → Same F F' → RepR X.K B pn F' H' σ E G res v → Q v H') → r x H Q
def dUn (rd : D → (Res → Prop) → Prop) (ta : DE) : DE := fun E G k => ta E G fun x E1 G1 => ∃ d, x.get E1 = some d ∧ rd d fun r => k r E1 G1
theorem le_un {op : UnaryOp} {r : V → Hp → VK → Prop} {rd : D → (Res → Prop) → Prop} {a : Expr} {ta : DE} {pos : Pos} (ho : UnR X (unaryOp op) r) (hr : RUn X B r rd) (ha : LE X B a ta) : LE X B (.UnaryOp op a pos) (dUn rd ta) :=
  ⟨pe_imp (pe_un ho ha.pe) fun σ H Q ⟨pn, F, E, G, k, S, ht, hk⟩ => ⟨pn, F, E, G, _, S, ht, fun x E1 G1 ⟨d, hd, h1⟩ v F1 H1 S1 s1 r1 =>
    hr pn F1 H1 σ E1 G1 v d _ Q S1 (S1.getH r1 hd) h1 fun res hres u F2 H2 S2 s2 r2 => hk _ _ _ hres u F2 H2 S2 (s1.trans s2) r2⟩⟩
/-- a < b < c -/
def dChain (rd rd' : Reg → D → D → (Res → Prop) → Prop) (ta tb tc : DE) : DE := fun E G k => ta E G fun x E1 G1 => tb E1 G1 fun y E2 G2 =>
  ∃ d, x.fz.get E2 = some d ∧ ∃ e, y.fz.get E2 = some e ∧ rd G2 d e fun r => ∃ b, r = .val (.bl b) ∧
    if b = true then tc E2 G2 fun z E3 G3 => ∃ e', y.fz.get E3 = some e' ∧ ∃ f, z.get E3 = some f ∧ rd' G3 e' f fun r => k r E3 G3 else k (.val (.bl false)) E2 G2
end
end L3

set_option Elab.async false
set_option maxRecDepth 100000
set_option maxHeartbeats 4000000
/-! L3, part c: chains, arguments, displays, slices, calls, statements, loops, comprehensions, defs. -/
namespace L3
open PySem PySem.Spec PyProof.Rows L2

section
variable {X : Cx} {B : Base3}
/-- two comparisons in a row -/
theorem chain3 {ta tb tc : DE} {σ : L2.St} {H : Hp} {Q : VK} {r r' : R2} {rd rd' : Reg → D → D → (Res → Prop) → Prop} (hr : ROp X B r rd) (hr' : ROp X B r' rd') (h : Lift X.K B (dChain rd rd' ta tb tc) σ H Q) :
    tChain r r' (Lift X.K B ta) (Lift X.K B tb) (Lift X.K B tc) σ H Q := by
  obtain ⟨pn, F, E, G, k, S, ht, hk⟩ := h
  refine ⟨pn, F, E, G, _, S, ht, fun x E1 G1 h1 v F1 H1 S1 s1 r1 => ?_⟩
  obtain ⟨F1', S1', s1', r1'⟩ := S1.fz r1
  refine ⟨pn, F1', E1, G1, _, S1', h1, fun y E2 G2 h2 u F2 H2 S2 s2 r2 => ?_⟩
  obtain ⟨F2', S2', s2', r2'⟩ := S2.fz r2
  obtain ⟨d, hd, e, he, h3⟩ := h2
  refine hr pn F2' H2 σ E2 G2 v u d e _ _ S2' (S2'.getH (r1'.onward (s2.trans s2')) hd) (S2'.getH r2' he) h3 fun res hres z F' H' S' s' rr => ?_
  obtain ⟨b, e1, h4⟩ := hres
  subst e1
  cases rr
  refine ⟨b, rfl, ?_⟩
  cases b with
  | false => exact hk _ _ _ h4 _ F' H' S' (((s1.trans s1').trans (s2.trans s2')).trans s') (.bl false)
  | true =>
    refine ⟨pn, F', E2, G2, _, S', h4, fun w E3 G3 h5 q F3 H3 S3 s3 r3 => ?_⟩
    obtain ⟨e', he', f, hf, h6⟩ := h5
    refine hr' pn F3 H3 σ E3 G3 u q e' f _ Q S3 (S3.getH (r2'.onward (s'.trans s3)) he') (S3.getH r3 hf) h6 fun res hres z F5 H5 S5 s5 rr => ?_
    exact hk _ _ _ hres z F5 H5 S5 ((((s1.trans s1').trans (s2.trans s2')).trans s').trans (s3.trans s5)) rr
theorem le_chain {op op' : CmpOp} {r r' : R2} {rd rd' : Reg → D → D → (Res → Prop) → Prop} {a b c : Expr} {ta tb tc : DE} {pos : Pos} (ho : OpR X (compareOp op) r) (hr : ROp X B r rd) (ho' : OpR X (compareOp op') r') (hr' : ROp X B r' rd') (ha : LE X B a ta) (hb : LE X B b tb) (hc : LE X B c tc)
    (hm : lastMarks [op, op'] [b, c] = false := by with_unfolding_all rfl) : LE X B (.Compare a [op, op'] [b, c] pos) (dChain rd rd' ta tb tc) :=
  ⟨pe_imp (pe_chain ho ho' ha.pe hb.pe hc.pe hm) fun _ _ _ h => chain3 hr hr' h⟩
theorem lt_chain {op op' : CmpOp} {r r' : R2} {rd rd' : Reg → D → D → (Res → Prop) → Prop} {a b c : Expr} {ta tb tc : DE} {pos : Pos} (ho : OpR X (compareOp op) r) (hr : ROp X B r rd) (ho' : OpR X (compareOp op') r') (hr' : ROp X B r' rd') (ha : LE X B a ta) (hb : LE X B b tb) (hc : LE X B c tc)
    (hm : lastMarks [op, op'] [b, c] = false := by with_unfolding_all rfl) : LT X B (.Compare a [op, op'] [b, c] pos) (dTest (dChain rd rd' ta tb tc)) :=
  ⟨pt_imp (pt_chain ho ho' ha.pe hb.pe hc.pe hm) fun σ H Q ⟨pn, F, E, G, k, S, ht, hk⟩ => by
    refine chain3 (Q := fun x H' => ∃ k, x = .bl k ∧ Q k H') hr hr' ⟨pn, F, E, G, _, S, ht, fun r E1 G1 ⟨b, e1, h1⟩ v F1 H1 S1 s1 r1 => ?_⟩
    subst e1
    cases r1
    exact ⟨b, rfl, hk _ _ _ h1 F1 H1 S1 s1⟩⟩

/-! ### arguments -/
def dNil : DA := fun E G k => k [] E G
def dCons (ta : DE) (tr : DA) : DA := fun E G k => ta E G fun x E1 G1 => ∃ d E2, x.ice E1 = some (d, E2) ∧ tr E2 G1 fun ds E3 G3 => k (d :: ds) E3 G3
def dPCons (ta : DE) (tr : DA) : DA := fun E G k => ta E G fun x E1 G1 => tr E1 G1 fun ds E3 G3 => ∃ d, x.fz.get E3 = some d ∧ k (d :: ds) E3 G3
theorem la_nil : LA X B [] dNil := ⟨pa_imp pa_nil fun σ H Q ⟨pn, F, E, G, k, S, ht, hk⟩ => hk _ _ _ ht _ F H S (Same.refl F) .nil⟩
theorem lp_nil : LP X B [] dNil := ⟨pa_imp pa_nil fun σ H Q ⟨pn, F, E, G, k, S, ht, hk⟩ => hk _ _ _ ht _ F H S (Same.refl F) .nil⟩
theorem la_cons {e : Expr} {es : List Expr} {ta : DE} {tr : DA} (ha : LE X B e ta) (hr : LA X B es tr) (hs : starEach (e :: es) X.env = (false, eval e X.env) :: starEach es X.env := by rfl) : LA X B (e :: es) (dCons ta tr) :=
  ⟨pa_imp (pa_cons ha.pe hr.pa hs) fun σ H Q ⟨pn, F, E, G, k, S, ht, hk⟩ => ⟨pn, F, E, G, _, S, ht, fun x E1 G1 ⟨d, E2, h0, h1⟩ v F1 H1 S1 s1 r1 => by
    obtain ⟨F1', S1', s1', r1'⟩ := S1.ice r1 h0
    exact ⟨pn, F1', E2, G1, _, S1', h1, fun ds E3 G3 h3 vs F3 H3 S3 s3 r3 => hk _ _ _ h3 _ F3 H3 S3 ((s1.trans s1').trans s3) (.cons (Rep.mono s3 _ _ r1') r3)⟩⟩⟩
theorem lp_cons {e : Expr} {es : List Expr} {ta : DE} {tr : DA} (ha : LE X B e ta) (hr : LP X B es tr) (hs : starEach (e :: es) X.env = (false, eval e X.env) :: starEach es X.env := by rfl) : LP X B (e :: es) (dPCons ta tr) :=
  ⟨pa_imp (pa_cons ha.pe hr.pa hs) fun σ H Q ⟨pn, F, E, G, k, S, ht, hk⟩ => ⟨pn, F, E, G, _, S, ht, fun x E1 G1 h1 v F1 H1 S1 s1 r1 => by
    obtain ⟨F1', S1', s1', r1'⟩ := S1.fz r1
    exact ⟨pn, F1', E1, G1, _, S1', h1, fun ds E3 G3 ⟨d, hd, h3⟩ vs F3 H3 S3 s3 r3 => hk _ _ _ h3 _ F3 H3 S3 ((s1.trans s1').trans s3) (.cons (S3.getH (r1'.onward s3) hd) r3)⟩⟩⟩

/-! ### displays -/
def dTup (ta : DA) : DE := fun E G k => ta E G fun ds E1 G1 => ds.length ≤ sizeLine ∧ k (.val (.tup ds)) E1 G1
def dLst (ta : DA) : DE := fun E G k => ta E G fun ds E1 G1 => ds.length ≤ sizeLine ∧ k (.fr ds) E1 G1
theorem le_tup {es : List Expr} {ta : DA} {x1 pos} (h : LA X B es ta) : LE X B (.Tuple es x1 pos) (dTup ta) :=
  ⟨pe_imp (pe_tup h.pa) fun σ H Q ⟨pn, F, E, G, k, S, ht, hk⟩ => ⟨pn, F, E, G, _, S, ht, fun ds E1 G1 ⟨hz, h1⟩ vs F1 H1 S1 s1 r1 => by
    refine ⟨by rw [← r1.length]; exact hz, fun p np => ?_⟩
    obtain ⟨S2, s2⟩ := S1.newF (o := .tup vs) np
    exact hk _ _ _ h1 _ _ _ S2 (s1.trans s2) (.tup upd_same (RepL.mono s2 _ _ r1))⟩⟩
theorem le_lst {es : List Expr} {ta : DA} {pos} (h : LA X B es ta) : LE X B (.List es pos) (dLst ta) :=
  ⟨pe_imp (pe_lst h.pa) fun σ H Q ⟨pn, F, E, G, k, S, ht, hk⟩ => ⟨pn, F, E, G, _, S, ht, fun ds E1 G1 ⟨hz, h1⟩ vs F1 H1 S1 s1 r1 => by
    refine ⟨by rw [← r1.length]; exact hz, fun p np => ?_⟩
    obtain ⟨f, no⟩ := S1.newFre np r1
    exact hk _ _ _ h1 _ _ _ (S1.newU np) s1 ⟨p, rfl, f, no⟩⟩⟩

/-! ### slices -/
abbrev DO := Env3 → Reg → (Option Int → Env3 → Reg → Prop) → Prop
def LiftO (K : PySem.W.Frag) (B : Base3) (t : DO) : TO := fun σ H Q => ∃ pn F E G k, St3 K B pn F H σ E G ∧ t E G k ∧ ∀ o E' G', k o E' G' → ∀ F' H', St3 K B pn F' H' σ E' G' → Same F F' → Q o H'
structure LO (X : Cx) (B : Base3) (e : Option Expr) (t : DO) : Prop where
  po : PO X e (LiftO X.K B t)
theorem po_imp {e : Option Expr} {t t' : TO} (h : PO X e t) (hi : ∀ σ H Q, t' σ H Q → t σ H Q) : PO X e t' := ⟨fun pins s σ H Q I hw => h.run pins s σ H Q I (hi σ H Q hw)⟩
def dNoPart : DO := fun E G k => k none E G
def dPart (ta : DE) : DO := fun E G k => ta E G fun r E1 G1 => ∃ i, r = .val (.int i) ∧ k (some i) E1 G1
theorem lo_none : LO X B none dNoPart := ⟨po_imp po_none fun σ H Q ⟨pn, F, E, G, k, S, ht, hk⟩ => hk _ _ _ ht F H S (Same.refl F)⟩
theorem lo_some {e : Expr} {te : DE} (h : LE X B e te) : LO X B (some e) (dPart te) :=
  ⟨po_imp (po_some h.pe) fun σ H Q ⟨pn, F, E, G, k, S, ht, hk⟩ => ⟨pn, F, E, G, _, S, ht, fun r E1 G1 ⟨i, e1, h1⟩ v F1 H1 S1 s1 r1 => by
    subst e1
    cases r1
    exact ⟨i, rfl, hk _ _ _ h1 F1 H1 S1 s1⟩⟩⟩
def RSl3 (X : Cx) (B : Base3) (r : V → Option Int → Option Int → Hp → VK → Prop) (rd : D → Option Int → Option Int → (Res → Prop) → Prop) : Prop :=
  ∀ pn F H σ E G x d lo hi k Q, St3 X.K B pn F H σ E G → RepH X.K F H d x → rd d lo hi k →
    (∀ res, k res → ∀ v F' H', St3 X.K B pn F' H' σ E G → Same F F' → RepR X.K B pn F' H' σ E G res v → Q v H') → r x lo hi H Q
def dSl (rd : D → Option Int → Option Int → (Res → Prop) → Prop) (te : DE) (tl th : DO) : DE := fun E G k => te E G fun x E1 G1 => tl E1 G1 fun lo E2 G2 => th E2 G2 fun hi E3 G3 =>
  ∃ d, x.fz.get E3 = some d ∧ rd d lo hi fun r => k r E3 G3
theorem le_slice {r : V → Option Int → Option Int → Hp → VK → Prop} {rd : D → Option Int → Option Int → (Res → Prop) → Prop} {e : Expr} {lo hi : Option Expr} {te : DE} {tl th : DO} {p2 pos : Pos} (ho : SlR X r) (hr : RSl3 X B r rd) (he : LE X B e te) (hl : LO X B lo tl) (hh : LO X B hi th) :
    LE X B (.Subscript e (.Slice lo hi none p2) pos) (dSl rd te tl th) :=
  ⟨pe_imp (pe_slice ho he.pe hl.po hh.po) fun σ H Q ⟨pn, F, E, G, k, S, ht, hk⟩ => ⟨pn, F, E, G, _, S, ht, fun x E1 G1 h1 v F1 H1 S1 s1 r1 => by
    obtain ⟨F1', S1', s1', r1'⟩ := S1.fz r1
    refine ⟨pn, F1', E1, G1, _, S1', h1, fun lo E2 G2 h2 F2 H2 S2 s2 => ?_⟩
    refine ⟨pn, F2, E2, G2, _, S2, h2, fun hi E3 G3 h3 F3 H3 S3 s3 => ?_⟩
    obtain ⟨d, hd, h4⟩ := h3
    exact hr pn F3 H3 σ E3 G3 v d lo hi _ Q S3 (S3.getH (r1'.onward (s2.trans s3)) hd) h4 fun res hres u F4 H4 S4 s4 r4 => hk _ _ _ hres u F4 H4 S4 ((s1.trans s1').trans ((s2.trans s3).trans s4)) r4⟩⟩

/-! ### calls of built-ins -/
def RCall (X : Cx) (B : Base3) (r : List V → Hp → VK → Prop) (rd : Reg → List D → (Res → Prop) → Prop) : Prop :=
  ∀ pn F H σ E G vs ds k Q, St3 X.K B pn F H σ E G → RepHL X.K F H ds vs → rd G ds k →
    (∀ res, k res → ∀ v F' H', St3 X.K B pn F' H' σ E G → Same F F' → RepR X.K B pn F' H' σ E G res v → Q v H') → r vs H Q
def dCB (rd : Reg → List D → (Res → Prop) → Prop) (ta : DA) : DE := fun E G k => ta E G fun ds E1 G1 => rd G1 ds fun r => k r E1 G1
theorem le_cb {r : List V → Hp → VK → Prop} {rd : Reg → List D → (Res → Prop) → Prop} {es : List Expr} {e : Expr} {ta : DA} (h : PE X e (tCB r (LiftP X.K B ta))) (hr : RCall X B r rd) : LE X B e (dCB rd ta) :=
  ⟨pe_imp h fun σ H Q ⟨pn, F, E, G, k, S, ht, hk⟩ => ⟨pn, F, E, G, _, S, ht, fun ds E1 G1 h1 vs F1 H1 S1 s1 r1 =>
    hr pn F1 H1 σ E1 G1 vs ds _ Q S1 r1 h1 fun res hres u F4 H4 S4 s4 r4 => hk _ _ _ hres u F4 H4 S4 (s1.trans s4) r4⟩⟩
theorem le_callB {r : List V → Hp → VK → Prop} {rd : Reg → List D → (Res → Prop) → Prop} {x : Str} {id : String} {e : Expr} {es : List Expr} {ta : DA} {p pos : Pos} (hc : CallR X (.builtin id) r) (hr : RCall X B r rd) (hg : Gl X x) (hm : X.mg x = none) (hv : bootBuiltins x = some (.builtin id)) (ha : LP X B (e :: es) ta) (hn : x ≠ "__name__" := by decide) (hdb : (x == ("__debug__" : Str)) = false := by decide)
    (he : starEach (e :: es) X.env = (false, eval e X.env) :: starEach es X.env := by rfl) (hpl : (backTo pos (starEach es X.env)).any (·.1) = false := by rfl) : LE X B (.Call (.Name x p) (e :: es) [] pos) (dCB rd ta) :=
  le_cb (es := es) (pe_callB hc hg hm hv ha.pa hn hdb he hpl) hr
theorem le_callTy {r : List V → Hp → VK → Prop} {rd : Reg → List D → (Res → Prop) → Prop} {x : Str} {T : String} {e : Expr} {es : List Expr} {ta : DA} {p pos : Pos} (hc : CallR X (.type T) r) (hr : RCall X B r rd) (hg : Gl X x) (hm : X.mg x = none) (hv : bootBuiltins x = some (.type T)) (ha : LP X B (e :: es) ta) (hn : x ≠ "__name__" := by decide) (hdb : (x == ("__debug__" : Str)) = false := by decide)
    (he : starEach (e :: es) X.env = (false, eval e X.env) :: starEach es X.env := by rfl) (hpl : (backTo pos (starEach es X.env)).any (·.1) = false := by rfl) : LE X B (.Call (.Name x p) (e :: es) [] pos) (dCB rd ta) :=
  le_cb (es := es) (pe_callTy hc hg hm hv ha.pa hn hdb he hpl) hr
end

/-! ### promises -/
abbrev DSp := List D → Reg → (Res → Reg → Prop) → (Exc3 → Reg → Prop) → Prop
structure After (K : PySem.W.Frag) (F H : Hp) (G : Reg) (F' H' : Hp) (G' : Reg) : Prop where
  w : Wld K F' H' G'
  keepF : Same F F'
  keepH : ∀ (a : Addr) (o : HO), H a = some o → a ∉ G.map (·.1) → H' a = some o
  unfr : ∀ (a : Addr) (o : HO), H a = some o → isTp o = false → F a = none → F' a = none
  regs : ∀ a, a ∈ G'.map (·.1) → a ∈ G.map (·.1) ∨ H a = none
  regk : ∀ a, a ∈ G.map (·.1) → a ∈ G'.map (·.1)
/-- what comes back -/
def RetV (K : PySem.W.Frag) (H F' H' : Hp) (G' : Reg) : Res → V → Prop
  | .val d, v => Rep K F' d v
  | .fr ds, v => ∃ a xs, v = .ref a ∧ F' a = none ∧ H a = none ∧ a ∉ G'.map (·.1) ∧ H' a = some (.lst xs) ∧ RepL K F' ds xs
  | .frD d, v => ∃ a o, v = .ref a ∧ F' a = none ∧ H a = none ∧ a ∉ G'.map (·.1) ∧ H' a = some o ∧ RepB K F' d o
  | .sl _, _ => False
def RepX (K : PySem.W.Frag) (F : Hp) (x : Exc3) (cls : Value) (dd : Option Addr) : Prop := (∃ C, ClsN K x.1 C ∧ cls = .ref C) ∧ match x.2 with
  | none => True
  | some (f, d) => ∃ a v, dd = some a ∧ F a = some (.xd [(f, v)]) ∧ Rep K F d v
def LSp (K : PySem.W.Frag) (sp : DSp) : Sp := fun vs H Q E => ∃ F G ds k kx, Wld K F H G ∧ RepL K F ds vs ∧ sp ds G k kx ∧
  (∀ r G', k r G' → ∀ v F' H', After K F H G F' H' G' → RetV K H F' H' G' r v → Q v H') ∧
  (∀ x G', kx x G' → ∀ cls dd F' H', After K F H G F' H' G' → RepX K F' x cls dd → E cls dd H')
/-- what this frame wishes of an exception -/
def WOk (X : Cx) (B : Base3) (dw : DW) : Prop := ∃ W : WX, Takes X W ∧ ∀ pn F H σ E G x cls dd, St3 X.K B pn F H σ E G → RepX X.K F x cls dd → dw x E G → W cls dd σ H
/-- .. whatever the slots hold -/
def WOkF (X : Cx) (B : Base3) (dw : DW) : Prop := ∃ W : XK, Takes X (fun cls dd _ H => W cls dd H) ∧ ∀ pn F H σ E G x cls dd, St3 X.K B pn F H σ E G → RepX X.K F x cls dd → dw x E G → W cls dd H
theorem WOkF.ok {X : Cx} {B : Base3} {dw : DW} (h : WOkF X B dw) : WOk X B dw := by
  obtain ⟨W, tk, hW⟩ := h
  exact ⟨fun cls dd _ H => W cls dd H, tk, fun pn F H σ E G x cls dd S rx hx => hW pn F H σ E G x cls dd S rx hx⟩
/-- what was not there as the def began was not locked -/
def Lk (X : Cx) (B : Base3) : Prop := ∀ d, B.H d = none → ∀ o u, X.H_0 d ≠ some (.frz o u)
structure WOkL (X : Cx) (B : Base3) (dw : DW) : Prop where
  f : WOkF X B dw
  lk : Lk X B
theorem WOkL.ok {X : Cx} {B : Base3} {dw : DW} (h : WOkL X B dw) : WOk X B dw := h.f.ok
instance {X : Cx} {B : Base3} {dw : DW} : CoeOut (WOkL X B dw) (WOkF X B dw) := ⟨WOkL.f⟩
theorem lk_self {X : Cx} {F : Hp} {G : List Addr} {n : Addr} : Lk X ⟨F, X.H_0, G, n⟩ := fun d h o u e => by
  have h : X.H_0 d = none := h
  rw [h] at e; cases e
section
variable {X : Cx} {B : Base3}
theorem St3.wldAfter {K : PySem.W.Frag} {pn : Pend} {F H F' H' : Hp} {σ : L2.St} {E : Env3} {G G' : Reg} (S : St3 K B pn F H σ E G) (A : After K F H G F' H' G') : St3 K B pn F' H' σ E G' := by
  have hG : ∀ a o, B.H a = some o → a ∉ B.G → a ∉ G.map (·.1) := fun a o h hn hm => by
    rcases S.regs a hm with z | z
    · exact hn z
    · rw [h] at z; cases z
  have hHs : ∀ a o, B.H a = some o → isTp o = false → ∃ o', H a = some o' ∧ isTp o' = false := fun a o h ht => by
    by_cases hg : a ∈ B.G
    · obtain ⟨ds, hm⟩ := regMem (S.regk a hg)
      obtain ⟨_, o', h3, h4⟩ := S.w.reg a ds hm
      exact ⟨o', h3, h4.nt⟩
    · exact ⟨o, S.keepH a o h hg, ht⟩
  refine ⟨A.w, fun a o h => A.keepF a o (S.keepF a o h), fun a o h hn => A.keepH a o (S.keepH a o h hn) (hG a o h hn), fun a o h ht h2 => ?_, fun a h => ?_, fun a h => A.regk a (S.regk a h), S.len, fun i d h => ?_, fun i s d h ho => ?_, S.ownd, fun a xs h => ?_, S.pnd, fun nm fs h => (S.news nm fs h).mono A.keepF⟩
  · obtain ⟨o', e, ht'⟩ := hHs a o h ht
    exact A.unfr a o' e ht' (S.unfr a o h ht h2)
  · rcases A.regs a h with z | z
    · exact S.regs a z
    · exact .inr (S.baseNone z)
  · obtain ⟨v, h1, h2⟩ := S.slot i d h
    exact ⟨v, h1, Rep.mono A.keepF _ _ h2⟩
  · obtain ⟨a, h1, f⟩ := S.own i s d h ho
    obtain ⟨xs, e, r⟩ := f.ex
    refine ⟨a, h1, ⟨A.unfr a _ e r.dat.nt f.nF, f.nB, fun hm => ?_, f.nP, xs, A.keepH a _ e f.nG, RepB.mono A.keepF r⟩⟩
    rcases A.regs a hm with z | z
    · exact f.nG z
    · rw [e] at z; cases z
  · obtain ⟨h1, h2, h3, h4⟩ := S.pend a xs h
    refine ⟨A.keepH a _ h1 h4, A.unfr a _ h1 (S.pnd.2 _ h) h2, h3, fun hm => ?_⟩
    rcases A.regs a hm with z | z
    · exact h4 z
    · rw [h1] at z; cases z
/-- what a call gives, in the caller's eyes -/
theorem St3.retR {K : PySem.W.Frag} {pn : Pend} {F H F' H' : Hp} {σ : L2.St} {E : Env3} {G G' : Reg} (S : St3 K B pn F H σ E G) {r : Res} {v : V} (h : RetV K H F' H' G' r v) : RepR K B pn F' H' σ E G' r v := by
  cases r with
  | val d => exact h
  | sl i => exact h.elim
  | fr ds =>
    obtain ⟨a, xs, rfl, h1, h2, h3, h4, h5⟩ := h
    refine ⟨a, rfl, ⟨h1, S.baseNone h2, h3, fun hm => ?_, xs, h4, h5⟩, S.newNo h2⟩
    obtain ⟨q, hq, rfl⟩ := List.mem_map.mp hm
    have := (S.pend q.1 q.2 hq).1
    rw [h2] at this; cases this
  | frD d =>
    obtain ⟨a, o, rfl, h1, h2, h3, h4, h5⟩ := h
    refine ⟨a, rfl, ⟨h1, S.baseNone h2, h3, fun hm => ?_, o, h4, h5⟩, S.newNo h2⟩
    obtain ⟨q, hq, rfl⟩ := List.mem_map.mp hm
    have := (S.pend q.1 q.2 hq).1
    rw [h2] at this; cases this
def dCall (sp : DSp) (dw : DW) (ta : DA) : DE := fun E G k => ta E G fun ds E1 G1 => sp ds G1 (fun r G2 => k r E1 G2) (fun x G2 => dw x E1 G2)
theorem le_call {sp : DSp} {dw : DW} {ta : DA} {j : Nat} {f : Addr} {fd : FuncData} {ps : List Str} {x : Str} {p pos : Pos} {e : Expr} {es : List Expr} (Fn : FnOk X.prog X.w X.K X.mg X.base (L2.CX X.prog X.w) j f fd ps (LSp X.K sp)) (hr : Room j X.A) (wk : WOk X B dw) (hg : Gl X x) (hm : X.mg x = some (.ref f)) (hk : PySem.W.keepIn X.K (.ref f) = true) (hb : Binds X.K fd ps [])
    (ha : LA X B (e :: es) ta) (hdb : (x == ("__debug__" : Str)) = false := by decide) (he : starEach (e :: es) X.env = (false, eval e X.env) :: starEach es X.env := by rfl) (hpl : (backTo pos (starEach es X.env)).any (·.1) = false := by rfl) :
    LE X B (.Call (.Name x p) (e :: es) [] pos) (dCall sp dw ta) := by
  obtain ⟨W, tk, hW⟩ := wk
  refine ⟨pe_imp (pe_callS Fn hr hg hm hk hb (fun σ => passAt tk σ) ha.pa hdb he hpl) fun σ H Q ⟨pn, F, E, G, k, S, ht, hk⟩ => ⟨pn, F, E, G, _, S, ht, fun ds E1 G1 h1 vs F1 H1 S1 s1 r1 => ?_⟩⟩
  refine ⟨F1, G1, ds, _, _, S1.w, r1, h1, fun r G' h2 v F2 H2 A r2 => ?_, fun x G' h2 cls dd F2 H2 A r2 => ?_⟩
  · exact hk _ _ _ h2 v F2 H2 (S1.wldAfter A) (s1.trans A.keepF) (S1.retR r2)
  · exact hW pn F2 H2 σ E1 G' x cls dd (S1.wldAfter A) r2 h2
/-- no exception is wished for -/
def dw0 : DW := fun _ _ _ => False
theorem takesF {X : Cx} : Takes X (fun _ _ _ _ => False) := fun _ _ x => by
  obtain ⟨_, _, _, _, _, _, _, _, _, _, _, _, _, _, _, _, z⟩ := x
  exact z.elim
theorem wok0 : WOk X B dw0 := ⟨fun _ _ _ _ => False, takesF, fun _ _ _ _ _ _ _ _ _ _ _ h => h⟩
end
end L3

set_option Elab.async false
set_option maxRecDepth 100000
set_option maxHeartbeats 4000000
/-! L3, part d: statements, loops, comprehensions, defs. -/
namespace L3
open PySem PySem.Spec PyProof.Rows L2

structure Ends3 where
  nx : Env3 → Reg → Prop
  rt : Res → Reg → Prop
  bk : Env3 → Reg → Prop := fun _ _ => False
  ct : Env3 → Reg → Prop := fun _ _ => False
abbrev DSt := Ends3 → Env3 → Reg → Prop
def RetR (K : PySem.W.Frag) (B : Base3) (pn : Pend) (F H : Hp) (G : Reg) : Res → V → Prop
  | .val d, v => Rep K F d v
  | .fr ds, v => ∃ a, v = .ref a ∧ Fre K B pn F H G a ds
  | .frD d, v => ∃ a, v = .ref a ∧ FreX K B pn F H G a d
  | .sl _, _ => False
structure EndsOk (K : PySem.W.Frag) (B : Base3) (F : Hp) (D3 : Ends3) (D : Ends) : Prop where
  nx : ∀ {pn : Pend} E' G', D3.nx E' G' → ∀ σ' F' H', St3 K B pn F' H' σ' E' G' → Same F F' → D.nx σ' H'
  rt : ∀ {pn : Pend} r G', D3.rt r G' → ∀ v F' H' σ' E', St3 K B pn F' H' σ' E' G' → Same F F' → RetR K B pn F' H' G' r v → D.rt v H'
  bk : ∀ {pn : Pend} E' G', D3.bk E' G' → ∀ σ' F' H', St3 K B pn F' H' σ' E' G' → Same F F' → D.bk σ' H'
  ct : ∀ {pn : Pend} E' G', D3.ct E' G' → ∀ σ' F' H', St3 K B pn F' H' σ' E' G' → Same F F' → D.ct σ' H'
theorem EndsOk.mono {K : PySem.W.Frag} {B : Base3} {F F' : Hp} {D3 : Ends3} {D : Ends} (h : EndsOk K B F D3 D) (s : Same F F') : EndsOk K B F' D3 D :=
  ⟨fun E' G' q σ' F2 H' S s' => h.nx E' G' q σ' F2 H' S (s.trans s'), fun r G' q v F2 H' σ' E' S s' => h.rt r G' q v F2 H' σ' E' S (s.trans s'), fun E' G' q σ' F2 H' S s' => h.bk E' G' q σ' F2 H' S (s.trans s'), fun E' G' q σ' F2 H' S s' => h.ct E' G' q σ' F2 H' S (s.trans s')⟩
def LiftS (K : PySem.W.Frag) (B : Base3) (ts : DSt) : TS := fun D σ H => ∃ pn F E G D3, St3 K B pn F H σ E G ∧ ts D3 E G ∧ EndsOk K B F D3 D
structure LS (X : Cx) (B : Base3) (st : Stmt) (ts : DSt) : Prop where
  ps : PS X st (LiftS X.K B ts)
structure LSs (X : Cx) (B : Base3) (st : List Stmt) (ts : DSt) : Prop where
  pss : PSs X st (LiftS X.K B ts)

def dNext : DSt := fun D E G => D.nx E G
def dSeq (t u : DSt) : DSt := fun D E G => t { D with nx := u D } E G
def dIfS (c : DT) (t u : DSt) : DSt := fun D E G => c E G fun b E1 G1 => if b = true then t D E1 G1 else u D E1 G1
def dDrop (te : DE) : DSt := fun D E G => te E G fun _ E1 G1 => D.nx E1 G1
def Res.out (r : Res) (E : Env3) : Option Res := match r with
  | .val d => some (.val d)
  | .fr ds => some (.fr ds)
  | .frD d => some (.frD d)
  | .sl i => match E[i]? with
    | some (Sl3.val d) => some (.val d)
    | some (Sl3.own ds) => some (.fr ds)
    | some (Sl3.ownD d) => some (.frD d)
    | _ => none
def dRet (te : DE) : DSt := fun D E G => te E G fun r E1 G1 => ∃ r', r.out E1 = some r' ∧ D.rt r' G1
def dRetN : DSt := fun D _ G => D.rt (.val .non) G
def dBreak : DSt := fun D E G => D.bk E G
def dCont : DSt := fun D E G => D.ct E G
def dNever : DSt := fun _ _ _ => False
/-- what a slot takes -/
def Res.put (r : Res) (i : Nat) (E : Env3) : Option Env3 := match r with
  | .val d => some (E.set i (Sl3.val d))
  | .fr ds => some (E.set i (Sl3.own ds))
  | .frD d => some (E.set i (Sl3.ownD d))
  | .sl j => match E[j]? with
    | some (Sl3.val d) => some (E.set i (Sl3.val d))
    | some (Sl3.own ds) => some ((E.set j (Sl3.val (.lst ds))).set i (Sl3.val (.lst ds)))
    | some (Sl3.ownD d) => some ((E.set j (Sl3.val d)).set i (Sl3.val d))
    | _ => none
def dSet (i : Nat) (te : DE) : DSt := fun D E G => te E G fun r E1 G1 => i < E1.length ∧ ∃ E2, r.put i E1 = some E2 ∧ D.nx E2 G1
section
variable {K : PySem.W.Frag} {B : Base3} {pn : Pend} {F H : Hp} {σ : L2.St} {E : Env3} {G : Reg}
theorem St3.put (S : St3 K B pn F H σ E G) {r : Res} {v : V} {i : Nat} {E2 : Env3} (hi : i < E.length) (hr : RepR K B pn F H σ E G r v) (h : r.put i E = some E2) : ∃ F', St3 K B pn F' H (σ.set i (some v)) E2 G ∧ Same F F' := by
  rw [S.len] at hi
  cases r with
  | val d => cases h; exact ⟨F, S.setVal hi hr, Same.refl F⟩
  | fr ds =>
    cases h
    obtain ⟨a, rfl, f, no⟩ := hr
    exact ⟨F, S.setOwn hi f no, Same.refl F⟩
  | frD d =>
    cases h
    obtain ⟨a, rfl, f, no⟩ := hr
    exact ⟨F, S.setOwnX hi f rfl no, Same.refl F⟩
  | sl j =>
    have hr' : σ[j]? = some (some v) := hr
    unfold Res.put at h
    dsimp only at h
    split at h
    · rename_i d q
      cases h
      obtain ⟨v', h1, h2⟩ := S.slot j d q
      rw [hr'] at h1
      cases h1
      exact ⟨F, S.setVal hi h2, Same.refl F⟩
    · rename_i ds q
      cases h
      obtain ⟨F', S', s', r'⟩ := S.freezeSlot q hr'
      exact ⟨F', S'.setVal hi r', s'⟩
    · rename_i d q
      cases h
      obtain ⟨F', S', s', r'⟩ := S.freezeSlotX q rfl hr'
      exact ⟨F', S'.setVal hi r', s'⟩
    · cases h
theorem St3.outR (S : St3 K B pn F H σ E G) {r r' : Res} {v : V} (hr : RepR K B pn F H σ E G r v) (h : r.out E = some r') : RetR K B pn F H G r' v := by
  cases r with
  | val d => cases h; exact hr
  | fr ds =>
    cases h
    obtain ⟨a, rfl, f, no⟩ := hr
    exact ⟨a, rfl, f⟩
  | frD d =>
    cases h
    obtain ⟨a, rfl, f, no⟩ := hr
    exact ⟨a, rfl, f⟩
  | sl j =>
    have hr' : σ[j]? = some (some v) := hr
    unfold Res.out at h
    dsimp only at h
    split at h
    · rename_i d q
      cases h
      obtain ⟨v', h1, h2⟩ := S.slot j d q
      rw [hr'] at h1
      cases h1
      exact h2
    · rename_i ds q
      cases h
      obtain ⟨a, h1, f⟩ := S.ownL j ds q
      rw [hr'] at h1
      cases h1
      exact ⟨a, rfl, f⟩
    · rename_i d q
      cases h
      obtain ⟨a, h1, f⟩ := S.own j _ _ q rfl
      rw [hr'] at h1
      cases h1
      exact ⟨a, rfl, f⟩
    · cases h
/-- a free list becomes a register -/
theorem St3.promote (S : St3 K B pn F H σ E G) {a : Addr} {ds : List D} (f : Fre K B pn F H G a ds) (no : NoOwn σ E a) : St3 K B pn F H σ E ((a, ds) :: G) := by
  obtain ⟨xs, e, r⟩ := f.ex
  refine ⟨⟨S.w.sub, fun b es h => ?_, by rw [List.map_cons]; exact List.nodup_cons.mpr ⟨f.nG, S.w.nd⟩⟩, S.keepF, S.keepH, S.unfr, fun b h => ?_, fun b h => by rw [List.map_cons]; exact List.mem_cons_of_mem _ (S.regk b h), S.len, S.slot, fun i s d h ho => ?_, S.ownd, fun b ys h => ?_, S.pnd, S.news⟩
  · rcases List.mem_cons.mp h with h | h
    · cases h; exact ⟨f.nF, _, e, .lst r⟩
    · exact S.w.reg b es h
  · rw [List.map_cons] at h
    rcases List.mem_cons.mp h with h | h
    · have h' : b = a := h
      rw [h']; exact .inr f.nB
    · exact S.regs b h
  · obtain ⟨b, e1, g⟩ := S.own i s d h ho
    refine ⟨b, e1, ⟨g.nF, g.nB, ?_, g.nP, g.ex⟩⟩
    rw [List.map_cons]
    intro z
    rcases List.mem_cons.mp z with z | z
    · have z' : b = a := z
      exact no i s d h ho (by rw [← z']; exact e1)
    · exact g.nG z
  · obtain ⟨h1, h2, h3, h4⟩ := S.pend b ys h
    refine ⟨h1, h2, h3, ?_⟩
    rw [List.map_cons]
    intro z
    rcases List.mem_cons.mp z with z | z
    · have z' : b = a := z
      exact f.nP (by rw [← z']; exact List.mem_map.mpr ⟨_, h, rfl⟩)
    · exact h4 z
end
section
variable {X : Cx} {B : Base3}
theorem lss_nil : LSs X B [] dNext := ⟨pss_imp pss_nil fun D σ H ⟨pn, F, E, G, D3, S, h, ok⟩ => ok.nx E G h σ F H S (Same.refl F)⟩
theorem lss_cons {st : Stmt} {rest : List Stmt} {t u : DSt} (h1 : LS X B st t) (h2 : LSs X B rest u) : LSs X B (st :: rest) (dSeq t u) :=
  ⟨pss_imp (pss_cons h1.ps h2.pss) fun D σ H ⟨pn, F, E, G, D3, S, h, ok⟩ => ⟨pn, F, E, G, { D3 with nx := u D3 }, S, h, ⟨fun E' G' q σ' F' H' S' s' => ⟨_, F', E', G', D3, S', q, ok.mono s'⟩, ok.rt, ok.bk, ok.ct⟩⟩⟩
theorem lss_one {st : Stmt} {t : DSt} (h1 : LS X B st t) : LSs X B [st] t := ⟨pss_one h1.ps⟩
theorem ls_never {st : Stmt} : LS X B st dNever := ⟨ps_imp ps_never fun D σ H ⟨pn, F, E, G, D3, S, h, ok⟩ => h⟩
theorem ls_if {c : Expr} {a b : List Stmt} {tc : DT} {t u : DSt} {pos} (hc : LT X B c tc) (ha : LSs X B a t) (hb : LSs X B b u) : LS X B (.If c a b pos) (dIfS tc t u) :=
  ⟨ps_imp (ps_if hc.pt ha.pss hb.pss) fun D σ H ⟨pn, F, E, G, D3, S, h, ok⟩ => ⟨pn, F, E, G, _, S, h, fun b E1 G1 h1 F1 H1 S1 s1 => by
    cases b with
    | true => exact ⟨pn, F1, E1, G1, D3, S1, h1, ok.mono s1⟩
    | false => exact ⟨pn, F1, E1, G1, D3, S1, h1, ok.mono s1⟩⟩⟩
theorem ls_expr {e : Expr} {te : DE} {pos : Pos} (he : LE X B e te) (hs : swapsWith e none pos.line X.env = pure false := by rfl) : LS X B (.Expr e pos) (dDrop te) :=
  ⟨ps_imp (ps_expr he.pe hs) fun D σ H ⟨pn, F, E, G, D3, S, h, ok⟩ => ⟨pn, F, E, G, _, S, h, fun r E1 G1 h1 v F1 H1 S1 s1 r1 => ok.nx E1 G1 h1 σ F1 H1 S1 s1⟩⟩
theorem ls_ret {e : Expr} {te : DE} {pos} (he : LE X B e te) : LS X B (.Return (some e) pos) (dRet te) :=
  ⟨ps_imp (ps_ret he.pe) fun D σ H ⟨pn, F, E, G, D3, S, h, ok⟩ => ⟨pn, F, E, G, _, S, h, fun r E1 G1 ⟨r', hr', h1⟩ v F1 H1 S1 s1 r1 => ok.rt r' G1 h1 v F1 H1 σ E1 S1 s1 (S1.outR r1 hr')⟩⟩
theorem ls_set {i : Nat} {x : Str} {e : Expr} {te : DE} {pos pos' : Pos} (hN : X.N.Nodup) (hi : X.N[i]? = some x) (hx : Loc X.env.scope x) (he : LE X B e te) (hs : swapsWith e (some (.Name x pos')) pos.line X.env = pure false := by rfl) (hf : X.fn x = true ∨ X.env.scope.names.lookup x = some .local := by first | exact .inl rfl | exact .inr rfl | assumption) :
    LS X B (.Assign [.Name x pos'] e pos) (dSet i te) :=
  ⟨ps_imp (ps_set hN hi hx he.pe hs hf) fun D σ H ⟨pn, F, E, G, D3, S, h, ok⟩ => ⟨pn, F, E, G, _, S, h, fun r E1 G1 ⟨hi, E2, hp, h1⟩ v F1 H1 S1 s1 r1 => by
    obtain ⟨F2, S2, s2⟩ := S1.put hi r1 hp
    exact ok.nx E2 G1 h1 _ F2 H1 S2 (s1.trans s2)⟩⟩
/-- name = a free list, which becomes a register -/
def dSetReg (i : Nat) (te : DE) : DSt := fun D E G => te E G fun r E1 G1 => i < E1.length ∧ ∃ ds, r = .fr ds ∧ ∀ a, D.nx (E1.set i (Sl3.val (.ref a))) ((a, ds) :: G1)
theorem ls_setReg {i : Nat} {x : Str} {e : Expr} {te : DE} {pos pos' : Pos} (hN : X.N.Nodup) (hi : X.N[i]? = some x) (hx : Loc X.env.scope x) (he : LE X B e te) (hs : swapsWith e (some (.Name x pos')) pos.line X.env = pure false := by rfl) (hf : X.fn x = true ∨ X.env.scope.names.lookup x = some .local := by first | exact .inl rfl | exact .inr rfl | assumption) :
    LS X B (.Assign [.Name x pos'] e pos) (dSetReg i te) :=
  ⟨ps_imp (ps_set hN hi hx he.pe hs hf) fun D σ H ⟨pn, F, E, G, D3, S, h, ok⟩ => ⟨pn, F, E, G, _, S, h, fun r E1 G1 ⟨hi, ds, hp, h1⟩ v F1 H1 S1 s1 r1 => by
    subst hp
    obtain ⟨a, rfl, f, no⟩ := r1
    have S2 := S1.promote f no
    exact ok.nx _ _ (h1 a) _ F1 H1 (S2.setVal (by rw [← S1.len]; exact hi) (.ref a)) s1⟩⟩
/-- name op= e -/
def dAug (i : Nat) (rd : Reg → D → D → (Res → Prop) → Prop) (te : DE) : DSt := fun D E G => ∃ d, E[i]? = some (Sl3.val d) ∧ te E G fun y E1 G1 => E1[i]? = some (Sl3.val d) ∧ ∃ e, y.get E1 = some e ∧
  rd G1 d e fun r => ∃ z, r = .val z ∧ D.nx (E1.set i (Sl3.val z)) G1
theorem ls_aug {i : Nat} {x : Str} {e : Expr} {te : DE} {op : Operator} {ti : TIp} {rd : Reg → D → D → (Res → Prop) → Prop} {pos pos' : Pos} (hN : X.N.Nodup) (hi : X.N[i]? = some x) (hx : Loc X.env.scope x) (he : LE X B e te) (ho : PIp X op ti) (hr : ROp X B ti rd) (hf : X.fn x = true ∨ X.env.scope.names.lookup x = some .local := by first | exact .inl rfl | exact .inr rfl | assumption) :
    LS X B (.AugAssign (.Name x pos') op e pos) (dAug i rd te) :=
  ⟨ps_imp (ps_aug hN hi hx he.pe ho hf) fun D σ H ⟨pn, F, E, G, D3, S, h, ok⟩ => by
    obtain ⟨d, hd, h⟩ := h
    obtain ⟨v, hv, rv⟩ := S.slot i d hd
    refine ⟨v, hv, pn, F, E, G, _, S, h, fun y E1 G1 ⟨h0, e', he', h1⟩ u F1 H1 S1 s1 r1 => ?_⟩
    refine hr pn F1 H1 σ E1 G1 v u d e' _ _ S1 (.inl (Rep.mono s1 _ _ rv)) (S1.getH r1 he') h1 fun res hres w F2 H2 S2 s2 r2 => ?_
    obtain ⟨z, e1, h2⟩ := hres
    subst e1
    exact ok.nx _ _ h2 _ F2 H2 (S2.setVal (by rw [← S2.len]; exact lt_of_look h0) r2) (s1.trans s2)⟩

/-! ### targets -/
abbrev DG := D → Env3 → Reg → (Env3 → Reg → Prop) → Prop
def LiftG (K : PySem.W.Frag) (B : Base3) (vs : List Nat) (g : DG) : TG := fun v σ H Q => ∃ pn F E G k d, St3 K B pn F H σ E G ∧ Rep K F d v ∧ g d E G k ∧
  ∀ E' G', k E' G' → ∀ σ' F' H', St3 K B pn F' H' σ' E' G' → Same F F' → wipe σ' vs = wipe σ vs → Q σ' H'
structure LG (X : Cx) (B : Base3) (vs : List Nat) (tg : Expr) (g : DG) : Prop where
  pg : PG X tg (LiftG X.K B vs g)
theorem pg_imp {tg : Expr} {t t' : TG} (h : PG X tg t) (hi : ∀ v σ H Q, t' v σ H Q → t v σ H Q) : PG X tg t' := ⟨fun pins s σ H v u Q I r hw => h.run pins s σ H v u Q I r (hi v σ H Q hw)⟩
def gNm (i : Nat) : DG := fun d E G k => i < E.length ∧ k (E.set i (Sl3.val d)) G
theorem wipe_get {σ : L2.St} : ∀ {vs : List Nat} {j : Nat}, (wipe σ vs)[j]? = if j ∈ vs then (σ[j]?).map (fun _ => none) else σ[j]?
  | [], j => by simp [wipe]
  | v :: vs, j => by
    unfold wipe
    by_cases q : v = j
    · subst q
      rw [if_pos List.mem_cons_self]
      by_cases hv : v < σ.length
      · rw [List.getElem?_set_self (by rw [wipe_length]; exact hv), List.getElem?_eq_getElem hv]; rfl
      · rw [List.getElem?_eq_none (by rw [List.length_set, wipe_length]; omega), List.getElem?_eq_none (by omega)]; rfl
    · rw [List.getElem?_set_ne q, wipe_get]
      by_cases h : j ∈ vs
      · rw [if_pos h, if_pos (List.mem_cons_of_mem _ h)]
      · rw [if_neg h, if_neg (fun z => by rcases List.mem_cons.mp z with z | z; exact q z.symm; exact h z)]
theorem wipe_set {σ : L2.St} {vs : List Nat} {i : Nat} {v : Option V} (h : i ∈ vs) : wipe (σ.set i v) vs = wipe σ vs := by
  apply List.ext_getElem?
  intro j
  rw [wipe_get, wipe_get]
  by_cases q : j ∈ vs
  · rw [if_pos q, if_pos q]
    by_cases e : i = j
    · subst e
      by_cases hv : i < σ.length
      · rw [List.getElem?_set_self hv, List.getElem?_eq_getElem hv]; rfl
      · rw [List.getElem?_eq_none (by rw [List.length_set]; omega), List.getElem?_eq_none (by omega)]
    · rw [List.getElem?_set_ne e]
  · rw [if_neg q, if_neg q, List.getElem?_set_ne (fun (z : i = j) => q (z ▸ h))]
theorem lg_name {i : Nat} {x : Str} {vs : List Nat} {pos : Pos} (hN : X.N.Nodup) (hi : X.N[i]? = some x) (hx : Loc X.env.scope x) (hv : i ∈ vs) (hf : X.fn x = true ∨ X.env.scope.names.lookup x = some .local := by first | exact .inl rfl | exact .inr rfl | assumption) : LG X B vs (.Name x pos) (gNm i) :=
  ⟨pg_imp (pg_name hN hi hx hf) fun v σ H Q ⟨pn, F, E, G, k, d, S, r, ⟨hl, h⟩, hk⟩ => hk _ _ h _ F H (S.setVal (by rw [← S.len]; exact hl) r) (Same.refl F) (wipe_set hv)⟩
/-- several targets -/
abbrev DGs := List D → Env3 → Reg → (Env3 → Reg → Prop) → Prop
def LiftGs (K : PySem.W.Frag) (B : Base3) (vs : List Nat) (g : DGs) : TGs := fun us σ H Q => ∃ pn F E G k ds, St3 K B pn F H σ E G ∧ RepL K F ds us ∧ g ds E G k ∧
  ∀ E' G', k E' G' → ∀ σ' F' H', St3 K B pn F' H' σ' E' G' → Same F F' → wipe σ' vs = wipe σ vs → Q σ' H'
structure LGs (X : Cx) (B : Base3) (vs : List Nat) (ts : List Expr) (g : DGs) : Prop where
  pgs : PGs X ts (LiftGs X.K B vs g)
theorem pgs_imp {ts : List Expr} {t t' : TGs} (h : PGs X ts t) (hi : ∀ v σ H Q, t' v σ H Q → t v σ H Q) : PGs X ts t' := ⟨fun pins s σ H v u Q I r hw => h.run pins s σ H v u Q I r (hi v σ H Q hw)⟩
def gsNil : DGs := fun ds E G k => ds = [] ∧ k E G
def gsCons (g : DG) (gs : DGs) : DGs := fun ds E G k => ∃ d r, ds = d :: r ∧ g d E G fun E1 G1 => gs r E1 G1 k
theorem lgs_nil {vs : List Nat} : LGs X B vs [] gsNil :=
  ⟨pgs_imp pgs_nil fun us σ H Q ⟨pn, F, E, G, k, ds, S, r, ⟨e, h⟩, hk⟩ => by
    subst e
    cases r
    exact ⟨rfl, hk _ _ h σ F H S (Same.refl F) rfl⟩⟩
theorem lgs_cons {vs : List Nat} {e : Expr} {es : List Expr} {g : DG} {gs : DGs} (h1 : LG X B vs e g) (h2 : LGs X B vs es gs) (hs : (assignEach (e :: es) X.env).map (·.2) = assign e X.env :: (assignEach es X.env).map (·.2) := by rfl) : LGs X B vs (e :: es) (gsCons g gs) :=
  ⟨pgs_imp (pgs_cons h1.pg h2.pgs hs) fun us σ H Q ⟨pn, F, E, G, k, ds, S, r, ⟨d, dr, e, h⟩, hk⟩ => by
    subst e
    cases r with
    | @cons _ _ v vr r1 r2 =>
      exact ⟨v, vr, rfl, pn, F, E, G, _, d, S, r1, h, fun E1 G1 q σ1 F1 H1 S1 s1 w1 => ⟨pn, F1, E1, G1, k, dr, S1, RepL.mono s1 _ _ r2, q, fun E2 G2 q2 σ2 F2 H2 S2 s2 w2 => hk _ _ q2 σ2 F2 H2 S2 (s1.trans s2) (w2.trans w1)⟩⟩⟩
def gTp (n : Nat) (gs : DGs) : DG := fun d E G k => ∃ ds, d = .tup ds ∧ ds.length = n ∧ gs ds E G k
theorem lg_tup {vs : List Nat} {es : List Expr} {kk : Nat} {gs : DGs} {n : Nat} {pos : Pos} (hc : X.calm = true) (h : LGs X B vs es gs) (hn : (assignEach es X.env).length = n := by rfl) (hst : (assignEach es X.env).findIdx? (·.1) = none := by rfl) : LG X B vs (.Tuple es kk pos) (gTp n gs) :=
  ⟨pg_imp (pg_tup hc h.pgs hn hst) fun v σ H Q ⟨pn, F, E, G, k, d, S, r, ⟨ds, e, hl, h⟩, hk⟩ => by
    subst e
    cases r with
    | tup hs ha => exact ⟨_, _, rfl, SqT.of (S.w.sub _ _ hs), by rw [← ha.length]; exact hl, pn, F, E, G, k, ds, S, ha, h, hk⟩⟩
/-- target = value (a tuple target) -/
def dAsg (te : DE) (g : DG) : DSt := fun D E G => te E G fun r E1 G1 => ∃ d E2, r.ice E1 = some (d, E2) ∧ g d E2 G1 D.nx
theorem ls_asg {tg e : Expr} {te : DE} {g : DG} {vs : List Nat} {pos : Pos} (he : LE X B e te) (hg : LG X B vs tg g) (hs : swapsWithSole [tg] e pos.line X.env = pure false := by rfl) (hw : swappedStores [tg] e X.env = pure none := by rfl)
    (h1 : (assignEach [tg] X.env).map (·.2) = [assign tg X.env] := by rfl) : LS X B (.Assign [tg] e pos) (dAsg te g) :=
  ⟨ps_imp (ps_asg he.pe hg.pg hs hw h1) fun D σ H ⟨pn, F, E, G, D3, S, h, ok⟩ => ⟨pn, F, E, G, _, S, h, fun r E1 G1 ⟨d, E2, hd, h1⟩ v F1 H1 S1 s1 r1 => by
    obtain ⟨F2, S2, s2, r2⟩ := S1.ice r1 hd
    exact ⟨pn, F2, E2, G1, _, d, S2, r2, h1, fun E3 G3 q σ3 F3 H3 S3 s3 _ => ok.nx _ _ q σ3 F3 H3 S3 ((s1.trans s2).trans s3)⟩⟩⟩
end
end L3

set_option Elab.async false
set_option maxRecDepth 100000
set_option maxHeartbeats 4000000
/-! L3, part e: what is walked; loops; comprehensions; defs. -/
namespace L3
open PySem PySem.Spec PyProof.Rows L2

/-- an iterator J gives the items ds, one by one -/
structure Wk (K : PySem.W.Frag) (B : Base3) (J : It) (ds : List D) (F0 : Hp) : Prop where
  go : ∀ pn F H σ E G i, St3 K B pn F H σ E G → Same F0 F → i < ds.length → J.go i H
  yld : ∀ pn F H σ E G i x H', St3 K B pn F H σ E G → Same F0 F → i < ds.length → J.yld i H x H' → ∃ F', St3 K B pn F' H' σ E G ∧ Same F F' ∧ ∃ d, ds[i]? = some d ∧ Rep K F' d x
  stop : ∀ pn F H σ E G i, St3 K B pn F H σ E G → Same F0 F → ds.length ≤ i → J.stop i H
abbrev DI := Env3 → Reg → (List D → Env3 → Reg → Prop) → Prop
def LiftI (K : PySem.W.Frag) (B : Base3) (di : DI) : TI := fun σ H R => ∃ pn F E G k, St3 K B pn F H σ E G ∧ di E G k ∧
  ∀ ds E' G', k ds E' G' → ∀ J F' H', St3 K B pn F' H' σ E' G' → Same F F' → Wk K B J ds F' → R J H'
structure LI (X : Cx) (B : Base3) (tg e : Expr) (di : DI) : Prop where
  pi : PI X tg e (LiftI X.K B di)
theorem pi_imp {X : Cx} {tg e : Expr} {t t' : TI} (h : PI X tg e t) (hi : ∀ σ H R, t' σ H R → t σ H R) : PI X tg e t' := ⟨fun pins s σ H R I hw => h.run pins s σ H R I (hi σ H R hw)⟩
section
variable {X : Cx} {B : Base3} {K : PySem.W.Frag}
theorem wk_list {F0 : Hp} {a : Addr} {xs : List V} {ds : List D} (hs : SqL K F0 a xs) (r : RepL K F0 ds xs) : Wk K B (Itl K a) ds F0 := by
  refine ⟨fun pn F H σ E G i S s h => ?_, fun pn F H σ E G i x H' S s _ h => ?_, fun pn F H σ E G i S s h => ?_⟩
  · have hl := r.length
    exact ⟨xs, xs[i], S.w.sub.seq (s.seq hs), by simp [hl ▸ h]⟩
  · obtain ⟨rfl, q⟩ := h
    have e := q xs (S.w.sub.seq (s.seq hs))
    obtain ⟨d, h1, h2⟩ := r.get' e
    exact ⟨F, S, Same.refl F, d, h1, Rep.mono s _ _ h2⟩
  · exact ⟨xs, S.w.sub.seq (s.seq hs), by rw [← r.length]; exact h⟩
theorem wk_tup {F0 : Hp} {a : Addr} {xs : List V} {ds : List D} (hs : SqT K F0 a xs) (r : RepL K F0 ds xs) : Wk K B (Itt K a) ds F0 := by
  refine ⟨fun pn F H σ E G i S s h => ?_, fun pn F H σ E G i x H' S s _ h => ?_, fun pn F H σ E G i S s h => ?_⟩
  · have hl := r.length
    exact ⟨xs, xs[i], sameT S.w.sub (sameT s hs), by simp [hl ▸ h]⟩
  · obtain ⟨rfl, q⟩ := h
    have e := q xs (sameT S.w.sub (sameT s hs))
    obtain ⟨d, h1, h2⟩ := r.get' e
    exact ⟨F, S, Same.refl F, d, h1, Rep.mono s _ _ h2⟩
  · exact ⟨xs, sameT S.w.sub (sameT s hs), by rw [← r.length]; exact h⟩
def rangeD (lo : Int) (n : Nat) : List D := (List.range n).map fun (i : Nat) => D.int (lo + (i : Int))
theorem wk_rng {F0 : Hp} {lo : Int} {n : Nat} : Wk K B (Itr lo n) (rangeD lo n) F0 := by
  refine ⟨fun pn F H σ E G i S s h => ?_, fun pn F H σ E G i x H' S s hi h => ?_, fun pn F H σ E G i S s h => ?_⟩
  · show i < n
    simpa [rangeD] using h
  · obtain ⟨rfl, rfl⟩ := h
    have hi' : i < n := by simpa [rangeD] using hi
    exact ⟨F, S, Same.refl F, D.int (lo + (i : Int)), by simp [rangeD, hi'], .int _⟩
  · show n ≤ i
    simpa [rangeD] using h
def strD (x : Str) : List D := x.cps.toList.map fun c => D.str ⟨#[c]⟩
theorem wk_str {F0 : Hp} {x : Str} : Wk K B (Its x) (strD x) F0 := by
  refine ⟨fun pn F H σ E G i S s h => ?_, fun pn F H σ E G i v H' S s hi h => ?_, fun pn F H σ E G i S s h => ?_⟩
  · show i < x.cps.size
    simpa [strD] using h
  · obtain ⟨rfl, c, hc, rfl⟩ := h
    exact ⟨F, S, Same.refl F, D.str ⟨#[c]⟩, by simp [strD, hc], .str _⟩
  · show x.cps.size ≤ i
    simpa [strD] using h
/-- a list, a tuple, a text -/
def iSeq (K : PySem.W.Frag) (tl : TE) : TI := fun σ H R => tl σ H fun x H1 => (∃ a xs, x = .ref a ∧ SqL K H1 a xs ∧ R (Itl K a) H1) ∨ (∃ a xs, x = .ref a ∧ SqT K H1 a xs ∧ R (Itt K a) H1) ∨ ∃ z, x = .str z ∧ R (Its z) H1
theorem pi_seq {tg l : Expr} {tl : TE} (hl : PE X l tl) : PI X tg l (iSeq X.K tl) := by
  refine ⟨fun pins s σ H R I h => ?_⟩
  refine thn (hl.run pins s σ H _ I h) fun v s1 ⟨x, H1, I1, r1, q1⟩ => ?_
  rcases q1 with ⟨a, xs, e, hq, q⟩ | ⟨a, xs, e, hq, q⟩ | ⟨z, e, q⟩
  · subst e
    cases r1
    obtain ⟨its, rv, p, hz⟩ := I1.list hq
    refine wpAny_pyIter_list p.isList ?_
    refine ⟨s1.heap.objs.size, [s1.heap.objs.size], _, _, H1, rfl, I1.kept (t' := s1.toks) fun b o e => Heap.get?_push_of_some _ e, turn_list a _, ⟨_, Heap.get?_push_size _ rfl, rfl, rfl⟩, fun b hb => ?_, q⟩
    have e : b = s1.heap.objs.size := by simpa using hb
    subst e
    exact I1.fpOk (Nat.le_refl _) (I1.hok.fresh (Nat.le_refl _))
  · subst e
    cases r1
    obtain ⟨its, rv, p, hz⟩ := I1.tuple hq
    refine wpAny_pyIter_tuple (show s1.heap.IsTuple a its.toArray from p) ?_
    refine ⟨s1.heap.objs.size, [s1.heap.objs.size], _, _, H1, rfl, I1.kept (t' := s1.toks) fun b o e => Heap.get?_push_of_some _ e, turn_tuple a _, ⟨_, Heap.get?_push_size _ rfl, rfl, rfl⟩, fun b hb => ?_, q⟩
    have e : b = s1.heap.objs.size := by simpa using hb
    subst e
    exact I1.fpOk (Nat.le_refl _) (I1.hok.fresh (Nat.le_refl _))
  · subst e
    obtain ⟨t, rfl⟩ := r1
    cases ha : z.cps.all (· < 128)
    · exact wpAny_pyIter_wide ha (pi_one (tk := s1.toks) I1 _ (turn_str _ z t "str_iterator" (.inr rfl)) ⟨_, Heap.get?_push_size _ rfl, rfl, rfl⟩ q)
    · exact wpAny_pyIter_ascii ha (pi_one (tk := s1.toks) I1 _ (turn_str _ z t "str_ascii_iterator" (.inl rfl)) ⟨_, Heap.get?_push_size _ rfl, rfl, rfl⟩ q)
def iterD : D → Option (List D)
  | .lst ds => some ds
  | .tup ds => some ds
  | .str x => some (strD x)
  | .scr ns => some (ns.map D.int)
  | _ => none
def dIter (te : DE) : DI := fun E G k => te E G fun r E1 G1 => ∃ d E2, r.ice E1 = some (d, E2) ∧ ∃ ds, iterD d = some ds ∧ k ds E2 G1
theorem li_seq {tg l : Expr} {te : DE} (hl : LE X B l te) : LI X B tg l (dIter te) :=
  ⟨pi_imp (pi_seq hl.pe) fun σ H R ⟨pn, F, E, G, k, S, h, hk⟩ => ⟨pn, F, E, G, _, S, h, fun r E1 G1 ⟨d, E2, hd, ds, hi, h1⟩ v F1 H1 S1 s1 r1 => by
    obtain ⟨F2, S2, s2, r2⟩ := S1.ice r1 hd
    cases r2 with
    | lst hs ha => cases hi; exact .inl ⟨_, _, rfl, S2.w.sub.seq (.inl hs), hk _ _ _ h1 _ F2 H1 S2 (s1.trans s2) (wk_list (.inl hs) ha)⟩
    | tup hs ha => cases hi; exact .inr (.inl ⟨_, _, rfl, SqT.of (S2.w.sub _ _ hs), hk _ _ _ h1 _ F2 H1 S2 (s1.trans s2) (wk_tup (SqT.of hs) ha)⟩)
    | scr hs => cases hi; exact .inl ⟨_, _, rfl, S2.w.sub.seq hs, hk _ _ _ h1 _ F2 H1 S2 (s1.trans s2) (wk_list hs (RepL.ints _))⟩
    | str x => cases hi; exact .inr (.inr ⟨_, rfl, hk _ _ _ h1 _ F2 H1 S2 (s1.trans s2) wk_str⟩)
    | _ => cases hi⟩⟩
def dRng1 (ta : DA) : DI := fun E G k => ta E G fun ds E1 G1 => ∃ j : Int, ds = [.int j] ∧ -(2 ^ 62) ≤ j ∧ j < 2 ^ 62 ∧ k (rangeD 0 j.toNat) E1 G1
def dRng2 (ta : DA) : DI := fun E G k => ta E G fun ds E1 G1 => ∃ i j : Int, ds = [.int i, .int j] ∧ (-(2 ^ 62) ≤ i ∧ i < 2 ^ 62 ∧ -(2 ^ 62) ≤ j ∧ j < 2 ^ 62) ∧ k (rangeD i (j - i).toNat) E1 G1
theorem li_range1 {tg a : Expr} {ta : DA} {p pos : Pos} (hg : Gl X "range") (hm : X.mg "range" = none) (ha : LA X B [a] ta) (hs : starEach [a] X.env = [(false, eval a X.env)] := by rfl) : LI X B tg (.Call (.Name "range" p) [a] [] pos) (dRng1 ta) :=
  ⟨pi_imp (pi_range1 hg hm ha.pa hs) fun σ H R ⟨pn, F, E, G, k, S, h, hk⟩ => ⟨pn, F, E, G, _, S, h, fun ds E1 G1 ⟨j, e, q1, q2, h1⟩ vs F1 H1 S1 s1 r1 => by
    subst e
    cases r1 with
    | cons r rr =>
      cases rr
      cases r
      exact ⟨j, rfl, q1, q2, hk _ _ _ h1 _ F1 H1 S1 s1 wk_rng⟩⟩⟩
theorem li_range2 {tg a b : Expr} {ta : DA} {p pos : Pos} (hg : Gl X "range") (hm : X.mg "range" = none) (ha : LA X B [a, b] ta) (hs : starEach [a, b] X.env = [(false, eval a X.env), (false, eval b X.env)] := by rfl) (hs2 : starEach [b] X.env = [(false, eval b X.env)] := by rfl) : LI X B tg (.Call (.Name "range" p) [a, b] [] pos) (dRng2 ta) :=
  ⟨pi_imp (pi_range2 hg hm ha.pa hs hs2) fun σ H R ⟨pn, F, E, G, k, S, h, hk⟩ => ⟨pn, F, E, G, _, S, h, fun ds E1 G1 ⟨i, j, e, q, h1⟩ vs F1 H1 S1 s1 r1 => by
    subst e
    cases r1 with
    | cons r rr =>
      cases rr with
      | cons r' rr =>
        cases rr
        cases r
        cases r'
        exact ⟨i, j, rfl, q, hk _ _ _ h1 _ F1 H1 S1 s1 wk_rng⟩⟩⟩

/-! ### for -/
def dForL (g : DG) (tb : DSt) : List D → DSt
  | [], D, E, G => D.nx E G
  | d :: ds, D, E, G => g d E G fun E1 G1 => tb { D with nx := fun E2 G2 => dForL g tb ds D E2 G2, ct := fun E2 G2 => dForL g tb ds D E2 G2, bk := D.nx } E1 G1
def dFor (di : DI) (g : DG) (tb : DSt) : DSt := fun D E G => di E G fun ds E1 G1 => dForL g tb ds D E1 G1
theorem ls_for {tg iter : Expr} {body : List Stmt} {di : DI} {g : DG} {vs : List Nat} {tb : DSt} {pos : Pos} (hp : PassesOwn (model X.prog X.w) X.A X.env X.xe) (hc : X.calm = true) (hi : LI X B tg iter di) (hg : LG X B vs tg g) (hb : LSs X B body tb)
    (hs : ∀ x, foldedSetIterable iter X.env x = pure x := by intro _; rfl) : LS X B (.For tg iter body [] pos) (dFor di g tb) :=
  ⟨ps_imp (ps_for hp hc hi.pi hg.pg hb.pss hs) fun D σ H ⟨pn, F, E, G, D3, S, h, ok⟩ => ⟨pn, F, E, G, _, S, h, fun ds E1 G1 h1 J F1 H1 S1 s1 wk => by
    refine ⟨fun i m σ' H' => ∃ pn F' E' G', St3 X.K B pn F' H' σ' E' G' ∧ Same F1 F' ∧ m = ds.length - i ∧ i ≤ ds.length ∧ dForL g tb (ds.drop i) D3 E' G', ⟨ds.length, pn, F1, E1, G1, S1, Same.refl F1, rfl, Nat.zero_le _, h1⟩, ?_⟩
    rintro i m σ2 H2 ⟨pn, F2, E2, G2, S2, s2, rfl, hi, h2⟩
    by_cases hlt : i < ds.length
    · refine .inr ⟨wk.go pn F2 H2 σ2 E2 G2 i S2 s2 hlt, fun σ' H' => ∃ pn F' E' G', St3 X.K B pn F' H' σ' E' G' ∧ Same F1 F' ∧ dForL g tb (ds.drop (i + 1)) D3 E' G', fun σ' H' ⟨pn, F', E', G', S', s', h'⟩ => ⟨ds.length - (i + 1), by omega, pn, F', E', G', S', s', rfl, hlt, h'⟩, fun x H' y => ?_⟩
      obtain ⟨F3, S3, s3, d, hd, rd⟩ := wk.yld pn F2 H2 σ2 E2 G2 i x H' S2 s2 hlt y
      rw [List.drop_eq_getElem_cons hlt] at h2
      have ed : ds[i] = d := by
        rw [List.getElem?_eq_getElem hlt] at hd
        exact Option.some.inj hd
      rw [ed] at h2
      refine ⟨pn, F3, E2, G2, _, d, S3, rd, h2, fun E4 G4 h4 σ4 F4 H4 S4 s4 _ => ?_⟩
      have ss : Same F1 F4 := (s2.trans s3).trans s4
      refine ⟨pn, F4, E4, G4, _, S4, h4, ⟨fun E5 G5 q σ5 F5 H5 S5 s5 => ⟨_, F5, E5, G5, S5, ss.trans s5, q⟩, fun r G5 q v F5 H5 σ5 E5 S5 s5 rr => ok.rt r G5 q v F5 H5 σ5 E5 S5 ((s1.trans ss).trans s5) rr, fun E5 G5 q σ5 F5 H5 S5 s5 => ok.nx E5 G5 q σ5 F5 H5 S5 ((s1.trans ss).trans s5), fun E5 G5 q σ5 F5 H5 S5 s5 => ⟨_, F5, E5, G5, S5, ss.trans s5, q⟩⟩⟩
    · have e : i = ds.length := by omega
      subst e
      rw [List.drop_length] at h2
      exact .inl ⟨wk.stop pn F2 H2 σ2 E2 G2 _ S2 s2 (Nat.le_refl _), ok.nx E2 G2 h2 σ2 F2 H2 S2 (s1.trans s2)⟩⟩⟩

/-! ### while -/
def dWhN (c : DT) (tb : DSt) : Nat → DSt
  | 0, _, _, _ => False
  | n + 1, D, E, G => c E G fun b E1 G1 => if b = true then tb { D with nx := fun E2 G2 => dWhN c tb n D E2 G2, ct := fun E2 G2 => dWhN c tb n D E2 G2, bk := D.nx } E1 G1 else D.nx E1 G1
def dWhile (c : DT) (tb : DSt) : DSt := fun D E G => ∃ n, dWhN c tb n D E G
theorem ls_while {c : Expr} {body : List Stmt} {tc : DT} {tb : DSt} {pos : Pos} (hp : PassesOwn (model X.prog X.w) X.A X.env X.xe) (hc : LT X B c tc) (hb : LSs X B body tb) : LS X B (.While c body [] pos) (dWhile tc tb) :=
  ⟨ps_imp (ps_while hp hc.pt hb.pss) fun D σ H ⟨pn, F, E, G, D3, S, ⟨n, h⟩, ok⟩ => by
    refine ⟨fun m σ' H' => ∃ pn F' E' G', St3 X.K B pn F' H' σ' E' G' ∧ Same F F' ∧ dWhN tc tb m D3 E' G', ⟨n, pn, F, E, G, S, Same.refl F, h⟩, ?_⟩
    rintro m σ2 H2 ⟨pn, F2, E2, G2, S2, s2, h2⟩
    cases m with
    | zero => exact h2.elim
    | succ m =>
      refine ⟨pn, F2, E2, G2, _, S2, h2, fun b E3 G3 h3 F3 H3 S3 s3 => ?_⟩
      cases b with
      | false => exact ok.nx E3 G3 h3 σ2 F3 H3 S3 (s2.trans s3)
      | true =>
        have ss : Same F F3 := s2.trans s3
        refine ⟨fun σ' H' => ∃ pn F' E' G', St3 X.K B pn F' H' σ' E' G' ∧ Same F F' ∧ dWhN tc tb m D3 E' G', fun σ' H' q => ⟨m, Nat.lt_succ_self m, q⟩, ?_⟩
        exact ⟨pn, F3, E3, G3, _, S3, h3, ⟨fun E5 G5 q σ5 F5 H5 S5 s5 => ⟨_, F5, E5, G5, S5, ss.trans s5, q⟩, fun r G5 q v F5 H5 σ5 E5 S5 s5 rr => ok.rt r G5 q v F5 H5 σ5 E5 S5 (ss.trans s5) rr, fun E5 G5 q σ5 F5 H5 S5 s5 => ok.nx E5 G5 q σ5 F5 H5 S5 (ss.trans s5), fun E5 G5 q σ5 F5 H5 S5 s5 => ⟨_, F5, E5, G5, S5, ss.trans s5, q⟩⟩⟩⟩

/-! ### comprehensions -/
def wipe3 (E : Env3) : List Nat → Env3
  | [] => E
  | v :: vs => (wipe3 E vs).set v Sl3.no
theorem wipe3_length (E : Env3) : ∀ vs : List Nat, (wipe3 E vs).length = E.length
  | [] => rfl
  | v :: vs => by unfold wipe3; rw [List.length_set, wipe3_length E vs]
theorem wipe3_some {E : Env3} {i : Nat} {s : Sl3} (hs : s ≠ Sl3.no) : ∀ {vs : List Nat}, (wipe3 E vs)[i]? = some s → E[i]? = some s ∧ i ∉ vs
  | [], h => ⟨h, by simp⟩
  | v :: vs, h => by
    unfold wipe3 at h
    rcases set_look h with ⟨_, z⟩ | ⟨ne, z⟩
    · exact absurd z hs
    · obtain ⟨h1, h2⟩ := wipe3_some hs z
      exact ⟨h1, by simp only [List.mem_cons, not_or]; exact ⟨fun e => ne e.symm, h2⟩⟩
theorem wipe3_val {E : Env3} {i : Nat} {vs : List Nat} {d : D} (h : (wipe3 E vs)[i]? = some (Sl3.val d)) : E[i]? = some (Sl3.val d) ∧ i ∉ vs := wipe3_some (s := Sl3.val d) (fun q => nomatch q) h
theorem wipe3_own {E : Env3} {i : Nat} {vs : List Nat} {d : List D} (h : (wipe3 E vs)[i]? = some (Sl3.own d)) : E[i]? = some (Sl3.own d) ∧ i ∉ vs := wipe3_some (s := Sl3.own d) (fun q => nomatch q) h
theorem wipe3_ow {E : Env3} {i : Nat} {vs : List Nat} {s : Sl3} {d : D} (h : (wipe3 E vs)[i]? = some s) (ho : s.ow = some d) : E[i]? = some s ∧ i ∉ vs := wipe3_some (fun q => by subst q; cases ho) h
/-- other slots, alike outside vs -/
theorem St3.wipeS {pn : Pend} {F H : Hp} {σ σ' : L2.St} {E : Env3} {G : Reg} (S : St3 K B pn F H σ E G) (vs : List Nat) (hl : σ'.length = σ.length) (w : ∀ i, i ∉ vs → σ'[i]? = σ[i]?) : St3 K B pn F H σ' (wipe3 E vs) G := by
  refine ⟨S.w, S.keepF, S.keepH, S.unfr, S.regs, S.regk, by rw [wipe3_length, hl]; exact S.len, fun i d h => ?_, fun i s d h ho => ?_, fun i j s t d e a h1 h2 o1 o2 h3 h4 => ?_, S.pend, S.pnd, fun nm fs h => ?_⟩
  · obtain ⟨h1, h2⟩ := wipe3_val h
    rw [w i h2]; exact S.slot i d h1
  · obtain ⟨h1, h2⟩ := wipe3_ow h ho
    rw [w i h2]; exact S.own i s d h1 ho
  · obtain ⟨q1, n1⟩ := wipe3_ow h1 o1
    obtain ⟨q2, n2⟩ := wipe3_ow h2 o2
    rw [w i n1] at h3
    rw [w j n2] at h4
    exact S.ownd i j s t d e a q1 q2 o1 o2 h3 h4
  · obtain ⟨h1, h2⟩ := wipe3_some (s := Sl3.new nm fs) (fun q => nomatch q) h
    rw [w 0 h2]; exact S.news nm fs h1
theorem wipe_out' {σ : L2.St} {vs : List Nat} {i : Nat} (h : i ∉ vs) : (wipe σ vs)[i]? = σ[i]? := by
  rw [wipe_get, if_neg h]
def LiftTs (X : Cx) (B : Base3) (ifs : List Expr) (tt : DT) : Prop := PTs X ifs (LiftT X.K B tt)
def dYes : DT := fun E G k => k true E G
theorem lts_nil : LiftTs X B [] dYes := ⟨fun pins s σ H Q I ⟨pn, F, E, G, k, S, h, hk⟩ => pts_nil.run pins s σ H Q I (hk _ _ _ h F H S (Same.refl F))⟩
theorem lts_one {c : Expr} {t : DT} (h : LT X B c t) : LiftTs X B [c] t := ⟨fun pins s σ H Q I hw => (pts_one h.pt).run pins s σ H Q I hw⟩
def dLcL (g : DG) (tt : DT) (te : DE) (vs : List Nat) : List D → List D → Env3 → Reg → (List D → Env3 → Reg → Prop) → Prop
  | [], acc, E, G, k => k acc E G
  | d :: ds, acc, E, G, k => g d E G fun E1 G1 => tt E1 G1 fun b E2 G2 => if b = true then te E2 G2 fun r E3 G3 => ∃ x E4, r.ice E3 = some (x, E4) ∧ dLcL g tt te vs ds (acc ++ [x]) (wipe3 E4 vs) G3 k else dLcL g tt te vs ds acc (wipe3 E2 vs) G2 k
def dLc (di : DI) (g : DG) (tt : DT) (te : DE) (vs : List Nat) : DE := fun E G k => di E G fun ds E1 G1 => ds.length ≤ sizeLine ∧ dLcL g tt te vs ds [] (wipe3 E1 vs) G1 fun acc E2 G2 => k (.fr acc) E2 G2
theorem lc3 {di : DI} {g : DG} {tt : DT} {te : DE} {vs : List Nat} {σ : L2.St} {H : Hp} {Q : VK} (h : Lift K B (dLc di g tt te vs) σ H Q) : tLc (LiftI K B di) (LiftG K B vs g) (LiftT K B tt) (Lift K B te) vs σ H Q := by
  obtain ⟨pn, F, E, G, k, S, h, hk⟩ := h
  refine ⟨pn, F, E, G, _, S, h, fun ds E1 G1 ⟨hz, h1⟩ J F1 H1 S1 s1 wk D nD => ?_⟩
  -- the state of the loop: the list at D pending
  have f0 := S1.newFre (xs := []) (ds := []) nD .nil
  have S1' : St3 K B ((D, HO.lst []) :: pn) F1 (upd H1 D (.lst [])) (wipe σ vs) (wipe3 E1 vs) G1 :=
    ((S1.newU nD).pendOn f0.1.nF f0.1.nB f0.1.nG f0.1.nP upd_same f0.2).wipeS vs (wipe_length σ vs) (fun i hi => wipe_out' hi)
  refine ⟨fun i m H' => ∃ F' E' G' acc xs, St3 K B ((D, HO.lst xs) :: pn) F' H' (wipe σ vs) E' G' ∧ (∀ i ∈ vs, ∀ s, E'[i]? = some s → s = Sl3.no) ∧ Same F1 F' ∧ RepL K F' acc xs ∧ acc.length ≤ i ∧ m = ds.length - i ∧ i ≤ ds.length ∧ dLcL g tt te vs (ds.drop i) acc E' G' (fun acc E2 G2 => k (.fr acc) E2 G2), ⟨ds.length, F1, wipe3 E1 vs, G1, [], [], S1', ?w, Same.refl F1, .nil, Nat.zero_le _, rfl, Nat.zero_le _, h1⟩, ?_⟩
  case w =>
    intro i hi s hs
    cases s with
    | no => rfl
    | val d => exact absurd hi (wipe3_val hs).2
    | own d => exact absurd hi (wipe3_own hs).2
    | ownD d => exact absurd hi (wipe3_ow hs rfl).2
    | new nm fs => exact absurd hi (wipe3_some (s := Sl3.new nm fs) (fun q => nomatch q) hs).2
  rintro i m H2 ⟨F2, E2, G2, acc, xs, S2, hw2, s2, ra, hal, rfl, hi, h2⟩
  by_cases hlt : i < ds.length
  · refine .inr ⟨wk.go _ F2 H2 _ E2 G2 i S2 s2 hlt, fun H' => ∃ F' E' G' acc xs, St3 K B ((D, HO.lst xs) :: pn) F' H' (wipe σ vs) E' G' ∧ (∀ i ∈ vs, ∀ s, E'[i]? = some s → s = Sl3.no) ∧ Same F1 F' ∧ RepL K F' acc xs ∧ acc.length ≤ i + 1 ∧ dLcL g tt te vs (ds.drop (i + 1)) acc E' G' (fun acc E2 G2 => k (.fr acc) E2 G2), fun H' ⟨F', E', G', acc', xs', S', w', s', r', l', h'⟩ => ⟨ds.length - (i + 1), by omega, F', E', G', acc', xs', S', w', s', r', l', rfl, hlt, h'⟩, fun x H' y => ?_⟩
    obtain ⟨F3, S3, s3, d, hd, rd⟩ := wk.yld _ F2 H2 _ E2 G2 i x H' S2 s2 hlt y
    rw [List.drop_eq_getElem_cons hlt] at h2
    have ed : ds[i] = d := by
      rw [List.getElem?_eq_getElem hlt] at hd
      exact Option.some.inj hd
    rw [ed] at h2
    refine ⟨_, F3, E2, G2, _, d, S3, rd, h2, fun E4 G4 h4 σ4 F4 H4 S4 s4 w4 => ?_⟩
    have ww : wipe (wipe σ vs) vs = wipe σ vs := by
      apply List.ext_getElem?
      intro j
      rw [wipe_get, wipe_get]
      by_cases q : j ∈ vs
      · rw [if_pos q, if_pos q]; cases σ[j]? <;> rfl
      · rw [if_neg q]
    have w4' : wipe σ4 vs = wipe σ vs := by rw [w4, ww]
    refine ⟨w4', ?_⟩
    have back : ∀ {F' H' E' G' ys}, St3 K B ((D, HO.lst ys) :: pn) F' H' σ4 E' G' → St3 K B ((D, HO.lst ys) :: pn) F' H' (wipe σ vs) (wipe3 E' vs) G' := fun S' => by
      rw [← w4']
      exact S'.wipeS vs (wipe_length σ4 vs) (fun i hi => wipe_out' hi)
    have wno : ∀ (E' : Env3), ∀ i ∈ vs, ∀ s, (wipe3 E' vs)[i]? = some s → s = Sl3.no := fun E' i hi s hs => by
      cases s with
      | no => rfl
      | val d => exact absurd hi (wipe3_val hs).2
      | own d => exact absurd hi (wipe3_own hs).2
      | ownD d => exact absurd hi (wipe3_ow hs rfl).2
      | new nm fs => exact absurd hi (wipe3_some (s := Sl3.new nm fs) (fun q => nomatch q) hs).2
    refine ⟨_, F4, E4, G4, _, S4, h4, fun b E5 G5 h5 F5 H5 S5 s5 => ?_⟩
    have s15 : Same F1 F5 := ((s2.trans s3).trans s4).trans s5
    have s25 : Same F2 F5 := (s3.trans s4).trans s5
    cases b with
    | false => exact ⟨F5, _, G5, acc, xs, back S5, wno _, s15, RepL.mono s25 _ _ ra, by omega, h5⟩
    | true =>
      refine ⟨_, F5, E5, G5, _, S5, h5, fun r E6 G6 ⟨x', E7, hx, h6⟩ v F6 H6 S6 s6 r6 => ?_⟩
      obtain ⟨F7, S7, s7, r7⟩ := S6.ice r6 hx
      have s27 : Same F2 F7 := (s25.trans s6).trans s7
      have ra' := RepL.mono s27 _ _ ra
      refine ⟨xs, S7.pendOff.2.2.2.2.2.1, ?_, F7, _, G6, acc ++ [x'], xs ++ [v], (back (S7.pendWrite (ys := xs ++ [v]))), wno _, (s15.trans s6).trans s7, ra'.append (.cons r7 .nil), by rw [List.length_append]; show acc.length + 1 ≤ i + 1; omega, h6⟩
      have := ra.length
      omega
  · have e : i = ds.length := by omega
    subst e
    rw [List.drop_length] at h2
    obtain ⟨S3, hF, hB, hG, hP, hH, no⟩ := S2.pendOff
    have S4 : St3 K B pn F2 H2 σ E2 G2 := by
      have q := S3.wipeS (σ' := σ) vs (wipe_length σ vs).symm (fun i hi => (wipe_out' hi).symm)
      have eq : wipe3 E2 vs = E2 := by
        apply List.ext_getElem?
        intro j
        cases q2 : E2[j]? with
        | none =>
          apply List.getElem?_eq_none
          rw [wipe3_length]
          exact List.getElem?_eq_none_iff.mp q2
        | some s =>
          have hj := lt_of_look q2
          cases q3 : (wipe3 E2 vs)[j]? with
          | none =>
            have := List.getElem?_eq_none_iff.mp q3
            rw [wipe3_length] at this
            omega
          | some t =>
            cases t with
            | no =>
              by_cases hm : j ∈ vs
              · rw [hw2 j hm s q2]
              · have : ∀ (vs : List Nat), j ∉ vs → (wipe3 E2 vs)[j]? = E2[j]? := by
                  intro vs
                  induction vs with
                  | nil => intro _; rfl
                  | cons v r ih =>
                    intro hm
                    unfold wipe3
                    rw [List.getElem?_set_ne (fun z => hm (by rw [z]; exact List.mem_cons_self))]
                    exact ih (fun z => hm (List.mem_cons_of_mem _ z))
                rw [this vs hm, q2] at q3
                exact q3.symm
            | val d => rw [← (wipe3_val q3).1]; exact q2
            | own d => rw [← (wipe3_own q3).1]; exact q2
            | ownD d => rw [← (wipe3_ow q3 rfl).1]; exact q2
            | new nm fs => rw [← (wipe3_some (s := Sl3.new nm fs) (fun q => nomatch q) q3).1]; exact q2
      rw [eq] at q
      exact q
    refine .inl ⟨wk.stop _ F2 H2 _ E2 G2 _ S2 s2 (Nat.le_refl _), hk _ _ _ h2 _ F2 H2 S4 (s1.trans s2) ⟨D, rfl, ⟨hF, hB, hG, hP, xs, hH, ra⟩, fun j t es hj ht e => ?_⟩⟩
    by_cases hm : j ∈ vs
    · have z := hw2 j hm _ hj
      subst z
      cases ht
    · exact no j t es hj ht (by rw [wipe_out' hm]; exact e)
end
end L3

set_option Elab.async false
set_option maxRecDepth 100000
set_option maxHeartbeats 4000000
/-! L3, part f: comprehensions as values, defs; the operators. -/
namespace L3
open PySem PySem.Spec PyProof.Rows L2
section
variable {X : Cx} {B : Base3}
theorem le_lc {elt tg iter : Expr} {ifs : List Expr} {scope : Scope} {own : List (Str × Nat)} {pos : Pos} {di : DI} {g : DG} {tt : DT} {te : DE} (hc : X.calm = true) (hN : X.N.Nodup) (hi : LI X B tg iter di) (ok : BlkOk X.N X.env.scope scope own)
    (hg : ∀ (s : Shared) (H : Hp) (C : Addr) (cl : List (Str × Addr)) (fp : List Addr), LG (X.blk s H scope (compEnvC scope cl C X.env) fp) B (own.map (·.2)) tg g) (ht : ∀ (s : Shared) (H : Hp) (C : Addr) (cl : List (Str × Addr)) (fp : List Addr), LiftTs (X.blk s H scope (compEnvC scope cl C X.env) fp) B ifs tt)
    (he : ∀ (s : Shared) (H : Hp) (C : Addr) (cl : List (Str × Addr)) (fp : List Addr), LE (X.blk s H scope (compEnvC scope cl C X.env) fp) B elt te) (hs : ∀ x, foldedSetIterable iter X.env x = pure x := by intro _; rfl) :
    LE X B (.ListComp elt [⟨tg, iter, ifs, 0⟩] scope pos) (dLc di g tt te (own.map (·.2))) :=
  ⟨pe_imp (pe_lc hc hN hi.pi ok (fun s H C cl fp => (hg s H C cl fp).pg) (fun s H C cl fp => (show PTs _ ifs (LiftT X.K B tt) from ht s H C cl fp)) (fun s H C cl fp => (he s H C cl fp).pe) hs) fun σ H Q h => lc3 h⟩
/-- name = [..] on one line -/
theorem ls_setLc {i : Nat} {y : Str} {py : Pos} {elt tg iter : Expr} {ifs : List Expr} {scope : Scope} {own : List (Str × Nat)} {pos spos : Pos} {di : DI} {g : DG} {tt : DT} {te : DE} (hc : X.calm = true) (hN : X.N.Nodup) (hy : X.N[i]? = some y) (hyl : X.env.scope.names.lookup y = some .local)
    (hsw : swapsWith (.ListComp elt [⟨tg, iter, ifs, 0⟩] scope pos) (some (.Name y py)) spos.line X.env = pure true) (hi : LI X B tg iter di) (ok : BlkOk X.N X.env.scope scope own)
    (hg : ∀ (s : Shared) (H : Hp) (C : Addr) (cl : List (Str × Addr)) (fp : List Addr), LG (X.blk s H scope (compEnvC scope cl C X.env) fp) B (own.map (·.2)) tg g) (ht : ∀ (s : Shared) (H : Hp) (C : Addr) (cl : List (Str × Addr)) (fp : List Addr), LiftTs (X.blk s H scope (compEnvC scope cl C X.env) fp) B ifs tt)
    (he : ∀ (s : Shared) (H : Hp) (C : Addr) (cl : List (Str × Addr)) (fp : List Addr), LE (X.blk s H scope (compEnvC scope cl C X.env) fp) B elt te) (hs : ∀ x, foldedSetIterable iter X.env x = pure x := by intro _; rfl) :
    LS X B (.Assign [.Name y py] (.ListComp elt [⟨tg, iter, ifs, 0⟩] scope pos) spos) (dSet i (dLc di g tt te (own.map (·.2)))) :=
  ⟨ps_imp (ps_setLc hc hN hy hyl hsw hi.pi ok (fun s H C cl fp => (hg s H C cl fp).pg) (fun s H C cl fp => (show PTs _ ifs (LiftT X.K B tt) from ht s H C cl fp)) (fun s H C cl fp => (he s H C cl fp).pe) hs) fun D σ H ⟨pn, F, E, G, D3, S, h, ok⟩ => by
    refine lc3 (Q := fun x H1 => gName i x σ H1 D.nx) ⟨pn, F, E, G, _, S, h, fun r E1 G1 ⟨hi, E2, hp, h1⟩ v F1 H1 S1 s1 r1 => ?_⟩
    obtain ⟨F2, S2, s2⟩ := S1.put hi r1 hp
    exact ok.nx E2 G1 h1 _ F2 H1 S2 (s1.trans s2)⟩
end

/-! ### defs -/
def start3 (N : List Str) (ds : List D) : Env3 := ds.map Sl3.val ++ List.replicate (N.length - ds.length) Sl3.no
section
variable {P : Program} {w : World} {K : PySem.W.Frag} {mg : Str → Option Value} {base : Heap}
theorem start_st {N : List Str} {F H : Hp} {G : Reg} {ds : List D} {vs : List V} (wl : Wld K F H G) (r : RepL K F ds vs) : St3 K ⟨F, H, G.map (·.1), 0⟩ [] F H (L2.start N vs) (start3 N ds) G := by
  have hl := r.length
  have look : ∀ {i : Nat} {s : Sl3}, (start3 N ds)[i]? = some s → (∃ d, ds[i]? = some d ∧ s = Sl3.val d) ∨ s = Sl3.no := fun {i s} h => by
    unfold start3 at h
    by_cases q : i < ds.length
    · rw [List.getElem?_append_left (by simpa using q), List.getElem?_map] at h
      rw [List.getElem?_eq_getElem q] at h ⊢
      exact .inl ⟨_, rfl, (Option.some.inj h).symm⟩
    · rw [List.getElem?_append_right (by simpa using Nat.le_of_not_lt q)] at h
      have := List.mem_of_getElem? h
      exact .inr (List.eq_of_mem_replicate this)
  refine ⟨wl, Same.refl F, fun a o h _ => h, fun a o _ _ h => h, fun a h => .inl h, fun a h => h, ?_, fun i d h => ?_, fun i s d h ho => ?_, fun i j s t d e a h _ ho => ?_, fun a xs h => (by cases h), ⟨List.nodup_nil, fun p h => (by cases h)⟩, fun nm fs h => (look h).elim (fun ⟨_, _, z⟩ => by cases z) fun z => by cases z⟩
  · unfold start3 L2.start
    simp only [List.length_append, List.length_map, List.length_replicate, hl]
  · rcases look h with ⟨d', h1, h2⟩ | z
    · cases h2
      obtain ⟨v, h3, h4⟩ := r.get h1
      refine ⟨v, ?_, h4⟩
      have hlt := lt_of_look h3
      unfold L2.start
      rw [List.getElem?_append_left (by simpa using hlt), List.getElem?_map, h3]
      rfl
    · cases z
  · rcases look h with ⟨d', h1, h2⟩ | z
    · subst h2; cases ho
    · subst z; cases ho
  · rcases look h with ⟨d', h1, h2⟩ | z
    · subst h2; cases ho
    · subst z; cases ho
theorem St3.afterB {F H F' H' : Hp} {G G' : Reg} {pn : Pend} {σ : L2.St} {E : Env3} (S : St3 K ⟨F, H, G.map (·.1), 0⟩ pn F' H' σ E G') : After K F H G F' H' G' :=
  ⟨S.w, S.keepF, S.keepH, S.unfr, S.regs, S.regk⟩
/-- THE RULE for a def: its body as a term of rules, and what it makes of plain values -/
theorem ok3 {x qual : Str} {st : Stmt} {f : Addr} {fd : FuncData} {N ps : List Str} {k : Nat} {sp : DSp} (F : Fun K x qual st f fd) (S : FnScope N ps (defScope st)) (len : ∀ ds G q e, sp ds G q e → ds.length = ps.length)
    (body : ∀ (cdv : Value) (A : Around) (outer : List Env) (s : Shared) (H : Hp) (E : XK) (B : Base3) (dw : Exc3 → Reg → Prop), Room k (A.deeper (envOfC qual (defScope st) s.heap.objs.size f cdv)) →
      WOkL (cxOf (L2.CX P w) P w K mg base N qual (defScope st) f cdv A outer s H E) B (fun x _ G => dw x G) →
      ∃ t : DSt, LSs (cxOf (L2.CX P w) P w K mg base N qual (defScope st) f cdv A outer s H E) B (defBody st) t ∧ ∀ ds G q, sp ds G q dw → t { nx := fun _ G' => q (.val .non) G', rt := q } (start3 N ds) G) :
    FnOk P w K mg base (L2.CX P w) (k + 1) f fd ps (LSp K sp) := by
  refine F.okX S (fun vs H Q E h => ?_) (fun cdv A outer s H vs Q E hr h => ?_)
  · obtain ⟨F, G, ds, q, e, _, r, h, _⟩ := h
    rw [← r.length]
    exact len _ _ _ _ h
  · obtain ⟨F, G, ds, q, e, wl, r, h, hq, he⟩ := h
    have wk : WOkL (cxOf (L2.CX P w) P w K mg base N qual (defScope st) f cdv A outer s H E) ⟨F, H, G.map (·.1), 0⟩ (fun x _ G => e x G) :=
      ⟨⟨fun cls d H => E cls d H, takes_of rfl rfl rfl rfl, fun pn F' H' σ E' G' x cls dd S' rx hx => he x G' hx cls dd F' H' S'.afterB rx⟩, lk_self⟩
    obtain ⟨t, hb, ht⟩ := body cdv A outer s H E ⟨F, H, G.map (·.1), 0⟩ e hr wk
    refine ⟨_, hb.pss, ⟨[], F, start3 N ds, G, _, start_st wl r, ht ds G q h, ⟨fun E' G' h' σ' F' H' S' _ => hq _ _ h' _ F' H' S'.afterB .non, fun r' G' h' v F' H' σ' E' S' _ rr => hq _ _ h' v F' H' S'.afterB ?_, fun _ _ z => z.elim, fun _ _ z => z.elim⟩⟩⟩
    cases r' with
    | val d => exact rr
    | fr es =>
      obtain ⟨a, rfl, f⟩ := rr
      obtain ⟨xs, h1, h2⟩ := f.ex
      exact ⟨a, xs, rfl, f.nF, f.nB, f.nG, h1, h2⟩
    | frD d =>
      obtain ⟨a, rfl, f⟩ := rr
      obtain ⟨o, h1, h2⟩ := f.ex
      exact ⟨a, o, rfl, f.nF, f.nB, f.nG, h1, h2⟩
    | sl i => exact rr.elim
end

/-! ### plain data that can be compared -/
mutual
def D.py : D → PyData
  | .non => .none
  | .bl b => .bool b
  | .int i => .int i
  | .str x => .str x
  | .ref _ => .none
  | .ty _ => .none
  | .scr _ => .none
  | .obj _ _ => .none
  | .cls _ => .none
  | .dcK _ _ => .none
  | .dcT _ _ => .none
  | .ktp _ => .none
  | .tag _ => .none
  | .tup ds => .tuple (pyL ds)
  | .lst ds => .list (pyL ds)
def pyL : List D → List PyData
  | [] => []
  | d :: ds => d.py :: pyL ds
end
def shl (p : D → Bool) : D → Bool
  | .tup ds => ds.all p
  | .lst ds => ds.all p
  | .ref _ => false
  | .ty _ => false
  | .scr _ => false
  | .obj _ _ => false
  | .cls _ => false
  | .dcK _ _ => false
  | .dcT _ _ => false
  | .ktp _ => false
  | .tag _ => false
  | .str x => PyData.strOk x
  | _ => true
def sh0 : D → Bool
  | .tup ds => ds.isEmpty
  | .lst ds => ds.isEmpty
  | .ref _ => false
  | .ty _ => false
  | .scr _ => false
  | .obj _ _ => false
  | .cls _ => false
  | .dcK _ _ => false
  | .dcT _ _ => false
  | .ktp _ => false
  | .tag _ => false
  | .str x => PyData.strOk x
  | _ => true
def D.sh : D → Bool := shl (shl (shl (shl (shl sh0))))
/-- as sh, told so that the kernel reckons it -/
def strOkC (x : Str) : Bool := x.cps.toList.all fun c => Nat.blt c 0x110000
theorem strOkC_of {x : Str} (h : strOkC x = true) : PyData.strOk x = true := by
  unfold PyData.strOk
  rw [Array.all_eq_true']
  intro c hc
  have := List.all_eq_true.mp h c (Array.mem_toList_iff.mpr hc)
  exact decide_eq_true (Nat.blt_eq.mp this)
def shlC (p : D → Bool) : D → Bool
  | .tup ds => ds.all p
  | .lst ds => ds.all p
  | .str x => strOkC x
  | .non => true
  | .bl _ => true
  | .int _ => true
  | _ => false
def sh0C : D → Bool
  | .tup ds => ds.isEmpty
  | .lst ds => ds.isEmpty
  | .str x => strOkC x
  | .non => true
  | .bl _ => true
  | .int _ => true
  | _ => false
def D.shC : D → Bool := shlC (shlC (shlC (shlC (shlC sh0C))))
theorem sh0C_of : ∀ {d : D}, sh0C d = true → sh0 d = true := fun {d} h => by
  cases d <;> first | exact h | exact strOkC_of h | cases h
theorem shlC_of {p q : D → Bool} (hp : ∀ {d : D}, p d = true → q d = true) : ∀ {d : D}, shlC p d = true → shl q d = true := fun {d} h => by
  cases d with
  | tup ds => exact List.all_eq_true.mpr fun x hx => hp (List.all_eq_true.mp h x hx)
  | lst ds => exact List.all_eq_true.mpr fun x hx => hp (List.all_eq_true.mp h x hx)
  | str x => exact strOkC_of h
  | _ => first | rfl | cases h
theorem shC_of {d : D} (h : d.shC = true) : d.sh = true := shlC_of (fun h => shlC_of (fun h => shlC_of (fun h => shlC_of (fun h => shlC_of sh0C_of h) h) h) h) h
def D.eqv (d e : D) : Bool := PyData.eqv d.py e.py
def ShOk (p : D → Bool) (m : Nat) : Prop := ∀ (K : PySem.W.Frag) (F : Hp) (d : D) (v : V), p d = true → Rep K F d v → Dp K F v d.py ∧ d.py.canLay0 = true ∧ d.py.depth ≤ m
theorem pyL_map : ∀ ds : List D, pyL ds = ds.map D.py
  | [] => rfl
  | d :: ds => by rw [pyL, pyL_map ds]; rfl
theorem sh0_ok : ShOk sh0 1 := by
  intro K F d v h r
  cases r with
  | non => exact ⟨.non, rfl, by simp [D.py, PyData.depth]⟩
  | bl b => exact ⟨.bl b, rfl, by simp [D.py, PyData.depth]⟩
  | int b => exact ⟨.int b, rfl, by simp [D.py, PyData.depth]⟩
  | str b => exact ⟨.str b, h, by simp [D.py, PyData.depth]⟩
  | ref a => cases h
  | ty n => cases h
  | scr n => cases h
  | obj _ _ _ _ => cases h
  | cls _ => cases h
  | dcK _ _ _ => cases h
  | dcT _ _ _ => cases h
  | ktp _ => cases h
  | @tup a xs ds hs ha =>
    cases ds with
    | nil => cases ha; exact ⟨.tup (SqT.of hs) .nil, rfl, by simp [D.py, pyL, PyData.depth, PyData.depthAll]⟩
    | cons _ _ => cases h
  | @lst a xs ds hs ha =>
    cases ds with
    | nil => cases ha; exact ⟨.lst (.inl hs) .nil, rfl, by simp [D.py, pyL, PyData.depth, PyData.depthAll]⟩
    | cons _ _ => cases h
theorem shl_all {p : D → Bool} {m : Nat} (hp : ShOk p m) {K : PySem.W.Frag} {F : Hp} : ∀ (ds : List D) (vs : List V), ds.all p = true → RepL K F ds vs → DpAll K F vs (pyL ds) ∧ PyData.canLayAll0 (pyL ds) = true ∧ PyData.depthAll (pyL ds) ≤ m
  | [], _, _, r => by cases r; exact ⟨.nil, rfl, Nat.zero_le _⟩
  | d :: ds, _, h, r => by
    cases r with
    | cons r1 r2 =>
      rw [List.all_cons, Bool.and_eq_true] at h
      obtain ⟨h1, h2, h3⟩ := hp K F d _ h.1 r1
      obtain ⟨q1, q2, q3⟩ := shl_all hp ds _ h.2 r2
      exact ⟨.cons h1 q1, by simp [pyL, PyData.canLayAll0, h2, q2], by simp only [pyL, PyData.depthAll]; exact Nat.max_le.mpr ⟨h3, q3⟩⟩
theorem shl_ok {p : D → Bool} {m : Nat} (hp : ShOk p m) : ShOk (shl p) (m + 1) := by
  intro K F d v h r
  cases r with
  | non => exact ⟨.non, rfl, by simp [D.py, PyData.depth]⟩
  | bl b => exact ⟨.bl b, rfl, by simp [D.py, PyData.depth]⟩
  | int b => exact ⟨.int b, rfl, by simp [D.py, PyData.depth]⟩
  | str b => exact ⟨.str b, h, by simp [D.py, PyData.depth]⟩
  | ref a => cases h
  | ty n => cases h
  | scr n => cases h
  | obj _ _ _ _ => cases h
  | cls _ => cases h
  | dcK _ _ _ => cases h
  | dcT _ _ _ => cases h
  | ktp _ => cases h
  | @tup a xs ds hs ha =>
    obtain ⟨h1, h2, h3⟩ := shl_all hp ds xs h ha
    exact ⟨.tup (SqT.of hs) h1, by simpa [D.py, PyData.canLay0] using h2, by simp only [D.py, PyData.depth]; omega⟩
  | @lst a xs ds hs ha =>
    obtain ⟨h1, h2, h3⟩ := shl_all hp ds xs h ha
    exact ⟨.lst (.inl hs) h1, by simpa [D.py, PyData.canLay0] using h2, by simp only [D.py, PyData.depth]; omega⟩
theorem sh_ok : ShOk D.sh 6 := shl_ok (shl_ok (shl_ok (shl_ok (shl_ok sh0_ok))))
mutual
theorem Dp.mono3 {K : PySem.W.Frag} {F F' : Hp} (e : Same F F') : ∀ (d : PyData) (v : V), Dp K F v d → Dp K F' v d
  | .none, _, h => by cases h; exact .non
  | .bool _, _, h => by cases h; exact .bl _
  | .int _, _, h => by cases h; exact .int _
  | .str _, _, h => by cases h; exact .str _
  | .list ds, _, h => by
    cases h with
    | lst hs ha => exact .lst (e.seq hs) (DpAll.mono3 e ds _ ha)
  | .tuple ds, _, h => by
    cases h with
    | tup hs ha => exact .tup (sameT e hs) (DpAll.mono3 e ds _ ha)
  | .dict _, _, h => by cases h
theorem DpAll.mono3 {K : PySem.W.Frag} {F F' : Hp} (e : Same F F') : ∀ (ds : List PyData) (vs : List V), DpAll K F vs ds → DpAll K F' vs ds
  | [], _, h => by cases h; exact .nil
  | d :: ds, _, h => by
    cases h with
    | cons h1 h2 => exact .cons (Dp.mono3 e d _ h1) (DpAll.mono3 e ds _ h2)
end
theorem sh_H {K : PySem.W.Frag} {F H : Hp} {d : D} {v : V} (s : Same F H) (h : d.sh = true) (r : RepH K F H d v) : Dp K H v d.py ∧ SeqAt.shaped d.py = true := by
  have fin : ∀ {d : D}, Dp K H v d.py ∧ d.py.canLay0 = true ∧ d.py.depth ≤ 6 → Dp K H v d.py ∧ SeqAt.shaped d.py = true := fun {d} ⟨a, b, c⟩ => ⟨a, by unfold SeqAt.shaped; rw [b, Bool.true_and]; exact decide_eq_true (by omega)⟩
  rcases r with r | ⟨a, o, rfl, h1, h2⟩
  · obtain ⟨q1, q2, q3⟩ := sh_ok K F d v h r
    exact fin ⟨Dp.mono3 s _ _ q1, q2, q3⟩
  · obtain ⟨ds, rfl⟩ : ∃ ds, d = .lst ds := by
      cases d with
      | lst ds => exact ⟨ds, rfl⟩
      | dcT ks ds => cases h
      | dcK ks ds => cases h
      | _ => exact h2.elim
    obtain ⟨xs, rfl, h2⟩ := h2
    obtain ⟨q1, q2, q3⟩ := shl_all (shl_ok (shl_ok (shl_ok (shl_ok sh0_ok)))) ds xs h (RepL.mono s _ _ h2)
    refine fin (d := .lst ds) ⟨.lst (SqL.of h1) q1, by simpa [D.py, PyData.canLay0] using q2, by simp only [D.py, PyData.depth]; omega⟩
theorem RepH.lst {K : PySem.W.Frag} {F H : Hp} {ds : List D} {v : V} (r : RepH K F H (.lst ds) v) (s : Same F H) : ∃ a xs, v = .ref a ∧ Rd H a (.lst xs) ∧ RepL K F ds xs := by
  rcases r with r | ⟨a, o, rfl, h1, h2⟩
  · cases r with
    | lst hs ha => exact ⟨_, _, rfl, sameR s hs, ha⟩
  · obtain ⟨xs, rfl, h2⟩ := h2
    exact ⟨a, xs, rfl, Rd.of h1, h2⟩
theorem RepH.dct {K : PySem.W.Frag} {F H : Hp} {ks : List (List Key)} {ds : List D} {v : V} (r : RepH K F H (.dcT ks ds) v) (s : Same F H) : ∃ a ob xs, v = .ref a ∧ H a = some (.frz ob (.dT (ks.zip xs))) ∧ ks.length = xs.length ∧ RepL K F ds xs := by
  rcases r with r | ⟨a, o, rfl, h1, h2⟩
  · cases r with
    | dcT e hl ha => exact ⟨_, _, _, rfl, s _ _ e, hl, ha⟩
  · obtain ⟨ob, xs, rfl, hl, h2⟩ := h2
    exact ⟨a, ob, xs, rfl, h1, hl, h2⟩
theorem RepH.dck {K : PySem.W.Frag} {F H : Hp} {ks : List Key} {ds : List D} {v : V} (r : RepH K F H (.dcK ks ds) v) (s : Same F H) : ∃ a ob xs, v = .ref a ∧ H a = some (.frz ob (.dK (ks.zip xs))) ∧ ks.length = xs.length ∧ RepL K F ds xs := by
  rcases r with r | ⟨a, o, rfl, h1, h2⟩
  · cases r with
    | dcK e hl ha => exact ⟨_, _, _, rfl, s _ _ e, hl, ha⟩
  · obtain ⟨ob, xs, rfl, hl, h2⟩ := h2
    exact ⟨a, ob, xs, rfl, h1, hl, h2⟩
/-- a dict -/
def D.isDc : D → Bool
  | .dcT _ _ => true
  | .dcK _ _ => true
  | _ => false
theorem RepH.val {K : PySem.W.Frag} {F H : Hp} {d : D} {v : V} (r : RepH K F H d v) (n : ∀ ds, d ≠ .lst ds) (m : d.isDc = false := by rfl) : Rep K F d v := by
  rcases r with r | ⟨a, o, rfl, h1, h2⟩
  · exact r
  · cases d with
    | lst ds => exact absurd rfl (n ds)
    | dcT ks ds => cases m
    | dcK ks ds => cases m
    | _ => exact h2.elim
theorem RepH.tup {K : PySem.W.Frag} {F H : Hp} {ds : List D} {v : V} (r : RepH K F H (.tup ds) v) (s : Same F H) : ∃ a xs, v = .ref a ∧ SqT K H a xs ∧ RepL K F ds xs := by
  cases r.val (fun _ q => nomatch q) with
  | tup hs ha => exact ⟨_, _, rfl, SqT.of (s _ _ hs), ha⟩
/-- a tuple as it stands in the heap -/
theorem RepH.tupX {K : PySem.W.Frag} {F H : Hp} {ds : List D} {v : V} (r : RepH K F H (.tup ds) v) (s : Same F H) : ∃ a xs, v = .ref a ∧ H a = some (.tup xs) ∧ RepL K F ds xs := by
  cases r.val (fun _ q => nomatch q) with
  | tup hs ha => exact ⟨_, _, rfl, s _ _ hs, ha⟩
theorem RepH.ktp {K : PySem.W.Frag} {F H : Hp} {ns : List Int} {v : V} (r : RepH K F H (.ktp ns) v) (s : Same F H) : ∃ a, v = .ref a ∧ SqT K H a (ns.map V.int) := by
  cases r.val (fun _ q => nomatch q) with
  | ktp hs => exact ⟨_, rfl, sameT s hs⟩
theorem ktp_dp {K : PySem.W.Frag} {H : Hp} {a : Addr} {ns : List Int} (h : SqT K H a (ns.map V.int)) : Dp K H (.ref a) (D.tup (ns.map D.int)).py ∧ SeqAt.shaped (D.tup (ns.map D.int)).py = true := by
  have e : (ns.map D.int).all sh0 = true := List.all_eq_true.mpr fun d hd => by
    obtain ⟨i, _, rfl⟩ := List.mem_map.mp hd
    rfl
  obtain ⟨h1, h2, h3⟩ := shl_all sh0_ok (ns.map D.int) (ns.map V.int) e (RepL.ints (K := K) (F := H) ns)
  refine ⟨.tup h h1, ?_⟩
  unfold SeqAt.shaped
  rw [Bool.and_eq_true]
  exact ⟨by simpa [D.py, PyData.canLay0] using h2, decide_eq_true (by simp only [D.py, PyData.depth]; omega)⟩
theorem RepH.int {K : PySem.W.Frag} {F H : Hp} {i : Int} {v : V} (r : RepH K F H (.int i) v) : v = .int i := by
  cases r.val (fun _ q => nomatch q); rfl
theorem RepH.bl {K : PySem.W.Frag} {F H : Hp} {i : Bool} {v : V} (r : RepH K F H (.bl i) v) : v = .bl i := by
  cases r.val (fun _ q => nomatch q); rfl
theorem RepH.str {K : PySem.W.Frag} {F H : Hp} {i : Str} {v : V} (r : RepH K F H (.str i) v) : v = .str i := by
  cases r.val (fun _ q => nomatch q); rfl
theorem RepH.non {K : PySem.W.Frag} {F H : Hp} {v : V} (r : RepH K F H .non v) : v = .non := by
  cases r.val (fun _ q => nomatch q); rfl
end L3

set_option Elab.async false
set_option maxRecDepth 100000
set_option maxHeartbeats 4000000
/-! L3, part g: operators, subscripts, built-ins over plain values. -/
namespace L3
open PySem PySem.Spec PyProof.Rows L2
section
variable {X : Cx} {B : Base3}
/-! ### list + list, list * int: also of a list that is locked -/
def rCatR : R2 := fun x y H Q => ∃ l b xs zs, x = .ref l ∧ y = .ref b ∧ Rd H l (.lst xs) ∧ Rd H b (.lst zs) ∧ xs.length + zs.length ≤ sizeLine ∧ ∀ p, H p = none → Q (.ref p) (upd H p (.lst (xs ++ zs)))
theorem op_catR : OpR X (binaryOp .Add) rCatR := by
  intro pins s σ H x y v u Q I rx ry h
  obtain ⟨l, b, xs, zs, rfl, rfl, hH, hB, hz, q⟩ := h
  cases rx
  cases ry
  obtain ⟨z, its, n, r, e⟩ := hH.ok I.hok
  obtain ⟨z2, its2, n2, r2, e2⟩ := hB.ok I.hok
  have hl := r.length
  have hl2 := r2.length
  refine PySem.P.add_list e e2 ?_ (by rw [List.size_toArray, List.size_toArray]; omega)
  have ea : its.toArray ++ its2.toArray = (its ++ its2).toArray := by simp
  rw [ea]
  exact ⟨.ref _, _, I.lnew (t' := s.toks) (r.append r2) (by rw [List.length_append]; omega), rfl, q _ I.fresh⟩
def rRepR : R2 := fun x y H Q => ∃ l k xs, x = .ref l ∧ y = .int k ∧ Rd H l (.lst xs) ∧ -(2 ^ 63) ≤ k ∧ k < 2 ^ 63 ∧ xs.length * k.toNat ≤ sizeLine ∧
  ∀ p, H p = none → Q (.ref p) (upd H p (.lst (List.replicate k.toNat xs).flatten))
theorem op_repR : OpR X (binaryOp .Mult) rRepR := by
  intro pins s σ H x y v u Q I rx ry h
  obtain ⟨l, k, xs, rfl, rfl, hH, h1, h2, hz, q⟩ := h
  cases rx
  obtain ⟨t, rfl⟩ := ry
  obtain ⟨z, its, n, r, e⟩ := hH.ok I.hok
  have hl := r.length
  have hlen : its.toArray.size * k.toNat ≤ sizeLine := by rw [List.size_toArray, ← hl]; exact hz
  have hcap : ¬ its.toArray.size * k.toNat > (2 ^ 63 - 1) / 8 := by
    have : (sizeLine : Nat) ≤ (2 ^ 63 - 1) / 8 := by decide
    omega
  have hfit : ¬ (!Builtin.List.listFitsIndex k) = true := by
    rw [fitsIndex_both h1 h2]
    exact Bool.false_ne_true
  have hlong : ¬ Builtin.List.listTooLong (its.toArray.size * k.toNat) = true := by
    rw [notLongL hlen]
    exact Bool.false_ne_true
  have hnew : List.foldl (fun x1 x2 => x1 ++ x2) #[] (List.replicate (if its.toArray.isEmpty = true then 0 else k.toNat) its.toArray) = (List.replicate k.toNat its).flatten.toArray := by
    have f0 : ∀ m : Nat, List.foldl (fun x1 x2 => x1 ++ x2) #[] (List.replicate m its.toArray) = (List.replicate m its).flatten.toArray := fun m => by
      have := foldl_rep its m []
      rw [List.nil_append] at this
      exact this
    rw [f0]
    cases its with
    | nil => simp
    | cons a r' => rw [if_neg (by simp)]
  refine wpAny_binaryOp_repeat_ref (T := "list") (U := "int") (by decide) ⟨_, e, rfl⟩ (fun s' => typeIs_int s' k t) noFill_list_mul F.fills_int_mul F.slot_int_rmul repeat_list F.slot_int_index.lookup
    (call_meets F.slot_int_rmul (typeIs_int s k t) F.entry_int_rmul (F.args_int_rmul_2 _ _) (int___rmul___int_list k t l its.toArray n)
      ⟨e, rfl, ⟨_, e, rfl⟩, call_meets F.slot_list_mul ⟨_, e, rfl⟩ F.entry_list_mul (F.args_list_mul_2 _ _) (AutoListH.list___mul___list_int_3 l its.toArray n k t hfit hcap hlong) ⟨e, ?_⟩⟩)
  rw [hnew]
  exact ⟨.ref _, _, I.lnew (t' := s.toks) (r.rep k.toNat) (by rw [PyProof.Rows.lm_len_rep_flat, Nat.mul_comm]; exact hz), rfl, q _ I.fresh⟩

/-! ### + - * // % ** -/
def oAdd : Reg → D → D → (Res → Prop) → Prop := fun _ d e k => match d, e with
  | .int i, .int j => k (.val (.int (i + j)))
  | .str a, .str b => a.length + b.length ≤ sizeLine ∧ k (.val (.str (a ++ b)))
  | .tup a, .tup b => a.length + b.length ≤ sizeLine ∧ k (.val (.tup (a ++ b)))
  | .lst a, .lst b => a.length + b.length ≤ sizeLine ∧ k (.fr (a ++ b))
  | _, _ => False
def rAdd3 (K : PySem.W.Frag) : R2 := fun x y H Q => rI0 (fun i j => .int (i + j)) x y H Q ∨ (∃ i j, x = .str i ∧ y = .str j ∧ i.length + j.length ≤ sizeLine ∧ Q (.str (i ++ j)) H) ∨ rCatA K x y H Q ∨ rCatR x y H Q
theorem op_add3 : OpR X (binaryOp .Add) (rAdd3 X.K) := op_add.or (op_add_str.or (op_catA.or op_catR))
theorem r_add3 : ROp X B (rAdd3 X.K) oAdd := by
  intro pn F H σ E G x y d e k Q S rx ry h hk
  unfold oAdd at h
  split at h
  · rw [rx.int, ry.int]
    exact .inl ⟨_, _, rfl, rfl, hk _ h _ F H S (Same.refl F) (.int _)⟩
  · rw [rx.str, ry.str]
    exact .inr (.inl ⟨_, _, rfl, rfl, h.1, hk _ h.2 _ F H S (Same.refl F) (.str _)⟩)
  · rename_i a b
    obtain ⟨p, xs, rfl, hs, ra⟩ := rx.tup S.w.sub
    obtain ⟨p2, ys, rfl, hs2, rb⟩ := ry.tup S.w.sub
    have rx' := rx.val (fun _ q => nomatch q)
    have ry' := ry.val (fun _ q => nomatch q)
    refine .inr (.inr (.inl ⟨p, p2, xs, ys, rfl, rfl, hs, hs2, by rw [← ra.length, ← rb.length]; exact h.1, fun e => ?_, fun _ e => ?_, fun _ _ q nq => ?_⟩))
    · have ea : a = [] := by cases a with | nil => rfl | cons _ _ => rw [e] at ra; cases ra
      subst ea
      exact hk _ h.2 _ F H S (Same.refl F) ry'
    · have eb : b = [] := by cases b with | nil => rfl | cons _ _ => rw [e] at rb; cases rb
      subst eb
      rw [List.append_nil] at h
      exact hk _ h.2 _ F H S (Same.refl F) rx'
    · obtain ⟨S2, s2⟩ := S.newF (o := .tup (xs ++ ys)) nq
      exact hk _ h.2 _ _ _ S2 s2 (.tup upd_same (RepL.mono s2 _ _ (ra.append rb)))
  · obtain ⟨p, xs, rfl, hs, ra⟩ := rx.lst S.w.sub
    obtain ⟨p2, ys, rfl, hs2, rb⟩ := ry.lst S.w.sub
    refine .inr (.inr (.inr ⟨p, p2, xs, ys, rfl, rfl, hs, hs2, by rw [← ra.length, ← rb.length]; exact h.1, fun q nq => ?_⟩))
    obtain ⟨f, no⟩ := S.newFre nq (ra.append rb)
    exact hk _ h.2 _ _ _ (S.newU nq) (Same.refl F) ⟨q, rfl, f, no⟩
  · exact h.elim
theorem le_add {a b : Expr} {ta tb : DE} {pos} (ha : LE X B a ta) (hb : LE X B b tb) : LE X B (.BinOp a .Add b pos) (dOp oAdd ta tb) := le_op op_add3 r_add3 ha hb

def oSub : Reg → D → D → (Res → Prop) → Prop := fun _ d e k => match d, e with
  | .int i, .int j => k (.val (.int (i - j)))
  | _, _ => False
/-- an operator of ints -/
theorem r_ii {C : Int → Int → Prop} {g : Int → Int → Int} {rd : Reg → D → D → (Res → Prop) → Prop} (h : ∀ G d e k, rd G d e k → ∃ i j, d = .int i ∧ e = .int j ∧ C i j ∧ k (.val (.int (g i j)))) : ROp X B (rI C fun i j => .int (g i j)) rd := by
  intro pn F H σ E G x y d e k Q S rx ry hr hk
  obtain ⟨i, j, rfl, rfl, hc, q⟩ := h _ _ _ _ hr
  exact ⟨i, j, rx.int, ry.int, hc, hk _ q _ F H S (Same.refl F) (.int _)⟩
theorem r_ii0 {g : Int → Int → Int} {rd : Reg → D → D → (Res → Prop) → Prop} (h : ∀ G d e k, rd G d e k → ∃ i j, d = .int i ∧ e = .int j ∧ k (.val (.int (g i j)))) : ROp X B (rI0 fun i j => .int (g i j)) rd := by
  intro pn F H σ E G x y d e k Q S rx ry hr hk
  obtain ⟨i, j, rfl, rfl, q⟩ := h _ _ _ _ hr
  exact ⟨i, j, rx.int, ry.int, hk _ q _ F H S (Same.refl F) (.int _)⟩
theorem r_ib0 {g : Int → Int → Bool} {rd : Reg → D → D → (Res → Prop) → Prop} (h : ∀ G d e k, rd G d e k → ∃ i j, d = .int i ∧ e = .int j ∧ k (.val (.bl (g i j)))) : ROp X B (rI0 fun i j => .bl (g i j)) rd := by
  intro pn F H σ E G x y d e k Q S rx ry hr hk
  obtain ⟨i, j, rfl, rfl, q⟩ := h _ _ _ _ hr
  exact ⟨i, j, rx.int, ry.int, hk _ q _ F H S (Same.refl F) (.bl _)⟩
theorem r_sub3 : ROp X B (rI0 fun i j => .int (i - j)) oSub := r_ii0 fun G d e k h => by
  unfold oSub at h
  split at h
  · exact ⟨_, _, rfl, rfl, h⟩
  · exact h.elim
theorem le_sub {a b : Expr} {ta tb : DE} {pos} (ha : LE X B a ta) (hb : LE X B b tb) : LE X B (.BinOp a .Sub b pos) (dOp oSub ta tb) := le_op op_sub r_sub3 ha hb

/-- a product's size: one factor within 2 ^ 64, or both together below a million bits -/
def MulOk (i j : Int) : Prop := CMul i j ∨ CMulW i j
theorem op_mulI : OpR X (binaryOp .Mult) (rI MulOk fun i j => .int (i * j)) := by
  intro pins s σ H x y v u Q I rx ry h
  obtain ⟨i, j, rfl, rfl, hc, q⟩ := h
  rcases hc with hc | hc
  · exact op_mul pins s σ H _ _ v u Q I rx ry ⟨i, j, rfl, rfl, hc, q⟩
  · exact op_mulW pins s σ H _ _ v u Q I rx ry ⟨i, j, rfl, rfl, hc, q⟩
/-- the built-in at count one hands the tuple itself back -/
theorem tup_times_one (l : Addr) (its : Array Value) (n : Nat) (dd : Option Addr) (sl : Array (Option Value)) (u : Tok) :
    Meets (Builtin.«tuple.__mul__» ⟨[Value.ref l, Value.int 1 u], []⟩) (fun _ R s =>
      s.heap.get? l = some ⟨.type "tuple", dd, .seq its n, sl⟩ ∧ R (.ok (.ret (Value.ref l))) s) := by
  refine .of_wp fun prog w A R s h => ?_
  obtain ⟨hp, g, d, tk, os⟩ := s
  obtain ⟨hl, h⟩ := h
  have f1 := AutoSeq1.idx_int
  wp_walk using wpAny_loadPart' hl
  exact ⟨_, rfl, h⟩
theorem tup_times_none (l : Addr) (its : Array Value) (n : Nat) (dd : Option Addr) (sl : Array (Option Value)) (u : Tok) (hn : its.isEmpty = false) :
    Meets (Builtin.«tuple.__mul__» ⟨[Value.ref l, Value.int 0 u], []⟩) (fun _ R s =>
      s.heap.get? l = some ⟨.type "tuple", dd, .seq its n, sl⟩ ∧
      R (.ok (.ret (Value.ref s.heap.objs.size))) { s with heap := s.heap.push { cls := Value.type "tuple", data := Data.seq #[] }, toks := s.toks }) := by
  refine .of_wp fun prog w A R s h => ?_
  obtain ⟨hp, g, d, tk, os⟩ := s
  obtain ⟨hl, h⟩ := h
  have f1 := AutoSeq1.idx_int
  wp_walk using wpAny_loadPart' hl
  exact ⟨_, rfl, h⟩
def rRep01 (K : PySem.W.Frag) : R2 := fun x y H Q => ∃ l k xs, x = .ref l ∧ y = .int k ∧ SqT K H l xs ∧ xs ≠ [] ∧ (k = 1 ∧ Q (.ref l) H ∨ k = 0 ∧ ∀ p, H p = none → Q (.ref p) (upd H p (.tup [])))
theorem op_rep01 : OpR X (binaryOp .Mult) (rRep01 X.K) := by
  intro ps s σ H x y v u Q I rx ry hc
  obtain ⟨l, k, xs, rfl, rfl, sq, ne, hc⟩ := hc
  cases rx
  obtain ⟨t, rfl⟩ := ry
  obtain ⟨its, rr, ⟨⟨cl, dd, dt, sl⟩, g, c1, n, c2⟩, -⟩ := I.tuple sq
  simp only at c1 c2
  subst c1 c2
  have nn : its.toArray.isEmpty = false := by
    cases its with
    | nil => cases rr; exact absurd rfl ne
    | cons a b => rfl
  rcases hc with ⟨rfl, q⟩ | ⟨rfl, q⟩
  · exact wpAny_binaryOp_repeat_ref (T := "tuple") (U := "int") (by decide) ⟨_, g, rfl⟩ (fun _ => typeIs_int _ _ _) noFill_tuple_mul F.fills_int_mul F.slot_int_rmul repeat_tuple F.slot_int_index.lookup
      (call_meets F.slot_int_rmul (typeIs_int _ _ _) F.entry_int_rmul (F.args_int_rmul_2 _ _) (int_rmul_tuple _ _ _ _ _ _ _)
        ⟨g, rfl, ⟨_, g, rfl⟩, call_meets F.slot_tuple_mul ⟨_, g, rfl⟩ F.entry_tuple_mul (F.args_tuple_mul_2 _ _) (tup_times_one _ _ _ _ _ _)
          ⟨g, .ref l, _, I, rfl, q⟩⟩)
  · exact wpAny_binaryOp_repeat_ref (T := "tuple") (U := "int") (by decide) ⟨_, g, rfl⟩ (fun _ => typeIs_int _ _ _) noFill_tuple_mul F.fills_int_mul F.slot_int_rmul repeat_tuple F.slot_int_index.lookup
      (call_meets F.slot_int_rmul (typeIs_int _ _ _) F.entry_int_rmul (F.args_int_rmul_2 _ _) (int_rmul_tuple _ _ _ _ _ _ _)
        ⟨g, rfl, ⟨_, g, rfl⟩, call_meets F.slot_tuple_mul ⟨_, g, rfl⟩ F.entry_tuple_mul (F.args_tuple_mul_2 _ _) (tup_times_none _ _ _ _ _ _ nn)
          ⟨g, .ref s.heap.objs.size, _, I.laid (t' := s.toks) (o := .tup []) (fun b ob q => Heap.get?_push_of_some _ q) (Nat.le_refl _) ⟨by decide, _, .nil, IsTup.new _ _⟩, rfl, q _ (I.hok.fresh (Nat.le_refl _))⟩⟩)
def oMul : Reg → D → D → (Res → Prop) → Prop := fun _ d e k => match d, e with
  | .int i, .int j => MulOk i j ∧ k (.val (.int (i * j)))
  | .lst a, .int j => -(2 ^ 63) ≤ j ∧ j < 2 ^ 63 ∧ a.length * j.toNat ≤ sizeLine ∧ k (.fr (List.replicate j.toNat a).flatten)
  | .tup a, .int j => a ≠ [] ∧ 0 ≤ j ∧ j ≤ 1000 ∧ a.length ≤ 1000 ∧ k (.val (.tup (List.replicate j.toNat a).flatten))
  | _, _ => False
def rMul3 (K : PySem.W.Frag) : R2 := fun x y H Q => rI MulOk (fun i j => .int (i * j)) x y H Q ∨ rRepR x y H Q ∨ rRepT K x y H Q ∨ rRep01 K x y H Q
theorem op_mul3 : OpR X (binaryOp .Mult) (rMul3 X.K) := op_mulI.or (op_repR.or (op_repT.or op_rep01))
theorem r_mul3 : ROp X B (rMul3 X.K) oMul := by
  intro pn F H σ E G x y d e k Q S rx ry h hk
  unfold oMul at h
  split at h
  · exact .inl ⟨_, _, rx.int, ry.int, h.1, hk _ h.2 _ F H S (Same.refl F) (.int _)⟩
  · obtain ⟨h1, h2, h3, h4⟩ := h
    obtain ⟨p, xs, rfl, hs, ra⟩ := rx.lst S.w.sub
    refine .inr (.inl ⟨p, _, xs, rfl, ry.int, hs, h1, h2, by rw [← ra.length]; exact h3, fun q nq => ?_⟩)
    obtain ⟨f, no⟩ := S.newFre nq (ra.rep _)
    exact hk _ h4 _ _ _ (S.newU nq) (Same.refl F) ⟨q, rfl, f, no⟩
  · rename_i a j
    obtain ⟨h0, h1, h2, h3, h4⟩ := h
    obtain ⟨p, xs, rfl, hs, ra⟩ := rx.tup S.w.sub
    have hne : xs ≠ [] := fun e => h0 (by rw [e] at ra; cases ra; rfl)
    rcases (by omega : j = 0 ∨ j = 1 ∨ 2 ≤ j) with rfl | rfl | h1
    · refine .inr (.inr (.inr ⟨p, _, xs, rfl, ry.int, hs, hne, .inr ⟨rfl, fun q nq => ?_⟩⟩))
      obtain ⟨S2, s2⟩ := S.newF nq
      exact hk _ h4 _ _ _ S2 s2 (.tup upd_same .nil)
    · rw [show (List.replicate (Int.toNat 1) a).flatten = a from by simp [List.replicate]] at h4
      exact .inr (.inr (.inr ⟨p, _, xs, rfl, ry.int, hs, hne, .inl ⟨rfl, hk _ h4 _ _ _ S (Same.refl F) (rx.val (fun _ q => nomatch q))⟩⟩))
    refine .inr (.inr (.inl ⟨p, _, xs, rfl, ry.int, hs, hne, h1, h2, by rw [← ra.length]; exact h3, fun q nq => ?_⟩))
    · obtain ⟨S2, s2⟩ := S.newF nq
      exact hk _ h4 _ _ _ S2 s2 (.tup upd_same (RepL.mono s2 _ _ (ra.rep _)))
  · exact h.elim
theorem le_mul {a b : Expr} {ta tb : DE} {pos} (ha : LE X B a ta) (hb : LE X B b tb) : LE X B (.BinOp a .Mult b pos) (dOp oMul ta tb) := le_op op_mul3 r_mul3 ha hb
def oFdiv : Reg → D → D → (Res → Prop) → Prop := fun _ d e k => match d, e with
  | .int i, .int j => CDivW i j ∧ k (.val (.int (i / j)))
  | _, _ => False
theorem r_fdiv3 : ROp X B (rI CDivW fun i j => .int (i / j)) oFdiv := r_ii fun G d e k h => by
  unfold oFdiv at h
  split at h
  · exact ⟨_, _, rfl, rfl, h.1, h.2⟩
  · exact h.elim
theorem le_fdiv {a b : Expr} {ta tb : DE} {pos} (ha : LE X B a ta) (hb : LE X B b tb) : LE X B (.BinOp a .FloorDiv b pos) (dOp oFdiv ta tb) := le_op op_fdivW r_fdiv3 ha hb
def oMod : Reg → D → D → (Res → Prop) → Prop := fun _ d e k => match d, e with
  | .int i, .int j => 0 < j ∧ k (.val (.int (i % j)))
  | _, _ => False
theorem r_mod3 : ROp X B (rI (fun _ j => 0 < j) fun i j => .int (i % j)) oMod := r_ii fun G d e k h => by
  unfold oMod at h
  split at h
  · exact ⟨_, _, rfl, rfl, h.1, h.2⟩
  · exact h.elim
theorem le_mod {a b : Expr} {ta tb : DE} {pos} (ha : LE X B a ta) (hb : LE X B b tb) : LE X B (.BinOp a .Mod b pos) (dOp oMod ta tb) := le_op op_mod r_mod3 ha hb
/-- .. by a divisor of any sign -/
def oModN : Reg → D → D → (Res → Prop) → Prop := fun _ d e k => match d, e with
  | .int i, .int j => j ≠ 0 ∧ k (.val (.int (i.fmod j)))
  | _, _ => False
def oPow : Reg → D → D → (Res → Prop) → Prop := fun _ d e k => match d, e with
  | .int i, .int j => CPow i j ∧ k (.val (.int (i ^ j.toNat)))
  | _, _ => False
theorem r_pow3 : ROp X B (rI CPow fun i j => .int (i ^ j.toNat)) oPow := r_ii fun G d e k h => by
  unfold oPow at h
  split at h
  · exact ⟨_, _, rfl, rfl, h.1, h.2⟩
  · exact h.elim
theorem le_pow {a b : Expr} {ta tb : DE} {pos} (ha : LE X B a ta) (hb : LE X B b tb) : LE X B (.BinOp a .Pow b pos) (dOp oPow ta tb) := le_op op_pow r_pow3 ha hb

/-! ### order -/
def oCmpI (p : Int → Int → Bool) : Reg → D → D → (Res → Prop) → Prop := fun _ d e k => match d, e with
  | .int i, .int j => k (.val (.bl (p i j)))
  | _, _ => False
theorem r_cmpI {p : Int → Int → Bool} : ROp X B (rI0 fun i j => .bl (p i j)) (oCmpI p) := r_ib0 fun G d e k h => by
  unfold oCmpI at h
  split at h
  · exact ⟨_, _, rfl, rfl, h⟩
  · exact h.elim
abbrev oLt := oCmpI fun i j => decide (i < j)
abbrev oLe := oCmpI fun i j => decide (i ≤ j)
abbrev oGt := oCmpI fun i j => decide (j < i)
abbrev oGe := oCmpI fun i j => decide (j ≤ i)

/-! ### ==, in, is -/
def oEq : Reg → D → D → (Res → Prop) → Prop := fun _ d e k => d.sh = true ∧ e.sh = true ∧ k (.val (.bl (D.eqv d e)))
def oNe : Reg → D → D → (Res → Prop) → Prop := fun _ d e k => d.sh = true ∧ e.sh = true ∧ k (.val (.bl (!D.eqv d e)))
theorem r_eq3 : ROp X B (rEqD X.K) oEq := by
  intro pn F H σ E G x y d e k Q S rx ry ⟨h1, h2, h⟩ hk
  obtain ⟨a1, a2⟩ := sh_H S.w.sub h1 rx
  obtain ⟨b1, b2⟩ := sh_H S.w.sub h2 ry
  exact ⟨_, _, a1, b1, a2, b2, hk _ h _ F H S (Same.refl F) (.bl _)⟩
theorem r_ne3 : ROp X B (rNeD X.K) oNe := by
  intro pn F H σ E G x y d e k Q S rx ry ⟨h1, h2, h⟩ hk
  obtain ⟨a1, a2⟩ := sh_H S.w.sub h1 rx
  obtain ⟨b1, b2⟩ := sh_H S.w.sub h2 ry
  exact ⟨_, _, a1, b1, a2, b2, hk _ h _ F H S (Same.refl F) (.bl _)⟩
def rInT (K : PySem.W.Frag) (neg : Bool) : R2 := fun x y H Q => ∃ d ds, Dp K H x d ∧ Dp K H y (.tuple ds) ∧ SeqAt.shaped d = true ∧ SeqAt.shaped (.tuple ds) = true ∧ Q (.bl (if neg then !ds.any fun z => PyData.eqv z d else ds.any fun z => PyData.eqv z d)) H
theorem roomT {A : Around} {d : PyData} {ds : List PyData} (sd : SeqAt.shaped d = true) (hu : A.units + 65 < cLine) : A.units + 1 + min (PyData.depthAll ds) d.depth < cLine := by
  have h1 := SeqAt.depth_of_shaped sd
  have h2 : min (PyData.depthAll ds) d.depth ≤ d.depth := Nat.min_le_right _ _
  omega
theorem op_inT (hu : X.A.units + 65 < cLine) : OpR X (compareOp .In) (rInT X.K false) := by
  intro pins s σ H x y v u Q I rx ry h
  obtain ⟨d, ds, hd, he, sd, se, q⟩ := h
  obtain ⟨as, r1⟩ := Dp.reads I d x v hd rx
  obtain ⟨bs, r2⟩ := Dp.reads I (.tuple ds) y u he ry
  exact SeqAt.in_tuple_reads r2 r1 (SeqAt.canLay_of_shaped se) (SeqAt.canLay_of_shaped sd) (roomT sd hu) ⟨.bl _, H, I, rfl, q⟩
theorem op_notInT (hu : X.A.units + 65 < cLine) : OpR X (compareOp .NotIn) (rInT X.K true) := by
  intro pins s σ H x y v u Q I rx ry h
  obtain ⟨d, ds, hd, he, sd, se, q⟩ := h
  obtain ⟨as, r1⟩ := Dp.reads I d x v hd rx
  obtain ⟨bs, r2⟩ := Dp.reads I (.tuple ds) y u he ry
  exact SeqAt.notIn_tuple_reads r2 r1 (SeqAt.canLay_of_shaped se) (SeqAt.canLay_of_shaped sd) (roomT sd hu) ⟨.bl _, H, I, rfl, q⟩
def D.among (d : D) (ds : List D) : Bool := ds.any fun z => D.eqv z d
theorem any_py (d : D) (ds : List D) : ((pyL ds).any fun z => PyData.eqv z d.py) = d.among ds := by
  rw [pyL_map, List.any_map]; rfl
def oIn (neg : Bool) : Reg → D → D → (Res → Prop) → Prop := fun _ d e k => match e with
  | .lst ds => d.sh = true ∧ (D.lst ds).sh = true ∧ k (.val (.bl (if neg then !d.among ds else d.among ds)))
  | .tup ds => d.sh = true ∧ (D.tup ds).sh = true ∧ k (.val (.bl (if neg then !d.among ds else d.among ds)))
  | .str z => ∃ c : Nat, d = .str ⟨#[c]⟩ ∧ k (.val (.bl (if neg then !decide (c ∈ z.cps.toList) else decide (c ∈ z.cps.toList))))
  | .ktp ns => d.sh = true ∧ k (.val (.bl (if neg then !d.among (ns.map D.int) else d.among (ns.map D.int))))
  | _ => False
def rIn3 (K : PySem.W.Frag) : R2 := fun x y H Q => rInD K x y H Q ∨ rInT K false x y H Q ∨ ∃ (c : Nat) (z : Str), x = .str ⟨#[c]⟩ ∧ y = .str z ∧ Q (.bl (decide (c ∈ z.cps.toList))) H
def rNotIn3 (K : PySem.W.Frag) : R2 := fun x y H Q => rNotInD K x y H Q ∨ rInT K true x y H Q ∨ ∃ (c : Nat) (z : Str), x = .str ⟨#[c]⟩ ∧ y = .str z ∧ Q (.bl (!decide (c ∈ z.cps.toList))) H
theorem op_in3 (hu : X.A.units + 65 < cLine) : OpR X (compareOp .In) (rIn3 X.K) := (op_inD hu).or ((op_inT hu).or op_in_sign)
theorem op_notIn3 (hu : X.A.units + 65 < cLine) : OpR X (compareOp .NotIn) (rNotIn3 X.K) := (op_notInD hu).or ((op_notInT hu).or op_notIn_sign)
theorem r_in3 : ROp X B (rIn3 X.K) (oIn false) := by
  intro pn F H σ E G x y d e k Q S rx ry h hk
  unfold oIn at h
  split at h
  · obtain ⟨h1, h2, h⟩ := h
    obtain ⟨a1, a2⟩ := sh_H S.w.sub h1 rx
    obtain ⟨b1, b2⟩ := sh_H S.w.sub h2 ry
    refine .inl ⟨_, _, a1, b1, a2, b2, ?_⟩
    rw [any_py]
    exact hk _ h _ F H S (Same.refl F) (.bl _)
  · obtain ⟨h1, h2, h⟩ := h
    obtain ⟨a1, a2⟩ := sh_H S.w.sub h1 rx
    obtain ⟨b1, b2⟩ := sh_H S.w.sub h2 ry
    refine .inr (.inl ⟨_, _, a1, b1, a2, b2, ?_⟩)
    rw [any_py]
    exact hk _ h _ F H S (Same.refl F) (.bl _)
  · obtain ⟨c, rfl, h⟩ := h
    exact .inr (.inr ⟨c, _, rx.str, ry.str, hk _ h _ F H S (Same.refl F) (.bl _)⟩)
  · obtain ⟨h1, h⟩ := h
    obtain ⟨a1, a2⟩ := sh_H S.w.sub h1 rx
    obtain ⟨a, rfl, hs⟩ := ry.ktp S.w.sub
    obtain ⟨b1, b2⟩ := ktp_dp hs
    refine .inr (.inl ⟨_, _, a1, b1, a2, b2, ?_⟩)
    rw [any_py]
    exact hk _ h _ F H S (Same.refl F) (.bl _)
  · exact h.elim
theorem r_notIn3 : ROp X B (rNotIn3 X.K) (oIn true) := by
  intro pn F H σ E G x y d e k Q S rx ry h hk
  unfold oIn at h
  split at h
  · obtain ⟨h1, h2, h⟩ := h
    obtain ⟨a1, a2⟩ := sh_H S.w.sub h1 rx
    obtain ⟨b1, b2⟩ := sh_H S.w.sub h2 ry
    refine .inl ⟨_, _, a1, b1, a2, b2, ?_⟩
    rw [any_py]
    exact hk _ h _ F H S (Same.refl F) (.bl _)
  · obtain ⟨h1, h2, h⟩ := h
    obtain ⟨a1, a2⟩ := sh_H S.w.sub h1 rx
    obtain ⟨b1, b2⟩ := sh_H S.w.sub h2 ry
    refine .inr (.inl ⟨_, _, a1, b1, a2, b2, ?_⟩)
    rw [any_py]
    exact hk _ h _ F H S (Same.refl F) (.bl _)
  · obtain ⟨c, rfl, h⟩ := h
    exact .inr (.inr ⟨c, _, rx.str, ry.str, hk _ h _ F H S (Same.refl F) (.bl _)⟩)
  · obtain ⟨h1, h⟩ := h
    obtain ⟨a1, a2⟩ := sh_H S.w.sub h1 rx
    obtain ⟨a, rfl, hs⟩ := ry.ktp S.w.sub
    obtain ⟨b1, b2⟩ := ktp_dp hs
    refine .inr (.inl ⟨_, _, a1, b1, a2, b2, ?_⟩)
    rw [any_py]
    exact hk _ h _ F H S (Same.refl F) (.bl _)
  · exact h.elim
def D.isN : D → Bool
  | .non => true
  | _ => false
def oIs (neg : Bool) : Reg → D → D → (Res → Prop) → Prop := fun _ d e k => e.isN = true ∧ k (.val (.bl (if neg then !d.isN else d.isN)))
theorem isN_dec {K : PySem.W.Frag} {F H : Hp} {d : D} {v : V} (r : RepH K F H d v) : decide (v = .non) = d.isN := by
  rcases r with r | ⟨a, o, rfl, _, h2⟩
  · cases r <;> first | rfl | exact decide_eq_false (fun q => nomatch q)
  · cases d with
    | non => exact h2.elim
    | _ => exact decide_eq_false (fun q => nomatch q)
theorem isN_eq {d : D} (h : d.isN = true) : d = .non := by
  cases d <;> first | rfl | cases h
theorem r_is3 : ROp X B (fun x y H Q => y = .non ∧ Q (.bl (decide (x = .non))) H) (oIs false) := by
  intro pn F H σ E G x y d e k Q S rx ry ⟨h1, h⟩ hk
  rw [isN_eq h1] at ry
  refine ⟨ry.non, ?_⟩
  rw [isN_dec rx]
  exact hk _ h _ F H S (Same.refl F) (.bl _)
theorem r_isNot3 : ROp X B (fun x y H Q => y = .non ∧ Q (.bl (!decide (x = .non))) H) (oIs true) := by
  intro pn F H σ E G x y d e k Q S rx ry ⟨h1, h⟩ hk
  rw [isN_eq h1] at ry
  refine ⟨ry.non, ?_⟩
  rw [isN_dec rx]
  exact hk _ h _ F H S (Same.refl F) (.bl _)

/-! ### -x -/
def uNeg : D → (Res → Prop) → Prop := fun d k => match d with
  | .int i => k (.val (.int (-i)))
  | _ => False
theorem le_neg {a : Expr} {ta : DE} {pos} (ha : LE X B a ta) : LE X B (.UnaryOp .USub a pos) (dUn uNeg ta) := le_un un_neg (fun pn F H σ E G x d k Q S rx h hk => by
  unfold uNeg at h
  split at h
  · exact ⟨_, rx.int, hk _ h _ F H S (Same.refl F) (.int _)⟩
  · exact h.elim) ha

/-! ### a[i] -/
def oIx : Reg → D → D → (Res → Prop) → Prop := fun G d e k => match d, e with
  | .lst ds, .int i => ∃ v, atI ds i = some v ∧ k (.val v)
  | .tup ds, .int i => ∃ v, atI ds i = some v ∧ k (.val v)
  | .str z, .int i => z.length ≤ sizeLine ∧ ∃ c, atI z.cps.toList i = some c ∧ k (.val (.str ⟨#[c]⟩))
  | .scr ns, .int i => ∃ v, atI ns i = some v ∧ k (.val (.int v))
  | .ref a, .int i => ∃ ds, lookL G a = some ds ∧ ∃ v, atI ds i = some v ∧ k (.val v)
  | _, _ => False
theorem lookup_mem {G : Reg} {a : Addr} {ds : List D} (h : G.lookup a = some ds) : (a, ds) ∈ G := by
  induction G with
  | nil => cases h
  | cons p r ih =>
    rw [List.lookup_cons] at h
    split at h
    · rename_i q
      have e : a = p.1 := by simpa using q
      cases h
      rw [e]
      exact List.mem_cons_self
    · exact List.mem_cons_of_mem _ (ih h)
theorem at_rep {K : PySem.W.Frag} {F : Hp} {ds : List D} {vs : List V} {i : Int} {d : D} (r : RepL K F ds vs) (h : atI ds i = some d) : ∃ v, atI vs i = some v ∧ Rep K F d v := by
  unfold atI at h ⊢
  rw [← r.length]
  cases q : ixN ds.length i with
  | none => rw [q] at h; cases h
  | some j =>
    rw [q] at h
    exact r.get (by simpa using h)
theorem r_ix3 : ROp X B (rIx X.K) oIx := by
  intro pn F H σ E G x y d e k Q S rx ry h hk
  unfold oIx at h
  split at h
  · obtain ⟨v, hv, h⟩ := h
    obtain ⟨p, xs, rfl, hs, ra⟩ := rx.lst S.w.sub
    obtain ⟨u, hu, ru⟩ := at_rep ra hv
    exact .inl ⟨p, xs, _, u, rfl, ry.int, .inl hs, hu, hk _ h _ F H S (Same.refl F) ru⟩
  · obtain ⟨v, hv, h⟩ := h
    obtain ⟨p, xs, rfl, hs, ra⟩ := rx.tup S.w.sub
    obtain ⟨u, hu, ru⟩ := at_rep ra hv
    exact .inr (.inl ⟨p, xs, _, u, rfl, ry.int, hs, hu, hk _ h _ F H S (Same.refl F) ru⟩)
  · obtain ⟨hz, c, hc, h⟩ := h
    exact .inr (.inr ⟨_, _, c, rx.str, ry.int, hz, hc, hk _ h _ F H S (Same.refl F) (.str _)⟩)
  · rename_i ns i
    obtain ⟨v, hv, h⟩ := h
    cases rx.val (fun _ q => nomatch q) with
    | scr hs =>
      have hv' : atI (ns.map V.int) i = some (.int v) := by
        unfold atI at hv ⊢
        rw [List.length_map]
        cases q : ixN ns.length i with
        | none => rw [q] at hv; cases hv
        | some j =>
          rw [q] at hv
          have hv2 : ns[j]? = some v := by simpa using hv
          simp [hv2]
      exact .inl ⟨_, _, _, _, rfl, ry.int, S.w.sub.seq hs, hv', hk _ h _ F H S (Same.refl F) (.int _)⟩
  · obtain ⟨ds, hl, v, hv, h⟩ := h
    obtain ⟨_, o, hs, ro⟩ := S.w.reg _ ds (lookup_mem (lookL_iff hl).1)
    obtain ⟨xs, rfl, ra⟩ := ro.lstOf (lookL_iff hl).2
    obtain ⟨u, hu, ru⟩ := at_rep ra hv
    cases rx.val (fun _ q => nomatch q)
    exact .inl ⟨_, xs, _, u, rfl, ry.int, SqL.of hs, hu, hk _ h _ F H S (Same.refl F) ru⟩
  · exact h.elim
theorem le_item {a b : Expr} {ta tb : DE} {pos} (ha : LE X B a ta) (hb : LE X B b tb) (hs : PlainIx b := by exact fun _ _ => rfl) : LE X B (.Subscript a b pos) (dOp oIx ta tb) := le_ix ix_seq r_ix3 ha hb hs

/-! ### a[lo:hi] -/
def cutD (ds : List D) (lo hi : Option Int) : List D := (ds.drop (HT.sIx ds.length 0 lo)).take (HT.sIx ds.length ds.length hi - HT.sIx ds.length 0 lo)
def oSl : D → Option Int → Option Int → (Res → Prop) → Prop := fun d lo hi k => match d with
  | .lst ds => k (.fr (cutD ds lo hi))
  | .tup ds => k (.val (.tup (cutD ds lo hi)))
  | _ => False
def rSl3 (K : PySem.W.Frag) : V → Option Int → Option Int → Hp → VK → Prop := fun x lo hi H Q => rSlA K x lo hi H Q ∨ rSlL K x lo hi H Q
theorem sl_3 : SlR X (rSl3 X.K) := sl_tupA.or sl_list
theorem r_sl3 : RSl3 X B (rSl3 X.K) oSl := by
  intro pn F H σ E G x d lo hi k Q S rx h hk
  unfold oSl at h
  split at h
  · rename_i ds
    obtain ⟨p, xs, rfl, hs, ra⟩ := rx.lst S.w.sub
    refine .inr ⟨p, xs, rfl, .inl hs, fun q nq => ?_⟩
    have rr : RepL X.K F (cutD ds lo hi) (cutV xs lo hi) := by
      unfold cutD cutV
      rw [ra.length]
      exact (ra.drop _).take _
    obtain ⟨f, no⟩ := S.newFre nq rr
    exact hk _ h _ _ _ (S.newU nq) (Same.refl F) ⟨q, rfl, f, no⟩
  · rename_i ds
    obtain ⟨p, xs, rfl, hs, ra⟩ := rx.tup S.w.sub
    have rx' := rx.val (fun _ q => nomatch q)
    have rr : RepL X.K F (cutD ds lo hi) (cutV xs lo hi) := by
      unfold cutD cutV
      rw [ra.length]
      exact (ra.drop _).take _
    refine .inl ⟨p, xs, rfl, hs, fun hw => ?_, fun _ q nq => ?_⟩
    · have e : cutD ds lo hi = ds := by
        unfold cutD
        rw [← ra.length] at hw
        rw [hw.1, hw.2, List.drop_zero, Nat.sub_zero, List.take_length]
      rw [e] at h
      exact hk _ h _ F H S (Same.refl F) rx'
    · obtain ⟨S2, s2⟩ := S.newF nq
      exact hk _ h _ _ _ S2 s2 (.tup upd_same (RepL.mono s2 _ _ rr))
  · exact h.elim
theorem le_cut {e : Expr} {lo hi : Option Expr} {te : DE} {tl th : DO} {p2 pos : Pos} (he : LE X B e te) (hl : LO X B lo tl) (hh : LO X B hi th) : LE X B (.Subscript e (.Slice lo hi none p2) pos) (dSl oSl te tl th) := le_slice sl_3 r_sl3 he hl hh
end
end L3

set_option Elab.async false
set_option maxRecDepth 100000
set_option maxHeartbeats 4000000
/-! L3, part h: built-ins over plain values; lists changed by their owner; the dice. -/
namespace L3
open PySem PySem.Spec PyProof.Rows L2
section
variable {X : Cx} {B : Base3}
theorem hl1 {K : PySem.W.Frag} {F H : Hp} {d : D} {vs : List V} (r : RepHL K F H [d] vs) : ∃ v, vs = [v] ∧ RepH K F H d v := by
  cases r with
  | cons a b => cases b; exact ⟨_, rfl, a⟩
theorem hl2 {K : PySem.W.Frag} {F H : Hp} {d e : D} {vs : List V} (r : RepHL K F H [d, e] vs) : ∃ v u, vs = [v, u] ∧ RepH K F H d v ∧ RepH K F H e u := by
  cases r with
  | cons a b =>
    obtain ⟨u, rfl, h⟩ := hl1 b
    exact ⟨_, u, rfl, a, h⟩

/-! ### len -/
def bLen : Reg → List D → (Res → Prop) → Prop := fun _ ds k => match ds with
  | [.lst xs] => k (.val (.int xs.length))
  | [.tup xs] => k (.val (.int xs.length))
  | [.str z] => z.length ≤ sizeLine ∧ k (.val (.int z.length))
  | [.scr ns] => k (.val (.int ns.length))
  | _ => False
def rLen3 (K : PySem.W.Frag) : List V → Hp → VK → Prop := fun xs H Q => (∃ p ys, xs = [.ref p] ∧ (SqL K H p ys ∨ SqT K H p ys) ∧ Q (.int ys.length) H) ∨ ∃ z, xs = [.str z] ∧ z.length ≤ sizeLine ∧ Q (.int z.length) H
theorem call_len3 : CallR X (.builtin "len") (rLen3 X.K) := call_len_seq.or call_len_str
theorem r_len3 : RCall X B (rLen3 X.K) bLen := by
  intro pn F H σ E G vs ds k Q S r h hk
  unfold bLen at h
  split at h
  · obtain ⟨v, rfl, rx⟩ := hl1 r
    obtain ⟨p, xs, rfl, hs, ra⟩ := rx.lst S.w.sub
    refine .inl ⟨p, xs, rfl, .inl (.inl hs), ?_⟩
    rw [← ra.length]
    exact hk _ h _ F H S (Same.refl F) (.int _)
  · obtain ⟨v, rfl, rx⟩ := hl1 r
    obtain ⟨p, xs, rfl, hs, ra⟩ := rx.tup S.w.sub
    refine .inl ⟨p, xs, rfl, .inr hs, ?_⟩
    rw [← ra.length]
    exact hk _ h _ F H S (Same.refl F) (.int _)
  · obtain ⟨v, rfl, rx⟩ := hl1 r
    rw [rx.str]
    exact .inr ⟨_, rfl, h.1, hk _ h.2 _ F H S (Same.refl F) (.int _)⟩
  · obtain ⟨v, rfl, rx⟩ := hl1 r
    cases rx.val (fun _ q => nomatch q) with
    | scr hs =>
      refine .inl ⟨_, _, rfl, .inl (S.w.sub.seq hs), ?_⟩
      rw [List.length_map]
      exact hk _ h _ F H S (Same.refl F) (.int _)
  · exact h.elim
theorem le_len {e : Expr} {ta : DA} {p pos : Pos} (hg : Gl X "len") (hm : X.mg "len" = none) (ha : LP X B [e] ta) (he : starEach [e] X.env = (false, eval e X.env) :: starEach [] X.env := by rfl) (hpl : (backTo pos (starEach [] X.env)).any (·.1) = false := by rfl) :
    LE X B (.Call (.Name "len" p) [e] [] pos) (dCB bLen ta) := le_callB call_len3 r_len3 hg hm PySem.boot_len ha (by decide) (by decide) he hpl

/-! ### of one int, of two -/
def bInt1 (g : Int → Int) : Reg → List D → (Res → Prop) → Prop := fun _ ds k => match ds with
  | [.int i] => k (.val (.int (g i)))
  | _ => False
def bAbs := bInt1 fun i => if i < 0 then -i else i
theorem le_abs {e : Expr} {ta : DA} {p pos : Pos} (hg : Gl X "abs") (hm : X.mg "abs" = none) (ha : LP X B [e] ta) (he : starEach [e] X.env = (false, eval e X.env) :: starEach [] X.env := by rfl) (hpl : (backTo pos (starEach [] X.env)).any (·.1) = false := by rfl) :
    LE X B (.Call (.Name "abs" p) [e] [] pos) (dCB bAbs ta) := le_callB call_abs (fun pn F H σ E G vs ds k Q S r h hk => by
  unfold bAbs bInt1 at h
  split at h
  · obtain ⟨v, rfl, rx⟩ := hl1 r
    rw [rx.int]
    exact ⟨_, rfl, hk _ h _ F H S (Same.refl F) (.int _)⟩
  · exact h.elim) hg hm (by decide +kernel) ha (by decide) (by decide) he hpl
def bIntOf : Reg → List D → (Res → Prop) → Prop := fun _ ds k => match ds with
  | [.int i] => k (.val (.int i))
  | [.bl b] => k (.val (.int (if b then 1 else 0)))
  | _ => False
theorem le_intOf {e : Expr} {ta : DA} {p pos : Pos} (hg : Gl X "int") (hm : X.mg "int" = none) (ha : LP X B [e] ta) (he : starEach [e] X.env = (false, eval e X.env) :: starEach [] X.env := by rfl) (hpl : (backTo pos (starEach [] X.env)).any (·.1) = false := by rfl) :
    LE X B (.Call (.Name "int" p) [e] [] pos) (dCB bIntOf ta) := le_callTy call_int1 (fun pn F H σ E G vs ds k Q S r h hk => by
  unfold bIntOf at h
  split at h
  · obtain ⟨v, rfl, rx⟩ := hl1 r
    rw [rx.int]
    exact .inl ⟨_, rfl, hk _ h _ F H S (Same.refl F) (.int _)⟩
  · obtain ⟨v, rfl, rx⟩ := hl1 r
    rw [rx.bl]
    exact .inr ⟨_, rfl, hk _ h _ F H S (Same.refl F) (.int _)⟩
  · exact h.elim) hg hm (by decide +kernel) ha (by decide) (by decide) he hpl
def bInt2 (g : Int → Int → Int) : Reg → List D → (Res → Prop) → Prop := fun _ ds k => match ds with
  | [.int i, .int j] => k (.val (.int (g i j)))
  | _ => False
def bMax := bInt2 fun i j => if j > i then j else i
def bMin := bInt2 fun i j => if j < i then j else i
theorem le_max2 {e e2 : Expr} {ta : DA} {p pos : Pos} (hc : X.calm = true) (hg : Gl X "max") (hm : X.mg "max" = none) (ha : LP X B [e, e2] ta) (he : starEach [e, e2] X.env = (false, eval e X.env) :: starEach [e2] X.env := by rfl) (hpl : (backTo pos (starEach [e2] X.env)).any (·.1) = false := by rfl) :
    LE X B (.Call (.Name "max" p) [e, e2] [] pos) (dCB bMax ta) := le_callB (call_max2 hc) (fun pn F H σ E G vs ds k Q S r h hk => by
  unfold bMax bInt2 at h
  split at h
  · obtain ⟨v, u, rfl, rx, ry⟩ := hl2 r
    rw [rx.int, ry.int]
    exact ⟨_, _, rfl, hk _ h _ F H S (Same.refl F) (.int _)⟩
  · exact h.elim) hg hm (by decide +kernel) ha (by decide) (by decide) he hpl
theorem le_min2 {e e2 : Expr} {ta : DA} {p pos : Pos} (hc : X.calm = true) (hg : Gl X "min") (hm : X.mg "min" = none) (ha : LP X B [e, e2] ta) (he : starEach [e, e2] X.env = (false, eval e X.env) :: starEach [e2] X.env := by rfl) (hpl : (backTo pos (starEach [e2] X.env)).any (·.1) = false := by rfl) :
    LE X B (.Call (.Name "min" p) [e, e2] [] pos) (dCB bMin ta) := le_callB (call_min2 hc) (fun pn F H σ E G vs ds k Q S r h hk => by
  unfold bMin bInt2 at h
  split at h
  · obtain ⟨v, u, rfl, rx, ry⟩ := hl2 r
    rw [rx.int, ry.int]
    exact ⟨_, _, rfl, hk _ h _ F H S (Same.refl F) (.int _)⟩
  · exact h.elim) hg hm (by decide +kernel) ha (by decide) (by decide) he hpl

/-! ### list, tuple, all, any, sum -/
def bList : Reg → List D → (Res → Prop) → Prop := fun _ ds k => match ds with
  | [.lst xs] => k (.fr xs)
  | [.tup xs] => k (.fr xs)
  | _ => False
theorem le_list {e : Expr} {ta : DA} {p pos : Pos} (hg : Gl X "list") (hm : X.mg "list" = none) (ha : LP X B [e] ta) (he : starEach [e] X.env = (false, eval e X.env) :: starEach [] X.env := by rfl) (hpl : (backTo pos (starEach [] X.env)).any (·.1) = false := by rfl) :
    LE X B (.Call (.Name "list" p) [e] [] pos) (dCB bList ta) := le_callTy call_list_of (fun pn F H σ E G vs ds k Q S r h hk => by
  unfold bList at h
  split at h
  · obtain ⟨v, rfl, rx⟩ := hl1 r
    obtain ⟨p, xs, rfl, hs, ra⟩ := rx.lst S.w.sub
    refine ⟨p, xs, rfl, .inl (.inl hs), fun l nl => ?_⟩
    obtain ⟨f, no⟩ := S.newFre nl ra
    exact hk _ h _ _ _ (S.newU nl) (Same.refl F) ⟨l, rfl, f, no⟩
  · obtain ⟨v, rfl, rx⟩ := hl1 r
    obtain ⟨p, xs, rfl, hs, ra⟩ := rx.tup S.w.sub
    refine ⟨p, xs, rfl, .inr hs, fun l nl => ?_⟩
    obtain ⟨f, no⟩ := S.newFre nl ra
    exact hk _ h _ _ _ (S.newU nl) (Same.refl F) ⟨l, rfl, f, no⟩
  · exact h.elim) hg hm (by decide +kernel) ha (by decide) (by decide) he hpl
def bTuple : Reg → List D → (Res → Prop) → Prop := fun _ ds k => match ds with
  | [.lst xs] => k (.val (.tup xs))
  | [.tup xs] => k (.val (.tup xs))
  | _ => False
theorem le_tuple {e : Expr} {ta : DA} {p pos : Pos} (hg : Gl X "tuple") (hm : X.mg "tuple" = none) (ha : LP X B [e] ta) (he : starEach [e] X.env = (false, eval e X.env) :: starEach [] X.env := by rfl) (hpl : (backTo pos (starEach [] X.env)).any (·.1) = false := by rfl) :
    LE X B (.Call (.Name "tuple" p) [e] [] pos) (dCB bTuple ta) := le_callTy call_tuple_of (fun pn F H σ E G vs ds k Q S r h hk => by
  unfold bTuple at h
  split at h
  · obtain ⟨v, rfl, rx⟩ := hl1 r
    obtain ⟨p, xs, rfl, hs, ra⟩ := rx.lst S.w.sub
    refine ⟨p, xs, rfl, .inl ⟨.inl hs, fun l nl => ?_⟩⟩
    obtain ⟨S2, s2⟩ := S.newF (o := .tup xs) nl
    exact hk _ h _ _ _ S2 s2 (.tup upd_same (RepL.mono s2 _ _ ra))
  · obtain ⟨v, rfl, rx⟩ := hl1 r
    have rx' := rx.val (fun _ q => nomatch q)
    obtain ⟨p, xs, rfl, hs, ra⟩ := rx.tup S.w.sub
    exact ⟨p, xs, rfl, .inr ⟨hs, hk _ h _ F H S (Same.refl F) rx'⟩⟩
  · exact h.elim) hg hm (by decide +kernel) ha (by decide) (by decide) he hpl
/-- the truth values of a list -/
def blsOf : List D → Option (List Bool)
  | [] => some []
  | .bl b :: r => (blsOf r).map (b :: ·)
  | _ :: _ => none
theorem blsOf_eq : ∀ {ds : List D} {bs : List Bool}, blsOf ds = some bs → ds = bs.map D.bl
  | [], _, h => by cases h; rfl
  | .bl b :: r, _, h => by
    cases q : blsOf r with
    | none => rw [blsOf, q] at h; cases h
    | some cs => rw [blsOf, q] at h; cases h; rw [blsOf_eq q]; rfl
  | .non :: _, _, h => by cases h
  | .int _ :: _, _, h => by cases h
  | .str _ :: _, _, h => by cases h
  | .ref _ :: _, _, h => by cases h
  | .ty _ :: _, _, h => by cases h
  | .tup _ :: _, _, h => by cases h
  | .lst _ :: _, _, h => by cases h
  | .scr _ :: _, _, h => by cases h
theorem blsOf_map : ∀ bs : List Bool, blsOf (bs.map D.bl) = some bs
  | [] => rfl
  | b :: r => by rw [List.map_cons, blsOf, blsOf_map r]; rfl
def intsOf : List D → Option (List Int)
  | [] => some []
  | .int b :: r => (intsOf r).map (b :: ·)
  | _ :: _ => none
theorem intsOf_eq : ∀ {ds : List D} {bs : List Int}, intsOf ds = some bs → ds = bs.map D.int
  | [], _, h => by cases h; rfl
  | .int b :: r, _, h => by
    cases q : intsOf r with
    | none => rw [intsOf, q] at h; cases h
    | some cs => rw [intsOf, q] at h; cases h; rw [intsOf_eq q]; rfl
  | .non :: _, _, h => by cases h
  | .bl _ :: _, _, h => by cases h
  | .str _ :: _, _, h => by cases h
  | .ref _ :: _, _, h => by cases h
  | .ty _ :: _, _, h => by cases h
  | .tup _ :: _, _, h => by cases h
  | .lst _ :: _, _, h => by cases h
  | .scr _ :: _, _, h => by cases h
theorem intsOf_map : ∀ bs : List Int, intsOf (bs.map D.int) = some bs
  | [] => rfl
  | b :: r => by rw [List.map_cons, intsOf, intsOf_map r]; rfl
def bBool (g : List Bool → Bool) : Reg → List D → (Res → Prop) → Prop := fun _ ds k => match ds with
  | [.lst xs] => ∃ bs, blsOf xs = some bs ∧ k (.val (.bl (g bs)))
  | _ => False
theorem r_bool {g : List Bool → Bool} : RCall X B (fun vs H Q => ∃ (a : Addr) (bs : List Bool), vs = [V.ref a] ∧ SqL X.K H a (bs.map V.bl) ∧ Q (.bl (g bs)) H) (bBool g) := by
  intro pn F H σ E G vs ds k Q S r h hk
  unfold bBool at h
  split at h
  · obtain ⟨bs, e, h⟩ := h
    obtain ⟨v, rfl, rx⟩ := hl1 r
    obtain ⟨p, xs, rfl, hs, ra⟩ := rx.lst S.w.sub
    rw [blsOf_eq e] at ra
    rw [ra.bls_of] at hs
    exact ⟨p, bs, rfl, .inl hs, hk _ h _ F H S (Same.refl F) (.bl _)⟩
  · exact h.elim
def bAll := bBool fun bs => bs.all id
def bAny := bBool fun bs => bs.any id
theorem le_all {e : Expr} {ta : DA} {p pos : Pos} (hc : X.calm = true) (hg : Gl X "all") (hm : X.mg "all" = none) (ha : LP X B [e] ta) (he : starEach [e] X.env = (false, eval e X.env) :: starEach [] X.env := by rfl) (hpl : (backTo pos (starEach [] X.env)).any (·.1) = false := by rfl) :
    LE X B (.Call (.Name "all" p) [e] [] pos) (dCB bAll ta) := le_callB (cr_all hc) r_bool hg hm (by decide +kernel) ha (by decide) (by decide) he hpl
def bSum : Reg → List D → (Res → Prop) → Prop := fun _ ds k => match ds with
  | [.lst xs] => ∃ bs, intsOf xs = some bs ∧ k (.val (.int bs.sum))
  | _ => False
/-! ### isinstance of a built-in class -/
def tyN : D → Option String
  | .non => some "NoneType"
  | .bl _ => some "bool"
  | .int _ => some "int"
  | .str _ => some "str"
  | .tup _ => some "tuple"
  | .lst _ => some "list"
  | _ => none
def isT (t n : String) : Bool := t == n || (t == "bool" && n == "int")
def knownT : List String := ["int", "bool", "str", "tuple", "list", "dict"]
theorem kit_known : ∀ t ∈ ["NoneType", "bool", "int", "str", "tuple", "list"], ∀ n ∈ knownT, kitB t n = some (isT t n) := by decide +kernel
def bIsi : Reg → List D → (Res → Prop) → Prop := fun _ ds k => match ds with
  | [d, .ty n] => ∃ t, tyN d = some t ∧ n ∈ knownT ∧ k (.val (.bl (isT t n)))
  | _ => False
theorem tyX_of {K : PySem.W.Frag} {F H : Hp} {d : D} {v : V} {t : String} (s : Same F H) (r : RepH K F H d v) (h : tyN d = some t) : TyX K H v (.type t) := by
  rcases r with r | ⟨a, o, rfl, h1, h2⟩
  · cases r with
    | non => cases h; exact .base .non
    | bl b => cases h; exact .base (.bl b)
    | int b => cases h; exact .base (.int b)
    | str b => cases h; exact .base (.str b)
    | ref a => cases h
    | ty a => cases h
    | scr a => cases h
    | obj _ _ _ _ => cases h
    | cls _ => cases h
    | dcK _ _ _ => cases h
    | dcT _ _ _ => cases h
    | ktp _ => cases h
    | tup hs ha =>
      cases h
      exact .base (.tup (s _ _ hs))
    | lst hs ha =>
      cases h
      rcases sameR s hs with hs | ⟨o, hs⟩
      · exact .base (.lst hs)
      · exact .base (.frz hs)
  · cases d with
    | lst ds =>
      obtain ⟨xs, rfl, _⟩ := h2
      cases h; exact .base (.lst h1)
    | dcT ks ds => cases h
    | dcK ks ds => cases h
    | _ => exact h2.elim
theorem tyN_mem {d : D} {t : String} (h : tyN d = some t) : t ∈ ["NoneType", "bool", "int", "str", "tuple", "list"] := by
  cases d <;> cases h <;> decide
theorem le_isi {e e2 : Expr} {ta : DA} {p pos : Pos} (hg : Gl X "isinstance") (hm : X.mg "isinstance" = none) (ha : LP X B [e, e2] ta) (he : starEach [e, e2] X.env = (false, eval e X.env) :: starEach [e2] X.env := by rfl) (hpl : (backTo pos (starEach [e2] X.env)).any (·.1) = false := by rfl) :
    LE X B (.Call (.Name "isinstance" p) [e, e2] [] pos) (dCB bIsi ta) := le_callB call_isi (fun pn F H σ E G vs ds k Q S r h hk => by
  unfold bIsi at h
  split at h
  · obtain ⟨t, ht, hn, h⟩ := h
    obtain ⟨v, u, rfl, rx, ry⟩ := hl2 r
    cases ry.val (fun _ q => nomatch q)
    exact ⟨v, _, .type t, .type _, _, rfl, .ty _, tyX_of S.w.sub rx ht, kit_ty (kit_known t (tyN_mem ht) _ hn), hk _ h _ F H S (Same.refl F) (.bl _)⟩
  · exact h.elim) hg hm (by decide +kernel) ha (by decide) (by decide) he hpl
theorem le_ty {x : Str} {n : String} {pos : Pos} (hg : Gl X x) (hm : X.mg x = none) (hv : bootBuiltins x = some (.type n)) (hn : x ≠ "__name__" := by decide) (hd : (x == ("__debug__" : Str)) = false := by decide) : LE X B (.Name x pos) (dC (.ty n)) :=
  le_c (v := .ty n) (pe_bltn hg hm hv rfl hn hd) fun _ => .ty n
end
end L3

set_option Elab.async false
set_option maxRecDepth 100000
set_option maxHeartbeats 4000000
/-! L3, part i: a[i] = v; a.append(v); a, b = x, y. -/
namespace L3
open PySem PySem.Spec PyProof.Rows L2
section
variable {X : Cx} {B : Base3}
/-- o[i] = v, o a register or an owned list -/
def dStore (te to ti : DE) : DSt := fun D E G => te E G fun v E1 G1 => ∃ d E2, v.ice E1 = some (d, E2) ∧ to E2 G1 fun o E3 G2 => ti E3 G2 fun i E4 G3 => ∃ k, i = .val (.int k) ∧
  match o with
  | .val (.ref a) => ∃ ds, lookL G3 a = some ds ∧ ∃ j, ixN ds.length k = some j ∧ D.nx E4 (regSet G3 a (ds.set j d))
  | .sl s => ∃ ds, E4[s]? = some (Sl3.own ds) ∧ ∃ j, ixN ds.length k = some j ∧ D.nx (E4.set s (Sl3.own (ds.set j d))) G3
  | _ => False
theorem ls_store {o i e : Expr} {to ti te : DE} {pos pos' : Pos} (he : LE X B e te) (ho : LE X B o to) (hi : LE X B i ti)
    (hs : swapsWithSole [.Subscript o i pos'] e pos.line X.env = pure false := by rfl) (hw : swappedStores [.Subscript o i pos'] e X.env = pure none := by rfl)
    (h1 : (assignEach [.Subscript o i pos'] X.env).map (·.2) = [assign (.Subscript o i pos') X.env] := by rfl)
    (ha : ∀ v, assign (.Subscript o i pos') X.env v = (do
      let ov ← holding [v] (eval o X.env)
      let iv ← holding [v, ov] (eval i X.env)
      standAt pos'
      holding [v, ov, iv] (setItem ov iv v)
      release [v, ov, iv] []) := by intro _; rfl) : LS X B (.Assign [.Subscript o i pos'] e pos) (dStore te to ti) :=
  ⟨ps_imp (ps_asg he.pe (pg_sub ho.pe hi.pe set_list ha) hs hw h1) fun D σ H ⟨pn, F, E, G, D3, S, h, ok⟩ => ⟨pn, F, E, G, _, S, h, fun r E1 G1 ⟨d, E2, hd, h1⟩ v F1 H1 S1 s1 r1 => by
    obtain ⟨F1', S1', s1', r1'⟩ := S1.ice r1 hd
    refine ⟨pn, F1', E2, G1, _, S1', h1, fun ro E3 G2 h2 ov F2 H2 S2 s2 r2 => ?_⟩
    refine ⟨pn, F2, E3, G2, _, S2, h2, fun ri E4 G3 h3 iv F3 H3 S3 s3 r3 => ?_⟩
    obtain ⟨k, e1, h3⟩ := h3
    subst e1
    cases r3
    have rd : Rep X.K F3 d v := Rep.mono (s2.trans s3) _ _ r1'
    have ss : Same F F3 := (s1.trans s1').trans (s2.trans s3)
    cases ro with
    | fr ds => exact h3.elim
    | frD ds => exact h3.elim
    | val z =>
      cases z with
      | ref a =>
        cases r2
        obtain ⟨ds, hl, j, hj, h4⟩ := h3
        have hm := lookup_mem (lookL_iff hl).1
        obtain ⟨_, o, hx, ro⟩ := S3.w.reg a ds hm
        obtain ⟨xs, rfl, rx⟩ := ro.lstOf (lookL_iff hl).2
        refine ⟨a, xs, k, j, rfl, rfl, hx, by rw [← rx.length]; exact hj, ?_⟩
        exact ok.nx _ _ h4 σ F3 _ (S3.regWrite hm (rx.set j rd)) ss
      | _ => exact h3.elim
    | sl s =>
      obtain ⟨ds, hl, j, hj, h4⟩ := h3
      obtain ⟨a, ha', f⟩ := S3.ownL s ds hl
      have r2' : σ[s]? = some (some ov) := r2
      rw [r2'] at ha'
      cases ha'
      obtain ⟨xs, hx, rx⟩ := f.ex
      refine ⟨a, xs, k, j, rfl, rfl, hx, by rw [← rx.length]; exact hj, ?_⟩
      exact ok.nx _ _ h4 σ F3 _ (S3.ownWrite hl r2' (rx.set j rd)) ss⟩⟩
/-- a.append(e), a a name whose list it owns -/
def dApp (i : Nat) (te : DE) : DE := fun E G k => (∃ ds, E[i]? = some (Sl3.own ds)) ∧ te E G fun r E1 G1 => ∃ d E2, r.ice E1 = some (d, E2) ∧ ∃ ds, E2[i]? = some (Sl3.own ds) ∧ ds.length < sizeLine ∧ k (.val .non) (E2.set i (Sl3.own (ds ++ [d]))) G1
theorem le_append {i : Nat} {o e : Expr} {te : DE} {apos cpos : Pos} (ho : PE X o (tVar i)) (he : LE X B e te)
    (hbase : attributeBase o "append" X.env (eval o X.env) = eval o X.env := by rfl)
    (hfew : ((backTo cpos (starEach (e :: []) X.env)).all (fun x => !x.1) && (backToKw cpos (keywordEach [] X.env)).all (fun x => x.1.isSome)
      && decide ((e :: []).length + ([] : List Keyword).length + (if ([] : List Keyword).isEmpty then 0 else 1) < 30)) = true := by rfl)
    (hline : (apos.endLine == cpos.line) = true := by rfl) (hs : starEach (e :: []) X.env = (false, eval e X.env) :: starEach [] X.env := by rfl) (hplain : (backTo cpos (starEach [] X.env)).any (·.1) = false := by rfl) :
    LE X B (.Call (.Attribute o "append" apos) [e] [] cpos) (dApp i te) :=
  ⟨pe_imp (pe_bm PySem.F.plainAttrs_list PySem.F.slot_list_append PySem.F.type_list_append mt_append ho (pa_cons he.pe pa_nil hs) hbase hfew hline hs hplain) fun σ H Q ⟨pn, F, E, G, k, S, ⟨⟨ds0, h0⟩, h⟩, hk⟩ => by
    obtain ⟨a, ha, f⟩ := S.ownL i ds0 h0
    obtain ⟨xs0, hx0, _⟩ := f.ex
    refine ⟨_, ha, .inl ⟨rfl, xs0, SqL.of hx0⟩, pn, F, E, G, _, S, h, fun r E1 G1 ⟨d, E2, hd, ds, hds, hz, h1⟩ v F1 H1 S1 s1 r1 => ?_⟩
    obtain ⟨F2, S2, s2, r2⟩ := S1.ice r1 hd
    obtain ⟨a', ha', f'⟩ := S2.ownL i ds hds
    rw [ha] at ha'
    cases ha'
    obtain ⟨xs, hx, rx⟩ := f'.ex
    refine ⟨a, xs, v, rfl, rfl, hx, by rw [← rx.length]; exact hz, ?_⟩
    exact hk _ _ _ h1 _ F2 _ (S2.ownWrite hds ha (rx.append (.cons r2 .nil))) (s1.trans s2) .non⟩

/-! ### a, b = x, y -/
def Res.fin (r : Res) (E : Env3) : Option (Res × Env3) := match r with
  | .val d => some (.val d, E)
  | .fr ds => some (.fr ds, E)
  | .frD d => some (.frD d, E)
  | .sl i => match E[i]? with
    | some (Sl3.val d) => some (.val d, E)
    | some (Sl3.own ds) => some (.val (.lst ds), E.set i (Sl3.val (.lst ds)))
    | some (Sl3.ownD d) => some (.val d, E.set i (Sl3.val d))
    | _ => none
/-- a free object's slot -/
def Res.frO : Res → Option Sl3
  | .fr ds => some (.own ds)
  | .frD d => some (.ownD d)
  | _ => none
theorem frO_put {r : Res} {s : Sl3} (h : r.frO = some s) (i : Nat) (E : Env3) : r.put i E = some (E.set i s) := by
  cases r <;> cases h <;> rfl
theorem St3.finR {K : PySem.W.Frag} {pn : Pend} {F H : Hp} {σ : L2.St} {E E' : Env3} {G : Reg} (S : St3 K B pn F H σ E G) {r r' : Res} {v : V} (hr : RepR K B pn F H σ E G r v) (h : r.fin E = some (r', E')) :
    ∃ F', St3 K B pn F' H σ E' G ∧ Same F F' ∧ ((∃ d, r' = .val d ∧ Rep K F' d v) ∨ ∃ s d a, r'.frO = some s ∧ s.ow = some d ∧ r' = r ∧ E' = E ∧ F' = F ∧ v = .ref a ∧ FreX K B pn F H G a d ∧ NoOwn σ E a) := by
  cases r with
  | val d => cases h; exact ⟨F, S, Same.refl F, .inl ⟨d, rfl, hr⟩⟩
  | fr ds =>
    cases h
    obtain ⟨a, rfl, f, no⟩ := hr
    exact ⟨F, S, Same.refl F, .inr ⟨_, _, a, rfl, rfl, rfl, rfl, rfl, rfl, f.x, no⟩⟩
  | frD d =>
    cases h
    obtain ⟨a, rfl, f, no⟩ := hr
    exact ⟨F, S, Same.refl F, .inr ⟨_, _, a, rfl, rfl, rfl, rfl, rfl, rfl, f, no⟩⟩
  | sl i =>
    have e : (Res.sl i).ice E = (match r' with | .val d => some (d, E') | _ => none) := by
      unfold Res.fin at h
      unfold Res.ice
      dsimp only at h ⊢
      cases q : E[i]? with
      | none => rw [q] at h; cases h
      | some s => rw [q] at h; cases s <;> cases h <;> rfl
    cases r' with
    | val d =>
      obtain ⟨F', S', s', r''⟩ := S.ice (r := .sl i) hr e
      exact ⟨F', S', s', .inl ⟨d, rfl, r''⟩⟩
    | fr ds =>
      unfold Res.fin at h
      dsimp only at h
      split at h <;> cases h
    | frD ds =>
      unfold Res.fin at h
      dsimp only at h
      split at h <;> cases h
    | sl j =>
      unfold Res.fin at h
      dsimp only at h
      split at h <;> cases h
def dPar (i j : Nat) (ta tb : DE) : DSt := fun D E G => ta E G fun x E1 G1 => ∃ x' E2, x.fin E1 = some (x', E2) ∧ tb E2 G1 fun y E3 G2 => ∃ y' E4, y.fin E3 = some (y', E4) ∧ i < E4.length ∧ j < E4.length ∧
  ∃ E5, x'.put i E4 = some E5 ∧ ∃ E6, y'.put j E5 = some E6 ∧ D.nx E6 G2
theorem ls_par {i j : Nat} {x y : Str} {a b : Expr} {ta tb : DE} {px py pt pos : Pos} {kt k2 pt2} (hc : X.calm = true) (hN : X.N.Nodup) (hi : X.N[i]? = some x) (hj : X.N[j]? = some y) (hij : i ≠ j)
    (hx : X.env.scope.names.lookup x = some .local) (hy : X.env.scope.names.lookup y = some .local) (ha : LE X B a ta) (hb : LE X B b tb)
    (hw : swappedStores [.Tuple [.Name x px, .Name y py] kt pt] (.Tuple [a, b] k2 pt2) X.env = pure (some [x, y]))
    (hs : swapsWithSole [.Tuple [.Name x px, .Name y py] kt pt] (.Tuple [a, b] k2 pt2) pos.line X.env = pure false := by rfl)
    (hs1 : starEach [a, b] X.env = (false, eval a X.env) :: starEach [b] X.env := by rfl) (hs2 : starEach [b] X.env = (false, eval b X.env) :: starEach [] X.env := by rfl) :
    LS X B (.Assign [.Tuple [.Name x px, .Name y py] kt pt] (.Tuple [a, b] k2 pt2) pos) (dPar i j ta tb) :=
  ⟨ps_imp (ps_par hc hN hi hj hij hx hy (pa_cons ha.pe (pa_cons hb.pe pa_nil hs2) hs1) hw hs) fun D σ H ⟨pn, F, E, G, D3, S, h, ok⟩ => by
    -- the last step: both are stored
    have last : ∀ {x' y' : Res} {v u : V} {E4 : Env3} {G2 : Reg} {F4 H4 : Hp}, St3 X.K B pn F4 H4 σ E4 G2 → Same F F4 →
        ((∃ d, x' = .val d ∧ Rep X.K F4 d v) ∨ ∃ s d a, x'.frO = some s ∧ s.ow = some d ∧ v = .ref a ∧ FreX X.K B pn F4 H4 G2 a d ∧ NoOwn σ E4 a) →
        ((∃ d, y' = .val d ∧ Rep X.K F4 d u) ∨ ∃ s d a, y'.frO = some s ∧ s.ow = some d ∧ u = .ref a ∧ FreX X.K B pn F4 H4 G2 a d ∧ NoOwn σ E4 a ∧ (x'.frO ≠ none → u ≠ v)) → i < E4.length → j < E4.length →
        (∃ E5, x'.put i E4 = some E5 ∧ ∃ E6, y'.put j E5 = some E6 ∧ D3.nx E6 G2) → D.nx ((σ.set i (some v)).set j (some u)) H4 := by
      intro x' y' v u E4 G2 F4 H4 S4 s4 hx' hy' hli hlj ⟨E5, e5, E6, e6, hn⟩
      have hli' : i < σ.length := by rw [← S4.len]; exact hli
      have hlj' : j < σ.length := by rw [← S4.len]; exact hlj
      have hlj2 : j < (σ.set i (some v)).length := by rw [List.length_set]; exact hlj'
      have S5 : St3 X.K B pn F4 H4 (σ.set i (some v)) E5 G2 := by
        rcases hx' with ⟨d, rfl, r⟩ | ⟨s, d, a, fo, ow, rfl, f, no⟩
        · cases e5; exact S4.setVal hli' r
        · rw [frO_put fo] at e5
          cases e5; exact S4.setOwnX hli' f ow no
      have S6 : St3 X.K B pn F4 H4 ((σ.set i (some v)).set j (some u)) E6 G2 := by
        rcases hy' with ⟨d, rfl, r⟩ | ⟨s, d, a, fo, ow, rfl, f, no, ne⟩
        · cases e6; exact S5.setVal hlj2 r
        · rw [frO_put fo] at e6
          cases e6
          refine S5.setOwnX hlj2 f ow fun k t g hk ht e => ?_
          rw [setσ_look hli'] at e
          by_cases q : i = k
          · rw [if_pos q] at e
            rcases hx' with ⟨d, rfl, r⟩ | ⟨s', d', a', fo', ow', rfl, f', no'⟩
            · cases e5
              subst q
              rw [List.getElem?_set_self hli] at hk
              cases hk
              cases ht
            · exact ne (by rw [fo']; exact fun z => nomatch z) (Option.some.inj (Option.some.inj e)).symm
          · rw [if_neg q] at e
            rcases hx' with ⟨d, rfl, r⟩ | ⟨s', d', a', fo', ow', rfl, f', no'⟩
            · cases e5
              rw [List.getElem?_set_ne q] at hk
              exact no k t g hk ht e
            · rw [frO_put fo'] at e5
              cases e5
              rw [List.getElem?_set_ne q] at hk
              exact no k t g hk ht e
      exact ok.nx E6 G2 hn _ F4 H4 S6 s4
    refine ⟨pn, F, E, G, _, S, h, fun rx E1 G1 ⟨x', E2, hx', h1⟩ v F1 H1 S1 s1 r1 => ?_⟩
    obtain ⟨F2, S2, s2, hx2⟩ := S1.finR r1 hx'
    rcases hx2 with ⟨d, rfl, r⟩ | ⟨s, d, a, fo, ow, e2, e3, e4, e5, f, no⟩
    · refine ⟨pn, F2, E2, G1, _, S2, h1, fun ry E3 G2 ⟨y', E4, hy', hli, hlj, hn⟩ u F3 H3 S3 s3 r3 => ?_⟩
      obtain ⟨F4, S4, s4, hy4⟩ := S3.finR r3 hy'
      refine ⟨_, _, rfl, last S4 (((s1.trans s2).trans s3).trans s4) (.inl ⟨d, rfl, Rep.mono (s3.trans s4) _ _ r⟩) ?_ hli hlj hn⟩
      rcases hy4 with ⟨d', e1, r⟩ | ⟨s', d', b', fo', ow', e2, e3, e4, e5, f', no'⟩
      · exact .inl ⟨d', e1, r⟩
      · subst e3 e4 e5
        exact .inr ⟨s', d', b', fo', ow', rfl, f', no', fun z => absurd rfl z⟩
    · subst e3 e4 e5
      obtain ⟨o, hx1, rxs⟩ := f.ex
      refine ⟨(a, o) :: pn, F2, E2, G1, _, S2.pendOn f.nF f.nB f.nG f.nP hx1 no rxs.dat.nt, h1, fun ry E3 G2 ⟨y', E4, hy', hli, hlj, hn⟩ u F3 H3 S3 s3 r3 => ?_⟩
      obtain ⟨F4, S4, s4, hy4⟩ := S3.finR r3 hy'
      obtain ⟨S5, hF, hB, hG, hP, hH, no4⟩ := S4.pendOff rxs.dat
      refine ⟨_, _, rfl, last S5 ((s1.trans s3).trans s4) (.inr ⟨s, d, a, fo, ow, rfl, ⟨hF, hB, hG, hP, o, hH, rxs.mono (s3.trans s4)⟩, no4⟩) ?_ hli hlj hn⟩
      rcases hy4 with ⟨d', e1, r⟩ | ⟨s', d', b', fo', ow', e2, e3, e4, e5, f', no'⟩
      · exact .inl ⟨d', e1, r⟩
      · subst e3 e4 e5
        refine .inr ⟨s', d', b', fo', ow', rfl, ⟨f'.nF, f'.nB, f'.nG, fun z => f'.nP (by rw [List.map_cons]; exact List.mem_cons_of_mem _ z), f'.ex⟩, no', fun _ e => f'.nP ?_⟩
        cases e
        rw [List.map_cons]
        exact List.mem_cons_self⟩
end
end L3

set_option Elab.async false
set_option maxRecDepth 100000
set_option maxHeartbeats 4000000
/-! L3, part j: short words for a generated derivation. -/
namespace L3
open PySem PySem.Spec PyProof.Rows L2
/-- a def of the module that keeps a promise over plain values -/
structure Cal3 (P : Program) (w : World) (K : PySem.W.Frag) (mg : Str → Option Value) (base : Heap) (x : Str) (k : Nat) (ps : List Str) (sp : DSp) : Prop where
  ex : ∃ (f : Addr) (fd : FuncData), FnOk P w K mg base (L2.CX P w) k f fd ps (LSp K sp) ∧ mg x = some (.ref f) ∧ PySem.W.keepIn K (.ref f) = true ∧ Binds K fd ps [] ∧ ∃ oc od osl, K.lookup f = some ⟨oc, od, .func fd, osl⟩
/-- what the head tells of a def -/
structure DefAt (K : PySem.W.Frag) (mg : Str → Option Value) (x : Str) (st : Stmt) : Prop where
  ex : ∃ (f : Addr) (oc : Value) (od an : Option Addr) (osl : Array (Option Value)) (kV doc pm cdv ct : Value), mg x = some (.ref f) ∧
    K.lookup f = some ⟨oc, od, .func (PySem.W.fnOf x x (defArgs st) (defBody st) (defScope st) .none kV doc pm an cdv ct), osl⟩ ∧ PySem.W.codeIn K cdv x = true ∧ PySem.W.keepIn K (.ref f) = true
theorem defAt_mk {K : PySem.W.Frag} {h : Heap} {mg : Str → Option Value} {x : Str} {st : Stmt} (X : K.In h) (G : h.Ns mainGlobals mg) {f : Addr} {oc : Value} {od an : Option Addr} {osl : Array (Option Value)} {kV doc pm cdv ct : Value}
    (a : PySem.W.nsIn K mainGlobals x = some (some (.ref f))) (l : K.lookup f = some ⟨oc, od, .func (PySem.W.fnOf x x (defArgs st) (defBody st) (defScope st) .none kV doc pm an cdv ct), osl⟩) (c : PySem.W.codeIn K cdv x = true) (k : PySem.W.keepIn K (.ref f) = true) : DefAt K mg x st :=
  ⟨f, oc, od, an, osl, kV, doc, pm, cdv, ct, PySem.W.mg_of X G a, l, c, k⟩
section
variable {P : Program} {w : World} {K : PySem.W.Frag} {mg : Str → Option Value} {base : Heap}
theorem cal3 {x : Str} {st : Stmt} {k : Nat} {ps N : List Str} {sp : DSp} (d : DefAt K mg x st)
    (hb : ∀ (kV doc pm : Value) (an : Option Addr) (cdv ct : Value) (us : List Value), us.length = ps.length → bindArgs (PySem.W.fnOf x x (defArgs st) (defBody st) (defScope st) .none kV doc pm an cdv ct) ⟨us, []⟩ = pure (ps.zip us))
    (S : FnScope N ps (defScope st)) (len : ∀ ds G q e, sp ds G q e → ds.length = ps.length)
    (body : ∀ (f : Addr) (cdv : Value) (A : Around) (outer : List Env) (s : Shared) (H : Hp) (E : XK) (B : Base3) (dw : Exc3 → Reg → Prop), Room k (A.deeper (envOfC x (defScope st) s.heap.objs.size f cdv)) →
      WOkL (cxOf (L2.CX P w) P w K mg base N x (defScope st) f cdv A outer s H E) B (fun x _ G => dw x G) →
      ∃ t : DSt, LSs (cxOf (L2.CX P w) P w K mg base N x (defScope st) f cdv A outer s H E) B (defBody st) t ∧ ∀ ds G q, sp ds G q dw → t { nx := fun _ G' => q (.val .non) G', rt := q } (start3 N ds) G) :
    Cal3 P w K mg base x (k + 1) ps sp := by
  obtain ⟨f, oc, od, an, osl, kV, doc, pm, cdv, ct, hm, l, c, kp⟩ := d.ex
  have F := fun_mk (st := st) l c kp
  exact ⟨f, _, ok3 F S len (fun cdv A outer s H E B dw hr wk => body f cdv A outer s H E B dw hr wk), hm, kp, F.binds hb, _, _, _, l⟩
end
section
variable {X : Cx} {B : Base3}
theorem le_callC {x : Str} {k j : Nat} {ps : List Str} {sp : DSp} {dw : DW} {ta : DA} {p pos : Pos} {e : Expr} {es : List Expr} (c : Cal3 X.prog X.w X.K X.mg X.base x k ps sp) (hr : Room j X.A) (hk : k ≤ j) (wk : WOk X B dw) (hg : Gl X x) (ha : LA X B (e :: es) ta)
    (hdb : (x == ("__debug__" : Str)) = false := by decide) (he : starEach (e :: es) X.env = (false, eval e X.env) :: starEach es X.env := by rfl) (hpl : (backTo pos (starEach es X.env)).any (·.1) = false := by rfl) :
    LE X B (.Call (.Name x p) (e :: es) [] pos) (dCall sp dw ta) := by
  obtain ⟨f, fd, Fn, hm, kp, hb, -⟩ := c.ex
  exact le_call Fn (hr.mono hk) wk hg hm kp hb ha hdb he hpl
theorem room65 {k : Nat} {A : Around} (r : Room k A) : A.units + 65 < cLine := by have := r.un; omega
variable {a b c : Expr} {ta tb tc : DE} {pos : Pos}
/-! comparisons, as values and as tests -/
theorem le_lt (ha : LE X B a ta) (hb : LE X B b tb) : LE X B (.Compare a [.Lt] [b] pos) (dOp oLt ta tb) := le_cmp op_lt r_cmpI ha hb (nomark _)
theorem le_gt (ha : LE X B a ta) (hb : LE X B b tb) : LE X B (.Compare a [.Gt] [b] pos) (dOp oGt ta tb) := le_cmp op_gt r_cmpI ha hb (nomark _)
theorem le_eq {k : Nat} (hr : Room k X.A) (ha : LE X B a ta) (hb : LE X B b tb) : LE X B (.Compare a [.Eq] [b] pos) (dOp oEq ta tb) := le_cmp (op_eqD hr.units) r_eq3 ha hb (nomark _)
theorem le_in {k : Nat} (hr : Room k X.A) (ha : LE X B a ta) (hb : LE X B b tb) (hm : behindInMarks .In b = false := by rfl) : LE X B (.Compare a [.In] [b] pos) (dOp (oIn false) ta tb) := le_cmp (op_in3 (room65 hr)) r_in3 ha hb hm
theorem lt_lt (ha : LE X B a ta) (hb : LE X B b tb) : LT X B (.Compare a [.Lt] [b] pos) (dTest (dOp oLt ta tb)) := lt_cmp op_lt r_cmpI ha hb (nomark _)
theorem lt_gt (ha : LE X B a ta) (hb : LE X B b tb) : LT X B (.Compare a [.Gt] [b] pos) (dTest (dOp oGt ta tb)) := lt_cmp op_gt r_cmpI ha hb (nomark _)
theorem lt_ge (ha : LE X B a ta) (hb : LE X B b tb) : LT X B (.Compare a [.GtE] [b] pos) (dTest (dOp oGe ta tb)) := lt_cmp op_ge r_cmpI ha hb (nomark _)
theorem lt_eq {k : Nat} (hr : Room k X.A) (ha : LE X B a ta) (hb : LE X B b tb) : LT X B (.Compare a [.Eq] [b] pos) (dTest (dOp oEq ta tb)) := lt_cmp (op_eqD hr.units) r_eq3 ha hb (nomark _)
theorem lt_ne {k : Nat} (hr : Room k X.A) (ha : LE X B a ta) (hb : LE X B b tb) : LT X B (.Compare a [.NotEq] [b] pos) (dTest (dOp oNe ta tb)) := lt_cmp (op_neD hr.units) r_ne3 ha hb (nomark _)
theorem lt_in {k : Nat} (hr : Room k X.A) (ha : LE X B a ta) (hb : LE X B b tb) (hm : behindInMarks .In b = false := by rfl) : LT X B (.Compare a [.In] [b] pos) (dTest (dOp (oIn false) ta tb)) := lt_cmp (op_in3 (room65 hr)) r_in3 ha hb hm
theorem lt_notIn {k : Nat} (hr : Room k X.A) (ha : LE X B a ta) (hb : LE X B b tb) (hm : behindInMarks .NotIn b = false := by rfl) : LT X B (.Compare a [.NotIn] [b] pos) (dTest (dOp (oIn true) ta tb)) := lt_cmp (op_notIn3 (room65 hr)) r_notIn3 ha hb hm
theorem lt_isN (ha : LE X B a ta) (hb : LE X B b tb) : LT X B (.Compare a [.Is] [b] pos) (dTest (dOp (oIs false) ta tb)) := lt_cmp op_isN r_is3 ha hb (nomark _)
theorem lt_notN (ha : LE X B a ta) (hb : LE X B b tb) : LT X B (.Compare a [.IsNot] [b] pos) (dTest (dOp (oIs true) ta tb)) := lt_cmp op_notN r_isNot3 ha hb (nomark _)
/-- the name of an operator's rule, for chains -/
structure OpN (X : Cx) (B : Base3) (op : CmpOp) (rd : Reg → D → D → (Res → Prop) → Prop) : Prop where
  ex : ∃ r, OpR X (compareOp op) r ∧ ROp X B r rd
theorem on_lt : OpN X B .Lt oLt := ⟨_, op_lt, r_cmpI⟩
theorem on_le : OpN X B .LtE oLe := ⟨_, op_le, r_cmpI⟩
theorem le_ch {op op' : CmpOp} {rd rd' : Reg → D → D → (Res → Prop) → Prop} (o : OpN X B op rd) (o' : OpN X B op' rd') (ha : LE X B a ta) (hb : LE X B b tb) (hc : LE X B c tc) (hm : lastMarks [op, op'] [b, c] = false := by with_unfolding_all rfl) : LE X B (.Compare a [op, op'] [b, c] pos) (dChain rd rd' ta tb tc) := by
  obtain ⟨r, h1, h2⟩ := o.ex
  obtain ⟨r', h3, h4⟩ := o'.ex
  exact le_chain h1 h2 h3 h4 ha hb hc hm
theorem lt_ch {op op' : CmpOp} {rd rd' : Reg → D → D → (Res → Prop) → Prop} (o : OpN X B op rd) (o' : OpN X B op' rd') (ha : LE X B a ta) (hb : LE X B b tb) (hc : LE X B c tc) (hm : lastMarks [op, op'] [b, c] = false := by with_unfolding_all rfl) : LT X B (.Compare a [op, op'] [b, c] pos) (dTest (dChain rd rd' ta tb tc)) := by
  obtain ⟨r, h1, h2⟩ := o.ex
  obtain ⟨r', h3, h4⟩ := o'.ex
  exact lt_chain h1 h2 h3 h4 ha hb hc hm
theorem ip_subI : PIp X .Sub (rI0 fun i j => .int (i - j)) := ip_sub
def oAddI : Reg → D → D → (Res → Prop) → Prop := fun _ d e k => match d, e with
  | .int i, .int j => k (.val (.int (i + j)))
  | _, _ => False
/-- constants of the module -/
theorem le_gint {x : Str} {i : Int} {pos : Pos} (hg : Gl X x) (hm : ∃ t, X.mg x = some (.int i t)) (hd : (x == ("__debug__" : Str)) = false := by decide) : LE X B (.Name x pos) (dC (.int i)) := by
  obtain ⟨t, hm⟩ := hm
  exact le_c (v := .int i) (pe_glob hg hm ⟨_, rfl⟩ hd) fun _ => .int i
theorem le_gstr {x : Str} {i : Str} {pos : Pos} (hg : Gl X x) (hm : ∃ t, X.mg x = some (.str i t)) (hd : (x == ("__debug__" : Str)) = false := by decide) : LE X B (.Name x pos) (dC (.str i)) := by
  obtain ⟨t, hm⟩ := hm
  exact le_c (v := .str i) (pe_glob hg hm ⟨_, rfl⟩ hd) fun _ => .str i
/-- a tuple of ints of the module -/
structure TupAt (K : PySem.W.Frag) (mg : Str → Option Value) (x : Str) (ns : List Int) : Prop where
  ex : ∃ (a : Addr), mg x = some (.ref a) ∧ ∀ F, Rep K F (.ktp ns) (.ref a)
theorem le_gtup {x : Str} {ns : List Int} {pos : Pos} (hg : Gl X x) (hm : TupAt X.K X.mg x ns) (hd : (x == ("__debug__" : Str)) = false := by decide) : LE X B (.Name x pos) (dC (.ktp ns)) := by
  obtain ⟨a, hm, hr⟩ := hm.ex
  exact le_c (v := .ref a) (pe_glob hg hm rfl hd) hr
end
theorem tupAt_mk {K : PySem.W.Frag} {h : Heap} {mg : Str → Option Value} {x : Str} {ns : List Int} (X : K.In h) (G : h.Ns mainGlobals mg) {a : Addr} {dd : Option Addr} {its : List Value} {n : Nat} {sl : Array (Option Value)}
    (e : PySem.W.nsIn K mainGlobals x = some (some (.ref a))) (l : K.lookup a = some ⟨.type "tuple", dd, .seq its.toArray n, sl⟩) (hi : Vals (ns.map V.int) its) (hz : its.length ≤ sizeLine) : TupAt K mg x ns :=
  ⟨a, PySem.W.mg_of X G e, fun F => .ktp (.inr ⟨_, its.toArray, n, l, rfl, rfl, by simpa using hz, by simpa using hi⟩)⟩
end L3

set_option Elab.async false
set_option maxRecDepth 100000
set_option maxHeartbeats 4000000
/-! L3, part k: the readings, evaluated by simp. -/
namespace L3
open PySem PySem.Spec PyProof.Rows L2
section
variable {E : Env3} {G : Reg} {k : DK} {ta tb tc te to ti : DE} {t u : DT} {s s' : DSt} {Dn : Ends3} {i j : Nat} {tr : DA} {ka : List D → Env3 → Reg → Prop} {kb : Bool → Env3 → Reg → Prop} {rd rd' : Reg → D → D → (Res → Prop) → Prop}
@[simp] theorem start3_cons {x : Str} {N : List Str} {d : D} {ds : List D} : start3 (x :: N) (d :: ds) = Sl3.val d :: start3 N ds := by
  unfold start3; simp
@[simp] theorem start3_none {x : Str} {N : List Str} : start3 (x :: N) [] = Sl3.no :: start3 N [] := by
  unfold start3; simp [List.replicate_succ]
@[simp] theorem start3_nil : start3 [] [] = [] := rfl
@[simp] theorem dSeq_eq : dSeq s s' Dn E G = s { Dn with nx := s' Dn } E G := rfl
@[simp] theorem dNext_eq : dNext Dn E G = Dn.nx E G := rfl
@[simp] theorem dIfS_eq : dIfS t s s' Dn E G = t E G fun b E1 G1 => if b = true then s Dn E1 G1 else s' Dn E1 G1 := rfl
@[simp] theorem dDrop_eq : dDrop te Dn E G = te E G fun _ E1 G1 => Dn.nx E1 G1 := rfl
@[simp] theorem dRet_eq : dRet te Dn E G = te E G fun r E1 G1 => ∃ r', r.out E1 = some r' ∧ Dn.rt r' G1 := rfl
@[simp] theorem dRetN_eq : dRetN Dn E G = Dn.rt (.val .non) G := rfl
@[simp] theorem dBreak_eq : dBreak Dn E G = Dn.bk E G := rfl
@[simp] theorem dCont_eq : dCont Dn E G = Dn.ct E G := rfl
@[simp] theorem dNever_eq : dNever Dn E G = False := rfl
@[simp] theorem dSet_eq : dSet i te Dn E G = te E G fun r E1 G1 => i < E1.length ∧ ∃ E2, r.put i E1 = some E2 ∧ Dn.nx E2 G1 := rfl
@[simp] theorem dSetReg_eq : dSetReg i te Dn E G = te E G fun r E1 G1 => i < E1.length ∧ ∃ ds, r = .fr ds ∧ ∀ a, Dn.nx (E1.set i (Sl3.val (.ref a))) ((a, ds) :: G1) := rfl
@[simp] theorem dAug_eq : dAug i rd te Dn E G = ∃ d, E[i]? = some (Sl3.val d) ∧ te E G fun y E1 G1 => E1[i]? = some (Sl3.val d) ∧ ∃ e, y.get E1 = some e ∧ rd G1 d e fun r => ∃ z, r = .val z ∧ Dn.nx (E1.set i (Sl3.val z)) G1 := rfl
@[simp] theorem dStore_eq : dStore te to ti Dn E G = te E G fun v E1 G1 => ∃ d E2, v.ice E1 = some (d, E2) ∧ to E2 G1 fun o E3 G2 => ti E3 G2 fun i E4 G3 => ∃ k, i = .val (.int k) ∧
  match o with
  | .val (.ref a) => ∃ ds, lookL G3 a = some ds ∧ ∃ j, ixN ds.length k = some j ∧ Dn.nx E4 (regSet G3 a (ds.set j d))
  | .sl s => ∃ ds, E4[s]? = some (Sl3.own ds) ∧ ∃ j, ixN ds.length k = some j ∧ Dn.nx (E4.set s (Sl3.own (ds.set j d))) G3
  | _ => False := rfl
@[simp] theorem dPar_eq : dPar i j ta tb Dn E G = ta E G fun x E1 G1 => ∃ x' E2, x.fin E1 = some (x', E2) ∧ tb E2 G1 fun y E3 G2 => ∃ y' E4, y.fin E3 = some (y', E4) ∧ i < E4.length ∧ j < E4.length ∧
  ∃ E5, x'.put i E4 = some E5 ∧ ∃ E6, y'.put j E5 = some E6 ∧ Dn.nx E6 G2 := rfl
@[simp] theorem dAsg_eq {g : DG} : dAsg te g Dn E G = te E G fun r E1 G1 => ∃ d E2, r.ice E1 = some (d, E2) ∧ g d E2 G1 Dn.nx := rfl
@[simp] theorem dFor_eq {di : DI} {g : DG} : dFor di g s Dn E G = di E G fun ds E1 G1 => dForL g s ds Dn E1 G1 := rfl
@[simp] theorem dForL_nil {g : DG} : dForL g s [] Dn E G = Dn.nx E G := rfl
@[simp] theorem dWhile_eq : dWhile t s Dn E G = ∃ n, dWhN t s n Dn E G := rfl
@[simp] theorem dVar_eq : dVar i E G k = match E[i]? with
  | some (Sl3.val d) => k (.val d) E G
  | some (Sl3.own _) => k (.sl i) E G
  | some (Sl3.ownD _) => k (.sl i) E G
  | _ => False := rfl
@[simp] theorem dC_eq {d : D} : dC d E G k = k (.val d) E G := rfl
@[simp] theorem dOp_eq : dOp rd ta tb E G k = ta E G fun x E1 G1 => tb E1 G1 fun y E2 G2 => ∃ d, x.fz.get E2 = some d ∧ ∃ e, y.get E2 = some e ∧ rd G2 d e fun r => k r E2 G2 := rfl
@[simp] theorem dTest_eq : dTest te E G kb = te E G fun r E1 G1 => ∃ b, r = .val (.bl b) ∧ kb b E1 G1 := rfl
@[simp] theorem dNot_eq : dNot t E G kb = t E G fun b E1 G1 => kb (!b) E1 G1 := rfl
@[simp] theorem dAnd_eq : dAnd t u E G kb = t E G fun b E1 G1 => if b = true then u E1 G1 kb else kb false E1 G1 := rfl
@[simp] theorem dOr_eq : dOr t u E G kb = t E G fun b E1 G1 => if b = true then kb true E1 G1 else u E1 G1 kb := rfl
@[simp] theorem dAndV_eq : dAndV ta tb E G k = ta E G fun r E1 G1 => ∃ b, r = .val (.bl b) ∧ if b = true then tb E1 G1 k else k (.val (.bl false)) E1 G1 := rfl
@[simp] theorem dOrV_eq : dOrV ta tb E G k = ta E G fun r E1 G1 => ∃ b, r = .val (.bl b) ∧ if b = true then k (.val (.bl true)) E1 G1 else tb E1 G1 k := rfl
@[simp] theorem dNotV_eq : dNotV ta E G k = ta E G fun r E1 G1 => ∃ b, r = .val (.bl b) ∧ k (.val (.bl (!b))) E1 G1 := rfl
@[simp] theorem dIf_eq : dIf t ta tb E G k = t E G fun b E1 G1 => if b = true then ta E1 G1 k else tb E1 G1 k := rfl
@[simp] theorem dUn_eq {rd : D → (Res → Prop) → Prop} : dUn rd ta E G k = ta E G fun x E1 G1 => ∃ d, x.get E1 = some d ∧ rd d fun r => k r E1 G1 := rfl
@[simp] theorem dChain_eq : dChain rd rd' ta tb tc E G k = ta E G fun x E1 G1 => tb E1 G1 fun y E2 G2 =>
  ∃ d, x.fz.get E2 = some d ∧ ∃ e, y.fz.get E2 = some e ∧ rd G2 d e fun r => ∃ b, r = .val (.bl b) ∧
    if b = true then tc E2 G2 fun z E3 G3 => ∃ e', y.fz.get E3 = some e' ∧ ∃ f, z.get E3 = some f ∧ rd' G3 e' f fun r => k r E3 G3 else k (.val (.bl false)) E2 G2 := rfl
@[simp] theorem dNil_eq : dNil E G ka = ka [] E G := rfl
@[simp] theorem dCons_eq : dCons ta tr E G ka = ta E G fun x E1 G1 => ∃ d E2, x.ice E1 = some (d, E2) ∧ tr E2 G1 fun ds E3 G3 => ka (d :: ds) E3 G3 := rfl
@[simp] theorem dPCons_eq : dPCons ta tr E G ka = ta E G fun x E1 G1 => tr E1 G1 fun ds E3 G3 => ∃ d, x.fz.get E3 = some d ∧ ka (d :: ds) E3 G3 := rfl
@[simp] theorem dTup_eq : dTup tr E G k = tr E G fun ds E1 G1 => ds.length ≤ sizeLine ∧ k (.val (.tup ds)) E1 G1 := rfl
@[simp] theorem dLst_eq : dLst tr E G k = tr E G fun ds E1 G1 => ds.length ≤ sizeLine ∧ k (.fr ds) E1 G1 := rfl
@[simp] theorem dNoPart_eq {ko : Option Int → Env3 → Reg → Prop} : dNoPart E G ko = ko none E G := rfl
@[simp] theorem dPart_eq {ko : Option Int → Env3 → Reg → Prop} : dPart ta E G ko = ta E G fun r E1 G1 => ∃ i, r = .val (.int i) ∧ ko (some i) E1 G1 := rfl
@[simp] theorem dSl_eq {rd : D → Option Int → Option Int → (Res → Prop) → Prop} {tl th : DO} : dSl rd te tl th E G k = te E G fun x E1 G1 => tl E1 G1 fun lo E2 G2 => th E2 G2 fun hi E3 G3 =>
  ∃ d, x.fz.get E3 = some d ∧ rd d lo hi fun r => k r E3 G3 := rfl
@[simp] theorem dCB_eq {rd : Reg → List D → (Res → Prop) → Prop} : dCB rd tr E G k = tr E G fun ds E1 G1 => rd G1 ds fun r => k r E1 G1 := rfl
@[simp] theorem dCall_eq {sp : DSp} {dw : DW} : dCall sp dw tr E G k = tr E G fun ds E1 G1 => sp ds G1 (fun r G2 => k r E1 G2) (fun x G2 => dw x E1 G2) := rfl
@[simp] theorem dApp_eq : dApp i te E G k = ((∃ ds, E[i]? = some (Sl3.own ds)) ∧ te E G fun r E1 G1 => ∃ d E2, r.ice E1 = some (d, E2) ∧ ∃ ds, E2[i]? = some (Sl3.own ds) ∧ ds.length < sizeLine ∧ k (.val .non) (E2.set i (Sl3.own (ds ++ [d]))) G1) := rfl
@[simp] theorem dIter_eq {kl : List D → Env3 → Reg → Prop} : dIter te E G kl = te E G fun r E1 G1 => ∃ d E2, r.ice E1 = some (d, E2) ∧ ∃ ds, iterD d = some ds ∧ kl ds E2 G1 := rfl
@[simp] theorem dRng1_eq {kl : List D → Env3 → Reg → Prop} : dRng1 tr E G kl = tr E G fun ds E1 G1 => ∃ j : Int, ds = [.int j] ∧ -(2 ^ 62) ≤ j ∧ j < 2 ^ 62 ∧ kl (rangeD 0 j.toNat) E1 G1 := rfl
@[simp] theorem dRng2_eq {kl : List D → Env3 → Reg → Prop} : dRng2 tr E G kl = tr E G fun ds E1 G1 => ∃ i j : Int, ds = [.int i, .int j] ∧ (-(2 ^ 62) ≤ i ∧ i < 2 ^ 62 ∧ -(2 ^ 62) ≤ j ∧ j < 2 ^ 62) ∧ kl (rangeD i (j - i).toNat) E1 G1 := rfl
@[simp] theorem gNm_eq {d : D} {kk : Env3 → Reg → Prop} : gNm i d E G kk = (i < E.length ∧ kk (E.set i (Sl3.val d)) G) := rfl
@[simp] theorem gTp_eq {n : Nat} {gs : DGs} {d : D} {kk : Env3 → Reg → Prop} : gTp n gs d E G kk = ∃ ds, d = .tup ds ∧ ds.length = n ∧ gs ds E G kk := rfl
@[simp] theorem gsNil_eq {ds : List D} {kk : Env3 → Reg → Prop} : gsNil ds E G kk = (ds = [] ∧ kk E G) := rfl
@[simp] theorem gsCons_eq {g : DG} {gs : DGs} {ds : List D} {kk : Env3 → Reg → Prop} : gsCons g gs ds E G kk = ∃ d r, ds = d :: r ∧ g d E G fun E1 G1 => gs r E1 G1 kk := rfl
@[simp] theorem dYes_eq : dYes E G kb = kb true E G := rfl
@[simp] theorem dLc_eq {di : DI} {g : DG} {vs : List Nat} : dLc di g t te vs E G k = di E G fun ds E1 G1 => ds.length ≤ sizeLine ∧ dLcL g t te vs ds [] (wipe3 E1 vs) G1 fun acc E2 G2 => k (.fr acc) E2 G2 := rfl
@[simp] theorem dLcL_nil {g : DG} {vs : List Nat} {acc : List D} {kl : List D → Env3 → Reg → Prop} : dLcL g t te vs [] acc E G kl = kl acc E G := rfl
@[simp] theorem wipe3_nil : wipe3 E [] = E := rfl
@[simp] theorem wipe3_cons {v : Nat} {vs : List Nat} : wipe3 E (v :: vs) = (wipe3 E vs).set v Sl3.no := rfl
/-! what is given -/
variable {d e : D} {ds es : List D}
@[simp] theorem get_val : (Res.val d).get E = some d := rfl
@[simp] theorem get_fr : (Res.fr ds).get E = some (.lst ds) := rfl
@[simp] theorem get_sl : (Res.sl i).get E = match E[i]? with
    | some (Sl3.val d) => some d
    | some (Sl3.own ds) => some (.lst ds)
    | some (Sl3.ownD d) => some d
    | _ => none := rfl
@[simp] theorem fz_val : (Res.val d).fz = .val d := rfl
@[simp] theorem fz_fr : (Res.fr ds).fz = .val (.lst ds) := rfl
@[simp] theorem fz_sl : (Res.sl i).fz = .sl i := rfl
@[simp] theorem ice_val : (Res.val d).ice E = some (d, E) := rfl
@[simp] theorem ice_fr : (Res.fr ds).ice E = some (.lst ds, E) := rfl
@[simp] theorem ice_sl : (Res.sl i).ice E = match E[i]? with
    | some (Sl3.val d) => some (d, E)
    | some (Sl3.own ds) => some (.lst ds, E.set i (Sl3.val (.lst ds)))
    | some (Sl3.ownD d) => some (d, E.set i (Sl3.val d))
    | _ => none := rfl
@[simp] theorem out_val : (Res.val d).out E = some (.val d) := rfl
@[simp] theorem out_fr : (Res.fr ds).out E = some (.fr ds) := rfl
@[simp] theorem out_sl : (Res.sl i).out E = match E[i]? with
    | some (Sl3.val d) => some (.val d)
    | some (Sl3.own ds) => some (.fr ds)
    | some (Sl3.ownD d) => some (.frD d)
    | _ => none := rfl
@[simp] theorem put_val : (Res.val d).put i E = some (E.set i (Sl3.val d)) := rfl
@[simp] theorem put_fr : (Res.fr ds).put i E = some (E.set i (Sl3.own ds)) := rfl
@[simp] theorem put_sl : (Res.sl j).put i E = match E[j]? with
    | some (Sl3.val d) => some (E.set i (Sl3.val d))
    | some (Sl3.own ds) => some ((E.set j (Sl3.val (.lst ds))).set i (Sl3.val (.lst ds)))
    | some (Sl3.ownD d) => some ((E.set j (Sl3.val d)).set i (Sl3.val d))
    | _ => none := rfl
@[simp] theorem fin_val : (Res.val d).fin E = some (.val d, E) := rfl
@[simp] theorem fin_fr : (Res.fr ds).fin E = some (.fr ds, E) := rfl
@[simp] theorem fin_sl : (Res.sl i).fin E = match E[i]? with
    | some (Sl3.val d) => some (.val d, E)
    | some (Sl3.own ds) => some (.val (.lst ds), E.set i (Sl3.val (.lst ds)))
    | some (Sl3.ownD d) => some (.val d, E.set i (Sl3.val d))
    | _ => none := rfl
/-! operators -/
variable {kr : Res → Prop} {a b : Int} {x y : Str}
@[simp] theorem oAdd_ii : oAdd G (.int a) (.int b) kr = kr (.val (.int (a + b))) := rfl
@[simp] theorem oAdd_ss : oAdd G (.str x) (.str y) kr = (x.length + y.length ≤ sizeLine ∧ kr (.val (.str (x ++ y)))) := rfl
@[simp] theorem oAdd_tt : oAdd G (.tup ds) (.tup es) kr = (ds.length + es.length ≤ sizeLine ∧ kr (.val (.tup (ds ++ es)))) := rfl
@[simp] theorem oAdd_ll : oAdd G (.lst ds) (.lst es) kr = (ds.length + es.length ≤ sizeLine ∧ kr (.fr (ds ++ es))) := rfl
@[simp] theorem oAddI_ii : oAddI G (.int a) (.int b) kr = kr (.val (.int (a + b))) := rfl
@[simp] theorem oSub_ii : oSub G (.int a) (.int b) kr = kr (.val (.int (a - b))) := rfl
@[simp] theorem oMul_ii : oMul G (.int a) (.int b) kr = (MulOk a b ∧ kr (.val (.int (a * b)))) := rfl
@[simp] theorem oMul_li : oMul G (.lst ds) (.int b) kr = (-(2 ^ 63) ≤ b ∧ b < 2 ^ 63 ∧ ds.length * b.toNat ≤ sizeLine ∧ kr (.fr (List.replicate b.toNat ds).flatten)) := rfl
@[simp] theorem oFdiv_ii : oFdiv G (.int a) (.int b) kr = (CDivW a b ∧ kr (.val (.int (a / b)))) := rfl
@[simp] theorem oMod_ii : oMod G (.int a) (.int b) kr = (0 < b ∧ kr (.val (.int (a % b)))) := rfl
@[simp] theorem oModN_ii : oModN G (.int a) (.int b) kr = (b ≠ 0 ∧ kr (.val (.int (a.fmod b)))) := rfl
@[simp] theorem oPow_ii : oPow G (.int a) (.int b) kr = (CPow a b ∧ kr (.val (.int (a ^ b.toNat)))) := rfl
@[simp] theorem oCmpI_ii {p : Int → Int → Bool} : oCmpI p G (.int a) (.int b) kr = kr (.val (.bl (p a b))) := rfl
@[simp] theorem oEq_eq : oEq G d e kr = (d.sh = true ∧ e.sh = true ∧ kr (.val (.bl (D.eqv d e)))) := rfl
@[simp] theorem oNe_eq : oNe G d e kr = (d.sh = true ∧ e.sh = true ∧ kr (.val (.bl (!D.eqv d e)))) := rfl
@[simp] theorem oIn_l {n : Bool} : oIn n G d (.lst ds) kr = (d.sh = true ∧ (D.lst ds).sh = true ∧ kr (.val (.bl (if n then !d.among ds else d.among ds)))) := rfl
@[simp] theorem oIn_t {n : Bool} : oIn n G d (.tup ds) kr = (d.sh = true ∧ (D.tup ds).sh = true ∧ kr (.val (.bl (if n then !d.among ds else d.among ds)))) := rfl
@[simp] theorem oIs_eq {n : Bool} : oIs n G d e kr = (e.isN = true ∧ kr (.val (.bl (if n then !d.isN else d.isN)))) := rfl
@[simp] theorem isN_non : D.isN .non = true := rfl
@[simp] theorem isN_int : D.isN (.int a) = false := rfl
@[simp] theorem isN_tup : D.isN (.tup ds) = false := rfl
@[simp] theorem isN_lst : D.isN (.lst ds) = false := rfl
@[simp] theorem isN_str : D.isN (.str x) = false := rfl
@[simp] theorem isN_bl {b : Bool} : D.isN (.bl b) = false := rfl
@[simp] theorem uNeg_i : uNeg (.int a) kr = kr (.val (.int (-a))) := rfl
@[simp] theorem oIx_li : oIx G (.lst ds) (.int a) kr = ∃ v, atI ds a = some v ∧ kr (.val v) := rfl
@[simp] theorem oIx_ti : oIx G (.tup ds) (.int a) kr = ∃ v, atI ds a = some v ∧ kr (.val v) := rfl
@[simp] theorem oIx_sc {ns : List Int} : oIx G (.scr ns) (.int a) kr = ∃ v, atI ns a = some v ∧ kr (.val (.int v)) := rfl
@[simp] theorem oIx_ri {p : Addr} : oIx G (.ref p) (.int a) kr = ∃ ds, lookL G p = some ds ∧ ∃ v, atI ds a = some v ∧ kr (.val v) := rfl
@[simp] theorem oSl_l {lo hi : Option Int} : oSl (.lst ds) lo hi kr = kr (.fr (cutD ds lo hi)) := rfl
@[simp] theorem oSl_t {lo hi : Option Int} : oSl (.tup ds) lo hi kr = kr (.val (.tup (cutD ds lo hi))) := rfl
@[simp] theorem bLen_l : bLen G [.lst ds] kr = kr (.val (.int ds.length)) := rfl
@[simp] theorem bLen_t : bLen G [.tup ds] kr = kr (.val (.int ds.length)) := rfl
@[simp] theorem bLen_s : bLen G [.str x] kr = (x.length ≤ sizeLine ∧ kr (.val (.int x.length))) := rfl
@[simp] theorem bLen_c {ns : List Int} : bLen G [.scr ns] kr = kr (.val (.int ns.length)) := rfl
@[simp] theorem bAbs_i : bAbs G [.int a] kr = kr (.val (.int (if a < 0 then -a else a))) := rfl
@[simp] theorem bIntOf_i : bIntOf G [.int a] kr = kr (.val (.int a)) := rfl
@[simp] theorem bIntOf_b {b : Bool} : bIntOf G [.bl b] kr = kr (.val (.int (if b then 1 else 0))) := rfl
@[simp] theorem bMax_i : bMax G [.int a, .int b] kr = kr (.val (.int (if b > a then b else a))) := rfl
@[simp] theorem bMin_i : bMin G [.int a, .int b] kr = kr (.val (.int (if b < a then b else a))) := rfl
@[simp] theorem bList_l : bList G [.lst ds] kr = kr (.fr ds) := rfl
@[simp] theorem bList_t : bList G [.tup ds] kr = kr (.fr ds) := rfl
@[simp] theorem bTuple_l : bTuple G [.lst ds] kr = kr (.val (.tup ds)) := rfl
@[simp] theorem bTuple_t : bTuple G [.tup ds] kr = kr (.val (.tup ds)) := rfl
@[simp] theorem bAll_l : bAll G [.lst ds] kr = ∃ bs, blsOf ds = some bs ∧ kr (.val (.bl (bs.all id))) := rfl
@[simp] theorem bAny_l : bAny G [.lst ds] kr = ∃ bs, blsOf ds = some bs ∧ kr (.val (.bl (bs.any id))) := rfl
@[simp] theorem bSum_l : bSum G [.lst ds] kr = ∃ bs, intsOf ds = some bs ∧ kr (.val (.int bs.sum)) := rfl
@[simp] theorem bIsi_eq {n : String} : bIsi G [d, .ty n] kr = ∃ t, tyN d = some t ∧ n ∈ knownT ∧ kr (.val (.bl (isT t n))) := rfl
@[simp] theorem tyN_non : tyN .non = some "NoneType" := rfl
@[simp] theorem tyN_bl {b : Bool} : tyN (.bl b) = some "bool" := rfl
@[simp] theorem tyN_int : tyN (.int a) = some "int" := rfl
@[simp] theorem tyN_str : tyN (.str x) = some "str" := rfl
@[simp] theorem tyN_tup : tyN (.tup ds) = some "tuple" := rfl
@[simp] theorem tyN_lst : tyN (.lst ds) = some "list" := rfl
@[simp] theorem known1 : "int" ∈ knownT := by decide
@[simp] theorem known2 : "bool" ∈ knownT := by decide
@[simp] theorem known3 : "str" ∈ knownT := by decide
@[simp] theorem known4 : "tuple" ∈ knownT := by decide
@[simp] theorem known5 : "list" ∈ knownT := by decide
@[simp] theorem isT_def {t n : String} : isT t n = (t == n || (t == "bool" && n == "int")) := rfl
@[simp] theorem iterD_l : iterD (.lst ds) = some ds := rfl
@[simp] theorem iterD_t : iterD (.tup ds) = some ds := rfl
@[simp] theorem iterD_s : iterD (.str x) = some (strD x) := rfl
@[simp] theorem blsOf_m (bs : List Bool) : blsOf (bs.map D.bl) = some bs := blsOf_map bs
@[simp] theorem intsOf_m (bs : List Int) : intsOf (bs.map D.int) = some bs := intsOf_map bs
/-! places -/
@[simp] theorem at0 {α : Type} {a : α} {r : List α} : atI (a :: r) (0 : Int) = some a := by
  have : atI (a :: r) ((0 : Nat) : Int) = some a := atI_nat rfl
  simpa using this
@[simp] theorem at1 {α : Type} {a b : α} {r : List α} : atI (a :: b :: r) (1 : Int) = some b := by
  have : atI (a :: b :: r) ((1 : Nat) : Int) = some b := atI_nat rfl
  simpa using this
@[simp] theorem at2 {α : Type} {a b c : α} {r : List α} : atI (a :: b :: c :: r) (2 : Int) = some c := by
  have : atI (a :: b :: c :: r) ((2 : Nat) : Int) = some c := atI_nat rfl
  simpa using this
theorem ix_nat {n j : Nat} (h : j < n) : ixN n (j : Int) = some j := by
  unfold ixN
  rw [if_pos (by omega), if_pos (by omega)]
  simp
@[simp] theorem ix0 {n : Nat} : ixN (n + 1) (0 : Int) = some 0 := by
  have := ix_nat (n := n + 1) (j := 0) (by omega)
  simpa using this
@[simp] theorem ix1 {n : Nat} : ixN (n + 1 + 1) (1 : Int) = some 1 := by
  have := ix_nat (n := n + 1 + 1) (j := 1) (by omega)
  simpa using this
@[simp] theorem ix2 {n : Nat} : ixN (n + 1 + 1 + 1) (2 : Int) = some 2 := by
  have := ix_nat (n := n + 1 + 1 + 1) (j := 2) (by omega)
  simpa using this
@[simp] theorem regSet_head {p : Addr} {R : Reg} : regSet ((p, ds) :: R) p es = (p, es) :: R := by
  unfold regSet; simp
/-! == -/
@[simp] theorem sh_int : D.sh (.int a) = true := rfl
@[simp] theorem sh_bl {b : Bool} : D.sh (.bl b) = true := rfl
@[simp] theorem sh_non : D.sh .non = true := rfl
@[simp] theorem sh_tup : D.sh (.tup ds) = ds.all (shl (shl (shl (shl sh0)))) := rfl
@[simp] theorem sh_lst : D.sh (.lst ds) = ds.all (shl (shl (shl (shl sh0)))) := rfl
@[simp] theorem shl_int {p : D → Bool} : shl p (.int a) = true := rfl
@[simp] theorem shl_bl {p : D → Bool} {b : Bool} : shl p (.bl b) = true := rfl
@[simp] theorem shl_non {p : D → Bool} : shl p .non = true := rfl
@[simp] theorem shl_tup {p : D → Bool} : shl p (.tup ds) = ds.all p := rfl
@[simp] theorem shl_lst {p : D → Bool} : shl p (.lst ds) = ds.all p := rfl
@[simp] theorem sh0_int : sh0 (.int a) = true := rfl
@[simp] theorem all_shl_ints {p : D → Bool} (ns : List Int) : (ns.map D.int).all (shl p) = true := by
  rw [List.all_map, List.all_eq_true]; intro x _; rfl
@[simp] theorem eqv_int : D.eqv (.int a) (.int b) = decide (a = b) := by
  unfold D.eqv D.py PyData.eqv; exact Bool.beq_eq_decide_eq a b
@[simp] theorem eqv_bl {b c : Bool} : D.eqv (.bl b) (.bl c) = (b == c) := rfl
def eqvL : List D → List D → Bool
  | [], [] => true
  | x :: xs, y :: ys => D.eqv x y && eqvL xs ys
  | _, _ => false
theorem eqvL_eq : ∀ (xs ys : List D), PyData.eqvAll (pyL xs) (pyL ys) = eqvL xs ys
  | [], [] => rfl
  | [], _ :: _ => rfl
  | _ :: _, [] => rfl
  | x :: xs, y :: ys => by
    show (PyData.eqv x.py y.py && PyData.eqvAll (pyL xs) (pyL ys)) = _
    rw [eqvL_eq xs ys]; rfl
@[simp] theorem eqv_tup : D.eqv (.tup ds) (.tup es) = eqvL ds es := by
  unfold D.eqv D.py PyData.eqv; exact eqvL_eq ds es
@[simp] theorem eqv_lst : D.eqv (.lst ds) (.lst es) = eqvL ds es := by
  unfold D.eqv D.py PyData.eqv; exact eqvL_eq ds es
@[simp] theorem eqvL_nil : eqvL [] [] = true := rfl
@[simp] theorem eqvL_cons : eqvL (d :: ds) (e :: es) = (D.eqv d e && eqvL ds es) := rfl
@[simp] theorem eqvL_nc : eqvL [] (e :: es) = false := rfl
@[simp] theorem eqvL_cn : eqvL (d :: ds) [] = false := rfl
@[simp] theorem eqvL_ints : ∀ xs ys : List Int, eqvL (xs.map D.int) (ys.map D.int) = decide (xs = ys)
  | [], [] => rfl
  | [], _ :: _ => rfl
  | _ :: _, [] => rfl
  | x :: xs, y :: ys => by
    rw [List.map_cons, List.map_cons, eqvL, eqvL_ints xs ys, eqv_int]
    by_cases h : x = y
    · subst h; simp
    · simp [h]
@[simp] theorem eqvL_ints_nil {xs : List Int} : eqvL (xs.map D.int) [] = decide (xs = []) := eqvL_ints xs []
@[simp] theorem eqvL_nil_ints {xs : List Int} : eqvL [] (xs.map D.int) = decide ([] = xs) := eqvL_ints [] xs
end
theorem mulOk_left {i j : Int} (h1 : -(2 ^ 64) < i) (h2 : i < 2 ^ 64) : MulOk i j := .inl (.inl ⟨h1, h2⟩)
theorem mulOk_right {i j : Int} (h1 : -(2 ^ 64) < j) (h2 : j < 2 ^ 64) : MulOk i j := .inl (.inr ⟨h1, h2⟩)
end L3

set_option Elab.async false
set_option maxRecDepth 100000
set_option maxHeartbeats 4000000
set_option exponentiation.threshold 2000
/-! L3, part l: the end of a walk; loops by invariants; small steps for the plain reading. -/
namespace L3
open PySem PySem.Spec PyProof.Rows L2
/-! ### the end -/
theorem ok_at {P : Program} {w : World} {K : PySem.W.Frag} {mg : Str → Option Value} {base : Heap} {x : Str} {k : Nat} {ps : List Str} {sp : DSp} (c : Cal3 P w K mg base x k ps sp)
    {fa : Addr} {oc : Value} {od : Option Addr} {osl : Array (Option Value)} {fd : FuncData} (hm : mg x = some (.ref fa)) (hl : K.lookup fa = some ⟨oc, od, .func fd, osl⟩) : FnOk P w K mg base (L2.CX P w) k fa fd ps (LSp K sp) := by
  obtain ⟨f, fd2, Fn, hm2, -, -, oc2, od2, osl2, l2⟩ := c.ex
  rw [hm] at hm2
  cases hm2
  rw [hl] at l2
  cases l2
  exact Fn
theorem wld0 {K : PySem.W.Frag} {H : Hp} : Wld K H H [] := ⟨Same.refl H, fun _ _ h => (by cases h), List.nodup_nil⟩
theorem walk3 {l : PySem.W.OpenLaw} {n k : Nat} {q : Program} {loose : List Str} {XP : (Str → Option Value) → Heap → Prop} {YP : World → Heap → Prop} {d : DefRec} {K : Params → PySem.W.Frag} {sp : DSp} {x : Str}
    (hn : l.most = some n) (hn2 : n ≤ sizeLine) (hdf : d.params.defaults = []) (hr : Room k callerA)
    (hY : ∀ (w : World) (h : Heap), YP w h → (K w.params).In h)
    (F : ∀ (w : World) (mg : Str → Option Value) (fa : Addr) (h : Heap), (K w.params).In h → h.Ns mainGlobals mg → mg d.name = some (.ref fa) →
      ∃ fd : FuncData, (∀ (s : Shared) (u : Value), BindsTo s fd ⟨[u], []⟩ [(x, u)]) ∧
        ∀ base : Heap, (K w.params).In base → base.Ns mainGlobals mg → FnOk l.prog w (K w.params) mg base (L2.CX l.prog w) k fa fd [x] (LSp (K w.params) sp))
    (holds : ∀ ns : List Int, ns.length ≤ n → sp [.scr ns] [] (fun r _ => r = .val (.bl true)) fun _ _ => False) :
    PySem.W.WalkO q loose XP YP l.row.toRowW d [] (fun f vs => PySem.call f vs) :=
  L2.walk_of (n := n) (K := K) (k := k) (x := x) (CX := fun w => L2.CX l.prog w) (sp := fun w => LSp (K w.params) sp) hn hn2 hdf hr hY F
    (fun w H a ns hl _ hS => ⟨H, [], [.scr ns], _, _, wld0, .cons (.scr hS) .nil, holds ns hl, fun r G' e v F' H' A rv => by
      subst e
      have rv : Rep (K w.params) F' (.bl true) v := rv
      cases rv
      rfl, fun _ _ z => z.elim⟩)
    fun _ _ _ _ _ ⟨_, _, _, _, _, _, _, _, _, _, _, _, z⟩ => by simp at z
/-! ### loops -/
theorem for_ind {g : DG} {tb : DSt} {Dn : Ends3} (I : List D → Env3 → Reg → Prop) (hend : ∀ E G, I [] E G → Dn.nx E G)
    (step : ∀ d ds E G (nx : Env3 → Reg → Prop), I (d :: ds) E G → (∀ E' G', I ds E' G' → nx E' G') → g d E G fun E1 G1 => tb { Dn with nx := nx, ct := nx, bk := Dn.nx } E1 G1) :
    ∀ ds E G, I ds E G → dForL g tb ds Dn E G
  | [], E, G, h => hend E G h
  | d :: ds, E, G, h => step d ds E G _ h fun E' G' h' => for_ind I hend step ds E' G' h'
theorem wh_ind {c : DT} {tb : DSt} {Dn : Ends3} (I : Nat → Env3 → Reg → Prop)
    (step : ∀ n E G (nx : Env3 → Reg → Prop), I n E G → (∀ E' G' m, n = m + 1 → I m E' G' → nx E' G') → c E G fun b E1 G1 => if b = true then tb { Dn with nx := nx, ct := nx, bk := Dn.nx } E1 G1 else Dn.nx E1 G1) :
    ∀ n E G, I n E G → dWhN c tb (n + 1) Dn E G
  | 0, E, G, h => step 0 E G _ h fun E' G' m e _ => by cases e
  | n + 1, E, G, h => step (n + 1) E G _ h fun E' G' m e h' => by cases e; exact wh_ind I step n E' G' h'
/-- a comprehension whose parts leave the registers as they are -/
theorem lc_pure {g : DG} {tt : DT} {te : DE} {vs : List Nat} {E : Env3} {G : Reg} (P : D → Prop) (f : D → Option D)
    (step : ∀ d (k1 : D → Env3 → Reg → Prop) (k2 : Env3 → Reg → Prop), P d → (∀ x Ew, f d = some x → wipe3 Ew vs = E → k1 x Ew G) → (∀ Ew, f d = none → wipe3 Ew vs = E → k2 Ew G) →
      g d E G fun E1 G1 => tt E1 G1 fun b E2 G2 => if b = true then te E2 G2 fun r E3 G3 => ∃ x E4, r.ice E3 = some (x, E4) ∧ k1 x E4 G3 else k2 E2 G2) :
    ∀ (ds acc : List D) (k : List D → Env3 → Reg → Prop), (∀ d ∈ ds, P d) → k (acc ++ ds.filterMap f) E G → dLcL g tt te vs ds acc E G k
  | [], acc, k, _, h => by simpa using h
  | d :: ds, acc, k, hp, h => step d _ _ (hp d List.mem_cons_self)
      (fun x Ew e w => by
        rw [w]
        refine lc_pure P f step ds _ k (fun z hz => hp z (List.mem_cons_of_mem _ hz)) ?_
        rw [List.filterMap_cons_some e] at h
        rw [List.append_assoc]
        exact h)
      fun Ew e w => by
        rw [w]
        refine lc_pure P f step ds _ k (fun z hz => hp z (List.mem_cons_of_mem _ hz)) ?_
        rw [List.filterMap_cons_none e] at h
        exact h
theorem lc_pure0 {g : DG} {tt : DT} {te : DE} {vs : List Nat} {E : Env3} {G : Reg} (P : D → Prop) (f : D → Option D)
    (step : ∀ d (k1 : D → Env3 → Reg → Prop) (k2 : Env3 → Reg → Prop), P d → (∀ x Ew, f d = some x → wipe3 Ew vs = E → k1 x Ew G) → (∀ Ew, f d = none → wipe3 Ew vs = E → k2 Ew G) →
      g d E G fun E1 G1 => tt E1 G1 fun b E2 G2 => if b = true then te E2 G2 fun r E3 G3 => ∃ x E4, r.ice E3 = some (x, E4) ∧ k1 x E4 G3 else k2 E2 G2)
    {ds : List D} {k : List D → Env3 → Reg → Prop} (hp : ∀ d ∈ ds, P d) (h : k (ds.filterMap f) E G) : dLcL g tt te vs ds [] E G k :=
  lc_pure P f step ds [] k hp h
/-- a comprehension whose parts move the registers, every item counted -/
theorem lc_reg {g : DG} {tt : DT} {te : DE} {vs : List Nat} {E : Env3} (P : D → Prop) (I : Reg → Prop) (R : D → Prop)
    (step : ∀ d G (k1 : D → Env3 → Reg → Prop) (k2 : Env3 → Reg → Prop), P d → I G → (∀ x Ew G', R x → I G' → wipe3 Ew vs = E → k1 x Ew G') → (∀ Ew G', I G' → wipe3 Ew vs = E → k2 Ew G') →
      g d E G fun E1 G1 => tt E1 G1 fun b E2 G2 => if b = true then te E2 G2 fun r E3 G3 => ∃ x E4, r.ice E3 = some (x, E4) ∧ k1 x E4 G3 else k2 E2 G2) :
    ∀ (ds acc : List D) (G : Reg) (k : List D → Env3 → Reg → Prop), (∀ d ∈ ds, P d) → I G → (∀ xs G', (∀ x ∈ xs, R x) → xs.length ≤ ds.length → I G' → k (acc ++ xs) E G') → dLcL g tt te vs ds acc E G k
  | [], acc, G, k, _, i, h => by simpa using h [] G (fun _ hm => by cases hm) (Nat.le_refl _) i
  | d :: ds, acc, G, k, hp, i, h => step d G _ _ (hp d List.mem_cons_self) i
      (fun x Ew G' r i' w => by
        rw [w]
        refine lc_reg P I R step ds _ G' k (fun z hz => hp z (List.mem_cons_of_mem _ hz)) i' fun xs G2 hx hl i2 => ?_
        rw [List.append_assoc]
        exact h (x :: xs) G2 (fun y hy => (List.mem_cons.mp hy).elim (fun e => by rw [e]; exact r) (hx y)) (by simp only [List.length_cons]; omega) i2)
      fun Ew G' i' w => by
        rw [w]
        exact lc_reg P I R step ds _ G' k (fun z hz => hp z (List.mem_cons_of_mem _ hz)) i' fun xs G2 hx hl i2 => h xs G2 hx (by simp only [List.length_cons]; omega) i2
/-! ### steps -/
/-- a goal that the step words leave alone -/
inductive Stop (p : Prop) : Prop
  | go (h : p)
  | no (h : False)
theorem Stop.of {p : Prop} : Stop p → p
  | .go h => h
  | .no h => h.elim
theorem lc_stop {g : DG} {tt : DT} {te : DE} {vs : List Nat} {ds acc : List D} {E : Env3} {G : Reg} {k : List D → Env3 → Reg → Prop} (h : Stop (dLcL g tt te vs ds acc E G k)) : dLcL g tt te vs ds acc E G k := h.of
theorem for_stop {g : DG} {tb : DSt} {ds : List D} {Dn : Ends3} {E : Env3} {G : Reg} (h : Stop (dForL g tb ds Dn E G)) : dForL g tb ds Dn E G := h.of
theorem ifD {p : Prop} [Decidable p] {A C : Prop} (h1 : p → A) (h2 : ¬ p → C) : if decide p = true then A else C := by
  by_cases h : p
  · rw [decide_eq_true h, if_pos rfl]; exact h1 h
  · rw [decide_eq_false h, if_neg Bool.false_ne_true]; exact h2 h
theorem ifB {b : Bool} {A C : Prop} (h1 : b = true → A) (h2 : b = false → C) : if b = true then A else C := by
  cases b
  · exact h2 rfl
  · exact h1 rfl
theorem ifE {a b : Int} {A C : Prop} (h1 : a = b → A) (h2 : a ≠ b → C) : if D.eqv (.int a) (.int b) = true then A else C := by
  rw [eqv_int]
  exact ifD h1 h2
theorem ifNE {a b : Int} {A C : Prop} (h1 : a ≠ b → A) (h2 : a = b → C) : if (!D.eqv (.int a) (.int b)) = true then A else C := by
  rw [eqv_int]
  by_cases h : a = b
  · rw [decide_eq_true h]; exact h2 h
  · rw [decide_eq_false h]; exact h1 h
theorem ifQ {d e : D} {p : Prop} [Decidable p] {A C : Prop} (hd : D.eqv d e = decide p) (h1 : p → A) (h2 : ¬ p → C) : if D.eqv d e = true then A else C := by
  rw [hd]
  exact ifD h1 h2
theorem ifNQ {d e : D} {p : Prop} [Decidable p] {A C : Prop} (hd : D.eqv d e = decide p) (h1 : ¬ p → A) (h2 : p → C) : if (!D.eqv d e) = true then A else C := by
  rw [hd]
  by_cases h : p
  · rw [decide_eq_true h]; exact h2 h
  · rw [decide_eq_false h]; exact h1 h
theorem ifT {A C : Prop} (h : A) : if true = true then A else C := h
theorem ifF {A C : Prop} (h : C) : if false = true then A else C := h
theorem look0 {a : Addr} {l : Int} {ds : List D} {R : Reg} : lookL ((a, D.int l :: ds) :: R) a = some (D.int l :: ds) := by simp [lookL, List.lookup, isL]
theorem mulC {i j : Int} (h : -(2 ^ 64) < i ∧ i < 2 ^ 64) : MulOk i j := mulOk_left h.1 h.2
theorem mulC' {i j : Int} (h : -(2 ^ 64) < j ∧ j < 2 ^ 64) : MulOk i j := mulOk_right h.1 h.2
theorem cpow (n : Int) (h : 0 ≤ n) (h2 : n ≤ 1000000) : CPow 10 n := ⟨h, h2, by decide⟩
theorem ltL {a b : Nat} (h : Nat.ble (a + 1) b = true) : a < b := Nat.le_of_ble_eq_true h
theorem regS {p : Addr} {R : Reg} {ds es : List D} : regSet ((p, ds) :: R) p es = (p, es) :: R := regSet_head
theorem atN {α : Type} {ds : List α} {r : Int} (h0 : 0 ≤ r) (h : r < (ds.length : Int)) : ∃ d, atI ds r = some d ∧ d ∈ ds := by
  obtain ⟨j, rfl⟩ := Int.eq_ofNat_of_zero_le h0
  have hj : j < ds.length := by exact_mod_cast h
  refine ⟨ds[j], ?_, List.getElem_mem hj⟩
  unfold atI
  rw [ix_nat hj]
  exact List.getElem?_eq_getElem hj
theorem at_nat {α : Type} {ds : List α} {j : Nat} (h : j < ds.length) : atI ds (j : Int) = some ds[j] := by
  unfold atI
  rw [ix_nat h]
  exact List.getElem?_eq_getElem h
theorem fmap_all {α β : Type} {f : α → Option β} {g : α → β} : ∀ {ds : List α}, (∀ d ∈ ds, f d = some (g d)) → ds.filterMap f = ds.map g
  | [], _ => rfl
  | d :: ds, h => by rw [List.filterMap_cons_some (h d List.mem_cons_self), fmap_all fun z hz => h z (List.mem_cons_of_mem _ hz)]; rfl
theorem qT {q : Res → Reg → Prop} {G : Reg} {b : Bool} (hb : b = true) (h : q (.val (.bl true)) G) : q (.val (.bl b)) G := by rw [hb]; exact h
theorem qB {q : Res → Reg → Prop} {G : Reg} {b c : Bool} (h : q (.val (.bl c)) G) (hb : b = c) : q (.val (.bl b)) G := by rw [hb]; exact h
end L3

set_option Elab.async false
set_option maxRecDepth 100000
set_option maxHeartbeats 4000000
/-! L3, part m: slices, plainly. -/
namespace L3
open PySem PySem.Spec PyProof.Rows L2
theorem sIx_neg1 (n d : Nat) : HT.sIx n d (some (-1)) = n - 1 := by
  show (if (-1 : Int) < 0 then ((-1) + (n : Int)).toNat else min (Int.toNat (-1)) n) = n - 1
  rw [if_pos (by decide)]; omega
theorem cut_to {ds : List D} (j : Nat) : cutD ds none (some (j : Int)) = ds.take j := by
  unfold cutD
  rw [HT.sIx_nat, HT.sIx_none, List.drop_zero, Nat.sub_zero]
  by_cases h : j ≤ ds.length
  · rw [Nat.min_eq_left h]
  · rw [Nat.min_eq_right (by omega), List.take_length, List.take_of_length_le (by omega)]
theorem cut_last {ds : List D} : cutD ds none (some (-1)) = ds.dropLast := by
  unfold cutD
  rw [sIx_neg1, HT.sIx_none, List.drop_zero, Nat.sub_zero, List.dropLast_eq_take]
theorem rangeD_len (lo : Int) (n : Nat) : (rangeD lo n).length = n := by unfold rangeD; rw [List.length_map, List.length_range]
end L3

set_option Elab.async false
set_option maxRecDepth 100000
set_option maxHeartbeats 4000000
/-! L3, part n: instances of classes with slots: read, filled by __init__, made. -/
namespace L3
open PySem PySem.Spec PyProof.Rows L2
/-- the slot f of the class of that name is its i-th -/
structure SlotAt (K : PySem.W.Frag) (nm f : Str) (i : Nat) : Prop where
  ex : ∃ C p, ClsN K nm C ∧ SlX.SCls K C ∧ SlX.Slot1 K C f p i
theorem ClsN.eq {K : PySem.W.Frag} {nm : Str} {C C' : Addr} (h : ClsN K nm C) (h' : ClsN K nm C') : C = C' := by
  unfold ClsN at h h'
  rw [h] at h'
  cases h'
  rfl
section
variable {X : Cx} {B : Base3}
theorem RepH.obj {K : PySem.W.Frag} {F H : Hp} {nm : Str} {fs : List D} {v : V} (r : RepH K F H (.obj nm fs) v) (s : Same F H) : ∃ a C dx xs, v = .ref a ∧ ClsN K nm C ∧ SlX.Slt H a C dx (xs.map some) ∧ RepL K F fs xs := by
  rcases r with r | ⟨_, _, _, _, e⟩
  · cases r with
    | obj h1 h2 h3 h4 => exact ⟨_, _, _, _, rfl, h1, .inr ⟨s _ _ h2, s _ _ h3⟩, h4⟩
  · exact e.elim
/-- e.f, f a slot -/
def dAttr (tbl : List (Str × Nat)) (te : DE) : DE := fun E G k => te E G fun x E1 G1 => ∃ nm fs, x.get E1 = some (.obj nm fs) ∧ ∃ i, tbl.lookup nm = some i ∧ ∃ d, fs[i]? = some d ∧ k (.val d) E1 G1
theorem le_attr {e : Expr} {f : Str} {pos : Pos} {ta : DE} (tbl : List (Str × Nat)) (h : ∀ nm i, tbl.lookup nm = some i → SlotAt X.K nm f i) (he : LE X B e ta) (hb : attributeBase e f X.env (eval e X.env) = eval e X.env := by rfl) :
    LE X B (.Attribute e f pos) (dAttr tbl ta) :=
  ⟨pe_imp (SlX.pe_sl he.pe hb) fun σ H Q ⟨pn, F, E, G, k, S, ht, hk⟩ => ⟨pn, F, E, G, _, S, ht, fun x E1 G1 ⟨nm, fs, hx, i, hl, d, hd, h1⟩ v F1 H1 S1 s1 r1 => by
    obtain ⟨a, C, dx, xs, rfl, hC, hs, hf⟩ := (S1.getH r1 hx).obj S1.w.sub
    obtain ⟨C', p, hC', sc, sl⟩ := (h nm i hl).ex
    cases hC.eq hC'
    obtain ⟨u, hu, ru⟩ := hf.get hd
    exact ⟨a, C, dx, p, _, i, u, rfl, hs, sc, sl, by rw [List.getElem?_map, hu]; rfl, hk _ _ _ h1 u F1 H1 S1 s1 ru⟩⟩⟩
/-! ### self.f = e in __init__ -/
def putO (i : Nat) (d : D) (fs : List (Option D)) : List (Option D) := (fs ++ List.replicate (i + 1 - fs.length) none).set i (some d)
theorem putO_get {i j : Nat} {d e : D} {fs : List (Option D)} (h : (putO i d fs)[j]? = some (some e)) : (i = j ∧ e = d) ∨ (i ≠ j ∧ fs[j]? = some (some e)) := by
  unfold putO at h
  by_cases q : i = j
  · subst q
    rw [List.getElem?_set] at h
    simp only [if_true] at h
    split at h
    · cases h; exact .inl ⟨rfl, rfl⟩
    · cases h
  · rw [List.getElem?_set_ne q] at h
    refine .inr ⟨q, ?_⟩
    by_cases z : j < fs.length
    · rw [List.getElem?_append_left z] at h; exact h
    · rw [List.getElem?_append_right (by omega)] at h
      have := List.mem_of_getElem? h
      have := List.eq_of_mem_replicate this
      cases this
theorem RepO.put {K : PySem.W.Frag} {F : Hp} {fs : List (Option D)} {vs : List (Option V)} (h : RepO K F fs vs) (i : Nat) {d : D} {v : V} (r : Rep K F d v) : RepO K F (putO i d fs) (SlX.putS i v vs) := by
  refine ⟨?_, fun j e he => ?_⟩
  · unfold putO SlX.putS
    simp only [List.length_set, List.length_append, List.length_replicate, h.1]
  · rcases putO_get he with ⟨q, rfl⟩ | ⟨q, z⟩
    · subst q
      exact ⟨v, SlX.putS_get _ _ _, r⟩
    · obtain ⟨u, h1, h2⟩ := h.2 j e z
      exact ⟨u, (SlX.putS_ne (fun w => q w.symm)).mpr h1, h2⟩
/-- the pending entries at a and dx become these -/
def pnSet (a : Addr) (o : HO) (dx : Addr) (o' : HO) (pn : Pend) : Pend := pn.map fun p => if p.1 = a then (a, o) else if p.1 = dx then (dx, o') else p
theorem pnSet_nt {a : Addr} {C dx' : Addr} {vs : List (Option V)} {dx : Addr} {fs : List (Str × V)} {pn : Pend} (h : ∀ p ∈ pn, isTp p.2 = false) : ∀ p ∈ pnSet a (SlX.SlO a C dx' vs) dx (.xd fs) pn, isTp p.2 = false := fun p hp => by
  obtain ⟨q, hq, rfl⟩ := List.mem_map.mp hp
  split
  · rfl
  · split
    · rfl
    · exact h q hq
theorem pnSet_dom (a : Addr) (o : HO) (dx : Addr) (o' : HO) (pn : Pend) : (pnSet a o dx o' pn).map (·.1) = pn.map (·.1) := by
  unfold pnSet
  rw [List.map_map]
  refine List.map_congr_left fun p _ => ?_
  simp only [Function.comp]
  split
  · rename_i e; exact e.symm
  · split
    · rename_i e; exact e.symm
    · rfl
theorem St3.slotWrite {K : PySem.W.Frag} {pn : Pend} {F H : Hp} {σ : L2.St} {E : Env3} {G : Reg} (S : St3 K B pn F H σ E G) {nm : Str} {fs : List (Option D)} (h : E[0]? = some (Sl3.new nm fs)) (i : Nat) {d : D} {y : V} (r : Rep K F d y) :
    ∃ a C dx vs, σ[0]? = some (some (V.ref a)) ∧ ClsN K nm C ∧ SlX.Slt H a C dx vs ∧ ∃ pn', St3 K B pn' F (SlX.slH H a C dx (SlX.putS i y vs)) σ (E.set 0 (Sl3.new nm (putO i d fs))) G := by
  obtain ⟨a, C, dx, vs, ⟨ha, hσ⟩, hne, hC, hR, hP⟩ := S.news nm fs h
  have mA : ∃ o, (a, o) ∈ pn := by
    rcases hP with ⟨_, z, _⟩ | ⟨z, _⟩
    · exact ⟨_, z⟩
    · exact ⟨_, z⟩
  have mD : ∃ o, (dx, o) ∈ pn := by
    rcases hP with ⟨_, _, z⟩ | ⟨_, z⟩
    · exact ⟨_, z⟩
    · exact ⟨_, z⟩
  obtain ⟨oA, mA⟩ := mA
  obtain ⟨oD, mD⟩ := mD
  obtain ⟨a1, a2, a3, a4⟩ := S.pend a oA mA
  obtain ⟨d1, d2, d3, d4⟩ := S.pend dx oD mD
  have slt : SlX.Slt H a C dx vs := by
    rcases hP with ⟨z1, z, _⟩ | ⟨z, z2⟩
    · exact .inl ⟨(S.pend _ _ z).1, z1⟩
    · exact .inr ⟨(S.pend _ _ z).1, (S.pend _ _ z2).1⟩
  have dA : a ∈ pn.map (·.1) := List.mem_map.mpr ⟨_, mA, rfl⟩
  have dD : dx ∈ pn.map (·.1) := List.mem_map.mpr ⟨_, mD, rfl⟩
  have away : ∀ b, b ≠ a → b ≠ dx → SlX.slH H a C dx (SlX.putS i y vs) b = H b := fun b n1 n2 => SlX.slH_ne n1 n2
  have atA : SlX.slH H a C dx (SlX.putS i y vs) a = some (SlX.SlO a C dx (SlX.putS i y vs)) := by unfold SlX.slH; exact upd_same
  have atD : SlX.slH H a C dx (SlX.putS i y vs) dx = some (.xd []) := by unfold SlX.slH; rw [upd_ne hne, upd_same]
  have nofree : ∀ {b : Addr} {ds : D}, FreX K B pn F H G b ds → b ≠ a ∧ b ≠ dx := fun f => ⟨fun z => f.nP (by rw [z]; exact dA), fun z => f.nP (by rw [z]; exact dD)⟩
  refine ⟨a, C, dx, vs, hσ, hC, slt, pnSet a (SlX.SlO a C dx (SlX.putS i y vs)) dx (.xd []) pn, ⟨⟨fun b u hb => ?_, fun b es hb => ?_, S.w.nd⟩, S.keepF, fun b u hb hg => ?_, S.unfr, S.regs, S.regk, by rw [List.length_set]; exact S.len, fun j e hj => ?_, fun j s d hj ho => ?_, fun j k s t d e b h1 h2 o1 o2 => ?_, fun b o hb => ?_, ⟨by rw [pnSet_dom]; exact S.pnd.1, pnSet_nt S.pnd.2⟩, fun nm' fs' hj => ?_⟩⟩
  · rw [away b (ne_of_none hb a2) (ne_of_none hb d2)]; exact S.w.sub b u hb
  · obtain ⟨h1, xs, h2, h3⟩ := S.w.reg b es hb
    have hm : b ∈ G.map (·.1) := List.mem_map.mpr ⟨_, hb, rfl⟩
    exact ⟨h1, xs, by rw [away b (fun z => a4 (by rw [← z]; exact hm)) (fun z => d4 (by rw [← z]; exact hm))]; exact h2, h3⟩
  · rw [away b (ne_of_none hb a3) (ne_of_none hb d3)]; exact S.keepH b u hb hg
  · rcases set_look hj with ⟨_, z⟩ | ⟨_, z⟩
    · cases z
    · exact S.slot j e z
  · rcases set_look hj with ⟨_, z⟩ | ⟨_, z⟩
    · subst z; cases ho
    · obtain ⟨b, e1, f⟩ := S.own j s d z ho
      obtain ⟨xs, e2, r2⟩ := f.ex
      obtain ⟨n1, n2⟩ := nofree f
      exact ⟨b, e1, ⟨f.nF, f.nB, f.nG, by rw [pnSet_dom]; exact f.nP, xs, by rw [away b n1 n2]; exact e2, r2⟩⟩
  · rcases set_look h1 with ⟨_, z⟩ | ⟨_, z⟩
    · subst z; cases o1
    rcases set_look h2 with ⟨_, z'⟩ | ⟨_, z'⟩
    · subst z'; cases o2
    exact S.ownd j k s t d e b z z' o1 o2
  · unfold pnSet at hb
    obtain ⟨p, hp, e⟩ := List.mem_map.mp hb
    by_cases q1 : p.1 = a
    · rw [if_pos q1] at e
      cases e
      exact ⟨atA, a2, a3, a4⟩
    · rw [if_neg q1] at e
      by_cases q2 : p.1 = dx
      · rw [if_pos q2] at e
        cases e
        exact ⟨atD, d2, d3, d4⟩
      · rw [if_neg q2] at e
        obtain ⟨p1, p2⟩ := p
        cases e
        obtain ⟨x1, x2, x3, x4⟩ := S.pend _ _ hp
        exact ⟨by rw [away _ q1 q2]; exact x1, x2, x3, x4⟩
  · rcases set_look hj with ⟨_, z⟩ | ⟨ne, z⟩
    · cases z
      refine ⟨a, C, dx, _, ⟨ha, hσ⟩, hne, hC, hR.put i r, .inr ⟨?_, ?_⟩⟩
      · exact List.mem_map.mpr ⟨_, mA, by simp⟩
      · exact List.mem_map.mpr ⟨_, mD, by simp [hne]⟩
    · exact absurd rfl ne
def dSetA (tbl : List (Str × Nat)) (te : DE) : DSt := fun D E G => te E G fun r E1 G1 => ∃ d E2, r.ice E1 = some (d, E2) ∧ ∃ nm fs, E2[0]? = some (Sl3.new nm fs) ∧ ∃ i, tbl.lookup nm = some i ∧ D.nx (E2.set 0 (Sl3.new nm (putO i d fs))) G1
theorem ls_attr {o value : Expr} {f : Str} {pos pos' : Pos} {tv : DE} (tbl : List (Str × Nat)) (h : ∀ nm i, tbl.lookup nm = some i → SlotAt X.K nm f i) (ho : PE X o (tVar 0)) (hv : LE X B value tv)
    (hs : swapsWith value (some (.Attribute o f pos')) pos.line X.env = pure false := by rfl) : LS X B (.Assign [.Attribute o f pos'] value pos) (dSetA tbl tv) :=
  ⟨ps_imp (SlX.ps_sl ho hv.pe hs) fun D σ H ⟨pn, F, E, G, D3, S, ht, ok⟩ => ⟨pn, F, E, G, _, S, ht, fun r E1 G1 ⟨d, E2, hi, nm, fs, h0, i, hl, h1⟩ y F1 H1 S1 s1 r1 => by
    obtain ⟨F2, S2, s2, ry⟩ := S1.ice r1 hi
    obtain ⟨a, C, dx, vs, hσ, hC, slt, pn', S3⟩ := S2.slotWrite h0 i ry
    obtain ⟨C', p, hC', sc, sl⟩ := (h nm i hl).ex
    cases hC.eq hC'
    exact ⟨_, hσ, a, C, dx, p, vs, i, rfl, slt, sc, sl, ok.nx _ _ h1 σ F2 _ S3 (s1.trans s2)⟩⟩⟩
end
end L3

set_option Elab.async false
set_option maxRecDepth 100000
set_option maxHeartbeats 4000000
/-! L3, part o: an instance is made: the promise of its __init__. -/
namespace L3
open PySem PySem.Spec PyProof.Rows L2
/-- a promise of __init__: of the arguments behind self; the slots, filled -/
abbrev DSpI := List D → Reg → (List D → Reg → Prop) → (Exc3 → Reg → Prop) → Prop
def LSpI (K : PySem.W.Frag) (nm : Str) (sp : DSpI) : Sp := fun vs H Q E => ∃ (H0 F : Hp) (G : Reg) (a C dx : Addr) (rest : List V) (ds : List D) (k : List D → Reg → Prop) (kx : Exc3 → Reg → Prop),
  vs = V.ref a :: rest ∧ (H0 a = none ∧ H0 dx = none ∧ dx ≠ a ∧ H = upd (upd H0 dx (.own a)) a (.ins C dx []) ∧ ClsN K nm C) ∧ Wld K F H0 G ∧ RepL K F ds rest ∧ sp ds G k kx ∧
  (∀ fs G', k fs G' → ∀ (F' H' : Hp) (dx' : Addr) (xs : List V), After K F H0 G F' H' G' → (F' a = none ∧ a ∉ G'.map (·.1) ∧ H' a = some (SlX.SlO a C dx' (xs.map some))) → (H0 dx' = none ∧ F' dx' = none ∧ dx' ∉ G'.map (·.1) ∧ dx' ≠ a ∧ H' dx' = some (.xd [])) → RepL K F' fs xs → Q .non H') ∧
  (∀ x G', kx x G' → ∀ cls dd F' H', After K F H0 G F' H' G' → RepX K F' x cls dd → E cls dd H')
/-- the frame of __init__ as it begins -/
def startI (nm : Str) (N : List Str) (ds : List D) : Env3 := (start3 N (.non :: ds)).set 0 (Sl3.new nm [])
section
variable {P : Program} {w : World} {K : PySem.W.Frag} {mg : Str → Option Value} {base : Heap}
theorem noOwn_at {B : Base3} {pn : Pend} {F H : Hp} {σ : L2.St} {E : Env3} {G : Reg} (S : St3 K B pn F H σ E G) {a : Addr} (h : H a = none) : NoOwn σ E a := fun i s d hi ho e => by
  obtain ⟨b, e1, f⟩ := S.own i s d hi ho
  rw [e] at e1
  cases e1
  obtain ⟨xs, q, _⟩ := f.ex
  rw [h] at q; cases q
theorem notReg_at {F H : Hp} {G : Reg} (w : Wld K F H G) {a : Addr} (h : H a = none) : a ∉ G.map (·.1) := fun hm => by
  obtain ⟨o, q⟩ := w.regH hm
  rw [h] at q; cases q
theorem startI_st {N : List Str} {nm : Str} {F H0 : Hp} {G : Reg} {ds : List D} {rest : List V} {a C dx : Addr} (hN : 0 < N.length) (wl : Wld K F H0 G) (r : RepL K F ds rest) (ha : H0 a = none) (hd : H0 dx = none) (hne : dx ≠ a) (hC : ClsN K nm C) :
    St3 K ⟨F, H0, G.map (·.1), a⟩ [(a, .ins C dx []), (dx, .own a)] F (upd (upd H0 dx (.own a)) a (.ins C dx [])) (L2.start N (V.ref a :: rest)) (startI nm N ds) G := by
  have S0 : St3 K ⟨F, H0, G.map (·.1), a⟩ [] F H0 (L2.start N (V.ref a :: rest)) (start3 N (.ref a :: ds)) G := by
    have := start_st (N := N) wl (RepL.cons (.ref a) r)
    exact ⟨this.w, this.keepF, this.keepH, this.unfr, this.regs, this.regk, this.len, this.slot, fun i s d h ho => by
      obtain ⟨b, e, f⟩ := this.own i s d h ho
      exact ⟨b, e, ⟨f.nF, f.nB, f.nG, f.nP, f.ex⟩⟩, this.ownd, this.pend, this.pnd, fun nm fs h => by
      obtain ⟨b, C, dx, vs, h1, h2, h3, h4, h5⟩ := this.news nm fs h
      rcases h5 with ⟨_, z, _⟩ | ⟨z, _⟩ <;> cases z⟩
  have no : ∀ b, NoOwn (L2.start N (V.ref a :: rest)) (start3 N (.ref a :: ds)) b := fun b i s d h ho => by
    unfold start3 at h
    by_cases q : i < (D.ref a :: ds).length
    · rw [List.getElem?_append_left (by simpa using q), List.getElem?_map, List.getElem?_eq_getElem q] at h
      cases h
      cases ho
    · rw [List.getElem?_append_right (by simpa using Nat.le_of_not_lt q)] at h
      have := List.eq_of_mem_replicate (List.mem_of_getElem? h)
      subst this
      cases ho
  have fA := wl.fNone ha
  have fD := wl.fNone hd
  have gA := notReg_at wl ha
  have gD := notReg_at wl hd
  have S1 := (S0.newU (o := .own a) hd).pendOn fD hd gD (by simp) upd_same (no dx)
  have ha1 : upd H0 dx (.own a) a = none := by rw [upd_ne hne.symm]; exact ha
  have S2 := (S1.newU (o := .ins C dx []) ha1).pendOn fA ha gA (by simp; exact fun z => hne z.symm) upd_same (no a)
  have e0 : (start3 N (.ref a :: ds)).set 0 (Sl3.new nm []) = startI nm N ds := by
    unfold startI start3
    rfl
  rw [← e0]
  have hσ : (L2.start N (V.ref a :: rest))[0]? = some (some (V.ref a)) := by unfold L2.start; rfl
  refine ⟨S2.w, S2.keepF, S2.keepH, S2.unfr, S2.regs, S2.regk, by rw [List.length_set]; exact S2.len, fun j e hj => ?_, fun j s d hj ho => ?_, fun j k s t d e b h1 h2 o1 o2 => ?_, S2.pend, S2.pnd, fun nm' fs' hj => ?_⟩
  · rcases set_look hj with ⟨_, z⟩ | ⟨_, z⟩
    · cases z
    · exact S2.slot j e z
  · rcases set_look hj with ⟨_, z⟩ | ⟨_, z⟩
    · subst z; cases ho
    · exact S2.own j s d z ho
  · rcases set_look h1 with ⟨_, z⟩ | ⟨_, z⟩
    · subst z; cases o1
    rcases set_look h2 with ⟨_, z'⟩ | ⟨_, z'⟩
    · subst z'; cases o2
    exact S2.ownd j k s t d e b z z' o1 o2
  · rcases set_look hj with ⟨_, z⟩ | ⟨ne, z⟩
    · cases z
      exact ⟨a, C, dx, [], ⟨rfl, hσ⟩, hne, hC, ⟨rfl, fun i d h => by simp at h⟩, .inl ⟨rfl, by simp, by simp⟩⟩
    · exact absurd rfl ne
theorem RepO.full {F : Hp} : ∀ {gs : List D} {vs : List (Option V)}, RepO K F (gs.map some) vs → ∃ xs, vs = xs.map some ∧ RepL K F gs xs
  | [], vs, h => by
    have := h.1
    cases vs with
    | nil => exact ⟨[], rfl, .nil⟩
    | cons _ _ => simp at this
  | g :: gs, [], h => by have := h.1; simp at this
  | g :: gs, v :: vs, h => by
    obtain ⟨u, h1, h2⟩ := h.2 0 g rfl
    have h1' : v = some u := by simpa using h1
    obtain ⟨xs, e, r⟩ := RepO.full (gs := gs) (vs := vs) ⟨by have := h.1; simpa using this, fun i d hi => h.2 (i + 1) d (by simpa using hi)⟩
    exact ⟨u :: xs, by rw [h1', e]; rfl, .cons h2 r⟩
/-- THE RULE for an __init__ -/
theorem okI3 {x qual nm : Str} {st : Stmt} {f : Addr} {fd : FuncData} {N ps : List Str} {k : Nat} {sp : DSpI} (F : Fun K x qual st f fd) (S : FnScope N ps (defScope st)) (hN : 0 < N.length) (len : ∀ ds G q e, sp ds G q e → ds.length + 1 = ps.length)
    (body : ∀ (cdv : Value) (A : Around) (outer : List Env) (s : Shared) (H : Hp) (E : XK) (B : Base3) (dw : Exc3 → Reg → Prop), Room k (A.deeper (envOfC qual (defScope st) s.heap.objs.size f cdv)) →
      WOkL (cxOf (L2.CX P w) P w K mg base N qual (defScope st) f cdv A outer s H E) B (fun x _ G => dw x G) →
      ∃ t : DSt, LSs (cxOf (L2.CX P w) P w K mg base N qual (defScope st) f cdv A outer s H E) B (defBody st) t ∧ ∀ ds G q, sp ds G q dw → t { nx := fun E' G' => ∃ gs : List D, E'[0]? = some (Sl3.new nm (gs.map some)) ∧ gs ≠ [] ∧ q gs G', rt := fun _ _ => False } (startI nm N ds) G) :
    FnOk P w K mg base (L2.CX P w) (k + 1) f fd ps (LSpI K nm sp) := by
  refine F.okX S (fun vs H Q E h => ?_) (fun cdv A outer s H vs Q E hr h => ?_)
  · obtain ⟨H0, F, G, a, C, dx, rest, ds, q, e, rfl, _, _, r, h, _⟩ := h
    rw [List.length_cons, ← r.length]
    exact len _ _ _ _ h
  · obtain ⟨H0, F, G, a, C, dx, rest, ds, q, e, rfl, ⟨ha, hd, hne, rfl, hC⟩, wl, r, h, hq, he⟩ := h
    have aft : ∀ {F' H' : Hp} {G' : Reg} {pn : Pend} {σ : L2.St} {E : Env3}, St3 K ⟨F, H0, G.map (·.1), a⟩ pn F' H' σ E G' → After K F H0 G F' H' G' := fun S => ⟨S.w, S.keepF, S.keepH, S.unfr, S.regs, S.regk⟩
    have wk : WOkL (cxOf (L2.CX P w) P w K mg base N qual (defScope st) f cdv A outer s (upd (upd H0 dx (.own a)) a (.ins C dx [])) E) ⟨F, H0, G.map (·.1), a⟩ (fun x _ G => e x G) :=
      ⟨⟨fun cls d H => E cls d H, takes_of rfl rfl rfl rfl, fun pn F' H' σ E' G' x cls dd S' rx hx => he x G' hx cls dd F' H' (aft S') rx⟩, fun d hd o u e => by
        have hd : H0 d = none := hd
        have e : upd (upd H0 dx (.own a)) a (.ins C dx []) d = some (.frz o u) := e
        unfold upd at e
        split at e
        · cases e
        · split at e
          · cases e
          · rw [hd] at e; cases e⟩
    obtain ⟨t, hb, ht⟩ := body cdv A outer s (upd (upd H0 dx (.own a)) a (.ins C dx [])) E ⟨F, H0, G.map (·.1), a⟩ e hr wk
    refine ⟨_, hb.pss, ⟨_, F, startI nm N ds, G, _, startI_st hN wl r ha hd hne hC, ht ds G q h, ⟨fun E' G' h' σ' F' H' S' _ => ?_, fun _ _ z => z.elim, fun _ _ z => z.elim, fun _ _ z => z.elim⟩⟩⟩
    obtain ⟨gs, h0, hg, hk⟩ := h'
    obtain ⟨a', C', dx', vs, ⟨rfl, _⟩, hne', hC', hR, hP⟩ := S'.news nm _ h0
    obtain ⟨xs, rfl, rx⟩ := hR.full
    cases hC.eq hC'
    have fin : H' a' = some (SlX.SlO a' C dx' (xs.map some)) ∧ H' dx' = some (.xd []) ∧ (F' dx' = none ∧ H0 dx' = none ∧ dx' ∉ G'.map (·.1)) ∧ (F' a' = none ∧ a' ∉ G'.map (·.1)) → _ := fun ⟨h1, h2, ⟨h3, h4, h5⟩, h6, h7⟩ => hq gs G' hk F' H' dx' xs (aft S') ⟨h6, h7, h1⟩ ⟨h4, h3, h5, hne', h2⟩ rx
    rcases hP with ⟨z, _, _⟩ | ⟨z1, z2⟩
    · have : xs = [] := by simpa using z
      subst this
      cases rx
      exact absurd rfl hg
    · obtain ⟨b1, b2, b3, b4⟩ := S'.pend _ _ z1
      obtain ⟨c1, c2, c3, c4⟩ := S'.pend _ _ z2
      exact fin ⟨b1, c1, ⟨c2, c3, c4⟩, b2, b4⟩
/-- a class whose instances are made by such an __init__ -/
structure New3 (P : Program) (w : World) (K : PySem.W.Frag) (mg : Str → Option Value) (base : Heap) (nm : Str) (k : Nat) (sp : DSpI) : Prop where
  ex : ∃ (C f : Addr) (fd : FuncData) (ps : List Str), ClsN K nm C ∧ Mk K C f ∧ mg nm = some (.ref C) ∧ Binds K fd ps [] ∧ FnOk P w K mg base (L2.CX P w) k f fd ps (LSpI K nm sp)
end
section
variable {X : Cx} {B : Base3}
def dMake (nm : Str) (sp : DSpI) (ta : DA) : DE := fun E G k => ta E G fun ds E1 G1 => sp ds G1 (fun fs G2 => k (.val (.obj nm fs)) E1 G2) (fun _ _ => False)
theorem passF : Passes (L2.CX X.prog X.w) X (fun _ _ _ => False) := fun _ _ _ _ _ _ _ ⟨_, _, _, _, _, _, _, _, _, _, _, _, z⟩ => z.elim
theorem le_make {nm : Str} {k j : Nat} {sp : DSpI} {ta : DA} {p pos : Pos} {e : Expr} {es : List Expr} (n : New3 X.prog X.w X.K X.mg X.base nm k sp) (hr : Room j X.A) (hk : k + 1 ≤ j) (hg : Gl X nm) (ha : LA X B (e :: es) ta)
    (hdb : (nm == ("__debug__" : Str)) = false := by decide) (he : starEach (e :: es) X.env = (false, eval e X.env) :: starEach es X.env := by rfl) (hpl : (backTo pos (starEach es X.env)).any (·.1) = false := by rfl) :
    LE X B (.Call (.Name nm p) (e :: es) [] pos) (dMake nm sp ta) := by
  obtain ⟨C, f, fd, ps, hC, M, hm, hb, Fn⟩ := n.ex
  refine ⟨pe_imp (pe_make M Fn (hr.mono hk) hg hm hb .nil passF ha.pa hdb he hpl) fun σ H Q ⟨pn, F, E, G, k, S, ht, hk⟩ => ⟨pn, F, E, G, _, S, ht, fun ds E1 G1 h1 vs F1 H1 S1 s1 r1 x dx nx ndx ne => ?_⟩⟩
  refine ⟨H1, F1, G1, x, C, dx, vs, ds, _, _, by rw [List.append_nil], ⟨nx, ndx, ne, rfl, hC⟩, S1.w, r1, h1, fun fs G' h2 F2 H2 dx' xs A ⟨a1, a2, a3⟩ ⟨b0, b1, b2, b3, b4⟩ r2 => ⟨rfl, ?_⟩, fun _ _ z => z.elim⟩
  have S2 := S1.wldAfter A
  have dom : ∀ {b : Addr}, H1 b = none → b ∉ pn.map (·.1) := fun h hm => by
    obtain ⟨q, hq, rfl⟩ := List.mem_map.mp hm
    have := (S1.pend q.1 q.2 hq).1
    rw [h] at this; cases this
  have noo : ∀ {b : Addr}, H1 b = none → NoOwn σ E1 b := fun h => noOwn_at S1 h
  obtain ⟨S3, s3⟩ := S2.freezeAt b1 (S1.baseNone b0) b2 (dom b0) (noo b0) b4
  have a1' : upd F2 dx' (.xd []) x = none := by rw [upd_ne b3.symm]; exact a1
  obtain ⟨S4, s4⟩ := S3.freezeAt a1' (S1.baseNone nx) a2 (dom nx) (noo nx) a3
  refine hk _ _ _ h2 _ _ _ S4 (((s1.trans A.keepF).trans s3).trans s4) ?_
  exact .obj hC upd_same (s4 _ _ upd_same) (RepL.mono (s3.trans s4) _ _ r2)
end
end L3

set_option Elab.async false
set_option maxRecDepth 100000
set_option maxHeartbeats 4000000
/-! L3, part p: properties, methods, isinstance of instances. -/
namespace L3
open PySem PySem.Spec PyProof.Rows L2
section
variable {P : Program} {w : World} {K : PySem.W.Frag} {mg : Str → Option Value} {base : Heap}
/-- isinstance of an instance of n1 and the class n2 -/
structure Isi3 (K : PySem.W.Frag) (n1 n2 : Str) (b : Bool) : Prop where
  ex : ∃ C1 C2, ClsN K n1 C1 ∧ ClsN K n2 C2 ∧ SlX.SCls K C1 ∧ SlX.SIsi K C1 ∧ PySem.W.kitOne K (.ref C1) (.ref C2) = some b
end
section
variable {X : Cx} {B : Base3}
theorem RepH.obj' {K : PySem.W.Frag} {F H : Hp} {nm : Str} {fs : List D} {v : V} (r : RepH K F H (.obj nm fs) v) (s : Same F H) : ∃ (a C dx : Addr) (xs : List V), v = .ref a ∧ ClsN K nm C ∧ SlX.Slt H a C dx (xs.map some) ∧ Rep K F (.obj nm fs) (.ref a) := by
  rcases r with r | ⟨_, _, _, _, e⟩
  · cases r with
    | obj h1 h2 h3 h4 => exact ⟨_, _, _, _, rfl, h1, .inr ⟨s _ _ h2, s _ _ h3⟩, .obj h1 h2 h3 h4⟩
  · exact e.elim
def bIsiC (tbl : List ((Str × Str) × Bool)) : Reg → List D → (Res → Prop) → Prop := fun _ ds k => match ds with
  | [.obj n1 _, .cls n2] => ∃ b, tbl.lookup (n1, n2) = some b ∧ k (.val (.bl b))
  | _ => False
theorem le_isiC {e e2 : Expr} {ta : DA} {p pos : Pos} (tbl : List ((Str × Str) × Bool)) (hT : ∀ n1 n2 b, tbl.lookup (n1, n2) = some b → Isi3 X.K n1 n2 b) (hg : Gl X "isinstance") (hm : X.mg "isinstance" = none) (ha : LP X B [e, e2] ta) (he : starEach [e, e2] X.env = (false, eval e X.env) :: starEach [e2] X.env := by rfl) (hpl : (backTo pos (starEach [e2] X.env)).any (·.1) = false := by rfl) :
    LE X B (.Call (.Name "isinstance" p) [e, e2] [] pos) (dCB (bIsiC tbl) ta) :=
  le_callB (r := fun xs H Q => ∃ u, SlX.rIsiSl X.K u xs H Q) (fun pins s σ H xs us Q I r ⟨u, h⟩ => SlX.call_isiSl u pins s σ H xs us Q I r h) (fun pn F H σ E G vs ds k Q S r h hk => by
  unfold bIsiC at h
  split at h
  · obtain ⟨b, hl, h⟩ := h
    obtain ⟨v, u, rfl, rx, ry⟩ := hl2 r
    obtain ⟨a, C', dx, xs, rfl, hC', hs, _⟩ := rx.obj' S.w.sub
    have ry2 := ry.val (fun _ q => nomatch q)
    cases ry2 with
    | cls hC2 =>
      obtain ⟨C1, C2, h1, h2, h3, h4, h5⟩ := (hT _ _ b hl).ex
      cases hC'.eq h1
      cases hC2.eq h2
      exact ⟨.ref _, a, _, dx, _, _, b, rfl, rfl, fun w hw => hw, hs, h3, h4, h5, hk _ h _ F H S (Same.refl F) (.bl _)⟩
  · exact h.elim) hg hm (by decide +kernel) ha (by decide) (by decide) he hpl
theorem le_cls {nm : Str} {pos : Pos} (hg : Gl X nm) (hm : ∃ C, ClsN X.K nm C ∧ X.mg nm = some (.ref C)) (hd : (nm == ("__debug__" : Str)) = false := by decide) : LE X B (.Name nm pos) (dC (.cls nm)) := by
  obtain ⟨C, hC, hm⟩ := hm
  exact le_c (v := .ref C) (pe_glob hg hm rfl hd) fun _ => .cls hC
end
end L3

set_option Elab.async false
set_option maxRecDepth 100000
set_option maxHeartbeats 4000000
/-! L3, part q: zip and enumerate. -/
namespace L3
open PySem PySem.Spec PyProof.Rows L2
def pairD (x y : D) : D := .tup [x, y]
def enumFrom (n : Nat) : List D → List D
  | [] => []
  | d :: ds => pairD (.int (n : Nat)) d :: enumFrom (n + 1) ds
theorem enumFrom_get : ∀ (ds : List D) (n i : Nat) (d : D), ds[i]? = some d → (enumFrom n ds)[i]? = some (pairD (.int ((n + i : Nat) : Int)) d)
  | [], _, _, _, h => by simp at h
  | d :: ds, n, 0, e, h => by
    simp at h
    subst h
    rfl
  | d :: ds, n, i + 1, e, h => by
    have := enumFrom_get ds (n + 1) i e (by simpa using h)
    unfold enumFrom
    rw [List.getElem?_cons_succ, this, show n + 1 + i = n + (i + 1) by omega]
theorem enumFrom_len : ∀ (ds : List D) (n : Nat), (enumFrom n ds).length = ds.length
  | [], _ => rfl
  | d :: ds, n => by unfold enumFrom; rw [List.length_cons, enumFrom_len ds, List.length_cons]
section
variable {X : Cx} {B : Base3} {K : PySem.W.Frag}
theorem tup2 {pn : Pend} {F H : Hp} {σ : L2.St} {E : Env3} {G : Reg} (S : St3 K B pn F H σ E G) {T : Addr} {x y : V} {d e : D} (n : H T = none) (rd : Rep K F d x) (re : Rep K F e y) :
    ∃ F', St3 K B pn F' (upd H T (.tup [x, y])) σ E G ∧ Same F F' ∧ Rep K F' (pairD d e) (.ref T) := by
  obtain ⟨S2, s2⟩ := S.newF (o := .tup [x, y]) n
  exact ⟨_, S2, s2, .tup upd_same (.cons (Rep.mono s2 _ _ rd) (.cons (Rep.mono s2 _ _ re) .nil))⟩
theorem wk_enum {F0 : Hp} {a : Addr} {xs : List V} {ds : List D} (ha : SqL K F0 a xs) (ra : RepL K F0 ds xs) : Wk K B (Ite K a) (enumFrom 0 ds) F0 := by
  have l1 := ra.length
  refine ⟨fun pn F H σ E G i S s h => ?_, fun pn F H σ E G i x H' S s h y => ?_, fun pn F H σ E G i S s h => ?_⟩
  · rw [enumFrom_len] at h
    exact ⟨xs, xs[i], S.w.sub.seq (s.seq ha), List.getElem?_eq_getElem _⟩
  · obtain ⟨T, u, rfl, nT, rfl, q1⟩ := y
    obtain ⟨d, h1, r1⟩ := ra.get' (q1 xs (S.w.sub.seq (s.seq ha)))
    obtain ⟨F', S', s', r⟩ := tup2 S nT (.int (i : Nat)) (Rep.mono s _ _ r1)
    have := enumFrom_get ds 0 i d h1
    rw [Nat.zero_add] at this
    exact ⟨F', S', s', _, this, r⟩
  · rw [enumFrom_len] at h
    exact ⟨xs, S.w.sub.seq (s.seq ha), by omega⟩
end
end L3

set_option Elab.async false
set_option maxRecDepth 100000
set_option maxHeartbeats 4000000
/-! L3, part r: starred items, texts of numbers, f-strings, join. -/
namespace L3
open PySem PySem.Spec PyProof.Rows L2
section
variable {X : Cx} {B : Base3}
def seqD : D → Option (List D)
  | .tup ds => some ds
  | .lst ds => some ds
  | _ => none
def dStar (te : DE) (tr : DA) : DA := fun E G k => te E G fun x E1 G1 => ∃ d E2, x.ice E1 = some (d, E2) ∧ ∃ ds, seqD d = some ds ∧ tr E2 G1 fun es E3 G3 => k (ds ++ es) E3 G3
theorem la_star {e : Expr} {p : Pos} {es : List Expr} {ta : DE} {tr : DA} (ha : LE X B e ta) (hr : LA X B es tr) : LA X B (.Starred e p :: es) (dStar ta tr) :=
  ⟨pa_imp (StX.pa_star ha.pe hr.pa) fun σ H Q ⟨pn, F, E, G, k, S, ht, hk⟩ => ⟨pn, F, E, G, _, S, ht, fun x E1 G1 ⟨d, E2, h0, ds, hd, h1⟩ v F1 H1 S1 s1 r1 => by
    obtain ⟨F1', S1', s1', r1'⟩ := S1.ice r1 h0
    unfold seqD at hd
    split at hd
    · cases hd
      cases r1' with
      | tup qs rs => exact ⟨_, _, rfl, .inl (SqT.of (S1'.w.sub _ _ qs)), pn, F1', E2, G1, _, S1', h1, fun es E3 G3 h3 vs F3 H3 S3 s3 r3 => hk _ _ _ h3 _ F3 H3 S3 ((s1.trans s1').trans s3) (RepL.append (RepL.mono s3 _ _ rs) r3)⟩
    · cases hd
      cases r1' with
      | lst qs rs => exact ⟨_, _, rfl, .inr (S1'.w.sub.seq (.inl qs)), pn, F1', E2, G1, _, S1', h1, fun es E3 G3 h3 vs F3 H3 S3 s3 r3 => hk _ _ _ h3 _ F3 H3 S3 ((s1.trans s1').trans s3) (RepL.append (RepL.mono s3 _ _ rs) r3)⟩
    · cases hd⟩⟩
/-! ### str -/
def bStr : Reg → List D → (Res → Prop) → Prop := fun _ ds k => match ds with
  | [.int i] => i.natAbs.log2 < 1920 ∧ k (.val (.str (toString i)))
  | [.str x] => k (.val (.str x))
  | _ => False
theorem le_strOf {e : Expr} {ta : DA} {p pos : Pos} (hg : Gl X "str") (hm : X.mg "str" = none) (ha : LP X B [e] ta) (he : starEach [e] X.env = (false, eval e X.env) :: starEach [] X.env := by rfl) (hpl : (backTo pos (starEach [] X.env)).any (·.1) = false := by rfl) :
    LE X B (.Call (.Name "str" p) [e] [] pos) (dCB bStr ta) :=
  le_callTy (r := fun xs H Q => (∃ i : Int, xs = [.int i] ∧ i.natAbs.log2 < 1920 ∧ Q (.str (toString i)) H) ∨ ∃ a, xs = [.str a] ∧ Q (.str a) H)
    (fun pins s σ H xs us Q I r h => h.elim (fun h => call_str_int pins s σ H xs us Q I r h) fun h => SkE.call_str_str pins s σ H xs us Q I r h) (fun pn F H σ E G vs ds k Q S r h hk => by
  unfold bStr at h
  split at h
  · obtain ⟨v, rfl, rx⟩ := hl1 r
    rw [rx.int]
    exact .inl ⟨_, rfl, h.1, hk _ h.2 _ F H S (Same.refl F) (.str _)⟩
  · obtain ⟨v, rfl, rx⟩ := hl1 r
    have rv := rx.val (fun _ q => nomatch q)
    cases rv
    exact .inr ⟨_, rfl, hk _ h _ F H S (Same.refl F) (.str _)⟩
  · exact h.elim) hg hm (by decide +kernel) ha (by decide) (by decide) he hpl
/-! ### f-strings -/
def uFmt : D → (Res → Prop) → Prop := fun d k => match d with
  | .str y => y.length ≤ sizeLine ∧ k (.val (.str y))
  | .int i => i.natAbs.log2 < 1920 ∧ k (.val (.str (toString i)))
  | _ => False
theorem le_fmt {e : Expr} {te : DE} {pos : Pos} (he : LE X B e te) : LE X B (.FormattedValue e (-1) none pos) (dUn uFmt te) :=
  ⟨pe_imp (pe_fmt he.pe) fun σ H Q ⟨pn, F, E, G, k, S, ht, hk⟩ => ⟨pn, F, E, G, _, S, ht, fun x E1 G1 ⟨d, hd, h1⟩ v F1 H1 S1 s1 r1 => by
    have rx := S1.getH r1 hd
    unfold uFmt at h1
    split at h1
    · have rv := rx.val (fun _ q => nomatch q)
      cases rv
      exact .inl ⟨_, rfl, h1.1, hk _ _ _ h1.2 _ F1 H1 S1 s1 (.str _)⟩
    · rw [rx.int]
      exact .inr ⟨_, rfl, h1.1, hk _ _ _ h1.2 _ F1 H1 S1 s1 (.str _)⟩
    · exact h1.elim⟩⟩
inductive LJ (X : Cx) (B : Base3) : List Expr → List DE → Prop where
  | nil : LJ X B [] []
  | cons {e : Expr} {t : DE} {es : List Expr} {ts : List DE} (h : LE X B e t) (r : LJ X B es ts) : LJ X B (e :: es) (t :: ts)
def dJs : List DE → Str → Env3 → Reg → (Str → Env3 → Reg → Prop) → Prop
  | [], acc, E, G, k => k acc E G
  | t :: ts, acc, E, G, k => t E G fun r E1 G1 => ∃ y : Str, r = .val (.str y) ∧ (acc ++ y).length ≤ sizeLine ∧ dJs ts (acc ++ y) E1 G1 k
def dFstr (ts : List DE) : DE := fun E G k => dJs ts Str.empty E G fun out E1 G1 => k (.val (.str out)) E1 G1
theorem LJ.pj {es : List Expr} {ts : List DE} : LJ X B es ts → PJ X es (ts.map (Lift X.K B))
  | .nil => .nil
  | .cons h r => .cons h.pe r.pj
theorem dJs_lift : ∀ (ts : List DE) (acc : Str) (σ : L2.St) (H : Hp) (Q : Str → Hp → Prop) (pn : Pend) (F : Hp) (E : Env3) (G : Reg) (k : Str → Env3 → Reg → Prop), St3 X.K B pn F H σ E G → dJs ts acc E G k →
    (∀ out E' G', k out E' G' → ∀ F' H', St3 X.K B pn F' H' σ E' G' → Same F F' → Q out H') → tJs (ts.map (Lift X.K B)) acc σ H Q
  | [], acc, σ, H, Q, pn, F, E, G, k, S, h, hk => hk _ _ _ h F H S (Same.refl F)
  | t :: ts, acc, σ, H, Q, pn, F, E, G, k, S, h, hk => ⟨pn, F, E, G, _, S, h, fun r E1 G1 ⟨y, e, hl, h1⟩ v F1 H1 S1 s1 r1 => by
    subst e
    have r1 : Rep X.K F1 (.str y) v := r1
    cases r1
    exact ⟨y, rfl, hl, dJs_lift ts _ σ H1 Q pn F1 E1 G1 k S1 h1 fun out E' G' q F' H' S' s' => hk out E' G' q F' H' S' (s1.trans s')⟩⟩
theorem le_fstr {v1 v2 : Expr} {rest : List Expr} {ts : List DE} {pos : Pos} (h : LJ X B (v1 :: v2 :: rest) ts) : LE X B (.JoinedStr (v1 :: v2 :: rest) pos) (dFstr ts) :=
  ⟨pe_imp (pe_joined h.pj) fun σ H Q ⟨pn, F, E, G, k, S, ht, hk⟩ => dJs_lift ts _ σ H _ pn F E G _ S ht fun out E' G' q F' H' S' s' => hk _ _ _ q _ F' H' S' s' (.str out)⟩
end
end L3

set_option Elab.async false
set_option maxRecDepth 100000
set_option maxHeartbeats 4000000
/-! L3, part s: join and split. -/
namespace L3
open PySem PySem.Spec PyProof.Rows L2
section
variable {X : Cx} {B : Base3}
def strsOf : List D → Option (List Str)
  | [] => some []
  | .str x :: ds => (strsOf ds).map (x :: ·)
  | _ :: _ => none
theorem strsOf_map : ∀ xs : List Str, strsOf (xs.map D.str) = some xs
  | [] => rfl
  | x :: xs => by rw [List.map_cons, strsOf, strsOf_map xs]; rfl
theorem strsOf_eq : ∀ {ds : List D} {ys : List Str}, strsOf ds = some ys → ds = ys.map D.str
  | [], _, h => by cases h; rfl
  | .str x :: ds, ys, h => by
    unfold strsOf at h
    cases e : strsOf ds with
    | none => rw [e] at h; cases h
    | some zs => rw [e] at h; cases h; rw [strsOf_eq e]; rfl
  | .non :: _, _, h => by cases h
  | .bl _ :: _, _, h => by cases h
  | .int _ :: _, _, h => by cases h
  | .ref _ :: _, _, h => by cases h
  | .ty _ :: _, _, h => by cases h
  | .tup _ :: _, _, h => by cases h
  | .lst _ :: _, _, h => by cases h
  | .scr _ :: _, _, h => by cases h
  | .obj _ _ :: _, _, h => by cases h
  | .cls _ :: _, _, h => by cases h
  | .dcK _ _ :: _, _, h => by cases h
  | .dcT _ _ :: _, _, h => by cases h
theorem repl_strs {K : PySem.W.Frag} {F : Hp} : ∀ {ys : List Str} {vs : List V}, RepL K F (ys.map D.str) vs → vs = ys.map V.str
  | [], _, h => by cases h; rfl
  | y :: ys, _, h => by
    cases h with
    | cons h1 h2 => cases h1; rw [repl_strs h2]; rfl
def textsD : D → Option (List Str)
  | .tup ds => strsOf ds
  | .lst ds => strsOf ds
  | _ => none
def dJoin (to te : DE) : DE := fun E G k => to E G fun x E1 G1 => ∃ a, x = .val (.str a) ∧ te E1 G1 fun y E2 G2 => ∃ d, y.get E2 = some d ∧ ∃ ys, textsD d = some ys ∧ (ys.map (·.length)).sum + ys.length * a.length ≤ 16777216 ∧ k (.val (.str (Txt.join a ys))) E2 G2
theorem le_join {o e : Expr} {to te : DE} {apos pos : Pos} (ho : LE X B o to) (he : LE X B e te) (hs : starEach [e] X.env = [(false, eval e X.env)] := by rfl) (hbase : attributeBase o "join" X.env (eval o X.env) = eval o X.env := by rfl) (hline : (apos.endLine == pos.line) = true := by rfl) :
    LE X B (.Call (.Attribute o "join" apos) [e] [] pos) (dJoin to te) :=
  ⟨pe_imp (pe_join ho.pe he.pe hs hbase hline) fun σ H Q ⟨pn, F, E, G, k, S, ht, hk⟩ => ⟨pn, F, E, G, _, S, ht, fun x E1 G1 ⟨a, ex, h1⟩ v F1 H1 S1 s1 r1 => by
    subst ex
    have r1 : Rep X.K F1 (.str a) v := r1
    cases r1
    refine ⟨⟨a, rfl⟩, pn, F1, E1, G1, _, S1, h1, fun y E2 G2 ⟨d, hd, ys, hy, hz, h2⟩ u F2 H2 S2 s2 r2 => ?_⟩
    have rx := S2.getH r2 hd
    unfold textsD at hy
    split at hy
    · obtain ⟨p, xs, rfl, hs, ra⟩ := rx.tup S2.w.sub
      rw [strsOf_eq hy] at ra
      rw [repl_strs ra] at hs
      exact ⟨a, p, ys, rfl, rfl, .inr hs, hz, hk _ _ _ h2 _ F2 H2 S2 (s1.trans s2) (.str _)⟩
    · obtain ⟨p, xs, rfl, hs, ra⟩ := rx.lst S2.w.sub
      rw [strsOf_eq hy] at ra
      rw [repl_strs ra] at hs
      exact ⟨a, p, ys, rfl, rfl, .inl (.inl hs), hz, hk _ _ _ h2 _ F2 H2 S2 (s1.trans s2) (.str _)⟩
    · cases hy⟩⟩
end
end L3

set_option Elab.async false
set_option maxRecDepth 100000
set_option maxHeartbeats 4000000
/-! L3, part t: what the head tells of a class with slots. -/
namespace L3
open PySem PySem.Spec PyProof.Rows L2
/-- a def in the class of that name -/
structure MethAt (K : PySem.W.Frag) (nm m qual : Str) (st : Stmt) : Prop where
  ex : ∃ (C f : Addr) (oc : Value) (od an : Option Addr) (osl : Array (Option Value)) (kV doc pm cdv ct : Value), ClsN K nm C ∧ PySem.W.findIn K (.ref C) m = some (some (.ref f)) ∧ PySem.W.isFn K (.ref f) = true ∧
    K.lookup f = some ⟨oc, od, .func (PySem.W.fnOf m qual (defArgs st) (defBody st) (defScope st) .none kV doc pm an cdv ct), osl⟩ ∧ PySem.W.codeIn K cdv qual = true ∧ PySem.W.keepIn K (.ref f) = true
structure MakeAt (K : PySem.W.Frag) (mg : Str → Option Value) (nm : Str) : Prop where
  ex : ∃ C : Addr, ClsN K nm C ∧ PySem.W.makesIn K C = true ∧ PySem.W.keepIn K (.ref C) = true ∧ mg nm = some (.ref C)
structure SClsN (K : PySem.W.Frag) (nm : Str) : Prop where
  ex : ∃ C, ClsN K nm C ∧ SlX.SCls K C
section
variable {P : Program} {w : World} {K : PySem.W.Frag} {mg : Str → Option Value} {base : Heap}
theorem new3 {nm qual : Str} {st : Stmt} {k : Nat} {ps N : List Str} {sp : DSpI} (c : MakeAt K mg nm) (d : MethAt K nm "__init__" qual st)
    (hb : ∀ (kV doc pm : Value) (an : Option Addr) (cdv ct : Value) (us : List Value), us.length = ps.length → bindArgs (PySem.W.fnOf "__init__" qual (defArgs st) (defBody st) (defScope st) .none kV doc pm an cdv ct) ⟨us, []⟩ = pure (ps.zip us))
    (S : FnScope N ps (defScope st)) (hN : 0 < N.length) (len : ∀ ds G q e, sp ds G q e → ds.length + 1 = ps.length)
    (body : ∀ (f : Addr) (cdv : Value) (A : Around) (outer : List Env) (s : Shared) (H : Hp) (E : XK) (B : Base3) (dw : Exc3 → Reg → Prop), Room k (A.deeper (envOfC qual (defScope st) s.heap.objs.size f cdv)) →
      WOkL (cxOf (L2.CX P w) P w K mg base N qual (defScope st) f cdv A outer s H E) B (fun x _ G => dw x G) →
      ∃ t : DSt, LSs (cxOf (L2.CX P w) P w K mg base N qual (defScope st) f cdv A outer s H E) B (defBody st) t ∧ ∀ ds G q, sp ds G q dw → t { nx := fun E' G' => ∃ gs : List D, E'[0]? = some (Sl3.new nm (gs.map some)) ∧ gs ≠ [] ∧ q gs G', rt := fun _ _ => False } (startI nm N ds) G) :
    New3 P w K mg base nm (k + 1) sp := by
  obtain ⟨C, hC, mk, kc, hm⟩ := c.ex
  obtain ⟨C', f, oc, od, an, osl, kV, doc, pm, cdv, ct, hC', fi, fn, l, cd, kp⟩ := d.ex
  cases hC.eq hC'
  have F := fun_mk (st := st) l cd kp
  exact ⟨C, f, _, ps, hC, ⟨mk, fi, fn, kc⟩, hm, F.binds hb, okI3 F S hN len fun cdv A outer s H E B dw hr wk => body f cdv A outer s H E B dw hr wk⟩
theorem tbl_nil {f : Str} : ∀ (nm : Str) (i : Nat), List.lookup nm ([] : List (Str × Nat)) = some i → SlotAt K nm f i := fun _ _ h => by cases h
theorem tbl_cons {n f : Str} {j : Nat} {r : List (Str × Nat)} (s : SlotAt K n f j) (h : ∀ (nm : Str) (i : Nat), List.lookup nm r = some i → SlotAt K nm f i) : ∀ (nm : Str) (i : Nat), List.lookup nm ((n, j) :: r) = some i → SlotAt K nm f i := fun nm i e => by
  rw [List.lookup_cons] at e
  by_cases q : (nm == n) = true
  · rw [q] at e
    cases e
    rw [LawfulBEq.eq_of_beq q]
    exact s
  · rw [Bool.not_eq_true] at q
    rw [q] at e
    exact h nm i e
theorem isi_nil : ∀ (n1 n2 : Str) (b : Bool), List.lookup (n1, n2) ([] : List ((Str × Str) × Bool)) = some b → Isi3 K n1 n2 b := fun _ _ _ h => by cases h
theorem isi_cons {m1 m2 : Str} {c : Bool} {r : List ((Str × Str) × Bool)} (s : Isi3 K m1 m2 c) (h : ∀ (n1 n2 : Str) (b : Bool), List.lookup (n1, n2) r = some b → Isi3 K n1 n2 b) : ∀ (n1 n2 : Str) (b : Bool), List.lookup (n1, n2) (((m1, m2), c) :: r) = some b → Isi3 K n1 n2 b := fun n1 n2 b e => by
  rw [List.lookup_cons] at e
  by_cases q : ((n1, n2) == (m1, m2)) = true
  · rw [q] at e
    cases e
    have := LawfulBEq.eq_of_beq q
    cases this
    exact s
  · rw [Bool.not_eq_true] at q
    rw [q] at e
    exact h n1 n2 b e
/-! ### from what k_is finds -/
theorem scls_mk {nm : Str} {C : Addr} (a : PySem.W.nsIn K mainGlobals nm = some (some (.ref C))) (pg : PySem.W.plainGet K C Str.empty = true) (ic : PySem.W.isClsIn K C = true) (po : PySem.W.plainOver K C = true)
    (sa : PySem.W.findIn K (.ref C) "__setattr__" = some (some (.builtin "object.__setattr__"))) : SClsN K nm := ⟨C, a, ⟨pg, ic, po, sa⟩⟩
theorem slot_mk {nm f : Str} {C p : Addr} {i : Nat} (c : SClsN K nm) (a : PySem.W.nsIn K mainGlobals nm = some (some (.ref C))) (at_ : PySem.W.findIn K (.ref C) f = some (some (.ref p)))
    (get : PySem.W.specialIn K (.ref p) "__get__" = some (some (.builtin "member_descriptor.__get__"))) (tk : PySem.W.takesIn K (.ref p) = some true) (ty : PySem.W.typeIn K (.ref p) = some (.type "member_descriptor")) (ix : PySem.W.slotIn K p C = some i) (lt : i < 1000) : SlotAt K nm f i := by
  obtain ⟨C', h, sc⟩ := c.ex
  cases ClsN.eq a h
  exact ⟨C, p, a, sc, ⟨at_, get, tk, ty, ix, lt⟩⟩
theorem make_mk {h : Heap} {nm : Str} {C : Addr} (X : K.In h) (G : h.Ns mainGlobals mg) (a : PySem.W.nsIn K mainGlobals nm = some (some (.ref C))) (mk : PySem.W.makesIn K C = true) (kc : PySem.W.keepIn K (.ref C) = true) : MakeAt K mg nm := ⟨C, a, mk, kc, PySem.W.mg_of X G a⟩
theorem cls_mk {h : Heap} {nm : Str} {C : Addr} (X : K.In h) (G : h.Ns mainGlobals mg) (a : PySem.W.nsIn K mainGlobals nm = some (some (.ref C))) : ∃ C, ClsN K nm C ∧ mg nm = some (.ref C) := ⟨C, a, PySem.W.mg_of X G a⟩
theorem isi_mk {n1 n2 : Str} {C1 C2 : Addr} {b : Bool} (c : SClsN K n1) (a1 : PySem.W.nsIn K mainGlobals n1 = some (some (.ref C1))) (a2 : PySem.W.nsIn K mainGlobals n2 = some (some (.ref C2)))
    (ca : PySem.W.findIn K (.ref C1) "__class__" = some (some (.builtin "object.__class__"))) (cn : PySem.W.specialIn K (.builtin "object.__class__") "__get__" = some (some (.builtin "getset_descriptor.__get__"))) (ct : PySem.W.takesIn K (.builtin "object.__class__") = some true) (cm : PySem.W.mroIn K C1 (.type "object") = some true)
    (k : PySem.W.kitOne K (.ref C1) (.ref C2) = some b) : Isi3 K n1 n2 b := by
  obtain ⟨C', h, sc⟩ := c.ex
  cases ClsN.eq a1 h
  exact ⟨C1, C2, a1, a2, sc, ⟨ca, cn, ct, cm⟩, k⟩
theorem methAt_mk {nm m qual : Str} {st : Stmt} {C f : Addr} {oc : Value} {od an : Option Addr} {osl : Array (Option Value)} {kV doc pm cdv ct : Value} (a : PySem.W.nsIn K mainGlobals nm = some (some (.ref C))) (fi : PySem.W.findIn K (.ref C) m = some (some (.ref f))) (fn : PySem.W.isFn K (.ref f) = true)
    (l : K.lookup f = some ⟨oc, od, .func (PySem.W.fnOf m qual (defArgs st) (defBody st) (defScope st) .none kV doc pm an cdv ct), osl⟩) (cd : PySem.W.codeIn K cdv qual = true) (kp : PySem.W.keepIn K (.ref f) = true) : MethAt K nm m qual st :=
  ⟨C, f, oc, od, an, osl, kV, doc, pm, cdv, ct, a, fi, fn, l, cd, kp⟩
end
end L3

set_option Elab.async false
set_option maxRecDepth 100000
set_option maxHeartbeats 4000000
/-! L3, part u: the least, the greatest of a list of ints; sorted. -/
namespace L3
open PySem PySem.Spec PyProof.Rows L2
section
variable {X : Cx} {B : Base3}
def bMinL : Reg → List D → (Res → Prop) → Prop := fun _ ds k => match ds with
  | [.lst xs] => ∃ ns, intsOf xs = some ns ∧ 0 < ns.length ∧ ∀ m : Int, m ∈ ns → (∀ y, y ∈ ns → m ≤ y) → k (.val (.int m))
  | _ => False
theorem ints_at {pn : Pend} {F H : Hp} {σ : L2.St} {E : Env3} {G : Reg} (S : St3 X.K B pn F H σ E G) {xs : List D} {v : V} {ns : List Int} (rx : RepH X.K F H (.lst xs) v) (e : intsOf xs = some ns) : ∃ p, v = .ref p ∧ SqL X.K H p (ns.map V.int) := by
  obtain ⟨p, ys, rfl, hs, ra⟩ := rx.lst S.w.sub
  rw [intsOf_eq e] at ra
  rw [ra.ints_of] at hs
  exact ⟨p, rfl, .inl hs⟩
theorem le_minL {e : Expr} {ta : DA} {p pos : Pos} (hc : X.calm = true) (hg : Gl X "min") (hm : X.mg "min" = none) (ha : LP X B [e] ta) (he : starEach [e] X.env = (false, eval e X.env) :: starEach [] X.env := by rfl) (hpl : (backTo pos (starEach [] X.env)).any (·.1) = false := by rfl) :
    LE X B (.Call (.Name "min" p) [e] [] pos) (dCB bMinL ta) := le_callB (cr_min hc) (fun pn F H σ E G vs ds k Q S r h hk => by
  unfold bMinL at h
  split at h
  · obtain ⟨ns, e, hl, h⟩ := h
    obtain ⟨v, rfl, rx⟩ := hl1 r
    obtain ⟨p, rfl, hs⟩ := ints_at S rx e
    exact ⟨p, ns, rfl, hs, hl, fun m h1 h2 => hk _ (h m h1 h2) _ F H S (Same.refl F) (.int _)⟩
  · exact h.elim) hg hm (by decide +kernel) ha (by decide) (by decide) he hpl
end
end L3

set_option Elab.async false
set_option maxRecDepth 100000
set_option maxHeartbeats 4000000
/-! L3, part v: t[::-1] of a tuple. -/
namespace L3
open PySem PySem.Spec PyProof.Rows L2 HT
section
variable {prog : Program} {w : World} {A : Around} {E : Value → Shared → Prop} {s : Shared}
theorem applied_back {sl : Addr} {vl vu vs : Value} {n : Nat} {Q : Int × Int × Nat → Shared → Prop} (hs : s.heap.IsSliceOf sl vl vu vs) (pl : IsPart vl none) (pu : IsPart vu none) (ps : IsPart vs (some (-1))) (h : Q ((n : Int) - 1, -1, n) s) :
    wpAny (model prog w) A (Builtin.Slice.sliceApplied (.ref sl) (pure (n : Int))) Q E s := by
  obtain ⟨so, g1, g2, g3⟩ := id hs
  unfold Builtin.Slice.sliceApplied Builtin.Slice.sliceFields
  refine wpAny_bind (wpAny_bind (wpAny_field g1 g3 (x := vl) rfl (wpAny_bind (wpAny_field g1 g3 (x := vu) rfl (wpAny_bind (wpAny_field g1 g3 (x := vs) rfl (wpAny_pure ?_)))))))
  refine wpAny_bind (slicePart_ ps ?_)
  rw [show (Option.getD (some (-1 : Int)) 1) = -1 from rfl, if_neg (by decide)]
  refine wpAny_bind (slicePart_ pl (wpAny_bind (slicePart_ pu (wpAny_bind (wpAny_pure ?_)))))
  show wpAny _ _ (pure (((n : Int) - 1), (-1 : Int), Builtin.Slice.slicePlaces ((n : Int) - 1) (-1) (-1))) _ _ s
  have e : Builtin.Slice.slicePlaces ((n : Int) - 1) (-1) (-1) = n := by
    unfold Builtin.Slice.slicePlaces
    rw [if_neg (by decide)]
    by_cases z : (n : Int) - 1 > -1
    · rw [if_pos z]
      have : ((n : Int) - 1 - -1 - 1) / (- -1) = (n : Int) - 1 := by
        rw [show (- -1 : Int) = 1 by decide, Int.ediv_one]; omega
      rw [this]; omega
    · rw [if_neg z]; omega
  rw [e]
  exact wpAny_pure h
theorem pick_back (xs : Array Value) : ((List.range xs.size).filterMap fun (k : Nat) => xs[(((xs.size : Nat) : Int) - 1 + (k : Int) * (-1)).toNat]?) = xs.toList.reverse := by
  have e1 : ∀ k ∈ List.range xs.size, xs[(((xs.size : Nat) : Int) - 1 + (k : Int) * (-1)).toNat]? = some (xs.toList.reverse.getD k default) := fun k hk => by
    rw [List.mem_range] at hk
    have q : (((xs.size : Nat) : Int) - 1 + (k : Int) * (-1)).toNat = xs.size - 1 - k := by omega
    rw [q, List.getD_eq_getElem?_getD, List.getElem?_reverse (by simpa using hk)]
    rw [Array.getElem?_eq_getElem (by omega)]
    simp only [Array.length_toList, Array.getElem?_toList]
    rw [Array.getElem?_eq_getElem (by omega)]
    rfl
  rw [fmap_all e1]
  refine List.ext_getElem (by simp) fun i h1 h2 => ?_
  simp only [List.getElem_map, List.getElem_range]
  rw [List.getD_eq_getElem?_getD, List.getElem?_eq_getElem h2]
  rfl
theorem tup_back_item {t sl : Addr} {items : Array Value} {vl vu vs : Value} {Q : Value → Shared → Prop} (ht : IsTup s.heap t items) (hs : s.heap.IsSliceOf sl vl vu vs) (pl : IsPart vl none) (pu : IsPart vu none) (ps : IsPart vs (some (-1)))
    (h : Q (.ref s.heap.objs.size) { s with heap := s.heap.push { cls := .type "tuple", data := .seq items.toList.reverse.toArray } }) (hz : items.size ≤ sizeLine) : wpAny (model prog w) A (getItem (.ref t) (.ref sl)) Q E s := by
  have fit : sizeOk (.seq items.toList.reverse.toArray) := by
    show items.toList.reverse.toArray.size ≤ sizeLine
    simpa using hz
  obtain ⟨so, g1, g2, g3⟩ := id hs
  have kT : s.TypeIs (.ref sl) "slice" := ⟨so, g1, g2⟩
  unfold getItem
  (try with_reducible refine wpAny_holding ?_); (first | refine wpAny_bind (wpAny_pure ?_) | skip)
  refine wpAny_bind (wpAny_sequenceKey ht.typeIs (by decide) (wpAny_bind ?_))
  refine wpAny_callSpecial?_slot (name := Str.ofString "__getitem__") ht.typeIs PyProof.Rows.slot_tuple_getitem (wpAny_call_entry PyProof.Rows.slot_tuple_getitem ht.typeIs entry_tuple_getitem ?_ (args_tuple_getitem _ _))
  show wpAny _ _ (Builtin.Tuple.tupleItemsOf (.ref t) >>= _) _ _ s
  refine wpAny_bind (tupleItemsOf_ ht (wpAny_bind (wpAny_typeOf kT ?_)))
  rw [if_pos (by decide)]
  refine wpAny_bind (applied_back hs pl pu ps ?_)
  have no : ¬ (((((items.size : Nat) : Int) - 1 == 0) && ((-1 : Int) == 1) && (items.size == items.size)) = true) := by
    rw [show ((-1 : Int) == 1) = false from rfl, Bool.and_false, Bool.false_and]
    exact Bool.false_ne_true
  show wpAny _ _ (if ((((items.size : Nat) : Int) - 1 == 0) && ((-1 : Int) == 1) && (items.size == items.size)) = true then _ else _) _ _ s
  rw [if_neg no, pick_back]
  refine wpAny_bind (m := Builtin.Tuple.tupleExact items.toList.reverse.toArray) (wpAny_newObj_type ?_ fit)
  first | exact wpAny_pure ⟨_, rfl, wpAny_pure h⟩ | exact wpAny_bind (wpAny_pure (wpAny_pure ⟨_, rfl, wpAny_pure h⟩))
end
def tRevT (K : PySem.W.Frag) (te : TE) : TE := fun σ H Q => te σ H fun x H1 => ∃ a xs, x = .ref a ∧ ((SqT K H1 a xs ∧ ∀ p, H1 p = none → Q (.ref p) (upd H1 p (.tup xs.reverse))) ∨ (SqL K H1 a xs ∧ ∀ p, H1 p = none → Q (.ref p) (upd H1 p (.lst xs.reverse))))
section
variable {X : Cx}
theorem pe_revA {e : Expr} {te : TE} {k : Nat} {p1 p2 p3 pos : Pos} (he : PE X e te) : PE X (.Subscript e (.Slice none none (some (.UnaryOp .USub (.Constant (.int 1) k p1) p2)) p3) pos) (tRevT X.K te) := by
  refine ⟨fun ps s σ H Q I h => Subscript_ (thn (he.run ps s σ H _ I h) fun v s1 ⟨x, H1, I1, r1, a, xs, ex, hx⟩ => ?_)⟩
  subst ex
  cases r1
  have part : PO X (some (.UnaryOp .USub (.Constant (.int 1) k p1) p2)) (tPart (tUn (rU fun i => .int (-i)) (tC (.int 1)))) := po_some (pe_un un_neg pe_int)
  refine wpAny_Slice (thn (po_none.run ps s1 σ H1 (fun o G => o = none ∧ G = H1) I1 ⟨rfl, rfl⟩) fun vl s2 ⟨l, H2, I2, pl, el, e2⟩ => thn (po_none.run ps s2 σ H2 (fun o G => o = none ∧ G = H2) I2 ⟨rfl, rfl⟩) fun vu s3 ⟨u, H3, I3, pu, eu, e3⟩ =>
    thn (part.run ps s3 σ H3 (fun o G => o = some (-1) ∧ G = H3) I3 ⟨1, rfl, -1, rfl, rfl, rfl⟩) fun vs s4 ⟨o, H4, I4, pp, eo, e4⟩ => ?_)
  subst el e2 eu e3 eo e4
  have I5 : Inv X ps σ H4 { s4 with heap := s4.heap.push { cls := .type "slice", data := .fields #[vl, vu, vs] } } := I4.kept (t' := s4.toks) fun b ob q => Heap.get?_push_of_some _ q
  rcases hx with ⟨hx, q⟩ | ⟨hx, q⟩
  · obtain ⟨its, r, ht, hz⟩ := I5.tuple hx
    show wpAny (model X.prog X.w) X.A (subscriptTail e _ (.ref a) (.ref s4.heap.objs.size)) (EP X ps σ Q) X.xe _
    refine tail_any (ops := [.ref a, .ref s4.heap.objs.size]) ht.typeIs PyProof.Rows.slot_tuple_getitem.lookup ?_ (by with_unfolding_all rfl)
    refine tup_back_item ht (Heap.IsSliceOf.new _ vl vu vs) pl pu pp ?_ (by rw [List.size_toArray]; have := r.length; omega)
    exact ⟨.ref _, _, I5.laid (t' := s4.toks) (o := .tup xs.reverse) (fun b ob q => Heap.get?_push_of_some _ q) (Nat.le_refl _) ⟨by rw [List.length_reverse]; exact hz, _, r.reverse, IsTup.new _ _⟩, rfl, q _ (I5.hok.fresh (Nat.le_refl _))⟩
  · obtain ⟨its, r, ht, hz⟩ := I5.list hx
    have hl := r.length
    show wpAny (model X.prog X.w) X.A (subscriptTail e _ (.ref a) (.ref s4.heap.objs.size)) (EP X ps σ Q) X.xe _
    refine tail_any (ops := [.ref a, .ref s4.heap.objs.size]) ht.isList.typeIs PySem.slot_list_getitem.lookup ?_ (by with_unfolding_all rfl)
    refine wpAny_getItem_list_slice ht.isList (Heap.IsSliceOf.new _ vl vu vs) pl pu pp (by decide) ?_ (by rw [List.size_toArray, ← hl]; exact hz)
    rw [PySem.W.krv_pick]
    exact ⟨.ref _, _, I5.laid (t' := s4.toks) (o := .lst xs.reverse) (fun b ob q => Heap.get?_push_of_some _ q) (Nat.le_refl _) ⟨by rw [List.length_reverse]; exact hz, _, 0, r.reverse, Heap.get?_push_size _ rfl⟩, rfl, q _ (I5.hok.fresh (Nat.le_refl _))⟩
end
/-- x[::-1], of a list or a tuple -/
def uRevA : D → (Res → Prop) → Prop := fun d k => match d with
  | .lst ds => k (.fr ds.reverse)
  | .tup ds => k (.val (.tup ds.reverse))
  | _ => False
theorem le_revA {X : Cx} {B : Base3} {e : Expr} {ta : DE} {k : Nat} {p1 p2 p3 pos : Pos} (ha : LE X B e ta) : LE X B (.Subscript e (.Slice none none (some (.UnaryOp .USub (.Constant (.int 1) k p1) p2)) p3) pos) (dUn uRevA ta) :=
  ⟨pe_imp (pe_revA ha.pe) fun σ H Q ⟨pn, F, E, G, k, S, ht, hk⟩ => ⟨pn, F, E, G, _, S, ht, fun x E1 G1 ⟨d, hd, h1⟩ v F1 H1 S1 s1 r1 => by
    have rx := S1.getH r1 hd
    unfold uRevA at h1
    split at h1
    · obtain ⟨a, xs, rfl, hs, ra⟩ := rx.lst S1.w.sub
      refine ⟨a, xs, rfl, .inr ⟨.inl hs, fun q nq => ?_⟩⟩
      obtain ⟨f, no⟩ := S1.newFre nq ra.reverse
      exact hk _ _ _ h1 _ _ _ (S1.newU nq) s1 ⟨q, rfl, f, no⟩
    · obtain ⟨a, xs, rfl, hs, ra⟩ := rx.tup S1.w.sub
      refine ⟨a, xs, rfl, .inl ⟨hs, fun q nq => ?_⟩⟩
      obtain ⟨S2, s2⟩ := S1.newF nq
      exact hk _ _ _ h1 _ _ _ S2 (s1.trans s2) (.tup upd_same (RepL.mono s2 _ _ ra.reverse))
    · exact h1.elim⟩⟩
end L3

set_option Elab.async false
set_option maxRecDepth 100000
set_option maxHeartbeats 4000000
/-! L3, part w: enumerate of a tuple. -/
namespace L3
open PySem PySem.Spec PyProof.Rows L2
theorem meets_en1 {v : Value} {o : Obj} {H : Heap → Prop} (B : Begins v o H) :
    Meets (Builtin.«enumerate.__new__» ⟨[.type "enumerate", v], []⟩) (fun _ R s => H s.heap ∧ R (.ok (.ret (.ref (s.heap.push o).objs.size)))
      { s with heap := (s.heap.push o).push { cls := .type "enumerate", data := .fields #[.none, .bool false, .ref s.heap.objs.size, rawInt 0, .none, .none] } }) :=
  .of_wp fun prog w A R s hh => by
    obtain ⟨hp, gg, dr, tk, os⟩ := s
    obtain ⟨hb, hr⟩ := hh
    have u := sub_enumerate
    have go : ∀ {A2 : Around} {E2 : Value → Shared → Prop} {Q2 : Value → Shared → Prop}, Q2 (.ref hp.objs.size) ⟨hp.push o, gg, dr, tk, os⟩ → wpAny (model prog w) A2 (pyIter v) Q2 E2 ⟨hp, gg, dr, tk, os⟩ :=
      fun x => B.iter prog w _ _ ⟨hp, gg, dr, tk, os⟩ _ hb x
    wp_walk
    refine wpAny_stack_any fun k => wpAny_pure ?_
    split
    · rename_i c _ _ _ _ _
      cases (c == Value.type "enumerate") <;>
        (wp_walk using go
         exact ⟨_, rfl, hr⟩)
    · wp_walk using go
      exact ⟨_, rfl, hr⟩
theorem call_en1 {prog : Program} {w : World} {A : Around} {E : Value → Shared → Prop} {s : Shared} {v : Value} {o : Obj} {H : Heap → Prop} {Q : Value → Shared → Prop} (B : Begins v o H) (hb : H s.heap)
    (k : ∀ g, IsEnum g (s.heap.objs.size + 1) s.heap.objs.size 0 .none → g.get? s.heap.objs.size = some o → (∀ b x, s.heap.get? b = some x → g.get? b = some x) → Q (.ref (s.heap.objs.size + 1)) { s with heap := g }) :
    wpAny (model prog w) A (call (.type "enumerate") [v]) Q E s := by
  refine callType_new F.called_enumerate (by decide) (F.typeCall_enumerate_1 _) (F.newCall_enumerate_1 _) (fun x => F.args_object_init_2 x _) F.entry_enumerate_new (meets_en1 B) ⟨hb, ?_⟩
  have z : (s.heap.push o).objs.size = s.heap.objs.size + 1 := Heap.size_push ..
  have q := Heap.get?_push_size (s.heap.push o) (o := { cls := .type "enumerate", data := .fields #[.none, .bool false, .ref s.heap.objs.size, rawInt 0, .none, .none] }) rfl
  rw [z] at q
  show _ ∧ _
  rw [z]
  exact ⟨⟨_, q, rfl⟩, k _ q (Heap.get?_push_of_some _ (Heap.get?_push_size _ B.free)) fun b x y => Heap.get?_push_of_some _ (Heap.get?_push_of_some _ y)⟩
/-- the tuple at a, each item in a new pair -/
def IteT (K : PySem.W.Frag) (a : Addr) : It where
  go i H := ∃ (xs : List V) (x : V), SqT K H a xs ∧ xs[i]? = some x
  yld i H v H' := ∃ T x, v = .ref T ∧ H T = none ∧ H' = upd H T (.tup [.int (i : Nat), x]) ∧ ∀ xs, SqT K H a xs → xs[i]? = some x
  stop i H := ∃ xs : List V, SqT K H a xs ∧ xs.length ≤ i
theorem turn_enT {P : Program} {w : World} {K : PySem.W.Frag} {elts : List Expr} {kk : Nat} {tpos : Pos} (a e it : Addr) :
    Turn P w K (.Tuple elts kk tpos) (IteT K a) [e, it] e (fun i h => (∃ old, IsEnum h e it ((i : Nat) : Int) old) ∧ h.IsTupleIter it a i ∧ e ≠ it ∧ a ≠ it ∧ e ≠ a) where
  mem := by simp
  obj := fun i h st b hb => by
    obtain ⟨⟨old, he⟩, ⟨o, ho, hc, hd⟩, _⟩ := st
    rcases (by simpa using hb : b = e ∨ b = it) with rfl | rfl
    · exact ⟨_, he, fun v q => nomatch q⟩
    · exact ⟨o, ho, fun v q => by rw [hd] at q; cases q⟩
  keep := fun i h h' st k => let ⟨⟨old, he⟩, hi, r⟩ := st; ⟨⟨old, k e (by simp) _ he⟩, hi.at fun o q => k it (by simp) o q, r⟩
  item := by
    intro X hP hw hK hc i pins s σ H E I hf st hg
    subst hP hw hK
    obtain ⟨⟨old, he⟩, hit, hne, na, nea⟩ := st
    obtain ⟨xs, x, hq, hx⟩ := hg
    obtain ⟨its, rv, p, hz⟩ := I.tuple hq
    obtain ⟨u, hu, ru⟩ := rv.get hx
    have hel : e < s.heap.objs.size := Heap.lt_size he
    have hil : it < s.heap.objs.size := by obtain ⟨_, q, _⟩ := hit; exact Heap.lt_size q
    have hil2 : i < its.toArray.size := by
      have : i < its.length := by
        rcases Nat.lt_or_ge i its.length with h | h
        · exact h
        · rw [List.getElem?_eq_none h] at hu; cases hu
      simpa using this
    refine wpAny_pyNext_enum_itemD (Draws.tuple (A := X.A.in1) (show X.A.in1.handled = none from I.ok.hd hc) it a na its.toArray) he ⟨hit, p⟩ hil2 hne (by simp [hne, nea]) fun y h' tk hP ho hs' hT hsz hk => ?_
    have ey : y = u := by
      have : its[i]? = some y := by simpa using hP
      rw [hu] at this
      cases this
      rfl
    subst ey
    refine ⟨_, rfl, wpAny_letOwnedTupleGo_enum (s := { s with heap := h', toks := tk + 1 }) ho fun h2 he2 sb => ?_⟩
    have hT2 : h2.get? s.heap.objs.size = some { cls := .type "tuple", data := .seq #[.int i tk, y] } := (sb.2 _ (Nat.ne_of_gt hel)).trans hT
    have nw : ObjOk X.prog X.w (upd H s.heap.objs.size (.tup [.int (i : Nat), x])) h2 s.heap.objs.size (.tup [.int (i : Nat), x]) :=
      ⟨by show 2 ≤ sizeLine; decide, [.int i tk, y], .cons ⟨_, rfl⟩ (.cons ru .nil), ⟨_, hT2, rfl, _, rfl⟩⟩
    have I1 : Inv X pins σ (upd H s.heap.objs.size (.tup [.int (i : Nat), x])) { s with heap := h2, toks := tk + 1 } := by
      refine I.turnedNew (ch := [e, it]) (fun b ob hb q => ?_) hf (Nat.le_refl _) nw
      have b1 : b ≠ e := fun z => hb (by simp [z])
      have b2 : b ≠ it := fun z => hb (by simp [z])
      exact (sb.2 b b1).trans (hk b ob b1 b2 q)
    refine ⟨.ref s.heap.objs.size, _, I1, rfl, ⟨_, x, rfl, I.hok.fresh (Nat.le_refl _), rfl, fun ys hy => by rw [I.tuple_inj hy hq]; exact hx⟩, ⟨⟨y, ?_⟩, hs'.1.at fun o q => (sb.2 it (Ne.symm hne)).trans q, hne, na, nea⟩, fun b hb => ?_⟩
    · rw [show ((i + 1 : Nat) : Int) = (i : Int) + 1 by omega]
      exact he2
    · have lt : b < s.heap.objs.size := by
        rcases (by simpa using hb : b = e ∨ b = it) with rfl | rfl <;> assumption
      rw [upd_ne (Nat.ne_of_lt lt)]
      exact (hf b hb).1
  done := by
    intro X hP hw hK hc i pins s σ H E I hf st hg
    subst hP hw hK
    obtain ⟨⟨old, he⟩, hit, hne, na, nea⟩ := st
    obtain ⟨xs, hq, hx⟩ := hg
    obtain ⟨its, rv, p, hz⟩ := I.tuple hq
    have f := hf it (by simp)
    have hl := rv.length
    have hn : its.toArray[i]? = none := Array.getElem?_eq_none (by simp; omega)
    have D : Draws X.prog X.w X.A.in1 it [it, a] i (fun j v => its.toArray[j]? = some v) (fun j h => j = i ∧ h.IsTupleIter it a i ∧ h.IsTuple a its.toArray) :=
      ⟨fun _ _ st => let ⟨o, ho, _⟩ := st.2.1; ⟨o, ho⟩, fun _ _ _ st k => ⟨st.1, st.2.1.at fun o z => k it (by simp) o z, st.2.2.at fun o z => k a (by simp) o z⟩, fun j s Q E hlt st _ => absurd st.1 (by omega),
        fun s Q E st z => wpAny_nextOf_tuple_end (I.ok.hd hc) st.2.1 st.2.2 hn z⟩
    exact wpAny_pyNext_enum_endD D he ⟨rfl, hit, p⟩ fun h' eb => ⟨rfl, I.turned (t' := s.toks) (fun b o hb q => eb b o hb q) f.1 f.2.1 f.2.2.2.1 f.2.2.2.2.1 f.2.2.2.2.2⟩
  self := fun A i s Q E st h => let ⟨⟨_, he⟩, _⟩ := st; wpAny_pyIter_enum he h
/-- enumerate of a list or of a tuple -/
def iEnumA (K : PySem.W.Frag) (ta : TA) : TI := fun σ H R => ta σ H fun vs H1 => ∃ a xs, vs = [.ref a] ∧ ((SqL K H1 a xs ∧ R (Ite K a) H1) ∨ (SqT K H1 a xs ∧ R (IteT K a) H1))
theorem pi_enumA {X : Cx} {e : Expr} {ta : TA} {p pos tpos : Pos} {elts : List Expr} {kk : Nat} (hg : Gl X "enumerate") (hm : X.mg "enumerate" = none) (ha : PA X [e] ta) (hs : starEach [e] X.env = [(false, eval e X.env)] := by rfl) :
    PI X (.Tuple elts kk tpos) (.Call (.Name "enumerate" p) [e] [] pos) (iEnumA X.K ta) := by
  refine ⟨fun pins s σ H R I h => Call_ (ld_blt I hg hm boot_enumerate (PyProof.Rows.callWith_type1 (thn (ha.run pos pins s σ H _ I h) fun us s1 ⟨vs, H1, I1, r1, q1⟩ => ?_) hs rfl))⟩
  obtain ⟨a, xs, rfl, q1⟩ := q1
  cases r1 with
  | cons r rr =>
    cases rr
    cases r
    have fr : ∀ b ∈ [s1.heap.objs.size + 1, s1.heap.objs.size], FpOk X pins H1 b := fun b hb => by
      have le : s1.heap.objs.size ≤ b := by
        rcases (by simpa using hb : b = s1.heap.objs.size + 1 ∨ b = s1.heap.objs.size) with z | z <;> omega
      exact I1.fpOk le (I1.hok.fresh le)
    rcases q1 with ⟨hq, q⟩ | ⟨hq, q⟩
    · obtain ⟨its, rv, pl, hz⟩ := I1.list hq
      refine call_en1 (begins_list a its.toArray) pl.isList fun g he hi hk => wpAny_pyIter_enum he ?_
      exact ⟨s1.heap.objs.size + 1, _, _, _, H1, rfl, I1.kept (t' := s1.toks) hk, turn_enum a (s1.heap.objs.size + 1) s1.heap.objs.size, ⟨⟨.none, he⟩, ⟨_, hi, rfl, rfl⟩, Nat.succ_ne_self _⟩, fr, q⟩
    · obtain ⟨its, rv, pl, hz⟩ := I1.tuple hq
      obtain ⟨o, ho, _⟩ := id pl
      have lt := Heap.lt_size ho
      refine call_en1 (begins_tuple a its.toArray) pl fun g he hi hk => wpAny_pyIter_enum he ?_
      exact ⟨s1.heap.objs.size + 1, _, _, _, H1, rfl, I1.kept (t' := s1.toks) hk, turn_enT a (s1.heap.objs.size + 1) s1.heap.objs.size, ⟨⟨.none, he⟩, ⟨_, hi, rfl, rfl⟩, Nat.succ_ne_self _, Nat.ne_of_lt lt, Nat.ne_of_gt (Nat.lt_succ_of_lt lt)⟩, fr, q⟩
def enumAD : List D → Option (List D)
  | [.lst xs] => some (enumFrom 0 xs)
  | [.tup xs] => some (enumFrom 0 xs)
  | _ => none
section
variable {X : Cx} {B : Base3} {K : PySem.W.Frag}
theorem wk_enT {F0 : Hp} {a : Addr} {xs : List V} {ds : List D} (ha : SqT K F0 a xs) (ra : RepL K F0 ds xs) : Wk K B (IteT K a) (enumFrom 0 ds) F0 := by
  have l1 := ra.length
  refine ⟨fun pn F H σ E G i S s h => ?_, fun pn F H σ E G i x H' S s h y => ?_, fun pn F H σ E G i S s h => ?_⟩
  · rw [enumFrom_len] at h
    exact ⟨xs, xs[i], sameT S.w.sub (sameT s ha), List.getElem?_eq_getElem _⟩
  · obtain ⟨T, u, rfl, nT, rfl, q1⟩ := y
    obtain ⟨d, h1, r1⟩ := ra.get' (q1 xs (sameT S.w.sub (sameT s ha)))
    obtain ⟨F', S', s', r⟩ := tup2 S nT (.int (i : Nat)) (Rep.mono s _ _ r1)
    have := enumFrom_get ds 0 i d h1
    rw [Nat.zero_add] at this
    exact ⟨F', S', s', _, this, r⟩
  · rw [enumFrom_len] at h
    exact ⟨xs, sameT S.w.sub (sameT s ha), by omega⟩
def dEnumA (ta : DA) : DI := fun E G k => ta E G fun ds E1 G1 => ∃ l, enumAD ds = some l ∧ k l E1 G1
theorem li_enumA {elts : List Expr} {kk : Nat} {tpos p pos : Pos} {e : Expr} {ta : DA} (hg : Gl X "enumerate") (hm : X.mg "enumerate" = none) (ha : LA X B [e] ta) (hs : starEach [e] X.env = [(false, eval e X.env)] := by rfl) :
    LI X B (.Tuple elts kk tpos) (.Call (.Name "enumerate" p) [e] [] pos) (dEnumA ta) :=
  ⟨pi_imp (pi_enumA hg hm ha.pa hs) fun σ H R ⟨pn, F, E, G, k, S, h, hk⟩ => ⟨pn, F, E, G, _, S, h, fun ds E1 G1 ⟨l, e, h1⟩ vs F1 H1 S1 s1 r1 => by
    unfold enumAD at e
    split at e
    · cases e
      cases r1 with
      | cons ra r2 =>
        cases r2
        cases ra with
        | lst qa ra => exact ⟨_, _, rfl, .inl ⟨S1.w.sub.seq (.inl qa), hk _ _ _ h1 _ F1 H1 S1 s1 (wk_enum (.inl qa) ra)⟩⟩
    · cases e
      cases r1 with
      | cons ra r2 =>
        cases r2
        cases ra with
        | tup qa ra => exact ⟨_, _, rfl, .inr ⟨SqT.of (S1.w.sub _ _ qa), hk _ _ _ h1 _ F1 H1 S1 s1 (wk_enT (SqT.of qa) ra)⟩⟩
    · cases e⟩⟩
end
end L3

set_option Elab.async false
set_option maxRecDepth 100000
set_option maxHeartbeats 4000000
/-! L3, part x: list(range(..)), tuple(range(..)); another name of a def. -/
namespace L3
open PySem PySem.Spec PyProof.Rows L2
theorem rgV_rep {K : PySem.W.Frag} {F : Hp} (a b : Int) : RepL K F (rangeD a (b - a).toNat) (rgV a b) := by
  unfold rangeD rgV
  generalize List.range (b - a).toNat = l
  induction l with
  | nil => exact .nil
  | cons x l ih => exact .cons (.int _) ih
section
variable {X : Cx} {B : Base3}
def dLstRg (ta tb : DE) : DE := fun E G k => ta E G fun x E1 G1 => ∃ i, x = .val (.int i) ∧ tb E1 G1 fun y E2 G2 => ∃ j, y = .val (.int j) ∧ RgOk i j ∧ k (.fr (rangeD i (j - i).toNat)) E2 G2
theorem le_listRg {a b : Expr} {ta tb : DE} {p p2 pos pos2 : Pos} (hc : X.calm = true) (hg : Gl X "list") (hm : X.mg "list" = none) (hg2 : Gl X "range") (hm2 : X.mg "range" = none) (ha : LE X B a ta) (hb : LE X B b tb)
    (na : starEach [.Call (.Name "range" p2) [a, b] [] pos2] X.env = (false, eval (.Call (.Name "range" p2) [a, b] [] pos2) X.env) :: starEach [] X.env := by rfl)
    (n1 : starEach [a, b] X.env = (false, eval a X.env) :: starEach [b] X.env := by rfl) (n2 : starEach [b] X.env = (false, eval b X.env) :: starEach [] X.env := by rfl) (hp : (backTo pos2 (starEach [b] X.env)).any (·.1) = false := by rfl) :
    LE X B (.Call (.Name "list" p) [.Call (.Name "range" p2) [a, b] [] pos2] [] pos) (dLstRg ta tb) :=
  ⟨pe_imp (pe_listRg hc hg hm (prg_2 hg2 hm2 ha.pe hb.pe n1 n2 hp) na) fun σ H Q ⟨pn, F, E, G, k, S, ht, hk⟩ => ⟨pn, F, E, G, _, S, ht, fun x E1 G1 ⟨i, ex, h1⟩ v F1 H1 S1 s1 r1 => by
    subst ex
    have r1 : Rep X.K F1 (.int i) v := r1
    cases r1
    refine ⟨pn, F1, E1, G1, _, S1, h1, fun y E2 G2 ⟨j, ey, ok, h2⟩ u F2 H2 S2 s2 r2 => ?_⟩
    subst ey
    have r2 : Rep X.K F2 (.int j) u := r2
    cases r2
    refine ⟨i, j, rfl, rfl, ok, fun q nq => ?_⟩
    obtain ⟨f, no⟩ := S2.newFre nq (rgV_rep i j)
    exact hk _ _ _ h2 _ _ _ (S2.newU nq) (s1.trans s2) ⟨q, rfl, f, no⟩⟩⟩
end
end L3

set_option Elab.async false
set_option maxRecDepth 100000
set_option maxHeartbeats 4000000
/-! L3, part y: zip of any number of lists and tuples: walked, as a value under a name; repr of plain things. -/
namespace L3
open PySem PySem.Spec PyProof.Rows L2
def seqsOf : List D → Option (List (List D))
  | [] => some []
  | .lst xs :: r => (seqsOf r).map (xs :: ·)
  | .tup xs :: r => (seqsOf r).map (xs :: ·)
  | _ :: _ => none
def minLen : List (List D) → Nat
  | [] => 0
  | [a] => a.length
  | a :: b :: r => min a.length (minLen (b :: r))
def rowAt (dss : List (List D)) (i : Nat) : List D := dss.map fun ds => ds.getD i .non
def zipN (dss : List (List D)) : List D := (List.range (minLen dss)).map fun i => .tup (rowAt dss i)
theorem zipN_len (dss : List (List D)) : (zipN dss).length = minLen dss := by unfold zipN; rw [List.length_map, List.length_range]
theorem zipN_get {dss : List (List D)} {i : Nat} (h : i < minLen dss) : (zipN dss)[i]? = some (.tup (rowAt dss i)) := by
  unfold zipN
  rw [List.getElem?_map, List.getElem?_range h]; rfl
section
variable {K : PySem.W.Frag} {F : Hp}
theorem css_of : ∀ {ds : List D} {dss : List (List D)} {vs : List V}, seqsOf ds = some dss → RepL K F ds vs → ∃ css : List ZN.CS, vs = css.map (fun c => V.ref c.a) ∧ RepLs K F dss css
  | [], dss, vs, h, r => by
    cases r
    cases h
    exact ⟨[], rfl, .nil⟩
  | d :: ds, dss, vs, h, r => by
    cases r with
    | cons r1 r2 =>
      cases d with
      | lst xs =>
        unfold seqsOf at h
        cases q : seqsOf ds with
        | none => rw [q] at h; cases h
        | some e =>
          rw [q] at h
          cases h
          obtain ⟨css, ev, rl⟩ := css_of q r2
          cases r1 with
          | lst h1 h2 =>
            rename_i a ys
            exact ⟨⟨.l, a, ys⟩ :: css, by rw [ev]; rfl, .cons (c := ⟨.l, a, ys⟩) (.inl h1) h2 rl⟩
      | tup xs =>
        unfold seqsOf at h
        cases q : seqsOf ds with
        | none => rw [q] at h; cases h
        | some e =>
          rw [q] at h
          cases h
          obtain ⟨css, ev, rl⟩ := css_of q r2
          cases r1 with
          | tup h1 h2 =>
            rename_i a ys
            exact ⟨⟨.t, a, ys⟩ :: css, by rw [ev]; rfl, .cons (c := ⟨.t, a, ys⟩) (SqT.of h1) h2 rl⟩
      | _ => cases h
theorem RepLs.length : ∀ {dss : List (List D)} {css : List ZN.CS}, RepLs K F dss css → dss.length = css.length
  | _, _, .nil => rfl
  | _, _, .cons _ _ t => congrArg (· + 1) (RepLs.length t)
theorem RepLs.sq : ∀ {dss : List (List D)} {css : List ZN.CS}, RepLs K F dss css → ∀ c ∈ css, ZN.SqK K c.k F c.a c.xs
  | _, _, .nil => fun c h => (nomatch h)
  | _, _, .cons h1 _ t => fun c h => by
    rcases List.mem_cons.mp h with e | h
    · rw [e]; exact h1
    · exact RepLs.sq t c h
theorem items_lt : ∀ {dss : List (List D)} {css : List ZN.CS} {i : Nat}, RepLs K F dss css → i < minLen dss → ∃ us : List V, css.map (fun c => c.xs[i]?) = us.map some
  | _, _, i, .nil, h => absurd h (Nat.not_lt_zero _)
  | _, _, i, .cons (dss := []) h1 h2 .nil, h => by
    rename_i ds c
    have hl : i < c.xs.length := by rw [← h2.length]; exact h
    exact ⟨[c.xs[i]], by rw [List.map_cons, List.getElem?_eq_getElem hl]; rfl⟩
  | _, _, i, .cons (dss := d2 :: r) (css := css) (c := c) h1 h2 t, h => by
    unfold minLen at h
    obtain ⟨us, e⟩ := items_lt t (Nat.lt_of_lt_of_le h (Nat.min_le_right _ _))
    have hl : i < c.xs.length := by rw [← h2.length]; exact Nat.lt_of_lt_of_le h (Nat.min_le_left _ _)
    exact ⟨c.xs[i] :: us, by rw [List.map_cons, e, List.getElem?_eq_getElem hl]; rfl⟩
theorem items_ge : ∀ {dss : List (List D)} {css : List ZN.CS} {i : Nat}, RepLs K F dss css → dss ≠ [] → minLen dss ≤ i → ∃ c ∈ css, c.xs[i]? = none
  | _, _, i, .nil, h, _ => absurd rfl h
  | _, _, i, .cons (dss := []) (c := c) h1 h2 .nil, _, h => by
    exact ⟨c, List.mem_cons_self, List.getElem?_eq_none (by rw [← h2.length]; exact h)⟩
  | _, _, i, .cons (ds := ds) (dss := d2 :: r) (css := css) (c := c) h1 h2 t, _, h => by
    unfold minLen at h
    by_cases q : ds.length ≤ i
    · exact ⟨c, List.mem_cons_self, List.getElem?_eq_none (by rw [← h2.length]; exact q)⟩
    · obtain ⟨c', hc, e⟩ := items_ge t (by simp) (i := i) (by omega)
      exact ⟨c', List.mem_cons_of_mem _ hc, e⟩
theorem row_rep : ∀ {dss : List (List D)} {css : List ZN.CS} {i : Nat} {us : List V}, RepLs K F dss css → css.map (fun c => c.xs[i]?) = us.map some → RepL K F (rowAt dss i) us
  | _, _, i, us, .nil, h => by
    cases us with
    | nil => exact .nil
    | cons _ _ => simp at h
  | _, _, i, us, .cons (ds := ds) (c := c) h1 h2 t, h => by
    cases us with
    | nil => simp at h
    | cons u us =>
      simp only [List.map_cons, List.cons.injEq] at h
      obtain ⟨d, e, r⟩ := h2.get' h.1
      refine .cons ?_ (row_rep t h.2)
      show Rep K F (ds.getD i .non) u
      rw [List.getD_eq_getElem?_getD, e]
      exact r
end
section
variable {X : Cx} {B : Base3} {K : PySem.W.Frag}
theorem wk_zipN {F0 : Hp} {dss : List (List D)} {css : List ZN.CS} (r : RepLs K F0 dss css) (hn : dss ≠ []) : Wk K B (ZN.ItzN K css) (zipN dss) F0 := by
  refine ⟨fun pn F H σ E G i S s h => ?_, fun pn F H σ E G i x H' S s h y => ?_, fun pn F H σ E G i S s h => ?_⟩
  · rw [zipN_len] at h
    exact ⟨fun c hc => sqK_same S.w.sub (sqK_same s (r.sq c hc)), items_lt r h⟩
  · rw [zipN_len] at h
    obtain ⟨T, us, rfl, nT, rfl, q⟩ := y
    obtain ⟨S2, s2⟩ := S.newF (o := .tup us) nT
    exact ⟨_, S2, s2, _, zipN_get h, .tup upd_same (RepL.mono (s.trans s2) _ _ (row_rep r q))⟩
  · rw [zipN_len] at h
    exact ⟨fun c hc => sqK_same S.w.sub (sqK_same s (r.sq c hc)), items_ge r hn h⟩
def dZipN (ta : DA) : DI := fun E G k => ta E G fun ds E1 G1 => ∃ dss, seqsOf ds = some dss ∧ ZN.N234 dss.length ∧ k (zipN dss) E1 G1
theorem li_zipN {elts : List Expr} {kk : Nat} {tpos p pos : Pos} {e : Expr} {es : List Expr} {ta : DA} (hg : Gl X "zip") (hm : X.mg "zip" = none) (ha : LA X B (e :: es) ta)
    (hs : starEach (e :: es) X.env = (false, eval e X.env) :: starEach es X.env := by rfl) (hpl : (backTo pos (starEach es X.env)).any (·.1) = false := by rfl) :
    LI X B (.Tuple elts kk tpos) (.Call (.Name "zip" p) (e :: es) [] pos) (dZipN ta) :=
  ⟨pi_imp (ZN.pi_zipN hg hm ha.pa hs hpl) fun σ H R ⟨pn, F, E, G, k, S, h, hk⟩ => ⟨pn, F, E, G, _, S, h, fun ds E1 G1 ⟨dss, e, hn, h1⟩ vs F1 H1 S1 s1 r1 => by
    obtain ⟨css, ev, rl⟩ := css_of e r1
    refine ⟨css, ev, by rw [← rl.length]; exact hn, fun c hc => sqK_same S1.w.sub (rl.sq c hc), hk _ _ _ h1 _ F1 H1 S1 s1 (wk_zipN rl fun z => ?_)⟩
    rw [z] at hn
    rcases hn with q | q | q <;> cases q⟩⟩
end
end L3

set_option Elab.async false
set_option maxRecDepth 100000
set_option maxHeartbeats 4000000
/-! XS: an own exception over a built-in one whose __init__ says super().__init__(text) and then self.f = v: made, and raised. -/
namespace XS
open PySem PySem.W PySem.Calls PyProof.Rows PySem.HandSPX Builtin Builtin.ObjectAttr
/-- what is known of the built-in class B, whose __new__ is L's -/
structure EBX (B L newId initId : String) (bm : List Value) : Prop where
  ends : newId.endsWith ".__new__" = true
  owner : newId.dropRight 8 = L
  entry : entryFor table newId = some Builtin.«BaseException.__new__»
  canon : Manifest.canonical newId = Manifest.canonical "BaseException.__new__"
  quiet : newId.startsWith "lifetime." = false
  newSplit : splitId newId = some (L, "__new__")
  newKind : builtinKind newId = some .builtinFn
  newRow : Manifest.signature? newId = some ⟨.any, L, L, .cls, [⟨"args", .varPos, false⟩, ⟨"kwargs", .varKw, false⟩]⟩
  starL : (L != "*") = true
  hasL : bm.contains (.type L) = true
  noAttr : bm.contains (.type "AttributeError") = false
  noName : bm.contains (.type "NameError") = false
  init : Slot B "__init__" initId
  initEntry : entryFor table initId = some Builtin.«BaseException.__init__»
  initKind : builtinKind initId = some .slot
  initRow : Manifest.signature? initId = some ⟨.positional, "*", B, .self, [⟨"args", .varPos, false⟩]⟩
  noStar : (B != "*") = true
structure EBE (B newId initId : String) (bm : List Value) : Prop where
  ex : ∃ L, EBX B L newId initId bm
theorem EBE.of {B newId initId : String} {bm : List Value} (F : ExcBaseFacts B newId initId bm) : EBE B newId initId bm :=
  ⟨B, F.ends, F.owner, F.entry, F.canon, F.quiet, F.newSplit, F.newKind, F.newRow, F.noStar, F.hasB, F.noAttr, F.noName, F.init, F.initEntry, F.initKind, F.initRow, F.noStar⟩
/-! ### such a class is called: the __new__ that stands with L, then the own __init__ -/
section
variable {M : Model} {prog : Program} {w : World} {A : Around} {E : Value → Shared → Prop} {R : Result → Shared → Prop} {hp : Heap} {gs : Array GenState} {dr : Drawn} {tk : Nat} {os : OsState}
variable {nm q : Str} {C N : Addr} {bs bm bmB : List Value} {hdct : Bool} {sn : List Str} {sub : List Value} {ab : Bool} {col : Option Bool} {dd : Option Addr} {k0 k1 k2 k3 k5 : Option Value} {B L newId i : String}
abbrev Alt (bm bmB : List Value) : Prop := ∀ X : String, bm.contains (.type X) = bmB.contains (.type X)
theorem Alt.has {bm bmB : List Value} (z : Alt bm bmB) {x : Value} {X : String} {b : Bool} (e : bmB.contains (.type X) = b) (n : (Value.type X == x) = false) : (x :: bm).contains (.type X) = b := by
  rw [List.contains_cons, n, z, e, Bool.false_or]
end
section
variable {prog : Program} {w : World} {A : Around} {E : Value → Shared → Prop} {R : Result → Shared → Prop} {K : Frag} {C fI : Addr} {B i newId : String} {bmB : List Value} {f : Str}
variable {h : Heap} {g : Array GenState} {d : Drawn} {t : Nat} {os : OsState}
end
section
variable {prog : Program} {w : World} {A : Around} {E : Value → Shared → Prop} {R : Result → Shared → Prop} {s : Shared} {K : Frag} {C fI : Addr} {B i newId : String} {bmB : List Value} {f : Str} {mg mb : Str → Option Value}
end
end XS
namespace XS
open PySem PySem.Spec PyProof.Rows L2
section
variable {X : Cx} {C fI : Addr} {B i newId : String} {bmB : List Value} {f : Str}
end
end XS

set_option Elab.async false
set_option maxRecDepth 100000
set_option maxHeartbeats 4000000
/-! XT: try with several except clauses, each with or without a name. -/
namespace XT
open PySem PySem.Spec PyProof.Rows L2
/-- a clause: the class, the slot of its name, what its suite makes -/
abbrev Cl := Value × Option Nat × (Addr → Value → Option Addr → TS)
section
variable {X : Cx} {body : List Stmt} {h₀ : ExceptHandler} {hds : List ExceptHandler} {l : List Cl} {pos : Pos} {tb : WX → TS} {Wout : WX}
end
end XT

set_option Elab.async false
set_option maxRecDepth 100000
set_option maxHeartbeats 4000000
/-! L3, part z: exceptions: raise, try, methods and new instances that may raise. -/
namespace L3
open PySem PySem.Spec PyProof.Rows L2
/-! ### a wider base -/
section
variable {K : PySem.W.Frag} {B : Base3} {pn pn0 : Pend} {F F0 H H0 : Hp} {σ σ0 : L2.St} {E E0 : Env3} {G G0 : Reg}
end
section
variable {X : Cx} {B : Base3}
end
end L3

set_option Elab.async false
set_option maxRecDepth 100000
set_option maxHeartbeats 4000000
/-! L3, part z2: try with except clauses; the field of a caught exception. -/
namespace L3
open PySem PySem.Spec PyProof.Rows L2
section
variable {X : Cx} {B : Base3}
end
end L3

set_option Elab.async false
set_option maxRecDepth 100000
set_option maxHeartbeats 4000000
/-! XL: a lambda handed to a def, its table told outright: the heap behind the making is the one ahead of it, or that with one more code object. -/
namespace XL
open PySem PySem.Spec PyProof.Rows L2 LamX
/-- the heap behind the making; c': the lambda's code object -/
inductive Grown (H : Hp) (P : Addr) (q : Str) (ps : Array Value) (c' : Addr) : Hp → Prop
  | same : H c' = some (CodeO c' q) → Grown H P q ps c' H
  | more {ms : Array Value} : H c' = none → TriplesOk (ps ++ ms).toList → (∀ (pos : Pos) (cv : Value), codeAmong pos (ps ++ ms).toList = some cv → codeAmong pos ps.toList = some cv ∨ cv = .ref c') → Grown H P q ps c' (upd (upd H P (.tbl (ps ++ ms))) c' (CodeO c' q))
theorem Grown.code {H H1 : Hp} {P c' : Addr} {q : Str} {ps : Array Value} (g : Grown H P q ps c' H1) : H1 c' = some (CodeO c' q) := by
  cases g with
  | same h => exact h
  | more _ _ _ => exact upd_same
section
variable {X : Cx} {pins : List (Addr × Obj)} {σ : L2.St} {H : Hp} {s : Shared}
end
section
variable {X : Cx}
end
end XL

set_option Elab.async false
set_option maxRecDepth 100000
set_option maxHeartbeats 4000000
/-! XG: promises of defs that are called where no repr is under way (A.guards = []); the end of a law's row over such a promise, with tables of code objects. -/
namespace XG
open PySem PySem.Spec PyProof.Rows L2 LamX
/-- FnOk, where no repr is under way -/
structure FnG (P : Program) (w : World) (K : PySem.W.Frag) (mg : Str → Option Value) (base : Heap) (CX : CXT) (k : Nat) (f : Addr) (fd : FuncData) (ps : List Str) (sp : Sp) : Prop where
  len : ∀ vs H Q E, sp vs H Q E → vs.length = ps.length
  run : ∀ (A : Around) (outer : List Env) (s : Shared) (H : Hp) (args : Args) (us : List Value) (vs : List V) (Q : VK) (E : XK), A.guards = some [] → Room k A → Env0 P w K mg base A outer s H → BindsTo s fd args (ps.zip us) → Vals vs us → sp vs H Q E →
    codeAny (model P w) A (.call (.ref f) args) (CR CX outer P w H s Q E) s
theorem FnG.of {P : Program} {w : World} {K : PySem.W.Frag} {mg : Str → Option Value} {base : Heap} {CX : CXT} {k : Nat} {f : Addr} {fd : FuncData} {ps : List Str} {sp : Sp} (F : FnOk P w K mg base CX k f fd ps sp) : FnG P w K mg base CX k f fd ps sp :=
  ⟨F.len, fun A outer s H args us vs Q E _ hr e0 hb r h => F.run A outer s H args us vs Q E hr e0 hb r h⟩
section
variable {X : Cx} {CX : CXT} {k : Nat} {f : Addr} {fd : FuncData} {ps : List Str} {sp : Sp} {E : L2.St → XK} {x : Str} {p pos : Pos} {e : Expr} {es : List Expr} {t : TA}
end
section
variable {P : Program} {w : World} {K : PySem.W.Frag} {mg mb : Str → Option Value} {CX : CXT} {k : Nat} {fa a : Addr} {cs : List (Addr × Addr)} {fd : FuncData} {x : Str} {sp : Sp} {s₁ : Shared} {vs : List Value} {ns : List Int}
end
end XG

set_option Elab.async false
set_option maxRecDepth 100000
set_option maxHeartbeats 4000000
/-! L3, part g2: defs called where no repr is under way; repr of nested data; exceptions' words; lambdas. -/
namespace L3
open PySem PySem.Spec PyProof.Rows L2
section
variable {X : Cx} {B : Base3}
end
end L3

set_option Elab.async false
set_option maxRecDepth 100000
set_option maxHeartbeats 4000000
/-! L3, part g3: defs called where no repr is under way. -/
namespace L3
open PySem PySem.Spec PyProof.Rows L2 LamX
structure CalG (P : Program) (w : World) (K : PySem.W.Frag) (mg : Str → Option Value) (base : Heap) (x : Str) (k : Nat) (ps : List Str) (sp : DSp) : Prop where
  ex : ∃ (f : Addr) (fd : FuncData), XG.FnG P w K mg base (L2.CX P w) k f fd ps (LSp K sp) ∧ mg x = some (.ref f) ∧ PySem.W.keepIn K (.ref f) = true ∧ Binds K fd ps [] ∧ ∃ oc od osl, K.lookup f = some ⟨oc, od, .func fd, osl⟩
/-- what the head tells of a def whose code object stands at c -/
structure DefAtC (K : PySem.W.Frag) (mg : Str → Option Value) (x : Str) (st : Stmt) (c : Addr) : Prop where
  ex : ∃ (f : Addr) (oc : Value) (od an : Option Addr) (osl : Array (Option Value)) (kV doc pm ct : Value), mg x = some (.ref f) ∧
    K.lookup f = some ⟨oc, od, .func (PySem.W.fnOf x x (defArgs st) (defBody st) (defScope st) .none kV doc pm an (.ref c) ct), osl⟩ ∧ PySem.W.codeIn K (.ref c) x = true ∧ PySem.W.keepIn K (.ref f) = true
theorem DefAtC.plain {K : PySem.W.Frag} {mg : Str → Option Value} {x : Str} {st : Stmt} {c : Addr} (d : DefAtC K mg x st c) : DefAt K mg x st := by
  obtain ⟨f, oc, od, an, osl, kV, doc, pm, ct, h⟩ := d.ex
  exact ⟨f, oc, od, an, osl, kV, doc, pm, .ref c, ct, h⟩
section
variable {P : Program} {w : World} {K : PySem.W.Frag} {mg : Str → Option Value} {base : Heap}
theorem Cal3.g {x : Str} {k : Nat} {ps : List Str} {sp : DSp} (c : Cal3 P w K mg base x k ps sp) : CalG P w K mg base x k ps sp := by
  obtain ⟨f, fd, F, r⟩ := c.ex
  exact ⟨f, fd, XG.FnG.of F, r⟩
end
section
variable {X : Cx} {B : Base3}
end
end L3

set_option Elab.async false
set_option maxRecDepth 100000
set_option maxHeartbeats 4000000
/-! L3, lambdas: a def that tells the word of the error of a call; a lambda handed to it. -/
namespace L3
open PySem PySem.Spec PyProof.Rows L2 LamX
/-- a constant that such a def answers with -/
inductive WC where
  | s (x : Str) | b (b : Bool)
def WC.c : WC → Const
  | .s y => .str y
  | .b q => .bool q
def WC.d : WC → D
  | .s y => .str y
  | .b q => .bl q
def WC.v : WC → V
  | .s y => .str y
  | .b q => .bl q
theorem WC.rep {K : PySem.W.Frag} {F : Hp} (w : WC) : Rep K F w.d w.v := by
  cases w with
  | s x => exact .str x
  | b b => exact .bl b
theorem After.refl {K : PySem.W.Frag} {F H : Hp} {G : Reg} (w : Wld K F H G) : After K F H G F H G := ⟨w, Same.refl F, fun _ _ h _ => h, fun _ _ _ _ n => n, fun _ h => .inl h, fun _ h => h⟩
/-! ### the clauses -/
section
variable {X : Cx}
end
end L3

set_option Elab.async false
set_option maxRecDepth 100000
set_option maxHeartbeats 4000000
/-! L3, lambdas: the def of words keeps its promise; a lambda handed to it. -/
namespace L3
open PySem PySem.Spec PyProof.Rows L2 LamX
section
variable {X : Cx}
end
end L3

set_option Elab.async false
set_option maxRecDepth 100000
set_option maxHeartbeats 4000000
/-! L3, lambdas: THE RULE for x(lambda: body). -/
namespace L3
open PySem PySem.Spec PyProof.Rows L2 LamX
/-- what a lambda sees of the slots -/
def vals3 (E : Env3) : Env3 := E.map fun s => match s with
  | .val d => .val d
  | _ => .no
section
variable {K : PySem.W.Frag} {B : Base3} {pn : Pend} {F H : Hp} {σ : L2.St} {E : Env3} {G : Reg}
theorem vals3_some {i : Nat} {s : Sl3} (h : (vals3 E)[i]? = some s) : (∃ d, s = .val d ∧ E[i]? = some (.val d)) ∨ s = .no := by
  unfold vals3 at h
  rw [List.getElem?_map] at h
  cases q : E[i]? with
  | none => rw [q] at h; cases h
  | some t =>
    rw [q] at h
    cases t with
    | val d => exact .inl ⟨d, (Option.some.inj h).symm, rfl⟩
    | no => exact .inr (Option.some.inj h).symm
    | own ds => exact .inr (Option.some.inj h).symm
    | ownD ds => exact .inr (Option.some.inj h).symm
    | new nm fs => exact .inr (Option.some.inj h).symm
/-- the plain slots, as a frame of its own -/
theorem St3.fresh (S : St3 K B pn F H σ E G) : St3 K ⟨F, H, G.map (·.1), 0⟩ [] F H σ (vals3 E) G :=
  ⟨S.w, Same.refl F, fun _ _ h _ => h, fun _ _ _ _ n => n, fun _ h => .inl h, fun _ h => h, by unfold vals3; rw [List.length_map]; exact S.len,
    fun i d h => (by
      rcases vals3_some h with ⟨d', e, q⟩ | e
      · cases e; exact S.slot i _ q
      · cases e),
    fun i s d h ho => (by rcases vals3_some h with ⟨d', e, q⟩ | e <;> subst e <;> cases ho),
    fun i j s t d e a h _ ho => (by rcases vals3_some h with ⟨d', e, q⟩ | e <;> subst e <;> cases ho),
    fun a o h => (nomatch h), ⟨List.nodup_nil, fun p h => nomatch h⟩,
    fun nm fs h => (by rcases vals3_some h with ⟨d', e, q⟩ | e <;> cases e)⟩
end
/-- the lambda's reading, where it is called -/
def tL (K : PySem.W.Frag) (te : DW → DE) : XK → TE := fun E σ H Q => ∃ (F : Hp) (V : Env3) (G : Reg) (k : Res → Reg → Prop) (kx : Exc3 → Reg → Prop), St3 K ⟨F, H, G.map (·.1), 0⟩ [] F H σ V G ∧
  te (fun x _ G' => kx x G') V G (fun r E' G' => ∃ r', r.out E' = some r' ∧ k r' G') ∧
  (∀ r G', k r G' → ∀ v F' H', After K F H G F' H' G' → RetV K H F' H' G' r v → Q v H') ∧ ∀ x G', kx x G' → ∀ cls dd F' H', After K F H G F' H' G' → RepX K F' x cls dd → E cls dd H'
section
variable {X : Cx} {B : Base3}
end
end L3

set_option Elab.async false
set_option maxRecDepth 100000
set_option maxHeartbeats 4000000
/-! L3: the end of a law's row whose defs are called where no repr is under way, with the tables of code objects. -/
namespace L3
open PySem PySem.Spec PyProof.Rows L2 LamX
end L3

set_option Elab.async false
set_option maxRecDepth 100000
set_option maxHeartbeats 4000000
/-! L3: isinstance of any plain value and any class; dicts as constants. -/
namespace L3
open PySem PySem.Spec PyProof.Rows L2
section
variable {X : Cx} {B : Base3}
theorem all_cons {P : Str → Prop} {x : Str} {l : List Str} (h : P x) (t : ∀ n ∈ l, P n) : ∀ n ∈ x :: l, P n := fun n hn => by
  rcases List.mem_cons.mp hn with e | hn
  · rw [e]; exact h
  · exact t n hn
/-! ### dicts as constants -/
/-- a value just made is locked -/
def tLk (t : TE) : TE := fun σ H Q => t σ H fun v H1 => ∃ a u, v = .ref a ∧ H1 a = some u ∧ Mut (some u) ∧ ∀ od, Q v (upd H1 a (.frz od u))
theorem pe_lk {e : Expr} {t : TE} (h : PE X e t) : PE X e (tLk t) := by
  refine ⟨fun pins s σ H Q I hw => ?_⟩
  refine thn (h.run pins s σ _ _ I hw) fun v s1 ⟨x, H1, I1, r, a, u, e1, e2, mu, q⟩ => ?_
  subst e1
  obtain ⟨od, I2⟩ := I1.lock e2 mu
  exact ⟨.ref a, _, I2, r, q od⟩
theorem upd_upd {H : Hp} {p : Addr} {o u : HO} : upd (upd H p o) p u = upd H p u := by
  funext z
  unfold upd
  by_cases h : z = p
  · rw [if_pos h, if_pos h]
  · rw [if_neg h, if_neg h, if_neg h]
end
end L3

set_option Elab.async false
set_option maxRecDepth 100000
set_option maxHeartbeats 4000000
/-! L4: readings that are reckoned: for each plain reading a function, and that it tells the reading. -/
namespace L3
open PySem PySem.Spec PyProof.Rows L2
inductive CR (α : Type) where
  | ok (a : α) (E : Env3) | ex (x : Exc3) (E : Env3) | no
inductive CF where
  | nx (E : Env3) | rt (r : Res) | bk (E : Env3) | ct (E : Env3) | ex (x : Exc3) (E : Env3) | no
/-- what a def gives: a value, an exception, or nothing that is known -/
inductive C1 where
  | ok (r : Res) | ex (x : Exc3) | no
abbrev CE := Env3 → CR Res
abbrev CT := Env3 → CR Bool
abbrev CA := Env3 → CR (List D)
abbrev CP := Env3 → CR (Option Int)
abbrev CS := Env3 → CF
@[inline] def CR.bind {α β : Type} (c : CR α) (f : α → Env3 → CR β) : CR β := match c with
  | .ok a E => f a E
  | .ex x E => .ex x E
  | .no => .no
def CR.sat {α : Type} (dw : DW) (G : Reg) (c : CR α) (k : α → Env3 → Reg → Prop) : Prop := match c with
  | .ok a E => k a E G
  | .ex x E => dw x E G
  | .no => False
def CF.sat (dw : DW) (G : Reg) (c : CF) (D : Ends3) : Prop := match c with
  | .nx E => D.nx E G
  | .rt r => D.rt r G
  | .bk E => D.bk E G
  | .ct E => D.ct E G
  | .ex x E => dw x E G
  | .no => False
def SE (dw : DW) (G : Reg) (t : DE) (c : CE) : Prop := ∀ E k, (c E).sat dw G k → t E G k
def ST (dw : DW) (G : Reg) (t : DT) (c : CT) : Prop := ∀ E k, (c E).sat dw G k → t E G k
def SA (dw : DW) (G : Reg) (t : DA) (c : CA) : Prop := ∀ E k, (c E).sat dw G k → t E G k
def SP (dw : DW) (G : Reg) (t : DO) (c : CP) : Prop := ∀ E k, (c E).sat dw G k → t E G k
def SI (dw : DW) (G : Reg) (t : DI) (c : CA) : Prop := ∀ E k, (c E).sat dw G k → t E G k
def SS (dw : DW) (G : Reg) (t : DSt) (c : CS) : Prop := ∀ D E, (c E).sat dw G D → t D E G
theorem CR.sat_bind {α β : Type} {dw : DW} {G : Reg} {c : CR α} {f : α → Env3 → CR β} {k : β → Env3 → Reg → Prop} (h : (c.bind f).sat dw G k) : c.sat dw G fun a E1 G1 => (f a E1).sat dw G1 k := by
  cases c with
  | ok a E => exact h
  | ex x E => exact h
  | no => exact h
theorem CR.sat_mono {α : Type} {dw : DW} {G : Reg} {c : CR α} {k k' : α → Env3 → Reg → Prop} (h : c.sat dw G k) (hk : ∀ a E, k a E G → k' a E G) : c.sat dw G k' := by
  cases c with
  | ok a E => exact hk a E h
  | ex x E => exact h
  | no => exact h
section
variable {dw : DW} {G : Reg}
/-- first one reading, then what depends on it -/
theorem SE.then {t : DE} {c : CE} (s : SE dw G t c) {α : Type} {f : Res → Env3 → CR α} {E : Env3} {k : α → Env3 → Reg → Prop} {k' : DK} (h : ((c E).bind f).sat dw G k) (hk : ∀ r E1, (f r E1).sat dw G k → k' r E1 G) : t E G k' :=
  s E k' (CR.sat_mono (CR.sat_bind h) fun r E1 h1 => hk r E1 h1)
theorem SA.then {t : DA} {c : CA} (s : SA dw G t c) {α : Type} {f : List D → Env3 → CR α} {E : Env3} {k : α → Env3 → Reg → Prop} {k' : List D → Env3 → Reg → Prop} (h : ((c E).bind f).sat dw G k) (hk : ∀ r E1, (f r E1).sat dw G k → k' r E1 G) : t E G k' :=
  s E k' (CR.sat_mono (CR.sat_bind h) fun r E1 h1 => hk r E1 h1)
theorem SI.then {t : DI} {c : CA} (s : SI dw G t c) {α : Type} {f : List D → Env3 → CR α} {E : Env3} {k : α → Env3 → Reg → Prop} {k' : List D → Env3 → Reg → Prop} (h : ((c E).bind f).sat dw G k) (hk : ∀ r E1, (f r E1).sat dw G k → k' r E1 G) : t E G k' :=
  s E k' (CR.sat_mono (CR.sat_bind h) fun r E1 h1 => hk r E1 h1)
theorem ST.then {t : DT} {c : CT} (s : ST dw G t c) {α : Type} {f : Bool → Env3 → CR α} {E : Env3} {k : α → Env3 → Reg → Prop} {k' : Bool → Env3 → Reg → Prop} (h : ((c E).bind f).sat dw G k) (hk : ∀ r E1, (f r E1).sat dw G k → k' r E1 G) : t E G k' :=
  s E k' (CR.sat_mono (CR.sat_bind h) fun r E1 h1 => hk r E1 h1)
theorem SP.then {t : DO} {c : CP} (s : SP dw G t c) {α : Type} {f : Option Int → Env3 → CR α} {E : Env3} {k : α → Env3 → Reg → Prop} {k' : Option Int → Env3 → Reg → Prop} (h : ((c E).bind f).sat dw G k) (hk : ∀ r E1, (f r E1).sat dw G k → k' r E1 G) : t E G k' :=
  s E k' (CR.sat_mono (CR.sat_bind h) fun r E1 h1 => hk r E1 h1)
/-- an answer that may lack -/
def CR.of {α : Type} (o : Option α) (E : Env3) : CR α := match o with
  | some a => .ok a E
  | none => .no
def isI : Res → Option Int
  | .val (.int i) => some i
  | _ => none
def C1.at (c : C1) (E : Env3) : CR Res := match c with
  | .ok r => .ok r E
  | .ex x => .ex x E
  | .no => .no
end
end L3

set_option Elab.async false
set_option maxRecDepth 100000
set_option maxHeartbeats 4000000
/-! L4, part b: the operators and built-ins, reckoned. -/
namespace L3
open PySem PySem.Spec PyProof.Rows L2
theorem pos_of {ns : List Int} (h : (!ns.isEmpty) = true) : 0 < ns.length := by
  cases ns with
  | nil => cases h
  | cons x r => simp
end L3

set_option Elab.async false
set_option maxRecDepth 100000
set_option maxHeartbeats 4000000
/-! L4, part c: statements, loops, comprehensions, defs, reckoned. -/
namespace L3
open PySem PySem.Spec PyProof.Rows L2
section
variable {dw : DW} {G : Reg}
instance (n : Nat) : Decidable (ZN.N234 n) := by unfold ZN.N234; infer_instance
/-- a reading that leaves slot i as it is -/
def Keeps (i : Nat) (c : CE) : Prop := ∀ E d, E[i]? = some (Sl3.val d) → match c E with
  | .ok _ E1 => E1[i]? = some (Sl3.val d)
  | _ => True
/-! what keeps the plain slots -/
def KA {α : Type} (c : Env3 → CR α) : Prop := ∀ (E E1 : Env3) (a : α) (i : Nat) (d : D), c E = .ok a E1 → E[i]? = some (Sl3.val d) → E1[i]? = some (Sl3.val d)
theorem KA.at {a : CE} (h : KA a) (i : Nat) : Keeps i a := fun E d e => by
  cases q : a E with
  | ok r E1 => exact h E E1 r i d q e
  | ex x E1 => exact True.intro
  | no => exact True.intro
end
end L3

set_option Elab.async false
set_option maxRecDepth 100000
set_option maxHeartbeats 4000000
/-! L4, part d: isinstance, repr, ranges as lists, lambdas, reckoned. -/
namespace L3
open PySem PySem.Spec PyProof.Rows L2
section
variable {dw : DW} {G : Reg}
/-! ### what a statement's reckoning shows -/
def isTru : CF → Bool
  | .rt (.val (.bl true)) => true
  | _ => false
theorem tru_of {c : CF} (h : isTru c = true) : c = .rt (.val (.bl true)) := by
  unfold isTru at h
  split at h
  · rfl
  · cases h
theorem SS.tru {t : DSt} {c : CS} (s : SS dw G t c) {E : Env3} {Dn : Ends3} (h : isTru (c E) = true) (hk : Dn.rt (.val (.bl true)) G) : t Dn E G := s Dn E (by rw [tru_of h]; exact hk)
end
end L3
namespace L3
open PySem PySem.Spec PyProof.Rows L2
/-! ### tables of code objects that a promise wants -/
def HP : List (Addr × Str) → Reg → Prop
  | [], _ => True
  | p :: r, G => (p.1, encT p.2) ∈ G ∧ HP r G
end L3

set_option Elab.async false
set_option maxRecDepth 100000
set_option maxHeartbeats 4000000
/-! L5, the end's facts: exceptions' classes, isinstance, defs where no repr is under way. -/
namespace L3
open PySem PySem.Spec PyProof.Rows L2
section
variable {K : PySem.W.Frag} {mg : Str → Option Value}
end
end L3

set_option Elab.async false
set_option maxRecDepth 100000
set_option maxHeartbeats 4000000
/-! L5: calls without arguments, one of two readings, slots forgotten. -/
namespace L3
open PySem PySem.Spec PyProof.Rows L2
section
variable {X : Cx} {B : Base3}
end
section
open LamX
variable {X : Cx} {B : Base3}
end
end L3

set_option Elab.async false
set_option maxRecDepth 100000
set_option maxHeartbeats 4000000
/-! L6: tools for what is reckoned of values that are not written. -/
namespace L3
open PySem PySem.Spec PyProof.Rows L2
theorem HP.cons {ps : List (Addr × Str)} {G : Reg} {p : Addr × List D} (h : HP ps G) : HP ps (p :: G) := by
  induction ps with
  | nil => trivial
  | cons a r ih => exact ⟨List.mem_cons_of_mem _ h.1, ih h.2⟩
theorem HP.self : ∀ {ps qs : List (Addr × Str)}, (∀ p ∈ ps, p ∈ qs) → HP ps (qs.map fun p => (p.1, encT p.2))
  | [], _, _ => trivial
  | p :: r, qs, h => ⟨List.mem_map.mpr ⟨p, h p List.mem_cons_self, rfl⟩, HP.self fun x hx => h x (List.mem_cons_of_mem _ hx)⟩
mutual
def D.beq : D → D → Bool
  | .non, .non => true
  | .bl a, .bl b => decide (a = b)
  | .int a, .int b => decide (a = b)
  | .str a, .str b => decide (a = b)
  | .ref a, .ref b => decide (a = b)
  | .ty a, .ty b => decide (a = b)
  | .tup a, .tup b => D.beqL a b
  | .lst a, .lst b => D.beqL a b
  | .scr a, .scr b => decide (a = b)
  | .obj n a, .obj m b => decide (n = m) && D.beqL a b
  | .cls a, .cls b => decide (a = b)
  | .tag a, .tag b => decide (a = b)
  | _, _ => false
def D.beqL : List D → List D → Bool
  | [], [] => true
  | a :: r, b :: s => D.beq a b && D.beqL r s
  | _, _ => false
end
/-- it gives that very value -/
def C1.gives (c : C1) (d : D) : Bool := match c with
  | .ok (.val e) => D.beq e d
  | _ => false
theorem spots_le {m n : Int} (h0 : 1 ≤ m) (hn : True) : 0 ≤ (if (if n < m then n else m) > 1 then (if n < m then n else m) else 1) ∧ (if (if n < m then n else m) > 1 then (if n < m then n else m) else 1) ≤ m := by
  by_cases h1 : n < m
  · simp only [if_pos h1]
    split <;> omega
  · simp only [if_neg h1]
    split <;> omega
section
variable {X : Cx} {B : Base3}
end
end L3

set_option Elab.async false
set_option maxRecDepth 100000
set_option maxHeartbeats 4000000
/-! ZE: a dict is no text: == of both. -/
namespace PySem.SeqAt
open PySem Builtin
variable {A : Around} {s : Shared}
end PySem.SeqAt
namespace L3
open PySem PySem.Spec PyProof.Rows L2
section
variable {X : Cx} {B : Base3}
def isDc : D → Bool
  | .dcK _ _ => true
  | _ => false
end
end L3

set_option Elab.async false
set_option maxRecDepth 100000
set_option maxHeartbeats 4000000
/-! LQ: words of errors, told for reckoned calls -/
namespace L3
open PySem PySem.Spec PyProof.Rows L2
end L3

set_option Elab.async false
set_option maxRecDepth 100000
set_option maxHeartbeats 4000000
/-! GN: next(generator expression, a default): what stands before the first yield. -/
namespace GN
open PySem PySem.Spec PyProof.Rows L2
section
variable {prog : Program} {w : World} {A : Around} {elt target iter c : Expr} {scope : Scope} {pos : Pos} {I : Addr} {cenv : Env} {St : Nat → Shared → Prop} {Done : Shared → Prop} {Out : Value → Shared → Prop}
end
/-- the place of the first pair whose sides differ -/
def fd : List (Int × Int) → Option Nat
  | [] => none
  | p :: ps => if p.1 = p.2 then (fd ps).map (· + 1) else some 0
section
variable {prog : Program} {w : World} {scope : Scope} {xa xb xc : Str} {cenv : Env} {K0 : Shared} {e it C l : Addr} {items : Array Value} {ps : List (Int × Int)}
end
end GN

set_option Elab.async false
set_option maxRecDepth 100000
set_option maxHeartbeats 4000000
/-! GN2: next((a + 1 for a, (b, c) in enumerate(pairs) if b != c), None) over the layer's heap. -/
namespace GN
open PySem PySem.Spec PyProof.Rows L2 GxR
section
variable {X : Cx} {c P : Addr} {xa xb xc : Str} {scope : Scope} {e : Expr} {ta : TA} {k : Nat} {pn pe p1 p2 p3 p4 p5 q1 q2 q3 q4 q5 q6 gpos epos pos cp : Pos} {k1 k2 j1 j2 : Nat}
end
end GN

set_option Elab.async false
set_option maxRecDepth 100000
set_option maxHeartbeats 4000000
/-! L10: next((a + 1 for a, (b, c) in enumerate(pairs) if b != c), None), read over plain values. -/
namespace L3
open PySem PySem.Spec PyProof.Rows L2 LamX
section
variable {K : PySem.W.Frag} {F : Hp}
end
section
variable {X : Cx} {B : Base3}
end
end L3

set_option Elab.async false
set_option maxRecDepth 100000
set_option maxHeartbeats 4000000
/-! ZL: list(zip(..)) of lists and tuples. -/
namespace ZN
open PySem PySem.Spec PyProof.Rows L2
section
variable {prog : Program} {w : World} {A : Around} {E : Value → Shared → Prop} {s : Shared}
/-- a zip with all behind it, at the i-th turn; S: the list that is filled -/
def ZLst (S z TI TO : Nat) (cs : List Src) (i : Nat) (h : Heap) : Prop := IsTup h TI (cs.map fun c => .ref c.it) ∧ (∀ c ∈ cs, ItAt c.k h c.it c.a i) ∧
  ((IsZip h z TI TO .none ∧ ∃ ys : List Value, ys.length = cs.length ∧ IsTup h TO ys) ∨ ∃ (T : Nat) (f : Bool) (oT : Obj), IsZipHeld h z TI TO T f ∧ h.get? T = some oT ∧ T ≠ S ∧ T ≠ z ∧ T ∉ cs.map Src.it) ∧ ∃ o, h.get? TO = some o
theorem ZLst.frame {S z TI TO : Nat} {cs : List Src} {i : Nat} {h h' : Heap} (st : ZLst S z TI TO cs i h) (a1 : TI ≠ S) (a2 : TO ≠ S) (a3 : z ≠ S) (a4 : ∀ c ∈ cs, c.it ≠ S) (k : ∀ b o, b ≠ S → h.get? b = some o → h'.get? b = some o) : ZLst S z TI TO cs i h' := by
  obtain ⟨b1, b2, b3, oO, b4⟩ := st
  refine ⟨k _ _ a1 b1, fun c hc => (b2 c hc).over fun o e => k _ o (a4 c hc) e, ?_, oO, k _ _ a2 b4⟩
  rcases b3 with ⟨c1, ys, c2, c3⟩ | ⟨T, f, oT, c1, c2, c3, c4, c5⟩
  · exact .inl ⟨k _ _ a3 c1, ys, c2, k _ _ a2 c3⟩
  · exact .inr ⟨T, f, oT, k _ _ a3 c1, k _ _ c3 c2, c3, c4, c5⟩
/-- what has been handed out so far, each in a tuple of its own -/
def Rows (n0 : Nat) (S : Nat) (ts : List Nat) (rows : List (List Value)) (h : Heap) : Prop := ts.Nodup ∧ ts.length ≤ rows.length ∧ ∀ (j : Nat) (t : Nat), ts[j]? = some t → n0 ≤ t ∧ t ≠ S ∧ ∃ vs, rows[j]? = some vs ∧ IsTup h t vs
/-- what stands ahead of list(zip(..)) -/
structure Ahead (z TI TO n0 : Nat) (cs : List Src) (xs : Src → Array Value) (rows : List (List Value)) (h : Heap) : Prop where
  D : Apart z TI TO cs
  ne : cs ≠ []
  n : cs.length < 1000
  nz : n0 ≤ z
  nI : n0 ≤ TI
  nO : n0 ≤ TO
  ni : ∀ c ∈ cs, n0 ≤ c.it
  lo : ∀ c ∈ cs, c.a < n0
  sq : ∀ c ∈ cs, SqAt c.k h c.a (xs c)
  row : ∀ (i : Nat) (vs : List Value), rows[i]? = some vs → cs.map (fun c => (xs c)[i]?) = vs.map some
  last : ∃ c ∈ cs, (xs c)[rows.length]? = none
  hz : rows.length ≤ sizeLine
  zip : IsZip h z TI TO .none
  ti : IsTup h TI (cs.map fun c => .ref c.it)
  to : ∃ ys : List Value, ys.length = cs.length ∧ IsTup h TO ys
  it : ∀ c ∈ cs, ItAt c.k h c.it c.a 0
theorem Ahead.keep {z TI TO n0 : Nat} {cs : List Src} {xs : Src → Array Value} {rows : List (List Value)} {h h' : Heap} (a : Ahead z TI TO n0 cs xs rows h) (k : ∀ b o, h.get? b = some o → h'.get? b = some o) : Ahead z TI TO n0 cs xs rows h' :=
  ⟨a.D, a.ne, a.n, a.nz, a.nI, a.nO, a.ni, a.lo, fun c hc => (a.sq c hc).over fun o e => k _ o e, a.row, a.last, a.hz, k _ _ a.zip, k _ _ a.ti, let ⟨ys, e, q⟩ := a.to; ⟨ys, e, k _ _ q⟩, fun c hc => (a.it c hc).over fun o e => k _ o e⟩
theorem Ahead.st {S z TI TO n0 : Nat} {cs : List Src} {xs : Src → Array Value} {rows : List (List Value)} {h : Heap} (a : Ahead z TI TO n0 cs xs rows h) : ZLst S z TI TO cs 0 h :=
  ⟨a.ti, a.it, .inl ⟨a.zip, a.to⟩, let ⟨ys, _, q⟩ := a.to; ⟨_, q⟩⟩
end
end ZN

set_option Elab.async false
set_option maxRecDepth 100000
set_option maxHeartbeats 4000000
/-! ZL2: list(zip(..)) over the layer's heap. -/
namespace ZN
open PySem PySem.Spec PyProof.Rows L2
section
variable {X : Cx} {pins : List (Addr × Obj)} {σ : L2.St} {H H' : Hp} {s : Shared}
end
section
variable {X : Cx} {p p2 pos pos2 : Pos} {e : Expr} {es : List Expr} {ta : TA}
end
end ZN

set_option Elab.async false
set_option maxRecDepth 100000
set_option maxHeartbeats 4000000
/-! L11: list(zip(..)) over plain values. -/
namespace L3
open PySem PySem.Spec PyProof.Rows L2
section
inductive RepT (K : PySem.W.Frag) (F : Hp) : List (List D) → List (List V) → Prop
  | nil : RepT K F [] []
  | cons {d : List D} {r : List V} {ds : List (List D)} {rs : List (List V)} : RepL K F d r → RepT K F ds rs → RepT K F (d :: ds) (r :: rs)
theorem RepT.mono {K : PySem.W.Frag} {F F' : Hp} (e : Same F F') : ∀ {ds : List (List D)} {rs : List (List V)}, RepT K F ds rs → RepT K F' ds rs
  | _, _, .nil => .nil
  | _, _, .cons h t => .cons (RepL.mono e _ _ h) (RepT.mono e t)
theorem RepT.of {K : PySem.W.Frag} {F : Hp} : ∀ {ds : List (List D)} {rs : List (List V)}, ds.length = rs.length → (∀ (i : Nat) d r, ds[i]? = some d → rs[i]? = some r → RepL K F d r) → RepT K F ds rs
  | [], [], _, _ => .nil
  | [], _ :: _, h, _ => by cases h
  | _ :: _, [], h, _ => by cases h
  | d :: ds, r :: rs, h, g => .cons (g 0 d r rfl rfl) (RepT.of (by simpa using h) fun i d r h1 h2 => g (i + 1) d r (by simpa using h1) (by simpa using h2))
variable {K : PySem.W.Frag} {B : Base3} {pn : Pend} {σ : L2.St} {E : Env3} {G : Reg}
end
section
variable {X : Cx} {B : Base3} {K : PySem.W.Frag}
end
end L3

set_option Elab.async false
set_option maxRecDepth 100000
set_option maxHeartbeats 4000000
/-! L7: try with except clauses, reckoned. -/
namespace L3
open PySem PySem.Spec PyProof.Rows L2
section
variable {a : Addr} {x : Exc3} {o : Option Nat}
def hC (d : D) : Exc3 → Option Res := fun _ => some (.val d)
def hF (xt : List (Str × Str)) (f : Str) : Exc3 → Option Res := fun x => match x.2 with
  | some (g, d) => if f = g ∧ xt.contains (x.1, f) = true then some (.val d) else none
  | none => none
end
end L3

set_option Elab.async false
set_option maxRecDepth 100000
set_option maxHeartbeats 4000000
/-! L8: extend, pop, divmod. -/
namespace L3
open PySem PySem.Spec PyProof.Rows L2
section
variable {X : Cx} {B : Base3}
/-- a.extend(e), e a list that nothing else names -/
def dExt (i : Nat) (te : DE) : DE := fun E G k => (∃ ds, E[i]? = some (Sl3.own ds)) ∧ te E G fun r E1 G1 => ∃ es, r = .fr es ∧ ∃ ds, E1[i]? = some (Sl3.own ds) ∧ ds.length + es.length ≤ sizeLine ∧ k (.val .non) (E1.set i (Sl3.own (ds ++ es))) G1
theorem le_extend {i : Nat} {o e : Expr} {te : DE} {apos cpos : Pos} (ho : PE X o (tVar i)) (he : LE X B e te)
    (hbase : attributeBase o "extend" X.env (eval o X.env) = eval o X.env := by rfl)
    (hfew : ((backTo cpos (starEach (e :: []) X.env)).all (fun x => !x.1) && (backToKw cpos (keywordEach [] X.env)).all (fun x => x.1.isSome)
      && decide ((e :: []).length + ([] : List Keyword).length + (if ([] : List Keyword).isEmpty then 0 else 1) < 30)) = true := by rfl)
    (hline : (apos.endLine == cpos.line) = true := by rfl) (hs : starEach (e :: []) X.env = (false, eval e X.env) :: starEach [] X.env := by rfl) (hplain : (backTo cpos (starEach [] X.env)).any (·.1) = false := by rfl) :
    LE X B (.Call (.Attribute o "extend" apos) [e] [] cpos) (dExt i te) :=
  ⟨pe_imp (pe_bm PySem.F.plainAttrs_list PySem.F.slot_list_extend PySem.F.type_list_extend mt_extend ho (pa_cons he.pe pa_nil hs) hbase hfew hline hs hplain) fun σ H Q ⟨pn, F, E, G, k, S, ⟨⟨ds0, h0⟩, h⟩, hk⟩ => by
    obtain ⟨a, ha, f⟩ := S.ownL i ds0 h0
    obtain ⟨xs0, hx0, _⟩ := f.ex
    refine ⟨_, ha, .inl ⟨rfl, xs0, SqL.of hx0⟩, pn, F, E, G, _, S, h, fun r E1 G1 ⟨es, er, ds, hds, hz, h1⟩ v F1 H1 S1 s1 r1 => ?_⟩
    subst er
    obtain ⟨b, rfl, fb, nob⟩ := r1
    obtain ⟨zs, hzs, rz⟩ := fb.ex
    obtain ⟨a', ha', f'⟩ := S1.ownL i ds hds
    rw [ha] at ha'
    cases ha'
    obtain ⟨xs, hx, rx⟩ := f'.ex
    refine ⟨a, b, xs, zs, rfl, rfl, hx, hzs, by rw [← rx.length, ← rz.length]; exact hz, ?_⟩
    exact hk _ _ _ h1 _ F1 _ (S1.ownWrite hds ha (rx.append rz)) s1 .non⟩
end
/-! ### reckoned -/
section
variable {dw : DW} {G : Reg}
end
end L3

set_option Elab.async false
set_option maxRecDepth 100000
set_option maxHeartbeats 4000000
/-! L9: comprehensions with two fors. -/
namespace L3
open PySem PySem.Spec PyProof.Rows L2
def dLcI (g : DG) (tt : DT) (te : DE) (vs : List Nat) : List D → List D → Env3 → Reg → (List D → Env3 → Reg → Prop) → Prop
  | [], acc, E, G, k => k acc E G
  | d :: ds, acc, E, G, k => g d E G fun E1 G1 => tt E1 G1 fun b E2 G2 => if b = true then te E2 G2 fun r E3 G3 => ∃ x E4, r.ice E3 = some (x, E4) ∧ acc.length < sizeLine ∧ dLcI g tt te vs ds (acc ++ [x]) (wipe3 E4 vs) G3 k else dLcI g tt te vs ds acc (wipe3 E2 vs) G2 k
def dLcO (g : DG) (tt : DT) (di1 : DI) (g1 : DG) (tt1 : DT) (te : DE) (vs vs1 : List Nat) : List D → List D → Env3 → Reg → (List D → Env3 → Reg → Prop) → Prop
  | [], acc, E, G, k => k acc E G
  | d :: ds, acc, E, G, k => g d E G fun E1 G1 => tt E1 G1 fun b E2 G2 => if b = true then di1 E2 G2 fun es E3 G3 => dLcI g1 tt1 te vs1 es acc (wipe3 E3 vs1) G3 fun acc' E4 G4 => dLcO g tt di1 g1 tt1 te vs vs1 ds acc' (wipe3 E4 vs) G4 k else dLcO g tt di1 g1 tt1 te vs vs1 ds acc (wipe3 E2 vs) G2 k
def dLc2 (di : DI) (g : DG) (tt : DT) (di1 : DI) (g1 : DG) (tt1 : DT) (te : DE) (vs vs1 : List Nat) : DE := fun E G k => di E G fun ds E1 G1 => dLcO g tt di1 g1 tt1 te vs vs1 ds [] (wipe3 E1 vs) G1 fun acc E2 G2 => k (.fr acc) E2 G2
def NoAt (vs : List Nat) (E : Env3) : Prop := ∀ i ∈ vs, ∀ s, E[i]? = some s → s = Sl3.no
theorem noAt_wipe (E : Env3) (vs : List Nat) : NoAt vs (wipe3 E vs) := fun i hi s hs => by
  cases s with
  | no => rfl
  | val d => exact absurd hi (wipe3_val hs).2
  | own d => exact absurd hi (wipe3_own hs).2
  | ownD d => exact absurd hi (wipe3_ow hs rfl).2
  | new nm fs => exact absurd hi (wipe3_some (s := Sl3.new nm fs) (fun q => nomatch q) hs).2
theorem wipe3_out (E : Env3) : ∀ (vs : List Nat) {j : Nat}, j ∉ vs → (wipe3 E vs)[j]? = E[j]?
  | [], j, _ => rfl
  | v :: r, j, hm => by
    have h1 : j ≠ v := fun e => hm (by rw [e]; exact List.mem_cons_self)
    have h2 : j ∉ r := fun h => hm (List.mem_cons_of_mem _ h)
    show ((wipe3 E r).set v Sl3.no)[j]? = _
    rw [List.getElem?_set_ne (Ne.symm h1)]
    exact wipe3_out E r h2
theorem wipe3_noAt {E : Env3} {vs : List Nat} (h : NoAt vs E) : wipe3 E vs = E := by
  apply List.ext_getElem?
  intro j
  by_cases hm : j ∈ vs
  · cases q : E[j]? with
    | none =>
      apply List.getElem?_eq_none
      rw [wipe3_length]
      exact List.getElem?_eq_none_iff.mp q
    | some s =>
      have e := h j hm s q
      subst e
      have hj := lt_of_look q
      cases q3 : (wipe3 E vs)[j]? with
      | none =>
        have := List.getElem?_eq_none_iff.mp q3
        rw [wipe3_length] at this
        omega
      | some t => rw [noAt_wipe E vs j hm t q3]
  · exact wipe3_out E vs hm
theorem wipe_wipe {σ : L2.St} {vs vs1 : List Nat} (h : ∀ i ∈ vs1, i ∈ vs) : wipe (wipe σ vs1) vs = wipe σ vs := by
  apply List.ext_getElem?
  intro j
  rw [wipe_get, wipe_get, wipe_get]
  by_cases q : j ∈ vs
  · rw [if_pos q, if_pos q]
    by_cases q1 : j ∈ vs1
    · rw [if_pos q1]; cases σ[j]? <;> rfl
    · rw [if_neg q1]
  · rw [if_neg q, if_neg q, if_neg fun z => q (h j z)]
section
variable {K : PySem.W.Frag} {B : Base3}
theorem St3.wipeBoth {pn : Pend} {F H : Hp} {σ : L2.St} {E : Env3} {G : Reg} (S : St3 K B pn F H σ E G) (vs : List Nat) : St3 K B pn F H (wipe σ vs) (wipe3 E vs) G := S.wipeS vs (wipe_length σ vs) fun i hi => wipe_out' hi
theorem lc32 {di : DI} {g : DG} {tt : DT} {di1 : DI} {g1 : DG} {tt1 : DT} {te : DE} {vs vs1 : List Nat} (hv : ∀ i ∈ vs1, i ∈ vs) {σ : L2.St} {H : Hp} {Q : VK} (h : Lift K B (dLc2 di g tt di1 g1 tt1 te vs vs1) σ H Q) :
    tLc2 (LiftI K B di) (LiftG K B vs g) (LiftT K B tt) (LiftI K B di1) (LiftG K B vs1 g1) (LiftT K B tt1) (Lift K B te) vs vs1 σ H Q := by
  obtain ⟨pn, F, E, G, k, S, h, hk⟩ := h
  refine ⟨pn, F, E, G, _, S, h, fun ds E1 G1 h1 J F1 H1 S1 s1 wk D nD => ?_⟩
  have f0 := S1.newFre (xs := []) (ds := []) nD .nil
  have S1' : St3 K B ((D, HO.lst []) :: pn) F1 (upd H1 D (.lst [])) (wipe σ vs) (wipe3 E1 vs) G1 := ((S1.newU nD).pendOn f0.1.nF f0.1.nB f0.1.nG f0.1.nP upd_same f0.2).wipeBoth vs
  refine ⟨fun i m H' => ∃ F' E' G' acc xs, St3 K B ((D, HO.lst xs) :: pn) F' H' (wipe σ vs) E' G' ∧ NoAt vs E' ∧ Same F1 F' ∧ RepL K F' acc xs ∧ m = ds.length - i ∧ i ≤ ds.length ∧ dLcO g tt di1 g1 tt1 te vs vs1 (ds.drop i) acc E' G' (fun acc E2 G2 => k (.fr acc) E2 G2), ⟨ds.length, F1, wipe3 E1 vs, G1, [], [], S1', noAt_wipe _ _, Same.refl F1, .nil, rfl, Nat.zero_le _, h1⟩, ?_⟩
  rintro i m H2 ⟨F2, E2, G2, acc, xs, S2, hw2, s2, ra, rfl, hi, h2⟩
  by_cases hlt : i < ds.length
  · refine .inr ⟨wk.go _ F2 H2 _ E2 G2 i S2 s2 hlt, fun H' => ∃ F' E' G' acc xs, St3 K B ((D, HO.lst xs) :: pn) F' H' (wipe σ vs) E' G' ∧ NoAt vs E' ∧ Same F1 F' ∧ RepL K F' acc xs ∧ dLcO g tt di1 g1 tt1 te vs vs1 (ds.drop (i + 1)) acc E' G' (fun acc E2 G2 => k (.fr acc) E2 G2), fun H' ⟨F', E', G', acc', xs', S', w', s', r', h'⟩ => ⟨ds.length - (i + 1), by omega, F', E', G', acc', xs', S', w', s', r', rfl, hlt, h'⟩, fun x H' y => ?_⟩
    obtain ⟨F3, S3, s3, d, hd, rd⟩ := wk.yld _ F2 H2 _ E2 G2 i x H' S2 s2 hlt y
    rw [List.drop_eq_getElem_cons hlt] at h2
    have ed : ds[i] = d := by
      rw [List.getElem?_eq_getElem hlt] at hd
      exact Option.some.inj hd
    rw [ed] at h2
    refine ⟨_, F3, E2, G2, _, d, S3, rd, h2, fun E4 G4 h4 σ4 F4 H4 S4 s4 w4 => ?_⟩
    have w4' : wipe σ4 vs = wipe σ vs := by rw [w4, wipe_wipe fun i h => h]
    refine ⟨w4', ?_⟩
    have back : ∀ {F' H' E' G' ys}, St3 K B ((D, HO.lst ys) :: pn) F' H' σ4 E' G' → St3 K B ((D, HO.lst ys) :: pn) F' H' (wipe σ vs) (wipe3 E' vs) G' := fun S' => by
      rw [← w4']
      exact S'.wipeBoth vs
    refine ⟨_, F4, E4, G4, _, S4, h4, fun b E5 G5 h5 F5 H5 S5 s5 => ?_⟩
    have s15 : Same F1 F5 := ((s2.trans s3).trans s4).trans s5
    have s25 : Same F2 F5 := (s3.trans s4).trans s5
    cases b with
    | false => exact ⟨F5, _, G5, acc, xs, back S5, noAt_wipe _ _, s15, RepL.mono s25 _ _ ra, h5⟩
    | true =>
      refine ⟨_, F5, E5, G5, _, S5, h5, fun es E6 G6 h6 J1 F6 H6 S6 s6 wk1 => ?_⟩
      have s16 : Same F1 F6 := s15.trans s6
      have ra6 := RepL.mono (s25.trans s6) _ _ ra
      refine ⟨fun j m H' => ∃ F' E' G' acc xs, St3 K B ((D, HO.lst xs) :: pn) F' H' (wipe σ4 vs1) E' G' ∧ NoAt vs1 E' ∧ Same F6 F' ∧ RepL K F' acc xs ∧ m = es.length - j ∧ j ≤ es.length ∧ dLcI g1 tt1 te vs1 (es.drop j) acc E' G' (fun acc' E4 G4 => dLcO g tt di1 g1 tt1 te vs vs1 (ds.drop (i + 1)) acc' (wipe3 E4 vs) G4 fun acc E2 G2 => k (.fr acc) E2 G2), ⟨es.length, F6, wipe3 E6 vs1, G6, acc, xs, S6.wipeBoth vs1, noAt_wipe _ _, Same.refl F6, ra6, rfl, Nat.zero_le _, h6⟩, ?_⟩
      rintro j m H7 ⟨F7, E7, G7, acc7, xs7, S7, hw7, s7, ra7, rfl, hj, h7⟩
      by_cases hlj : j < es.length
      · refine .inr ⟨wk1.go _ F7 H7 _ E7 G7 j S7 s7 hlj, fun H' => ∃ F' E' G' acc xs, St3 K B ((D, HO.lst xs) :: pn) F' H' (wipe σ4 vs1) E' G' ∧ NoAt vs1 E' ∧ Same F6 F' ∧ RepL K F' acc xs ∧ dLcI g1 tt1 te vs1 (es.drop (j + 1)) acc E' G' (fun acc' E4 G4 => dLcO g tt di1 g1 tt1 te vs vs1 (ds.drop (i + 1)) acc' (wipe3 E4 vs) G4 fun acc E2 G2 => k (.fr acc) E2 G2), fun H' ⟨F', E', G', acc', xs', S', w', s', r', h'⟩ => ⟨es.length - (j + 1), by omega, F', E', G', acc', xs', S', w', s', r', rfl, hlj, h'⟩, fun x H' y => ?_⟩
        obtain ⟨F8, S8, s8, e, he, re⟩ := wk1.yld _ F7 H7 _ E7 G7 j x H' S7 s7 hlj y
        rw [List.drop_eq_getElem_cons hlj] at h7
        have ee : es[j] = e := by
          rw [List.getElem?_eq_getElem hlj] at he
          exact Option.some.inj he
        rw [ee] at h7
        refine ⟨_, F8, E7, G7, _, e, S8, re, h7, fun E9 G9 h9 σ9 F9 H9 S9 s9 w9 => ?_⟩
        have w9' : wipe σ9 vs1 = wipe σ4 vs1 := by rw [w9, wipe_wipe fun i h => h]
        refine ⟨w9', ?_⟩
        have back1 : ∀ {F' H' E' G' ys}, St3 K B ((D, HO.lst ys) :: pn) F' H' σ9 E' G' → St3 K B ((D, HO.lst ys) :: pn) F' H' (wipe σ4 vs1) (wipe3 E' vs1) G' := fun S' => by
          rw [← w9']
          exact S'.wipeBoth vs1
        refine ⟨_, F9, E9, G9, _, S9, h9, fun b E10 G10 h10 F10 H10 S10 s10 => ?_⟩
        have s710 : Same F7 F10 := (s8.trans s9).trans s10
        cases b with
        | false => exact ⟨F10, _, G10, acc7, xs7, back1 S10, noAt_wipe _ _, s7.trans s710, RepL.mono s710 _ _ ra7, h10⟩
        | true =>
          refine ⟨_, F10, E10, G10, _, S10, h10, fun r E11 G11 ⟨x', E12, hx, hz, h11⟩ v F11 H11 S11 s11 r11 => ?_⟩
          obtain ⟨F12, S12, s12, r12⟩ := S11.ice r11 hx
          have s712 : Same F7 F12 := (s710.trans s11).trans s12
          have ra12 := RepL.mono s712 _ _ ra7
          refine ⟨xs7, S12.pendOff.2.2.2.2.2.1, by rw [← ra7.length]; exact hz, F12, _, G11, acc7 ++ [x'], xs7 ++ [v], (back1 (S12.pendWrite (ys := xs7 ++ [v]))), noAt_wipe _ _, s7.trans s712, ra12.append (.cons r12 .nil), h11⟩
      · have e : j = es.length := by omega
        subst e
        rw [List.drop_length] at h7
        refine .inl ⟨wk1.stop _ F7 H7 _ E7 G7 _ S7 s7 (Nat.le_refl _), F7, _, G7, acc7, xs7, ?_, noAt_wipe _ _, s16.trans s7, ra7, h7⟩
        have q := S7.wipeBoth vs
        rw [wipe_wipe hv, w4'] at q
        exact q
  · have e : i = ds.length := by omega
    subst e
    rw [List.drop_length] at h2
    obtain ⟨S3, hF, hB, hG, hP, hH, no⟩ := S2.pendOff
    have S4 : St3 K B pn F2 H2 σ E2 G2 := by
      have q := S3.wipeS (σ' := σ) vs (wipe_length σ vs).symm (fun i hi => (wipe_out' hi).symm)
      rw [wipe3_noAt hw2] at q
      exact q
    refine .inl ⟨wk.stop _ F2 H2 _ E2 G2 _ S2 s2 (Nat.le_refl _), hk _ _ _ h2 _ F2 H2 S4 (s1.trans s2) ⟨D, rfl, ⟨hF, hB, hG, hP, xs, hH, ra⟩, fun j t es hj ht e => ?_⟩⟩
    by_cases hm : j ∈ vs
    · have z := hw2 j hm _ hj
      subst z
      cases ht
    · exact no j t es hj ht (by rw [wipe_out' hm]; exact e)
end
section
variable {X : Cx} {B : Base3}
theorem le_lc2 {elt tg iter tg1 iter1 : Expr} {ifs ifs1 : List Expr} {scope : Scope} {own : List (Str × Nat)} {vs1 : List Nat} {pos : Pos} {di di1 : DI} {g g1 : DG} {tt tt1 : DT} {te : DE} (hc : X.calm = true) (hN : X.N.Nodup) (hi : LI X B tg iter di) (ok : BlkOk X.N X.env.scope scope own) (hv : ∀ i ∈ vs1, i ∈ own.map (·.2))
    (hg : ∀ (s : Shared) (H : Hp) (C : Addr) (cl : List (Str × Addr)) (fp : List Addr), LG (X.blk s H scope (compEnvC scope cl C X.env) fp) B (own.map (·.2)) tg g) (ht : ∀ (s : Shared) (H : Hp) (C : Addr) (cl : List (Str × Addr)) (fp : List Addr), LiftTs (X.blk s H scope (compEnvC scope cl C X.env) fp) B ifs tt)
    (hi1 : ∀ (s : Shared) (H : Hp) (C : Addr) (cl : List (Str × Addr)) (fp : List Addr), LI (X.blk s H scope (compEnvC scope cl C X.env) fp) B tg1 iter1 di1)
    (hg1 : ∀ (s : Shared) (H : Hp) (C : Addr) (cl : List (Str × Addr)) (fp : List Addr), LG (X.blk s H scope (compEnvC scope cl C X.env) fp) B vs1 tg1 g1) (ht1 : ∀ (s : Shared) (H : Hp) (C : Addr) (cl : List (Str × Addr)) (fp : List Addr), LiftTs (X.blk s H scope (compEnvC scope cl C X.env) fp) B ifs1 tt1)
    (he : ∀ (s : Shared) (H : Hp) (C : Addr) (cl : List (Str × Addr)) (fp : List Addr), LE (X.blk s H scope (compEnvC scope cl C X.env) fp) B elt te) (hs : ∀ x, foldedSetIterable iter X.env x = pure x := by intro _; rfl) (hs1 : ∀ env x, foldedSetIterable iter1 env x = pure x := by intro _ _; rfl) :
    LE X B (.ListComp elt [⟨tg, iter, ifs, 0⟩, ⟨tg1, iter1, ifs1, 0⟩] scope pos) (dLc2 di g tt di1 g1 tt1 te (own.map (·.2)) vs1) :=
  ⟨pe_imp (pe_lc2 hc hN hi.pi ok hv (fun s H C cl fp => (hg s H C cl fp).pg) (fun s H C cl fp => (show PTs _ ifs (LiftT X.K B tt) from ht s H C cl fp)) (fun s H C cl fp => (hi1 s H C cl fp).pi) (fun s H C cl fp => (hg1 s H C cl fp).pg) (fun s H C cl fp => (show PTs _ ifs1 (LiftT X.K B tt1) from ht1 s H C cl fp)) (fun s H C cl fp => (he s H C cl fp).pe) hs hs1) fun σ H Q h => lc32 hv h⟩
end
/-! ### reckoned -/
section
variable {dw : DW} {G : Reg}
end
end L3

set_option Elab.async false
set_option maxRecDepth 100000
set_option maxHeartbeats 4000000
/-! L12: == of two instances by their own __eq__; range with three arguments. -/
namespace L3
open PySem PySem.Spec PyProof.Rows L2
section
variable {X : Cx} {B : Base3}
end
section
variable {X : Cx} {B : Base3} {K : PySem.W.Frag}
end
section
variable {X : Cx} {B : Base3}
end
end L3

set_option Elab.async false
set_option maxRecDepth 100000
set_option maxHeartbeats 4000000
/-! L13: a list of our own is lent to a call: for its length the list stands as a register. -/
namespace L3
open PySem PySem.Spec PyProof.Rows L2
section
variable {X : Cx} {B : Base3}
end
section
variable {K : PySem.W.Frag} {B : Base3} {pn : Pend} {F H : Hp} {σ : L2.St} {E : Env3} {G : Reg}
theorem St3.back {b : Addr} {ds : List D} (S : St3 K B pn F H σ E (G ++ [(b, ds)])) {i : Nat} (hl : isL ds = true) (hi : E[i]? = some (Sl3.val (.ref b))) (nB : B.H b = none) (nG : b ∉ B.G) :
    St3 K B pn F H σ (E.set i (.own ds)) G := by
  have mG : ∀ a, a ∈ (G ++ [(b, ds)]).map (·.1) ↔ a ∈ G.map (·.1) ∨ a = b := fun a => by
    rw [List.map_append, List.mem_append]; simp
  have nd := S.w.nd
  rw [List.map_append, List.nodup_append] at nd
  have bG : b ∉ G.map (·.1) := fun h => nd.2.2 b h b (by simp) rfl
  obtain ⟨nF, o, ho, ro⟩ := S.w.reg b ds (List.mem_append.mpr (.inr (List.mem_singleton.mpr rfl)))
  obtain ⟨xs, rfl, rx⟩ := ro.lstOf hl
  obtain ⟨v, hv, rv⟩ := S.slot i _ hi
  cases rv
  have nP : b ∉ pn.map (·.1) := fun h => by
    obtain ⟨p, hp, rfl⟩ := List.mem_map.mp h
    exact (S.pend p.1 p.2 hp).2.2.2 ((mG _).mpr (.inr rfl))
  have fb : Fre K B pn F H G b ds := ⟨nF, nB, bG, nP, xs, ho, rx⟩
  have oth : ∀ (j : Nat) (t : Sl3) (d : D), E[j]? = some t → t.ow = some d → ∃ a, σ[j]? = some (some (V.ref a)) ∧ a ≠ b ∧ FreX K B pn F H G a d := fun j t d q ho => by
    obtain ⟨a, ha, g⟩ := S.own j t d q ho
    exact ⟨a, ha, fun z => g.nG ((mG a).mpr (.inr z)), ⟨g.nF, g.nB, fun z => g.nG ((mG a).mpr (.inl z)), g.nP, g.ex⟩⟩
  refine ⟨⟨S.w.sub, fun a es h => S.w.reg a es (List.mem_append.mpr (.inl h)), nd.1⟩, S.keepF, S.keepH, S.unfr, fun a h => S.regs a ((mG a).mpr (.inl h)), fun a h => ?_, by rw [List.length_set]; exact S.len, fun j d h => ?_, fun j t d h ho => ?_, fun j k t u d e a h1 h2 o1 o2 h3 h4 => ?_, fun a o h => ?_, S.pnd, fun nm fs h => ?_⟩
  · rcases (mG a).mp (S.regk a h) with z | rfl
    · exact z
    · exact absurd h nG
  · rcases set_look h with ⟨_, q⟩ | ⟨_, q⟩
    · cases q
    · exact S.slot j d q
  · rcases set_look h with ⟨rfl, q⟩ | ⟨_, q⟩
    · subst q; cases ho; exact ⟨b, hv, fb.x⟩
    · obtain ⟨a, ha, _, g⟩ := oth j t d q ho
      exact ⟨a, ha, g⟩
  · rcases set_look h1 with ⟨rfl, q⟩ | ⟨_, q1⟩
    · rcases set_look h2 with ⟨rfl, _⟩ | ⟨_, q2⟩
      · rfl
      · obtain ⟨c, hc, nc, _⟩ := oth k u e q2 o2
        rw [hv] at h3; cases h3
        rw [hc] at h4; cases h4
        exact absurd rfl nc
    · rcases set_look h2 with ⟨rfl, q⟩ | ⟨_, q2⟩
      · obtain ⟨c, hc, nc, _⟩ := oth j t d q1 o1
        rw [hv] at h4; cases h4
        rw [hc] at h3; cases h3
        exact absurd rfl nc
      · exact S.ownd j k t u d e a q1 q2 o1 o2 h3 h4
  · obtain ⟨h1, h2, h3, h4⟩ := S.pend a o h
    exact ⟨h1, h2, h3, fun z => h4 ((mG a).mpr (.inl z))⟩
  · rcases set_look h with ⟨_, q⟩ | ⟨_, q⟩
    · cases q
    · exact S.news nm fs q
end
end L3

set_option Elab.async false
set_option maxRecDepth 100000
set_option maxHeartbeats 4000000
/-! L14: a, b, c = x, [..], z with a list of our own in the midst; a fresh list handed on as a register. -/
namespace L3
open PySem PySem.Spec PyProof.Rows L2
section
variable {X : Cx} {B : Base3}
end
section
variable {X : Cx}
end
end L3

set_option Elab.async false
set_option maxRecDepth 100000
set_option maxHeartbeats 4000000
/-! L15: pop at a place; len(set(xs)) of a fresh list of ints, all unlike. -/
namespace L3
open PySem PySem.Spec PyProof.Rows L2
section
variable {X : Cx} {B : Base3}
end
end L3

set_option Elab.async false
set_option maxRecDepth 100000
set_option maxHeartbeats 4000000
/-! L17: a, b, c = [..], y, z with a list of our own ahead. -/
namespace L3
open PySem PySem.Spec PyProof.Rows L2
def dPar3F (i j l : Nat) (ta tb tc : DE) : DSt := fun D E G => ta E G fun x E1 G1 => ∃ ds, x = .fr ds ∧ tb E1 G1 fun y E2 G2 => ∃ v E3, y.ice E2 = some (v, E3) ∧ tc E3 G2 fun z E4 G3 => ∃ w E5, z.ice E4 = some (w, E5) ∧
  i < E5.length ∧ j < E5.length ∧ l < E5.length ∧ D.nx (((E5.set i (Sl3.own ds)).set j (Sl3.val v)).set l (Sl3.val w)) G3
section
variable {X : Cx} {B : Base3}
theorem ls_par3F {i j l : Nat} {x y z : Str} {a b c : Expr} {ta tb tc : DE} {px py pz pt pos : Pos} {kt k2 pt2} (hc : X.calm = true) (hN : X.N.Nodup) (hi : X.N[i]? = some x) (hj : X.N[j]? = some y) (hl : X.N[l]? = some z) (hij : i ≠ j) (hil : i ≠ l) (hjl : j ≠ l)
    (hx : X.env.scope.names.lookup x = some .local) (hy : X.env.scope.names.lookup y = some .local) (hz : X.env.scope.names.lookup z = some .local) (ha : LE X B a ta) (hb : LE X B b tb) (hcc : LE X B c tc)
    (hw : swappedStores [.Tuple [.Name x px, .Name y py, .Name z pz] kt pt] (.Tuple [a, b, c] k2 pt2) X.env = pure (some [x, y, z]))
    (hs : swapsWithSole [.Tuple [.Name x px, .Name y py, .Name z pz] kt pt] (.Tuple [a, b, c] k2 pt2) pos.line X.env = pure false := by rfl)
    (hs1 : starEach [a, b, c] X.env = (false, eval a X.env) :: starEach [b, c] X.env := by rfl) (hs2 : starEach [b, c] X.env = (false, eval b X.env) :: starEach [c] X.env := by rfl) (hs3 : starEach [c] X.env = (false, eval c X.env) :: starEach [] X.env := by rfl) :
    LS X B (.Assign [.Tuple [.Name x px, .Name y py, .Name z pz] kt pt] (.Tuple [a, b, c] k2 pt2) pos) (dPar3F i j l ta tb tc) :=
  ⟨ps_imp (ps_par3 hc hN hi hj hl hij hil hjl hx hy hz (pa_cons ha.pe (pa_cons hb.pe (pa_cons hcc.pe pa_nil hs3) hs2) hs1) hw hs) fun D σ H ⟨pn, F, E, G, D3, S, h, ok⟩ => by
    refine ⟨pn, F, E, G, _, S, h, fun rx E1 G1 ⟨ds, ex, h1⟩ u F1 H1 S1 s1 r1 => ?_⟩
    subst ex
    obtain ⟨p, rfl, f, no⟩ := r1
    obtain ⟨xs, hx1, rxs⟩ := f.ex
    refine ⟨(p, HO.lst xs) :: pn, F1, E1, G1, _, S1.pendOn f.nF f.nB f.nG f.nP hx1 no, h1, fun ry E2 G2 ⟨v, E3, hv, h2⟩ q F2 H2 S2 s2 r2 => ?_⟩
    obtain ⟨F3, S3, s3, rv⟩ := S2.ice r2 hv
    refine ⟨(p, HO.lst xs) :: pn, F3, E3, G2, _, S3, h2, fun rz E4 G3 ⟨w, E5, hw5, l1, l2, l3, hn⟩ q F4 H4 S4 s4 r4 => ?_⟩
    obtain ⟨F5, S5, s5, rw5⟩ := S4.ice r4 hw5
    obtain ⟨S6, hF, hB, hG, hP, hH, no6⟩ := S5.pendOff
    rw [S6.len] at l1 l2 l3
    have S7 := S6.setOwn (i := i) (ds := ds) (a := p) l1 ⟨hF, hB, hG, hP, xs, hH, RepL.mono (((s2.trans s3).trans s4).trans s5) _ _ rxs⟩ (fun k t g hk ht e => no6 k t g hk ht e)
    have S8 := S7.setVal (i := j) (by rw [List.length_set]; exact l2) (Rep.mono (s4.trans s5) _ _ rv)
    have S9 := S8.setVal (i := l) (by rw [List.length_set, List.length_set]; exact l3) rw5
    exact ⟨_, _, _, rfl, ok.nx _ _ hn _ _ _ S9 ((((s1.trans s2).trans s3).trans s4).trans s5)⟩⟩
end
end L3

set_option Elab.async false
set_option maxRecDepth 100000
set_option maxHeartbeats 4000000
/-! ZS: sorted and min of lists of tuples of ints, of any length. -/
namespace L2
open PySem PySem.Spec PyProof.Rows PySem.W
def encZ (b : V × List Int) : PyData := .tuple (b.2.map .int)
def leZ (a b : V × List Int) : Bool := decide (a.2 ≤ b.2)
theorem dataLe_tups : dataLe false encZ = leZ := by
  funext p q
  show (!dataLt (.tuple (q.2.map .int)) (.tuple (p.2.map .int))) = decide (p.2 ≤ q.2)
  rw [dataLt_tuple]
  show (!rowLt (q.2.map .int) (p.2.map .int)) = _
  rw [dataLt_ints]
  by_cases h : q.2 < p.2
  · have h' : ¬ p.2 ≤ q.2 := fun r => List.not_lt.mpr r h
    simp [h, h']
  · have h' : p.2 ≤ q.2 := List.not_lt.mp h
    simp [h, h']
/-- each is a tuple of these ints -/
def TupsZ (K : PySem.W.Frag) (H : Hp) (L : List (V × List Int)) : Prop := ∀ b ∈ L, ∃ t, b.1 = V.ref t ∧ SqT K H t (b.2.map V.int)
def rSortZ (K : PySem.W.Frag) : List V → Hp → VK → Prop := fun vs H Q => ∃ (a : Addr) (L : List (V × List Int)), vs = [V.ref a] ∧ SqL K H a (L.map Prod.fst) ∧ TupsZ K H L ∧ (∀ b ∈ L, b.2 ≠ []) ∧
  ∀ p : Addr, H p = none → Q (.ref p) (upd H p (.lst ((L.mergeSort leZ).map Prod.fst)))
theorem dp_ints {K : PySem.W.Frag} {H : Hp} : ∀ ns : List Int, DpAll K H (ns.map V.int) (ns.map PyData.int)
  | [] => .nil
  | n :: ns => .cons (.int n) (dp_ints ns)
theorem each_vals : ∀ {L : List (V × List Int)} {us : List Value}, Vals (L.map Prod.fst) us → EachIs (fun v (b : V × List Int) => RelV b.1 v) us L
  | [], _, h => by cases h; exact .nil
  | b :: L, _, h => by
    cases h with
    | cons r t => exact .cons r (each_vals t)
theorem vals_each : ∀ {L : List (V × List Int)} {us : List Value}, EachIs (fun v (b : V × List Int) => RelV b.1 v) us L → Vals (L.map Prod.fst) us
  | _, _, .nil => .nil
  | _, _, .cons r t => .cons r (vals_each t)
section
variable {X : Cx} {pins : List (Addr × Obj)} {σ : St} {H : Hp} {s : Shared}
theorem each_reads (I : Inv X pins σ H s) : ∀ {L : List (V × List Int)} {us : List Value}, TupsZ X.K H L → Vals (L.map Prod.fst) us → EachIs (fun v (b : V × List Int) => ∃ as, Reads s.heap v (encZ b) as) us L
  | [], _, _, h => by cases h; exact .nil
  | b :: L, _, ht, h => by
    cases h with
    | cons r t =>
      obtain ⟨ad, e, hs⟩ := ht b List.mem_cons_self
      exact .cons (Dp.reads I (encZ b) b.1 _ (by rw [e]; exact .tup hs (dp_ints _)) r) (each_reads I (fun c hc => ht c (List.mem_cons_of_mem _ hc)) t)
end
theorem depthZ (b : V × List Int) : (encZ b).depth ≤ 1 := by
  show PyData.depthAll (b.2.map .int) + 1 ≤ 1
  rw [depth_ints]; exact Nat.le_refl _
section
variable {X : Cx}
theorem cr_sortZ (hu : X.A.units + 64 < cLine) : CallR X (.builtin "sorted") (rSortZ X.K) := by
  intro pins s σ H vs us Q I r h
  obtain ⟨a, L, rfl, hs, ht, hne, q⟩ := h
  obtain ⟨its, rv, hl, hz⟩ := I.list hs
  rw [Vals.ref1 r]
  have hz' : L.length ≤ sizeLine := by rw [List.length_map] at hz; exact hz
  refine sorted_data (enc := encZ) hl.isList (each_vals rv) (each_reads I ht rv) (AllAlike.of fun b b' => ?_) (.inl fun d hd => ?_) hz' (fun b hb => ?_) fun out hlen he => ?_
  · show alike (.tuple (b.2.map .int)) (.tuple (b'.2.map .int)) = true
    simp only [alike]
    exact alike_ints _ _
  · obtain ⟨b, hb, rfl⟩ := List.mem_map.mp hd
    have := hne b hb
    unfold encZ
    cases q : b.2 with
    | nil => exact absurd q this
    | cons x xs => exact ⟨_, _, rfl⟩
  · have := depthZ b
    omega
  · rw [dataLe_tups] at he
    obtain ⟨ep, he'⟩ := PyProof.Rows.sortedAll_at s.heap its out.toArray
    have hlen2 : ((L.mergeSort leZ).map Prod.fst).length ≤ sizeLine := by
      rw [List.length_map, List.length_mergeSort]; exact hz'
    exact ⟨.ref _, upd H (s.heap.objs.size + 1) (.lst ((L.mergeSort leZ).map Prod.fst)), I.laid (t' := s.toks) (fun _ _ => PyProof.Rows.sortedAll_old) (Nat.le_succ _) ⟨hlen2, out, ep, vals_each he, he'⟩, rfl, q _ (I.hok.fresh (Nat.le_succ _))⟩
end
section
variable {X : Cx}
end
end L2

set_option Elab.async false
set_option maxRecDepth 100000
set_option maxHeartbeats 4000000
/-! L18: sorted, min and the order of tuples of ints. -/
namespace L3
open PySem PySem.Spec PyProof.Rows L2
def ptI (w : List Int) : D := .tup (w.map D.int)
def sortW (ws : List (List Int)) : List (List Int) := ws.mergeSort fun a b => decide (a ≤ b)
/-- sorted(xs), a list of tuples of ints, none empty -/
def bSortW : Reg → List D → (Res → Prop) → Prop := fun _ ds k => match ds with
  | [.lst xs] => ∃ ws : List (List Int), xs = ws.map ptI ∧ (∀ w ∈ ws, w ≠ []) ∧ k (.fr ((sortW ws).map ptI))
  | _ => False
section
variable {X : Cx} {B : Base3}
theorem tup_ints {K : PySem.W.Frag} {F H : Hp} (hsub : ∀ a o, F a = some o → H a = some o) {ns : List Int} {v : V} (r : RepH K F H (.tup (ns.map D.int)) v) : ∃ p, v = .ref p ∧ SqT K H p (ns.map V.int) := by
  obtain ⟨p, ys, e, hs, ra⟩ := r.tup hsub
  rw [ra.ints_of] at hs
  exact ⟨p, e, hs⟩
theorem tups_repl {K : PySem.W.Frag} {F H : Hp} (hsub : ∀ a o, F a = some o → H a = some o) : ∀ {ws : List (List Int)} {vs : List V}, RepL K F (ws.map ptI) vs → ∃ L : List (V × List Int), L.map Prod.fst = vs ∧ L.map Prod.snd = ws ∧ TupsZ K H L ∧ ∀ b ∈ L, Rep K F (ptI b.2) b.1
  | [], _, h => by cases h; exact ⟨[], rfl, rfl, fun b hb => (nomatch hb), fun b hb => (nomatch hb)⟩
  | w :: ws, _, h => by
    cases h with
    | cons r t =>
      rename_i v vs
      obtain ⟨L, e1, e2, h1, h2⟩ := tups_repl hsub t
      have hr : Rep K F (ptI w) v := r
      refine ⟨(v, w) :: L, by rw [List.map_cons, e1], by rw [List.map_cons, e2], fun b hb => ?_, fun b hb => ?_⟩
      · rcases List.mem_cons.mp hb with rfl | hb
        · have hh : RepH K F H (.tup (w.map D.int)) v := .inl hr
          exact tup_ints hsub hh
        · exact h1 b hb
      · rcases List.mem_cons.mp hb with rfl | hb
        · exact hr
        · exact h2 b hb
theorem repl_tups {K : PySem.W.Frag} {F : Hp} : ∀ {L : List (V × List Int)}, (∀ b ∈ L, Rep K F (ptI b.2) b.1) → RepL K F ((L.map Prod.snd).map ptI) (L.map Prod.fst)
  | [], _ => .nil
  | b :: L, h => .cons (h b List.mem_cons_self) (repl_tups fun c hc => h c (List.mem_cons_of_mem _ hc))
theorem le_sortW {e : Expr} {ta : DA} {p pos : Pos} {k : Nat} (hr : Room k X.A) (hg : Gl X "sorted") (hm : X.mg "sorted" = none) (ha : LP X B [e] ta) (he : starEach [e] X.env = (false, eval e X.env) :: starEach [] X.env := by rfl) (hpl : (backTo pos (starEach [] X.env)).any (·.1) = false := by rfl) :
    LE X B (.Call (.Name "sorted" p) [e] [] pos) (dCB bSortW ta) := le_callB (cr_sortZ (by have := room65 hr; omega)) (fun pn F H σ E G vs ds k Q S r h hk => by
  unfold bSortW at h
  split at h
  · obtain ⟨ws, e, hne, h⟩ := h
    subst e
    obtain ⟨v, rfl, rx⟩ := hl1 r
    obtain ⟨p, ys, rfl, hs, ra⟩ := rx.lst S.w.sub
    obtain ⟨L, e1, e2, h1, h2⟩ := tups_repl (H := H) S.w.sub ra
    subst e1 e2
    refine ⟨p, L, rfl, .inl hs, h1, fun b hb => hne _ (List.mem_map.mpr ⟨b, hb, rfl⟩), fun q nq => ?_⟩
    have es : sortW (L.map Prod.snd) = (L.mergeSort leZ).map Prod.snd := by
      unfold sortW
      exact (List.map_mergeSort (r := leZ) (s := fun a b => decide (a ≤ b)) (f := Prod.snd) fun a _ b _ => rfl).symm
    rw [es] at h
    obtain ⟨f, no⟩ := S.newFre nq (repl_tups fun b hb => h2 b (List.mem_mergeSort.mp hb))
    exact hk _ h _ _ _ (S.newU nq) (Same.refl F) ⟨q, rfl, f, no⟩
  · exact h.elim) hg hm (by decide +kernel) ha (by decide) (by decide) he hpl
end
end L3

set_option Elab.async false
set_option maxRecDepth 100000
set_option maxHeartbeats 4000000
/-! L47: for .. in a generator's body (whatever is walked by a Turn). -/
namespace L2
open PySem PySem.Spec PyProof.Rows
section
variable {M : Model} {A : Around} {R : GenEnd} {Y : Protocol} {n : Nat} {s₀ : Shared} {c : Code} {fs : List Frame} {s : Shared} {env : Env}
  {K : Flow → Sem PySem.Fin} {J : Value → Sem PySem.Fin} {gd : Bool → Bool} {lv : List Value → List Value}
theorem seg_bw {α β : Type} {K : β → Sem PySem.Fin} {m : Sem α} {f : α → Sem β} (h : wpAny M (A.over c fs) m (fun a s' => Seg M A R Y n s₀ c ((f a).wrap K J gd lv) fs s') (fun x s' => Seg M A R Y n s₀ c (J x) fs s') s) :
    Seg M A R Y n s₀ c ((m >>= f).wrap K J gd lv) fs s := by
  rw [Sem.bind_eq_wrap', Sem.wrap_wrap]
  exact seg_wrap h
theorem seg_forStart {tg iter : Expr} {body orelse : List Stmt} {pos : Pos} (hs : ∀ x, foldedSetIterable iter env x = pure x)
    (h : wpAny M (A.over c fs) (eval iter env) (fun x s1 => wpAny M (A.over c fs) (pyIter x) (fun it s2 => ∀ p, Seg M A R Y n s₀ (.forLoop tg it body orelse env) (M.den (.forLoop tg it body orelse env))
      (.ret (fun r => ((match r with | .ok f => (.pure f : Sem Flow) | .error e => .raise e).onRaise (cameBack env)).wrap K J gd lv) none (gd false) (lv []) c p [] :: fs) s2)
      (fun x s' => Seg M A R Y n s₀ c (J x) fs s') s1) (fun x s' => Seg M A R Y n s₀ c (J x) fs s') s) :
    Seg M A R Y n s₀ c ((exec (.For tg iter body orelse pos) env).wrap K J gd lv) fs s := by
  rw [exec_For]
  refine seg_bw (wpAny_standAt ?_)
  refine seg_bw (wpAny_mono h (fun x s1 h1 => ?_) fun _ _ x => x)
  refine seg_bw (wpAny_of_eq (hs x) ?_)
  refine seg_bw (wpAny_standAt ?_)
  refine seg_bw (wpAny_holding (wpAny_mono h1 (fun it s2 h2 => ?_) fun _ _ x => x))
  exact seg_call h2
/-- what the loop does with an exception -/
def eeFor (env : Env) (e : Value) : Sem PySem.Fin := (do noteFrame e env; theTreesLotGoes e : Sem Unit).wrap (fun _ => .raise e) .raise id id
/-- what follows the body -/
def kFor (tg : Expr) (it : Value) (body : List Stmt) (env : Env) : Flow → Sem PySem.Fin
  | .next => .pure (.again (.forLoop tg it body [] env))
  | .cont => .pure (.again (.forLoop tg it body [] env))
  | .brk => .pure (.done .next)
  | .ret v => .pure (.done (.ret v))
end
section
variable {prog : Program} {w : World} {A : Around} {R : GenEnd} {Y : Protocol} {n : Nat} {s₀ : Shared} {fs : List Frame} {s : Shared} {env : Env}
theorem seg_forTurn {tg : Expr} {it : Value} {body : List Stmt}
    (h : wpAny (model prog w) (A.over (.forLoop tg it body [] env) fs) (pyNext it) (fun r s1 => match r with
      | none => Seg (model prog w) A R Y n s₀ (.forLoop tg it body [] env) (.pure (.again (.block [] env))) fs s1
      | some v => wpAny (model prog w) (A.over (.forLoop tg it body [] env) fs) (letOwnedTupleGo tg it v) (fun _ s2 => wpAny (model prog w) (A.over (.forLoop tg it body [] env) fs) (assign tg env v)
          (fun _ s3 => Seg (model prog w) A R Y n s₀ (.forLoop tg it body [] env) ((execs body env).wrap (kFor tg it body env) (eeFor env) id id) fs s3)
          (fun x s' => Seg (model prog w) A R Y n s₀ (.forLoop tg it body [] env) (eeFor env x) fs s') s2)
          (fun x s' => Seg (model prog w) A R Y n s₀ (.forLoop tg it body [] env) (eeFor env x) fs s') s1)
      (fun x s' => Seg (model prog w) A R Y n s₀ (.forLoop tg it body [] env) (eeFor env x) fs s') s) :
    Seg (model prog w) A R Y n s₀ (.forLoop tg it body [] env) ((model prog w).den (.forLoop tg it body [] env)) fs s := by
  show Seg _ A R Y n s₀ _ ((forTurn tg it body [] env).onRaise (fun x => do noteFrame x env; theTreesLotGoes x)) fs s
  unfold forTurn
  rw [Sem.onRaise_eq_wrap]
  have ee : ∀ (x : Value) (s' : Shared), Seg (model prog w) A R Y n s₀ (.forLoop tg it body [] env) (eeFor env x) fs s' → Seg (model prog w) A R Y n s₀ (.forLoop tg it body [] env) (((do noteFrame x env; theTreesLotGoes x : Sem Unit).bind fun _ => .raise x)) fs s' := fun x s' hx => by
    rw [Sem.bind_eq_wrap]; exact hx
  refine seg_bw (wpAny_standAt ?_)
  refine seg_bw (wpAny_onRaise (wpAny_mono h (fun r s1 h1 => ?_) fun x s' hx => wpAny_standAt (ee x s' hx)))
  cases r with
  | none => exact h1
  | some v =>
    refine seg_bw (wpAny_mono h1 (fun _ s2 h2 => ?_) fun x s' hx => ee x s' hx)
    refine seg_bw (wpAny_mono h2 (fun _ s3 h3 => ?_) fun x s' hx => ee x s' hx)
    rw [Sem.bind_eq_wrap', Sem.wrap_wrap]
    rw [Sem.wrap_congr (execs body env) _ _ (K' := kFor tg it body env) (H' := eeFor env) (fun f => by cases f <;> rfl) (fun e => by
      first | exact Sem.bind_eq_wrap _ _ | (show (do noteFrame e env; theTreesLotGoes e : Sem Unit).bind (fun _ => .raise e) = _; rw [Sem.bind_eq_wrap]; rfl))]
    exact h3
end
def tGFor (wi : TI) (g : TG) (tb : TGn) : TGn := fun D ys σ H => wi σ H fun J H1 => ∃ W : Nat → Nat → List V → St → Hp → Prop, (∃ m, W 0 m ys σ H1) ∧ ∀ i m ys σ H, W i m ys σ H →
  (J.stop i H ∧ D.nx ys σ H) ∨ (J.go i H ∧ ∃ N : List V → St → Hp → Prop, (∀ ys' σ' H', N ys' σ' H' → ∃ m', m' < m ∧ W (i + 1) m' ys' σ' H') ∧ ∀ x H', J.yld i H x H' → g x σ H' fun σ2 H2 => tb { D with nx := N, ct := N, bk := D.nx } ys σ2 H2)
section
variable {X : Cx} {tg : Expr} {g : TG}
theorem gs_for {iter : Expr} {body : List Stmt} {pos : Pos} {wi : TI} {tb : TGn} (hp : PassesOwn (model X.prog X.w) X.A X.env X.xe) (hc : X.calm = true) (hi : PI X tg iter wi) (hg : PG X tg g) (hb : GSs X body tb)
    (hs : ∀ x, foldedSetIterable iter X.env x = pure x := by intro _; rfl) : GS X (.For tg iter body [] pos) (tGFor wi g tb) := by
  refine ⟨fun A S ip R n ys s₀ c fs K J gd lv s σ H D gc hn k hI ht => ?_⟩
  obtain ⟨acc0, cc0, r0, I0⟩ := hI
  refine seg_forStart hs ?_
  rw [gc.over]
  refine wpAny_mono (hi.run _ s σ H _ I0 ht) (fun v s1 h1 => wpAny_mono h1 (fun itv s2 h2 p => ?_) fun x s' hx => k.exc n s₀ x s' hx) fun x s' hx => k.exc n s₀ x s' hx
  obtain ⟨it, fp, tn, Jt, H2, e, I2, T, st2, f2, W, ⟨m0, w0⟩, turn⟩ := h2
  subst e
  have gl := fun (kk : Result → Sem PySem.Fin) => gc_loop (k := kk) (c' := .forLoop tg (.ref it) body [] X.env) (l := lv []) (kp := []) (p := p) gc rfl rfl
  have loop : ∀ (m n i : Nat) (ys : List V) (s₀ s : Shared) (σ : St) (H : Hp), n + ys.length = sizeLine → W i m ys σ H → GI X S ip ys σ H s → tn i s.heap → (∀ b ∈ fp, H b = none) →
      Seg (model X.prog X.w) A R (GY X S) n s₀ (.forLoop tg (.ref it) body [] X.env) ((model X.prog X.w).den (.forLoop tg (.ref it) body [] X.env))
        (.ret (fun r => ((match r with | .ok f => (.pure f : Sem Flow) | .error e => .raise e).onRaise (cameBack X.env)).wrap K J gd lv) none (gd false) (lv []) c p [] :: fs) s := by
    intro m
    induction m using Nat.strongRecOn with
    | ind m ih =>
      intro n i ys s₀ s σ H hn w hI st fr
      have ee : ∀ (n : Nat) (s₀ : Shared) (x : Value) (s' : Shared), X.xe x s' → Seg (model X.prog X.w) A R (GY X S) n s₀ (.forLoop tg (.ref it) body [] X.env) (eeFor X.env x)
          (.ret (fun r => ((match r with | .ok f => (.pure f : Sem Flow) | .error e => .raise e).onRaise (cameBack X.env)).wrap K J gd lv) none (gd false) (lv []) c p [] :: fs) s' := fun n s₀ x s' hx => by
        refine seg_wrap ?_
        rw [(gl _).over]
        refine wpAny_bind (wpAny_mono (hp x s' hx) (fun _ s'' hcb => wpAny_theTreesLotGoes ?_) fun y s'' hcb => ?_)
        · exact seg_leaf (.error x) (seg_cameBack gc k hcb)
        · exact seg_leaf (.error y) (seg_cameBack gc k hcb)
      obtain ⟨acc, cc, r, I⟩ := hI
      have stat : ∀ {H' : Hp}, (∀ b ∈ fp, H' b = none) → ∀ b ∈ fp, FpOk X ((S, lstObj acc cc) :: ip) H' b := fun hn b hb => by
        obtain ⟨_, e1, e2, e3, e4, e5⟩ := f2 b hb
        refine ⟨hn b hb, e1, e2, e3, e4, fun q hq => ?_⟩
        rcases List.mem_append.mp hq with z | z
        · exact e5 q (List.mem_append_left _ z)
        · rcases List.mem_cons.mp z with rfl | z
          · exact e5 (S, lstObj acc0 cc0) (List.mem_append_right _ List.mem_cons_self)
          · exact e5 q (List.mem_append_right _ (List.mem_cons_of_mem _ z))
      refine seg_forTurn ?_
      rw [(gl _).over]
      rcases turn i m ys σ H w with ⟨stop, qn⟩ | ⟨go, N, hN, step⟩
      · refine wpAny_mono (T.done X rfl rfl rfl hc i _ s σ H X.xe I (stat fr) st stop) (fun r' s4 ⟨hr, I4⟩ => ?_) fun x s' hx => ee n s₀ x s' hx
        subst hr
        refine seg_again rfl ?_
        exact seg_leaf (.ok .next) (k.ok n ys s₀ s4 .next hn ⟨σ, H, ⟨acc, cc, r, I4⟩, qn⟩)
      · refine wpAny_mono (T.item X rfl rfl rfl hc i _ s σ H X.xe I (stat fr) st go) (fun r' s4 ⟨u, hr, h4⟩ => ?_) fun x s' hx => ee n s₀ x s' hx
        subst hr
        refine wpAny_mono h4 (fun _ s5 ⟨x, H5, I5, r5, y5, st5, fr5⟩ => ?_) fun x s' hx => ee n s₀ x s' hx
        have I5' := I5.pinned (stat fr5) (T.obj _ _ st5)
        refine wpAny_mono (hg.run _ s5 σ H5 x u _ I5' r5 (step x H5 y5)) (fun _ s6 ⟨σ6, H6, I6, q6⟩ => ?_) fun x s' hx => ee n s₀ x s' hx
        have gl2 : ∀ kk : Result → Sem PySem.Fin, GC X S (ip ++ pinsAt fp s5.heap) A (.forLoop tg (.ref it) body [] X.env) (.ret kk none (gd false) (lv []) c p [] :: fs) id := fun kk =>
          ⟨(gl kk).pn, fun q hq => (List.mem_append.mp hq).elim (fun z => (gl kk).ip q z) fun z => fun e => by
            obtain ⟨_, _, _, _, _, e5⟩ := f2 q.1 (of_pinsAt z).1
            exact e5 (S, lstObj acc0 cc0) (List.mem_append_right _ List.mem_cons_self) e.symm, (gl kk).apart, (gl kk).over, (gl kk).split, (gl kk).guard, (gl kk).gd⟩
        have again : ∀ {n' : Nat} {ys' : List V} {s₀' s7 : Shared} {σ7 : St} {H7 : Hp}, n' + ys'.length = sizeLine → GI X S (ip ++ pinsAt fp s5.heap) ys' σ7 H7 s7 → N ys' σ7 H7 → Seg (model X.prog X.w) A R (GY X S) n' s₀' (.forLoop tg (.ref it) body [] X.env) (.pure (.again (.forLoop tg (.ref it) body [] X.env)))
            (.ret (fun r => ((match r with | .ok f => (.pure f : Sem Flow) | .error e => .raise e).onRaise (cameBack X.env)).wrap K J gd lv) none (gd false) (lv []) c p [] :: fs) s7 := fun {n' ys' s₀' s7 σ7 H7} hn' hI7 n7 => by
          obtain ⟨acc7, cc7, r7, I7⟩ := hI7
          have I7' : Inv X (((S, lstObj acc7 cc7) :: ip) ++ pinsAt fp s5.heap) σ7 H7 s7 := I7
          obtain ⟨m', hm, w7⟩ := hN ys' σ7 H7 n7
          refine seg_again rfl (ih m' hm n' (i + 1) ys' s₀' s7 σ7 H7 hn' w7 ⟨acc7, cc7, r7, I7'.unpinned⟩ (T.keep _ _ _ st5 fun b hb o e => (I7'.pin (b, o) (List.mem_append_right _ (List.mem_append_right _ (mem_pinsAt hb e)))).1) fun b hb => ?_)
          obtain ⟨o, e, d⟩ := T.obj _ _ st5 b hb
          exact (I7'.pin (b, o) (List.mem_append_right _ (List.mem_append_right _ (mem_pinsAt hb e)))).2.1
        refine hb.run A S (ip ++ pinsAt fp s5.heap) R n ys s₀ _ _ (kFor tg (.ref it) body X.env) (eeFor X.env) id id s6 σ6 H6 { D with nx := N, ct := N, bk := D.nx } (gl2 _) hn ⟨fun n' ys' s₀' s7 f hn' hs => ?_, fun n' s₀' x s7 hx => ee n' s₀' x s7 hx⟩ ⟨acc, cc, r, I6⟩ q6
        cases f with
        | next =>
          obtain ⟨σ7, H7, I7, n7⟩ := hs
          exact again hn' I7 n7
        | cont =>
          obtain ⟨σ7, H7, I7, n7⟩ := hs
          exact again hn' I7 n7
        | brk =>
          obtain ⟨σ7, H7, ⟨acc7, cc7, r7, I7⟩, q7⟩ := hs
          have I7' : Inv X (((S, lstObj acc7 cc7) :: ip) ++ pinsAt fp s5.heap) σ7 H7 s7 := I7
          exact seg_leaf (.ok .next) (k.ok n' ys' s₀' s7 .next hn' ⟨σ7, H7, ⟨acc7, cc7, r7, I7'.unpinned⟩, q7⟩)
        | ret v =>
          obtain ⟨x7, σ7, H7, ⟨acc7, cc7, r7, I7⟩, rv, q7⟩ := hs
          have I7' : Inv X (((S, lstObj acc7 cc7) :: ip) ++ pinsAt fp s5.heap) σ7 H7 s7 := I7
          exact seg_leaf (.ok (.ret v)) (k.ok n' ys' s₀' s7 (.ret v) hn' ⟨x7, σ7, H7, ⟨acc7, cc7, r7, I7'.unpinned⟩, rv, q7⟩)
  exact loop m0 n 0 ys s₀ s2 σ H2 hn w0 ⟨acc0, cc0, r0, I2⟩ st2 fun b hb => (f2 b hb).1
end
end L2

set_option Elab.async false
set_option maxRecDepth 100000
set_option maxHeartbeats 4000000
/-! L48: generator defs over plain values. -/
namespace L2
open PySem PySem.Spec PyProof.Rows
theorem gs_imp {X : Cx} {st : Stmt} {t t' : TGn} (h : GS X st t) (hi : ∀ D ys σ H, t' D ys σ H → t D ys σ H) : GS X st t' :=
  ⟨fun A S ip R n ys s₀ c fs K J gd lv s σ H D g hn k hI ht => h.run A S ip R n ys s₀ c fs K J gd lv s σ H D g hn k hI (hi D ys σ H ht)⟩
theorem gss_imp {X : Cx} {st : List Stmt} {t t' : TGn} (h : GSs X st t) (hi : ∀ D ys σ H, t' D ys σ H → t D ys σ H) : GSs X st t' :=
  ⟨fun A S ip R n ys s₀ c fs K J gd lv s σ H D g hn k hI ht => h.run A S ip R n ys s₀ c fs K J gd lv s σ H D g hn k hI (hi D ys σ H ht)⟩
def tGIf (c : TT) (t u : TGn) : TGn := fun D ys σ H => c σ H fun b H1 => if b = true then t D ys σ H1 else u D ys σ H1
theorem gs_if {X : Cx} {c : Expr} {a b : List Stmt} {pos : Pos} {tc : TT} {t u : TGn} (hc : PT X c tc) (ha : GSs X a t) (hb : GSs X b u) : GS X (.If c a b pos) (tGIf tc t u) := by
  refine ⟨fun A S ip R n ys s₀ c fs K J gd lv s σ H D g hn k hI ht => ?_⟩
  obtain ⟨acc, cc, r, I⟩ := hI
  rw [exec_If]
  refine seg_bw (wpAny_standAt ?_)
  refine seg_bw ?_
  rw [g.over]
  refine wpAny_mono (hc.run _ s σ H _ I ht) (fun d s1 ⟨H1, I1, q1⟩ => ?_) fun x s' hx => k.exc n s₀ x s' hx
  cases d with
  | true => exact ha.run A S ip R n ys s₀ _ fs K J gd lv s1 σ H1 D g hn k ⟨acc, cc, r, I1⟩ q1
  | false => exact hb.run A S ip R n ys s₀ _ fs K J gd lv s1 σ H1 D g hn k ⟨acc, cc, r, I1⟩ q1
end L2
namespace L3
open PySem PySem.Spec PyProof.Rows L2
structure EndsG where
  nx : List D → Env3 → Reg → Prop
  rt : List D → Res → Reg → Prop
  bk : List D → Env3 → Reg → Prop := fun _ _ _ => False
  ct : List D → Env3 → Reg → Prop := fun _ _ _ => False
abbrev DGn := EndsG → List D → Env3 → Reg → Prop
def EndsG.at (W : EndsG) (ys : List D) : Ends3 := { nx := W.nx ys, rt := W.rt ys, bk := W.bk ys, ct := W.ct ys }
structure EndsGOk (K : PySem.W.Frag) (B : Base3) (F : Hp) (D3 : EndsG) (D : GEnds) : Prop where
  nx : ∀ {pn : Pend} ys E' G', D3.nx ys E' G' → ∀ us σ' F' H', St3 K B pn F' H' σ' E' G' → Same F F' → RepL K F' ys us → D.nx us σ' H'
  rt : ∀ {pn : Pend} ys r G', D3.rt ys r G' → ∀ us v F' H' σ' E', St3 K B pn F' H' σ' E' G' → Same F F' → RepL K F' ys us → RetR K B pn F' H' G' r v → D.rt us v H'
  bk : ∀ {pn : Pend} ys E' G', D3.bk ys E' G' → ∀ us σ' F' H', St3 K B pn F' H' σ' E' G' → Same F F' → RepL K F' ys us → D.bk us σ' H'
  ct : ∀ {pn : Pend} ys E' G', D3.ct ys E' G' → ∀ us σ' F' H', St3 K B pn F' H' σ' E' G' → Same F F' → RepL K F' ys us → D.ct us σ' H'
theorem EndsGOk.mono {K : PySem.W.Frag} {B : Base3} {F F' : Hp} {D3 : EndsG} {D : GEnds} (h : EndsGOk K B F D3 D) (s : Same F F') : EndsGOk K B F' D3 D :=
  ⟨fun ys E' G' q us σ' F2 H' S s' => h.nx ys E' G' q us σ' F2 H' S (s.trans s'), fun ys r G' q us v F2 H' σ' E' S s' => h.rt ys r G' q us v F2 H' σ' E' S (s.trans s'), fun ys E' G' q us σ' F2 H' S s' => h.bk ys E' G' q us σ' F2 H' S (s.trans s'), fun ys E' G' q us σ' F2 H' S s' => h.ct ys E' G' q us σ' F2 H' S (s.trans s')⟩
theorem EndsGOk.at {K : PySem.W.Frag} {B : Base3} {F : Hp} {D3 : EndsG} {W : GEnds} {ys : List D} {us : List V} (h : EndsGOk K B F D3 W) (r : RepL K F ys us) : EndsOk K B F (D3.at ys) (W.at us) :=
  ⟨fun E' G' q σ' F' H' S s => h.nx ys E' G' q us σ' F' H' S s (RepL.mono s _ _ r), fun x G' q v F' H' σ' E' S s rv => h.rt ys x G' q us v F' H' σ' E' S s (RepL.mono s _ _ r) rv,
   fun E' G' q σ' F' H' S s => h.bk ys E' G' q us σ' F' H' S s (RepL.mono s _ _ r), fun E' G' q σ' F' H' S s => h.ct ys E' G' q us σ' F' H' S s (RepL.mono s _ _ r)⟩
def LiftGn (K : PySem.W.Frag) (B : Base3) (t : DGn) : TGn := fun D us σ H => ∃ pn F E G D3 ys, St3 K B pn F H σ E G ∧ RepL K F ys us ∧ t D3 ys E G ∧ EndsGOk K B F D3 D
structure LGS (X : Cx) (B : Base3) (st : Stmt) (t : DGn) : Prop where
  gs : GS X st (LiftGn X.K B t)
structure LGSs (X : Cx) (B : Base3) (st : List Stmt) (t : DGn) : Prop where
  gss : GSs X st (LiftGn X.K B t)
/-- nothing is handed out -/
def dGPlain (t : DSt) : DGn := fun D ys E G => t (D.at ys) E G
def dGYield (te : DE) : DGn := fun D ys E G => ys.length < sizeLine ∧ te E G fun r E1 G1 => ∃ d E2, r.ice E1 = some (d, E2) ∧ D.nx (ys ++ [d]) E2 G1
def dGNil : DGn := fun D ys E G => D.nx ys E G
def dGSeq (t u : DGn) : DGn := fun D ys E G => t { D with nx := u D } ys E G
def dGIf (c : DT) (t u : DGn) : DGn := fun D ys E G => c E G fun b E1 G1 => if b = true then t D ys E1 G1 else u D ys E1 G1
def dGForL (g : DG) (tb : DGn) : List D → DGn
  | [], D, ys, E, G => D.nx ys E G
  | d :: ds, D, ys, E, G => g d E G fun E1 G1 => tb { D with nx := fun zs E2 G2 => dGForL g tb ds D zs E2 G2, ct := fun zs E2 G2 => dGForL g tb ds D zs E2 G2, bk := D.nx } ys E1 G1
def dGFor (di : DI) (g : DG) (tb : DGn) : DGn := fun D ys E G => di E G fun ds E1 G1 => dGForL g tb ds D ys E1 G1
section
variable {X : Cx} {B : Base3}
theorem lgs_plain {st : Stmt} {t : DSt} (h : LS X B st t) : LGS X B st (dGPlain t) :=
  ⟨gs_imp (gs_ps h.ps) fun D us σ H ⟨pn, F, E, G, D3, ys, S, r, h, ok⟩ => ⟨pn, F, E, G, _, S, h, ok.at r⟩⟩
theorem lgss_nil : LGSs X B [] dGNil :=
  ⟨gss_imp gss_nil fun D us σ H ⟨pn, F, E, G, D3, ys, S, r, h, ok⟩ => ok.nx ys E G h us σ F H S (Same.refl F) r⟩
theorem lgss_cons {st : Stmt} {rest : List Stmt} {t u : DGn} (a : LGS X B st t) (b : LGSs X B rest u) : LGSs X B (st :: rest) (dGSeq t u) :=
  ⟨gss_imp (gss_cons a.gs b.gss) fun D us σ H ⟨pn, F, E, G, D3, ys, S, r, h, ok⟩ => ⟨pn, F, E, G, _, ys, S, r, h, ⟨fun {pn'} zs E' G' q vs σ' F' H' S' s' r' => ⟨pn', F', E', G', D3, zs, S', r', q, ok.mono s'⟩, ok.rt, ok.bk, ok.ct⟩⟩⟩
theorem lgs_yield {e : Expr} {yp pos : Pos} {te : DE} (he : LE X B e te) (hco : X.env.scope.isCoroutine = false := by rfl) (hi : interactive X.env = false := by rfl) : LGS X B (.Expr (.Yield (some e) yp) pos) (dGYield te) :=
  ⟨gs_imp (gs_yield he.pe hco hi) fun D us σ H ⟨pn, F, E, G, D3, ys, S, r, ⟨hlt, h⟩, ok⟩ => ⟨by rw [← r.length]; exact hlt, pn, F, E, G, _, S, h, fun x E1 G1 ⟨d, E2, hd, h1⟩ v F1 H1 S1 s1 r1 => by
    obtain ⟨F2, S2, s2, r2⟩ := S1.ice r1 hd
    exact ok.nx _ E2 G1 h1 _ σ F2 H1 S2 (s1.trans s2) ((RepL.mono (s1.trans s2) _ _ r).append (.cons r2 .nil))⟩⟩
theorem lgs_if {c : Expr} {a b : List Stmt} {tc : DT} {t u : DGn} {pos : Pos} (hc : LT X B c tc) (ha : LGSs X B a t) (hb : LGSs X B b u) : LGS X B (.If c a b pos) (dGIf tc t u) :=
  ⟨gs_imp (gs_if hc.pt ha.gss hb.gss) fun D us σ H ⟨pn, F, E, G, D3, ys, S, r, h, ok⟩ => ⟨pn, F, E, G, _, S, h, fun b E1 G1 h1 F1 H1 S1 s1 => by
    cases b with
    | true => exact ⟨pn, F1, E1, G1, D3, ys, S1, RepL.mono s1 _ _ r, h1, ok.mono s1⟩
    | false => exact ⟨pn, F1, E1, G1, D3, ys, S1, RepL.mono s1 _ _ r, h1, ok.mono s1⟩⟩⟩
theorem lgs_for {tg iter : Expr} {body : List Stmt} {di : DI} {g : DG} {vs : List Nat} {tb : DGn} {pos : Pos} (hp : PassesOwn (model X.prog X.w) X.A X.env X.xe) (hc : X.calm = true) (hi : LI X B tg iter di) (hg : LG X B vs tg g) (hb : LGSs X B body tb)
    (hs : ∀ x, foldedSetIterable iter X.env x = pure x := by intro _; rfl) : LGS X B (.For tg iter body [] pos) (dGFor di g tb) :=
  ⟨gs_imp (gs_for hp hc hi.pi hg.pg hb.gss hs) fun D us σ H ⟨pn, F, E, G, D3, ys, S, r, h, ok⟩ => ⟨pn, F, E, G, _, S, h, fun ds E1 G1 h1 J F1 H1 S1 s1 wk => by
    refine ⟨fun i m us' σ' H' => ∃ pn F' E' G' zs, St3 X.K B pn F' H' σ' E' G' ∧ RepL X.K F' zs us' ∧ Same F1 F' ∧ m = ds.length - i ∧ i ≤ ds.length ∧ dGForL g tb (ds.drop i) D3 zs E' G', ⟨ds.length, pn, F1, E1, G1, ys, S1, RepL.mono s1 _ _ r, Same.refl F1, rfl, Nat.zero_le _, h1⟩, ?_⟩
    rintro i m us2 σ2 H2 ⟨pn, F2, E2, G2, zs, S2, r2, s2, rfl, hi, h2⟩
    by_cases hlt : i < ds.length
    · refine .inr ⟨wk.go pn F2 H2 σ2 E2 G2 i S2 s2 hlt, fun us' σ' H' => ∃ pn F' E' G' zs, St3 X.K B pn F' H' σ' E' G' ∧ RepL X.K F' zs us' ∧ Same F1 F' ∧ dGForL g tb (ds.drop (i + 1)) D3 zs E' G', fun us' σ' H' ⟨pn, F', E', G', zs, S', r', s', h'⟩ => ⟨ds.length - (i + 1), by omega, pn, F', E', G', zs, S', r', s', rfl, hlt, h'⟩, fun x H' y => ?_⟩
      obtain ⟨F3, S3, s3, d, hd, rd⟩ := wk.yld pn F2 H2 σ2 E2 G2 i x H' S2 s2 hlt y
      rw [List.drop_eq_getElem_cons hlt] at h2
      have ed : ds[i] = d := by
        rw [List.getElem?_eq_getElem hlt] at hd
        exact Option.some.inj hd
      rw [ed] at h2
      refine ⟨pn, F3, E2, G2, _, d, S3, rd, h2, fun E4 G4 h4 σ4 F4 H4 S4 s4 _ => ?_⟩
      have ss : Same F1 F4 := (s2.trans s3).trans s4
      refine ⟨pn, F4, E4, G4, _, zs, S4, RepL.mono (s3.trans s4) _ _ r2, h4, ⟨fun ws E5 G5 q us5 σ5 F5 H5 S5 s5 r5 => ⟨_, F5, E5, G5, ws, S5, r5, ss.trans s5, q⟩, fun ws r G5 q us5 v F5 H5 σ5 E5 S5 s5 r5 rr => ok.rt ws r G5 q us5 v F5 H5 σ5 E5 S5 ((s1.trans ss).trans s5) r5 rr,
        fun ws E5 G5 q us5 σ5 F5 H5 S5 s5 r5 => ok.nx ws E5 G5 q us5 σ5 F5 H5 S5 ((s1.trans ss).trans s5) r5, fun ws E5 G5 q us5 σ5 F5 H5 S5 s5 r5 => ⟨_, F5, E5, G5, ws, S5, r5, ss.trans s5, q⟩⟩⟩
    · have e : i = ds.length := by omega
      subst e
      rw [List.drop_length] at h2
      exact .inl ⟨wk.stop pn F2 H2 σ2 E2 G2 _ S2 s2 (Nat.le_refl _), ok.nx zs E2 G2 h2 us2 σ2 F2 H2 S2 (s1.trans s2) r2⟩⟩⟩
end
/-! ### promises -/
abbrev DSpG := List D → Reg → (List D → Reg → Prop) → (Exc3 → Reg → Prop) → Prop
/-- no class of that name ends an iterator -/
def NoStopN (K : PySem.W.Frag) (nms : List Str) : Prop := ∀ nm ∈ nms, ∀ C, ClsN K nm C → PySem.W.subIn K (.ref C) (.type "StopIteration") = some false
def LSpG (K : PySem.W.Frag) (sp : DSpG) : SpG := fun vs H Q E => ∃ F G ds k kx, Wld K F H G ∧ RepL K F ds vs ∧ sp ds G k kx ∧
  (∀ es G', k es G' → ∀ us F' H', After K F H G F' H' G' → RepL K F' es us → Q us H') ∧
  (∀ x G', kx x G' → ∀ cls dd F' H', After K F H G F' H' G' → RepX K F' x cls dd → E cls dd H')
section
variable {P : Program} {w : World} {K : PySem.W.Frag} {mg : Str → Option Value} {base : Heap}
theorem okG3 {x qual : Str} {st : Stmt} {f : Addr} {fd : FuncData} {N ps : List Str} {k : Nat} {sp : DSpG} (F : Fun K x qual st f fd) (S : GScope N ps (defScope st)) (len : ∀ ds G q e, sp ds G q e → ds.length = ps.length)
    (body : ∀ (cdv : Value) (A : Around) (outer : List Env) (s : Shared) (H : Hp) (E : XK) (pn : List (Addr × Obj)) (B : Base3) (dw : Exc3 → Reg → Prop), Room k (A.deeper (envOfC qual (defScope st) s.heap.objs.size f cdv)) →
      WOkL (gcxOf P w K mg base N qual (defScope st) f cdv A outer s H E pn) B (fun x _ G => dw x G) →
      ∃ t : DGn, LGSs (gcxOf P w K mg base N qual (defScope st) f cdv A outer s H E pn) B (defBody st) t ∧ ∀ ds G q, sp ds G q dw → t { nx := fun ys _ G' => q ys G', rt := fun ys r G' => r = .val .non ∧ q ys G' } [] (start3 N ds) G) :
    GFn P w K mg base (k + 1) f fd ps (LSpG K sp) := by
  obtain ⟨oc, od, kV, doc, pm, an, cdv, ct, osl, rfl, lk, hcd⟩ := F.ex
  refine gfn_of lk hcd S (fun vs H Q E h => ?_) fun A outer s H vs Q E pn hr h => ?_
  · obtain ⟨F, G, ds, q, e, _, r, h, _⟩ := h
    rw [← r.length]
    exact len _ _ _ _ h
  · obtain ⟨F, G, ds, q, e, wl, r, h, hq, he⟩ := h
    have wk : WOkL (gcxOf P w K mg base N qual (defScope st) f cdv A outer s H E pn) ⟨F, H, G.map (·.1), 0⟩ (fun x _ G => e x G) :=
      ⟨⟨fun cls d H => E cls d H, takes_gcx, fun pn F' H' σ E' G' x cls dd S' rx hx => he x G' hx cls dd F' H' S'.afterB rx⟩, lk_self⟩
    obtain ⟨t, hb, ht⟩ := body cdv A outer s H E pn ⟨F, H, G.map (·.1), 0⟩ e hr wk
    refine ⟨_, hb.gss, ⟨[], F, start3 N ds, G, _, [], start_st wl r, .nil, ht ds G q h, ⟨fun ys E' G' h' us σ' F' H' S' _ r' => hq _ _ h' us F' H' S'.afterB r', fun ys r' G' h' us v F' H' σ' E' S' _ ry rr => ?_, fun _ _ _ z => z.elim, fun _ _ _ z => z.elim⟩⟩⟩
    obtain ⟨rfl, h'⟩ := h'
    cases rr
    exact ⟨rfl, hq _ _ h' us F' H' S'.afterB ry⟩
end
section
variable {X : Cx} {B : Base3}
def dListG (sp : DSpG) (nms : List Str) (dw : DW) (ta : DA) : DE := fun E G k => ta E G fun ds E1 G1 => sp ds G1 (fun es G2 => k (.fr es) E1 G2) (fun x G2 => x.1 ∈ nms ∧ dw x E1 G2)
theorem le_listG {sp : DSpG} {nms : List Str} {dw : DW} {ta : DA} {j : Nat} {f : Addr} {fd : FuncData} {ps : List Str} {x : Str} {p p' pos pos' : Pos} {e : Expr} {es : List Expr} (Fn : GFn X.prog X.w X.K X.mg X.base j f fd ps (LSpG X.K sp)) (hr : Room (j + 3) X.A) (wk : WOkF X B dw) (hns : NoStopN X.K nms)
    (hg : Gl X x) (hm : X.mg x = some (.ref f)) (hk : PySem.W.keepIn X.K (.ref f) = true) (hb : Binds X.K fd ps []) (hgl : Gl X "list") (hml : X.mg "list" = none)
    (ha : LA X B (e :: es) ta) (hdb : (x == ("__debug__" : Str)) = false := by decide) (he : starEach (e :: es) X.env = (false, eval e X.env) :: starEach es X.env := by rfl) (hpl : (backTo pos' (starEach es X.env)).any (·.1) = false := by rfl)
    (he2 : starEach [.Call (.Name x p') (e :: es) [] pos'] X.env = (false, eval (.Call (.Name x p') (e :: es) [] pos') X.env) :: starEach [] X.env := by rfl) :
    LE X B (.Call (.Name "list" p) [.Call (.Name x p') (e :: es) [] pos'] [] pos) (dListG sp nms dw ta) := by
  obtain ⟨W, tk, hW⟩ := wk
  have hr' : Room j X.A := ⟨hr.hd, by have := hr.dp; omega, by have := hr.un; omega⟩
  refine ⟨pe_imp (pe_listG (E := fun cls dd H => W cls dd H ∧ PySem.W.subIn X.K cls (.type "StopIteration") = some false) (pgen_call Fn hr' hg hm hk hb .nil ha.pa hdb he hpl)
    (fun _ _ _ _ e s' I c => tk e s' (XE.of_call I (fun _ _ _ h => h.1) c)) (fun _ _ _ h => h.2) hr hgl hml rfl (he := he2)) fun σ H Q ⟨pn, F, E, G, k, S, ht, hk⟩ => ⟨pn, F, E, G, _, S, ht, fun ds E1 G1 h1 vs F1 H1 S1 s1 r1 => ?_⟩⟩
  refine ⟨F1, G1, ds, _, _, S1.w, by rw [List.append_nil]; exact r1, h1, fun es G' h2 us F2 H2 A r2 p np => ?_, fun x G' ⟨hin, h2⟩ cls dd F2 H2 A r2 => ⟨hW pn F2 H2 σ E1 G' x cls dd (S1.wldAfter A) r2 h2, ?_⟩⟩
  · have S2 := S1.wldAfter A
    obtain ⟨f, no⟩ := S2.newFre np r2
    exact hk _ _ _ h2 _ _ _ (S2.newU np) (s1.trans A.keepF) ⟨p, rfl, f, no⟩
  · obtain ⟨⟨C, hC, rfl⟩, _⟩ := r2
    exact hns _ hin C hC
end
end L3

set_option Elab.async false
set_option maxRecDepth 100000
set_option maxHeartbeats 4000000
/-! L49: short words for a generator def; no class of that name ends an iterator; loops of a generator's reading. -/
namespace L3
open PySem PySem.Spec PyProof.Rows L2
/-- a generator def of the module that keeps a promise over plain values -/
structure CalGn (P : Program) (w : World) (K : PySem.W.Frag) (mg : Str → Option Value) (base : Heap) (x : Str) (k : Nat) (ps : List Str) (sp : DSpG) : Prop where
  ex : ∃ (f : Addr) (fd : FuncData), GFn P w K mg base k f fd ps (LSpG K sp) ∧ mg x = some (.ref f) ∧ PySem.W.keepIn K (.ref f) = true ∧ Binds K fd ps []
theorem nsN_nil {K : PySem.W.Frag} : NoStopN K [] := fun nm h => by cases h
section
variable {P : Program} {w : World} {K : PySem.W.Frag} {mg : Str → Option Value} {base : Heap}
theorem calGn {x : Str} {st : Stmt} {k : Nat} {ps N : List Str} {sp : DSpG} (d : DefAt K mg x st)
    (hb : ∀ (kV doc pm : Value) (an : Option Addr) (cdv ct : Value) (us : List Value), us.length = ps.length → bindArgs (PySem.W.fnOf x x (defArgs st) (defBody st) (defScope st) .none kV doc pm an cdv ct) ⟨us, []⟩ = pure (ps.zip us))
    (S : GScope N ps (defScope st)) (len : ∀ ds G q e, sp ds G q e → ds.length = ps.length)
    (body : ∀ (f : Addr) (cdv : Value) (A : Around) (outer : List Env) (s : Shared) (H : Hp) (E : XK) (pn : List (Addr × Obj)) (B : Base3) (dw : Exc3 → Reg → Prop), Room k (A.deeper (envOfC x (defScope st) s.heap.objs.size f cdv)) →
      WOkL (gcxOf P w K mg base N x (defScope st) f cdv A outer s H E pn) B (fun x _ G => dw x G) →
      ∃ t : DGn, LGSs (gcxOf P w K mg base N x (defScope st) f cdv A outer s H E pn) B (defBody st) t ∧ ∀ ds G q, sp ds G q dw → t { nx := fun ys _ G' => q ys G', rt := fun ys r G' => r = .val .non ∧ q ys G' } [] (start3 N ds) G) :
    CalGn P w K mg base x (k + 1) ps sp := by
  obtain ⟨f, oc, od, an, osl, kV, doc, pm, cdv, ct, hm, l, c, kp⟩ := d.ex
  have F := fun_mk (st := st) l c kp
  exact ⟨f, _, okG3 F S len (fun cdv A outer s H E pn B dw hr wk => body f cdv A outer s H E pn B dw hr wk), hm, kp, F.binds hb⟩
end
section
variable {X : Cx} {B : Base3}
theorem le_listGn {x : Str} {k j : Nat} {ps : List Str} {sp : DSpG} {nms : List Str} {dw : DW} {ta : DA} {p p' pos pos' : Pos} {e : Expr} {es : List Expr} (c : CalGn X.prog X.w X.K X.mg X.base x k ps sp) (hr : Room j X.A) (hk : k + 3 ≤ j) (wk : WOkF X B dw) (hns : NoStopN X.K nms)
    (hg : Gl X x) (hgl : Gl X "list") (hml : X.mg "list" = none) (ha : LA X B (e :: es) ta)
    (hdb : (x == ("__debug__" : Str)) = false := by decide) (he : starEach (e :: es) X.env = (false, eval e X.env) :: starEach es X.env := by rfl) (hpl : (backTo pos' (starEach es X.env)).any (·.1) = false := by rfl)
    (he2 : starEach [.Call (.Name x p') (e :: es) [] pos'] X.env = (false, eval (.Call (.Name x p') (e :: es) [] pos') X.env) :: starEach [] X.env := by rfl) :
    LE X B (.Call (.Name "list" p) [.Call (.Name x p') (e :: es) [] pos'] [] pos) (dListG sp nms dw ta) := by
  obtain ⟨f, fd, Fn, hm, kp, hb⟩ := c.ex
  exact le_listG Fn (hr.mono hk) wk hns hg hm kp hb hgl hml ha hdb he hpl he2
end
/-! x *= e -/
def oMulI : Reg → D → D → (Res → Prop) → Prop := fun _ d e k => match d, e with
  | .int i, .int j => MulOk i j ∧ k (.val (.int (i * j)))
  | _, _ => False
section
variable {X : Cx} {B : Base3}
theorem ip_mulI : PIp X .Mult (rI MulOk fun i j => .int (i * j)) := opI (f := inplaceOp .Mult) fun _ _ _ _ _ _ _ hc q => imul_int q (hc.elim CMul.ok CMulW.ok)
theorem r_mulI : ROp X B (rI MulOk fun i j => .int (i * j)) oMulI := r_ii fun G d e k h => by
  unfold oMulI at h
  split at h
  · exact ⟨_, _, rfl, rfl, h.1, h.2⟩
  · exact h.elim
end
/-- a loop of a generator's reading, by what holds at its head -/
theorem gfor_ind {g : DG} {tb : DGn} {Dn : EndsG} (I : List D → List D → Env3 → Reg → Prop) (hend : ∀ ys E G, I [] ys E G → Dn.nx ys E G)
    (step : ∀ d ds ys E G (nx : List D → Env3 → Reg → Prop), I (d :: ds) ys E G → (∀ ys' E' G', I ds ys' E' G' → nx ys' E' G') → g d E G fun E1 G1 => tb { Dn with nx := nx, ct := nx, bk := Dn.nx } ys E1 G1) :
    ∀ ds ys E G, I ds ys E G → dGForL g tb ds Dn ys E G
  | [], ys, E, G, h => hend ys E G h
  | d :: ds, ys, E, G, h => step d ds ys E G _ h fun ys' E' G' h' => gfor_ind I hend step ds ys' E' G' h'
end L3

set_option Elab.async false
set_option maxRecDepth 100000
set_option maxHeartbeats 4000000
/-! L24: a, b = x, [..] where a name is lent to a comprehension. -/
namespace L3
open PySem PySem.Spec PyProof.Rows L2
section
variable {X : Cx} {B : Base3}
end
end L3

set_option Elab.async false
/-! L25: a statement that the reckoning does not cover. -/
namespace L3
open PySem PySem.Spec PyProof.Rows L2
end L3

set_option Elab.async false
set_option maxRecDepth 100000
set_option maxHeartbeats 4000000
/-! GE: next((a for a, b in enumerate(a list of ints) if b != 0), None). -/
namespace GN
open PySem PySem.Spec PyProof.Rows L2 GxR
/-- the place of the first one that is not 0 -/
def nz : List Int → Option Nat
  | [] => none
  | p :: ps => if p = 0 then (nz ps).map (· + 1) else some 0
section
variable {prog : Program} {w : World} {scope : Scope} {xa xb : Str} {cenv : Env} {K0 : Shared} {e it C l : Addr} {items : Array Value} {ps : List Int}
end
section
variable {X : Cx} {c P : Addr} {xa xb : Str} {scope : Scope} {e : Expr} {ta : TA} {k : Nat} {pn pe p1 p2 p5 q1 q4 q5 q6 gpos epos pos cp : Pos} {k1 j1 j2 : Nat}
end
end GN

set_option Elab.async false
set_option maxRecDepth 100000
set_option maxHeartbeats 4000000
/-! L26: next((a for a, b in enumerate(row) if b != 0), None), read over plain values. -/
namespace L3
open PySem PySem.Spec PyProof.Rows L2 LamX
section
variable {X : Cx} {B : Base3}
end
end L3

set_option Elab.async false
set_option maxRecDepth 100000
set_option maxHeartbeats 4000000
/-! L27: the greatest of a tuple of ints. -/
namespace L3
open PySem PySem.Spec PyProof.Rows L2
section
variable {X : Cx}
end
end L3

set_option Elab.async false
set_option maxRecDepth 100000
set_option maxHeartbeats 4000000
/-! L21: str(x), x an instance whose class has a __str__ of its own. -/
namespace L3
open PySem PySem.Spec PyProof.Rows L2
section
variable {X : Cx} {B : Base3}
end
end L3

set_option Elab.async false
set_option maxRecDepth 100000
set_option maxHeartbeats 4000000
/-! L22: x != y of two instances whose class has an __eq__ of its own and no __ne__. -/
namespace L3
open PySem PySem.Spec PyProof.Rows L2
section
variable {prog : Program} {w : World} {A : Around} {E : Value → Shared → Prop} {s : Shared} {K : PySem.W.Frag} {x C L f : Addr} {h₀ : Heap} {m : Str → Option Value} {ox : Obj} {od : Option Obj} {b tb : Value}
end
section
variable {X : Cx} {B : Base3}
end
end L3

set_option Elab.async false
set_option maxRecDepth 100000
set_option maxHeartbeats 4000000
/-! L28: xs == ys, two lists of instances whose class has an __eq__ of its own, pairwise equal. -/
namespace L3
open PySem PySem.Spec PyProof.Rows L2
section
variable {K : PySem.W.Frag} {B : Base3} {pn : Pend} {F H H' : Hp} {σ : L2.St} {E : Env3} {G : Reg}
end
section
variable {X : Cx} {n : Nat} {D : Eqv}
end
section
variable {X : Cx} {B : Base3}
end
end L3

set_option Elab.async false
set_option maxRecDepth 100000
set_option maxHeartbeats 4000000
/-! L20: found[i] += e, found a list that its name owns, of whole numbers. -/
namespace L3
open PySem PySem.Spec PyProof.Rows L2
end L3

set_option Elab.async false
set_option maxRecDepth 100000
set_option maxHeartbeats 4000000
/-! L29: dicts read: d[k], k in d, len(d), d.get(k, x). -/
namespace L3
open PySem PySem.Spec PyProof.Rows L2
/-! ### keys -/
def keyK : D → Option Key
  | .int i => some (.inl i)
  | .str x => some (.inr x)
  | _ => none
def keysK : List D → Option (List Key)
  | [] => some []
  | d :: ds => match keyK d, keysK ds with
    | some a, some r => some (a :: r)
    | _, _ => none
def lkD {κ : Type} [DecidableEq κ] (ks : List κ) (ds : List D) (k : κ) : Option D := ((ks.zip ds).find? fun p => decide (p.1 = k)).map (·.2)
/-- what the dict d holds at the key e -/
def lookD (d e : D) : Option (Option D) := match d, e with
  | .dcT ks ds, .tup es => (keysK es).map (lkD ks ds)
  | .dcK ks ds, .int i => some (lkD ks ds (.inl i))
  | .dcK ks ds, .str x => some (lkD ks ds (.inr x))
  | _, _ => none
section
variable {K : PySem.W.Frag} {F H : Hp}
theorem keyK_rep {d : D} {v : V} {k : Key} (r : Rep K F d v) (h : keyK d = some k) : v = kV k := by
  cases d with
  | int i => cases h; cases r; rfl
  | str x => cases h; cases r; rfl
  | _ => cases h
theorem keysK_rep : ∀ {ds : List D} {vs : List V} {ks : List Key}, RepL K F ds vs → keysK ds = some ks → vs = ks.map kV
  | _, _, _, .nil, h => by cases h; rfl
  | d :: ds, v :: vs, ks, .cons r t, h => by
    unfold keysK at h
    split at h
    · rename_i a b h1 h2
      cases h
      rw [keyK_rep r h1, keysK_rep t h2, List.map_cons]
    · cases h
theorem lk_rep {κ : Type} [DecidableEq κ] : ∀ {ks : List κ} {ds : List D} {xs : List V} (k : κ), RepL K F ds xs → (∀ d, lkD ks ds k = some d → ∃ v, valV (ks.zip xs) k = some v ∧ Rep K F d v) ∧ (lkD ks ds k = none → valV (ks.zip xs) k = none)
  | [], _, _, _, _ => ⟨fun _ h => by simp [lkD] at h, fun _ => by rw [List.zip_nil_left]; rfl⟩
  | _ :: _, _, _, _, .nil => ⟨fun _ h => by simp [lkD] at h, fun _ => rfl⟩
  | a :: ks, d :: ds, v :: vs, k, .cons r t => by
    have ih := lk_rep (ks := ks) k t
    unfold lkD at ih ⊢
    rw [List.zip_cons_cons, List.zip_cons_cons]
    by_cases e : a = k
    · rw [valV_pos (p := (a, v)) e, List.find?_cons_of_pos (by simp [e])]
      exact ⟨fun d' h => by cases h; exact ⟨_, rfl, r⟩, fun h => by cases h⟩
    · rw [valV_neg (p := (a, v)) e, List.find?_cons_of_neg (by simp [e])]
      exact ih
/-- a reading of a dict -/
theorem dget_of (s : Same F H) {d e : D} {x y : V} {o : Option D} (rx : RepH K F H d x) (ry : RepH K F H e y) (h : lookD d e = some o) :
    ∃ a r, x = .ref a ∧ DGet H a y r ∧ (∀ d', o = some d' → ∃ v, r = some v ∧ Rep K F d' v) ∧ (o = none → r = none) := by
  unfold lookD at h
  split at h
  · obtain ⟨q, hq, rfl⟩ := Option.map_eq_some_iff.mp h
    obtain ⟨a, ob, xs, rfl, e1, hl, ra⟩ := rx.dct s
    obtain ⟨b, ys, rfl, e2, rb⟩ := ry.tupX s
    obtain ⟨h1, h2⟩ := lk_rep (ks := _) q ra
    rw [keysK_rep rb hq] at e2
    exact ⟨a, _, rfl, .inr ⟨_, q, b, .inr ⟨ob, e1⟩, rfl, e2, rfl⟩, h1, h2⟩
  · cases h
    obtain ⟨a, ob, xs, rfl, e1, hl, ra⟩ := rx.dck s
    obtain ⟨h1, h2⟩ := lk_rep (κ := Key) (ks := _) (Sum.inl _) ra
    exact ⟨a, _, rfl, .inl ⟨_, .inl _, .inr ⟨ob, e1⟩, ry.int, rfl⟩, h1, h2⟩
  · cases h
    obtain ⟨a, ob, xs, rfl, e1, hl, ra⟩ := rx.dck s
    obtain ⟨h1, h2⟩ := lk_rep (κ := Key) (ks := _) (Sum.inr _) ra
    exact ⟨a, _, rfl, .inl ⟨_, .inr _, .inr ⟨ob, e1⟩, ry.str, rfl⟩, h1, h2⟩
  · cases h
end
section
variable {X : Cx} {B : Base3}
/-! ### d[k] -/
def rDIx : R2 := fun x y H Q => ∃ a v, x = .ref a ∧ DGet H a y (some v) ∧ Q v H
theorem ix_dict (hu : X.A.units + 1 < cLine) : IxR X rDIx := by
  intro value slice pins s σ H x y v u Q I rx ry h hs
  obtain ⟨a, z, rfl, g, q⟩ := h
  obtain rfl : v = Value.ref a := rx
  have hT := dict_typeIs I g
  unfold subscriptTail
  refine wpAny_bind ?_
  rw [getitemInPython_of_ne hT.not_modules]
  refine wpAny_bind (wpAny_specialOf hT PySem.F.slot_dict_getitem.lookup ?_)
  have fin : wpAny (model X.prog X.w) X.A (subscripted slice false (.ref a) u) (fun r s₃ => wpAny (model X.prog X.w) X.A (letTemporaryGo value (.ref a) r >>= fun _ => pure r) (EP X pins σ Q) X.xe s₃) X.xe s := by
    rw [hs]
    exact wpAny_operating (wpAny_mono (d_getItem hu I g ry fun w' s3 I3 rw' => (show EP X pins σ Q w' s3 from ⟨z, H, I3, rw', q⟩)) (fun r s₃ h₃ => wpAny_bind (wpAny_letTemporaryGo (wpAny_pure h₃))) fun _ _ x => x)
  first
    | exact wpAny_pure (wpAny_bind fin)
    | exact wpAny_bind (wpAny_pure (wpAny_bind fin))
    | exact wpAny_bind fin
def oIxU : Reg → D → D → (Res → Prop) → Prop := fun G d e k => match d with
  | .dcT ks ds => ∃ v, lookD (.dcT ks ds) e = some (some v) ∧ k (.val v)
  | .dcK ks ds => ∃ v, lookD (.dcK ks ds) e = some (some v) ∧ k (.val v)
  | d => oIx G d e k
theorem r_ixU : ROp X B (fun x y H Q => rIx X.K x y H Q ∨ rDIx x y H Q) oIxU := by
  intro pn F H σ E G x y d e k Q S rx ry h hk
  unfold oIxU at h
  split at h
  · obtain ⟨v, hv, h⟩ := h
    obtain ⟨a, r, rfl, g, h1, _⟩ := dget_of S.w.sub rx ry hv
    obtain ⟨u, rfl, ru⟩ := h1 _ rfl
    exact .inr ⟨a, u, rfl, g, hk _ h _ F H S (Same.refl F) ru⟩
  · obtain ⟨v, hv, h⟩ := h
    obtain ⟨a, r, rfl, g, h1, _⟩ := dget_of S.w.sub rx ry hv
    obtain ⟨u, rfl, ru⟩ := h1 _ rfl
    exact .inr ⟨a, u, rfl, g, hk _ h _ F H S (Same.refl F) ru⟩
  · exact .inl (r_ix3 pn F H σ E G x y _ e k Q S rx ry h hk)
theorem le_itemU {a b : Expr} {ta tb : DE} {pos} (hu : X.A.units + 1 < cLine) (ha : LE X B a ta) (hb : LE X B b tb) (hs : PlainIx b := by exact fun _ _ => rfl) : LE X B (.Subscript a b pos) (dOp oIxU ta tb) := le_ix (ix_seq.or (ix_dict hu)) r_ixU ha hb hs
theorem room1 {k : Nat} {A : Around} (r : Room k A) : A.units + 1 < cLine := by have := room65 r; omega
section
variable {a b : Expr} {ta tb : DE} {pos : Pos}
end
end
end L3

set_option Elab.async false
set_option maxRecDepth 100000
set_option maxHeartbeats 4000000
/-! L50: list(range(n)); a dict of three constant pairs. -/
namespace L3
open PySem PySem.Spec PyProof.Rows L2
section
variable {X : Cx} {B : Base3}
def dLstRg1 (ta : DE) : DE := fun E G k => ta E G fun x E1 G1 => ∃ j, x = .val (.int j) ∧ RgOk 0 j ∧ k (.fr (rangeD 0 j.toNat)) E1 G1
theorem le_listRg1 {a : Expr} {ta : DE} {p p2 pos pos2 : Pos} (hc : X.calm = true) (hg : Gl X "list") (hm : X.mg "list" = none) (hg2 : Gl X "range") (hm2 : X.mg "range" = none) (ha : LE X B a ta)
    (na : starEach [.Call (.Name "range" p2) [a] [] pos2] X.env = (false, eval (.Call (.Name "range" p2) [a] [] pos2) X.env) :: starEach [] X.env := by rfl)
    (n1 : starEach [a] X.env = (false, eval a X.env) :: starEach [] X.env := by rfl) :
    LE X B (.Call (.Name "list" p) [.Call (.Name "range" p2) [a] [] pos2] [] pos) (dLstRg1 ta) :=
  ⟨pe_imp (pe_listRg hc hg hm (prg_1 hg2 hm2 ha.pe n1) na) fun σ H Q ⟨pn, F, E, G, k, S, ht, hk⟩ => ⟨pn, F, E, G, _, S, ht, fun x E1 G1 ⟨j, ex, ok, h1⟩ v F1 H1 S1 s1 r1 => by
    subst ex
    have r1 : Rep X.K F1 (.int j) v := r1
    cases r1
    refine ⟨j, rfl, ok, fun q nq => ?_⟩
    have rr : RepL X.K F1 (rangeD 0 j.toNat) (rgV 0 j) := by
      have := rgV_rep (K := X.K) (F := F1) 0 j
      rwa [Int.sub_zero] at this
    obtain ⟨f, no⟩ := S1.newFre nq rr
    exact hk _ _ _ h1 _ _ _ (S1.newU nq) s1 ⟨q, rfl, f, no⟩⟩⟩
theorem pc_gstr {x : Str} {i : Str} {pos : Pos} (hg : Gl X x) (hm : ∃ t, X.mg x = some (.str i t)) (hd : (x == ("__debug__" : Str)) = false := by decide) : PE X (.Name x pos) (tC (.str i)) := by
  obtain ⟨t, hm⟩ := hm
  exact pe_glob hg hm ⟨_, rfl⟩ hd
theorem pc_gint {x : Str} {i : Int} {pos : Pos} (hg : Gl X x) (hm : ∃ t, X.mg x = some (.int i t)) (hd : (x == ("__debug__" : Str)) = false := by decide) : PE X (.Name x pos) (tC (.int i)) := by
  obtain ⟨t, hm⟩ := hm
  exact pe_glob hg hm ⟨_, rfl⟩ hd
/-- {a: i, b: j, c: l} with texts as keys -/
theorem le_dictS3 {a b c : Str} {i j l : Int} {ea eb ec ei ej el : Expr} {pos : Pos} (ha : PE X ea (tC (.str a))) (hi : PE X ei (tC (.int i))) (hb : PE X eb (tC (.str b))) (hj : PE X ej (tC (.int j))) (hc : PE X ec (tC (.str c))) (hl : PE X el (tC (.int l)))
    (hm : mergeK [] [((.inr a : Key), V.int i), (.inr b, .int j), (.inr c, .int l)] = [(.inr a, .int i), (.inr b, .int j), (.inr c, .int l)]) :
    LE X B (.Dict [some ea, some eb, some ec] [ei, ej, el] pos) (dC (.dcK [.inr a, .inr b, .inr c] [.int i, .int j, .int l])) :=
  ⟨pe_imp (pe_lk (pe_disp (pps_cons ha hi (pps_cons hb hj (pps_cons hc hl pps_nil))) rfl rfl (by simp) (by show 3 ≤ 15; decide))) fun σ H Q ⟨pn, F, E, G, k, S, ht, hk⟩ => fun p hp => by
    refine ⟨upd_same, [(.inr a, .int i), (.inr b, .int j), (.inr c, .int l)], rfl, by show 3 ≤ 15; decide, p, _, rfl, upd_same, trivial, fun od => ?_⟩
    rw [hm, upd_upd, upd_upd]
    obtain ⟨S1, s1⟩ := S.newF (o := .frz od (.dK [(.inr a, .int i), (.inr b, .int j), (.inr c, .int l)])) hp
    exact hk _ _ _ ht _ _ _ S1 s1 (.dcK (xs := [.int i, .int j, .int l]) upd_same rfl (.cons (.int i) (.cons (.int j) (.cons (.int l) .nil))))⟩
end
end L3

set_option Elab.async false
set_option maxRecDepth 100000
set_option maxHeartbeats 4000000
/-! L51: a or b, a being None or a list. -/
namespace L2
open PySem PySem.Spec PyProof.Rows
def tOrA (K : PySem.W.Frag) (ta tb : TE) : TE := fun σ H Q => ta σ H fun x H1 => (x = .non ∧ tb σ H1 Q) ∨ ∃ p ys, x = .ref p ∧ SqL K H1 p ys ∧ if ys = [] then tb σ H1 Q else Q x H1
section
variable {X : Cx} {a b : Expr} {rest : List Expr} {ta tb : TE} {pos : Pos}
theorem pe_orA (ha : PE X a ta) (hb : PE X (.BoolOp .Or (b :: rest) pos) tb) : PE X (.BoolOp .Or (a :: b :: rest) pos) (tOrA X.K ta tb) := by
  refine ⟨fun pins s σ H Q I h => ?_⟩
  refine BoolOp_or (thn (ha.run pins s σ H _ I h) fun v s1 ⟨x, H1, I1, r1, q1⟩ => ?_)
  have hs : sizeLine = 16777216 := sizeLine_eq
  rcases q1 with ⟨rfl, q⟩ | ⟨p, ys, rfl, hq, q⟩
  · cases r1
    exact truthy_none (hb.run pins s1 σ H1 Q I1 q)
  · obtain rfl : v = Value.ref p := r1
    obtain ⟨its, r', pl, hz⟩ := I1.list hq
    have hlen := r'.length
    have hz2 : its.length ≤ sizeLine := by rw [← hlen]; exact hz
    refine wpAny_truthy_list pl.isList (by simp only [List.size_toArray] <;> omega) ?_
    cases r' with
    | nil =>
      rw [if_pos rfl] at q
      exact hb.run pins _ σ H1 Q (I1.tok _) q
    | cons h t =>
      rw [if_neg (by simp)] at q
      exact ⟨.ref p, H1, I1.tok _, rfl, q⟩
end
end L2

namespace L3
open PySem PySem.Spec PyProof.Rows L2
def orK (r : Res) (yes no : Prop) : Prop := match r with
  | .val .non => no
  | .val (.lst ds) => if ds.isEmpty = true then no else yes
  | .fr ds => if ds.isEmpty = true then no else yes
  | _ => False
def dOrA (ta tb : DE) : DE := fun E G k => ta E G fun r E1 G1 => orK r (k r E1 G1) (tb E1 G1 k)
section
variable {X : Cx} {B : Base3}
theorem le_orA {a b : Expr} {rest : List Expr} {ta tb : DE} {pos : Pos} (ha : LE X B a ta) (hb : LE X B (.BoolOp .Or (b :: rest) pos) tb) : LE X B (.BoolOp .Or (a :: b :: rest) pos) (dOrA ta tb) :=
  ⟨pe_imp (pe_orA ha.pe hb.pe) fun σ H Q ⟨pn, F, E, G, k, S, ht, hk⟩ => ⟨pn, F, E, G, _, S, ht, fun r E1 G1 h1 v F1 H1 S1 s1 r1 => by
    have go : ∀ {ds : List D} {ys : List V}, RepL X.K F1 ds ys → (if ds.isEmpty = true then tb E1 G1 k else k r E1 G1) → if ys = [] then Lift X.K B tb σ H1 Q else Q v H1 := fun {ds ys} rl h => by
      cases rl with
      | nil =>
        rw [if_pos rfl]
        have h : tb E1 G1 k := h
        exact ⟨pn, F1, E1, G1, k, S1, h, fun x E2 G2 h2 u F2 H2 S2 s2 r2 => hk _ _ _ h2 u F2 H2 S2 (s1.trans s2) r2⟩
      | cons _ _ =>
        rw [if_neg (by simp)]
        exact hk _ _ _ h v F1 H1 S1 s1 r1
    unfold orK at h1
    split at h1
    · have r1 : Rep X.K F1 .non v := r1
      cases r1
      exact .inl ⟨rfl, pn, F1, E1, G1, k, S1, h1, fun x E2 G2 h2 u F2 H2 S2 s2 r2 => hk _ _ _ h2 u F2 H2 S2 (s1.trans s2) r2⟩
    · rename_i ds
      have r2 : Rep X.K F1 (.lst ds) v := r1
      cases r2 with
      | lst hs hl => exact .inr ⟨_, _, rfl, S1.w.sub.seq (.inl hs), go hl h1⟩
    · rename_i ds
      obtain ⟨p, rfl, f, no⟩ := r1
      obtain ⟨xs, hx, rx⟩ := f.ex
      exact .inr ⟨p, xs, rfl, SqL.of hx, go rx h1⟩
    · exact h1.elim⟩⟩
end
end L3

set_option Elab.async false
set_option maxRecDepth 100000
set_option maxHeartbeats 4000000
/-! K47: reckoned defs (printed by gen5.py) -/
namespace K47
open PySem PySem.Spec PyProof.Rows L2 L3
end K47

set_option Elab.async false
set_option maxRecDepth 100000
set_option maxHeartbeats 4000000
/-! K11: plain: words by number, all words in order. -/
namespace K11
open L3
/-- m letters of a number, most significant first -/
def digs (b : Nat) : Nat → Nat → List Int
  | 0, _ => []
  | m + 1, x => digs b m (x / b) ++ [((x % b : Nat) : Int) - 1]
def valI (b : Int) (ws : List Int) : Int := ws.foldl (fun a l => a * b + l + 1) 0
def manyW (p n : Nat) : Nat := if n = 0 then 1 else if n = 1 then p else (p - 1) * (p + 1) ^ (n - 1)
def wrd (p n k : Nat) : List Int :=
  if n = 0 then [] else if n = 1 then [if 0 < k then (k : Int) else -1] else digs (p + 1) (n - 1) (k / (p - 1)) ++ [((k % (p - 1) : Nat) : Int) + 1]
def maxI (ws : List Int) : Int := ws.foldl (fun a x => if x > a then x else a) 0
def numW (p : Int) (ws : List Int) : Int := if ws.length < 2 then maxI ws else valI (p + 1) ws.dropLast * (p - 1) + ws.getLast?.getD 0 - 1

theorem digs_len (b : Nat) : ∀ m x, (digs b m x).length = m
  | 0, _ => rfl
  | m + 1, x => by rw [digs, List.length_append, digs_len b m]; rfl
theorem digs_rng {b : Nat} (hb : 0 < b) : ∀ m x, ∀ y ∈ digs b m x, -1 ≤ y ∧ y + 1 < b
  | 0, _, y, h => by cases h
  | m + 1, x, y, h => by
    rw [digs] at h
    rcases List.mem_append.mp h with h | h
    · exact digs_rng hb m _ y h
    · rw [List.mem_singleton.mp h]
      have := Nat.mod_lt x hb
      omega
theorem valI_snoc (b : Int) (ws : List Int) (l : Int) : valI b (ws ++ [l]) = valI b ws * b + l + 1 := by
  unfold valI; rw [List.foldl_append]; rfl
theorem rev_ind {P : List Int → Prop} (h0 : P []) (hs : ∀ ws l, P ws → P (ws ++ [l])) : ∀ ws, P ws := by
  intro ws
  have : ∀ vs : List Int, P vs.reverse := by
    intro vs
    induction vs with
    | nil => exact h0
    | cons a r ih => rw [List.reverse_cons]; exact hs _ _ ih
  have q := this ws.reverse
  rwa [List.reverse_reverse] at q
theorem val_bd {b : Nat} (hb : 0 < b) : ∀ ws : List Int, (∀ y ∈ ws, -1 ≤ y ∧ y + 1 < b) → ∃ x : Nat, valI b ws = x ∧ x < b ^ ws.length ∧ digs b ws.length x = ws := by
  refine rev_ind (fun _ => ⟨0, rfl, by simp, rfl⟩) fun ws l ih h => ?_
  obtain ⟨x, e, hx, hd⟩ := ih fun y hy => h y (List.mem_append.mpr (.inl hy))
  have hl := h l (List.mem_append.mpr (.inr List.mem_cons_self))
  obtain ⟨c, hc⟩ : ∃ c : Nat, l + 1 = c := ⟨(l + 1).toNat, by omega⟩
  have hcb : c < b := by omega
  refine ⟨x * b + c, by rw [valI_snoc, e]; push_cast; omega, ?_, ?_⟩
  · rw [List.length_append, List.length_singleton, Nat.pow_succ]
    have : (x + 1) * b ≤ b ^ ws.length * b := Nat.mul_le_mul_right _ hx
    rw [Nat.add_mul, Nat.one_mul] at this
    omega
  · rw [List.length_append, List.length_singleton, digs]
    have e1 : (x * b + c) / b = x := by
      rw [Nat.mul_comm, Nat.mul_add_div hb, Nat.div_eq_of_lt hcb, Nat.add_zero]
    have e2 : (x * b + c) % b = c := by
      rw [Nat.mul_comm, Nat.mul_add_mod, Nat.mod_eq_of_lt hcb]
    rw [e1, e2, hd]
    congr 1
    have : (c : Int) - 1 = l := by omega
    rw [this]
/-! the order -/
theorem app_lt : ∀ {a c : List Int} (b d : List Int), a.length = c.length → a < c → a ++ b < c ++ d
  | [], [], _, _, _, h => absurd h (List.lt_irrefl _)
  | [], _ :: _, _, _, h, _ => by cases h
  | _ :: _, [], _, _, h, _ => by cases h
  | x :: a, y :: c, b, d, hl, h => by
    rw [List.cons_append, List.cons_append, List.cons_lt_cons_iff]
    rcases List.cons_lt_cons_iff.mp h with h | ⟨e, h⟩
    · exact .inl h
    · exact .inr ⟨e, app_lt b d (Nat.succ.inj hl) h⟩
theorem one_lt {u v : Int} (h : u < v) : ([u] : List Int) < [v] := List.cons_lt_cons_iff.mpr (.inl h)
theorem digs_lt {b : Nat} (hb : 0 < b) : ∀ m x y, x < y → y < b ^ m → digs b m x < digs b m y
  | 0, x, y, h, hy => by rw [Nat.pow_zero] at hy; omega
  | m + 1, x, y, h, hy => by
    rw [digs, digs]
    have hle : x / b ≤ y / b := Nat.div_le_div_right (Nat.le_of_lt h)
    by_cases e : x / b = y / b
    · rw [e]
      refine List.append_left_lt (one_lt ?_)
      have h1 := Nat.div_add_mod x b
      have h2 := Nat.div_add_mod y b
      rw [e] at h1
      omega
    · refine app_lt _ _ (by rw [digs_len, digs_len]) (digs_lt hb m _ _ (by omega) ?_)
      rw [Nat.pow_succ] at hy
      exact Nat.div_lt_of_lt_mul (by rw [Nat.mul_comm]; exact hy)
theorem wrd_len (p n k : Nat) : (wrd p n k).length = n := by
  unfold wrd
  by_cases h0 : n = 0
  · rw [if_pos h0]; exact h0.symm
  rw [if_neg h0]
  by_cases h1 : n = 1
  · rw [if_pos h1]; exact h1.symm
  rw [if_neg h1, List.length_append, digs_len]
  show n - 1 + 1 = n
  omega
theorem wrd_lt {p n : Nat} (hp : 2 ≤ p) {x y : Nat} (h : x < y) (hy : y < manyW p n) : wrd p n x < wrd p n y := by
  unfold manyW at hy
  unfold wrd
  by_cases h0 : n = 0
  · rw [if_pos h0] at hy; omega
  rw [if_neg h0] at hy ⊢
  rw [if_neg h0]
  by_cases h1 : n = 1
  · rw [if_pos h1, if_pos h1, if_pos (by omega : 0 < y)]
    refine one_lt ?_
    split <;> omega
  rw [if_neg h1] at hy ⊢
  rw [if_neg h1]
  have hb : 0 < p - 1 := by omega
  have hle : x / (p - 1) ≤ y / (p - 1) := Nat.div_le_div_right (Nat.le_of_lt h)
  by_cases e : x / (p - 1) = y / (p - 1)
  · rw [e]
    refine List.append_left_lt (one_lt ?_)
    have h1 := Nat.div_add_mod x (p - 1)
    have h2 := Nat.div_add_mod y (p - 1)
    rw [e] at h1
    omega
  · exact app_lt _ _ (by rw [digs_len, digs_len]) (digs_lt (by omega) _ _ _ (by omega) (Nat.div_lt_of_lt_mul hy))
/-! numbers of words -/
/-- a word's letters and its end -/
def Wrd (p : Nat) (ws : List Int) : Prop := (∀ x ∈ ws, -1 ≤ x ∧ x < p) ∧ (ws = [] ∨ ws = [-1] ∨ ∃ l, ws.getLast? = some l ∧ 0 < l)
theorem wrd_word {p n k : Nat} (hp : 2 ≤ p) (hk : k < manyW p n) : Wrd p (wrd p n k) := by
  unfold manyW at hk
  unfold wrd
  by_cases h0 : n = 0
  · rw [if_pos h0]; exact ⟨fun x h => (nomatch h), .inl rfl⟩
  rw [if_neg h0] at hk ⊢
  by_cases h1 : n = 1
  · rw [if_pos h1] at hk ⊢
    by_cases hz : 0 < k
    · rw [if_pos hz]
      exact ⟨fun x h => by rw [List.mem_singleton.mp h]; omega, .inr (.inr ⟨(k : Int), rfl, by omega⟩)⟩
    · rw [if_neg hz]
      exact ⟨fun x h => by rw [List.mem_singleton.mp h]; omega, .inr (.inl rfl)⟩
  rw [if_neg h1] at hk ⊢
  have hm := Nat.mod_lt k (show 0 < p - 1 by omega)
  refine ⟨fun x h => ?_, .inr (.inr ⟨((k % (p - 1) : Nat) : Int) + 1, by rw [List.getLast?_append]; rfl, by omega⟩)⟩
  rcases List.mem_append.mp h with h | h
  · have := digs_rng (show 0 < p + 1 by omega) _ _ x h
    omega
  · rw [List.mem_singleton.mp h]
    omega
theorem num_bd {p : Nat} (hp : 2 ≤ p) {ws : List Int} (h : Wrd p ws) : ∃ k : Nat, numW p ws = k ∧ k < manyW p ws.length ∧ wrd p ws.length k = ws := by
  obtain ⟨hr, he⟩ := h
  rcases he with rfl | rfl | ⟨l, hl, hl0⟩
  · exact ⟨0, rfl, (show 0 < 1 by decide), rfl⟩
  · exact ⟨0, rfl, by show 0 < p; omega, rfl⟩
  obtain ⟨ys, rfl⟩ := List.getLast?_eq_some_iff.mp hl
  have hlr := hr l (List.mem_append.mpr (.inr List.mem_cons_self))
  obtain ⟨c, rfl⟩ : ∃ c : Nat, l = (c : Int) + 1 := ⟨(l - 1).toNat, by omega⟩
  cases hy : ys with
  | nil =>
    refine ⟨c + 1, ?_, ?_, ?_⟩
    · show (if ((c : Int) + 1) > 0 then ((c : Int) + 1) else 0) = _
      rw [if_pos (by omega)]; omega
    · show c + 1 < p; omega
    · show [if 0 < c + 1 then (((c + 1 : Nat)) : Int) else -1] = [(c : Int) + 1]
      rw [if_pos (by omega)]; congr 1
  | cons a r =>
    rw [← hy]
    have hyl : 1 ≤ ys.length := by rw [hy]; simp
    have hlen : (ys ++ [(c : Int) + 1]).length = ys.length + 1 := by rw [List.length_append]; rfl
    obtain ⟨x, e, hx, hd⟩ := val_bd (b := p + 1) (by omega) ys fun y h => by
      have := hr y (List.mem_append.mpr (.inl h))
      omega
    have hc : c < p - 1 := by omega
    refine ⟨x * (p - 1) + c, ?_, ?_, ?_⟩
    · unfold numW
      rw [hlen, if_neg (by omega), List.dropLast_concat, List.getLast?_append]
      have e' : valI ((p : Int) + 1) ys = x := by rw [← e]; push_cast; rfl
      rw [e', show (([(c : Int) + 1] : List Int).getLast?.or ys.getLast?).getD 0 = (c : Int) + 1 from rfl]
      push_cast
      rw [show (((p - 1 : Nat)) : Int) = (p : Int) - 1 by omega]
      omega
    · unfold manyW
      rw [hlen, if_neg (by omega), if_neg (by omega), show ys.length + 1 - 1 = ys.length by omega]
      have : (x + 1) * (p - 1) ≤ (p + 1) ^ ys.length * (p - 1) := Nat.mul_le_mul_right _ hx
      rw [Nat.add_mul, Nat.one_mul, Nat.mul_comm _ (p - 1)] at this
      rw [Nat.mul_comm (p - 1)] at this
      rw [Nat.mul_comm (p - 1)]
      omega
    · unfold wrd
      rw [hlen, if_neg (by omega), if_neg (by omega), show ys.length + 1 - 1 = ys.length by omega]
      have e1 : (x * (p - 1) + c) / (p - 1) = x := by
        rw [Nat.mul_comm, Nat.mul_add_div (by omega), Nat.div_eq_of_lt hc, Nat.add_zero]
      have e2 : (x * (p - 1) + c) % (p - 1) = c := by
        rw [Nat.mul_comm, Nat.mul_add_mod, Nat.mod_eq_of_lt hc]
      rw [e1, e2, hd]
/-! all words in order -/
def lets (a : Int) (n : Nat) : List Int := (List.range n).map fun (k : Nat) => a + (k : Int)
def grow (ls : List Int) (W : List (List Int)) : List (List Int) := W.flatMap fun w => ls.map fun l => w ++ [l]
def allw (p : Nat) : Nat → List (List Int)
  | 0 => [[]]
  | i + 1 => grow (lets (-1) (p + 1)) (allw p i)
theorem grow_app (ls : List Int) (W V : List (List Int)) : grow ls (W ++ V) = grow ls W ++ grow ls V := by unfold grow; rw [List.flatMap_append]
theorem grow_one (ls : List Int) (w : List Int) : grow ls [w] = ls.map fun l => w ++ [l] := by unfold grow; simp
theorem grow_range (a : Int) {b : Nat} (hb : 0 < b) (f : Nat → List Int) : ∀ N, grow (lets a b) ((List.range N).map f) = (List.range (N * b)).map fun x => f (x / b) ++ [a + ((x % b : Nat) : Int)]
  | 0 => by rw [Nat.zero_mul]; rfl
  | N + 1 => by
    rw [List.range_succ, List.map_append, grow_app, grow_range a hb f N, Nat.add_mul, Nat.one_mul, List.range_add, List.map_append]
    congr 1
    rw [List.map_singleton, grow_one, lets, List.map_map, List.map_map]
    refine List.map_congr_left fun k hk => ?_
    have hk := List.mem_range.mp hk
    show f N ++ [a + (k : Int)] = f ((N * b + k) / b) ++ [a + (((N * b + k) % b : Nat) : Int)]
    rw [Nat.mul_comm N b, Nat.mul_add_div hb, Nat.div_eq_of_lt hk, Nat.add_zero, Nat.mul_add_mod, Nat.mod_eq_of_lt hk]
theorem allw_eq (p : Nat) : ∀ m, allw p m = (List.range ((p + 1) ^ m)).map (digs (p + 1) m)
  | 0 => by rw [Nat.pow_zero]; rfl
  | m + 1 => by
    rw [allw, allw_eq p m, grow_range (-1) (show 0 < p + 1 by omega), Nat.pow_succ]
    refine List.map_congr_left fun x _ => ?_
    show _ = digs (p + 1) m (x / (p + 1)) ++ [((x % (p + 1) : Nat) : Int) - 1]
    congr 2
    first | done | omega
def allW (p n : Nat) : List (List Int) := (List.range (manyW p n)).map (wrd p n)
theorem allW_pw {p n : Nat} (hp : 2 ≤ p) : (allW p n).Pairwise (· ≤ ·) := by
  unfold allW
  rw [List.pairwise_map]
  refine List.Pairwise.imp_of_mem (R := (· < ·)) (fun {a b} ha hb h => ?_) List.pairwise_lt_range
  exact List.le_of_lt (wrd_lt hp h (List.mem_range.mp hb))
theorem le_tot (a b : List Int) : (decide (a ≤ b) || decide (b ≤ a)) = true := by
  rcases List.le_total a b with h | h
  · rw [decide_eq_true h]; rfl
  · rw [decide_eq_true h]; simp
theorem sort_all {p n : Nat} (hp : 2 ≤ p) (hn : 1 ≤ n) : sortW (grow (lets 1 (p - 1)) (allw p (n - 1)) ++ (if n = 1 then [[-1]] else [])) = allW p n := by
  have hpw : (allW p n).Pairwise (fun a b => decide (a ≤ b) = true) := (allW_pw hp).imp fun h => decide_eq_true h
  by_cases h1 : n = 1
  · subst h1
    rw [if_pos rfl]
    have e : grow (lets 1 (p - 1)) (allw p 0) = (List.range (p - 1)).map fun k => [((k + 1 : Nat) : Int)] := by
      show grow _ [[]] = _
      rw [grow_one, lets, List.map_map]
      refine List.map_congr_left fun k _ => ?_
      show [] ++ [1 + (k : Int)] = [((k + 1 : Nat) : Int)]
      rw [List.nil_append]; congr 1; omega
    have e2 : allW p 1 = [-1] :: (List.range (p - 1)).map fun k => [((k + 1 : Nat) : Int)] := by
      show (List.range p).map (wrd p 1) = _
      obtain ⟨q, rfl⟩ : ∃ q, p = q + 1 := ⟨p - 1, by omega⟩
      rw [List.range_succ_eq_map, List.map_cons, List.map_map]
      congr 1
    rw [show (1 : Nat) - 1 = 0 from rfl, e]
    unfold sortW
    refine List.Perm.eq_of_pairwise (le := fun a b : List Int => decide (a ≤ b) = true) (fun a b _ _ h1 h2 => List.le_antisymm (of_decide_eq_true h1) (of_decide_eq_true h2)) (List.pairwise_mergeSort (le := fun a b : List Int => decide (a ≤ b)) (fun a b c h1 h2 => decide_eq_true (List.le_trans (of_decide_eq_true h1) (of_decide_eq_true h2))) le_tot _) hpw ?_
    rw [e2]
    exact (List.mergeSort_perm _ _).trans List.perm_append_comm
  · rw [if_neg h1, List.append_nil]
    have e : grow (lets 1 (p - 1)) (allw p (n - 1)) = allW p n := by
      rw [allw_eq, grow_range 1 (show 0 < p - 1 by omega)]
      unfold allW
      have : (p + 1) ^ (n - 1) * (p - 1) = manyW p n := by
        unfold manyW
        rw [if_neg (by omega), if_neg h1, Nat.mul_comm]
      rw [this]
      refine List.map_congr_left fun k _ => ?_
      unfold wrd
      rw [if_neg (by omega), if_neg h1, Int.add_comm]
    rw [e]
    unfold sortW
    exact List.mergeSort_of_pairwise hpw
end K11

set_option Elab.async false
set_option maxRecDepth 100000
set_option maxHeartbeats 4000000
set_option exponentiation.threshold 2000
/-! LD: the dice of all laws, over plain values. -/
namespace LD
open PySem PySem.Spec PyProof.Rows L2 L3
/-- the dice stand at a; R: the other registers -/
def Dice (a : Addr) (R G : Reg) : Prop := ∃ l m c : Int, G = (a, [D.int l, D.int m, D.int c]) :: R
def BIG : Int := 2 ^ 600
def sp__law_dice : DSp := fun ds G q _ => ∃ (ns : List Int) (i : Nat), ds = [.scr ns, .int (i : Int)] ∧ ∀ l m c : Int, q (.fr [D.int l, D.int m, D.int c]) G
def sp__law_roll : DSp := fun ds G q _ => ∃ (a : Addr) (R : Reg) (t : Int), ds = [.ref a, .int t] ∧ Dice a R G ∧ 0 < t ∧ t < BIG ∧ ∀ (r : Int) G', 0 ≤ r → r < t → Dice a R G' → q (.val (.int r)) G'
def sp__law_pick : DSp := fun ds G q _ => ∃ (a : Addr) (R : Reg) (es : List D), ds = [.ref a, .lst es] ∧ Dice a R G ∧ es ≠ [] ∧ es.length ≤ 1000 ∧ ∀ d G', d ∈ es → Dice a R G' → q (.val d) G'
theorem len__law_dice : ∀ ds G q e, sp__law_dice ds G q e → ds.length = 2 := fun ds G q e ⟨_, _, h, _⟩ => by rw [h]; rfl
theorem len__law_roll : ∀ ds G q e, sp__law_roll ds G q e → ds.length = 2 := fun ds G q e ⟨_, _, _, h, _⟩ => by rw [h]; rfl
theorem len__law_pick : ∀ ds G q e, sp__law_pick ds G q e → ds.length = 2 := fun ds G q e ⟨_, _, _, h, _⟩ => by rw [h]; rfl
def t__law_dice (dw : Exc3 → Reg → Prop) : DSt :=
  (dSeq (dSet 2 (dIf (dTest (dOp oLt (dVar 1) (dCB bLen (dPCons (dVar 0) dNil)))) (dCB bIntOf (dPCons (dOp oIx (dVar 0) (dVar 1)) dNil)) (dOp oAdd (dOp oMul (dC (.int 83)) (dVar 1)) (dC (.int 29)))))
    (dSeq (dSet 3 (dOp oMod (dCB bMax (dPCons (dC (.int 0)) (dPCons (dOp oSub (dCB bAbs (dPCons (dVar 2) dNil)) (dOp oPow (dC (.int 10)) (dC (.int 16)))) dNil))) (dOp oMul (dOp oPow (dC (.int 10)) (dC (.int 60))) (dOp oPow (dC (.int 10)) (dC (.int 60))))))
    (dRet (dLst (dCons (dVar 3) (dCons (dOp oAdd (dOp oAdd (dOp oAdd (dOp oMul (dOp oMod (dCB bAbs (dPCons (dVar 2) dNil)) (dC (.int 1152921504606846899))) (dC (.int 47))) (dOp oMul (dC (.int 839)) (dVar 1))) (dOp oMul (dC (.int 41)) (dCB bIntOf (dPCons (dOp oLt (dVar 2) (dC (.int 0))) dNil)))) (dC (.int 7))) (dCons (dC (.int 0)) dNil)))))))
def t__law_roll (dw : Exc3 → Reg → Prop) : DSt :=
  (dSeq (dIfS (dTest (dOp oGt (dOp oIx (dVar 0) (dC (.int 0))) (dC (.int 0)))) (dSeq (dSet 2 (dOp oMod (dCB bIntOf (dPCons (dOp oIx (dVar 0) (dC (.int 0))) dNil)) (dVar 1)))
    (dSeq (dStore (dOp oFdiv (dOp oIx (dVar 0) (dC (.int 0))) (dVar 1)) (dVar 0) (dC (.int 0)))
    (dRet (dVar 2)))) dNext)
    (dSeq (dStore (dOp oAdd (dOp oIx (dVar 0) (dC (.int 2))) (dC (.int 1))) (dVar 0) (dC (.int 2)))
    (dSeq (dSet 3 (dOp oMod (dCB bIntOf (dPCons (dOp oAdd (dOp oIx (dVar 0) (dC (.int 1))) (dOp oMul (dC (.int 32452867)) (dOp oIx (dVar 0) (dC (.int 2))))) dNil)) (dC (.int 2305843009213693907))))
    (dSeq (dSet 4 (dOp oAdd (dOp oMul (dOp oMod (dCB bIntOf (dPCons (dOp oAdd (dOp oMul (dVar 3) (dVar 3)) (dOp oMul (dC (.int 97)) (dOp oIx (dVar 0) (dC (.int 2))))) dNil)) (dC (.int 2305843009213693921))) (dC (.int 6700417))) (dVar 3)))
    (dRet (dOp oMod (dCB bIntOf (dPCons (dOp oFdiv (dVar 4) (dC (.int 65536))) dNil)) (dVar 1)))))))
def t__law_pick (dw : Exc3 → Reg → Prop) : DSt :=
  (dRet (dOp oIx (dVar 1) (dCall sp__law_roll (fun x _ G => dw x G) (dCons (dVar 0) (dCons (dCB bLen (dPCons (dVar 1) dNil)) dNil)))))
theorem pow1060 : MulOk (10 ^ (60 : Int).toNat) (10 ^ (60 : Int).toNat) := .inr (by unfold CMulW; decide +kernel)
theorem div_ok {l t : Int} (h : 0 < t) (h2 : t < BIG) : CDivW l t := wide_div h (b := 600) (by unfold BIG at h2; omega) (by decide) (by decide)
local macro_rules | `(tactic| walk_at "ev") => `(tactic| repeat (first | refine ⟨_, rfl, ?_⟩ | refine ⟨_, _, rfl, ?_⟩ | refine ⟨_, look0, ?_⟩ | refine ⟨_, at0, ?_⟩ | refine ⟨_, at1, ?_⟩ | refine ⟨_, at2, ?_⟩ | refine ⟨by decide, ?_⟩ | refine ⟨ltL rfl, ?_⟩ | refine ⟨mulC (by decide), ?_⟩ | refine ⟨mulC' (by decide), ?_⟩ | refine ⟨_, _, _, rfl, ?_⟩ | refine ⟨_, ix0, ?_⟩ | refine ⟨_, ix1, ?_⟩ | refine ⟨_, ix2, ?_⟩ | refine ⟨cpow _ (by decide) (by decide), ?_⟩ | refine ⟨pow1060, ?_⟩))
theorem p__law_roll (N : List Str) (hN : N.length = 5) : ∀ ds G q dw, sp__law_roll ds G q dw → t__law_roll dw { nx := fun _ G' => q (.val .non) G', rt := q } (start3 N ds) G := by
  intro ds G q dw h
  obtain ⟨a, R, t, rfl, ⟨l, m, c, rfl⟩, ht, hb, h⟩ := h
  unfold t__law_roll start3
  rw [hN]
  walk_at "ev"
  refine ifD (fun h1 => ?_) (fun h1 => ?_)
  · walk_at "ev"
    refine ⟨ht, ?_⟩
    walk_at "ev"
    refine ⟨div_ok ht hb, ?_⟩
    walk_at "ev"
    rw [regS]
    walk_at "ev"
    exact h _ _ (Int.emod_nonneg _ (by omega)) (Int.emod_lt_of_pos _ ht) ⟨_, _, _, rfl⟩
  · walk_at "ev"
    rw [regS]
    walk_at "ev"
    refine ⟨mulC ⟨?_, ?_⟩, ?_⟩
    · have := Int.emod_nonneg (m + 32452867 * (c + 1)) (b := 2305843009213693907) (by omega); omega
    · have := Int.emod_lt_of_pos (m + 32452867 * (c + 1)) (b := 2305843009213693907) (by omega); omega
    walk_at "ev"
    refine ⟨div_ok (by decide) (by decide), ?_⟩
    walk_at "ev"
    refine ⟨ht, ?_⟩
    walk_at "ev"
    exact h _ _ (Int.emod_nonneg _ (by omega)) (Int.emod_lt_of_pos _ ht) ⟨_, _, _, rfl⟩
theorem len_big {α : Type} {es : List α} (h : es.length ≤ 1000) : (es.length : Int) < BIG := by unfold BIG; omega
theorem p__law_pick (N : List Str) (hN : N.length = 2) : ∀ ds G q dw, sp__law_pick ds G q dw → t__law_pick dw { nx := fun _ G' => q (.val .non) G', rt := q } (start3 N ds) G := by
  intro ds G q dw h
  obtain ⟨a, R, es, rfl, hd, hne, hle, h⟩ := h
  unfold t__law_pick start3
  rw [hN]
  walk_at "ev"
  refine ⟨a, R, (es.length : Int), rfl, hd, by have := List.length_pos_iff.2 hne; omega, len_big hle, fun r G' h0 h1 hd' => ?_⟩
  obtain ⟨d, e, hm⟩ := atN h0 h1
  walk_at "ev"
  refine ⟨d, e, ?_⟩
  walk_at "ev"
  exact h d G' hm hd'
theorem p__law_dice (N : List Str) (hN : N.length = 4) : ∀ ds G q dw, sp__law_dice ds G q dw → t__law_dice dw { nx := fun _ G' => q (.val .non) G', rt := q } (start3 N ds) G := by
  intro ds G q dw h
  obtain ⟨ns, i, rfl, h⟩ := h
  unfold t__law_dice start3
  rw [hN]
  walk_at "ev"
  refine ifD (fun h1 => ?_) (fun h1 => ?_)
  · obtain ⟨v, e, _⟩ := atN (ds := ns) (Int.natCast_nonneg i) h1
    walk_at "ev"
    refine ⟨v, e, ?_⟩
    walk_at "ev"
    exact h _ _ _
  · walk_at "ev"
    exact h _ _ _
theorem small_big {x : Int} (h : x ≤ 1000000) : x < BIG := by unfold BIG; omega
end LD

set_option Elab.async false
set_option maxRecDepth 100000
set_option maxHeartbeats 4000000
/-! LN: whole numbers, primes, letters, points of the program: what they answer where nothing is refused. -/
namespace LN
open PySem PySem.Spec PyProof.Rows L2 L3
local macro_rules | `(tactic| walk_at "ev") => `(tactic| repeat (first | refine ⟨_, rfl, ?_⟩ | refine ⟨_, _, rfl, ?_⟩ | refine ⟨rfl, ?_⟩ | refine And.intro (by assumption) ?_ | refine ⟨by decide, ?_⟩ | refine ⟨ltL rfl, ?_⟩ | refine ⟨_, at0, ?_⟩ | refine ⟨_, at1, ?_⟩ | refine ⟨_, at2, ?_⟩ | refine ⟨_, _, _, rfl, ?_⟩))
def primes : List Int := [2, 3, 5, 7, 11, 13, 17, 19, 23, 29, 31]
/-- the primes of the program -/
def Pr (p : Int) : Prop := p ∈ primes
/-- a point, as a value -/
def pt (ws : List Int) : D := .tup (ws.map D.int)
theorem sh_pt (ws : List Int) : (pt ws).sh = true := by unfold pt; rw [sh_tup]; exact all_shl_ints ws
theorem eqv_pt (xs ys : List Int) : D.eqv (pt xs) (pt ys) = decide (xs = ys) := by unfold pt; rw [eqv_tup, eqvL_ints]
theorem sh_ints (ws : List Int) : (D.lst (ws.map D.int)).sh = true := by rw [sh_lst]; exact all_shl_ints ws
theorem eqv_ints (xs ys : List Int) : D.eqv (.lst (xs.map D.int)) (.lst (ys.map D.int)) = decide (xs = ys) := by rw [eqv_lst, eqvL_ints]
theorem eqvL_pts : ∀ xs ys : List (List Int), eqvL (xs.map pt) (ys.map pt) = decide (xs = ys)
  | [], [] => rfl
  | [], _ :: _ => rfl
  | _ :: _, [] => rfl
  | x :: xs, y :: ys => by
    rw [List.map_cons, List.map_cons, eqvL_cons, eqv_pt, eqvL_pts xs ys]
    by_cases h : x = y <;> by_cases h2 : xs = ys <;> simp [h, h2]
theorem among_pts (y : List Int) : ∀ xs : List (List Int), D.among (pt y) (xs.map pt) = decide (y ∈ xs)
  | [] => rfl
  | x :: xs => by
    have := among_pts y xs
    unfold D.among at this ⊢
    rw [List.map_cons, List.any_cons, eqv_pt, this]
    by_cases h : x = y
    · simp [h]
    · have h' : ¬ y = x := fun e => h e.symm
      by_cases h2 : y ∈ xs <;> simp [h, h', h2]
def Pt (p : Int) (ws : List Int) : Prop := ws.length ≤ 60 ∧ ∀ x ∈ ws, -1 ≤ x ∧ x < p
def Lim (v : Int) : Prop := -(10 ^ 60) < v ∧ v < 10 ^ 60
theorem Pr.le {p : Int} (h : Pr p) : 2 ≤ p ∧ p ≤ 31 := by
  unfold Pr primes at h
  simp only [List.mem_cons, List.not_mem_nil, or_false] at h
  omega
abbrev tru (q : Res → Reg → Prop) (G : Reg) : Prop := q (.val (.bl true)) G
def sp_is_whole : DSp := fun ds G q _ => ∃ v : Int, ds = [.int v] ∧ tru q G
def sp_is_integer : DSp := fun ds G q _ => ∃ v : Int, ds = [.int v] ∧ Lim v ∧ tru q G
def sp_is_prime : DSp := fun ds G q _ => ∃ v : Int, ds = [.int v] ∧ Pr v ∧ tru q G
def sp_require_prime : DSp := fun ds G q _ => ∃ v : Int, ds = [.int v] ∧ Pr v ∧ q (.val .non) G
def sp_is_letter : DSp := fun ds G q _ => ∃ p v : Int, ds = [.int p, .int v] ∧ Pr p ∧ -1 ≤ v ∧ v < p ∧ tru q G
def sp_are_letters : DSp := fun ds G q _ => ∃ (p : Int) (ws : List Int), ds = [.int p, pt ws] ∧ Pr p ∧ Pt p ws ∧ tru q G
theorem len_is_whole : ∀ ds G q e, sp_is_whole ds G q e → ds.length = 1 := fun ds G q e ⟨_, h, _⟩ => by rw [h]; rfl
theorem len_is_integer : ∀ ds G q e, sp_is_integer ds G q e → ds.length = 1 := fun ds G q e ⟨_, h, _⟩ => by rw [h]; rfl
theorem len_is_prime : ∀ ds G q e, sp_is_prime ds G q e → ds.length = 1 := fun ds G q e ⟨_, h, _⟩ => by rw [h]; rfl
theorem len_require_prime : ∀ ds G q e, sp_require_prime ds G q e → ds.length = 1 := fun ds G q e ⟨_, h, _⟩ => by rw [h]; rfl
theorem len_is_letter : ∀ ds G q e, sp_is_letter ds G q e → ds.length = 2 := fun ds G q e ⟨_, _, h, _⟩ => by rw [h]; rfl
theorem len_are_letters : ∀ ds G q e, sp_are_letters ds G q e → ds.length = 2 := fun ds G q e ⟨_, _, h, _⟩ => by rw [h]; rfl
def t_is_whole (dw : Exc3 → Reg → Prop) : DSt :=
  (dRet (dAndV (dCB bIsi (dPCons (dVar 0) (dPCons (dC (.ty "int")) dNil))) (dNotV (dCB bIsi (dPCons (dVar 0) (dPCons (dC (.ty "bool")) dNil))))))
def t_is_integer (dw : Exc3 → Reg → Prop) : DSt :=
  (dRet (dAndV (dCall sp_is_whole (fun x _ G => dw x G) (dCons (dVar 0) dNil)) (dChain oLt oLt (dUn uNeg (dC (.int (1000000000000000000000000000000000000000000000000000000000000)))) (dVar 0) (dC (.int (1000000000000000000000000000000000000000000000000000000000000))))))
def t_is_prime (dw : Exc3 → Reg → Prop) : DSt :=
  (dRet (dAndV (dCall sp_is_whole (fun x _ G => dw x G) (dCons (dVar 0) dNil)) (dOp (oIn false) (dVar 0) (dC (.ktp [2, 3, 5, 7, 11, 13, 17, 19, 23, 29, 31])))))
def t_require_prime (dw : Exc3 → Reg → Prop) : DSt :=
  (dIfS (dNot (dTest (dCall sp_is_prime (fun x _ G => dw x G) (dCons (dVar 0) dNil)))) dNever dNext)
def t_is_letter (dw : Exc3 → Reg → Prop) : DSt :=
  (dRet (dAndV (dCall sp_is_integer (fun x _ G => dw x G) (dCons (dVar 1) dNil)) (dChain oLe oLt (dC (.int (-1))) (dVar 1) (dVar 0))))
def t_are_letters (dw : Exc3 → Reg → Prop) : DSt :=
  (dSeq (dIfS (dOr (dNot (dTest (dCB bIsi (dPCons (dVar 1) (dPCons (dC (.ty "tuple")) dNil))))) (dTest (dOp oGt (dCB bLen (dPCons (dVar 1) dNil)) (dC (.int (60)))))) (dRet (dC (.bl false))) dNext)
    (dRet (dCB bAll (dPCons (dLc (dIter (dVar 1)) (gNm 2) dYes (dCall sp_is_letter dw0 (dCons (dVar 0) (dCons (dVar 2) dNil))) [2]) dNil))))
theorem eqv_mem {v : Int} : ∀ ns : List Int, v ∈ ns → ((ns.map D.int).any fun z => D.eqv z (.int v)) = true
  | [], h => by cases h
  | n :: ns, h => by
    rw [List.map_cons, List.any_cons, eqv_int]
    rcases List.mem_cons.mp h with e | e
    · rw [e, decide_eq_true rfl]; rfl
    · rw [eqv_mem ns e, Bool.or_true]
theorem p_is_whole (N : List Str) (hN : N.length = 1) : ∀ ds G q dw, sp_is_whole ds G q dw → t_is_whole dw { nx := fun _ G' => q (.val .non) G', rt := q } (start3 N ds) G := by
  intro ds G q dw h
  unfold t_is_whole start3
  rw [hN]
  obtain ⟨v, rfl, h⟩ := h
  walk_at "ev"
  exact h
theorem p_is_integer (N : List Str) (hN : N.length = 1) : ∀ ds G q dw, sp_is_integer ds G q dw → t_is_integer dw { nx := fun _ G' => q (.val .non) G', rt := q } (start3 N ds) G := by
  intro ds G q dw h
  unfold t_is_integer start3
  rw [hN]
  obtain ⟨v, rfl, l, h⟩ := h
  walk_at "ev"
  refine ifD (fun _ => ?_) (fun z => absurd l.1 z)
  walk_at "ev"
  exact qT (q := q) (decide_eq_true l.2) h
theorem p_is_prime (N : List Str) (hN : N.length = 1) : ∀ ds G q dw, sp_is_prime ds G q dw → t_is_prime dw { nx := fun _ G' => q (.val .non) G', rt := q } (start3 N ds) G := by
  intro ds G q dw h
  unfold t_is_prime start3
  rw [hN]
  obtain ⟨v, rfl, l, h⟩ := h
  walk_at "ev"
  exact qT (q := q) (eqv_mem primes l) h
theorem p_require_prime (N : List Str) (hN : N.length = 1) : ∀ ds G q dw, sp_require_prime ds G q dw → t_require_prime dw { nx := fun _ G' => q (.val .non) G', rt := q } (start3 N ds) G := by
  intro ds G q dw h
  unfold t_require_prime start3
  rw [hN]
  obtain ⟨v, rfl, l, h⟩ := h
  walk_at "ev"
  exact h
theorem p_is_letter (N : List Str) (hN : N.length = 2) : ∀ ds G q dw, sp_is_letter ds G q dw → t_is_letter dw { nx := fun _ G' => q (.val .non) G', rt := q } (start3 N ds) G := by
  intro ds G q dw h
  unfold t_is_letter start3
  rw [hN]
  obtain ⟨p, v, rfl, hp, l1, l2, h⟩ := h
  walk_at "ev"
  refine ⟨by have := hp.le; unfold Lim; omega, ?_⟩
  walk_at "ev"
  refine ifD (fun _ => ?_) (fun z => absurd l1 z)
  walk_at "ev"
  exact qT (q := q) (decide_eq_true l2) h
theorem all_tru {α : Type} (xs : List α) : (xs.map fun _ => true).all id = true := by simp
theorem blsT {α : Type} : ∀ xs : List α, blsOf (xs.map fun _ => D.bl true) = some (xs.map fun _ => true) := fun xs => by
  have := blsOf_map (xs.map fun _ => true)
  rw [List.map_map] at this
  exact this
theorem p_are_letters (N : List Str) (hN : N.length = 3) : ∀ ds G q dw, sp_are_letters ds G q dw → t_are_letters dw { nx := fun _ G' => q (.val .non) G', rt := q } (start3 N ds) G := by
  intro ds G q dw h
  unfold t_are_letters start3
  rw [hN]
  obtain ⟨p, ws, rfl, hp, l, h⟩ := h
  walk_at "ev"
  refine ifD (fun z => ?_) (fun _ => ?_)
  · have := l.1; rw [List.length_map] at z; omega
  walk_at "ev"
  refine ⟨by rw [List.length_map, sizeLine_eq]; have := l.1; omega, ?_⟩
  refine lc_pure (E := [.val (.int p), .val (pt ws), .no]) (fun d => ∃ x ∈ ws, d = D.int x) (fun _ => some (.bl true)) (fun d k1 k2 hd h1 h2 => ?_) _ _ _ (fun d hd => ?_) ?_
  · obtain ⟨x, hx, rfl⟩ := hd
    walk_at "ev"
    refine ⟨(l.2 x hx).1, (l.2 x hx).2, ?_⟩
    walk_at "ev"
    exact h1 _ _ rfl rfl
  · obtain ⟨x, hx, e⟩ := List.mem_map.mp hd
    exact ⟨x, hx, e.symm⟩
  · rw [fmap_all (g := fun _ => D.bl true) (fun _ _ => rfl)]
    walk_at "ev"
    refine ⟨_, blsT _, ?_⟩
    walk_at "ev"
    exact qT (q := q) (all_tru _) h
end LN

set_option Elab.async false
set_option maxRecDepth 100000
set_option maxHeartbeats 4000000
set_option exponentiation.threshold 2000
/-! LP: points near others; points drawn. -/
namespace LP
open PySem PySem.Spec PyProof.Rows L2 L3 LD LN
local macro_rules | `(tactic| walk_at "ev") => `(tactic| repeat (first | refine ⟨_, rfl, ?_⟩ | refine ⟨_, _, rfl, ?_⟩ | refine ⟨rfl, ?_⟩ | refine And.intro (by assumption) ?_ | refine ⟨by decide, ?_⟩ | refine ⟨ltL rfl, ?_⟩ | refine ⟨_, at0, ?_⟩ | refine ⟨_, at1, ?_⟩ | refine ⟨_, at2, ?_⟩ | refine ifT ?_ | refine ifF ?_))

/-- the size of the first j letters once the noughts at their end are off -/
def nz (ws : List Int) : Nat → Nat
  | 0 => 0
  | k + 1 => if ws.getD k 1 = 0 then nz ws k else k + 1
def second (ws : List Int) : Option (List Int) :=
  if nz ws ws.length < 2 ∨ ws.getD (nz ws ws.length - 1) 0 ≠ -1 then none else some (ws.take (nz ws ws.length - 2))
def secD (ws : List Int) : D := match second ws with
  | none => .non
  | some l => pt l
def nears (ws : List Int) : List (List Int) := if ws = [] then [] else ws.dropLast :: (second ws).toList
def sp__law_letter : DSp := fun ds G q _ => ∃ (a : Addr) (R : Reg) (p : Int), ds = [.ref a, .int p] ∧ Dice a R G ∧ Pr p ∧ ∀ (v : Int) G', -1 ≤ v → v < p → Dice a R G' → q (.val (.int v)) G'
def sp__law_point_drawn : DSp := fun ds G q _ => ∃ (a : Addr) (R : Reg) (p m : Int), ds = [.ref a, .int p, .int m] ∧ Dice a R G ∧ Pr p ∧ 0 ≤ m ∧ m ≤ 60 ∧ ∀ (ws : List Int) G', (ws.length : Int) ≤ m → Pt p ws → Dice a R G' → q (.val (pt ws)) G'
theorem len__law_letter : ∀ ds G q e, sp__law_letter ds G q e → ds.length = 2 := fun ds G q e ⟨_, _, _, h, _⟩ => by rw [h]; rfl
theorem len__law_point_drawn : ∀ ds G q e, sp__law_point_drawn ds G q e → ds.length = 3 := fun ds G q e ⟨_, _, _, _, h, _⟩ => by rw [h]; rfl
def t__law_letter (dw : Exc3 → Reg → Prop) : DSt :=
  (dSeq (dSet 2 (dCall sp__law_roll (fun x _ G => dw x G) (dCons (dVar 0) (dCons (dC (.int 5)) dNil))))
    (dRet (dIf (dTest (dOp oLt (dVar 2) (dC (.int 2)))) (dUn uNeg (dC (.int 1))) (dIf (dTest (dOp oEq (dVar 2) (dC (.int 2)))) (dC (.int 0)) (dCall sp__law_roll (fun x _ G => dw x G) (dCons (dVar 0) (dCons (dVar 1) dNil)))))))
def t__law_point_drawn (dw : Exc3 → Reg → Prop) : DSt :=
  (dSeq (dSet 3 (dCB bMax (dPCons (dCall sp__law_roll (fun x _ G => dw x G) (dCons (dVar 0) (dCons (dOp oAdd (dVar 2) (dC (.int 1))) dNil))) (dPCons (dCall sp__law_roll (fun x _ G => dw x G) (dCons (dVar 0) (dCons (dOp oAdd (dVar 2) (dC (.int 1))) dNil))) dNil))))
    (dRet (dCB bTuple (dPCons (dLc (dRng1 (dCons (dVar 3) dNil)) (gNm 4) dYes (dCall sp__law_letter dw0 (dCons (dVar 0) (dCons (dVar 1) dNil))) [4]) dNil))))
theorem nz_le (ws : List Int) : ∀ k, nz ws k ≤ k
  | 0 => Nat.le_refl 0
  | k + 1 => by
    unfold nz
    split
    · exact Nat.le_succ_of_le (nz_le ws k)
    · exact Nat.le_refl _
theorem at_pred {ws : List Int} {k : Nat} (h : k < ws.length) : atI (ws.map D.int) ((((k + 1 : Nat) : Int)) - 1) = some (.int (ws.getD k 1)) := by
  have e : (((k + 1 : Nat) : Int)) - 1 = (k : Int) := by omega
  rw [e, at_nat (by rw [List.length_map]; exact h), List.getElem_map, List.getD_eq_getElem?_getD, List.getElem?_eq_getElem h]
  rfl
theorem p__law_letter (N : List Str) (hN : N.length = 3) : ∀ ds G q dw, sp__law_letter ds G q dw → t__law_letter dw { nx := fun _ G' => q (.val .non) G', rt := q } (start3 N ds) G := by
  intro ds G q dw h
  unfold t__law_letter start3
  rw [hN]
  obtain ⟨a, R, p, rfl, d, hp, h⟩ := h
  have hl := hp.le
  walk_at "ev"
  refine ⟨a, R, _, rfl, d, by decide, small_big (by decide), fun r G' r0 r1 d' => ?_⟩
  walk_at "ev"
  refine ifD (fun _ => ?_) (fun _ => ?_)
  · walk_at "ev"
    exact h _ _ (by omega) (by omega) d'
  · walk_at "ev"
    refine ifE (fun _ => ?_) (fun _ => ?_)
    · walk_at "ev"
      exact h _ _ (by omega) (by omega) d'
    · walk_at "ev"
      refine ⟨a, R, _, rfl, d', by omega, small_big (by omega), fun r2 G2 r20 r21 d2 => ?_⟩
      walk_at "ev"
      exact h _ _ (by omega) (by omega) d2
theorem ints_of : ∀ (xs : List D) (p : Int), (∀ x ∈ xs, ∃ v, x = D.int v ∧ -1 ≤ v ∧ v < p) → ∃ ws : List Int, xs = ws.map D.int ∧ ∀ w ∈ ws, -1 ≤ w ∧ w < p
  | [], _, _ => ⟨[], rfl, fun _ h => by cases h⟩
  | x :: xs, p, h => by
    obtain ⟨v, rfl, hv⟩ := h x List.mem_cons_self
    obtain ⟨ws, rfl, hw⟩ := ints_of xs p fun z hz => h z (List.mem_cons_of_mem _ hz)
    exact ⟨v :: ws, rfl, fun w hm => (List.mem_cons.mp hm).elim (fun e => by rw [e]; exact hv) (hw w)⟩
theorem p__law_point_drawn (N : List Str) (hN : N.length = 5) : ∀ ds G q dw, sp__law_point_drawn ds G q dw → t__law_point_drawn dw { nx := fun _ G' => q (.val .non) G', rt := q } (start3 N ds) G := by
  intro ds G q dw h
  unfold t__law_point_drawn start3
  rw [hN]
  obtain ⟨a, R, p, m, rfl, d, hp, m0, m1, h⟩ := h
  have hl := hp.le
  walk_at "ev"
  refine ⟨a, R, _, rfl, d, by omega, small_big (by omega), fun r1 G1 r10 r11 d1 => ?_⟩
  walk_at "ev"
  refine ⟨a, R, _, rfl, d1, by omega, small_big (by omega), fun r2 G2 r20 r21 d2 => ?_⟩
  walk_at "ev"
  have hM : 0 ≤ (if r2 > r1 then r2 else r1) ∧ (if r2 > r1 then r2 else r1) ≤ m := by split <;> omega
  refine ⟨Int.le_trans (by decide) hM.1, Int.lt_of_le_of_lt hM.2 (by omega), ?_⟩
  have hL : (rangeD 0 (if r2 > r1 then r2 else r1).toNat).length ≤ 60 := by rw [rangeD_len]; omega
  refine ⟨Nat.le_trans hL (by decide), ?_⟩
  refine lc_reg (fun _ => True) (Dice a R) (fun x => ∃ v, x = D.int v ∧ -1 ≤ v ∧ v < p) (fun x G k1 k2 _ hd h1 h2 => ?_) _ _ _ _ (fun _ _ => trivial) d2 (fun xs G' hx hl2 d3 => ?_)
  · walk_at "ev"
    refine ⟨a, R, p, rfl, hd, hp, fun v G' v0 v1 d' => ?_⟩
    walk_at "ev"
    exact h1 _ _ _ ⟨v, rfl, v0, v1⟩ d' rfl
  · obtain ⟨ws, rfl, hw⟩ := ints_of xs p hx
    walk_at "ev"
    rw [List.length_map, rangeD_len] at hl2
    have hl3 : ws.length ≤ (if r2 > r1 then r2 else r1).toNat := hl2
    exact h ws _ (by omega) ⟨by omega, hw⟩ d3
end LP

set_option maxHeartbeats 4000000
/-! LO: plain: words, the orders of both coordinates told backwards, degrees, rows of residues by their entries. -/
namespace LO
/-- a word: nothing, the turn alone, or a last letter above 0 -/
def Wd (ws : List Int) : Prop := ws = [] ∨ ws = [-1] ∨ ∃ l, ws.getLast? = some l ∧ 0 < l
theorem Wd.tail {l : Int} {ws : List Int} (h : Wd (l :: ws)) : Wd ws := by
  rcases h with h | h | ⟨m, e, h⟩
  · cases h
  · cases h; exact .inl rfl
  · cases ws with
    | nil => exact .inl rfl
    | cons w ws =>
      rw [List.getLast?_cons_cons] at e
      exact .inr (.inr ⟨m, e, h⟩)
theorem Wd.drop {ws : List Int} : ∀ (pre : List Int), Wd (pre ++ ws) → Wd ws
  | [], h => h
  | _ :: pre, h => Wd.drop pre (Wd.tail h)
theorem Wd.dropN {ws : List Int} (h : Wd ws) (n : Nat) : Wd (ws.drop n) := Wd.drop (ws.take n) (by rw [List.take_append_drop]; exact h)
def addO : Option Nat → Option Nat → Option Nat
  | some a, some b => some (a + b)
  | _, _ => none
def stepO (l : Int) (s : Option Nat × Option Nat) : Option Nat × Option Nat :=
  if l = -1 then (addO s.1 s.2, s.1) else if l = 0 then (s.1, addO s.1 s.2) else (s.1, s.1)
/-- the orders of both coordinates at a word -/
def ord2 : List Int → Option Nat × Option Nat
  | [] => (some 1, none)
  | l :: ws => stepO l (ord2 ws)
theorem addO_some {a b : Option Nat} (h1 : a.isSome) (h2 : b.isSome) : (addO a b).isSome := by
  cases a <;> cases b <;> simp_all [addO]
/-- where a letter stands ahead, the first order is there -/
theorem ord_both : ∀ {ws : List Int}, ws ≠ [] → ws ≠ [-1] → Wd ws → (ord2 ws).1.isSome ∧ (ord2 ws).2.isSome
  | [], h, _, _ => absurd rfl h
  | l :: ws, _, h2, h3 => by
    by_cases e : ws = []
    · subst e
      rcases h3 with z | z | ⟨m, e, h⟩
      · cases z
      · exact absurd z h2
      · have : l = m := by simpa using e
        subst this
        simp only [ord2, stepO]
        rw [if_neg (by omega), if_neg (by omega)]
        exact ⟨rfl, rfl⟩
    · by_cases e2 : ws = [-1]
      · subst e2
        rcases h3 with z | z | ⟨m, e, h⟩
        · cases z
        · cases z
        · have : -1 = m := by simpa using e
          omega
      · obtain ⟨i1, i2⟩ := ord_both e e2 h3.tail
        simp only [ord2, stepO]
        have := addO_some i1 i2
        split
        · exact ⟨this, i1⟩
        · split
          · exact ⟨i1, this⟩
          · exact ⟨i1, i1⟩
theorem ord_first {l : Int} {ws : List Int} (h : Wd (l :: ws)) : (ord2 ws).1.isSome := by
  by_cases e : ws = []
  · subst e; rfl
  · by_cases e2 : ws = [-1]
    · subst e2
      rcases h with z | z | ⟨m, e, h⟩
      · cases z
      · cases z
      · have : -1 = m := by simpa using e
        omega
    · exact (ord_both e e2 h.tail).1
theorem ord_one {ws : List Int} (h : Wd ws) : (ord2 ws).1.isSome ∨ (ord2 ws).2.isSome := by
  by_cases e : ws = []
  · subst e; exact .inl rfl
  · by_cases e2 : ws = [-1]
    · subst e2; exact .inr rfl
    · exact .inl (ord_both e e2 h).1
theorem addO_pos {a b : Option Nat} (h1 : ∀ n, a = some n → 1 ≤ n) : ∀ n, addO a b = some n → 1 ≤ n := by
  intro n h
  cases a with
  | none => cases h
  | some x => cases b with
    | none => cases h
    | some y =>
      have := h1 x rfl
      simp only [addO, Option.some.injEq] at h
      omega
theorem ord_pos : ∀ ws : List Int, (∀ n, (ord2 ws).1 = some n → 1 ≤ n) ∧ ∀ n, (ord2 ws).2 = some n → 1 ≤ n
  | [] => ⟨fun n h => by cases h; decide, fun n h => by cases h⟩
  | l :: ws => by
    obtain ⟨h1, h2⟩ := ord_pos ws
    simp only [ord2, stepO]
    split
    · exact ⟨addO_pos h1, h1⟩
    · split
      · exact ⟨h1, addO_pos h1⟩
      · exact ⟨h1, h1⟩
/-- the count: the lesser one -/
def mn : Option Nat × Option Nat → Nat
  | (some a, some b) => if b < a then b else a
  | (some a, none) => a
  | (none, some b) => b
  | _ => 0
/-! ### all ends of a word -/
def sfx : List Int → List (List Int)
  | [] => [[]]
  | l :: ws => (l :: ws) :: sfx ws
theorem sfx_len : ∀ ws : List Int, (sfx ws).length = ws.length + 1
  | [] => rfl
  | _ :: ws => by simp [sfx, sfx_len ws]
theorem sfx_get : ∀ (ws : List Int) (i : Nat) (h : i < (sfx ws).length), (sfx ws)[i] = ws.drop i
  | [], 0, _ => rfl
  | [], i + 1, h => by simp [sfx] at h
  | l :: ws, 0, _ => rfl
  | l :: ws, i + 1, h => by
    simp only [sfx, List.getElem_cons_succ, List.drop_succ_cons]
    exact sfx_get ws i _
theorem sfx_eq (ws : List Int) : sfx ws = (List.range (ws.length + 1)).map fun i => ws.drop i := by
  apply List.ext_getElem
  · rw [sfx_len]; simp
  · intro i h1 h2
    rw [sfx_get]; simp
theorem sfx_head (ws : List Int) : ∃ r, sfx ws = ws :: r := by
  cases ws with
  | nil => exact ⟨[], rfl⟩
  | cons l ws => exact ⟨sfx ws, rfl⟩
/-! ### rows of residues -/
abbrev co (xs : List Int) (i : Nat) : Int := xs.getD i 0
def Cf (p : Int) (xs : List Int) : Prop := ∀ i, 0 ≤ co xs i ∧ co xs i < p
def Ord (xs : List Int) : Option Nat → Prop
  | none => ∀ i, co xs i = 0
  | some n => co xs n ≠ 0 ∧ ∀ i, i < n → co xs i = 0
theorem co_out {xs : List Int} {i : Nat} (h : xs.length ≤ i) : co xs i = 0 := by
  unfold co
  rw [List.getD_eq_getElem?_getD, List.getElem?_eq_none h]; rfl
theorem Ord.lt {xs : List Int} {n : Nat} (h : Ord xs (some n)) : n < xs.length := by
  rcases Nat.lt_or_ge n xs.length with z | z
  · exact z
  · exact absurd (co_out z) h.1
theorem Ord.congr {xs ys : List Int} (h : ∀ i, co ys i = co xs i) : ∀ {o : Option Nat}, Ord xs o → Ord ys o
  | none, z => fun i => (h i).trans (z i)
  | some n, z => ⟨by rw [h]; exact z.1, fun i hi => (h i).trans (z.2 i hi)⟩
theorem co_set {xs : List Int} {j : Nat} {v : Int} (h : j < xs.length) (i : Nat) : co (xs.set j v) i = if i = j then v else co xs i := by
  unfold co
  rw [List.getD_eq_getElem?_getD, List.getD_eq_getElem?_getD, List.getElem?_set]
  by_cases e : i = j
  · subst e
    rw [if_pos rfl, if_pos h, if_pos rfl]; rfl
  · rw [if_neg (fun z => e z.symm), if_neg e]
theorem co_rep (n i : Nat) : co (List.replicate n 0) i = 0 := by
  unfold co
  rw [List.getD_eq_getElem?_getD, List.getElem?_replicate]
  split <;> rfl
def prs : List Nat := [2, 3, 5, 7, 11, 13, 17, 19, 23, 29, 31]
theorem noZeroN : ∀ p ∈ prs, ∀ x, x < p → ∀ y, y < p → x ≠ 0 → y ≠ 0 → x * y % p ≠ 0 := by decide +kernel
/-- no zero divisors -/
theorem noZero {p x y : Int} (hp : p ∈ ([2, 3, 5, 7, 11, 13, 17, 19, 23, 29, 31] : List Int)) (x0 : 0 ≤ x) (x1 : x < p) (y0 : 0 ≤ y) (y1 : y < p) (hx : x ≠ 0) (hy : y ≠ 0) : x * y % p ≠ 0 := by
  obtain ⟨a, rfl⟩ := Int.eq_ofNat_of_zero_le x0
  obtain ⟨b, rfl⟩ := Int.eq_ofNat_of_zero_le y0
  have h0 : 0 ≤ p := by omega
  obtain ⟨n, rfl⟩ := Int.eq_ofNat_of_zero_le h0
  have hn : n ∈ prs := by
    unfold prs
    simp only [List.mem_cons, List.not_mem_nil, or_false] at hp ⊢
    omega
  have := noZeroN n hn a (by omega) b (by omega) (by omega) (by omega)
  intro z
  apply this
  have e : ((a * b % n : Nat) : Int) = ((0 : Nat) : Int) := by
    rw [Int.natCast_emod, Int.natCast_mul]; exact z
  exact_mod_cast e
/-- what stands in the product's row while it is made: rows below i are done, in row i the entries below j -/
structure Mid (p : Int) (xs ys : List Int) (i j : Nat) (zs : List Int) : Prop where
  len : zs.length = xs.length + ys.length - 1
  cf : Cf p zs
  low : ∀ ox oy, Ord xs ox → Ord ys oy → match ox, oy with
    | some a, some b => (∀ k, k < a + b → co zs k = 0) ∧ co zs (a + b) = if i > a ∨ (i = a ∧ j > b) then co xs a * co ys b % p else 0
    | _, _ => ∀ k, co zs k = 0
theorem Mid.start {p : Int} {xs ys : List Int} (hp : 0 < p) : Mid p xs ys 0 0 (List.replicate (xs.length + ys.length - 1) 0) := by
  refine ⟨List.length_replicate, fun i => by rw [co_rep]; omega, fun ox oy hx hy => ?_⟩
  cases ox <;> cases oy <;> simp only
  · exact fun k => co_rep _ _
  · exact fun k => co_rep _ _
  · exact fun k => co_rep _ _
  · refine ⟨fun k _ => co_rep _ _, ?_⟩
    rw [if_neg (by omega)]
    exact co_rep _ _
theorem Mid.row {p : Int} {xs ys zs : List Int} {i : Nat} (h : Mid p xs ys i ys.length zs) : Mid p xs ys (i + 1) 0 zs := by
  refine ⟨h.len, h.cf, fun ox oy hx hy => ?_⟩
  have q := h.low ox oy hx hy
  cases ox with
  | none => exact q
  | some a =>
    cases oy with
    | none => exact q
    | some b =>
      refine ⟨q.1, ?_⟩
      have lt := hy.lt
      have q2 : co zs (a + b) = if i > a ∨ (i = a ∧ ys.length > b) then co xs a * co ys b % p else 0 := q.2
      show co zs (a + b) = if i + 1 > a ∨ (i + 1 = a ∧ 0 > b) then co xs a * co ys b % p else 0
      rw [q2]
      by_cases z : i > a ∨ (i = a ∧ ys.length > b)
      · rw [if_pos z, if_pos (by omega)]
      · rw [if_neg z, if_neg (by omega)]
theorem Mid.step {p : Int} {xs ys zs : List Int} {i j : Nat} (hp : 0 < p) (h : Mid p xs ys i j zs) (hi : i < xs.length) (hj : j < ys.length) :
    Mid p xs ys i (j + 1) (zs.set (i + j) ((co zs (i + j) + co xs i * co ys j) % p)) := by
  have hl : i + j < zs.length := by rw [h.len]; omega
  have hset : ∀ k, co (zs.set (i + j) ((co zs (i + j) + co xs i * co ys j) % p)) k = if k = i + j then (co zs (i + j) + co xs i * co ys j) % p else co zs k := co_set hl
  have same : co xs i * co ys j = 0 → ∀ k, co (zs.set (i + j) ((co zs (i + j) + co xs i * co ys j) % p)) k = co zs k := fun e k => by
    rw [hset, e, Int.add_zero, Int.emod_eq_of_lt (h.cf _).1 (h.cf _).2]
    split
    · rename_i z; rw [z]
    · rfl
  refine ⟨by rw [List.length_set]; exact h.len, fun k => ?_, fun ox oy hx hy => ?_⟩
  · rw [hset]
    split
    · exact ⟨Int.emod_nonneg _ (by omega), Int.emod_lt_of_pos _ hp⟩
    · exact h.cf k
  · have q := h.low ox oy hx hy
    cases ox with
    | none =>
      have z : co xs i * co ys j = 0 := by rw [hx i, Int.zero_mul]
      exact fun k => (same z k).trans (q k)
    | some a =>
      cases oy with
      | none =>
        have z : co xs i * co ys j = 0 := by rw [hy j, Int.mul_zero]
        exact fun k => (same z k).trans (q k)
      | some b =>
        have q1 : ∀ k, k < a + b → co zs k = 0 := q.1
        have q2 : co zs (a + b) = if i > a ∨ (i = a ∧ j > b) then co xs a * co ys b % p else 0 := q.2
        show (∀ k, k < a + b → _ = 0) ∧ _ = if i > a ∨ (i = a ∧ j + 1 > b) then co xs a * co ys b % p else 0
        by_cases c1 : i < a ∨ j < b
        · have z : co xs i * co ys j = 0 := by
            rcases c1 with c | c
            · rw [hx.2 i c, Int.zero_mul]
            · rw [hy.2 j c, Int.mul_zero]
          refine ⟨fun k hk => (same z k).trans (q1 k hk), ?_⟩
          rw [same z, q2]
          by_cases w : i > a ∨ (i = a ∧ j > b)
          · rw [if_pos w, if_pos (by omega)]
          · rw [if_neg w, if_neg (by omega)]
        · by_cases c2 : i = a ∧ j = b
          · obtain ⟨rfl, rfl⟩ := c2
            refine ⟨fun k hk => ?_, ?_⟩
            · rw [hset, if_neg (by omega)]; exact q1 k hk
            · rw [hset, if_pos rfl, q2, if_neg (by omega), if_pos (by omega), Int.zero_add]
          · refine ⟨fun k hk => ?_, ?_⟩
            · rw [hset, if_neg (by omega)]; exact q1 k hk
            · rw [hset, if_neg (by omega), q2]
              by_cases w : i > a ∨ (i = a ∧ j > b)
              · rw [if_pos w, if_pos (by omega)]
              · rw [if_neg w, if_neg (by omega)]
theorem Mid.fin {p : Int} {xs ys zs : List Int} (hp : p ∈ ([2, 3, 5, 7, 11, 13, 17, 19, 23, 29, 31] : List Int)) (cx : Cf p xs) (cy : Cf p ys) (h : Mid p xs ys xs.length 0 zs) {ox oy : Option Nat} (hx : Ord xs ox) (hy : Ord ys oy) : Ord zs (addO ox oy) := by
  have q := h.low ox oy hx hy
  cases ox with
  | none => exact q
  | some a =>
    cases oy with
    | none => exact q
    | some b =>
      have q2 : co zs (a + b) = if xs.length > a ∨ (xs.length = a ∧ 0 > b) then co xs a * co ys b % p else 0 := q.2
      rw [if_pos (.inl hx.lt)] at q2
      exact ⟨by rw [q2]; exact noZero hp (cx a).1 (cx a).2 (cy b).1 (cy b).2 hx.1 hy.1, q.1⟩
end LO

set_option Elab.async false
set_option maxRecDepth 100000
set_option maxHeartbeats 4000000
set_option exponentiation.threshold 2000
/-! LB: branches and their orders; words drawn. -/
namespace LB
open PySem PySem.Spec PyProof.Rows L2 L3 LD LN LP LO
local macro_rules | `(tactic| walk_at "ev") => `(tactic| repeat (first | refine lc_stop ?_ | refine for_stop ?_ | refine ⟨_, rfl, ?_⟩ | refine ⟨_, _, rfl, ?_⟩ | refine ⟨rfl, ?_⟩ | refine And.intro (by assumption) ?_ | refine ⟨by decide, ?_⟩ | refine ⟨ltL rfl, ?_⟩ | refine ⟨_, at0, ?_⟩ | refine ⟨_, at1, ?_⟩ | refine ⟨_, at2, ?_⟩ | refine ifT ?_ | refine ifF ?_ | refine ⟨_, _, _, rfl, ?_⟩ | refine ⟨⟨_, rfl⟩, ?_⟩))
local macro_rules | `(tactic| walk_at "eva") => `(tactic| repeat (first | refine ⟨_, rfl, ?_⟩ | refine ⟨_, _, rfl, ?_⟩ | refine ⟨rfl, ?_⟩ | refine And.intro (by assumption) ?_ | refine ⟨by decide, ?_⟩ | refine ⟨ltL rfl, ?_⟩ | refine ⟨_, at0, ?_⟩ | refine ⟨_, at1, ?_⟩ | refine ⟨_, at2, ?_⟩ | refine ifT ?_ | refine ifF ?_ | refine ⟨_, _, _, rfl, ?_⟩ | refine ⟨⟨_, rfl⟩, ?_⟩))
theorem at_last {α : Type} {xs : List α} {x : α} (h : xs.getLast? = some x) : atI xs (-1) = some x := by
  have hp : 0 < xs.length := by
    cases xs with
    | nil => cases h
    | cons a b => simp
  unfold atI ixN
  rw [if_neg (by decide), if_pos (by omega), List.getLast?_eq_getElem?] at *
  show xs[((-1 : Int) + xs.length).toNat]? = _
  rw [show ((-1 : Int) + xs.length).toNat = xs.length - 1 by omega]
  exact h
/-- a branch, as a value -/
def br (p : Int) (ws : List Int) (s : Str) : D := .obj "Branch" [.int p, .str s, pt ws]
def oD : Option Nat → D
  | none => .non
  | some a => .int (a : Nat)
/-- a pair of orders, as a value -/
def prD (s : Option Nat × Option Nat) : D := .tup [oD s.1, oD s.2]
def ordsD (ws : List Int) : List D := (sfx ws).map fun t => prD (ord2 t)
/-! ### promises -/
def sp_ends_as_word : DSp := fun ds G q _ => ∃ ws : List Int, ds = [pt ws] ∧ Wd ws ∧ tru q G
def sp_letters_text : DSp := fun ds G q _ => ∃ (p : Int) (ws : List Int), ds = [pt ws] ∧ Pr p ∧ Pt p ws ∧ ∀ s : Str, s.length ≤ 1000 → q (.val (.str s)) G
def sp_Branch_init : DSpI := fun ds G q _ => ∃ (p : Int) (ws : List Int), ds = [.int p, pt ws] ∧ Pr p ∧ Pt p ws ∧ Wd ws ∧ ∀ s : Str, q [.int p, .str s, pt ws] G
def sp_require_branch : DSp := fun ds G q _ => ∃ (p : Int) (ws : List Int) (s : Str), ds = [br p ws s] ∧ q (.val .non) G
def sp_all_orders : DSp := fun ds G q _ => ∃ ws : List Int, ds = [pt ws] ∧ ws.length ≤ 60 ∧ Wd ws ∧ q (.fr (ordsD ws)) G
def sp__law_orders : DSp := sp_all_orders
def sp__law_word_drawn : DSp := fun ds G q _ => ∃ (a : Addr) (R : Reg) (p m : Int), ds = [.ref a, .int p, .int m] ∧ Dice a R G ∧ Pr p ∧ 1 ≤ m ∧ m ≤ 60 ∧ ∀ (ws : List Int) G', (ws.length : Int) ≤ m → Pt p ws → Wd ws → Dice a R G' → q (.val (pt ws)) G'
theorem len_ends_as_word : ∀ ds G q e, sp_ends_as_word ds G q e → ds.length = 1 := fun ds G q e ⟨_, h, _⟩ => by rw [h]; rfl
theorem len_letters_text : ∀ ds G q e, sp_letters_text ds G q e → ds.length = 1 := fun ds G q e ⟨_, _, h, _⟩ => by rw [h]; rfl
theorem len_Branch_init : ∀ ds G q e, sp_Branch_init ds G q e → ds.length + 1 = 3 := fun ds G q e ⟨_, _, h, _⟩ => by rw [h]; rfl
theorem len_require_branch : ∀ ds G q e, sp_require_branch ds G q e → ds.length = 1 := fun ds G q e ⟨_, _, _, h, _⟩ => by rw [h]; rfl
theorem len_all_orders : ∀ ds G q e, sp_all_orders ds G q e → ds.length = 1 := fun ds G q e ⟨_, h, _⟩ => by rw [h]; rfl
theorem len__law_orders : ∀ ds G q e, sp__law_orders ds G q e → ds.length = 1 := len_all_orders
theorem len__law_word_drawn : ∀ ds G q e, sp__law_word_drawn ds G q e → ds.length = 3 := fun ds G q e ⟨_, _, _, _, h, _⟩ => by rw [h]; rfl
/-! ### readings (as gen.py prints them) -/
def t_ends_as_word (dw : Exc3 → Reg → Prop) : DSt :=
  (dRet (dOrV (dOp (oIn false) (dVar 0) (dTup (dCons (dTup dNil) (dCons (dTup (dCons (dC (.int (-1))) dNil)) dNil)))) (dOp oGt (dOp oIx (dVar 0) (dUn uNeg (dC (.int 1)))) (dC (.int 0)))))
def t_letters_text (dw : Exc3 → Reg → Prop) : DSt :=
  (dSeq (dIfS (dTest (dOp oEq (dVar 0) (dTup dNil))) (dRet (dC (.str "."))) dNext)
    (dRet (dJoin (dC (.str " ")) (dLc (dIter (dVar 0)) (gNm 1) dYes (dIf (dTest (dOp oEq (dVar 1) (dC (.int (-1))))) (dC (.str "t")) (dCB bStr (dPCons (dVar 1) dNil))) [1]))))
def t_Branch_init (dw : Exc3 → Reg → Prop) : DSt :=
  (dSeq (dDrop (dCall sp_require_prime (fun x _ G => dw x G) (dCons (dVar 1) dNil)))
    (dSeq (dIfS (dOr (dNot (dTest (dCall sp_are_letters (fun x _ G => dw x G) (dCons (dVar 1) (dCons (dVar 2) dNil))))) (dNot (dTest (dCall sp_ends_as_word (fun x _ G => dw x G) (dCons (dVar 2) dNil))))) dNever dNext)
    (dSeq (dSetA [("Branch", 0)] (dVar 1))
    (dSeq (dSetA [("Branch", 2)] (dVar 2))
    (dSetA [("Branch", 1)] (dFstr [(dUn uFmt (dCall sp_letters_text (fun x _ G => dw x G) (dCons (dVar 2) dNil))), (dC (.str " over ")), (dUn uFmt (dVar 1))]))))))
def t_require_branch (dw : Exc3 → Reg → Prop) : DSt :=
  (dIfS (dNot (dTest (dCB (bIsiC [(("Branch", "Branch"), true)]) (dPCons (dVar 0) (dPCons (dC (.cls "Branch")) dNil))))) dNever dNext)
def t__law_word_drawn (dw : Exc3 → Reg → Prop) : DSt :=
  (dSeq (dSet 3 (dCall sp__law_point_drawn (fun x _ G => dw x G) (dCons (dVar 0) (dCons (dVar 1) (dCons (dOp oSub (dVar 2) (dC (.int 1))) dNil)))))
    (dSeq (dIfS (dAnd (dTest (dOp oEq (dVar 3) (dTup dNil))) (dTest (dOp oEq (dCall sp__law_roll (fun x _ G => dw x G) (dCons (dVar 0) (dCons (dC (.int 6)) dNil))) (dC (.int 0))))) (dRet (dCall sp__law_pick (fun x _ G => dw x G) (dCons (dVar 0) (dCons (dLst (dCons (dTup dNil) (dCons (dTup (dCons (dUn uNeg (dC (.int 1))) dNil)) dNil))) dNil)))) dNext)
    (dRet (dOp oAdd (dVar 3) (dTup (dCons (dIf (dTest (dOp oGt (dVar 1) (dC (.int 2)))) (dOp oAdd (dC (.int 1)) (dCall sp__law_roll (fun x _ G => dw x G) (dCons (dVar 0) (dCons (dOp oSub (dVar 1) (dC (.int 1))) dNil)))) (dC (.int 1))) dNil))))))
def t__law_orders (dw : Exc3 → Reg → Prop) : DSt :=
  (dSeq (dSet 1 (dLst (dCons (dTup (dCons (dC (.int 1)) (dCons (dC .non) dNil))) dNil)))
    (dSeq (dFor (dIter (dUn uRevA (dVar 0))) (gNm 2) (dSeq (dAsg (dOp oIx (dVar 1) (dUn uNeg (dC (.int 1)))) (gTp 2 (gsCons (gNm 3) (gsCons (gNm 4) gsNil))))
    (dIfS (dTest (dOp oEq (dVar 2) (dUn uNeg (dC (.int 1))))) (dDrop (dApp 1 (dTup (dCons (dIf (dTest (dOp (oIs false) (dVar 4) (dC .non))) (dC .non) (dOp oAdd (dVar 3) (dVar 4))) (dCons (dVar 3) dNil))))) (dIfS (dTest (dOp oEq (dVar 2) (dC (.int 0)))) (dDrop (dApp 1 (dTup (dCons (dVar 3) (dCons (dIf (dTest (dOp (oIs false) (dVar 4) (dC .non))) (dC .non) (dOp oAdd (dVar 3) (dVar 4))) dNil))))) (dDrop (dApp 1 (dTup (dCons (dVar 3) (dCons (dVar 3) dNil)))))))))
    (dRet (dUn uRevA (dVar 1)))))
/-! ### the walks -/
theorem p_ends_as_word (N : List Str) (hN : N.length = 1) : ∀ ds G q dw, sp_ends_as_word ds G q dw → t_ends_as_word dw { nx := fun _ G' => q (.val .non) G', rt := q } (start3 N ds) G := by
  intro ds G q dw h
  unfold t_ends_as_word start3
  rw [hN]
  obtain ⟨ws, rfl, hw, h⟩ := h
  walk_at "ev"
  refine ⟨sh_pt _, rfl, ?_⟩
  walk_at "ev"
  have e := among_pts ws [[], [-1]]
  refine ifB (fun _ => ?_) (fun z => ?_)
  · walk_at "ev"
    exact h
  · have z2 : D.among (pt ws) ([[], [-1]].map pt) = false := z
    rw [e] at z2
    have z3 := of_decide_eq_false z2
    rcases hw with rfl | rfl | ⟨l, e2, hl⟩
    · simp at z3
    · simp at z3
    · walk_at "ev"
      refine ⟨.int l, at_last (by rw [List.getLast?_map, e2]; rfl), ?_⟩
      walk_at "ev"
      exact qT (q := q) (decide_eq_true hl) h
theorem p_require_branch (N : List Str) (hN : N.length = 1) : ∀ ds G q dw, sp_require_branch ds G q dw → t_require_branch dw { nx := fun _ G' => q (.val .non) G', rt := q } (start3 N ds) G := by
  intro ds G q dw h
  unfold t_require_branch start3
  rw [hN]
  obtain ⟨p, ws, s, rfl, h⟩ := h
  walk_at "ev"
  exact h
theorem ordsD_step (l : Int) (suf : List Int) : (ordsD (l :: suf)).reverse = (ordsD suf).reverse ++ [prD (ord2 (l :: suf))] := by
  unfold ordsD
  rw [sfx, List.map_cons, List.reverse_cons]
theorem ordsD_last (suf : List Int) : atI (ordsD suf).reverse (-1) = some (prD (ord2 suf)) := by
  apply at_last
  obtain ⟨r, e⟩ := sfx_head suf
  unfold ordsD
  rw [e, List.map_cons, List.reverse_cons, List.getLast?_append]; rfl
theorem ordsD_len (ws : List Int) : (ordsD ws).length = ws.length + 1 := by unfold ordsD; rw [List.length_map, sfx_len]
theorem oD_add (a b : Nat) : D.int ((a : Int) + (b : Int)) = oD (some (a + b)) := by
  show D.int _ = D.int _
  rw [Int.natCast_add]
theorem ords_body {Dn : Ends3} {ws : List Int} (h60 : ws.length ≤ 60) (hw : Wd ws) {G : Reg} {tm : DE} (htm : ∀ E G k, k (.val (.int (-1))) E G → tm E G k)
    (h : ∀ E, E[1]? = some (Sl3.own (ordsD ws).reverse) → E.length = 5 → Dn.nx E G) :
    dForL (gNm 2) (dSeq (dAsg (dOp oIx (dVar 1) (dUn uNeg (dC (.int 1)))) (gTp 2 (gsCons (gNm 3) (gsCons (gNm 4) gsNil))))
    (dIfS (dTest (dOp oEq (dVar 2) tm)) (dDrop (dApp 1 (dTup (dCons (dIf (dTest (dOp (oIs false) (dVar 4) (dC .non))) (dC .non) (dOp oAdd (dVar 3) (dVar 4))) (dCons (dVar 3) dNil))))) (dIfS (dTest (dOp oEq (dVar 2) (dC (.int 0)))) (dDrop (dApp 1 (dTup (dCons (dVar 3) (dCons (dIf (dTest (dOp (oIs false) (dVar 4) (dC .non))) (dC .non) (dOp oAdd (dVar 3) (dVar 4))) dNil))))) (dDrop (dApp 1 (dTup (dCons (dVar 3) (dCons (dVar 3) dNil))))))))
    (ws.map D.int).reverse Dn [.val (pt ws), .own [.tup [.int 1, .non]], .no, .no, .no] G := by
  refine for_ind (fun ds E G1 => G1 = G ∧ ∃ pre suf s2 s3 s4, ws = pre ++ suf ∧ ds = (pre.map D.int).reverse ∧ E = [.val (pt ws), .own (ordsD suf).reverse, s2, s3, s4]) (fun E G1 hI => ?_) (fun d ds E G1 nx hI hn => ?_) _ _ _ ⟨rfl, ws, [], _, _, _, by simp, rfl, rfl⟩
  · obtain ⟨rfl, pre, suf, s2, s3, s4, e, e2, rfl⟩ := hI
    have : pre = [] := by
      cases pre with
      | nil => rfl
      | cons a b => simp at e2
    subst this
    rw [List.nil_append] at e
    subst e
    exact h _ rfl rfl
  · obtain ⟨rfl, pre, suf, s2, s3, s4, e, e2, rfl⟩ := hI
    obtain ⟨pre', l, rfl⟩ : ∃ pre' l, pre = pre' ++ [l] := by
      rcases List.eq_nil_or_concat pre with z | ⟨a, b, z⟩
      · subst z; simp at e2
      · exact ⟨a, b, by simpa using z⟩
    rw [List.map_append, List.reverse_append] at e2
    have e3 : d = .int l ∧ ds = (pre'.map D.int).reverse := by simpa using e2
    obtain ⟨rfl, rfl⟩ := e3
    have e4 : ws = pre' ++ (l :: suf) := by rw [e, List.append_assoc]; rfl
    have hl : Wd (l :: suf) := Wd.drop pre' (by rw [← e4]; exact hw)
    have hlen : suf.length + 1 ≤ 60 := by
      have := congrArg List.length e4
      simp only [List.length_append, List.length_cons] at this
      omega
    have hsz : (ordsD suf).reverse.length < sizeLine := by rw [List.length_reverse, ordsD_len, sizeLine_eq]; omega
    have f1 := ord_first hl
    have fin : ∀ E', (∃ s3 s4, E' = [.val (pt ws), .own ((ordsD suf).reverse ++ [prD (stepO l (ord2 suf))]), .val (.int l), s3, s4]) → nx E' G1 := fun E' ⟨s3, s4, e5⟩ => by
      subst e5
      exact hn _ _ ⟨rfl, pre', l :: suf, .val (.int l), s3, s4, e4, rfl, by rw [ordsD_step]; rfl⟩
    walk_at "ev"
    refine ⟨_, ordsD_last suf, ?_⟩
    cases e6 : ord2 suf with
    | mk o1 o2 =>
      rw [e6] at f1 fin
      cases o1 with
      | none => cases f1
      | some a =>
        walk_at "ev"
        refine htm _ _ _ ?_
        walk_at "ev"
        refine ifE (fun z => ?_) (fun z => ?_)
        · subst z
          cases o2 with
          | none =>
            walk_at "ev"
            exact fin _ ⟨_, _, rfl⟩
          | some b =>
            walk_at "ev"
            rw [oD_add]
            exact fin _ ⟨_, _, rfl⟩
        · walk_at "ev"
          refine ifE (fun z2 => ?_) (fun z2 => ?_)
          · subst z2
            cases o2 with
            | none =>
              walk_at "ev"
              exact fin _ ⟨_, _, rfl⟩
            | some b =>
              walk_at "ev"
              rw [oD_add]
              exact fin _ ⟨_, _, rfl⟩
          · have es : stepO l (some a, o2) = (some a, some a) := by unfold stepO; rw [if_neg z, if_neg z2]
            rw [es] at fin
            walk_at "ev"
            exact fin _ ⟨_, _, rfl⟩
theorem p__law_orders (N : List Str) (hN : N.length = 5) : ∀ ds G q dw, sp__law_orders ds G q dw → t__law_orders dw { nx := fun _ G' => q (.val .non) G', rt := q } (start3 N ds) G := by
  intro ds G q dw h
  unfold t__law_orders start3
  rw [hN]
  obtain ⟨ws, rfl, h60, hw, h⟩ := h
  walk_at "ev"
  refine .go ?_
  refine ords_body h60 hw (fun E G k h => ⟨_, rfl, h⟩) fun E h1 h2 => ?_
  obtain ⟨e0, e1, e2, e3, e4, rfl⟩ : ∃ e0 e1 e2 e3 e4, E = [e0, e1, e2, e3, e4] := by
    match E, h2 with
    | [a, b, c, d, e], _ => exact ⟨a, b, c, d, e, rfl⟩
  have : e1 = Sl3.own (ordsD ws).reverse := by simpa using h1
  subst this
  walk_at "ev"
  rw [List.reverse_reverse]
  exact h
theorem txt2 : ∀ n : Nat, n < 32 → (Str.ofString (toString (n : Int))).length ≤ 2 := by decide +kernel
theorem p_letters_text (N : List Str) (hN : N.length = 2) : ∀ ds G q dw, sp_letters_text ds G q dw → t_letters_text dw { nx := fun _ G' => q (.val .non) G', rt := q } (start3 N ds) G := by
  intro ds G q dw h
  unfold t_letters_text start3
  rw [hN]
  obtain ⟨p, ws, rfl, hp, hw, h⟩ := h
  have hl := hp.le
  walk_at "ev"
  refine ⟨sh_pt _, rfl, ?_⟩
  walk_at "ev"
  refine ifQ (eqv_pt ws []) (fun e => ?_) (fun e => ?_)
  · walk_at "ev"
    exact h _ (by decide)
  · walk_at "ev"
    refine ⟨by rw [List.length_map, sizeLine_eq]; have := hw.1; omega, ?_⟩
    refine lc_pure0 (fun d => ∃ x ∈ ws, d = D.int x) (fun d => match d with | .int x => some (.str (if x = -1 then "t" else toString x)) | _ => none) (fun d k1 k2 hd h1 h2 => ?_) (fun d hd => ?_) ?_
    · obtain ⟨x, hx, rfl⟩ := hd
      have hx2 := hw.2 x hx
      walk_at "ev"
      refine ifE (fun z => ?_) (fun z => ?_)
      · walk_at "ev"
        exact h1 _ _ (by show some (D.str (if x = -1 then _ else _)) = _; rw [if_pos z]) rfl
      · walk_at "ev"
        refine ⟨?_, ?_⟩
        · have : x.natAbs < 31 := by omega
          exact Nat.lt_of_le_of_lt (Nat.log2_le_self _) (by omega)
        walk_at "ev"
        exact h1 _ _ (by show some (D.str (if x = -1 then _ else _)) = _; rw [if_neg z]) rfl
    · obtain ⟨x, hx, e⟩ := List.mem_map.mp hd
      exact ⟨x, hx, e.symm⟩
    · have em : (ws.map D.int).filterMap (fun d => match d with | .int x => some (D.str (if x = -1 then "t" else toString x)) | _ => none) = (ws.map fun x => (if x = -1 then "t" else toString x : Str)).map D.str := by
        rw [List.filterMap_map, List.map_map]
        rw [show ((fun d => match d with | D.int x => some (D.str (if x = -1 then "t" else toString x)) | _ => none) ∘ D.int) = some ∘ (D.str ∘ fun x => (if x = -1 then "t" else toString x : Str)) from rfl, List.filterMap_eq_map]
      rw [em]
      have hsum : ∀ l : List Int, (∀ x ∈ l, -1 ≤ x ∧ x < p) → ((l.map fun x => (if x = -1 then "t" else toString x : Str)).map (·.length)).sum ≤ 2 * l.length := by
        intro l
        induction l with
        | nil => intro _; exact Nat.le_refl _
        | cons x l ih =>
          intro hm
          have h3 := ih fun z hz => hm z (List.mem_cons_of_mem _ hz)
          have h4 := hm x List.mem_cons_self
          have h5 : (if x = -1 then "t" else toString x : Str).length ≤ 2 := by
            split
            · decide
            · rename_i z
              obtain ⟨n, rfl⟩ := Int.eq_ofNat_of_zero_le (show 0 ≤ x by omega)
              exact txt2 n (by omega)
          simp only [List.map_cons, List.sum_cons, List.length_cons] at h3 ⊢
          omega
      have hs := hsum ws hw.2
      have h6 := hw.1
      walk_at "ev"
      refine ⟨_, strsOf_map _, ?_⟩
      have e1 : (Str.ofString " ").length = 1 := by decide
      refine ⟨?_, ?_⟩
      · rw [e1, List.length_map]; omega
      walk_at "ev"
      refine h _ ?_
      unfold PySem.Txt.join
      rw [StrLaws.glued_eq_join]
      refine Nat.le_trans (StrLaws.join_length_le _ _) ?_
      rw [e1, List.length_map]; omega
theorem p_Branch_init (N : List Str) (hN : N.length = 3) : ∀ ds G q dw, sp_Branch_init ds G q dw → t_Branch_init dw { nx := fun E' G' => ∃ gs : List D, E'[0]? = some (Sl3.new "Branch" (gs.map some)) ∧ gs ≠ [] ∧ q gs G', rt := fun _ _ => False } (startI "Branch" N ds) G := by
  intro ds G q dw h
  unfold t_Branch_init startI start3
  rw [hN]
  obtain ⟨p, ws, rfl, hp, hw, hwd, h⟩ := h
  have hl := hp.le
  walk_at "ev"
  refine ⟨p, ws, rfl, hp, hw, fun s hs => ?_⟩
  walk_at "ev"
  have e0 : Str.empty.length = 0 := rfl
  have e1 : (Str.ofString " over ").length = 6 := by decide
  refine ⟨by rw [sizeLine_eq]; omega, ?_⟩
  walk_at "ev"
  refine ⟨by rw [Str.length_append, sizeLine_eq]; omega, ?_⟩
  walk_at "ev"
  refine ⟨by rw [Str.length_append, Str.length_append, sizeLine_eq]; omega, ?_⟩
  walk_at "ev"
  have hlog : p.natAbs.log2 < 1920 := Nat.lt_of_le_of_lt (Nat.log2_le_self _) (by omega)
  refine ⟨hlog, ?_⟩
  walk_at "ev"
  have e2 : (Str.ofString (toString p)).length ≤ 2 := by
    obtain ⟨n, rfl⟩ := Int.eq_ofNat_of_zero_le (show 0 ≤ p by omega)
    exact txt2 n (by omega)
  refine ⟨by rw [Str.length_append, Str.length_append, Str.length_append, sizeLine_eq]; omega, ?_⟩
  walk_at "ev"
  exact ⟨[.int p, .str _, pt ws], rfl, by simp, h _⟩
theorem p__law_word_drawn (N : List Str) (hN : N.length = 4) : ∀ ds G q dw, sp__law_word_drawn ds G q dw → t__law_word_drawn dw { nx := fun _ G' => q (.val .non) G', rt := q } (start3 N ds) G := by
  intro ds G q dw h
  unfold t__law_word_drawn start3
  rw [hN]
  obtain ⟨a, R, p, m, rfl, d, hp, h1, h2, h⟩ := h
  have hl := hp.le
  walk_at "ev"
  refine ⟨a, R, p, _, rfl, d, hp, by omega, by omega, fun ws G1 hlen hpt d1 => ?_⟩
  walk_at "ev"
  have fin : ∀ (c : Int) G2, 1 ≤ c → c < p → Dice a R G2 → q (.val (.tup (ws.map D.int ++ [.int c]))) G2 := fun c G2 c1 c2 d2 => by
    have e : (D.tup (ws.map D.int ++ [.int c])) = pt (ws ++ [c]) := by unfold pt; rw [List.map_append]; rfl
    rw [e]
    refine h _ _ (by rw [List.length_append]; simp only [List.length_cons, List.length_nil]; omega) ⟨by rw [List.length_append]; simp only [List.length_cons, List.length_nil]; omega, fun x hx => ?_⟩ (.inr (.inr ⟨c, by simp, by omega⟩)) d2
    rcases List.mem_append.mp hx with z | z
    · exact hpt.2 x z
    · have : x = c := by simpa using z
      omega
  have hsz : (ws.map D.int).length + [D.int 1].length ≤ sizeLine := by rw [List.length_map, sizeLine_eq]; simp only [List.length_cons, List.length_nil]; omega
  have rest : ∀ G2, Dice a R G2 → dRet (dOp oAdd (dVar 3) (dTup (dCons (dIf (dTest (dOp oGt (dVar 1) (dC (D.int 2)))) (dOp oAdd (dC (D.int 1)) (dCall sp__law_roll (fun x x_1 G => dw x G) (dCons (dVar 0) (dCons (dOp oSub (dVar 1) (dC (D.int 1))) dNil)))) (dC (D.int 1))) dNil))) { nx := fun x G' => q (Res.val D.non) G', rt := q } [.val (.ref a), .val (.int p), .val (.int m), .val (pt ws)] G2 := fun G2 d2 => by
    walk_at "ev"
    refine ifD (fun z => ?_) (fun z => ?_)
    · walk_at "ev"
      refine ⟨a, R, _, rfl, d2, by omega, small_big (by omega), fun r G3 r0 r1 d3 => ?_⟩
      walk_at "ev"
      exact fin _ _ (by omega) (by omega) d3
    · walk_at "ev"
      exact fin _ _ (by omega) (by omega) d2
  refine ⟨sh_pt _, rfl, ?_⟩
  walk_at "ev"
  refine ifQ (eqv_pt ws []) (fun e => ?_) (fun e => ?_)
  · subst e
    walk_at "ev"
    refine ⟨a, R, _, rfl, d1, by decide, small_big (by decide), fun r G2 r0 r1 d2 => ?_⟩
    walk_at "ev"
    refine ifE (fun z => ?_) (fun z => ?_)
    · walk_at "ev"
      refine ⟨a, R, _, rfl, d2, by simp, by decide, fun x G3 hx d3 => ?_⟩
      simp only [List.mem_cons, List.not_mem_nil, or_false] at hx
      rcases hx with rfl | rfl
      · walk_at "ev"
        exact h [] _ (by simp; omega) ⟨by decide, fun x hx => by cases hx⟩ (.inl rfl) d3
      · walk_at "ev"
        exact h [-1] _ (by simp; omega) ⟨by decide, fun x hx => by have : x = -1 := (by simpa using hx); omega⟩ (.inr (.inl rfl)) d3
    · exact rest _ d2
  · exact rest _ d1
end LB

set_option Elab.async false
set_option maxRecDepth 100000
set_option maxHeartbeats 4000000
set_option exponentiation.threshold 2000
/-! LC: the counts of branches. -/
namespace LC
open PySem PySem.Spec PyProof.Rows L2 L3 LD LN LP LO LB
local macro_rules | `(tactic| walk_at "ev") => `(tactic| repeat (first | refine lc_stop ?_ | refine for_stop ?_ | refine ⟨_, rfl, ?_⟩ | refine ⟨_, _, rfl, ?_⟩ | refine ⟨rfl, ?_⟩ | refine And.intro (by assumption) ?_ | refine ⟨by decide, ?_⟩ | refine ⟨ltL rfl, ?_⟩ | refine ⟨_, at0, ?_⟩ | refine ⟨_, at1, ?_⟩ | refine ⟨_, at2, ?_⟩ | refine ifT ?_ | refine ifF ?_ | refine ⟨_, _, _, rfl, ?_⟩ | refine ⟨⟨_, rfl⟩, ?_⟩))
local macro_rules | `(tactic| walk_at "eva") => `(tactic| repeat (first | refine ⟨_, rfl, ?_⟩ | refine ⟨_, _, rfl, ?_⟩ | refine ⟨rfl, ?_⟩ | refine And.intro (by assumption) ?_ | refine ⟨by decide, ?_⟩ | refine ⟨ltL rfl, ?_⟩ | refine ⟨_, at0, ?_⟩ | refine ⟨_, at1, ?_⟩ | refine ⟨_, at2, ?_⟩ | refine ifT ?_ | refine ifF ?_ | refine ⟨_, _, _, rfl, ?_⟩ | refine ⟨⟨_, rfl⟩, ?_⟩))
/-! ### plain -/
/-- the count at a height -/
def cnt (ws : List Int) (i : Nat) : Nat := mn (ord2 (ws.drop i))
/-- the counts of the first n heights -/
def cto (ws : List Int) (n : Nat) : List Int := (List.range n).map fun i => ((cnt ws i : Nat) : Int)
theorem cto_len (ws : List Int) (n : Nat) : (cto ws n).length = n := by unfold cto; rw [List.length_map, List.length_range]
theorem cto_succ (ws : List Int) (n : Nat) : cto ws (n + 1) = cto ws n ++ [((cnt ws n : Nat) : Int)] := by
  unfold cto
  rw [List.range_succ, List.map_append]; rfl
theorem cto_get {ws : List Int} {n i : Nat} (h : i < (cto ws n).length) : (cto ws n)[i] = ((cnt ws i : Nat) : Int) := by
  have h2 : i < ((List.range n).map fun i => ((cnt ws i : Nat) : Int)).length := h
  show ((List.range n).map fun i => ((cnt ws i : Nat) : Int))[i] = _
  rw [List.getElem_map, List.getElem_range]
theorem cnt_out {ws : List Int} {i : Nat} (h : ws.length ≤ i) : cnt ws i = 1 := by
  unfold cnt
  rw [List.drop_eq_nil_of_le h]; rfl
/-- counts, then ones, cut -/
theorem cto_cut (ws : List Int) (n : Nat) : (cto ws (ws.length + 1) ++ List.replicate n 1).take n = cto ws n := by
  apply List.ext_getElem
  · rw [List.length_take, List.length_append, cto_len, cto_len, List.length_replicate]; omega
  · intro i h1 h2
    rw [cto_len] at h2
    rw [List.getElem_take, List.getElem_append, cto_get]
    split
    · rw [cto_get]
    · rename_i h
      rw [cto_len] at h
      rw [List.getElem_replicate, cnt_out (by omega)]; rfl
theorem first_mn {l : Int} {ws : List Int} (h : Wd (l :: ws)) : ∃ a, (ord2 ws).1 = some a ∧ mn (ord2 (l :: ws)) = a ∧ mn (ord2 ws) ≤ a := by
  have h1 := ord_first h
  have h2 := ord_pos ws
  cases e : ord2 ws with
  | mk o1 o2 =>
    rw [e] at h1 h2
    cases o1 with
    | none => cases h1
    | some a =>
      refine ⟨a, rfl, ?_, ?_⟩
      · rw [ord2, e]
        unfold stepO
        cases o2 with
        | none =>
          split
          · rfl
          · split
            · rfl
            · show (if a < a then a else a) = a
              rw [if_neg (Nat.lt_irrefl a)]
        | some b =>
          have hb : 1 ≤ b := h2.2 b rfl
          split
          · show (if a < a + b then a else a + b) = a
            rw [if_pos (by omega)]
          · split
            · show (if a + b < a then a + b else a) = a
              rw [if_neg (by omega)]
            · show (if a < a then a else a) = a
              rw [if_neg (Nat.lt_irrefl a)]
      · cases o2 with
        | none => exact Nat.le_refl a
        | some b =>
          show (if b < a then b else a) ≤ a
          split <;> omega
theorem mn_pos {ws : List Int} (h : Wd ws) : 1 ≤ mn (ord2 ws) := by
  have h1 := ord_one h
  have h2 := ord_pos ws
  cases e : ord2 ws with
  | mk o1 o2 =>
    rw [e] at h1 h2
    cases o1 with
    | none =>
      cases o2 with
      | none => simp at h1
      | some b => exact h2.2 b rfl
    | some a =>
      cases o2 with
      | none => exact h2.1 a rfl
      | some b =>
        have := h2.1 a rfl
        have := h2.2 b rfl
        show 1 ≤ (if b < a then b else a)
        split <;> assumption
theorem cnt_pos {ws : List Int} (h : Wd ws) (i : Nat) : 1 ≤ cnt ws i := mn_pos (h.dropN i)
/-! ### second points below -/
theorem getD_any {ws : List Int} {k : Nat} (h : k < ws.length) (d e : Int) : ws.getD k d = ws.getD k e := by
  rw [List.getD_eq_getElem?_getD, List.getD_eq_getElem?_getD, List.getElem?_eq_getElem h]; rfl
theorem nz_zero {ws : List Int} : ∀ k j, nz ws k ≤ j → j < k → ws.getD j 1 = 0
  | 0, j, _, h => absurd h (Nat.not_lt_zero j)
  | k + 1, j, h1, h2 => by
    unfold nz at h1
    split at h1
    · rename_i e
      by_cases hj : j = k
      · rw [hj]; exact e
      · exact nz_zero k j h1 (by omega)
    · omega
theorem nz_of {ws : List Int} {j : Nat} : ∀ k, j < k → ws.getD j 1 ≠ 0 → (∀ i, j < i → i < k → ws.getD i 1 = 0) → nz ws k = j + 1
  | 0, h, _, _ => absurd h (Nat.not_lt_zero j)
  | k + 1, h, h1, h2 => by
    unfold nz
    by_cases hj : j = k
    · rw [if_neg (by rw [← hj]; exact h1), hj]
    · rw [if_pos (h2 k (by omega) (by omega))]
      exact nz_of k (by omega) h1 fun i a b => h2 i a (by omega)
theorem second_iff (ws ys : List Int) : second ws = some ys ↔ ∃ k, k + 1 < ws.length ∧ ws.getD (k + 1) 0 = -1 ∧ (∀ i, k + 1 < i → i < ws.length → ws.getD i 1 = 0) ∧ ys = ws.take k := by
  unfold second
  have hle := nz_le ws ws.length
  constructor
  · intro h
    split at h
    · cases h
    · rename_i hn
      have h1 : 2 ≤ nz ws ws.length := by
        by_cases z : nz ws ws.length < 2
        · exact absurd (.inl z) hn
        · omega
      obtain ⟨k, hk⟩ : ∃ k, nz ws ws.length = k + 1 + 1 := ⟨nz ws ws.length - 2, by omega⟩
      rw [hk] at h hn hle
      have h2 : ws.getD (k + 1) 0 = -1 := by
        by_cases z : ws.getD (k + 1) 0 = -1
        · exact z
        · exact absurd (.inr z) hn
      exact ⟨k, by omega, h2, fun i a b => nz_zero ws.length i (by omega) b, (Option.some.inj h).symm⟩
  · rintro ⟨k, h1, h2, h3, rfl⟩
    have hk : nz ws ws.length = k + 1 + 1 := nz_of ws.length h1 (by rw [getD_any h1 1 0, h2]; decide) h3
    rw [hk, if_neg (by rw [show k + 1 + 1 - 1 = k + 1 by omega]; exact fun z => z.elim (by omega) fun z => z h2)]
    rfl
/-- a corner stands at that height of a word -/
def Crn (ws : List Int) (h : Nat) : Prop := ∃ k, k + 1 < h ∧ h ≤ ws.length ∧ ws.getD (k + 1) 0 = -1 ∧ ∀ i, k + 1 < i → i < h → ws.getD i 1 = 0
theorem getD_take {ws : List Int} {h i : Nat} (hi : i < h) (d : Int) : (ws.take h).getD i d = ws.getD i d := by
  rw [List.getD_eq_getElem?_getD, List.getD_eq_getElem?_getD, List.getElem?_take, if_pos hi]
theorem crn_iff {ws : List Int} {h : Nat} (hl : h ≤ ws.length) : (second (ws.take h)).isSome = true ↔ Crn ws h := by
  rw [Option.isSome_iff_exists]
  have len : (ws.take h).length = h := by rw [List.length_take]; omega
  constructor
  · rintro ⟨ys, e⟩
    obtain ⟨k, h1, h2, h3, _⟩ := (second_iff _ _).1 e
    rw [len] at h1 h3
    exact ⟨k, h1, hl, by rw [getD_take h1] at h2; exact h2, fun i a b => by have := h3 i a b; rw [getD_take b] at this; exact this⟩
  · rintro ⟨k, h1, _, h2, h3⟩
    exact ⟨_, (second_iff _ _).2 ⟨k, by rw [len]; exact h1, by rw [getD_take h1]; exact h2, fun i a b => by rw [len] at b; rw [getD_take b]; exact h3 i a b, rfl⟩⟩
/-- the heights of corners -/
def crn (ws : List Int) : List Nat := (List.range (ws.length + 1)).filter fun h => (second (ws.take h)).isSome
/-! ### tall -/
def tall (ws : List Int) (h : Nat) : Bool := decide (1 < cnt ws h) || (second (ws.take h)).isSome
def tl (ws : List Int) : List Nat := (List.range (ws.length + 1)).filter (tall ws)
end LC

set_option maxRecDepth 100000
set_option maxHeartbeats 4000000
/-! LG0: plain facts: Euclid with remainders of the divisor's sign, generators. -/
namespace LG
theorem fm_pos {a b : Int} (h : 0 < b) : 0 ≤ a.fmod b ∧ a.fmod b < b := ⟨Int.fmod_nonneg_of_pos a h, Int.fmod_lt_of_pos a h⟩
theorem fm_neg {a b : Int} (h : b < 0) : b < a.fmod b ∧ a.fmod b ≤ 0 := by
  have e := Int.neg_fmod_neg (-a) (-b)
  rw [Int.neg_neg, Int.neg_neg] at e
  have := fm_pos (a := -a) (b := -b) (by omega)
  omega
theorem fm_lt {a b : Int} (h : b ≠ 0) : (a.fmod b).natAbs < b.natAbs := by
  rcases Int.lt_or_gt_of_ne h with z | z
  · have := fm_neg (a := a) z; omega
  · have := fm_pos (a := a) z; omega
/-- the common divisor by repeated remainders -/
def eu (a b : Int) : Int := if h : b = 0 then a else eu b (a.fmod b)
termination_by b.natAbs
decreasing_by exact fm_lt h
theorem eu0 (a : Int) : eu a 0 = a := by unfold eu; rw [dif_pos rfl]
theorem eu1 {a b : Int} (h : b ≠ 0) : eu a b = eu b (a.fmod b) := by rw [eu, dif_neg h]
theorem eu_gcd : ∀ (n : Nat) (a b : Int), b.natAbs ≤ n → 0 ≤ a → 0 ≤ b → eu a b = (Int.gcd a b : Int)
  | 0, a, b, hn, ha, hb => by
    have : b = 0 := by omega
    subst this
    rw [eu0, Int.gcd_zero_right]; omega
  | n + 1, a, b, hn, ha, hb => by
    by_cases h : b = 0
    · subst h
      rw [eu0, Int.gcd_zero_right]; omega
    · have q := fm_pos (a := a) (b := b) (by omega)
      rw [eu1 h, eu_gcd n b _ (by omega) hb q.1, Int.gcd_comm a b, Int.fmod_def, Int.gcd_sub_mul_left_right]
theorem eu_eq {a b : Int} (ha : 0 ≤ a) (hb : 0 ≤ b) : eu a b = (Int.gcd a b : Int) := eu_gcd _ a b (Nat.le_refl _) ha hb
theorem eu_pos {a b : Int} (ha : 0 < a) (hb : 0 ≤ b) : 0 < eu a b := by
  rw [eu_eq (by omega) hb]
  have : 0 < Int.gcd a b := Int.gcd_pos_of_ne_zero_left b (by omega)
  omega
/-! ### the divisors of the beginnings -/
def cmg (d : Int) : List Int → List Int
  | [] => []
  | y :: ys => eu d y :: cmg (eu d y) ys
def cms : List Int → List Int
  | [] => []
  | x :: xs => x :: cmg x xs
theorem cmg_get : ∀ (d : Int) (ys : List Int) (i : Nat) (y : Int), ys[i]? = some y → (cmg d ys)[i]? = some (eu ((d :: cmg d ys).getD i 0) y)
  | d, [], i, y, h => by simp at h
  | d, z :: ys, 0, y, h => by
    have : z = y := by simpa using h
    subst this; rfl
  | d, z :: ys, i + 1, y, h => by
    rw [cmg, List.getElem?_cons_succ, cmg_get (eu d z) ys i y (by simpa using h)]
    rfl
/-- the divisors, place by place -/
theorem cms_get {v : List Int} {i : Nat} (h : i + 1 < v.length) : (cms v).getD (i + 1) 0 = eu ((cms v).getD i 0) (v.getD (i + 1) 0) := by
  cases v with
  | nil => simp at h
  | cons x xs =>
    have hl : i < xs.length := by simpa using h
    have := cmg_get x xs i xs[i] (List.getElem?_eq_getElem hl)
    rw [cms, List.getD_eq_getElem?_getD, List.getElem?_cons_succ, this, List.getD_eq_getElem?_getD (i := i + 1), List.getElem?_cons_succ, List.getElem?_eq_getElem hl]
    rfl
/-! ### generators -/
/-- one more generator y: the divisor so far d, the bound w for y * d -/
def stp (p : Int × Int) (y : Int) : Option (Int × Int) := if eu p.1 y < p.1 ∧ p.2 < y * p.1 then some (eu p.1 y, y * p.1) else none
def run : Int × Int → List Int → Option (Int × Int)
  | p, [] => some p
  | p, y :: ys => match stp p y with
    | some p' => run p' ys
    | none => none
theorem run_snoc : ∀ (p : Int × Int) (ys : List Int) (y : Int) {p1 p2 : Int × Int}, run p ys = some p1 → stp p1 y = some p2 → run p (ys ++ [y]) = some p2
  | p, [], y, p1, p2, h1, h2 => by
    cases h1
    show (match stp p y with | some p' => run p' [] | none => none) = _
    rw [h2]; rfl
  | p, z :: ys, y, p1, p2, h1, h2 => by
    rw [run] at h1
    rw [List.cons_append, run]
    cases h : stp p z with
    | none => rw [h] at h1; cases h1
    | some p' =>
      rw [h] at h1
      exact run_snoc p' ys y h1 h2
def fin1 : Option (Int × Int) → Bool
  | some p => decide (p.1 = 1)
  | none => false
def genI : List Int → Bool
  | [] => false
  | [x] => decide (x = 1)
  | x :: y :: r => decide (2 ≤ x) && decide (x < y) && fin1 (run (x, x * x) (y :: r))
theorem genI2 (x y : Int) (r : List Int) : genI (x :: y :: r) = (decide (2 ≤ x) && decide (x < y) && fin1 (run (x, x * x) (y :: r))) := rfl
theorem run_cons (p : Int × Int) (y : Int) (ys : List Int) : run p (y :: ys) = match stp p y with
    | some p' => run p' ys
    | none => none := rfl
/-- the look at one place: the divisor before, the generator, those behind -/
def look (d v : Int) (ys : List Int) : Bool := decide (eu d v < d) && fin1 (run (eu d v, v * d) ys)
end LG

set_option Elab.async false
set_option maxRecDepth 100000
set_option maxHeartbeats 4000000
set_option exponentiation.threshold 2000
/-! LG: generators judged by the program: what is_integer, common_of, commons_in, are_orders answer on anything. -/
namespace LG
open PySem PySem.Spec PyProof.Rows L2 L3 LD
open LN (pt sh_pt eqv_pt sh_ints eqv_ints)
local macro_rules | `(tactic| walk_at "ev") => `(tactic| repeat (first | refine lc_stop ?_ | refine for_stop ?_ | refine ⟨_, rfl, ?_⟩ | refine ⟨_, _, rfl, ?_⟩ | refine ⟨rfl, ?_⟩ | refine And.intro (by assumption) ?_ | refine ⟨by decide, ?_⟩ | refine ⟨ltL rfl, ?_⟩ | refine ⟨_, at0, ?_⟩ | refine ⟨_, at1, ?_⟩ | refine ⟨_, at2, ?_⟩ | refine ifT ?_ | refine ifF ?_ | refine ⟨_, _, _, rfl, ?_⟩ | refine ⟨⟨_, rfl⟩, ?_⟩ | refine ⟨_, _, _, _, rfl, ?_⟩))
local macro_rules | `(tactic| walk_at "evn") => `(tactic| repeat (first | refine lc_stop ?_ | refine for_stop ?_ | refine ⟨_, rfl, ?_⟩ | refine ⟨_, _, rfl, ?_⟩ | refine ⟨rfl, ?_⟩ | refine And.intro (by assumption) ?_ | refine ⟨_, at0, ?_⟩ | refine ⟨_, at1, ?_⟩ | refine ⟨_, at2, ?_⟩ | refine ifT ?_ | refine ifF ?_ | refine ⟨_, _, _, rfl, ?_⟩ | refine ⟨⟨_, rfl⟩, ?_⟩ | refine ⟨_, _, _, _, rfl, ?_⟩))
/-- of a class that isinstance knows -/
def Kn (d : D) : Prop := ∃ t, tyN d = some t
def isI : D → Bool
  | .int _ => true
  | _ => false
def isN60 : D → Bool
  | .int i => decide (-(10 ^ 60) < i) && decide (i < 10 ^ 60)
  | _ => false
/-- the generators of some branch -/
def gen : D → Bool
  | .tup ds => ds.all isN60 && (match intsOf ds with
    | some ns => genI ns
    | none => false)
  | _ => false
def Lim (i : Int) : Prop := -(10 ^ 60) < i ∧ i < 10 ^ 60
theorem eqv_nil {ds : List D} : D.eqv (.tup ds) (.tup []) = decide (ds = []) := by
  rw [eqv_tup]
  cases ds <;> rfl
theorem atm1 {α : Type} {xs : List α} {x : α} (h : xs.getLast? = some x) : atI xs (-1) = some x := by
  have hp : 0 < xs.length := by
    cases xs with
    | nil => cases h
    | cons a b => simp
  unfold atI ixN
  rw [if_neg (by decide), if_pos (by omega), List.getLast?_eq_getElem?] at *
  show xs[((-1 : Int) + xs.length).toNat]? = _
  rw [show ((-1 : Int) + xs.length).toNat = xs.length - 1 by omega]
  exact h
theorem ifND {p : Prop} [Decidable p] {A C : Prop} (h1 : ¬ p → A) (h2 : p → C) : if (!decide p) = true then A else C := by
  by_cases h : p
  · rw [decide_eq_true h]; exact h2 h
  · rw [decide_eq_false h]; exact h1 h
theorem ifNB {b : Bool} {A C : Prop} (h1 : b = false → A) (h2 : b = true → C) : if (!b) = true then A else C := by
  cases b
  · exact h1 rfl
  · exact h2 rfl
/-! ### promises -/
def sp_is_whole : DSp := fun ds G q _ => ∃ d, ds = [d] ∧ Kn d ∧ q (.val (.bl (isI d))) G
def sp_is_integer : DSp := fun ds G q _ => ∃ d, ds = [d] ∧ Kn d ∧ q (.val (.bl (isN60 d))) G
theorem len_is_whole : ∀ ds G q e, sp_is_whole ds G q e → ds.length = 1 := fun ds G q e ⟨_, h, _⟩ => by rw [h]; rfl
theorem len_is_integer : ∀ ds G q e, sp_is_integer ds G q e → ds.length = 1 := fun ds G q e ⟨_, h, _⟩ => by rw [h]; rfl
def t_is_whole (dw : Exc3 → Reg → Prop) : DSt :=
  (dRet (dAndV (dCB bIsi (dPCons (dVar 0) (dPCons (dC (.ty "int")) dNil))) (dNotV (dCB bIsi (dPCons (dVar 0) (dPCons (dC (.ty "bool")) dNil))))))
def t_is_integer (dw : Exc3 → Reg → Prop) : DSt :=
  (dRet (dAndV (dCall sp_is_whole (fun x _ G => dw x G) (dCons (dVar 0) dNil)) (dChain oLt oLt (dUn uNeg (dC (.int (1000000000000000000000000000000000000000000000000000000000000)))) (dVar 0) (dC (.int (1000000000000000000000000000000000000000000000000000000000000))))))
theorem p_is_whole (N : List Str) (hN : N.length = 1) : ∀ ds G q dw, sp_is_whole ds G q dw → t_is_whole dw { nx := fun _ G' => q (.val .non) G', rt := q } (start3 N ds) G := by
  intro ds G q dw h
  unfold t_is_whole start3
  rw [hN]
  obtain ⟨d, rfl, ⟨t, ht⟩, h⟩ := h
  cases d <;> first
    | (exfalso; cases ht; done)
    | (walk_at "ev"; exact h)
theorem p_is_integer (N : List Str) (hN : N.length = 1) : ∀ ds G q dw, sp_is_integer ds G q dw → t_is_integer dw { nx := fun _ G' => q (.val .non) G', rt := q } (start3 N ds) G := by
  intro ds G q dw h
  unfold t_is_integer start3
  rw [hN]
  obtain ⟨d, rfl, hk, h⟩ := h
  cases d with
  | int i =>
    walk_at "ev"
    refine ifD (fun h1 => ?_) (fun h1 => ?_)
    · walk_at "ev"
      refine qB (q := q) h ?_
      show _ = (decide (-(10 ^ 60) < i) && decide (i < 10 ^ 60))
      rw [decide_eq_true (p := -(10 ^ 60) < i) h1]; rfl
    · walk_at "ev"
      refine qB (q := q) h ?_
      show _ = (decide (-(10 ^ 60) < i) && decide (i < 10 ^ 60))
      rw [decide_eq_false (p := -(10 ^ 60) < i) h1]; rfl
  | _ => first
    | (exfalso; obtain ⟨t, ht⟩ := hk; cases ht; done)
    | (walk_at "ev"; exact h)
end LG

set_option Elab.async false
set_option maxRecDepth 100000
set_option maxHeartbeats 4000000
set_option exponentiation.threshold 2000
/-! LG2: generators judged by the laws. -/
namespace LG
open PySem PySem.Spec PyProof.Rows L2 L3 LD
open LN (pt sh_pt eqv_pt sh_ints eqv_ints)
local macro_rules | `(tactic| walk_at "ev") => `(tactic| repeat (first | refine lc_stop ?_ | refine for_stop ?_ | refine ⟨_, rfl, ?_⟩ | refine ⟨_, _, rfl, ?_⟩ | refine ⟨rfl, ?_⟩ | refine And.intro (by assumption) ?_ | refine ⟨by decide, ?_⟩ | refine ⟨ltL rfl, ?_⟩ | refine ⟨_, at0, ?_⟩ | refine ⟨_, at1, ?_⟩ | refine ⟨_, at2, ?_⟩ | refine ifT ?_ | refine ifF ?_ | refine ⟨_, _, _, rfl, ?_⟩ | refine ⟨⟨_, rfl⟩, ?_⟩ | refine ⟨_, _, _, _, rfl, ?_⟩))
/-- the length of a number's text -/
def lenF : D → Option D
  | .int i => some (.int ((Str.ofString (toString i)).length : Nat))
  | _ => none
theorem drop_get {v : List Int} {i : Nat} (h : i < v.length) : v.drop i = v.getD i 0 :: v.drop (i + 1) := by
  rw [List.drop_eq_getElem_cons h, List.getD_eq_getElem?_getD, List.getElem?_eq_getElem h]; rfl
end LG

set_option Elab.async false
set_option maxRecDepth 100000
set_option maxHeartbeats 4000000
set_option exponentiation.threshold 2000
/-! LG3: generators drawn by the laws; the last gap. -/
namespace LG
open PySem PySem.Spec PyProof.Rows L2 L3 LD
open LN (pt sh_pt eqv_pt sh_ints eqv_ints)
local macro_rules | `(tactic| walk_at "ev") => `(tactic| repeat (first | refine lc_stop ?_ | refine for_stop ?_ | refine ⟨_, rfl, ?_⟩ | refine ⟨_, _, rfl, ?_⟩ | refine ⟨rfl, ?_⟩ | refine And.intro (by assumption) ?_ | refine ⟨by decide, ?_⟩ | refine ⟨ltL rfl, ?_⟩ | refine ⟨_, at0, ?_⟩ | refine ⟨_, at1, ?_⟩ | refine ⟨_, at2, ?_⟩ | refine ifT ?_ | refine ifF ?_ | refine ⟨_, _, _, rfl, ?_⟩ | refine ⟨⟨_, rfl⟩, ?_⟩ | refine ⟨_, _, _, _, rfl, ?_⟩))
structure GenOk (gs : List Int) : Prop where
  gen : genI gs = true
  len : gs.length ≤ 5
  lt : ∀ x ∈ gs, x < 10 ^ 8
/-- the greatest integer that is no sum -/
def lastGo (d : Int) : List Int → Int
  | [] => 0
  | y :: ys => (d / eu d y - 1) * y + lastGo (eu d y) ys
end LG

set_option Elab.async false
set_option maxRecDepth 100000
set_option maxHeartbeats 4000000
/-! LH0: papers of orders, as plain integers: number = c0 * x + sums of m * g with 0 ≤ m < s, in one way. -/
namespace LG
/-! ### inverses -/
def iv (a m : Int) : Int := match (List.range m.toNat).find? (fun (r : Nat) => decide ((a * (r : Int)) % m = 1)) with
  | some r => (r : Int)
  | none => 0
theorem bez : ∀ (n : Nat) (a b : Int), b.natAbs ≤ n → 0 ≤ a → 0 ≤ b → Int.gcd a b = 1 → ∃ u v : Int, a * u + b * v = 1
  | 0, a, b, h, ha, hb, hg => by
    have : b = 0 := by omega
    subst this
    rw [Int.gcd_zero] at hg
    exact ⟨1, 0, by omega⟩
  | n + 1, a, b, h, ha, hb, hg => by
    by_cases z : b = 0
    · subst z
      rw [Int.gcd_zero] at hg
      exact ⟨1, 0, by omega⟩
    · have h1 := Int.emod_nonneg a z
      have h2 := Int.emod_lt_of_pos a (show 0 < b by omega)
      obtain ⟨u, v, e⟩ := bez n b (a % b) (by omega) hb h1 (by rw [Int.gcd_comm, show a % b = a + b * (-(a / b)) by rw [Int.mul_neg]; have := Int.mul_ediv_add_emod a b; omega, Int.gcd_add_mul_left_left]; exact hg)
      have h3 := Int.mul_ediv_add_emod a b
      refine ⟨v, u - (a / b) * v, ?_⟩
      have h4 : a % b = a - b * (a / b) := by omega
      rw [h4, Int.sub_mul] at e
      rw [Int.mul_sub, ← Int.mul_assoc]
      omega
theorem iv_spec {a m : Int} (hm : 2 ≤ m) (ha : 0 ≤ a) (hg : Int.gcd a m = 1) : 0 ≤ iv a m ∧ iv a m < m ∧ (a * iv a m) % m = 1 := by
  obtain ⟨u, v, e⟩ := bez _ a m (Nat.le_refl _) ha (by omega) hg
  have hr0 := Int.emod_nonneg u (show m ≠ 0 by omega)
  have hr1 := Int.emod_lt_of_pos u (show 0 < m by omega)
  have hw : (a * (u % m)) % m = 1 := by
    rw [Int.mul_emod, Int.emod_emod_of_dvd _ (Int.dvd_refl m), ← Int.mul_emod]
    have : a * u = 1 + m * (-v) := by rw [Int.mul_neg]; omega
    rw [this, Int.add_mul_emod_self_left]
    exact Int.emod_eq_of_lt (by decide) (by omega)
  unfold iv
  cases q : (List.range m.toNat).find? (fun (r : Nat) => decide ((a * (r : Int)) % m = 1)) with
  | none =>
    have := List.find?_eq_none.mp q (u % m).toNat (List.mem_range.mpr (by omega))
    rw [Int.toNat_of_nonneg hr0] at this
    exact absurd (decide_eq_true hw) this
  | some r =>
    have h1 := List.find?_some q
    have h2 := List.mem_range.mp (List.mem_of_find?_eq_some q)
    exact ⟨Int.natCast_nonneg r, by show (r : Int) < m; omega, of_decide_eq_true h1⟩
theorem step_ok {a b v s : Int} (hv : (b * v) % s = 1) : s ∣ a - (a * v) % s * b := by
  have h1 := Int.mul_ediv_add_emod (a * v) s
  have h2 := Int.mul_ediv_add_emod (b * v) s
  rw [hv] at h2
  refine ⟨(a * v) / s * b - a * (b * v / s), ?_⟩
  have h3 : (a * v) % s = a * v - s * (a * v / s) := by omega
  have h4 : a * v * b = a * (s * (b * v / s) + 1) := by rw [h2, Int.mul_assoc, Int.mul_comm v b]
  rw [h3, Int.sub_mul, h4, Int.mul_add, Int.mul_one, Int.mul_sub, Int.mul_assoc s, Int.mul_left_comm a s]
  omega
theorem step_uniq {a b v s m : Int} (hv : (b * v) % s = 1) (h0 : 0 ≤ m) (h1 : m < s) (h : s ∣ a - m * b) : m = (a * v) % s := by
  obtain ⟨w, hw⟩ := h
  have h2 := Int.mul_ediv_add_emod (b * v) s
  rw [hv] at h2
  have e : a * v = m + s * (m * (b * v / s) + w * v) := by
    have e1 : a = s * w + m * b := by omega
    have e2 : m * b * v = m * (s * (b * v / s) + 1) := by rw [h2, Int.mul_assoc]
    rw [e1, Int.add_mul, e2, Int.mul_add m, Int.mul_one, Int.mul_add s, Int.mul_left_comm m s, Int.mul_assoc s w v]
    omega
  rw [e, Int.add_mul_emod_self_left, Int.emod_eq_of_lt h0 h1]
/-- inverses are one -/
theorem iv_uniq {a m r : Int} (hm : 2 ≤ m) (ha : 0 ≤ a) (hg : Int.gcd a m = 1) (h0 : 0 ≤ r) (h1 : r < m) (h : (a * r) % m = 1) : r = iv a m := by
  obtain ⟨i0, i1, i2⟩ := iv_spec hm ha hg
  have e : m ∣ 1 - r * a := by
    have := Int.mul_ediv_add_emod (a * r) m
    rw [h] at this
    exact ⟨-(a * r / m), by rw [Int.mul_neg, Int.mul_comm r a]; omega⟩
  have := step_uniq (a := 1) i2 h0 h1 e
  rw [this, Int.one_mul, Int.emod_eq_of_lt i0 i1]
/-! ### rows: a generator, its share, the divisor behind it; the last first -/
abbrev Rw := Int × Int × Int
def bnd : List Rw → Int
  | [] => 0
  | w :: _ => w.2.1 * w.1
inductive Chn (x : Int) : List Rw → Int → Prop
  | nil : 0 < x → Chn x [] x
  | cons {r : List Rw} {d g s e : Int} : Chn x r d → 0 < g → e = (Int.gcd d g : Int) → d = s * e → 2 ≤ s → bnd r < g → Chn x ((g, s, e) :: r) e
def mm (n : Int) (w : Rw) : Int := (n / w.2.2 * iv (w.1 / w.2.2) w.2.1) % w.2.1
def pp : List Rw → Int → List Int × Int
  | [], n => ([], n)
  | w :: r, n => (mm n w :: (pp r (n - mm n w * w.1)).1, (pp r (n - mm n w * w.1)).2)
def sm : List Rw → List Int → Int
  | w :: r, m :: ms => m * w.1 + sm r ms
  | _, _ => 0
def Rg : List Rw → List Int → Prop
  | [], [] => True
  | w :: r, m :: ms => 0 ≤ m ∧ m < w.2.1 ∧ Rg r ms
  | _, _ => False
theorem Chn.pos {x : Int} {r : List Rw} {e : Int} (h : Chn x r e) : 0 < x ∧ 0 < e := by
  induction h with
  | nil h => exact ⟨h, h⟩
  | @cons r d g s e h hg he hd hs hb ih =>
    refine ⟨ih.1, ?_⟩
    have h0 : 0 ≤ e := by rw [he]; exact Int.natCast_nonneg _
    rcases Int.lt_or_eq_of_le h0 with z | z
    · exact z
    · rw [← z, Int.mul_zero] at hd
      omega
theorem head_iv {d g s e : Int} (he0 : 0 < e) (hg : 0 < g) (he : e = (Int.gcd d g : Int)) (hd : d = s * e) (hs : 2 ≤ s) : 0 ≤ g / e ∧ Int.gcd (g / e) s = 1 := by
  refine ⟨Int.ediv_nonneg (by omega) (by omega), ?_⟩
  have h := Int.gcd_ediv_gcd_ediv_gcd (i := d) (j := g) (by omega)
  rw [← he] at h
  rw [Int.gcd_comm, show d / e = s by rw [hd, Int.mul_ediv_cancel _ (by omega)]] at h
  exact h
theorem mm_ok {d g s e n : Int} (he0 : 0 < e) (hg : 0 < g) (he : e = (Int.gcd d g : Int)) (hd : d = s * e) (hs : 2 ≤ s) (hn : e ∣ n) : 0 ≤ mm n (g, s, e) ∧ mm n (g, s, e) < s ∧ d ∣ n - mm n (g, s, e) * g := by
  obtain ⟨h1, h2⟩ := head_iv he0 hg he hd hs
  obtain ⟨_, _, hv⟩ := iv_spec hs h1 h2
  refine ⟨Int.emod_nonneg _ (show s ≠ 0 by omega), Int.emod_lt_of_pos _ (show 0 < s by omega), ?_⟩
  have h3 : e ∣ g := by rw [he]; exact Int.gcd_dvd_right _ _
  obtain ⟨w, hw⟩ := step_ok (a := n / e) hv
  refine ⟨w, ?_⟩
  have e1 := Int.ediv_mul_cancel hn
  have e2 := Int.ediv_mul_cancel h3
  have e3 : (n / e - mm n (g, s, e) * (g / e)) * e = s * w * e := by
    show (n / e - (n / e * iv (g / e) s) % s * (g / e)) * e = _
    rw [hw]
  rw [Int.sub_mul, Int.mul_assoc, e1, e2] at e3
  rw [e3, hd, Int.mul_right_comm]
theorem pp_ok {x : Int} {r : List Rw} {e : Int} (h : Chn x r e) : ∀ {n : Int}, e ∣ n → Rg r (pp r n).1 ∧ sm r (pp r n).1 + (pp r n).2 = n ∧ x ∣ (pp r n).2 := by
  induction h with
  | nil h => intro n hn; exact ⟨True.intro, by simp [pp, sm], hn⟩
  | @cons r d g s e h hg he hd hs hb ih =>
    intro n hn
    obtain ⟨p1, p2, p3⟩ := mm_ok (h.cons hg he hd hs hb).pos.2 hg he hd hs hn
    obtain ⟨i1, i2, i3⟩ := ih p3
    refine ⟨⟨p1, p2, i1⟩, ?_, i3⟩
    show mm n (g, s, e) * g + sm r (pp r (n - mm n (g, s, e) * g)).1 + (pp r (n - mm n (g, s, e) * g)).2 = n
    omega
/-! ### which numbers are orders -/
def Po (r : List Rw) (n : Int) : Prop := 0 ≤ (pp r n).2
theorem Chn.gpos {x : Int} {r : List Rw} {e : Int} (h : Chn x r e) : ∀ w ∈ r, 0 < w.1 := by
  induction h with
  | nil h => exact fun w h => nomatch h
  | @cons r d g s e h hg he hd hs hb ih => exact fun w hw => (List.mem_cons.mp hw).elim (fun z => by rw [z]; exact hg) (ih w)
/-- a multiple of x that is not below 0 -/
theorem mul_neg {x l : Int} (hx : 0 < x) (h : x ∣ l) (hl : l < 0) : l ≤ -x := by
  obtain ⟨c, rfl⟩ := h
  rcases Int.lt_or_le c 0 with z | z
  · have : x * c ≤ x * (-1) := Int.mul_le_mul_of_nonneg_left (by omega) (by omega)
    rw [Int.mul_neg, Int.mul_one] at this
    exact this
  · have := Int.mul_nonneg (show 0 ≤ x by omega) z
    omega
end LG

set_option Elab.async false
set_option maxRecDepth 100000
set_option maxHeartbeats 4000000
/-! LH1: papers of generators. -/
namespace LG
def rf (d : Int) : List Int → List Rw
  | [] => []
  | y :: ys => (y, d / eu d y, eu d y) :: rf (eu d y) ys
theorem chn_run {x : Int} : ∀ (ys : List Int) {d w : Int} {acc : List Rw} {p : Int × Int}, Chn x acc d → bnd acc * d ≤ w → 0 ≤ w → run (d, w) ys = some p → Chn x ((rf d ys).reverse ++ acc) p.1
  | [], d, w, acc, p, h, _, _, hr => by
    cases hr
    exact h
  | y :: ys, d, w, acc, p, h, hb, hw, hr => by
    rw [run_cons] at hr
    cases hs : stp (d, w) y with
    | none => rw [hs] at hr; cases hr
    | some p' =>
      rw [hs] at hr
      have hr : run p' ys = some p := hr
      unfold stp at hs
      split at hs
      · rename_i hc
        cases hs
        obtain ⟨c1, c2⟩ := hc
        have c1 : eu d y < d := c1
        have c2 : w < y * d := c2
        have hd := h.pos.2
        have hy : 0 < y := by
          rcases Int.lt_or_le 0 y with q | q
          · exact q
          · have : y * d ≤ 0 := Int.mul_nonpos_of_nonpos_of_nonneg q (by omega)
            omega
        have e0 := eu_pos hd (b := y) (by omega)
        have e1 := eu_eq (a := d) (b := y) (by omega) (by omega)
        have dv : eu d y ∣ d := by rw [e1]; exact Int.gcd_dvd_left _ _
        have e2 : d = d / eu d y * eu d y := (Int.ediv_mul_cancel dv).symm
        have e3 : 2 ≤ d / eu d y := by
          rcases Int.lt_or_le (d / eu d y) 2 with q | q
          · have : d / eu d y * eu d y ≤ 1 * eu d y := Int.mul_le_mul_of_nonneg_right (by omega) (by omega)
            omega
          · exact q
        have e4 : bnd acc < y := by
          rcases Int.lt_or_le (bnd acc) y with q | q
          · exact q
          · have : y * d ≤ bnd acc * d := Int.mul_le_mul_of_nonneg_right q (by omega)
            omega
        have := chn_run ys (h.cons hy e1 e2 e3 e4) (w := y * d) (by
          show d / eu d y * y * eu d y ≤ y * d
          rw [Int.mul_right_comm, ← e2, Int.mul_comm]; exact Int.le_refl _) (by omega) hr
        rw [rf, List.reverse_cons, List.append_assoc]
        exact this
      · cases hs
/-- the rows of generators, the last first -/
def rr : List Int → List Rw
  | [] => []
  | x :: ys => (rf x ys).reverse
def g0 (gs : List Int) : Int := gs.headD 0
theorem gen_chn : ∀ {gs : List Int}, genI gs = true → Chn (g0 gs) (rr gs) 1
  | [x], h => by
    have e : x = 1 := of_decide_eq_true h
    subst e
    exact .nil (by decide)
  | x :: y :: r, h => by
    rw [genI2, Bool.and_eq_true, Bool.and_eq_true, decide_eq_true_eq] at h
    obtain ⟨⟨h1, _⟩, h2⟩ := h
    cases q : run (x, x * x) (y :: r) with
    | none => rw [q] at h2; cases h2
    | some p =>
      rw [q] at h2
      have h3 : p.1 = 1 := of_decide_eq_true h2
      have hx : 0 ≤ x * x := Int.mul_nonneg (by omega) (by omega)
      have := chn_run (x := x) (y :: r) (acc := []) (.nil (by omega)) (by show 0 * x ≤ x * x; omega) hx q
      rw [List.append_nil, h3] at this
      exact this
/-- the paper of a number -/
def ppr (gs : List Int) (n : Int) : List Int := (pp (rr gs) n).2 / g0 gs :: (pp (rr gs) n).1.reverse
def Ord (gs : List Int) (n : Int) : Prop := Po (rr gs) n
instance (gs : List Int) (n : Int) : Decidable (Ord gs n) := inferInstanceAs (Decidable (0 ≤ _))
/-- ordered: the paper's first entry is not below 0 -/
theorem ord_first {gs : List Int} (h : genI gs = true) (n : Int) : Ord gs n ↔ 0 ≤ (ppr gs n).headD 0 := by
  have c := gen_chn h
  obtain ⟨_, _, p3⟩ := pp_ok c (Int.one_dvd n)
  show 0 ≤ (pp (rr gs) n).2 ↔ 0 ≤ (pp (rr gs) n).2 / g0 gs
  have hx := c.pos.1
  constructor
  · intro z; exact Int.ediv_nonneg z (by omega)
  · intro z
    obtain ⟨k, hk⟩ := p3
    rw [hk, Int.mul_ediv_cancel_left _ (by omega)] at z
    rw [hk]
    exact Int.mul_nonneg (by omega) z
end LG

set_option Elab.async false
set_option maxRecDepth 100000
set_option maxHeartbeats 4000000
/-! LW: plain: the generators that a word tells are generators; its counts tell the last gap. -/
namespace LW
open LO LC LG
theorem mem_crn {ws : List Int} {h : Nat} : h ∈ crn ws ↔ Crn ws h := by
  unfold crn
  rw [List.mem_filter, List.mem_range]
  constructor
  · rintro ⟨h1, h2⟩
    exact (crn_iff (by omega)).mp h2
  · intro h1
    have hl : h ≤ ws.length := by obtain ⟨_, _, hl, _⟩ := h1; exact hl
    exact ⟨by omega, (crn_iff hl).mpr h1⟩
instance (ws : List Int) (h : Nat) : Decidable (Crn ws h) := decidable_of_iff _ (mem_crn (ws := ws) (h := h))
theorem crn_succ {ws : List Int} {h : Nat} (hl : h < ws.length) : Crn ws (h + 1) ↔ (ws.getD h 0 = -1 ∧ 1 ≤ h) ∨ (ws.getD h 0 = 0 ∧ Crn ws h) := by
  constructor
  · rintro ⟨k, h1, h2, h3, h4⟩
    by_cases e : k + 1 = h
    · exact .inl ⟨by rw [← e]; exact h3, by omega⟩
    · refine .inr ⟨?_, k, by omega, by omega, h3, fun i a b => h4 i a (by omega)⟩
      rw [getD_any hl 0 1]
      exact h4 h (by omega) (by omega)
  · rintro (⟨h1, h2⟩ | ⟨h1, k, h2, h3, h4, h5⟩)
    · exact ⟨h - 1, by omega, by omega, by rw [show h - 1 + 1 = h by omega]; exact h1, fun i a b => by omega⟩
    · refine ⟨k, by omega, by omega, h4, fun i a b => ?_⟩
      by_cases e : i = h
      · rw [e, getD_any hl 1 0]; exact h1
      · exact h5 i a (by omega)
theorem crn_0 (ws : List Int) : ¬ Crn ws 0 := fun ⟨_, h, _⟩ => by omega
/-- one height of the generators' loop -/
def gst (ws : List Int) : Nat → List Int × Int × Int
  | 0 => ([((cnt ws 0 : Nat) : Int)], ((cnt ws 0 : Nat) : Int), 0)
  | h + 1 => if Crn ws h ∧ ¬ Crn ws (h + 1) then
      ((gst ws h).1 ++ [((gst ws h).2.2 + ((cnt ws h : Nat) : Int) * ((cnt ws h : Nat) : Int)) / (gst ws h).2.1], ((cnt ws h : Nat) : Int), (gst ws h).2.2 + ((cnt ws h : Nat) : Int) * ((cnt ws h : Nat) : Int))
    else ((gst ws h).1, (gst ws h).2.1, (gst ws h).2.2 + ((cnt ws h : Nat) : Int) * ((cnt ws h : Nat) : Int))
def gensW (ws : List Int) : List Int := (gst ws (ws.length + 1)).1
theorem gst_on {ws : List Int} {h : Nat} {f : List Int} {d q : Int} (e : gst ws h = (f, d, q)) (hc : ¬ (Crn ws h ∧ ¬ Crn ws (h + 1))) : gst ws (h + 1) = (f, d, q + ((cnt ws h : Nat) : Int) * ((cnt ws h : Nat) : Int)) := by
  rw [gst, if_neg hc, e]
theorem gst_end {ws : List Int} {h : Nat} {f : List Int} {d q : Int} (e : gst ws h = (f, d, q)) (h1 : Crn ws h) (h2 : ¬ Crn ws (h + 1)) : gst ws (h + 1) = (f ++ [(q + ((cnt ws h : Nat) : Int) * ((cnt ws h : Nat) : Int)) / d], ((cnt ws h : Nat) : Int), q + ((cnt ws h : Nat) : Int) * ((cnt ws h : Nat) : Int)) := by
  rw [gst, if_pos ⟨h1, h2⟩, e]
theorem drop_step {ws : List Int} {h : Nat} (hl : h < ws.length) : ord2 (ws.drop h) = stepO (ws.getD h 0) (ord2 (ws.drop (h + 1))) := by
  rw [List.drop_eq_getElem_cons hl, ord2, List.getD_eq_getElem?_getD, List.getElem?_eq_getElem hl]; rfl
theorem lastGo_snoc : ∀ (g : List Int) (y : Int) {p p2 : Int × Int}, run p g = some p2 → lastGo p.1 (g ++ [y]) = lastGo p.1 g + (p2.1 / eu p2.1 y - 1) * y
  | [], y, p, p2, h => by
    cases h
    show (p.1 / eu p.1 y - 1) * y + 0 = 0 + _
    omega
  | z :: g, y, p, p2, h => by
    rw [run_cons] at h
    cases hs : stp p z with
    | none => rw [hs] at h; cases h
    | some p' =>
      rw [hs] at h
      have h : run p' g = some p2 := h
      have e : p'.1 = eu p.1 z := by
        unfold stp at hs
        split at hs
        · cases hs; rfl
        · cases hs
      have := lastGo_snoc g y h
      rw [e] at this
      show (p.1 / eu p.1 z - 1) * z + lastGo (eu p.1 z) (g ++ [y]) = (p.1 / eu p.1 z - 1) * z + lastGo (eu p.1 z) g + _
      omega
/-- a run of letters begins at this height -/
structure Rs (ws : List Int) (x : Int) (h : Nat) (g : List Int) (d q : Int) : Prop where
  st : gst ws h = (x :: g, d, q)
  w : ∃ w, run (x, x * x) g = some (d, w) ∧ w ≤ q
  dv : d * d ∣ q
  kl : q / d - (cto ws h).sum = lastGo x g + d - x
  nc : ¬ Crn ws h
  o1 : ∃ a : Nat, (ord2 (ws.drop h)).1 = some a ∧ (a : Int) = d
  d1 : 1 ≤ d
  dx : d ≤ x
  q0 : 0 ≤ q
/-- within a run -/
structure Ir (ws : List Int) (x : Int) (h : Nat) (g : List Int) (d q : Int) (A B : Nat) (b e s0 w : Int) : Prop where
  st : gst ws h = (x :: g, d, q)
  od : ord2 (ws.drop h) = (some A, some B)
  ch : run (x, x * x) g = some (d, w)
  dv : d * d ∣ e
  e0 : 0 ≤ e
  wl : w < e + d * b
  qe : q + (A : Int) * (B : Int) = e + d * b
  gc : Int.gcd A B = Int.gcd d b
  se : (cto ws h).sum + A + B = s0 + d + b
  kl : e / d - s0 = lastGo x g + d - x
  nc : ¬ Crn ws h → (A : Int) = d ∧ d ∣ b - B
  cr : Crn ws h → ¬ d ∣ b
  d1 : 1 ≤ d
  dx : d ≤ x
  b0 : 0 < b
theorem sum_succ (ws : List Int) (n : Nat) : (cto ws (n + 1)).sum = (cto ws n).sum + ((cnt ws n : Nat) : Int) := by
  rw [cto_succ, List.sum_append, List.sum_singleton]
theorem pos_of {ws : List Int} {h : Nat} {A B : Nat} (e : ord2 (ws.drop h) = (some A, some B)) : 1 ≤ A ∧ 1 ≤ B := by
  have := ord_pos (ws.drop h)
  rw [e] at this
  exact ⟨this.1 A rfl, this.2 B rfl⟩
theorem div_mul_add {d k b : Int} (hd : 0 < d) : (d * d * k + d * b) / d = d * k + b := by
  rw [Int.mul_assoc, ← Int.mul_add, Int.mul_ediv_cancel_left _ (by omega)]
theorem gcd_kb {d k b : Int} : Int.gcd d (d * k + b) = Int.gcd d b := by
  rw [Int.add_comm, Int.gcd_add_mul_left_right]
theorem Ir.turn {ws : List Int} {x : Int} {h : Nat} {g : List Int} {d q : Int} {A B : Nat} {b e s0 w : Int} (I : Ir ws x h g d q A B b e s0 w) (hl : h < ws.length) (h1 : 1 ≤ h) (hw : ws.getD h 0 = -1) {A' B' : Nat} (o : ord2 (ws.drop (h + 1)) = (some A', some B')) :
    Ir ws x (h + 1) g d (q + ((cnt ws h : Nat) : Int) * ((cnt ws h : Nat) : Int)) A' B' b e s0 w := by
  have od := I.od
  rw [drop_step hl, hw, o] at od
  have ea : A = A' + B' ∧ B = A' := by
    have : (some (A' + B'), some A') = (some A, some B) := od
    injection this with e1 e2
    injection e1 with e1
    injection e2 with e2
    omega
  obtain ⟨ea, eb⟩ := ea
  obtain ⟨p1, p2⟩ := pos_of o
  have hc : cnt ws h = A' := by
    unfold cnt
    rw [I.od, ea, eb]
    show (if A' < A' + B' then A' else A' + B') = A'
    rw [if_pos (by omega)]
  have hcr : Crn ws (h + 1) := (crn_succ hl).mpr (.inl ⟨hw, h1⟩)
  refine ⟨gst_on I.st fun z => z.2 hcr, o, I.ch, I.dv, I.e0, I.wl, ?_, ?_, ?_, I.kl, fun z => absurd hcr z, fun _ hd => ?_, I.d1, I.dx, I.b0⟩
  · have := I.qe
    rw [ea, eb, Int.natCast_add, Int.add_mul] at this
    rw [hc, Int.mul_comm (A' : Int) (B' : Int)]
    omega
  · rw [← I.gc, ea, eb, Int.natCast_add, Int.gcd_comm (_ + _)]
    rw [show ((A' : Int) + B') = (B' : Int) + A' * 1 by omega, Int.gcd_add_mul_left_right]
  · have := I.se
    rw [sum_succ, hc]
    rw [ea, eb, Int.natCast_add] at this
    omega
  · by_cases z : Crn ws h
    · exact I.cr z hd
    · obtain ⟨n1, n2⟩ := I.nc z
      have : d ∣ (B : Int) := by
        have := Int.dvd_sub hd n2
        rw [show b - (b - (B : Int)) = B by omega] at this
        exact this
      have := Int.le_of_dvd (by omega) this
      omega
theorem Ir.zero {ws : List Int} {x : Int} {h : Nat} {g : List Int} {d q : Int} {A B : Nat} {b e s0 w : Int} (I : Ir ws x h g d q A B b e s0 w) (hl : h < ws.length) (hw : ws.getD h 0 = 0) {A' B' : Nat} (o : ord2 (ws.drop (h + 1)) = (some A', some B')) :
    Ir ws x (h + 1) g d (q + ((cnt ws h : Nat) : Int) * ((cnt ws h : Nat) : Int)) A' B' b e s0 w := by
  have od := I.od
  rw [drop_step hl, hw, o] at od
  have ea : A = A' ∧ B = A' + B' := by
    have : (some A', some (A' + B')) = (some A, some B) := od
    injection this with e1 e2
    injection e1 with e1
    injection e2 with e2
    omega
  obtain ⟨ea, eb⟩ := ea
  obtain ⟨p1, p2⟩ := pos_of o
  have hc : cnt ws h = A' := by
    unfold cnt
    rw [I.od, ea, eb]
    show (if A' + B' < A' then A' + B' else A') = A'
    rw [if_neg (by omega)]
  have hcr : Crn ws (h + 1) ↔ Crn ws h := by
    rw [crn_succ hl, hw]
    constructor
    · rintro (⟨z, _⟩ | ⟨_, z⟩)
      · cases z
      · exact z
    · intro z; exact .inr ⟨rfl, z⟩
  refine ⟨gst_on I.st fun z => z.2 (hcr.mpr z.1), o, I.ch, I.dv, I.e0, I.wl, ?_, ?_, ?_, I.kl, fun z => ?_, fun z => I.cr (hcr.mp z), I.d1, I.dx, I.b0⟩
  · have := I.qe
    rw [ea, eb, Int.natCast_add, Int.mul_add] at this
    rw [hc]
    omega
  · rw [← I.gc, ea, eb, Int.natCast_add]
    rw [show ((A' : Int) + B') = (B' : Int) + A' * 1 by omega, Int.gcd_add_mul_left_right]
  · have := I.se
    rw [sum_succ, hc]
    rw [ea, eb, Int.natCast_add] at this
    omega
  · obtain ⟨n1, n2⟩ := I.nc fun y => z (hcr.mpr y)
    refine ⟨by omega, ?_⟩
    have : d ∣ b - (B : Int) + A' := Int.dvd_add n2 (by rw [show (A' : Int) = d by omega]; exact Int.dvd_refl _)
    rw [show b - (B : Int) + A' = b - B' by rw [eb, Int.natCast_add]; omega] at this
    exact this
/-- a letter that is no turn and not 0 ends the run -/
theorem Ir.stop {ws : List Int} {x : Int} {h : Nat} {g : List Int} {d q : Int} {A B : Nat} {b e s0 w : Int} (I : Ir ws x h g d q A B b e s0 w) (hl : h < ws.length) (h0 : ws.getD h 0 ≠ -1) (h1 : ws.getD h 0 ≠ 0) :
    ∃ g' d', Rs ws x (h + 1) g' d' (q + ((cnt ws h : Nat) : Int) * ((cnt ws h : Nat) : Int)) ∧ g'.length ≤ g.length + 1 ∧ ∀ y ∈ g', y ∈ g ∨ y ≤ q + ((cnt ws h : Nat) : Int) * ((cnt ws h : Nat) : Int) := by
  have od := I.od
  rw [drop_step hl] at od
  unfold stepO at od
  rw [if_neg h0, if_neg h1] at od
  injection od with e1 e2
  have eb : A = B := by rw [e1] at e2; injection e2
  obtain ⟨p1, p2⟩ := pos_of I.od
  have hc : cnt ws h = A := by
    unfold cnt
    rw [I.od, ← eb]
    show (if A < A then A else A) = A
    split <;> rfl
  have hcr : ¬ Crn ws (h + 1) := by
    rw [crn_succ hl]
    rintro (⟨z, _⟩ | ⟨z, _⟩)
    · exact h0 z
    · exact h1 z
  have hG : (A : Int) = (Int.gcd d b : Int) := by
    rw [← I.gc, ← eb, Int.gcd_self, Int.natAbs_natCast]
  have hq : q + (A : Int) * (A : Int) = e + d * b := by
    have := I.qe
    rw [← eb] at this
    exact this
  have hd0 := I.d1
  have hb0 := I.b0
  have hse := I.se
  have hkl := I.kl
  obtain ⟨k, hk⟩ := I.dv
  have hek : e / d = d * k := by rw [hk, Int.mul_assoc, Int.mul_ediv_cancel_left _ (by omega)]
  have hqd : (e + d * b) / d = d * k + b := by rw [hk, div_mul_add (by omega)]
  have hq0 : 0 ≤ e + d * b := Int.add_nonneg I.e0 (Int.mul_nonneg (by omega) (by omega))
  rw [hc, hq]
  by_cases z : Crn ws h
  · -- a group of corners ends
    have hdk : 0 ≤ d * k := by rw [← hek]; exact Int.ediv_nonneg I.e0 (by omega)
    have hy : 0 < d * k + b := by omega
    have heu : eu d (d * k + b) = A := by
      rw [eu_eq (by omega) (by omega), gcd_kb, hG]
    have hAd : (A : Int) ∣ d := by rw [hG]; exact Int.gcd_dvd_left _ _
    have hAb : (A : Int) ∣ b := by rw [hG]; exact Int.gcd_dvd_right _ _
    have hlt : (A : Int) < d := by
      have h2 := Int.le_of_dvd (by omega) hAd
      rcases Int.lt_or_eq_of_le h2 with y | y
      · exact y
      · exact absurd (by rw [← y]; exact hAb) (I.cr z)
    have hyd : (d * k + b) * d = e + d * b := by
      rw [Int.add_mul, hk, Int.mul_comm b d, Int.mul_right_comm]
    have hrun : run (x, x * x) (g ++ [d * k + b]) = some ((A : Int), e + d * b) := by
      refine run_snoc _ _ _ I.ch ?_
      unfold stp
      rw [if_pos ⟨by rw [heu]; exact hlt, by rw [hyd]; exact I.wl⟩, heu, hyd]
    obtain ⟨n, hn⟩ := hAd
    have hyA : (A : Int) ∣ d * k + b := Int.dvd_add (Int.dvd_trans ⟨n, hn⟩ ⟨k, rfl⟩) hAb
    refine ⟨g ++ [d * k + b], A, ⟨?_, ⟨_, hrun, Int.le_refl _⟩, ?_, ?_, hcr, ⟨A, e1, rfl⟩, by omega, by have := I.dx; omega, hq0⟩, by rw [List.length_append]; exact Nat.le_refl _, fun y hy2 => ?_⟩
    · rw [gst_end I.st z hcr, hc, hq, hqd]; rfl
    · rw [← hyd, Int.mul_comm (d * k + b) d]
      exact Int.mul_dvd_mul ⟨n, hn⟩ hyA
    · have h1 := lastGo_snoc g (d * k + b) I.ch
      have h1 : lastGo x (g ++ [d * k + b]) = lastGo x g + (d / eu d (d * k + b) - 1) * (d * k + b) := h1
      rw [h1, heu]
      have hda : d / (A : Int) = n := by rw [hn, Int.mul_ediv_cancel_left _ (by omega)]
      have hqa : (e + d * b) / (A : Int) = n * (d * k + b) := by
        rw [← hyd, Int.mul_comm (d * k + b) d]
        rw [show d * (d * k + b) = (A : Int) * (n * (d * k + b)) by rw [← Int.mul_assoc, ← hn], Int.mul_ediv_cancel_left _ (by omega)]
      rw [hda, hqa, sum_succ, hc, Int.sub_mul]
      omega
    · rcases List.mem_append.mp hy2 with y2 | y2
      · exact .inl y2
      · rw [List.mem_singleton.mp y2]
        refine .inr ?_
        rw [← hyd]
        have : (d * k + b) * 1 ≤ (d * k + b) * d := Int.mul_le_mul_of_nonneg_left (by omega) (by omega)
        omega
  · obtain ⟨n1, n2⟩ := I.nc z
    have hdb : d ∣ b := by
      have := Int.dvd_add n2 (show d ∣ (B : Int) by rw [← eb, n1]; exact Int.dvd_refl _)
      rw [show b - (B : Int) + B = b by omega] at this
      exact this
    refine ⟨g, d, ⟨?_, ⟨w, I.ch, by have := I.wl; omega⟩, ?_, ?_, hcr, ⟨A, e1, n1⟩, I.d1, I.dx, hq0⟩, by omega, fun y hy => .inl hy⟩
    · rw [gst_on I.st fun y => z y.1, hc, hq]
    · exact Int.dvd_add ⟨k, hk⟩ (Int.mul_dvd_mul (Int.dvd_refl d) hdb)
    · rw [hqd, sum_succ, hc]
      omega
theorem ords_in {ws : List Int} (hw : Wd ws) (h1 : ws ≠ []) (h2 : ws ≠ [-1]) {h : Nat} (hl : h < ws.length) : ∃ A B : Nat, ord2 (ws.drop h) = (some A, some B) := by
  have last : ∃ l, ws.getLast? = some l ∧ 0 < l := by
    rcases hw with z | z | z
    · exact absurd z h1
    · exact absurd z h2
    · exact z
  obtain ⟨l, hl1, hl2⟩ := last
  have n1 : ws.drop h ≠ [] := fun e => by
    have := congrArg List.length e
    rw [List.length_drop, List.length_nil] at this
    omega
  have n2 : ws.drop h ≠ [-1] := fun e => by
    have e2 : (ws.drop h).getLast? = some l := by
      rw [List.getLast?_drop, if_neg (by omega)]; exact hl1
    rw [e] at e2
    have e2 : some (-1 : Int) = some l := e2
    injection e2 with e2
    omega
  obtain ⟨o1, o2⟩ := ord_both n1 n2 (hw.dropN h)
  cases e : ord2 (ws.drop h) with
  | mk a b =>
    rw [e] at o1 o2
    cases a with
    | none => cases o1
    | some a => cases b with
      | none => cases o2
      | some b => exact ⟨a, b, rfl⟩
theorem last_pos {ws : List Int} (hw : Wd ws) (h1 : ws ≠ []) (h2 : ws ≠ [-1]) {h : Nat} (hl : h + 1 = ws.length) : 0 < ws.getD h 0 := by
  rcases hw with z | z | ⟨l, hl1, hl2⟩
  · exact absurd z h1
  · exact absurd z h2
  · rw [List.getLast?_eq_getElem?] at hl1
    rw [List.getD_eq_getElem?_getD, show h = ws.length - 1 by omega, hl1]
    exact hl2
theorem Rs.go {ws : List Int} {x : Int} {h : Nat} {g : List Int} {d q : Int} (R : Rs ws x h g d q) {A B : Nat} (o : ord2 (ws.drop h) = (some A, some B)) : ∃ w, Ir ws x h g d q A B (B : Int) q (cto ws h).sum w := by
  obtain ⟨w, w1, w2⟩ := R.w
  obtain ⟨a, a1, a2⟩ := R.o1
  rw [o] at a1
  have : A = a := by injection a1
  subst this
  have hd := R.d1
  obtain ⟨p1, p2⟩ := pos_of o
  have hm : d * 1 ≤ d * (B : Int) := Int.mul_le_mul_of_nonneg_left (by omega) (by omega)
  refine ⟨w, R.st, o, w1, R.dv, R.q0, by omega, by rw [a2], by rw [a2], by omega, R.kl, fun _ => ⟨a2, by rw [Int.sub_self]; exact Int.dvd_zero _⟩, fun z => absurd z R.nc, R.d1, R.dx, by omega⟩
/-- the bound of the squares so far -/
theorem walk_end {ws : List Int} (hw : Wd ws) (h1 : ws ≠ []) (h2 : ws ≠ [-1]) {x : Int} : ∀ (n : Nat) {h : Nat} {g : List Int} {d q : Int} {A B : Nat} {b e s0 w : Int}, n + h + 1 = ws.length → 1 ≤ h → Ir ws x h g d q A B b e s0 w →
    ∃ g' d' q', Rs ws x ws.length g' d' q'
  | 0, h, g, d, q, A, B, b, e, s0, w, hn, hh, I => by
    have hp := last_pos hw h1 h2 (h := h) (by omega)
    obtain ⟨g', d', r, _⟩ := I.stop (by omega) (by omega) (by omega)
    rw [show h + 1 = ws.length by omega] at r
    exact ⟨_, _, _, r⟩
  | n + 1, h, g, d, q, A, B, b, e, s0, w, hn, hh, I => by
    have hl : h < ws.length := by omega
    obtain ⟨A', B', o⟩ := ords_in hw h1 h2 (show h + 1 < ws.length by omega)
    by_cases z1 : ws.getD h 0 = -1
    · exact walk_end hw h1 h2 n (by omega) (by omega) (I.turn hl hh z1 o)
    · by_cases z2 : ws.getD h 0 = 0
      · exact walk_end hw h1 h2 n (by omega) (by omega) (I.zero hl z2 o)
      · obtain ⟨g', d', r, _⟩ := I.stop hl z1 z2
        obtain ⟨w', I'⟩ := r.go o
        exact walk_end hw h1 h2 n (by omega) (by omega) I'
/-- the first height -/
theorem start {ws : List Int} (hw : Wd ws) (h1 : ws ≠ []) (h2 : ws ≠ [-1]) : ∃ g' d' q', Rs ws ((cnt ws 0 : Nat) : Int) ws.length g' d' q' := by
  have hl : 0 < ws.length := List.length_pos_iff.mpr h1
  obtain ⟨A, B, o⟩ := ords_in hw h1 h2 hl
  have o0 : ord2 ws = (some A, some B) := o
  obtain ⟨p1, p2⟩ := pos_of o
  have hs0 : (cto ws 0).sum = 0 := rfl
  have st0 : gst ws 0 = ([((cnt ws 0 : Nat) : Int)], ((cnt ws 0 : Nat) : Int), 0) := rfl
  have hcx : cnt ws 0 = if B < A then B else A := by unfold cnt; rw [o]; rfl
  have od := o
  rw [drop_step hl] at od
  by_cases hone : ws.length = 1
  · -- one letter
    have hp := last_pos hw h1 h2 (h := 0) (by omega)
    unfold stepO at od
    rw [if_neg (by omega), if_neg (by omega)] at od
    have hc1 : ¬ Crn ws (0 + 1) := by
      rw [crn_succ hl]
      rintro (⟨_, z⟩ | ⟨_, z⟩)
      · omega
      · exact crn_0 ws z
    have hd : ws.drop (0 + 1) = [] := List.drop_eq_nil_of_le (by omega)
    rw [hd] at od
    injection od with e1 e2
    have e1 : A = 1 := by injection e1 with e1; omega
    have e2 : B = 1 := by injection e2 with e2; omega
    have hx : cnt ws 0 = 1 := by rw [hcx, e1, e2]; rfl
    refine ⟨[], 1, 1, ?_⟩
    rw [hone]
    have hst := gst_on st0 (fun z => crn_0 ws z.1)
    rw [hx] at hst ⊢
    refine ⟨hst, ⟨_, rfl, by decide⟩, ⟨1, rfl⟩, ?_, hc1, ⟨1, by rw [hd]; rfl, rfl⟩, by decide, by decide, by decide⟩
    have : (cto ws 1).sum = 1 := by
      have := sum_succ ws 0
      rw [hs0, hx] at this
      exact this
    rw [this]
    rfl
  · obtain ⟨A', B', o'⟩ := ords_in hw h1 h2 (show 0 + 1 < ws.length by omega)
    obtain ⟨p3, p4⟩ := pos_of o'
    rw [o'] at od
    have hst := gst_on st0 (fun z => crn_0 ws z.1)
    have hc1 : ¬ Crn ws (0 + 1) := by
      rw [crn_succ hl]
      rintro (⟨_, z⟩ | ⟨_, z⟩)
      · omega
      · exact crn_0 ws z
    have hs1 : (cto ws (0 + 1)).sum = ((cnt ws 0 : Nat) : Int) := by rw [sum_succ, hs0, Int.zero_add]
    have fin : ∀ {x : Int} {b : Int}, x = A' → ((cnt ws 0 : Nat) : Int) = x → b = x + B' → ∃ g' d' q', Rs ws x ws.length g' d' q' := fun {x b} ex ec eb => by
      subst ex
      rw [ec] at hst hs1
      refine walk_end hw h1 h2 (ws.length - 2) (h := 1) (g := []) (d := A') (q := 0 + (A' : Int) * A') (A := A') (B := B') (b := b) (e := 0) (s0 := 0) (w := (A' : Int) * A') (by omega) (by omega) ⟨hst, o', rfl, Int.dvd_zero _, Int.le_refl _, ?_, ?_, ?_, ?_, ?_, fun _ => ⟨rfl, ?_⟩, fun z => absurd z hc1, by omega, Int.le_refl _, by omega⟩
      · have : (A' : Int) * A' < A' * b := by
          rw [eb, Int.mul_add]
          have : 0 < (A' : Int) * B' := Int.mul_pos (by omega) (by omega)
          omega
        omega
      · rw [eb, Int.mul_add]; omega
      · rw [eb, show (A' : Int) + B' = (B' : Int) + A' * 1 by omega, Int.gcd_add_mul_left_right]
      · have hs1 : (cto ws 1).sum = (A' : Int) := hs1
        rw [hs1, eb]; omega
      · rw [Int.zero_ediv]
        show (0 : Int) - 0 = 0 + _ - _
        omega
      · rw [eb, show (A' : Int) + B' - B' = A' by omega]; exact Int.dvd_refl _
    by_cases z1 : ws.getD 0 0 = -1
    · rw [z1] at od
      have : (some (A' + B'), some A') = (some A, some B) := od
      injection this with e1 e2
      injection e1 with e1
      injection e2 with e2
      have hx : cnt ws 0 = A' := by rw [hcx, if_pos (by omega)]; omega
      rw [hx]
      exact fin (x := A') rfl (by rw [hx]) rfl
    · by_cases z2 : ws.getD 0 0 = 0
      · rw [z2] at od
        have : (some A', some (A' + B')) = (some A, some B) := od
        injection this with e1 e2
        injection e1 with e1
        injection e2 with e2
        have hx : cnt ws 0 = A' := by rw [hcx, if_neg (by omega)]; omega
        rw [hx]
        exact fin (x := A') rfl (by rw [hx]) rfl
      · unfold stepO at od
        rw [if_neg z1, if_neg z2] at od
        injection od with e1 e2
        injection e1 with e1
        injection e2 with e2
        have e1 : A = A' := e1.symm
        have e2 : B = A' := e2.symm
        have hx : cnt ws 0 = A' := by rw [hcx, e1, e2, if_neg (by omega)]
        rw [hx] at hst hs1 ⊢
        have R : Rs ws A' (0 + 1) [] A' (0 + (A' : Int) * A') := by
          refine ⟨hst, ⟨_, rfl, by show (A' : Int) * A' ≤ 0 + (A' : Int) * A'; omega⟩, by rw [Int.zero_add]; exact Int.dvd_refl _, ?_, hc1, ⟨A', by rw [o'], rfl⟩, by omega, Int.le_refl _, by rw [Int.zero_add]; exact Int.mul_nonneg (by omega) (by omega)⟩
          rw [hs1, Int.zero_add, Int.mul_ediv_cancel_left _ (by omega)]
          show (A' : Int) - A' = 0 + A' - A'
          omega
        obtain ⟨w', I'⟩ := R.go o'
        exact walk_end hw h1 h2 (ws.length - 2) (h := 1) (by omega) (by omega) I'
def sqs (ws : List Int) (n : Nat) : Int := ((List.range n).map fun h => ((cnt ws h : Nat) : Int) * ((cnt ws h : Nat) : Int)).sum
theorem gst_sq (ws : List Int) : ∀ h, (gst ws h).2.2 = sqs ws h
  | 0 => rfl
  | h + 1 => by
    have ih := gst_sq ws h
    have e : sqs ws (h + 1) = sqs ws h + ((cnt ws h : Nat) : Int) * ((cnt ws h : Nat) : Int) := by
      unfold sqs
      rw [List.range_succ, List.map_append, List.sum_append, List.map_singleton, List.sum_singleton]
    rw [gst, e, ← ih]
    split <;> rfl
end LW

set_option Elab.async false
set_option maxRecDepth 100000
set_option maxHeartbeats 4000000
set_option exponentiation.threshold 2000
/-! LC2: the counts of branches, walked. -/
namespace LC
open PySem PySem.Spec PyProof.Rows L2 L3 LD LN LP LO LB
local macro_rules | `(tactic| walk_at "ev") => `(tactic| repeat (first | refine lc_stop ?_ | refine for_stop ?_ | refine ⟨_, rfl, ?_⟩ | refine ⟨_, _, rfl, ?_⟩ | refine ⟨rfl, ?_⟩ | refine And.intro (by assumption) ?_ | refine ⟨by decide, ?_⟩ | refine ⟨ltL rfl, ?_⟩ | refine ⟨_, at0, ?_⟩ | refine ⟨_, at1, ?_⟩ | refine ⟨_, at2, ?_⟩ | refine ifT ?_ | refine ifF ?_ | refine ⟨_, _, _, rfl, ?_⟩ | refine ⟨⟨_, rfl⟩, ?_⟩))
local macro_rules | `(tactic| walk_at "eva") => `(tactic| repeat (first | refine ⟨_, rfl, ?_⟩ | refine ⟨_, _, rfl, ?_⟩ | refine ⟨rfl, ?_⟩ | refine And.intro (by assumption) ?_ | refine ⟨by decide, ?_⟩ | refine ⟨ltL rfl, ?_⟩ | refine ⟨_, at0, ?_⟩ | refine ⟨_, at1, ?_⟩ | refine ⟨_, at2, ?_⟩ | refine ifT ?_ | refine ifF ?_ | refine ⟨_, _, _, rfl, ?_⟩ | refine ⟨⟨_, rfl⟩, ?_⟩))
def sp_counts_to : DSp := fun ds G q _ => ∃ (ws : List Int) (n : Nat), ds = [pt ws, .int (n : Nat)] ∧ ws.length ≤ 60 ∧ Wd ws ∧ n ≤ 300 ∧ q (.fr ((cto ws n).map D.int)) G
def sp__law_counts : DSp := sp_counts_to
def sp__law_second : DSp := fun ds G q _ => ∃ ws : List Int, ds = [pt ws] ∧ q (.val (secD ws)) G
def sp__law_nears : DSp := fun ds G q _ => ∃ ws : List Int, ds = [pt ws] ∧ q (.fr ((nears ws).map pt)) G
theorem len_counts_to : ∀ ds G q e, sp_counts_to ds G q e → ds.length = 2 := fun ds G q e ⟨_, _, h, _⟩ => by rw [h]; rfl
theorem len__law_counts : ∀ ds G q e, sp__law_counts ds G q e → ds.length = 2 := len_counts_to
theorem len__law_second : ∀ ds G q e, sp__law_second ds G q e → ds.length = 1 := fun ds G q e ⟨_, h, _⟩ => by rw [h]; rfl
theorem len__law_nears : ∀ ds G q e, sp__law_nears ds G q e → ds.length = 1 := fun ds G q e ⟨_, h, _⟩ => by rw [h]; rfl
def t__law_counts (dw : Exc3 → Reg → Prop) : DSt :=
  (dSeq (dSet 2 (dLst dNil))
    (dSeq (dFor (dIter (dCall sp__law_orders (fun x _ G => dw x G) (dCons (dVar 0) dNil))) (gTp 2 (gsCons (gNm 3) (gsCons (gNm 4) gsNil))) (dDrop (dApp 2 (dCB bMinL (dPCons (dLc (dIter (dTup (dCons (dVar 3) (dCons (dVar 4) dNil)))) (gNm 5) (dTest (dOp (oIs true) (dVar 5) (dC .non))) (dVar 5) [5]) dNil)))))
    (dRet (dSl oSl (dOp oAdd (dVar 2) (dOp oMul (dLst (dCons (dC (.int 1)) dNil)) (dVar 1))) dNoPart (dPart (dVar 1))))))
def t__law_second (dw : Exc3 → Reg → Prop) : DSt :=
  (dSeq (dSet 1 (dCB bLen (dPCons (dVar 0) dNil)))
    (dSeq (dWhile (dAnd (dTest (dOp oGt (dVar 1) (dC (.int 0)))) (dTest (dOp oEq (dOp oIx (dVar 0) (dOp oSub (dVar 1) (dC (.int 1)))) (dC (.int 0))))) (dSet 1 (dOp oSub (dVar 1) (dC (.int 1)))))
    (dSeq (dIfS (dOr (dTest (dOp oLt (dVar 1) (dC (.int 2)))) (dTest (dOp oNe (dOp oIx (dVar 0) (dOp oSub (dVar 1) (dC (.int 1)))) (dUn uNeg (dC (.int 1)))))) (dRet (dC .non)) dNext)
    (dRet (dCB bTuple (dPCons (dSl oSl (dVar 0) dNoPart (dPart (dOp oSub (dVar 1) (dC (.int 2))))) dNil))))))
def t__law_nears (dw : Exc3 → Reg → Prop) : DSt :=
  (dSeq (dIfS (dTest (dOp oEq (dVar 0) (dTup dNil))) (dRet (dLst dNil)) dNext)
    (dSeq (dSet 1 (dCall sp__law_second (fun x _ G => dw x G) (dCons (dVar 0) dNil)))
    (dRet (dOp oAdd (dLst (dCons (dCB bTuple (dPCons (dSl oSl (dVar 0) dNoPart (dPart (dUn uNeg (dC (.int 1))))) dNil)) dNil)) (dIf (dTest (dOp (oIs false) (dVar 1) (dC .non))) (dLst dNil) (dLst (dCons (dVar 1) dNil)))))))
theorem sfx_mem : ∀ (ws : List Int) (t : List Int), t ∈ sfx ws → ∃ n, t = ws.drop n := by
  intro ws t h
  rw [sfx_eq] at h
  obtain ⟨i, _, e⟩ := List.mem_map.mp h
  exact ⟨i, e.symm⟩
theorem rep1 (n : Nat) (v : Int) : (List.replicate n [D.int v]).flatten = (List.replicate n v).map D.int := by
  rw [List.map_replicate]
  induction n with
  | zero => rfl
  | succ n ih => rw [List.replicate_succ, List.flatten_cons, ih]; rfl
theorem cut_ints {ns : List Int} (j : Nat) : cutD (ns.map D.int) none (some (j : Int)) = (ns.take j).map D.int := by rw [cut_to, List.map_take]
theorem among_ints (v : Int) : ∀ ns : List Int, D.among (.int v) (ns.map D.int) = decide (v ∈ ns)
  | [] => rfl
  | n :: ns => by
    have := among_ints v ns
    unfold D.among at this ⊢
    rw [List.map_cons, List.any_cons, eqv_int, this]
    by_cases h : n = v
    · simp [h]
    · have h' : ¬ v = n := fun e => h e.symm
      by_cases h2 : v ∈ ns <;> simp [h, h', h2]
theorem p__law_counts (N : List Str) (hN : N.length = 6) : ∀ ds G q dw, sp__law_counts ds G q dw → t__law_counts dw { nx := fun _ G' => q (.val .non) G', rt := q } (start3 N ds) G := by
  intro ds G q dw h
  unfold t__law_counts start3
  rw [hN]
  obtain ⟨ws, n, rfl, h60, hw, hn, h⟩ := h
  walk_at "ev"
  refine .go ?_
  refine for_ind (fun ds E G1 => G1 = G ∧ ∃ pre suf s3 s4, sfx ws = pre ++ suf ∧ ds = suf.map (fun t => prD (ord2 t)) ∧ E = [.val (pt ws), .val (.int (n : Nat)), .own (pre.map fun t => D.int ((mn (ord2 t) : Nat) : Int)), s3, s4, .no]) (fun E G1 hI => ?_) (fun d ds E G1 nx hI hn2 => ?_) _ _ _ ⟨rfl, [], sfx ws, _, _, rfl, rfl, rfl⟩
  · obtain ⟨rfl, pre, suf, s3, s4, e, e2, rfl⟩ := hI
    have : suf = [] := by
      cases suf with
      | nil => rfl
      | cons a b => cases e2
    subst this
    rw [List.append_nil] at e
    have ec : (pre.map fun t => D.int ((mn (ord2 t) : Nat) : Int)) = (cto ws (ws.length + 1)).map D.int := by
      rw [← e, sfx_eq, List.map_map]
      unfold cto
      rw [List.map_map]
      rfl
    rw [ec]
    walk_at "ev"
    refine ⟨by omega, by omega, by rw [sizeLine_eq, Int.toNat_natCast]; simp only [List.length_cons, List.length_nil]; omega, ?_⟩
    rw [Int.toNat_natCast, rep1]
    walk_at "ev"
    refine ⟨by rw [List.length_map, cto_len, List.length_map, List.length_replicate, sizeLine_eq]; omega, ?_⟩
    walk_at "ev"
    show q (.fr (cutD ((cto ws (ws.length + 1)).map D.int ++ (List.replicate n 1).map D.int) none (some (n : Int)))) _
    rw [← List.map_append, cut_ints, cto_cut]
    exact h
  · obtain ⟨rfl, pre, suf, s3, s4, e, e2, rfl⟩ := hI
    cases suf with
    | nil => cases e2
    | cons t suf =>
      rw [List.map_cons] at e2
      cases e2
      obtain ⟨m, rfl⟩ := sfx_mem ws t (by rw [e]; simp)
      have one := ord_one (hw.dropN m)
      have hsz : (pre.map fun t => D.int ((mn (ord2 t) : Nat) : Int)).length < sizeLine := by
        have := congrArg List.length e
        rw [sfx_len, List.length_append, List.length_cons] at this
        rw [List.length_map, sizeLine_eq]
        omega
      have fin : ∀ s3 s4, nx [.val (pt ws), .val (.int (n : Nat)), .own ((pre.map fun t => D.int ((mn (ord2 t) : Nat) : Int)) ++ [.int ((mn (ord2 (ws.drop m)) : Nat) : Int)]), s3, s4, .no] G1 := fun s3 s4 => hn2 _ _ ⟨rfl, pre ++ [ws.drop m], suf, s3, s4, by rw [e, List.append_assoc]; rfl, rfl, by rw [List.map_append]; rfl⟩
      clear hn2 h
      generalize ord2 (ws.drop m) = o at one fin ⊢
      obtain ⟨o1, o2⟩ := o
      cases o1 <;> cases o2
      · simp at one
      · rename_i b
        walk_at "eva"
        refine fun m h1 h2 => ?_
        have : m = (b : Int) := by simpa using h1
        subst this
        walk_at "eva"
        exact fin _ _
      · rename_i b
        walk_at "eva"
        refine fun m h1 h2 => ?_
        have : m = (b : Int) := by simpa using h1
        subst this
        walk_at "eva"
        exact fin _ _
      · rename_i x y
        walk_at "eva"
        refine fun m h1 h2 => ?_
        have hm : m = ((mn (some x, some y) : Nat) : Int) := by
          simp only [List.mem_cons, List.not_mem_nil, or_false] at h1 h2
          have := h2 _ (.inl rfl)
          have := h2 _ (.inr rfl)
          unfold mn
          simp only
          split <;> omega
        subst hm
        walk_at "eva"
        exact fin _ _
theorem w_size {Dn : Ends3} {xs : List Int} {G : Reg} (m : Nat) (hm : m = xs.length) (h : Dn.nx [.val (pt xs), .val (.int (nz xs xs.length : Nat))] G) :
    dWhile (dAnd (dTest (dOp oGt (dVar 1) (dC (.int 0)))) (dTest (dOp oEq (dOp oIx (dVar 0) (dOp oSub (dVar 1) (dC (.int 1)))) (dC (.int 0))))) (dSet 1 (dOp oSub (dVar 1) (dC (.int 1)))) Dn [.val (pt xs), .val (.int (m : Nat))] G := by
  subst hm
  refine ⟨(xs.length - nz xs xs.length) + 1, ?_⟩
  refine wh_ind (fun n E G' => G' = G ∧ ∃ k, k ≤ xs.length ∧ nz xs k = nz xs xs.length ∧ n = k - nz xs k ∧ E = [.val (pt xs), .val (.int (k : Nat))]) (fun n E G1 nx hI hn => ?_) _ _ _ ⟨rfl, xs.length, Nat.le_refl _, rfl, rfl, rfl⟩
  obtain ⟨rfl, k, hk, hz, rfl, rfl⟩ := hI
  walk_at "ev"
  refine ifD (fun h1 => ?_) (fun h1 => ?_)
  · obtain ⟨j, rfl⟩ : ∃ j, k = j + 1 := ⟨k - 1, by omega⟩
    walk_at "ev"
    refine ⟨_, at_pred (by omega), ?_⟩
    walk_at "ev"
    refine ifE (fun e => ?_) (fun e => ?_)
    · walk_at "ev"
      have hz1 : nz xs (j + 1) = nz xs j := by rw [nz, if_pos e]
      have := nz_le xs j
      refine hn _ _ (j - nz xs j) (by omega) ⟨rfl, j, by omega, by omega, rfl, ?_⟩
      show [_, Sl3.val (.int (((j + 1 : Nat) : Int) - 1))] = _
      rw [show ((j + 1 : Nat) : Int) - 1 = (j : Int) by omega]
    · have hz1 : nz xs (j + 1) = j + 1 := by rw [nz, if_neg e]
      show Dn.nx _ _
      rw [← hz, hz1] at h
      exact h
  · have : k = 0 := by omega
    subst this
    show Dn.nx _ _
    rw [← hz] at h
    exact h
theorem p__law_second (N : List Str) (hN : N.length = 2) : ∀ ds G q dw, sp__law_second ds G q dw → t__law_second dw { nx := fun _ G' => q (.val .non) G', rt := q } (start3 N ds) G := by
  intro ds G q dw h
  unfold t__law_second start3
  rw [hN]
  obtain ⟨ws, rfl, h⟩ := h
  walk_at "ev"
  refine w_size (xs := ws) _ (List.length_map _) ?_
  walk_at "ev"
  have hle := nz_le ws ws.length
  unfold secD second at h
  refine ifD (fun h1 => ?_) (fun h1 => ?_)
  · rw [if_pos (.inl (by omega))] at h
    walk_at "ev"
    exact h
  · obtain ⟨j, hj⟩ : ∃ j, nz ws ws.length = j + 1 + 1 := ⟨nz ws ws.length - 2, by omega⟩
    rw [hj] at h hle ⊢
    walk_at "ev"
    refine ⟨_, at_pred (by omega), ?_⟩
    walk_at "ev"
    have eg : ws.getD (j + 1) 1 = ws.getD (j + 1) 0 := by rw [List.getD_eq_getElem?_getD, List.getD_eq_getElem?_getD, List.getElem?_eq_getElem (show j + 1 < ws.length by omega)]; rfl
    refine ifNE (fun e => ?_) (fun e => ?_)
    · rw [if_pos (.inr (by rw [show j + 1 + 1 - 1 = j + 1 by omega, ← eg]; exact e))] at h
      walk_at "ev"
      exact h
    · walk_at "ev"
      rw [if_neg (by rw [show j + 1 + 1 - 1 = j + 1 by omega, ← eg]; exact fun z => z.elim (by omega) (fun z => z e))] at h
      show q (.val (.tup (cutD (ws.map D.int) none (some (((j + 1 + 1 : Nat) : Int) - 2))))) G
      rw [show (((j + 1 + 1 : Nat) : Int) - 2) = ((j : Nat) : Int) by omega, cut_to, ← List.map_take]
      rw [show j + 1 + 1 - 2 = j by omega] at h
      exact h
theorem p__law_nears (N : List Str) (hN : N.length = 2) : ∀ ds G q dw, sp__law_nears ds G q dw → t__law_nears dw { nx := fun _ G' => q (.val .non) G', rt := q } (start3 N ds) G := by
  intro ds G q dw h
  unfold t__law_nears start3
  rw [hN]
  obtain ⟨ws, rfl, h⟩ := h
  walk_at "ev"
  refine ⟨sh_pt _, rfl, ?_⟩
  walk_at "ev"
  refine ifQ (eqv_pt ws []) (fun e => ?_) (fun e => ?_)
  · subst e
    walk_at "ev"
    exact h
  · unfold nears at h
    rw [if_neg e] at h
    walk_at "ev"
    unfold secD
    cases e2 : second ws with
    | none =>
      rw [e2] at h
      walk_at "ev"
      show q (.fr [.tup (cutD (ws.map D.int) none (some (-1)))]) G
      rw [cut_last, ← List.map_dropLast]
      exact h
    | some l =>
      rw [e2] at h
      walk_at "ev"
      show q (.fr [.tup (cutD (ws.map D.int) none (some (-1))), pt l]) G
      rw [cut_last, ← List.map_dropLast]
      exact h
end LC

set_option Elab.async false
set_option maxRecDepth 100000
set_option maxHeartbeats 4000000
/-! LE2: plain: points near one another along a branch; counts as divisions with remainders. -/
namespace LE2
open LN LP LO LB LC
def flat (ws : List Int) (n : Nat) : List Int := (ws ++ List.replicate n 0).take n
theorem flat_len (ws : List Int) (n : Nat) : (flat ws n).length = n := by
  unfold flat
  rw [List.length_take, List.length_append, List.length_replicate]; omega
theorem flat_getD {ws : List Int} {n i : Nat} (h : i < n) (d : Int) : (flat ws n).getD i d = ws.getD i 0 := by
  unfold flat
  rw [List.getD_eq_getElem?_getD, List.getD_eq_getElem?_getD, List.getElem?_take, if_pos h, List.getElem?_append]
  split
  · rename_i z
    rw [List.getElem?_eq_getElem z]; rfl
  · rename_i z
    rw [List.getElem?_replicate, if_pos (by omega), List.getElem?_eq_none (by omega)]; rfl
theorem flat_take {ws : List Int} {n h : Nat} (hh : h ≤ n) : (flat ws n).take h = flat ws h := by
  apply List.ext_getElem
  · rw [List.length_take, flat_len, flat_len]; omega
  · intro i h1 h2
    rw [flat_len] at h2
    have e1 := flat_getD (ws := ws) (n := n) (i := i) (by omega) 0
    have e2 := flat_getD (ws := ws) (n := h) (i := i) h2 0
    rw [List.getD_eq_getElem?_getD, List.getElem?_eq_getElem (by rw [flat_len]; omega)] at e1
    rw [List.getD_eq_getElem?_getD, List.getElem?_eq_getElem (by rw [flat_len]; exact h2)] at e2
    rw [List.getElem_take]
    exact e1.trans e2.symm
/-- o is near h along the branch -/
def NC (ws : List Int) (h o : Nat) : Prop := o = h + 1 ∨ (h + 1 < o ∧ ws.getD (h + 1) 0 = -1 ∧ ∀ i, h + 1 < i → i < o → ws.getD i 0 = 0)
theorem near_iff {ws : List Int} {h o : Nat} (ho : h < o) : flat ws h ∈ nears (flat ws o) ↔ NC ws h o := by
  have ne : flat ws o ≠ [] := fun e => by
    have := congrArg List.length e
    rw [flat_len] at this
    have : o = 0 := this
    omega
  unfold nears
  rw [if_neg ne, List.mem_cons, Option.mem_toList, second_iff, flat_len]
  have dl : (flat ws o).dropLast = flat ws (o - 1) := by
    rw [List.dropLast_eq_take, flat_len, flat_take (by omega)]
  rw [dl]
  constructor
  · rintro (e | ⟨k, h1, h2, h3, e⟩)
    · have := congrArg List.length e
      rw [flat_len, flat_len] at this
      exact .inl (by omega)
    · have := congrArg List.length e
      rw [flat_len, List.length_take, flat_len] at this
      have ek : k = h := by omega
      subst ek
      rw [flat_getD h1] at h2
      exact .inr ⟨h1, h2, fun i a b => by have := h3 i a b; rw [flat_getD b] at this; exact this⟩
  · rintro (e | ⟨h1, h2, h3⟩)
    · exact .inl (by rw [e]; rfl)
    · exact .inr ⟨h, h1, by rw [flat_getD h1]; exact h2, fun i a b => by rw [flat_getD b]; exact h3 i a b, (flat_take (by omega)).symm⟩
theorem NC.down {ws : List Int} {h o o' : Nat} (n : NC ws h o) (h1 : h + 1 ≤ o') (h2 : o' ≤ o) : NC ws h o' := by
  rcases n with e | ⟨a, b, c⟩
  · exact .inl (by omega)
  · by_cases z : o' = h + 1
    · exact .inl z
    · exact .inr ⟨by omega, b, fun i x y => c i x (by omega)⟩
def nearTo (ws : List Int) (h o : Nat) : Bool := decide (flat ws h ∈ nears (flat ws o))
theorem nearTo_iff {ws : List Int} {h o : Nat} (ho : h < o) : nearTo ws h o = true ↔ NC ws h o := by
  unfold nearTo
  rw [decide_eq_true_iff]
  exact near_iff ho
/-- the heights near h, up to m -/
def spots (ws : List Int) (h m : Nat) : List Nat := ((List.range (m - h)).map fun i => h + 1 + i).filter (nearTo ws h)
/-- what is closed downwards is a beginning -/
theorem filter_down (P : Nat → Bool) (hd : ∀ i j, i ≤ j → P j = true → P i = true) : ∀ n, ∃ k, k ≤ n ∧ (List.range n).filter P = List.range k ∧ (∀ i, i < k → P i = true) ∧ ∀ i, k ≤ i → i < n → P i = false
  | 0 => ⟨0, Nat.le_refl 0, rfl, fun i h => absurd h (Nat.not_lt_zero i), fun i _ h => absurd h (Nat.not_lt_zero i)⟩
  | n + 1 => by
    obtain ⟨k, h1, h2, h3, h4⟩ := filter_down P hd n
    rw [List.range_succ, List.filter_append, h2]
    cases e : P n with
    | true =>
      have kn : k = n := by
        rcases Nat.lt_or_ge k n with z | z
        · have := hd k n h1 e
          rw [h4 k (Nat.le_refl k) z] at this
          cases this
        · omega
      subst kn
      refine ⟨k + 1, Nat.le_refl _, ?_, fun i hi => ?_, fun i a b => by omega⟩
      · rw [List.range_succ, List.filter_cons_of_pos (by rw [e])]; rfl
      · by_cases z : i = k
        · rw [z]; exact e
        · exact h3 i (by omega)
    | false =>
      refine ⟨k, by omega, ?_, h3, fun i a b => ?_⟩
      · rw [List.filter_cons_of_neg (by rw [e]; exact Bool.false_ne_true), List.filter_nil, List.append_nil]
      · by_cases z : i = n
        · rw [z]; exact e
        · exact h4 i a (by omega)
theorem spots_is (ws : List Int) (h m : Nat) (hm : h < m) : ∃ k, 1 ≤ k ∧ k ≤ m - h ∧ spots ws h m = (List.range k).map (fun i => h + 1 + i) ∧ (∀ i, i < k → NC ws h (h + 1 + i)) ∧ ∀ i, k ≤ i → i < m - h → ¬ NC ws h (h + 1 + i) := by
  obtain ⟨k, h1, h2, h3, h4⟩ := filter_down (fun i => nearTo ws h (h + 1 + i)) (fun i j hij hj => (nearTo_iff (by omega)).2 (((nearTo_iff (by omega)).1 hj).down (by omega) (by omega))) (m - h)
  refine ⟨k, ?_, h1, ?_, fun i hi => (nearTo_iff (by omega)).1 (h3 i hi), fun i a b c => ?_⟩
  · rcases Nat.lt_or_ge 0 k with z | z
    · exact z
    · have := h4 0 z (by omega)
      rw [show nearTo ws h (h + 1 + 0) = true from (nearTo_iff (by omega)).2 (.inl rfl)] at this
      cases this
  · unfold spots
    rw [List.filter_map]
    show List.map _ (List.filter (fun i => nearTo ws h (h + 1 + i)) (List.range (m - h))) = _
    rw [h2]
  · have := h4 i a b
    rw [(nearTo_iff (by omega)).2 c] at this
    cases this
theorem drop_cons' {ws : List Int} {i : Nat} (h : i < ws.length) : ws.drop i = ws.getD i 0 :: ws.drop (i + 1) := by
  rw [List.drop_eq_getElem_cons h, List.getD_eq_getElem?_getD, List.getElem?_eq_getElem h]; rfl
/-- at a word that begins with a letter that is not 0, the second order is the count -/
theorem head_nonzero {l : Int} {t : List Int} (hw : Wd (l :: t)) (h1 : l :: t ≠ [-1]) (h0 : l ≠ 0) : ∃ a b, ord2 (l :: t) = (some a, some b) ∧ b ≤ a ∧ mn (ord2 (l :: t)) = b ∧ 1 ≤ b := by
  obtain ⟨s1, s2⟩ := ord_both (List.cons_ne_nil l t) h1 hw
  have hp := ord_pos (l :: t)
  have hf := ord_first hw
  cases e : ord2 t with
  | mk o1 o2 =>
    rw [e] at hf
    cases o1 with
    | none => cases hf
    | some x =>
      rw [ord2, e] at s1 s2 hp ⊢
      unfold stepO at s1 s2 hp ⊢
      by_cases z : l = -1
      · rw [if_pos z] at s1 s2 hp ⊢
        cases o2 with
        | none => cases s1
        | some y =>
          refine ⟨x + y, x, rfl, by omega, ?_, hp.2 x rfl⟩
          show (if x < x + y then x else x + y) = x
          split <;> omega
      · rw [if_neg z, if_neg h0] at s1 s2 hp ⊢
        exact ⟨x, x, rfl, Nat.le_refl x, by show (if x < x then x else x) = x; split <;> rfl, hp.2 x rfl⟩
theorem sum_rep (k a b : Nat) (f : Nat → Nat) (h1 : ∀ j, j < k → f j = a) (h2 : f k = b) : ((List.range (k + 1)).map fun j => ((f j : Nat) : Int)).sum = ((k * a + b : Nat) : Int) := by
  have e : ((List.range k).map fun j => ((f j : Nat) : Int)).sum = ((k * a : Nat) : Int) := by
    induction k generalizing b with
    | zero => simp
    | succ k ih =>
      rw [List.range_succ, List.map_append, List.sum_append, ih (f k) (fun j hj => h1 j (by omega)) rfl]
      show _ + ([((f k : Nat) : Int)] : List Int).sum = _
      rw [h1 k (by omega), Nat.succ_mul]
      simp
  rw [List.range_succ, List.map_append, List.sum_append, e]
  show _ + ([((f k : Nat) : Int)] : List Int).sum = _
  rw [h2]
  simp
/-- the counts at the points near a height: all alike but the last one; their sum is the count -/
theorem place {ws : List Int} (hw : Wd ws) (hn : ws ≠ [-1]) {h : Nat} (ht : (-1 : Int) ∈ ws.drop h) : ∃ k, 1 ≤ k ∧ h + k ≤ ws.length ∧ spots ws h (ws.length + 1) = (List.range k).map (fun i => h + 1 + i) ∧
    (∀ j, j + 1 < k → cnt ws (h + 1 + j) = cnt ws (h + 1)) ∧ ((List.range k).map fun j => ((cnt ws (h + 1 + j) : Nat) : Int)).sum = ((cnt ws h : Nat) : Int) := by
  have hl : h < ws.length := by
    rcases Nat.lt_or_ge h ws.length with z | z
    · exact z
    · rw [List.drop_eq_nil_of_le z] at ht; cases ht
  have hlast : ∃ l, ws.getLast? = some l ∧ 0 < l := by
    rcases hw with z | z | z
    · rw [z] at hl; exact absurd hl (Nat.not_lt_zero h)
    · exact absurd z hn
    · exact z
  obtain ⟨l, hl1, hl2⟩ := hlast
  rw [List.getLast?_eq_getElem?] at hl1
  have hlD : ws.getD (ws.length - 1) 0 = l := by rw [List.getD_eq_getElem?_getD, hl1]; rfl
  -- not the last letter alone
  have hl3 : h + 1 < ws.length := by
    rcases Nat.lt_or_ge (h + 1) ws.length with z | z
    · exact z
    · rw [drop_cons' hl, List.drop_eq_nil_of_le z] at ht
      have e : ws.getD h 0 = -1 := (List.mem_singleton.1 ht).symm
      rw [show ws.length - 1 = h by omega] at hlD
      omega
  have neD : ∀ i, i < ws.length → ws.drop i ≠ [-1] := fun i hi e => by
    have := congrArg List.getLast? e
    rw [List.getLast?_drop, if_neg (by omega), List.getLast?_eq_getElem?, hl1] at this
    have : l = -1 := by simpa using this
    omega
  obtain ⟨k, k1, k2, e, n1, n2⟩ := spots_is ws h (ws.length + 1) (by omega)
  obtain ⟨c, c1, c2, _⟩ := first_mn (l := ws.getD h 0) (ws := ws.drop (h + 1)) (by rw [← drop_cons' hl]; exact hw.dropN h)
  rw [← drop_cons' hl] at c2
  have ch : cnt ws h = c := c2
  by_cases turn : ws.getD (h + 1) 0 = -1
  · -- k ≥ 2
    have k3 : 2 ≤ k := by
      rcases Nat.lt_or_ge 1 k with z | z
      · exact z
      · exact absurd (.inr ⟨by omega, turn, fun i a b => by omega⟩) (n2 1 z (by omega))
    obtain ⟨m, rfl⟩ : ∃ m, k = m + 2 := ⟨k - 2, by omega⟩
    have zeros : ∀ i, h + 1 < i → i < h + 1 + (m + 1) → ws.getD i 0 = 0 := fun i a b => by
      rcases n1 (m + 1) (by omega) with z | ⟨_, _, z⟩
      · omega
      · exact z i a b
    have hP : h + 1 + (m + 1) ≤ ws.length - 1 := by
      rcases Nat.lt_or_ge (ws.length - 1) (h + 1 + (m + 1)) with z | z
      · have lz : h + 1 < ws.length - 1 := by
          rcases Nat.lt_or_ge (h + 1) (ws.length - 1) with y | y
          · exact y
          · rw [show ws.length - 1 = h + 1 by omega] at hlD; omega
        have := zeros (ws.length - 1) lz z
        omega
      · exact z
    have hPl : h + 1 + (m + 1) < ws.length := by omega
    have nz : ws.getD (h + 1 + (m + 1)) 0 ≠ 0 := fun z => by
      refine n2 (m + 2) (Nat.le_refl _) (by omega) (.inr ⟨by omega, turn, fun i a b => ?_⟩)
      by_cases y : i = h + 1 + (m + 1)
      · rw [y]; exact z
      · exact zeros i a (by omega)
    obtain ⟨a, b, o1, o2, o3, o4⟩ := head_nonzero (l := ws.getD (h + 1 + (m + 1)) 0) (t := ws.drop (h + 1 + (m + 1) + 1)) (by rw [← drop_cons' hPl]; exact hw.dropN _) (by rw [← drop_cons' hPl]; exact neD _ hPl) nz
    rw [← drop_cons' hPl] at o1 o3
    have zd : ∀ d, d ≤ m → ord2 (ws.drop (h + 1 + (m + 1) - d)) = (some a, some (b + d * a)) := by
      intro d
      induction d with
      | zero => intro _; rw [Nat.zero_mul]; exact o1
      | succ d ih =>
        intro hd
        have ih := ih (by omega)
        have lt : h + 1 + (m + 1) - (d + 1) < ws.length := by omega
        rw [drop_cons' lt, zeros _ (by omega) (by omega), show h + 1 + (m + 1) - (d + 1) + 1 = h + 1 + (m + 1) - d by omega, ord2, ih]
        unfold stepO
        rw [if_neg (by decide), if_pos rfl]
        show (some a, some (a + (b + d * a))) = _
        rw [Nat.succ_mul]
        congr 2
        omega
    have e1 : ord2 (ws.drop (h + 1)) = (some (a + (b + m * a)), some a) := by
      have := zd m (Nat.le_refl m)
      rw [show h + 1 + (m + 1) - m = h + 1 + 1 by omega] at this
      rw [drop_cons' hl3, turn, ord2, this]
      unfold stepO
      rw [if_pos rfl]; rfl
    have f0 : cnt ws (h + 1) = a := by
      show mn (ord2 (ws.drop (h + 1))) = a
      rw [e1]
      show (if a < a + (b + m * a) then a else a + (b + m * a)) = a
      rw [if_pos (by omega)]
    have f1 : ∀ j, j < m + 1 → cnt ws (h + 1 + j) = a := fun j hj => by
      by_cases z : j = 0
      · rw [z]; exact f0
      · have := zd (m + 1 - j) (by omega)
        rw [show h + 1 + (m + 1) - (m + 1 - j) = h + 1 + j by omega] at this
        show mn (ord2 (ws.drop (h + 1 + j))) = a
        rw [this]
        obtain ⟨d, hd⟩ : ∃ d, m + 1 - j = d + 1 := ⟨m - j, by omega⟩
        rw [hd, Nat.succ_mul]
        show (if b + (d * a + a) < a then b + (d * a + a) else a) = a
        rw [if_neg (by omega)]
    have f2 : cnt ws (h + 1 + (m + 1)) = b := o3
    refine ⟨m + 2, by omega, by omega, e, fun j hj => by rw [f1 j (by omega), f0], ?_⟩
    rw [sum_rep (m + 1) a b (fun j => cnt ws (h + 1 + j)) f1 f2, ch]
    have : c = a + (b + m * a) := by rw [e1] at c1; exact (Option.some.inj c1).symm
    rw [this, Nat.succ_mul]
    congr 1
    omega
  · -- no turn: one point
    have k3 : k = 1 := by
      rcases Nat.lt_or_ge 1 k with z | z
      · rcases n1 1 z with y | ⟨_, y, _⟩
        · omega
        · exact absurd y turn
      · omega
    subst k3
    refine ⟨1, Nat.le_refl 1, by omega, e, fun j hj => by omega, ?_⟩
    show ([((cnt ws (h + 1 + 0) : Nat) : Int)] : List Int).sum = _
    rw [List.sum_cons, List.sum_nil, Int.add_zero, ch]
    congr 1
    show mn (ord2 (ws.drop (h + 1))) = c
    obtain ⟨a, a1, a2, _⟩ := first_mn (l := ws.getD (h + 1) 0) (ws := ws.drop (h + 1 + 1)) (by rw [← drop_cons' hl3]; exact hw.dropN _)
    rw [← drop_cons' hl3] at a2
    rw [a2]
    rw [drop_cons' hl3, ord2] at c1
    unfold stepO at c1
    rw [if_neg turn] at c1
    have : (ord2 (ws.drop (h + 1 + 1))).1 = some c := by
      split at c1 <;> exact c1
    rw [a1] at this
    exact Option.some.inj this
end LE2

set_option Elab.async false
set_option maxRecDepth 100000
set_option maxHeartbeats 4000000
set_option exponentiation.threshold 2000
/-! LF: points on branches, near points. -/
namespace LF
open PySem PySem.Spec PyProof.Rows L2 L3 LD LN LP LO LB LC LE2
local macro_rules | `(tactic| walk_at "ev") => `(tactic| repeat (first | refine lc_stop ?_ | refine for_stop ?_ | refine ⟨_, rfl, ?_⟩ | refine ⟨_, _, rfl, ?_⟩ | refine ⟨rfl, ?_⟩ | refine And.intro (by assumption) ?_ | refine ⟨by decide, ?_⟩ | refine ⟨ltL rfl, ?_⟩ | refine ⟨_, at0, ?_⟩ | refine ⟨_, at1, ?_⟩ | refine ⟨_, at2, ?_⟩ | refine ifT ?_ | refine ifF ?_ | refine ⟨_, _, _, rfl, ?_⟩ | refine ⟨⟨_, rfl⟩, ?_⟩ | refine ⟨_, _, _, _, rfl, ?_⟩))
def zi (l : List Nat) : List Int := l.map fun n => ((n : Nat) : Int)
/-! ### promises -/
def sp_require_count : DSp := fun ds G q _ => ∃ v lo hi : Int, ds = [.int v, .int lo, .int hi] ∧ lo ≤ v ∧ v ≤ hi ∧ Lim v ∧ q (.val .non) G
theorem len_require_count : ∀ ds G q e, sp_require_count ds G q e → ds.length = 3 := fun ds G q e ⟨_, _, _, h, _⟩ => by rw [h]; rfl
/-! ### readings (as gen.py prints them) -/
def t_require_count (dw : Exc3 → Reg → Prop) : DSt :=
  (dIfS (dOr (dNot (dTest (dCall sp_is_integer (fun x _ G => dw x G) (dCons (dVar 0) dNil)))) (dNot (dTest (dChain oLe oLe (dVar 1) (dVar 0) (dVar 2))))) dNever dNext)
/-! ### the walks -/
theorem p_require_count (N : List Str) (hN : N.length = 3) : ∀ ds G q dw, sp_require_count ds G q dw → t_require_count dw { nx := fun _ G' => q (.val .non) G', rt := q } (start3 N ds) G := by
  intro ds G q dw h
  unfold t_require_count start3
  rw [hN]
  obtain ⟨v, lo, hi, rfl, h1, h2, h3, h⟩ := h
  walk_at "ev"
  refine ifD (fun _ => ?_) (fun z => absurd h1 z)
  walk_at "ev"
  show if (!decide (v ≤ hi)) = true then _ else _
  rw [decide_eq_true h2]
  walk_at "ev"
  exact h
end LF

set_option Elab.async false
set_option maxRecDepth 100000
set_option maxHeartbeats 4000000
set_option exponentiation.threshold 2000
/-! LV: corner heights and generators of words: what the defs promise (printed by mklv.py) -/
namespace LV
open PySem PySem.Spec PyProof.Rows L2 L3 LD LN LP LO LB LC LF LW
open LG (ifND)
local macro_rules | `(tactic| walk_at "ev") => `(tactic| repeat (first | refine lc_stop ?_ | refine for_stop ?_ | refine ⟨_, rfl, ?_⟩ | refine ⟨_, _, rfl, ?_⟩ | refine ⟨rfl, ?_⟩ | refine And.intro (by assumption) ?_ | refine ⟨by decide, ?_⟩ | refine ⟨ltL rfl, ?_⟩ | refine ⟨_, at0, ?_⟩ | refine ⟨_, at1, ?_⟩ | refine ⟨_, at2, ?_⟩ | refine ifT ?_ | refine ifF ?_ | refine ⟨_, _, _, rfl, ?_⟩ | refine ⟨⟨_, rfl⟩, ?_⟩ | refine ⟨_, _, _, _, rfl, ?_⟩))

def sp_corner_heights : DSp := fun ds G q _ => ∃ ws : List Int, ds = [pt ws] ∧ ws.length ≤ 60 ∧ q (.fr ((zi (crn ws)).map D.int)) G
def sp__law_corner_heights : DSp := sp_corner_heights
def sp_generators_in : DSp := fun ds G q _ => ∃ ws : List Int, ds = [pt ws] ∧ ws.length ≤ 60 ∧ Wd ws ∧ q (.val (pt (gensW ws))) G
def sp__law_generators : DSp := sp_generators_in
theorem len_corner_heights : ∀ ds G q e, sp_corner_heights ds G q e → ds.length = 1 := fun ds G q e ⟨_, h, _⟩ => by rw [h]; rfl
theorem len__law_corner_heights : ∀ ds G q e, sp__law_corner_heights ds G q e → ds.length = 1 := len_corner_heights
theorem len_generators_in : ∀ ds G q e, sp_generators_in ds G q e → ds.length = 1 := fun ds G q e ⟨_, h, _⟩ => by rw [h]; rfl
theorem len__law_generators : ∀ ds G q e, sp__law_generators ds G q e → ds.length = 1 := len_generators_in
def t__law_corner_heights (dw : Exc3 → Reg → Prop) : DSt :=
  (dSeq (dSet 1 (dLst dNil))
    (dSeq (dFor (dRng1 (dCons (dOp oAdd (dCB bLen (dPCons (dVar 0) dNil)) (dC (.int 1))) dNil)) (gNm 2) (dIfS (dTest (dOp oEq (dCB bLen (dPCons (dCall sp__law_nears (fun x _ G => dw x G) (dCons (dCB bTuple (dPCons (dSl oSl (dVar 0) dNoPart (dPart (dVar 2))) dNil)) dNil)) dNil)) (dC (.int 2)))) (dDrop (dApp 1 (dVar 2))) dNext))
    (dRet (dVar 1))))
theorem enum_cto (ws : List Int) (n : Nat) : enumFrom 0 ((cto ws n).map D.int) = (List.range n).map fun i => D.tup [.int ((i : Nat) : Int), .int ((cnt ws i : Nat) : Int)] := by
  apply List.ext_getElem?
  intro i
  by_cases h : i < n
  · have h2 : i < ((cto ws n).map D.int).length := by rw [List.length_map, cto_len]; exact h
    have e := enumFrom_get ((cto ws n).map D.int) 0 i _ (List.getElem?_eq_getElem h2)
    rw [e, List.getElem_map, cto_get, List.getElem?_map, List.getElem?_range h]
    rw [Nat.zero_add]
    rfl
  · rw [List.getElem?_eq_none (by rw [enumFrom_len, List.length_map, cto_len]; omega), List.getElem?_eq_none (by rw [List.length_map, List.length_range]; omega)]
theorem zi_mem {l : List Nat} {v : Int} : v ∈ zi l ↔ ∃ n ∈ l, v = (n : Int) := by
  unfold zi
  rw [List.mem_map]
  exact ⟨fun ⟨n, h, e⟩ => ⟨n, h, e.symm⟩, fun ⟨n, h, e⟩ => ⟨n, h, e.symm⟩⟩
theorem nears_two (ws : List Int) : decide ((nears ws).length = 2) = (second ws).isSome := by
  unfold nears
  split
  · rename_i e; subst e; rfl
  · cases second ws <;> rfl
theorem p__law_corner_heights (N : List Str) (hN : N.length = 3) : ∀ ds G q dw, sp__law_corner_heights ds G q dw → t__law_corner_heights dw { nx := fun _ G' => q (.val .non) G', rt := q } (start3 N ds) G := by
  intro ds G q dw h
  unfold t__law_corner_heights start3
  rw [hN]
  obtain ⟨ws, rfl, h60, h⟩ := h
  walk_at "ev"
  have e0 : (((ws.map D.int).length : Int) + 1).toNat = ws.length + 1 := by rw [List.length_map]; omega
  refine ⟨by rw [List.length_map]; omega, by rw [List.length_map]; omega, ?_⟩
  rw [e0]
  refine for_stop (.go ?_)
  refine for_ind (fun ds E G1 => G1 = G ∧ ∃ done rest s2, List.range (ws.length + 1) = done ++ rest ∧ ds = rest.map (fun (k : Nat) => D.int (0 + (k : Int))) ∧ E = [.val (pt ws), .own ((zi (done.filter fun h => (second (ws.take h)).isSome)).map D.int), s2]) (fun E G1 hI => ?_) (fun d ds E G1 nx hI hn => ?_) _ _ _ ⟨rfl, [], List.range (ws.length + 1), _, rfl, rfl, rfl⟩
  · obtain ⟨rfl, done, rest, s2, e, e2, rfl⟩ := hI
    have : rest = [] := by
      cases rest with
      | nil => rfl
      | cons a b => cases e2
    subst this
    rw [List.append_nil] at e
    walk_at "ev"
    unfold crn at h
    rw [e] at h
    exact h
  · obtain ⟨rfl, done, rest, s2, e, e2, rfl⟩ := hI
    cases rest with
    | nil => cases e2
    | cons k rest =>
      rw [List.map_cons] at e2
      cases e2
      have hk : k < ws.length + 1 := by
        have : k ∈ List.range (ws.length + 1) := by rw [e]; simp
        exact List.mem_range.1 this
      have e3 : List.range (ws.length + 1) = (done ++ [k]) ++ rest := by rw [e, List.append_assoc]; rfl
      have hsz : ((zi (done.filter fun h => (second (ws.take h)).isSome)).map D.int).length < sizeLine := by
        have := congrArg List.length e
        rw [List.length_range, List.length_append, List.length_cons] at this
        have h3 := List.length_filter_le (fun h => (second (ws.take h)).isSome) done
        unfold zi
        rw [List.length_map, List.length_map, sizeLine_eq]
        omega
      walk_at "ev"
      rw [Int.zero_add]
      refine ⟨ws.take k, by show [D.tup (cutD (ws.map D.int) none (some (k : Int)))] = _; rw [cut_ints]; rfl, ?_⟩
      walk_at "ev"
      refine ifE (fun z => ?_) (fun z => ?_)
      · have z2 : (second (ws.take k)).isSome = true := by
          rw [← nears_two]
          rw [List.length_map] at z
          exact decide_eq_true (by omega)
        walk_at "ev"
        refine hn _ _ ⟨rfl, done ++ [k], rest, .val (.int k), e3, rfl, ?_⟩
        rw [List.filter_append, List.filter_cons_of_pos (p := fun h => (second (ws.take h)).isSome) (a := k) (l := []) z2]
        unfold zi
        rw [List.map_append, List.map_append]
        rfl
      · have z2 : (second (ws.take k)).isSome = false := by
          rw [← nears_two]
          rw [List.length_map] at z
          exact decide_eq_false (by omega)
        refine hn _ _ ⟨rfl, done ++ [k], rest, .val (.int k), e3, rfl, ?_⟩
        rw [List.filter_append, List.filter_cons_of_neg (p := fun h => (second (ws.take h)).isSome) (a := k) (l := []) (by rw [z2]; exact Bool.false_ne_true), List.filter_nil, List.append_nil]
        rfl
theorem pow2 : ∀ ws : List Int, (∀ n, (ord2 ws).1 = some n → n ≤ 2 ^ ws.length) ∧ ∀ n, (ord2 ws).2 = some n → n ≤ 2 ^ ws.length
  | [] => ⟨fun n h => by cases h; decide, fun n h => by cases h⟩
  | l :: ws => by
    obtain ⟨h1, h2⟩ := pow2 ws
    have e : 2 ^ (l :: ws).length = 2 * 2 ^ ws.length := by rw [List.length_cons, Nat.pow_succ]; omega
    have ha : ∀ n, addO (ord2 ws).1 (ord2 ws).2 = some n → n ≤ 2 ^ (l :: ws).length := fun n h => by
      rw [e]
      cases q1 : (ord2 ws).1 with
      | none => rw [q1] at h; cases h
      | some a => cases q2 : (ord2 ws).2 with
        | none => rw [q1, q2] at h; cases h
        | some b =>
          rw [q1, q2] at h
          have := h1 a q1
          have := h2 b q2
          simp only [addO, Option.some.injEq] at h
          omega
    have hb : ∀ n, (ord2 ws).1 = some n → n ≤ 2 ^ (l :: ws).length := fun n h => by rw [e]; have := h1 n h; omega
    simp only [ord2, stepO]
    split
    · exact ⟨ha, hb⟩
    · split
      · exact ⟨hb, ha⟩
      · exact ⟨hb, hb⟩
theorem cnt_pow (ws : List Int) (h : Nat) : LC.cnt ws h ≤ 2 ^ ws.length := by
  have h1 := pow2 (ws.drop h)
  have h2 : 2 ^ (ws.drop h).length ≤ 2 ^ ws.length := Nat.pow_le_pow_right (by decide) (by rw [List.length_drop]; omega)
  unfold LC.cnt
  cases e : ord2 (ws.drop h) with
  | mk a b =>
    rw [e] at h1
    cases a with
    | none => cases b with
      | none => exact Nat.zero_le _
      | some b => exact Nat.le_trans (h1.2 b rfl) h2
    | some a => cases b with
      | none => exact Nat.le_trans (h1.1 a rfl) h2
      | some b =>
        show (if b < a then b else a) ≤ _
        have := h1.1 a rfl
        have := h1.2 b rfl
        split <;> omega
theorem gst_shared (ws : List Int) : ∀ h, ∃ j, (gst ws h).2.1 = ((LC.cnt ws j : Nat) : Int)
  | 0 => ⟨0, rfl⟩
  | h + 1 => by
    rw [gst]
    split
    · exact ⟨h, rfl⟩
    · exact gst_shared ws h
theorem sqs_succ (ws : List Int) (h : Nat) : sqs ws (h + 1) = sqs ws h + ((LC.cnt ws h : Nat) : Int) * ((LC.cnt ws h : Nat) : Int) := by
  unfold sqs
  rw [List.range_succ, List.map_append, List.sum_append, List.map_singleton, List.sum_singleton]
theorem sqs_le (ws : List Int) : ∀ h, 0 ≤ sqs ws h ∧ sqs ws h ≤ h * (2 ^ ws.length * 2 ^ ws.length)
  | 0 => ⟨Int.le_refl _, by unfold sqs; simp⟩
  | h + 1 => by
    obtain ⟨i1, i2⟩ := sqs_le ws h
    have c := cnt_pow ws h
    have c2 : ((LC.cnt ws h : Nat) : Int) ≤ 2 ^ ws.length := by
      have : ((LC.cnt ws h : Nat) : Int) ≤ ((2 ^ ws.length : Nat) : Int) := by omega
      rw [Int.natCast_pow] at this
      exact this
    have m := Int.mul_le_mul c2 c2 (by omega) (by have : (0 : Int) < 2 ^ ws.length := Int.pow_pos (by decide); omega)
    have m0 : 0 ≤ ((LC.cnt ws h : Nat) : Int) * ((LC.cnt ws h : Nat) : Int) := Int.mul_nonneg (by omega) (by omega)
    rw [sqs_succ, Int.natCast_succ, Int.add_mul]
    omega
theorem gst_mem (ws : List Int) : ∀ h, (gst ws h).1.length ≤ h + 1 ∧ ∀ y ∈ (gst ws h).1, y = ((LC.cnt ws 0 : Nat) : Int) ∨ y ≤ sqs ws h
  | 0 => ⟨Nat.le_refl _, fun y hy => .inl (List.mem_singleton.mp hy)⟩
  | h + 1 => by
    obtain ⟨i1, i2⟩ := gst_mem ws h
    have hs := sqs_succ ws h
    have m0 : 0 ≤ ((LC.cnt ws h : Nat) : Int) * ((LC.cnt ws h : Nat) : Int) := Int.mul_nonneg (by omega) (by omega)
    rw [gst]
    split
    · refine ⟨by rw [List.length_append]; show _ + 1 ≤ _; omega, fun y hy => ?_⟩
      rcases List.mem_append.mp hy with hy | hy
      · rcases i2 y hy with z | z
        · exact .inl z
        · exact .inr (by omega)
      · rw [List.mem_singleton.mp hy, gst_sq, ← hs]
        exact .inr (Int.ediv_le_self _ (sqs_le ws (h + 1)).1)
    · refine ⟨by show (gst ws h).1.length ≤ _; omega, fun y hy => ?_⟩
      rcases i2 y hy with z | z
      · exact .inl z
      · exact .inr (by omega)
theorem big_cnt {ws : List Int} (h60 : ws.length ≤ 60) (h : Nat) : LC.cnt ws h < 2 ^ 62 := by
  have c := cnt_pow ws h
  have : 2 ^ ws.length ≤ 2 ^ 60 := Nat.pow_le_pow_right (by decide) h60
  omega
theorem among_crn (ws : List Int) (h : Nat) : D.among (.int (h : Int)) ((zi (crn ws)).map D.int) = decide (Crn ws h) := by
  rw [among_ints]
  refine decide_eq_decide.mpr ?_
  rw [zi_mem, ← mem_crn]
  constructor
  · rintro ⟨n, hn, e⟩
    have : h = n := by omega
    rw [this]; exact hn
  · intro z; exact ⟨h, z, rfl⟩
theorem rng_pair (f : Nat → D) (i n : Nat) (h : i < n) : (List.range' i (n - i)).map f = f i :: (List.range' (i + 1) (n - (i + 1))).map f := by
  have e : n - i = (n - (i + 1)) + 1 := by omega
  rw [e, List.range'_succ, List.map_cons]
end LV

set_option Elab.async false
set_option maxRecDepth 100000
set_option maxHeartbeats 4000000
set_option exponentiation.threshold 2000
/-! LV2: the generators of a word by the law. -/
namespace LV
open PySem PySem.Spec PyProof.Rows L2 L3 LD LN LP LO LB LC LF LW
open LG (ifND)
local macro_rules | `(tactic| walk_at "ev") => `(tactic| repeat (first | refine lc_stop ?_ | refine for_stop ?_ | refine ⟨_, rfl, ?_⟩ | refine ⟨_, _, rfl, ?_⟩ | refine ⟨rfl, ?_⟩ | refine And.intro (by assumption) ?_ | refine ⟨by decide, ?_⟩ | refine ⟨ltL rfl, ?_⟩ | refine ⟨_, at0, ?_⟩ | refine ⟨_, at1, ?_⟩ | refine ⟨_, at2, ?_⟩ | refine ifT ?_ | refine ifF ?_ | refine ⟨_, _, _, rfl, ?_⟩ | refine ⟨⟨_, rfl⟩, ?_⟩ | refine ⟨_, _, _, _, rfl, ?_⟩))
def t__law_generators (dw : Exc3 → Reg → Prop) : DSt :=
  (dSeq (dPar 1 2 (dCall sp__law_counts (fun x _ G => dw x G) (dCons (dVar 0) (dCons (dOp oAdd (dCB bLen (dPCons (dVar 0) dNil)) (dC (.int (1)))) dNil))) (dCall sp__law_corner_heights (fun x _ G => dw x G) (dCons (dVar 0) dNil)))
    (dSeq (dPar3F 3 4 5 (dLst (dCons (dOp oIx (dVar 1) (dC (.int (0)))) dNil)) (dOp oIx (dVar 1) (dC (.int (0)))) (dC (.int (0))))
    (dSeq (dFor (dEnumA (dCons (dVar 1) dNil)) (gTp 2 (gsCons (gNm 6) (gsCons (gNm 7) gsNil))) (dSeq (dSet 5 (dOp oAdd (dVar 5) (dOp oMul (dVar 7) (dVar 7))))
    (dIfS (dAnd (dTest (dOp (oIn false) (dVar 6) (dVar 2))) (dTest (dOp (oIn true) (dOp oAdd (dVar 6) (dC (.int (1)))) (dVar 2)))) (dSeq (dDrop (dApp 3 (dOp oFdiv (dVar 5) (dVar 4))))
    (dSet 4 (dVar 7))) dNext)))
    (dRet (dCB bTuple (dPCons (dVar 3) dNil))))))
theorem p__law_generators (N : List Str) (hN : N.length = 8) : ∀ ds G q dw, sp__law_generators ds G q dw → t__law_generators dw { nx := fun _ G' => q (.val .non) G', rt := q } (start3 N ds) G := by
  intro ds G q dw h
  unfold t__law_generators start3
  rw [hN]
  obtain ⟨ws, rfl, h60, hw, h⟩ := h
  have hS := sizeLine_eq
  have hc0 : atI ((cto ws (ws.length + 1)).map D.int) 0 = some (.int ((LC.cnt ws 0 : Nat) : Int)) := by
    unfold cto
    rw [List.range_succ_eq_map, List.map_cons, List.map_cons, at0]
  walk_at "ev"
  rw [List.length_map]
  refine ⟨show ws.length + 1 ≤ 300 by omega, ?_⟩
  walk_at "ev"
  refine ⟨_, hc0, ?_⟩
  walk_at "ev"
  refine ⟨_, hc0, ?_⟩
  walk_at "ev"
  rw [enum_cto]
  rw [show (List.range (ws.length + 1)).map (fun i => D.tup [.int ((i : Nat) : Int), .int ((LC.cnt ws i : Nat) : Int)]) = (List.range' 0 (ws.length + 1 - 0)).map (fun i => D.tup [.int ((i : Nat) : Int), .int ((LC.cnt ws i : Nat) : Int)]) by rw [List.range_eq_range']; rfl]
  refine .go ?_
  refine for_ind (fun ds E G2 => G2 = G ∧ ∃ (i : Nat) (s6 s7 : Sl3), i ≤ ws.length + 1 ∧ ds = (List.range' i (ws.length + 1 - i)).map (fun i => D.tup [.int ((i : Nat) : Int), .int ((LC.cnt ws i : Nat) : Int)]) ∧ E = [.val (pt ws), .val (.lst ((cto ws (ws.length + 1)).map D.int)), .own ((zi (crn ws)).map D.int), .own ((gst ws i).1.map D.int), .val (.int (gst ws i).2.1), .val (.int (gst ws i).2.2), s6, s7]) (fun E G2 hI => ?_) (fun d ds E G2 nx hI hn => ?_) _ _ _ ⟨rfl, 0, _, _, Nat.zero_le _, rfl, rfl⟩
  · obtain ⟨rfl, i, s6, s7, i1, e, rfl⟩ := hI
    have e := congrArg List.length e
    rw [List.length_map, List.length_range'] at e
    have e : i = ws.length + 1 := by simp at e; omega
    subst e
    walk_at "ev"
    exact h
  · obtain ⟨rfl, i, s6, s7, i1, e, rfl⟩ := hI
    have hik : i < ws.length + 1 := by
      by_cases z : i < ws.length + 1
      · exact z
      · have : ws.length + 1 - i = 0 := by omega
        rw [this] at e
        cases e
    rw [rng_pair _ i (ws.length + 1) hik] at e
    cases e
    clear h
    have hb := big_cnt h60 i
    have hlen := (gst_mem ws i).1
    obtain ⟨j, hj⟩ := gst_shared ws i
    have hj0 := cnt_pos hw j
    have hj1 := big_cnt h60 j
    have nx1 : Crn ws i → ¬ Crn ws (i + 1) → ∀ s6 s7 : Sl3, nx [.val (pt ws), .val (.lst ((cto ws (ws.length + 1)).map D.int)), .own ((zi (crn ws)).map D.int), .own (((gst ws i).1.map D.int) ++ [.int (((gst ws i).2.2 + ((LC.cnt ws i : Nat) : Int) * ((LC.cnt ws i : Nat) : Int)) / (gst ws i).2.1)]), .val (.int ((LC.cnt ws i : Nat) : Int)), .val (.int ((gst ws i).2.2 + ((LC.cnt ws i : Nat) : Int) * ((LC.cnt ws i : Nat) : Int))), s6, s7] G2 := fun c1 c2 s6 s7 => hn _ _ ⟨rfl, i + 1, s6, s7, by omega, rfl, by
      rw [gst, if_pos ⟨c1, c2⟩, List.map_append]; rfl⟩
    have nx2 : ¬ (Crn ws i ∧ ¬ Crn ws (i + 1)) → ∀ s6 s7 : Sl3, nx [.val (pt ws), .val (.lst ((cto ws (ws.length + 1)).map D.int)), .own ((zi (crn ws)).map D.int), .own ((gst ws i).1.map D.int), .val (.int (gst ws i).2.1), .val (.int ((gst ws i).2.2 + ((LC.cnt ws i : Nat) : Int) * ((LC.cnt ws i : Nat) : Int))), s6, s7] G2 := fun c s6 s7 => hn _ _ ⟨rfl, i + 1, s6, s7, by omega, rfl, by
      rw [gst, if_neg c]⟩
    clear hn
    rw [hj] at nx1 nx2 ⊢
    generalize (gst ws i).1 = F at nx1 nx2 hlen
    generalize (gst ws i).2.2 = Q at nx1 nx2
    have a1 := among_crn ws i
    have a2 := among_crn ws (i + 1)
    have a2 : D.among (.int ((i : Int) + 1)) ((zi (crn ws)).map D.int) = decide (Crn ws (i + 1)) := a2
    generalize zi (crn ws) = Z at a1 a2 nx1 nx2
    walk_at "ev"
    refine ⟨mulC (by omega), ?_⟩
    walk_at "ev"
    refine ⟨sh_ints _, ?_⟩
    walk_at "ev"
    rw [a1]
    refine ifD (fun z => ?_) (fun z => ?_)
    · walk_at "ev"
      refine ⟨sh_ints _, ?_⟩
      walk_at "ev"
      rw [a2]
      refine ifND (fun z2 => ?_) (fun z2 => ?_)
      · walk_at "ev"
        refine ⟨div_ok (by omega) (by unfold BIG; omega), ?_⟩
        walk_at "ev"
        refine ⟨by rw [List.length_map, hS]; omega, ?_⟩
        walk_at "ev"
        exact nx1 z z2 _ _
      · exact nx2 (fun y => y.2 z2) _ _
    · exact nx2 (fun y => z y.1) _ _
end LV

set_option maxHeartbeats 4000000
/-! LY0: plain: kinds of words: letters by their forms, and the orders that they keep. -/
namespace LY
open LO
/-- the least letters behind the first one; fx: the letter before is a turn, or a zero that hangs on one -/
def nf : Bool → List Int → List Int
  | _, [] => []
  | fx, l :: ws => if l = -1 then -1 :: nf true ws else if fx = true then (if l = 0 then 0 :: nf true ws else 1 :: nf false ws) else 0 :: nf false ws
def nw : List Int → List Int
  | [] => []
  | _ :: t => -1 :: nf false t
/-- cut behind the last 1 -/
def trim1 : List Int → List Int
  | [] => []
  | x :: xs => if trim1 xs = [] then (if x = 1 then [x] else []) else x :: trim1 xs
def kindW (ws : List Int) : List Int := trim1 (nw ws)
theorem nf_len : ∀ (fx : Bool) (ws : List Int), (nf fx ws).length = ws.length
  | _, [] => rfl
  | fx, l :: ws => by
    rw [nf]
    repeat' split
    all_goals rw [List.length_cons, List.length_cons, nf_len]
theorem nw_len (ws : List Int) : (nw ws).length = ws.length := by
  cases ws with
  | nil => rfl
  | cons l t => show (nf false t).length + 1 = t.length + 1; rw [nf_len]
theorem trim1_snoc : ∀ (xs : List Int) (x : Int), trim1 (xs ++ [x]) = if x = 1 then xs ++ [x] else trim1 xs
  | [], x => by
    show (if trim1 [] = [] then (if x = 1 then [x] else []) else x :: trim1 []) = _
    rw [if_pos (show trim1 [] = [] from rfl)]; rfl
  | y :: xs, x => by
    rw [List.cons_append, trim1, trim1_snoc xs x]
    by_cases h : x = 1
    · rw [if_pos h, if_pos h, if_neg (by simp)]
    · rw [if_neg h, if_neg h]; rfl
theorem trim1_zeros (xs : List Int) : ∀ n, trim1 (xs ++ List.replicate n 0) = trim1 xs
  | 0 => by rw [List.replicate_zero, List.append_nil]
  | n + 1 => by
    rw [List.replicate_succ', ← List.append_assoc, trim1_snoc, if_neg (by decide), trim1_zeros xs n]
theorem trim1_take : ∀ xs : List Int, ∃ n, n ≤ xs.length ∧ trim1 xs = xs.take n ∧ (n = 0 ∨ xs.getD (n - 1) 0 = 1) ∧ ∀ i, n ≤ i → xs.getD i 0 ≠ 1
  | [] => ⟨0, Nat.le_refl _, rfl, .inl rfl, fun i _ => by simp⟩
  | x :: xs => by
    obtain ⟨n, h1, h2, h3, h4⟩ := trim1_take xs
    rw [trim1]
    by_cases z : n = 0
    · subst z
      rw [h2, if_pos (by simp)]
      by_cases e : x = 1
      · rw [if_pos e]
        refine ⟨1, by simp, by simp, .inr (by rw [e]; rfl), fun i hi => ?_⟩
        obtain ⟨j, rfl⟩ : ∃ j, i = j + 1 := ⟨i - 1, by omega⟩
        exact h4 j (by omega)
      · rw [if_neg e]
        refine ⟨0, by simp, by simp, .inl rfl, fun i hi => ?_⟩
        cases i with
        | zero => exact e
        | succ j => exact h4 j (by omega)
    · have hne : trim1 xs ≠ [] := by
        rw [h2]
        intro e
        have := congrArg List.length e
        rw [List.length_take] at this
        have : min n xs.length = 0 := this
        omega
      rw [if_neg hne, h2]
      refine ⟨n + 1, by rw [List.length_cons]; omega, rfl, .inr ?_, fun i hi => ?_⟩
      · rcases h3 with h3 | h3
        · exact absurd h3 z
        · obtain ⟨j, rfl⟩ : ∃ j, n = j + 1 := ⟨n - 1, by omega⟩
          exact h3
      · obtain ⟨j, rfl⟩ : ∃ j, i = j + 1 := ⟨i - 1, by omega⟩
        exact h4 j (by omega)
/-! ### the orders that the least letters keep -/
theorem stT (s : Option Nat × Option Nat) : stepO (-1) s = (addO s.1 s.2, s.1) := if_pos rfl
theorem stZ (s : Option Nat × Option Nat) : stepO 0 s = (s.1, addO s.1 s.2) := rfl
theorem stN {l : Int} (h1 : l ≠ -1) (h0 : l ≠ 0) (s : Option Nat × Option Nat) : stepO l s = (s.1, s.1) := by unfold stepO; rw [if_neg h1, if_neg h0]
theorem st1 {l : Int} (h1 : l ≠ -1) (s : Option Nat × Option Nat) : (stepO l s).1 = s.1 := by
  unfold stepO; rw [if_neg h1]; split <;> rfl
theorem nf_ord : ∀ (ws : List Int) (fx : Bool), (ord2 (nf fx ws)).1 = (ord2 ws).1 ∧ (fx = true → (ord2 (nf fx ws)).2 = (ord2 ws).2)
  | [], _ => ⟨rfl, fun _ => rfl⟩
  | l :: ws, fx => by
    obtain ⟨a1, a2⟩ := nf_ord ws true
    obtain ⟨b1, _⟩ := nf_ord ws false
    have a2 := a2 rfl
    rw [nf]
    by_cases h1 : l = -1
    · subst h1
      rw [if_pos rfl, ord2, ord2, stT, stT, a1, a2]
      exact ⟨rfl, fun _ => rfl⟩
    · rw [if_neg h1]
      cases fx with
      | true =>
        rw [if_pos rfl]
        by_cases h0 : l = 0
        · subst h0
          rw [if_pos rfl, ord2, ord2, stZ, stZ, a1, a2]
          exact ⟨rfl, fun _ => rfl⟩
        · rw [if_neg h0, ord2, ord2, stN h1 h0, stN (by decide) (by decide), b1]
          exact ⟨rfl, fun _ => rfl⟩
      | false =>
        rw [if_neg (by decide), ord2, ord2, st1 h1, st1 (by decide), b1]
        exact ⟨rfl, fun z => absurd z (by decide)⟩
theorem ord_zeros : ∀ n, ord2 (List.replicate n 0) = (some 1, none)
  | 0 => rfl
  | n + 1 => by rw [List.replicate_succ, ord2, ord_zeros n]; rfl
theorem ord_pad : ∀ (ws : List Int) (n : Nat), ord2 (ws ++ List.replicate n 0) = ord2 ws
  | [], n => ord_zeros n
  | l :: ws, n => by rw [List.cons_append, ord2, ord2, ord_pad ws n]
theorem nf_zeros (fx : Bool) : ∀ n, nf fx (List.replicate n 0) = List.replicate n 0
  | 0 => rfl
  | n + 1 => by
    rw [List.replicate_succ, nf, if_neg (by decide)]
    cases fx with
    | true => rw [if_pos rfl, if_pos rfl, nf_zeros true n]
    | false => rw [if_neg (by decide), nf_zeros false n]
theorem nf_pad : ∀ (fx : Bool) (ws : List Int) (n : Nat), nf fx (ws ++ List.replicate n 0) = nf fx ws ++ List.replicate n 0
  | fx, [], n => nf_zeros fx n
  | fx, l :: ws, n => by
    rw [List.cons_append, nf, nf, nf_pad true, nf_pad false]
    repeat' split
    all_goals rfl
/-- orders tell the forms -/
theorem nf_same : ∀ (ws vs : List Int) (fx : Bool), ws.length = vs.length →
    (∀ i, i ≤ ws.length → (ord2 (ws.drop i)).1.isSome ∧ (ord2 (ws.drop i)).1 = (ord2 (vs.drop i)).1) →
    (fx = true → (ord2 ws).2 = (ord2 vs).2) → nf fx ws = nf fx vs
  | [], [], _, _, _, _ => rfl
  | [], _ :: _, _, h, _, _ => by simp at h
  | _ :: _, [], _, h, _, _ => by simp at h
  | l :: ws, m :: vs, fx, hl, ha, hb => by
    have hl : ws.length = vs.length := by simpa using hl
    have ht : ∀ i, i ≤ ws.length → (ord2 (ws.drop i)).1.isSome ∧ (ord2 (ws.drop i)).1 = (ord2 (vs.drop i)).1 := fun i hi => ha (i + 1) (by rw [List.length_cons]; omega)
    have h0 : (stepO l (ord2 ws)).1.isSome ∧ (stepO l (ord2 ws)).1 = (stepO m (ord2 vs)).1 := ha 0 (Nat.zero_le _)
    have h1 : (ord2 ws).1.isSome ∧ (ord2 ws).1 = (ord2 vs).1 := ht 0 (Nat.zero_le _)
    have hb : fx = true → (stepO l (ord2 ws)).2 = (stepO m (ord2 vs)).2 := hb
    have p1 := ord_pos ws
    have p2 := ord_pos vs
    have IH := fun fx => nf_same ws vs fx hl ht
    cases e1 : ord2 ws with
    | mk a b =>
      cases e2 : ord2 vs with
      | mk c d =>
        rw [e1, e2] at h1 h0 hb
        rw [e1] at p1
        rw [e2] at p2
        obtain ⟨h1, h1'⟩ := h1
        have h1' : a = c := h1'
        subst h1'
        cases a with
        | none => cases h1
        | some a =>
        have IHt := fun h => IH true (fun _ => by rw [e1, e2]; exact h)
        have IHf := IH false (fun z => absurd z (by decide))
        rw [nf, nf]
        unfold stepO at h0 hb
        by_cases hl1 : l = -1
        · rw [if_pos hl1] at h0 hb ⊢
          by_cases hm1 : m = -1
          · rw [if_pos hm1] at h0 hb ⊢
            cases b with
            | none => exact absurd h0.1 (by simp [addO])
            | some b =>
              cases d with
              | none => exact absurd h0.2 (by simp [addO])
              | some d =>
                have : some (a + b) = some (a + d) := h0.2
                have this : a + b = a + d := by simpa using this
                rw [IHt (by show some b = some d; rw [show b = d by omega])]
          · rw [if_neg hm1] at h0 hb ⊢
            cases b with
            | none => exact absurd h0.1 (by simp [addO])
            | some b =>
              have hp : 1 ≤ b := p1.2 b rfl
              have : some (a + b) = some a := by
                have := h0.2
                revert this
                split <;> exact id
              have this : a + b = a := by simpa using this
              omega
        · rw [if_neg hl1] at h0 hb ⊢
          by_cases hm1 : m = -1
          · rw [if_pos hm1] at h0 hb ⊢
            cases d with
            | none =>
              have := h0.2
              revert this
              split
              · intro z; cases z
              · intro z; cases z
            | some d =>
              have hp : 1 ≤ d := p2.2 d rfl
              have : some a = some (a + d) := by
                have := h0.2
                revert this
                split <;> exact id
              have this : a = a + d := by simpa using this
              omega
          · rw [if_neg hm1] at h0 hb ⊢
            cases fx with
            | false => rw [if_neg (by decide), if_neg (by decide), IHf]
            | true =>
              have hb := hb rfl
              rw [if_pos rfl, if_pos rfl]
              by_cases hl0 : l = 0
              · rw [if_pos hl0] at hb ⊢
                by_cases hm0 : m = 0
                · rw [if_pos hm0] at hb ⊢
                  have hb : addO (some a) b = addO (some a) d := hb
                  rw [IHt (by
                    show b = d
                    cases b with
                    | none => cases d with
                      | none => rfl
                      | some d => cases hb
                    | some b => cases d with
                      | none => cases hb
                      | some d =>
                        have this : some (a + b) = some (a + d) := hb
                        have this : a + b = a + d := by simpa using this
                        rw [show b = d by omega])]
                · rw [if_neg hm0] at hb ⊢
                  have hb : addO (some a) b = some a := hb
                  cases b with
                  | none => cases hb
                  | some b =>
                    have hp : 1 ≤ b := p1.2 b rfl
                    have this : some (a + b) = some a := hb
                    have this : a + b = a := by simpa using this
                    omega
              · rw [if_neg hl0] at hb ⊢
                by_cases hm0 : m = 0
                · rw [if_pos hm0] at hb ⊢
                  have hb : some a = addO (some a) d := hb
                  cases d with
                  | none => cases hb
                  | some d =>
                    have hp : 1 ≤ d := p2.2 d rfl
                    have this : some a = some (a + d) := hb
                    have this : a = a + d := by simpa using this
                    omega
                · rw [if_neg hm0, IHf]
end LY

set_option Elab.async false
set_option maxRecDepth 100000
set_option maxHeartbeats 4000000
/-! LW2: plain: the counts of a word are those of the divisions with remainders that its generators tell. -/
namespace LW2
open LO LC LG LW
/-- the counts of divisions with remainders -/
def eus (a b : Int) : List Int := if h : 0 < b then List.replicate (a / b).toNat b ++ eus b (a % b) else []
termination_by b.toNat
decreasing_by
  have := Int.emod_lt_of_pos a h
  have := Int.emod_nonneg a (show b ≠ 0 by omega)
  omega
theorem eus0 (a : Int) : eus a 0 = [] := by rw [eus, dif_neg (by decide)]
theorem eus1 {a b : Int} (h : 0 < b) : eus a b = List.replicate (a / b).toNat b ++ eus b (a % b) := by rw [eus, dif_pos h]
theorem eus_lt {a b : Int} (h0 : 0 ≤ a) (h : a < b) : eus a b = eus b a := by
  rw [eus1 (by omega), Int.ediv_eq_zero_of_lt h0 h, Int.emod_eq_of_lt h0 h]; rfl
theorem eus_add {a b : Int} (h0 : 0 ≤ a) (hb : 0 < b) (m : Nat) : eus (a + m * b) b = List.replicate m b ++ eus a b := by
  rw [eus1 hb, eus1 (a := a) hb, Int.add_mul_ediv_right _ _ (by omega), Int.add_mul_emod_self_right]
  have : 0 ≤ a / b := Int.ediv_nonneg h0 (by omega)
  rw [show (a / b + (m : Int)).toNat = m + (a / b).toNat by omega, ← List.replicate_append_replicate, List.append_assoc]
theorem eus_symm {a b : Int} (ha : 0 < a) (hb : 0 < b) : eus a b = eus b a := by
  rcases Int.lt_trichotomy a b with z | z | z
  · exact eus_lt (by omega) z
  · rw [z]
  · exact (eus_lt (by omega) z).symm
theorem eus_more {a b : Int} (ha : 0 < a) (hb : 0 < b) : eus (a + b) a = a :: eus a b := by
  have := eus_add (a := b) (b := a) (by omega) ha 1
  rw [show b + ((1 : Nat) : Int) * a = a + b by omega] at this
  rw [this, eus_symm hb ha]; rfl
theorem eus_self {a : Int} (ha : 0 < a) : eus a a = [a] := by
  rw [eus1 ha, Int.ediv_self (by omega), Int.emod_self, eus0]; rfl
theorem eus_dvd {b d : Int} (hd : 0 < d) (h : d ∣ b) : eus b d = List.replicate (b / d).toNat d := by
  rw [eus1 hd, Int.emod_eq_zero_of_dvd h, eus0, List.append_nil]
/-- the counts that generators tell: the divisor so far, the last generator times the one before -/
def told : Int → Int → List Int → List Int
  | _, _, [] => []
  | d, w, y :: ys => eus (y - w / d) d ++ told (eu d y) (y * d) ys
theorem told_snoc : ∀ (g : List Int) (y v : Int) {p p2 : Int × Int}, run p g = some p2 → told p.1 v (g ++ [y]) = told p.1 v g ++ eus (y - (if g = [] then v else p2.2) / p2.1) p2.1
  | [], y, v, p, p2, h => by
    cases h
    rw [if_pos rfl]
    show eus (y - v / p.1) p.1 ++ [] = [] ++ _
    rw [List.append_nil]; rfl
  | z :: g, y, v, p, p2, h => by
    rw [run_cons] at h
    cases hs : stp p z with
    | none => rw [hs] at h; cases h
    | some p' =>
      rw [hs] at h
      have h : run p' g = some p2 := h
      have e : p' = (eu p.1 z, z * p.1) := by
        unfold stp at hs
        split at hs
        · cases hs; rfl
        · cases hs
      have ih := told_snoc g y (z * p.1) h
      rw [e] at ih
      rw [if_neg (by simp)]
      show eus (z - v / p.1) p.1 ++ told (eu p.1 z) (z * p.1) (g ++ [y]) = eus (z - v / p.1) p.1 ++ told (eu p.1 z) (z * p.1) g ++ _
      rw [ih, ← List.append_assoc]
      by_cases hg : g = []
      · subst hg
        cases h
        rw [if_pos rfl, e]
      · rw [if_neg hg]
def w0 (g : List Int) (w : Int) : Int := if g = [] then 0 else w
/-- a run of letters begins at this height -/
structure Rs (ws : List Int) (x : Int) (h : Nat) (g : List Int) (d q : Int) : Prop where
  st : gst ws h = (x :: g, d, q)
  w : ∃ w, run (x, x * x) g = some (d, w) ∧ w ≤ q ∧ ∃ m : Nat, q = w0 g w + d * d * m ∧ cto ws h = told x 0 g ++ List.replicate m d
  lc : ∀ j, (told x 0 g).length ≤ j → j ≤ h → ¬ Crn ws j
  lg : g ≠ [] → Crn ws ((told x 0 g).length - 1)
  dv : d * d ∣ q
  kl : q / d - (cto ws h).sum = lastGo x g + d - x
  nc : ¬ Crn ws h
  o1 : ∃ a : Nat, (ord2 (ws.drop h)).1 = some a ∧ (a : Int) = d
  d1 : 1 ≤ d
  dx : d ≤ x
  q0 : 0 ≤ q
/-- within a run -/
structure Ir (ws : List Int) (x : Int) (h : Nat) (g : List Int) (d q : Int) (A B : Nat) (b e s0 w : Int) (m : Nat) : Prop where
  st : gst ws h = (x :: g, d, q)
  od : ord2 (ws.drop h) = (some A, some B)
  ch : run (x, x * x) g = some (d, w)
  dv : d * d ∣ e
  e0 : 0 ≤ e
  wl : w < e + d * b
  qe : q + (A : Int) * (B : Int) = e + d * b
  gc : Int.gcd A B = Int.gcd d b
  se : (cto ws h).sum + A + B = s0 + d + b
  kl : e / d - s0 = lastGo x g + d - x
  nc : ¬ Crn ws h → (A : Int) = d ∧ d ∣ b - B
  cr : Crn ws h → ¬ d ∣ b
  d1 : 1 ≤ d
  dx : d ≤ x
  b0 : 0 < b
  es : e = w0 g w + d * d * m
  tl : cto ws h ++ eus A B = told x 0 g ++ List.replicate m d ++ eus b d
  lc : ¬ Crn ws h → ∀ j, (told x 0 g).length ≤ j → j ≤ h → ¬ Crn ws j
  lg : g ≠ [] → Crn ws ((told x 0 g).length - 1)
theorem Ir.turn {ws : List Int} {x : Int} {h : Nat} {g : List Int} {d q : Int} {A B : Nat} {b e s0 w : Int} {m : Nat} (I : Ir ws x h g d q A B b e s0 w m) (hl : h < ws.length) (h1 : 1 ≤ h) (hw : ws.getD h 0 = -1) {A' B' : Nat} (o : ord2 (ws.drop (h + 1)) = (some A', some B')) :
    Ir ws x (h + 1) g d (q + ((cnt ws h : Nat) : Int) * ((cnt ws h : Nat) : Int)) A' B' b e s0 w m := by
  have od := I.od
  rw [drop_step hl, hw, o] at od
  have ea : A = A' + B' ∧ B = A' := by
    have : (some (A' + B'), some A') = (some A, some B) := od
    injection this with e1 e2
    injection e1 with e1
    injection e2 with e2
    omega
  obtain ⟨ea, eb⟩ := ea
  obtain ⟨p1, p2⟩ := pos_of o
  have hc : cnt ws h = A' := by
    unfold cnt
    rw [I.od, ea, eb]
    show (if A' < A' + B' then A' else A' + B') = A'
    rw [if_pos (by omega)]
  have hcr : Crn ws (h + 1) := (crn_succ hl).mpr (.inl ⟨hw, h1⟩)
  refine ⟨gst_on I.st fun z => z.2 hcr, o, I.ch, I.dv, I.e0, I.wl, ?_, ?_, ?_, I.kl, fun z => absurd hcr z, fun _ hd => ?_, I.d1, I.dx, I.b0, I.es, ?_, ?_, I.lg⟩
  · have := I.qe
    rw [ea, eb, Int.natCast_add, Int.add_mul] at this
    rw [hc, Int.mul_comm (A' : Int) (B' : Int)]
    omega
  · rw [← I.gc, ea, eb, Int.natCast_add, Int.gcd_comm (_ + _)]
    rw [show ((A' : Int) + B') = (B' : Int) + A' * 1 by omega, Int.gcd_add_mul_left_right]
  · have := I.se
    rw [sum_succ, hc]
    rw [ea, eb, Int.natCast_add] at this
    omega
  · by_cases z : Crn ws h
    · exact I.cr z hd
    · obtain ⟨n1, n2⟩ := I.nc z
      have : d ∣ (B : Int) := by
        have := Int.dvd_sub hd n2
        rw [show b - (b - (B : Int)) = B by omega] at this
        exact this
      have := Int.le_of_dvd (by omega) this
      omega
  · rw [cto_succ, hc, List.append_assoc, List.singleton_append, ← I.tl, ea, eb, Int.natCast_add, eus_more (by omega) (by omega)]
  · exact fun z => absurd hcr z
theorem Ir.zero {ws : List Int} {x : Int} {h : Nat} {g : List Int} {d q : Int} {A B : Nat} {b e s0 w : Int} {m : Nat} (I : Ir ws x h g d q A B b e s0 w m) (hl : h < ws.length) (hw : ws.getD h 0 = 0) {A' B' : Nat} (o : ord2 (ws.drop (h + 1)) = (some A', some B')) :
    Ir ws x (h + 1) g d (q + ((cnt ws h : Nat) : Int) * ((cnt ws h : Nat) : Int)) A' B' b e s0 w m := by
  have od := I.od
  rw [drop_step hl, hw, o] at od
  have ea : A = A' ∧ B = A' + B' := by
    have : (some A', some (A' + B')) = (some A, some B) := od
    injection this with e1 e2
    injection e1 with e1
    injection e2 with e2
    omega
  obtain ⟨ea, eb⟩ := ea
  obtain ⟨p1, p2⟩ := pos_of o
  have hc : cnt ws h = A' := by
    unfold cnt
    rw [I.od, ea, eb]
    show (if A' + B' < A' then A' + B' else A') = A'
    rw [if_neg (by omega)]
  have hcr : Crn ws (h + 1) ↔ Crn ws h := by
    rw [crn_succ hl, hw]
    constructor
    · rintro (⟨z, _⟩ | ⟨_, z⟩)
      · cases z
      · exact z
    · intro z; exact .inr ⟨rfl, z⟩
  refine ⟨gst_on I.st fun z => z.2 (hcr.mpr z.1), o, I.ch, I.dv, I.e0, I.wl, ?_, ?_, ?_, I.kl, fun z => ?_, fun z => I.cr (hcr.mp z), I.d1, I.dx, I.b0, I.es, ?_, ?_, I.lg⟩
  · have := I.qe
    rw [ea, eb, Int.natCast_add, Int.mul_add] at this
    rw [hc]
    omega
  · rw [← I.gc, ea, eb, Int.natCast_add]
    rw [show ((A' : Int) + B') = (B' : Int) + A' * 1 by omega, Int.gcd_add_mul_left_right]
  · have := I.se
    rw [sum_succ, hc]
    rw [ea, eb, Int.natCast_add] at this
    omega
  · obtain ⟨n1, n2⟩ := I.nc fun y => z (hcr.mpr y)
    refine ⟨by omega, ?_⟩
    have : d ∣ b - (B : Int) + A' := Int.dvd_add n2 (by rw [show (A' : Int) = d by omega]; exact Int.dvd_refl _)
    rw [show b - (B : Int) + A' = b - B' by rw [eb, Int.natCast_add]; omega] at this
    exact this
  · rw [cto_succ, hc, List.append_assoc, List.singleton_append, ← I.tl, ea, eb, Int.natCast_add, eus_symm (a := (A' : Int)) (b := A' + B') (by omega) (by omega), eus_more (by omega) (by omega)]
  · intro z j hj1 hj2
    by_cases hj : j = h + 1
    · rw [hj]; exact z
    · exact I.lc (fun y => z (hcr.mpr y)) j hj1 (by omega)
/-- a letter that is no turn and not 0 ends the run -/
theorem Ir.stop {ws : List Int} {x : Int} {h : Nat} {g : List Int} {d q : Int} {A B : Nat} {b e s0 w : Int} {m : Nat} (I : Ir ws x h g d q A B b e s0 w m) (hl : h < ws.length) (h0 : ws.getD h 0 ≠ -1) (h1 : ws.getD h 0 ≠ 0) :
    ∃ g' d', Rs ws x (h + 1) g' d' (q + ((cnt ws h : Nat) : Int) * ((cnt ws h : Nat) : Int)) ∧ g'.length ≤ g.length + 1 ∧ ∀ y ∈ g', y ∈ g ∨ y ≤ q + ((cnt ws h : Nat) : Int) * ((cnt ws h : Nat) : Int) := by
  have od := I.od
  rw [drop_step hl] at od
  unfold stepO at od
  rw [if_neg h0, if_neg h1] at od
  injection od with e1 e2
  have eb : A = B := by rw [e1] at e2; injection e2
  obtain ⟨p1, p2⟩ := pos_of I.od
  have hc : cnt ws h = A := by
    unfold cnt
    rw [I.od, ← eb]
    show (if A < A then A else A) = A
    split <;> rfl
  have hcr : ¬ Crn ws (h + 1) := by
    rw [crn_succ hl]
    rintro (⟨z, _⟩ | ⟨z, _⟩)
    · exact h0 z
    · exact h1 z
  have hG : (A : Int) = (Int.gcd d b : Int) := by
    rw [← I.gc, ← eb, Int.gcd_self, Int.natAbs_natCast]
  have hq : q + (A : Int) * (A : Int) = e + d * b := by
    have := I.qe
    rw [← eb] at this
    exact this
  have hd0 := I.d1
  have hb0 := I.b0
  have hse := I.se
  have hkl := I.kl
  obtain ⟨k, hk⟩ := I.dv
  have hek : e / d = d * k := by rw [hk, Int.mul_assoc, Int.mul_ediv_cancel_left _ (by omega)]
  have hqd : (e + d * b) / d = d * k + b := by rw [hk, div_mul_add (by omega)]
  have hq0 : 0 ≤ e + d * b := Int.add_nonneg I.e0 (Int.mul_nonneg (by omega) (by omega))
  have hC : cto ws (h + 1) = told x 0 g ++ (List.replicate m d ++ eus b d) := by
    have := I.tl
    rw [← eb, eus_self (by omega)] at this
    rw [cto_succ, hc, this, List.append_assoc]
  have hes := I.es
  have hw0 : w0 g w / d = d * k - d * m := by
    have : w0 g w = d * (d * k - d * m) := by
      rw [Int.mul_sub, ← Int.mul_assoc, ← Int.mul_assoc]; omega
    rw [this, Int.mul_ediv_cancel_left _ (by omega)]
  rw [hc, hq]
  by_cases z : Crn ws h
  · -- a group of corners ends
    have hT : told x 0 (g ++ [d * k + b]) = told x 0 g ++ (List.replicate m d ++ eus b d) := by
      have h1 := told_snoc g (d * k + b) 0 I.ch
      have h1 : told x 0 (g ++ [d * k + b]) = told x 0 g ++ eus (d * k + b - w0 g w / d) d := h1
      rw [h1, hw0, show d * k + b - (d * k - d * (m : Int)) = b + (m : Int) * d by rw [Int.mul_comm d m]; omega, eus_add (by omega) (by omega)]
    have hdk : 0 ≤ d * k := by rw [← hek]; exact Int.ediv_nonneg I.e0 (by omega)
    have hy : 0 < d * k + b := by omega
    have heu : eu d (d * k + b) = A := by
      rw [eu_eq (by omega) (by omega), gcd_kb, hG]
    have hAd : (A : Int) ∣ d := by rw [hG]; exact Int.gcd_dvd_left _ _
    have hAb : (A : Int) ∣ b := by rw [hG]; exact Int.gcd_dvd_right _ _
    have hlt : (A : Int) < d := by
      have h2 := Int.le_of_dvd (by omega) hAd
      rcases Int.lt_or_eq_of_le h2 with y | y
      · exact y
      · exact absurd (by rw [← y]; exact hAb) (I.cr z)
    have hyd : (d * k + b) * d = e + d * b := by
      rw [Int.add_mul, hk, Int.mul_comm b d, Int.mul_right_comm]
    have hrun : run (x, x * x) (g ++ [d * k + b]) = some ((A : Int), e + d * b) := by
      refine run_snoc _ _ _ I.ch ?_
      unfold stp
      rw [if_pos ⟨by rw [heu]; exact hlt, by rw [hyd]; exact I.wl⟩, heu, hyd]
    obtain ⟨n, hn⟩ := hAd
    have hyA : (A : Int) ∣ d * k + b := Int.dvd_add (Int.dvd_trans ⟨n, hn⟩ ⟨k, rfl⟩) hAb
    have hTl : (told x 0 (g ++ [d * k + b])).length = h + 1 := by rw [hT, ← hC, cto_len]
    refine ⟨g ++ [d * k + b], A, ⟨?_, ⟨_, hrun, Int.le_refl _, 0, ?_, ?_⟩, fun j j1 j2 => by rw [show j = h + 1 by omega]; exact hcr, fun _ => by rw [hTl]; exact z, ?_, ?_, hcr, ⟨A, e1, rfl⟩, by omega, by have := I.dx; omega, hq0⟩, by rw [List.length_append]; exact Nat.le_refl _, fun y hy2 => ?_⟩
    · rw [gst_end I.st z hcr, hc, hq, hqd]; rfl
    · unfold w0
      rw [if_neg (by simp)]
      show _ = _ + _ * ((0 : Nat) : Int)
      rw [Int.natCast_zero, Int.mul_zero, Int.add_zero]
    · rw [hC, hT, List.replicate_zero, List.append_nil]
    · rw [← hyd, Int.mul_comm (d * k + b) d]
      exact Int.mul_dvd_mul ⟨n, hn⟩ hyA
    · have h1 := lastGo_snoc g (d * k + b) I.ch
      have h1 : lastGo x (g ++ [d * k + b]) = lastGo x g + (d / eu d (d * k + b) - 1) * (d * k + b) := h1
      rw [h1, heu]
      have hda : d / (A : Int) = n := by rw [hn, Int.mul_ediv_cancel_left _ (by omega)]
      have hqa : (e + d * b) / (A : Int) = n * (d * k + b) := by
        rw [← hyd, Int.mul_comm (d * k + b) d]
        rw [show d * (d * k + b) = (A : Int) * (n * (d * k + b)) by rw [← Int.mul_assoc, ← hn], Int.mul_ediv_cancel_left _ (by omega)]
      rw [hda, hqa, sum_succ, hc, Int.sub_mul]
      omega
    · rcases List.mem_append.mp hy2 with y2 | y2
      · exact .inl y2
      · rw [List.mem_singleton.mp y2]
        refine .inr ?_
        rw [← hyd]
        have : (d * k + b) * 1 ≤ (d * k + b) * d := Int.mul_le_mul_of_nonneg_left (by omega) (by omega)
        omega
  · obtain ⟨n1, n2⟩ := I.nc z
    have hdb : d ∣ b := by
      have := Int.dvd_add n2 (show d ∣ (B : Int) by rw [← eb, n1]; exact Int.dvd_refl _)
      rw [show b - (B : Int) + B = b by omega] at this
      exact this
    obtain ⟨b2, hb2⟩ := hdb
    have hb20 : 0 ≤ b2 := by
      rcases Int.lt_or_le b2 0 with y | y
      · have : d * b2 < 0 := Int.mul_neg_of_pos_of_neg (by omega) y
        omega
      · exact y
    have hbd : b / d = b2 := by rw [hb2, Int.mul_ediv_cancel_left _ (by omega)]
    refine ⟨g, d, ⟨?_, ⟨w, I.ch, by have := I.wl; omega, m + b2.toNat, ?_, ?_⟩, fun j j1 j2 => ?_, I.lg, ?_, ?_, hcr, ⟨A, e1, n1⟩, I.d1, I.dx, hq0⟩, by omega, fun y hy => .inl hy⟩
    · rw [gst_on I.st fun y => z y.1, hc, hq]
    · rw [hes, hb2, Int.natCast_add, Int.toNat_of_nonneg hb20, Int.mul_add, Int.mul_assoc d d b2]; omega
    · rw [hC, eus_dvd (by omega) ⟨b2, hb2⟩, hbd, List.replicate_append_replicate]
    · by_cases hj : j = h + 1
      · rw [hj]; exact hcr
      · exact I.lc z j j1 (by omega)
    · exact Int.dvd_add ⟨k, hk⟩ (Int.mul_dvd_mul (Int.dvd_refl d) ⟨b2, hb2⟩)
    · rw [hqd, sum_succ, hc]
      omega
theorem Rs.go {ws : List Int} {x : Int} {h : Nat} {g : List Int} {d q : Int} (R : Rs ws x h g d q) {A B : Nat} (o : ord2 (ws.drop h) = (some A, some B)) : ∃ w m, Ir ws x h g d q A B (B : Int) q (cto ws h).sum w m := by
  obtain ⟨w, w1, w2, m, w3, w4⟩ := R.w
  obtain ⟨a, a1, a2⟩ := R.o1
  rw [o] at a1
  have : A = a := by injection a1
  subst this
  have hd := R.d1
  obtain ⟨p1, p2⟩ := pos_of o
  have hm : d * 1 ≤ d * (B : Int) := Int.mul_le_mul_of_nonneg_left (by omega) (by omega)
  refine ⟨w, m, R.st, o, w1, R.dv, R.q0, by omega, by rw [a2], by rw [a2], by omega, R.kl, fun _ => ⟨a2, by rw [Int.sub_self]; exact Int.dvd_zero _⟩, fun z => absurd z R.nc, R.d1, R.dx, by omega, w3, by rw [w4, a2, eus_symm (by omega) (by omega)], fun _ => R.lc, R.lg⟩
/-- the bound of the squares so far -/
theorem walk_end {ws : List Int} (hw : Wd ws) (h1 : ws ≠ []) (h2 : ws ≠ [-1]) {x : Int} : ∀ (n : Nat) {h : Nat} {g : List Int} {d q : Int} {A B : Nat} {b e s0 w : Int} {m : Nat}, n + h + 1 = ws.length → 1 ≤ h → Ir ws x h g d q A B b e s0 w m →
    ∃ g' d' q', Rs ws x ws.length g' d' q'
  | 0, h, g, d, q, A, B, b, e, s0, w, m, hn, hh, I => by
    have hp := last_pos hw h1 h2 (h := h) (by omega)
    obtain ⟨g', d', r, _⟩ := I.stop (by omega) (by omega) (by omega)
    rw [show h + 1 = ws.length by omega] at r
    exact ⟨_, _, _, r⟩
  | n + 1, h, g, d, q, A, B, b, e, s0, w, m, hn, hh, I => by
    have hl : h < ws.length := by omega
    obtain ⟨A', B', o⟩ := ords_in hw h1 h2 (show h + 1 < ws.length by omega)
    by_cases z1 : ws.getD h 0 = -1
    · exact walk_end hw h1 h2 n (by omega) (by omega) (I.turn hl hh z1 o)
    · by_cases z2 : ws.getD h 0 = 0
      · exact walk_end hw h1 h2 n (by omega) (by omega) (I.zero hl z2 o)
      · obtain ⟨g', d', r, _⟩ := I.stop hl z1 z2
        obtain ⟨w', m', I'⟩ := r.go o
        exact walk_end hw h1 h2 n (by omega) (by omega) I'
/-- the first height -/
theorem start {ws : List Int} (hw : Wd ws) (h1 : ws ≠ []) (h2 : ws ≠ [-1]) : ∃ g' d' q', Rs ws ((cnt ws 0 : Nat) : Int) ws.length g' d' q' := by
  have hl : 0 < ws.length := List.length_pos_iff.mpr h1
  obtain ⟨A, B, o⟩ := ords_in hw h1 h2 hl
  have o0 : ord2 ws = (some A, some B) := o
  obtain ⟨p1, p2⟩ := pos_of o
  have hs0 : (cto ws 0).sum = 0 := rfl
  have st0 : gst ws 0 = ([((cnt ws 0 : Nat) : Int)], ((cnt ws 0 : Nat) : Int), 0) := rfl
  have hcx : cnt ws 0 = if B < A then B else A := by unfold cnt; rw [o]; rfl
  have od := o
  rw [drop_step hl] at od
  by_cases hone : ws.length = 1
  · -- one letter
    have hp := last_pos hw h1 h2 (h := 0) (by omega)
    unfold stepO at od
    rw [if_neg (by omega), if_neg (by omega)] at od
    have hc1 : ¬ Crn ws (0 + 1) := by
      rw [crn_succ hl]
      rintro (⟨_, z⟩ | ⟨_, z⟩)
      · omega
      · exact crn_0 ws z
    have hd : ws.drop (0 + 1) = [] := List.drop_eq_nil_of_le (by omega)
    rw [hd] at od
    injection od with e1 e2
    have e1 : A = 1 := by injection e1 with e1; omega
    have e2 : B = 1 := by injection e2 with e2; omega
    have hx : cnt ws 0 = 1 := by rw [hcx, e1, e2]; rfl
    refine ⟨[], 1, 1, ?_⟩
    rw [hone]
    have hst := gst_on st0 (fun z => crn_0 ws z.1)
    rw [hx] at hst ⊢
    have hct : cto ws 1 = [1] := by
      rw [show (1 : Nat) = 0 + 1 from rfl, cto_succ, hx]; rfl
    refine ⟨hst, ⟨_, rfl, by decide, 1, rfl, hct⟩, fun j _ j2 => ?_, fun z => absurd rfl z, ⟨1, rfl⟩, ?_, hc1, ⟨1, by rw [hd]; rfl, rfl⟩, by decide, by decide, by decide⟩
    · rcases Nat.lt_or_ge j 1 with y | y
      · rw [show j = 0 by omega]; exact crn_0 ws
      · rw [show j = 0 + 1 by omega]; exact hc1
    have : (cto ws 1).sum = 1 := by
      have := sum_succ ws 0
      rw [hs0, hx] at this
      exact this
    rw [this]
    rfl
  · obtain ⟨A', B', o'⟩ := ords_in hw h1 h2 (show 0 + 1 < ws.length by omega)
    obtain ⟨p3, p4⟩ := pos_of o'
    rw [o'] at od
    have hst := gst_on st0 (fun z => crn_0 ws z.1)
    have hc1 : ¬ Crn ws (0 + 1) := by
      rw [crn_succ hl]
      rintro (⟨_, z⟩ | ⟨_, z⟩)
      · omega
      · exact crn_0 ws z
    have hs1 : (cto ws (0 + 1)).sum = ((cnt ws 0 : Nat) : Int) := by rw [sum_succ, hs0, Int.zero_add]
    have fin : ∀ {x : Int} {b : Int}, x = A' → ((cnt ws 0 : Nat) : Int) = x → b = x + B' → ∃ g' d' q', Rs ws x ws.length g' d' q' := fun {x b} ex ec eb => by
      subst ex
      rw [ec] at hst hs1
      refine walk_end hw h1 h2 (ws.length - 2) (h := 1) (g := []) (d := A') (q := 0 + (A' : Int) * A') (A := A') (B := B') (b := b) (e := 0) (s0 := 0) (w := (A' : Int) * A') (by omega) (by omega) ⟨hst, o', rfl, Int.dvd_zero _, Int.le_refl _, ?_, ?_, ?_, ?_, ?_, fun _ => ⟨rfl, ?_⟩, fun z => absurd z hc1, by omega, Int.le_refl _, by omega, rfl, ?_, fun _ j _ j2 => ?_, fun z => absurd rfl z⟩ (m := 0)
      · have : (A' : Int) * A' < A' * b := by
          rw [eb, Int.mul_add]
          have : 0 < (A' : Int) * B' := Int.mul_pos (by omega) (by omega)
          omega
        omega
      · rw [eb, Int.mul_add]; omega
      · rw [eb, show (A' : Int) + B' = (B' : Int) + A' * 1 by omega, Int.gcd_add_mul_left_right]
      · have hs1 : (cto ws 1).sum = (A' : Int) := hs1
        rw [hs1, eb]; omega
      · rw [Int.zero_ediv]
        show (0 : Int) - 0 = 0 + _ - _
        omega
      · rw [eb, show (A' : Int) + B' - B' = A' by omega]; exact Int.dvd_refl _
      · rw [show (1 : Nat) = 0 + 1 from rfl, cto_succ, ec, eb, Int.add_comm (A' : Int), Int.add_comm (B' : Int), eus_more (by omega) (by omega)]; rfl
      · rcases Nat.lt_or_ge j 1 with y | y
        · rw [show j = 0 by omega]; exact crn_0 ws
        · rw [show j = 0 + 1 by omega]; exact hc1
    by_cases z1 : ws.getD 0 0 = -1
    · rw [z1] at od
      have : (some (A' + B'), some A') = (some A, some B) := od
      injection this with e1 e2
      injection e1 with e1
      injection e2 with e2
      have hx : cnt ws 0 = A' := by rw [hcx, if_pos (by omega)]; omega
      rw [hx]
      exact fin (x := A') rfl (by rw [hx]) rfl
    · by_cases z2 : ws.getD 0 0 = 0
      · rw [z2] at od
        have : (some A', some (A' + B')) = (some A, some B) := od
        injection this with e1 e2
        injection e1 with e1
        injection e2 with e2
        have hx : cnt ws 0 = A' := by rw [hcx, if_neg (by omega)]; omega
        rw [hx]
        exact fin (x := A') rfl (by rw [hx]) rfl
      · unfold stepO at od
        rw [if_neg z1, if_neg z2] at od
        injection od with e1 e2
        injection e1 with e1
        injection e2 with e2
        have e1 : A = A' := e1.symm
        have e2 : B = A' := e2.symm
        have hx : cnt ws 0 = A' := by rw [hcx, e1, e2, if_neg (by omega)]
        rw [hx] at hst hs1 ⊢
        have R : Rs ws A' (0 + 1) [] A' (0 + (A' : Int) * A') := by
          have hct : cto ws (0 + 1) = [(A' : Int)] := by rw [cto_succ, hx]; rfl
          refine ⟨hst, ⟨_, rfl, by show (A' : Int) * A' ≤ 0 + (A' : Int) * A'; omega, 1, by show 0 + (A' : Int) * A' = 0 + (A' : Int) * A' * ((1 : Nat) : Int); rw [Int.natCast_one, Int.mul_one], hct⟩, fun j _ j2 => ?_, fun z => absurd rfl z, by rw [Int.zero_add]; exact Int.dvd_refl _, ?_, hc1, ⟨A', by rw [o'], rfl⟩, by omega, Int.le_refl _, by rw [Int.zero_add]; exact Int.mul_nonneg (by omega) (by omega)⟩
          · rcases Nat.lt_or_ge j 1 with y | y
            · rw [show j = 0 by omega]; exact crn_0 ws
            · rw [show j = 0 + 1 by omega]; exact hc1
          rw [hs1, Int.zero_add, Int.mul_ediv_cancel_left _ (by omega)]
          show (A' : Int) - A' = 0 + A' - A'
          omega
        obtain ⟨w', m', I'⟩ := R.go o'
        exact walk_end hw h1 h2 (ws.length - 2) (h := 1) (by omega) (by omega) I'
/-- the counts of a word: those that its generators tell, then ones; where the last corner stands -/
theorem told_ok {ws : List Int} (hw : Wd ws) : ∃ (x : Int) (g : List Int) (n : Nat), gensW ws = x :: g ∧ x = ((cnt ws 0 : Nat) : Int) ∧ cto ws (ws.length + 1) = told x 0 g ++ List.replicate n 1 ∧ 1 ≤ n ∧ (∀ j, (told x 0 g).length ≤ j → ¬ Crn ws j) ∧ (g ≠ [] → Crn ws ((told x 0 g).length - 1) ∧ 1 ≤ (told x 0 g).length) := by
  by_cases h1 : ws = []
  · subst h1
    refine ⟨1, [], 1, ?_, rfl, rfl, Nat.le_refl _, fun j _ => ?_, fun z => absurd rfl z⟩
    · unfold gensW
      show (gst [] 1).1 = _
      rw [gst, if_neg (fun z => crn_0 _ z.1)]; rfl
    · rintro ⟨k, k1, k2, _⟩
      simp at k2
      omega
  · by_cases h2 : ws = [-1]
    · subst h2
      have c1 : ¬ Crn [-1] 1 := by
        rw [crn_succ (by decide)]
        rintro (⟨_, z⟩ | ⟨_, z⟩)
        · omega
        · exact crn_0 _ z
      refine ⟨1, [], 2, ?_, rfl, rfl, by decide, fun j _ => ?_, fun z => absurd rfl z⟩
      · unfold gensW
        show (gst [-1] 2).1 = _
        rw [gst, if_neg (fun z => c1 z.1), gst, if_neg (fun z => crn_0 _ z.1)]; rfl
      · rintro ⟨k, k1, k2, _⟩
        simp at k2
        omega
    · obtain ⟨g, d, q, R⟩ := start hw h1 h2
      obtain ⟨w, w1, w2, m, w3, w4⟩ := R.w
      obtain ⟨a, a1, a2⟩ := R.o1
      rw [List.drop_length] at a1
      have : a = 1 := by
        have : some 1 = some a := a1
        injection this with this
        omega
      subst this
      have hd : d = 1 := by omega
      subst hd
      have hst : gst ws (ws.length + 1) = (((cnt ws 0 : Nat) : Int) :: g, 1, q + ((cnt ws ws.length : Nat) : Int) * ((cnt ws ws.length : Nat) : Int)) := gst_on R.st fun z => R.nc z.1
      have hg : gensW ws = ((cnt ws 0 : Nat) : Int) :: g := by unfold gensW; rw [hst]
      refine ⟨_, g, m + 1, hg, rfl, ?_, by omega, fun j hj => ?_, fun z => ⟨R.lg z, ?_⟩⟩
      · rw [cto_succ, w4, cnt_out (Nat.le_refl _), List.append_assoc, List.replicate_succ']; rfl
      · by_cases y : j ≤ ws.length
        · exact R.lc j hj y
        · rintro ⟨k, _, k2, _⟩
          omega
      · have := R.lg z
        rcases Nat.eq_zero_or_pos (told ((cnt ws 0 : Nat) : Int) 0 g).length with y | y
        · rw [y] at this
          exact absurd this (crn_0 ws)
        · exact y
end LW2

set_option Elab.async false
set_option maxRecDepth 100000
set_option maxHeartbeats 4000000
/-! LX: plain: exponents of generators. -/
namespace LX
open LO LC LG LW LW2
/-- the chain from a divisor d on; v: the last generator times the divisor before -/
def Ck : Int → Int → List Int → Prop
  | _, _, [] => True
  | d, v, y :: ys => eu d y < d ∧ v < y * d ∧ Ck (eu d y) (y * d) ys
theorem ck_run : ∀ {ys : List Int} {d v w : Int} {p : Int × Int}, run (d, v) ys = some p → w ≤ v → Ck d w ys
  | [], _, _, _, _, _, _ => trivial
  | y :: ys, d, v, w, p, h, hw => by
    rw [run_cons] at h
    cases hs : stp (d, v) y with
    | none => rw [hs] at h; cases h
    | some p' =>
      rw [hs] at h
      have h : run p' ys = some p := h
      unfold stp at hs
      split at hs
      · rename_i hc
        cases hs
        obtain ⟨c1, c2⟩ := hc
        have c2 : v < y * d := c2
        exact ⟨c1, by omega, ck_run h (Int.le_refl _)⟩
      · cases hs
theorem gen_ck {x : Int} {g : List Int} (h : genI (x :: g) = true) : 0 < x ∧ Ck x 0 g := by
  have hx : 0 < x := (gen_chn h).pos.1
  refine ⟨hx, ?_⟩
  cases g with
  | nil => trivial
  | cons y r =>
    rw [genI2, Bool.and_eq_true] at h
    obtain ⟨_, h2⟩ := h
    cases q : run (x, x * x) (y :: r) with
    | none => rw [q] at h2; cases h2
    | some p => exact ck_run q (Int.le_of_lt (Int.mul_pos hx hx))
/-- what holds along a chain -/
structure St (d v E : Int) : Prop where
  d0 : 0 < d
  dv : d * d ∣ v
  v0 : 0 ≤ v
  dE : d ∣ E
  E0 : 0 ≤ E
theorem st0 {x : Int} (h : 0 < x) : St x 0 0 := ⟨h, Int.dvd_zero _, Int.le_refl _, Int.dvd_zero _, Int.le_refl _⟩
theorem St.vd {d v E : Int} (s : St d v E) : d ∣ v / d := by
  obtain ⟨k, hk⟩ := s.dv
  exact ⟨k, by rw [hk, Int.mul_assoc, Int.mul_ediv_cancel_left _ (by have := s.d0; omega)]⟩
theorem St.low {d v E y : Int} (s : St d v E) (h : v < y * d) : v / d < y := (Int.ediv_lt_iff_lt_mul s.d0).mpr h
theorem St.ypos {d v E y : Int} (s : St d v E) (h : v < y * d) : 0 < y := by
  have := s.low h
  have := Int.ediv_nonneg s.v0 (by have := s.d0; omega : 0 ≤ d)
  omega
theorem St.next {d v E y : Int} (s : St d v E) (h : v < y * d) : St (eu d y) (y * d) (E + y - v / d) := by
  have h1 := s.low h
  have h2 := s.ypos h
  have h3 := s.E0
  have h4 := s.d0
  have e := eu_eq (a := d) (b := y) (by omega) (by omega)
  have a1 : eu d y ∣ d := by rw [e]; exact Int.gcd_dvd_left _ _
  have a2 : eu d y ∣ y := by rw [e]; exact Int.gcd_dvd_right _ _
  refine ⟨eu_pos h4 (by omega), Int.mul_dvd_mul a2 a1, Int.mul_nonneg (by omega) (by omega), ?_, by omega⟩
  exact Int.dvd_sub (Int.dvd_add (Int.dvd_trans a1 s.dE) a2) (Int.dvd_trans a1 s.vd)
/-- the exponents behind the first one -/
def exG : Int → Int → Int → List Int → List Int
  | _, _, _, [] => []
  | d, v, E, y :: ys => (E + y - v / d) :: exG (eu d y) (y * d) (E + y - v / d) ys
def expL : List Int → List Int
  | [] => []
  | x :: g => x :: exG x 0 0 g
end LX

set_option Elab.async false
set_option maxRecDepth 100000
set_option maxHeartbeats 4000000
/-! LM: comprehensions over a mapped list; zips told by recursion. -/
namespace LM
open PySem PySem.Spec PyProof.Rows L2 L3
theorem ifTq {b : Bool} {A C : Prop} (h : b = true) (hc : A) : if b = true then A else C := by rw [h, if_pos rfl]; exact hc
theorem ifFq {b : Bool} {A C : Prop} (h : b = false) (hc : C) : if b = true then A else C := by rw [h, if_neg Bool.false_ne_true]; exact hc
theorem lc_map {α : Type} {g : DG} {tt : DT} {te : DE} {vs : List Nat} {E : Env3} {G : Reg} (F W : α → D) (P : α → Prop)
    (step : ∀ a (k1 : D → Env3 → Reg → Prop) (k2 : Env3 → Reg → Prop), P a → (∀ Ew, wipe3 Ew vs = E → k1 (W a) Ew G) →
      g (F a) E G fun E1 G1 => tt E1 G1 fun b E2 G2 => if b = true then te E2 G2 fun r E3 G3 => ∃ x E4, r.ice E3 = some (x, E4) ∧ k1 x E4 G3 else k2 E2 G2) :
    ∀ (l : List α) (acc : List D) (k : List D → Env3 → Reg → Prop), (∀ a ∈ l, P a) → k (acc ++ l.map W) E G → dLcL g tt te vs (l.map F) acc E G k
  | [], acc, k, _, h => by simpa using h
  | d :: ds, acc, k, hp, h => step d _ _ (hp d List.mem_cons_self) fun Ew w => by
      rw [w]
      refine lc_map F W P step ds _ k (fun z hz => hp z (List.mem_cons_of_mem _ hz)) ?_
      rw [List.map_cons] at h
      rw [List.append_assoc]
      exact h
theorem lc_map0 {α : Type} {g : DG} {tt : DT} {te : DE} {vs : List Nat} {E : Env3} {G : Reg} (F W : α → D) (P : α → Prop)
    (step : ∀ a (k1 : D → Env3 → Reg → Prop) (k2 : Env3 → Reg → Prop), P a → (∀ Ew, wipe3 Ew vs = E → k1 (W a) Ew G) →
      g (F a) E G fun E1 G1 => tt E1 G1 fun b E2 G2 => if b = true then te E2 G2 fun r E3 G3 => ∃ x E4, r.ice E3 = some (x, E4) ∧ k1 x E4 G3 else k2 E2 G2)
    {l : List α} {k : List D → Env3 → Reg → Prop} (hp : ∀ a ∈ l, P a) (h : k (l.map W) E G) : dLcL g tt te vs (l.map F) [] E G k :=
  lc_map F W P step l [] k hp h
theorem atI_nat {α : Type} {ds : List α} {i : Nat} {d : α} (h : ds[i]? = some d) : atI ds ((i : Nat) : Int) = some d := by
  have hi : i < ds.length := by
    rw [List.getElem?_eq_some_iff] at h
    exact h.1
  unfold atI ixN
  rw [if_pos (by omega), if_pos (by omega), Int.toNat_natCast]
  exact h
theorem zip2_cons (a b : D) (as bs : List D) : zipN [a :: as, b :: bs] = .tup [a, b] :: zipN [as, bs] := by
  unfold zipN
  have e1 : minLen [a :: as, b :: bs] = minLen [as, bs] + 1 := by
    unfold minLen minLen
    rw [List.length_cons, List.length_cons]; omega
  rw [e1, List.range_succ_eq_map, List.map_cons, List.map_map]
  rfl
end LM
namespace LG
open PySem PySem.Spec PyProof.Rows L2 L3 LM
theorem Chn.le {x : Int} {r : List Rw} {e : Int} (h : Chn x r e) : e ≤ x ∧ ∀ w ∈ r, 2 ≤ w.2.1 ∧ w.2.1 ≤ x ∧ 0 < w.2.2 ∧ w.2.2 ≤ x := by
  induction h with
  | nil h => exact ⟨Int.le_refl _, fun w h => nomatch h⟩
  | @cons r d g s e h hg he hd hs hb ih =>
    have he0 := (h.cons hg he hd hs hb).pos.2
    have h1 : e * 1 ≤ e * s := Int.mul_le_mul_of_nonneg_left (by omega) (by omega)
    have h2 : s * 1 ≤ s * e := Int.mul_le_mul_of_nonneg_left (by omega) (by omega)
    rw [Int.mul_comm e s] at h1
    refine ⟨by omega, fun w hw => ?_⟩
    rcases List.mem_cons.mp hw with rfl | hw
    · exact ⟨hs, by show s ≤ x; omega, he0, by show e ≤ x; omega⟩
    · exact ih.2 w hw
end LG

set_option Elab.async false
set_option maxRecDepth 100000
set_option maxHeartbeats 4000000
set_option exponentiation.threshold 2000
/-! LI: papers of orders, gaps: what the defs of the package promise for generators up to 20, below 10^13 (from LI by mkliw.py) -/
namespace LG
open PySem PySem.Spec PyProof.Rows L2 L3 LD LM
open LN (pt sh_pt eqv_pt sh_ints eqv_ints)
local macro_rules | `(tactic| walk_at "ev") => `(tactic| repeat (first | refine lc_stop ?_ | refine for_stop ?_ | refine ⟨_, rfl, ?_⟩ | refine ⟨_, _, rfl, ?_⟩ | refine ⟨rfl, ?_⟩ | refine And.intro (by assumption) ?_ | refine ⟨by decide, ?_⟩ | refine ⟨ltL rfl, ?_⟩ | refine ⟨_, at0, ?_⟩ | refine ⟨_, at1, ?_⟩ | refine ⟨_, at2, ?_⟩ | refine ifT ?_ | refine ifF ?_ | refine ⟨_, _, _, rfl, ?_⟩ | refine ⟨⟨_, rfl⟩, ?_⟩ | refine ⟨_, _, _, _, rfl, ?_⟩))

/-- generators: up to 20, below 10^13 -/
structure GenW (gs : List Int) : Prop where
  gen : genI gs = true
  len : gs.length ≤ 20
  lt : ∀ x ∈ gs, x < 10 ^ 13
theorem GenOk.W {gs : List Int} (h : GenOk gs) : GenW gs := ⟨h.gen, by have := h.len; omega, fun x hx => by have := h.lt x hx; omega⟩
theorem gcd_step {m a : Int} : Int.gcd m (a % m) = Int.gcd a m := by
  have := Int.mul_ediv_add_emod a m
  rw [Int.gcd_comm, show a % m = a + m * (-(a / m)) by rw [Int.mul_neg]; omega, Int.gcd_add_mul_left_left]
structure Eu (a m one other first second : Int) : Prop where
  h0 : 0 ≤ other
  h1 : other < one
  h2 : 2 ≤ one
  h3 : one ≤ m
  g : Int.gcd one other = 1
  f : m ∣ first * a - one
  s : m ∣ second * a - other
theorem Eu.pos {a m one other first second : Int} (h : Eu a m one other first second) : 1 ≤ other := by
  rcases Int.lt_or_le 0 other with z | z
  · omega
  · have : other = 0 := by have := h.h0; omega
    have g := h.g
    rw [this, Int.gcd_zero] at g
    have := h.h2
    omega
theorem Eu.next {a m one other first second : Int} (h : Eu a m one other first second) (h1 : 1 < other) : Eu a m other (one - one / other * other) second (first - one / other * second) := by
  have e := Int.mul_ediv_add_emod one other
  have e2 : one - one / other * other = one % other := by rw [Int.mul_comm (one / other)]; omega
  have h3 := h.h3
  have h4 := h.h1
  refine ⟨by rw [e2]; exact Int.emod_nonneg _ (by omega), by rw [e2]; exact Int.emod_lt_of_pos _ (by omega), by omega, by omega, ?_, h.s, ?_⟩
  · rw [e2, gcd_step]; exact h.g
  · have := Int.dvd_sub h.f (Int.dvd_trans h.s ⟨one / other, rfl⟩)
    rw [show (first - one / other * second) * a - (one - one / other * other) = first * a - one - (second * a - other) * (one / other) by
      rw [Int.sub_mul, Int.sub_mul, Int.mul_assoc, Int.mul_comm (one / other) (second * a), Int.mul_comm (one / other) other]; omega]
    exact this
theorem Eu.start {a m : Int} (hm : 2 ≤ m) (hg : Int.gcd a m = 1) : Eu a m m (a % m) 0 1 := by
  have e := Int.mul_ediv_add_emod a m
  refine ⟨Int.emod_nonneg _ (by omega), Int.emod_lt_of_pos _ (by omega), hm, Int.le_refl _, by rw [gcd_step]; exact hg, ⟨-1, by omega⟩, ⟨a / m, by omega⟩⟩
theorem Eu.fin {a m one other first second : Int} (h : Eu a m one other first second) (ha : 0 ≤ a) (hm : 2 ≤ m) (hg : Int.gcd a m = 1) (h1 : ¬ 1 < other) : second % m = iv a m := by
  have p := h.pos
  have e : other = 1 := by omega
  have s := h.s
  rw [e] at s
  refine iv_uniq hm ha hg (Int.emod_nonneg _ (by omega)) (Int.emod_lt_of_pos _ (by omega)) ?_
  obtain ⟨k, hk⟩ := s
  rw [Int.mul_emod, Int.emod_emod_of_dvd _ (Int.dvd_refl m), ← Int.mul_emod, show a * second = 1 + m * k by rw [Int.mul_comm]; omega, Int.add_mul_emod_self_left]
  exact Int.emod_eq_of_lt (by decide) (by omega)
def tb (gs : List Int) (k i : Nat) : List D := (List.range (k + 1)).map fun j : Nat => .bl (if j < i then decide (Ord gs (j : Int)) else false)
end LG

set_option Elab.async false
set_option maxRecDepth 100000
set_option maxHeartbeats 4000000
/-! LX2: plain: exponents place by place. -/
namespace LX
open LO LC LG LW LW2
/-- the exponents of the first i generators -/
structure Jx (gs : List Int) (i : Nat) (v E : Int) (pre : List Int) : Prop where
  i2 : 2 ≤ i
  ev : v = gs.getD (i - 1) 0 * (cms gs).getD (i - 2) 0
  st : St ((cms gs).getD (i - 1) 0) v E
  ck : Ck ((cms gs).getD (i - 1) 0) v (gs.drop i)
  dv : (cms gs).getD (i - 1) 0 ∣ (cms gs).getD (i - 2) 0
  eq : pre ++ exG ((cms gs).getD (i - 1) 0) v E (gs.drop i) = expL gs
  la : pre.getLast? = some E
  ln : pre.length = i
theorem eu_dvd {a b : Int} (ha : 0 < a) (hb : 0 ≤ b) : eu a b ∣ a := by rw [eu_eq (by omega) hb]; exact Int.gcd_dvd_left _ _
theorem Jx.start {x y : Int} {ys : List Int} (h : genI (x :: y :: ys) = true) : Jx (x :: y :: ys) 2 (y * x) y [x, y] := by
  obtain ⟨hx, c⟩ := gen_ck h
  have s0 := st0 hx
  have s1 := s0.next c.2.1
  rw [show (0 : Int) + y - 0 / x = y by rw [Int.zero_ediv]; omega] at s1
  have hy := s0.ypos c.2.1
  refine ⟨Nat.le_refl _, rfl, s1, c.2.2, eu_dvd hx (by omega), ?_, rfl, rfl⟩
  show [x, y] ++ exG (eu x y) (y * x) y ys = x :: exG x 0 0 (y :: ys)
  rw [exG, show (0 : Int) + y - 0 / x = y by rw [Int.zero_ediv]; omega]; rfl
theorem Jx.vd {gs : List Int} {i : Nat} {v E : Int} {pre : List Int} (J : Jx gs i v E pre) : v / (cms gs).getD (i - 1) 0 = (cms gs).getD (i - 2) 0 / (cms gs).getD (i - 1) 0 * gs.getD (i - 1) 0 := by
  have hv := J.ev
  rw [hv, Int.mul_ediv_assoc _ J.dv, Int.mul_comm]
theorem Jx.next {gs : List Int} {i : Nat} {v E : Int} {pre : List Int} (J : Jx gs i v E pre) (hi : i < gs.length) :
    Jx gs (i + 1) (gs.getD i 0 * (cms gs).getD (i - 1) 0) (E + gs.getD i 0 - v / (cms gs).getD (i - 1) 0) (pre ++ [E + gs.getD i 0 - v / (cms gs).getD (i - 1) 0]) := by
  have h2 := J.i2
  have hc := J.ck
  rw [drop_get hi] at hc
  have ed := cms_get (v := gs) (i := i - 1) (by omega)
  rw [show i - 1 + 1 = i by omega] at ed
  have heq := J.eq
  rw [drop_get hi, exG, ← ed] at heq
  have s1 := J.st.next hc.2.1
  rw [← ed] at s1
  have c1 := hc.2.2
  rw [← ed] at c1
  refine ⟨by omega, ?_, ?_, ?_, ?_, ?_, by rw [List.getLast?_append]; rfl, by rw [List.length_append, J.ln]; rfl⟩
  · rw [show i + 1 - 1 = i by omega, show i + 1 - 2 = i - 1 by omega]
  · rw [show i + 1 - 1 = i by omega]; exact s1
  · rw [show i + 1 - 1 = i by omega]; exact c1
  · rw [show i + 1 - 1 = i by omega, show i + 1 - 2 = i - 1 by omega, ed]
    exact eu_dvd J.st.d0 (by have := J.st.ypos hc.2.1; omega)
  · rw [show i + 1 - 1 = i by omega, List.append_assoc]; exact heq
theorem Jx.fin {gs : List Int} {i : Nat} {v E : Int} {pre : List Int} (J : Jx gs i v E pre) (hi : i = gs.length) : pre = expL gs := by
  have := J.eq
  rw [hi, List.drop_length] at this
  have this : pre ++ [] = expL gs := this
  rw [List.append_nil] at this
  exact this
/-- the exponents at i and before -/
theorem Jx.at {gs : List Int} {i : Nat} {v E : Int} {pre : List Int} (J : Jx gs i v E pre) (hi : i < gs.length) : (expL gs).getD i 0 = E + gs.getD i 0 - v / (cms gs).getD (i - 1) 0 ∧ (expL gs).getD (i - 1) 0 = E := by
  have heq := J.eq
  have h2 := J.i2
  have hl := J.ln
  rw [drop_get hi, exG] at heq
  rw [← heq]
  constructor
  · rw [List.getD_eq_getElem?_getD, List.getElem?_append_right (by omega), hl, Nat.sub_self]; rfl
  · have la := J.la
    rw [List.getLast?_eq_getElem?] at la
    rw [List.getD_eq_getElem?_getD, List.getElem?_append_left (by omega), ← hl, la]; rfl
end LX

set_option Elab.async false
set_option maxRecDepth 100000
set_option maxHeartbeats 4000000
/-! LY: plain: kinds, counts, corners, generators and exponents tell one another. -/
namespace LY
open LO LC LG LW LW2 LX
/-- letters that end above 0 -/
def EO (ws : List Int) : Prop := ws = [] ∨ ∃ l, ws.getLast? = some l ∧ 0 < l
theorem EO.tail {l : Int} {ws : List Int} (h : EO (l :: ws)) : EO ws := by
  rcases h with h | ⟨m, e, h⟩
  · cases h
  · cases ws with
    | nil => exact .inl rfl
    | cons w ws =>
      rw [List.getLast?_cons_cons] at e
      exact .inr ⟨m, e, h⟩
theorem EO.ne {l : Int} {ws : List Int} (h : EO (l :: ws)) (hl : l ≤ 0) : ws ≠ [] := by
  rintro rfl
  rcases h with h | ⟨m, e, h⟩
  · cases h
  · have : l = m := by simpa using e
    omega
theorem wd_tail {ws : List Int} (h : Wd ws) : EO ws.tail := by
  rcases h with rfl | rfl | ⟨m, e, h⟩
  · exact .inl rfl
  · exact .inl rfl
  · cases ws with
    | nil => exact .inl rfl
    | cons w ws => exact EO.tail (.inr ⟨m, e, h⟩)
theorem trim_live : ∀ {ws : List Int}, EO ws → ws ≠ [] → (trim1 (nf true ws) ≠ [])
  | [], _, h => absurd rfl h
  | l :: ws, h, _ => by
    rw [nf]
    by_cases h1 : l = -1
    · rw [if_pos h1, trim1, if_neg (trim_live h.tail (h.ne (by omega)))]
      simp
    · rw [if_neg h1, if_pos rfl]
      by_cases h0 : l = 0
      · rw [if_pos h0, trim1, if_neg (trim_live h.tail (h.ne (by omega)))]
        simp
      · rw [if_neg h0, trim1]
        split <;> simp
theorem trim_pad : ∀ {ws : List Int} (fx : Bool), EO ws → ∃ m, nf fx ws = trim1 (nf fx ws) ++ List.replicate m 0
  | [], _, _ => ⟨0, rfl⟩
  | l :: ws, fx, h => by
    have key : ∀ f x, (x = 0 ∨ x = 1 ∨ x = -1) → (x = -1 → f = true) → ((f = true ∧ l ≤ 0) ∨ x = 0 ∨ x = 1) → (f = true ∧ l ≤ 0 ∨ f = false) → ∃ m, x :: nf f ws = trim1 (x :: nf f ws) ++ List.replicate m 0 := fun f x hx _ hc hd => by
      obtain ⟨m, e⟩ := trim_pad f h.tail
      rw [trim1]
      by_cases z : trim1 (nf f ws) = []
      · rw [if_pos z]
        rcases hd with ⟨rfl, hl⟩ | rfl
        · exact absurd z (trim_live h.tail (h.ne hl))
        · rw [z, List.nil_append] at e
          by_cases h1 : x = 1
          · rw [if_pos h1]
            exact ⟨m, by rw [e]; rfl⟩
          · rw [if_neg h1]
            have : x = 0 := by
              rcases hc with hc | hc | hc
              · exact absurd hc.1 (by decide)
              · exact hc
              · exact absurd hc h1
            exact ⟨m + 1, by rw [e, this]; rfl⟩
      · rw [if_neg z]
        exact ⟨m, by rw [List.cons_append, ← e]⟩
    rw [nf]
    by_cases h1 : l = -1
    · rw [if_pos h1]
      exact key true (-1) (.inr (.inr rfl)) (fun _ => rfl) (.inl ⟨rfl, by omega⟩) (.inl ⟨rfl, by omega⟩)
    · rw [if_neg h1]
      cases fx with
      | true =>
        rw [if_pos rfl]
        by_cases h0 : l = 0
        · rw [if_pos h0]
          exact key true 0 (.inl rfl) (fun z => absurd z (by decide)) (.inr (.inl rfl)) (.inl ⟨rfl, by omega⟩)
        · rw [if_neg h0]
          exact key false 1 (.inr (.inl rfl)) (fun z => absurd z (by decide)) (.inr (.inr rfl)) (.inr rfl)
      | false =>
        rw [if_neg (by decide)]
        exact key false 0 (.inl rfl) (fun z => absurd z (by decide)) (.inr (.inl rfl)) (.inr rfl)
theorem kind_eq (ws : List Int) : kindW ws = if trim1 (nf false ws.tail) = [] then [] else -1 :: trim1 (nf false ws.tail) := by
  cases ws with
  | nil => rfl
  | cons l t =>
    show trim1 (-1 :: nf false t) = _
    rw [trim1, if_neg (show ¬ (-1 : Int) = 1 by decide)]; rfl
/-! ### counts -/
theorem mn_step (x : Int) {s : Option Nat × Option Nat} {a : Nat} (h : s.1 = some a) : mn (stepO x s) = a := by
  obtain ⟨o, b⟩ := s
  have h : o = some a := h
  subst h
  unfold stepO
  split
  · cases b with
    | none => rfl
    | some b => show (if a < a + b then a else a + b) = a; split <;> omega
  · split
    · cases b with
      | none => rfl
      | some b => show (if a + b < a then a + b else a) = a; split <;> omega
    · show (if a < a then a else a) = a; split <;> rfl
theorem cnt_ord {ws : List Int} (h : Wd ws) (i : Nat) : (ord2 (ws.drop (i + 1))).1 = some (cnt ws i) := by
  by_cases hi : i < ws.length
  · have hd := h.dropN i
    unfold cnt
    rw [List.drop_eq_getElem_cons hi] at hd ⊢
    have := ord_first hd
    rw [Option.isSome_iff_exists] at this
    obtain ⟨a, e⟩ := this
    rw [ord2, mn_step _ e, e]
  · rw [cnt_out (by omega), List.drop_eq_nil_of_le (by omega)]; rfl
theorem drop_tail (ws : List Int) (i : Nat) : ws.tail.drop i = ws.drop (i + 1) := by
  cases ws with
  | nil => simp
  | cons l t => rfl
theorem drop_pad (ws : List Int) (n i : Nat) : ord2 ((ws ++ List.replicate n 0).drop i) = ord2 (ws.drop i) := by
  by_cases h : i ≤ ws.length
  · rw [List.drop_append_of_le_length h, ord_pad]
  · rw [List.drop_append, List.drop_eq_nil_of_le (show ws.length ≤ i by omega), List.nil_append, List.drop_replicate, ord_zeros]; rfl
theorem kinds_of_cnt {ws vs : List Int} (hw : Wd ws) (hv : Wd vs) (h : ∀ i, cnt ws i = cnt vs i) : kindW ws = kindW vs := by
  have e : nf false (ws.tail ++ List.replicate vs.tail.length 0) = nf false (vs.tail ++ List.replicate ws.tail.length 0) := by
    refine nf_same _ _ false (by rw [List.length_append, List.length_append, List.length_replicate, List.length_replicate]; omega) (fun i _ => ?_) (fun z => absurd z (by decide))
    rw [drop_pad, drop_pad, drop_tail, drop_tail, cnt_ord hw, cnt_ord hv, h i]
    exact ⟨rfl, rfl⟩
  have e := congrArg trim1 e
  rw [nf_pad, nf_pad, trim1_zeros, trim1_zeros] at e
  rw [kind_eq, kind_eq, e]
theorem cnt_of_ord {ws vs : List Int} (hw : Wd ws) (hv : Wd vs) (h : ∀ i, (ord2 (ws.tail.drop i)).1 = (ord2 (vs.tail.drop i)).1) (i : Nat) : cnt ws i = cnt vs i := by
  have := h i
  rw [drop_tail, drop_tail, cnt_ord hw, cnt_ord hv] at this
  simpa using this
theorem nf_drop : ∀ (ws : List Int) (fx : Bool) (i : Nat), ∃ f, (nf fx ws).drop i = nf f (ws.drop i)
  | [], fx, i => ⟨fx, by rw [nf]; simp [nf]⟩
  | l :: ws, fx, 0 => ⟨fx, rfl⟩
  | l :: ws, fx, i + 1 => by
    rw [nf]
    repeat' split
    · exact nf_drop ws true i
    · exact nf_drop ws true i
    · exact nf_drop ws false i
    · exact nf_drop ws false i
theorem ord_nf (ws : List Int) (fx : Bool) (i : Nat) : (ord2 ((nf fx ws).drop i)).1 = (ord2 (ws.drop i)).1 := by
  obtain ⟨f, e⟩ := nf_drop ws fx i
  rw [e]
  exact (nf_ord _ f).1
theorem ord_trim {ws : List Int} (fx : Bool) (h : EO ws) (i : Nat) : (ord2 ((trim1 (nf fx ws)).drop i)).1 = (ord2 (ws.drop i)).1 := by
  obtain ⟨m, e⟩ := trim_pad fx h
  rw [← ord_nf ws fx i]
  rw [e, drop_pad, ← e]
theorem trim_last : ∀ (xs : List Int), trim1 xs = [] ∨ (trim1 xs).getLast? = some 1
  | [] => .inl rfl
  | x :: xs => by
    rw [trim1]
    rcases trim_last xs with h | h
    · rw [if_pos h]
      by_cases e : x = 1
      · rw [if_pos e, e]; exact .inr rfl
      · rw [if_neg e]; exact .inl rfl
    · have : trim1 xs ≠ [] := fun e => by rw [e] at h; cases h
      rw [if_neg this]
      right
      cases q : trim1 xs with
      | nil => exact absurd q this
      | cons y ys => rw [q] at h; rw [List.getLast?_cons_cons]; exact h
theorem kind_wd (ws : List Int) : Wd (kindW ws) := by
  rcases trim_last (nw ws) with h | h
  · exact .inl h
  · exact .inr (.inr ⟨1, h, by decide⟩)
theorem kind_tail (ws : List Int) : (kindW ws).tail = trim1 (nf false ws.tail) := by
  rw [kind_eq]
  split
  · rename_i h; rw [h]; rfl
  · rfl
theorem kind_cnt {ws : List Int} (hw : Wd ws) (i : Nat) : cnt (kindW ws) i = cnt ws i := by
  refine cnt_of_ord (kind_wd ws) hw (fun i => ?_) i
  rw [kind_tail, ord_trim false (wd_tail hw)]
theorem kind_kind {ws : List Int} (hw : Wd ws) : kindW (kindW ws) = kindW ws := kinds_of_cnt (kind_wd ws) hw (kind_cnt hw)
theorem cnt_of_kinds {ws vs : List Int} (hw : Wd ws) (hv : Wd vs) (h : kindW ws = kindW vs) (i : Nat) : cnt ws i = cnt vs i := by
  rw [← kind_cnt hw, ← kind_cnt hv, h]
theorem nf_mem : ∀ (fx : Bool) (ws : List Int), ∀ x ∈ nf fx ws, x = -1 ∨ x = 0 ∨ x = 1
  | _, [], x, h => nomatch h
  | fx, l :: ws, x, h => by
    rw [nf] at h
    revert h
    repeat' split
    all_goals (intro h; rcases List.mem_cons.mp h with h | h)
    all_goals first | exact nf_mem _ ws x h | (subst h; simp)
theorem trim_len (xs : List Int) : (trim1 xs).length ≤ xs.length ∧ ∀ x ∈ trim1 xs, x ∈ xs := by
  obtain ⟨n, h1, h2, _⟩ := trim1_take xs
  rw [h2]
  exact ⟨by rw [List.length_take]; omega, fun x hx => List.mem_of_mem_take hx⟩
theorem kind_len (ws : List Int) : (kindW ws).length ≤ ws.length := by
  have := (trim_len (nw ws)).1
  rw [nw_len] at this
  exact this
theorem kind_mem (ws : List Int) : ∀ x ∈ kindW ws, x = -1 ∨ x = 0 ∨ x = 1 := fun x hx => by
  have hx := (trim_len (nw ws)).2 x hx
  cases ws with
  | nil => cases hx
  | cons l t =>
    rcases List.mem_cons.mp hx with h | h
    · exact .inl h
    · exact nf_mem _ _ x h
/-! ### corners -/
/-- whether the letter before place j hangs on a turn; zeros behind -/
def sf : Bool → List Int → Nat → Bool
  | fx, _, 0 => fx
  | fx, [], _ + 1 => fx
  | fx, l :: ws, j + 1 => sf (decide (l = -1) || (fx && decide (l = 0))) ws j
theorem sf_nil (fx : Bool) : ∀ j, sf fx [] j = fx
  | 0 => rfl
  | _ + 1 => rfl
theorem sf_step : ∀ (ws : List Int) (fx : Bool) (j : Nat), sf fx ws (j + 1) = (decide (ws.getD j 0 = -1) || (sf fx ws j && decide (ws.getD j 0 = 0)))
  | [], fx, j => by rw [sf_nil, sf_nil]; simp
  | l :: ws, fx, 0 => by
    show sf _ ws 0 = _
    cases ws <;> rfl
  | l :: ws, fx, j + 1 => sf_step ws _ j
theorem sf_zeros (fx : Bool) : ∀ n j, sf fx (List.replicate n 0) j = fx
  | 0, j => sf_nil fx j
  | n + 1, 0 => rfl
  | n + 1, j + 1 => by
    show sf (decide ((0 : Int) = -1) || (fx && decide ((0 : Int) = 0))) (List.replicate n 0) j = fx
    rw [sf_zeros]
    cases fx <;> rfl
theorem sf_pad : ∀ (ws : List Int) (fx : Bool) (n j : Nat), sf fx (ws ++ List.replicate n 0) j = sf fx ws j
  | [], fx, n, j => by rw [List.nil_append, sf_zeros, sf_nil]
  | l :: ws, fx, n, 0 => rfl
  | l :: ws, fx, n, j + 1 => sf_pad ws _ n j
theorem sf_nf : ∀ (ws : List Int) (fx : Bool) (j : Nat), sf fx (nf fx ws) j = sf fx ws j
  | [], _, _ => rfl
  | l :: ws, fx, 0 => by cases h : nf fx (l :: ws) <;> rfl
  | l :: ws, fx, j + 1 => by
    rw [nf]
    show _ = sf (decide (l = -1) || (fx && decide (l = 0))) ws j
    by_cases h1 : l = -1
    · rw [if_pos h1]
      show sf (decide ((-1 : Int) = -1) || (fx && decide ((-1 : Int) = 0))) (nf true ws) j = _
      rw [decide_eq_true h1]
      exact sf_nf ws true j
    · rw [if_neg h1, decide_eq_false h1]
      cases fx with
      | true =>
        rw [if_pos rfl]
        by_cases h0 : l = 0
        · rw [if_pos h0, decide_eq_true h0]
          exact sf_nf ws true j
        · rw [if_neg h0, decide_eq_false h0]
          exact sf_nf ws false j
      | false =>
        rw [if_neg (by decide)]
        exact sf_nf ws false j
theorem sf_end : ∀ {ws : List Int} (fx : Bool), EO ws → ws ≠ [] → ∀ j, ws.length ≤ j → sf fx ws j = false
  | [], _, _, h, _, _ => absurd rfl h
  | l :: ws, fx, h, _, j, hj => by
    obtain ⟨j, rfl⟩ : ∃ k, j = k + 1 := ⟨j - 1, by rw [List.length_cons] at hj; omega⟩
    show sf _ ws j = false
    by_cases z : ws = []
    · subst z
      have : ¬ l ≤ 0 := fun hl => h.ne hl rfl
      rw [sf_nil, decide_eq_false (by omega), decide_eq_false (by omega)]; simp
    · exact sf_end _ h.tail z j (by rw [List.length_cons] at hj; omega)
theorem crn_sf {l : Int} {t : List Int} (h : EO t) : ∀ j, Crn (l :: t) (j + 1) ↔ sf false t j = true
  | 0 => by
    refine ⟨fun ⟨k, h, _⟩ => by omega, fun h => ?_⟩
    cases t <;> cases h
  | j + 1 => by
    by_cases hj : j + 1 < (l :: t).length
    · rw [crn_succ hj, crn_sf h j, sf_step, Bool.or_eq_true, Bool.and_eq_true, decide_eq_true_eq, decide_eq_true_eq]
      show (t.getD j 0 = -1 ∧ 1 ≤ j + 1) ∨ (t.getD j 0 = 0 ∧ _) ↔ _
      constructor
      · rintro (⟨a, _⟩ | ⟨a, b⟩)
        · exact .inl a
        · exact .inr ⟨b, a⟩
      · rintro (a | ⟨a, b⟩)
        · exact .inl ⟨a, by omega⟩
        · exact .inr ⟨b, a⟩
    · refine ⟨fun ⟨k, _, h2, _⟩ => by omega, fun z => ?_⟩
      rw [List.length_cons] at hj
      by_cases e : t = []
      · subst e
        rw [sf_nil] at z
        cases z
      · rw [sf_end false h e (j + 1) (by omega)] at z
        cases z
theorem crn_tail {ws : List Int} (hw : Wd ws) (j : Nat) : Crn ws (j + 1) ↔ sf false ws.tail j = true := by
  cases ws with
  | nil =>
    refine ⟨fun ⟨k, h1, h2, _⟩ => ?_, fun h => ?_⟩
    · simp at h2
    · rw [List.tail_nil, sf_nil] at h; cases h
  | cons l t => exact crn_sf (wd_tail hw) j
theorem crn_of_kinds {ws vs : List Int} (hw : Wd ws) (hv : Wd vs) (h : kindW ws = kindW vs) (j : Nat) : Crn ws j ↔ Crn vs j := by
  cases j with
  | zero => exact ⟨fun z => absurd z (crn_0 _), fun z => absurd z (crn_0 _)⟩
  | succ j =>
    have e := congrArg List.tail h
    rw [kind_tail, kind_tail] at e
    obtain ⟨m, e1⟩ := trim_pad false (wd_tail hw)
    obtain ⟨n, e2⟩ := trim_pad false (wd_tail hv)
    have a1 : sf false ws.tail j = sf false (trim1 (nf false ws.tail)) j := by
      rw [← sf_nf ws.tail false j]
      conv => lhs; rw [e1, sf_pad]
    have a2 : sf false vs.tail j = sf false (trim1 (nf false vs.tail)) j := by
      rw [← sf_nf vs.tail false j]
      conv => lhs; rw [e2, sf_pad]
    rw [crn_tail hw, crn_tail hv, a1, a2, e]
/-! ### generators and exponents -/
theorem gst_same {ws vs : List Int} (h1 : ∀ i, cnt ws i = cnt vs i) (h2 : ∀ i, Crn ws i ↔ Crn vs i) : ∀ h, gst ws h = gst vs h
  | 0 => by rw [gst, gst, h1]
  | h + 1 => by
    rw [gst, gst, gst_same h1 h2 h, h1]
    by_cases c : Crn ws h ∧ ¬ Crn ws (h + 1)
    · rw [if_pos c, if_pos (by rw [← h2, ← h2]; exact c)]
    · rw [if_neg c, if_neg (by rw [← h2, ← h2]; exact c)]
theorem gst_out {ws : List Int} : ∀ n, (gst ws (ws.length + 1 + n)).1 = gensW ws
  | 0 => rfl
  | n + 1 => by
    show (gst ws (ws.length + 1 + n + 1)).1 = _
    rw [gst, if_neg (fun z => by
      obtain ⟨⟨k, _, h2, _⟩, _⟩ := z
      omega)]
    exact gst_out n
theorem gens_of_kinds {ws vs : List Int} (hw : Wd ws) (hv : Wd vs) (h : kindW ws = kindW vs) : gensW ws = gensW vs := by
  rw [← gst_out (ws := ws) vs.length, ← gst_out (ws := vs) ws.length, gst_same (cnt_of_kinds hw hv h) (crn_of_kinds hw hv h)]
  rw [show ws.length + 1 + vs.length = vs.length + 1 + ws.length by omega]
theorem cnt_told {ws : List Int} (hw : Wd ws) {x : Int} {g : List Int} (e : gensW ws = x :: g) (i : Nat) : ((cnt ws i : Nat) : Int) = (told x 0 g).getD i 1 := by
  obtain ⟨x', g', n, e', _, h, _⟩ := told_ok hw
  rw [e] at e'
  obtain ⟨rfl, rfl⟩ := List.cons.inj e'
  have hl := congrArg List.length h
  rw [cto_len, List.length_append, List.length_replicate] at hl
  by_cases hi : i < ws.length + 1
  · have h1 : (cto ws (ws.length + 1))[i]'(by rw [cto_len]; exact hi) = ((cnt ws i : Nat) : Int) := cto_get _
    rw [← h1]
    have h2 : (cto ws (ws.length + 1)).getD i 1 = (told x 0 g ++ List.replicate n 1).getD i 1 := by rw [h]
    rw [List.getD_eq_getElem?_getD, List.getElem?_eq_getElem (by rw [cto_len]; exact hi), Option.getD_some] at h2
    rw [h2, List.getD_eq_getElem?_getD, List.getD_eq_getElem?_getD, List.getElem?_append]
    split
    · rfl
    · rename_i hn
      rw [List.getElem?_eq_none (l := told x 0 g) (by omega), List.getElem?_replicate]
      split <;> rfl
  · rw [cnt_out (by omega), List.getD_eq_getElem?_getD, List.getElem?_eq_none (by omega)]; rfl
theorem cnt_of_gens {ws vs : List Int} (hw : Wd ws) (hv : Wd vs) (h : gensW ws = gensW vs) (i : Nat) : cnt ws i = cnt vs i := by
  obtain ⟨x, g, _, e, _⟩ := told_ok hw
  have a := cnt_told hw e i
  have b := cnt_told hv (h ▸ e) i
  rw [← b] at a
  exact Int.ofNat.inj a
/-- all tell one another -/
theorem kind_gens {ws vs : List Int} (hw : Wd ws) (hv : Wd vs) : kindW ws = kindW vs ↔ gensW ws = gensW vs :=
  ⟨gens_of_kinds hw hv, fun h => kinds_of_cnt hw hv (cnt_of_gens hw hv h)⟩
end LY

set_option Elab.async false
set_option maxRecDepth 100000
set_option maxHeartbeats 4000000
/-! L16: comprehensions with two fors over mapped lists. -/
namespace L3
open PySem PySem.Spec PyProof.Rows L2
theorem lcI_map {β : Type} {g : DG} {tt : DT} {te : DE} {vs : List Nat} {E : Env3} {G : Reg} (F W : β → D) (P : β → Prop)
    (step : ∀ b (Z : Prop) (k1 : D → Env3 → Reg → Prop) (k2 : Env3 → Reg → Prop), P b → Z → (∀ Ew, wipe3 Ew vs = E → k1 (W b) Ew G) →
      g (F b) E G fun E1 G1 => tt E1 G1 fun c E2 G2 => if c = true then te E2 G2 fun r E3 G3 => ∃ x E4, r.ice E3 = some (x, E4) ∧ Z ∧ k1 x E4 G3 else k2 E2 G2) :
    ∀ (l : List β) (acc : List D) (k : List D → Env3 → Reg → Prop), (∀ b ∈ l, P b) → acc.length + l.length ≤ sizeLine → k (acc ++ l.map W) E G → dLcI g tt te vs (l.map F) acc E G k
  | [], acc, k, _, _, h => by
    have h : k (acc ++ []) E G := h
    rw [List.append_nil] at h
    exact h
  | b :: l, acc, k, hp, hz, h => step b (acc.length < sizeLine) (fun x E4 G3 => dLcI g tt te vs (l.map F) (acc ++ [x]) (wipe3 E4 vs) G3 k) (fun E2 G2 => dLcI g tt te vs (l.map F) acc (wipe3 E2 vs) G2 k) (hp b List.mem_cons_self) (by rw [List.length_cons] at hz; omega) fun Ew w => by
      show dLcI g tt te vs (l.map F) (acc ++ [W b]) (wipe3 Ew vs) G k
      rw [w]
      refine lcI_map F W P step l _ k (fun z hz => hp z (List.mem_cons_of_mem _ hz)) ?_ ?_
      · rw [List.length_append]; rw [List.length_cons] at hz; show acc.length + 1 + l.length ≤ sizeLine; omega
      · rw [List.map_cons] at h
        rw [List.append_assoc]
        exact h
theorem lcO_map {α : Type} {g : DG} {tt : DT} {di1 : DI} {g1 : DG} {tt1 : DT} {te : DE} {vs vs1 : List Nat} {E : Env3} {G : Reg} (F : α → D) (W : α → List D) (P : α → Prop)
    (step : ∀ a acc (k1 : List D → Env3 → Reg → Prop) (k2 : Env3 → Reg → Prop), P a → acc.length + (W a).length ≤ sizeLine → (∀ E4, wipe3 E4 vs = E → k1 (acc ++ W a) E4 G) →
      g (F a) E G fun E1 G1 => tt E1 G1 fun b E2 G2 => if b = true then di1 E2 G2 fun es E3 G3 => dLcI g1 tt1 te vs1 es acc (wipe3 E3 vs1) G3 k1 else k2 E2 G2) :
    ∀ (l : List α) (acc : List D) (k : List D → Env3 → Reg → Prop), (∀ a ∈ l, P a) → acc.length + (l.flatMap W).length ≤ sizeLine → k (acc ++ l.flatMap W) E G → dLcO g tt di1 g1 tt1 te vs vs1 (l.map F) acc E G k
  | [], acc, k, _, _, h => by
    have h : k (acc ++ []) E G := h
    rw [List.append_nil] at h
    exact h
  | a :: l, acc, k, hp, hz, h => step a acc (fun acc' E4 G4 => dLcO g tt di1 g1 tt1 te vs vs1 (l.map F) acc' (wipe3 E4 vs) G4 k) (fun E2 G2 => dLcO g tt di1 g1 tt1 te vs vs1 (l.map F) acc (wipe3 E2 vs) G2 k) (hp a List.mem_cons_self) (by rw [List.flatMap_cons, List.length_append] at hz; omega) fun Ew w => by
      show dLcO g tt di1 g1 tt1 te vs vs1 (l.map F) (acc ++ W a) (wipe3 Ew vs) G k
      rw [w]
      rw [List.flatMap_cons, List.length_append] at hz
      refine lcO_map F W P step l _ k (fun z hz => hp z (List.mem_cons_of_mem _ hz)) ?_ ?_
      · rw [List.length_append]; omega
      · rw [List.flatMap_cons] at h
        rw [List.append_assoc]
        exact h
theorem rangeD_map (n : Nat) : rangeD 0 n = (List.range n).map fun (k : Nat) => D.int (k : Int) := by
  unfold rangeD
  exact List.map_congr_left fun k _ => by rw [Int.zero_add]
end L3

set_option Elab.async false
set_option maxRecDepth 100000
set_option maxHeartbeats 4000000
set_option exponentiation.threshold 2000
/-! LK: the kinds of branches. -/
namespace LK
open PySem PySem.Spec PyProof.Rows L2 L3 LD LN LP LO LB LC LF LV LW LW2 LX LY
open LM (ifTq ifFq)
local macro_rules | `(tactic| walk_at "ev") => `(tactic| repeat (first | refine lc_stop ?_ | refine for_stop ?_ | refine ⟨_, rfl, ?_⟩ | refine ⟨_, _, rfl, ?_⟩ | refine ⟨rfl, ?_⟩ | refine And.intro (by assumption) ?_ | refine ⟨by decide, ?_⟩ | refine ⟨ltL rfl, ?_⟩ | refine ⟨_, at0, ?_⟩ | refine ⟨_, at1, ?_⟩ | refine ⟨_, at2, ?_⟩ | refine ifT ?_ | refine ifF ?_ | refine ⟨_, _, _, rfl, ?_⟩ | refine ⟨⟨_, rfl⟩, ?_⟩ | refine ⟨_, _, _, _, rfl, ?_⟩))
/-! ### plain: forms -/
inductive Fm where
  | first | fixed | live | free
deriving DecidableEq
def tx : Fm → Str
  | .first => "first"
  | .fixed => "fixed"
  | .live => "not zero"
  | .free => "free"
def fmL (pv : Fm) (l : Int) : Fm := if l = -1 then .fixed else if pv = .fixed then (if l = 0 then .fixed else .live) else .free
def fms : Fm → List Int → List Fm
  | _, [] => []
  | pv, l :: ws => fmL pv l :: fms (fmL pv l) ws
def forms : List Int → List Fm
  | [] => []
  | _ :: t => .first :: fms .first t
def leastF : Fm → Int → Int
  | .first, _ => -1
  | .fixed, l => l
  | .live, _ => 1
  | .free, _ => 0
theorem fms_len : ∀ (pv : Fm) (ws : List Int), (fms pv ws).length = ws.length
  | _, [] => rfl
  | pv, l :: ws => by rw [fms, List.length_cons, List.length_cons, fms_len]
theorem forms_len (ws : List Int) : (forms ws).length = ws.length := by
  cases ws with
  | nil => rfl
  | cons l t => show (fms .first t).length + 1 = t.length + 1; rw [fms_len]
theorem fms_nf : ∀ (pv : Fm) (ws : List Int), List.zipWith leastF (fms pv ws) ws = nf (decide (pv = .fixed)) ws
  | _, [] => rfl
  | pv, l :: ws => by
    rw [fms, List.zipWith_cons_cons, fms_nf, nf]
    unfold fmL
    by_cases h1 : l = -1
    · rw [if_pos h1, if_pos h1, h1]; rfl
    · rw [if_neg h1, if_neg h1]
      by_cases h2 : pv = .fixed
      · rw [if_pos h2, decide_eq_true h2, if_pos rfl]
        by_cases h0 : l = 0
        · rw [if_pos h0, if_pos h0, h0]; rfl
        · rw [if_neg h0, if_neg h0]; rfl
      · rw [if_neg h2, decide_eq_false h2, if_neg (by decide)]; rfl
theorem forms_nw (ws : List Int) : List.zipWith leastF (forms ws) ws = nw ws := by
  cases ws with
  | nil => rfl
  | cons l t =>
    show leastF .first l :: List.zipWith leastF (fms .first t) t = -1 :: nf false t
    rw [fms_nf]; rfl
theorem fms_snoc : ∀ (ws : List Int) (pv : Fm) (l : Int), fms pv (ws ++ [l]) = fms pv ws ++ [fmL ((fms pv ws).getLast?.getD pv) l]
  | [], _, _ => rfl
  | w :: ws, pv, l => by
    rw [List.cons_append, fms, fms, fms_snoc ws, List.cons_append]
    cases q : fms (fmL pv w) ws with
    | nil => rfl
    | cons a r => rw [List.getLast?_cons_cons]; cases hq : (a :: r).getLast? with
      | none => simp at hq
      | some z => rfl
theorem forms_snoc {ws : List Int} (h : ws ≠ []) (l : Int) : ∃ pv, (forms ws).getLast? = some pv ∧ forms (ws ++ [l]) = forms ws ++ [fmL pv l] := by
  cases ws with
  | nil => exact absurd rfl h
  | cons w t =>
    show ∃ pv, (Fm.first :: fms .first t).getLast? = some pv ∧ Fm.first :: fms .first (t ++ [l]) = Fm.first :: fms .first t ++ [fmL pv l]
    rw [fms_snoc]
    cases q : fms .first t with
    | nil => exact ⟨_, rfl, rfl⟩
    | cons a r =>
      rw [List.getLast?_cons_cons]
      cases hq : (a :: r).getLast? with
      | none => simp at hq
      | some z => exact ⟨z, rfl, rfl⟩
theorem fms_live : ∀ (pv : Fm) (ws : List Int) (i : Nat), (fms pv ws)[i]? = some .live ↔ (nf (decide (pv = .fixed)) ws).getD i 0 = 1
  | _, [], i => by simp [fms, nf]
  | pv, l :: ws, i => by
    rw [fms, nf]
    cases i with
    | zero =>
      unfold fmL
      by_cases h1 : l = -1
      · rw [if_pos h1, if_pos h1]; simp
      · rw [if_neg h1, if_neg h1]
        by_cases h2 : pv = .fixed
        · rw [if_pos h2, decide_eq_true h2, if_pos rfl]
          by_cases h0 : l = 0
          · rw [if_pos h0, if_pos h0]; simp
          · rw [if_neg h0, if_neg h0]; simp
        · rw [if_neg h2, decide_eq_false h2, if_neg (by decide)]; simp
    | succ i =>
      have ih := fms_live (fmL pv l) ws i
      rw [List.getElem?_cons_succ, ih]
      unfold fmL
      by_cases h1 : l = -1
      · rw [if_pos h1, if_pos h1]; simp
      · rw [if_neg h1, if_neg h1]
        by_cases h2 : pv = .fixed
        · rw [if_pos h2, decide_eq_true h2, if_pos rfl]
          by_cases h0 : l = 0
          · rw [if_pos h0, if_pos h0]; simp
          · rw [if_neg h0, if_neg h0]; simp
        · rw [if_neg h2, decide_eq_false h2, if_neg (by decide)]; simp
theorem forms_live (ws : List Int) (i : Nat) : (forms ws)[i]? = some .live ↔ (nw ws).getD i 0 = 1 := by
  cases ws with
  | nil => simp [forms, nw]
  | cons l t =>
    show (Fm.first :: fms .first t)[i]? = some .live ↔ (-1 :: nf false t).getD i 0 = 1
    cases i with
    | zero => simp
    | succ i => rw [List.getElem?_cons_succ, fms_live]; rfl
theorem eqv_tx (a b : Fm) : D.eqv (.str (tx a)) (.str (tx b)) = decide (a = b) := by cases a <;> cases b <;> decide +kernel
theorem sh_tx (a : Fm) : (D.str (tx a)).sh = true := by cases a <;> exact shC_of (by decide +kernel)
/-! ### promises -/
def sp_forms_of : DSp := fun ds G q _ => ∃ ws : List Int, ds = [pt ws] ∧ ws.length ≤ 1000 ∧ q (.fr ((forms ws).map fun f => D.str (tx f))) G
def sp_least_letter : DSp := fun ds G q _ => ∃ (f : Fm) (l : Int), ds = [.str (tx f), .int l] ∧ q (.val (.int (leastF f l))) G
def sp_kind_in : DSp := fun ds G q _ => ∃ ws : List Int, ds = [pt ws] ∧ ws.length ≤ 1000 ∧ q (.val (pt (kindW ws))) G
def sp_kind_of : DSp := fun ds G q _ => ∃ (p : Int) (ws : List Int) (s : Str), ds = [br p ws s] ∧ ws.length ≤ 1000 ∧ q (.val (pt (kindW ws))) G
abbrev sp_require_branch_words : DSp := LB.sp_require_branch
theorem len_forms_of : ∀ ds G q e, sp_forms_of ds G q e → ds.length = 1 := fun ds G q e ⟨_, h, _⟩ => by rw [h]; rfl
theorem len_least_letter : ∀ ds G q e, sp_least_letter ds G q e → ds.length = 2 := fun ds G q e ⟨_, _, h, _⟩ => by rw [h]; rfl
theorem len_kind_in : ∀ ds G q e, sp_kind_in ds G q e → ds.length = 1 := fun ds G q e ⟨_, h, _⟩ => by rw [h]; rfl
theorem len_kind_of : ∀ ds G q e, sp_kind_of ds G q e → ds.length = 1 := fun ds G q e ⟨_, _, _, h, _⟩ => by rw [h]; rfl
def t_forms_of (dw : Exc3 → Reg → Prop) : DSt :=
  (dSeq (dSet 1 (dLst dNil))
    (dSeq (dFor (dEnumA (dCons (dVar 0) dNil)) (gTp 2 (gsCons (gNm 2) (gsCons (gNm 3) gsNil))) (dIfS (dTest (dOp oEq (dVar 2) (dC (.int (0))))) (dDrop (dApp 1 (dC (.str "first")))) (dIfS (dTest (dOp oEq (dVar 3) (dC (.int (-1))))) (dDrop (dApp 1 (dC (.str "fixed")))) (dIfS (dTest (dOp oEq (dOp oIx (dVar 1) (dUn uNeg (dC (.int (1))))) (dC (.str "fixed")))) (dDrop (dApp 1 (dIf (dTest (dOp oEq (dVar 3) (dC (.int (0))))) (dC (.str "fixed")) (dC (.str "not zero"))))) (dDrop (dApp 1 (dC (.str "free"))))))))
    (dRet (dVar 1))))
def t_least_letter (dw : Exc3 → Reg → Prop) : DSt :=
  (dSeq (dIfS (dTest (dOp oEq (dVar 0) (dC (.str "first")))) (dRet (dC (.int (-1)))) dNext)
    (dSeq (dIfS (dTest (dOp oEq (dVar 0) (dC (.str "fixed")))) (dRet (dVar 1)) dNext)
    (dRet (dIf (dTest (dOp oEq (dVar 0) (dC (.str "not zero")))) (dC (.int (1))) (dC (.int (0)))))))
def t_kind_in (dw : Exc3 → Reg → Prop) : DSt :=
  (dSeq (dSet 1 (dCall sp_forms_of (fun x _ G => dw x G) (dCons (dVar 0) dNil)))
    (dSeq (dSet 2 (dCB bLen (dPCons (dVar 1) dNil)))
    (dSeq (dWhile (dAnd (dTest (dOp oGt (dVar 2) (dC (.int (0))))) (dTest (dOp oNe (dOp oIx (dVar 1) (dOp oSub (dVar 2) (dC (.int (1))))) (dC (.str "not zero"))))) (dAug 2 oSub (dC (.int (1)))))
    (dRet (dCB bTuple (dPCons (dLc (dZipN (dCons (dSl oSl (dVar 1) dNoPart (dPart (dVar 2))) (dCons (dVar 0) dNil))) (gTp 2 (gsCons (gNm 3) (gsCons (gNm 4) gsNil))) dYes (dCall sp_least_letter dw0 (dCons (dVar 3) (dCons (dVar 4) dNil))) [3, 4]) dNil))))))
def t_kind_of (dw : Exc3 → Reg → Prop) : DSt :=
  (dSeq (dDrop (dCall sp_require_branch_words (fun x _ G => dw x G) (dCons (dVar 0) dNil)))
    (dRet (dCall sp_kind_in (fun x _ G => dw x G) (dCons (dAttr [("Branch", 2)] (dVar 0)) dNil))))
theorem enum_pt : ∀ (ws : List Int) (k : Nat), enumFrom k (ws.map D.int) = (ws.zipIdx k).map fun p => D.tup [.int ((p.2 : Nat) : Int), .int p.1]
  | [], _ => rfl
  | w :: ws, k => by rw [List.map_cons, List.zipIdx_cons, List.map_cons, ← enum_pt ws (k + 1)]; rfl
theorem p_forms_of (N : List Str) (hN : N.length = 4) : ∀ ds G q dw, sp_forms_of ds G q dw → t_forms_of dw { nx := fun _ G' => q (.val .non) G', rt := q } (start3 N ds) G := by
  intro ds G q dw h
  unfold t_forms_of start3
  rw [hN]
  obtain ⟨ws, rfl, hl, h⟩ := h
  have hS := sizeLine_eq
  walk_at "ev"
  rw [enum_pt]
  refine .go ?_
  refine for_ind (fun ds E G2 => G2 = G ∧ ∃ (done rest : List Int) (s2 s3 : Sl3), ws = done ++ rest ∧ ds = (rest.zipIdx done.length).map (fun p => D.tup [.int ((p.2 : Nat) : Int), .int p.1]) ∧ E = [.val (pt ws), .own ((forms done).map fun f => D.str (tx f)), s2, s3]) (fun E G2 hI => ?_) (fun d ds E G2 nx hI hn => ?_) _ _ _ ⟨rfl, [], ws, _, _, rfl, rfl, rfl⟩
  · obtain ⟨rfl, done, rest, s2, s3, e, e2, rfl⟩ := hI
    have : rest = [] := by
      cases rest with
      | nil => rfl
      | cons r rs => rw [List.zipIdx_cons] at e2; cases e2
    subst this
    rw [List.append_nil] at e
    subst e
    walk_at "ev"
    exact h
  · obtain ⟨rfl, done, rest, s2, s3, e, e2, rfl⟩ := hI
    cases rest with
    | nil => cases e2
    | cons l rest =>
      rw [List.zipIdx_cons] at e2
      obtain ⟨e3, e4⟩ := List.cons.inj e2
      subst e3 e4
      clear h e2
      have hdl : done.length ≤ 1000 := by
        have := congrArg List.length e
        rw [List.length_append] at this
        omega
      have hnx : ∀ f, forms (done ++ [l]) = forms done ++ [f] → ∀ s2 s3, nx [.val (pt ws), .own ((forms done).map (fun f => D.str (tx f)) ++ [.str (tx f)]), s2, s3] G2 := fun f hf s2 s3 => hn _ _ ⟨rfl, done ++ [l], rest, s2, s3, by rw [e]; simp, by rw [List.length_append]; rfl, by rw [hf, List.map_append]; rfl⟩
      clear hn
      have hsz : ((forms done).map fun f => D.str (tx f)).length + 1 ≤ sizeLine := by rw [List.length_map, forms_len, hS]; omega
      walk_at "ev"
      by_cases hd : done = []
      · subst hd
        walk_at "ev"
        exact hnx .first rfl _ _
      obtain ⟨pv, hla, hsn⟩ := forms_snoc hd l
      have hnx := hnx _ hsn
      have hdp : 0 < done.length := List.length_pos_iff.mpr hd
      refine ifFq (by show D.eqv (.int ((done.length : Nat) : Int)) (.int 0) = false; rw [eqv_int]; exact decide_eq_false (by omega)) ?_
      walk_at "ev"
      refine ifE (fun z => ?_) (fun z => ?_)
      · have z : l = -1 := z
        have hf : fmL pv l = .fixed := if_pos z
        rw [hf] at hnx
        walk_at "ev"
        exact hnx _ _
      have z : l ≠ -1 := z
      walk_at "ev"
      refine ⟨_, LG.atm1 (show ((forms done).map fun f => D.str (tx f)).getLast? = some (D.str (tx pv)) by rw [List.getLast?_map, hla]; rfl), ?_⟩
      walk_at "ev"
      refine ⟨sh_tx pv, sh_tx .fixed, ?_⟩
      walk_at "ev"
      refine ifQ (eqv_tx pv .fixed) (fun y => ?_) (fun y => ?_)
      · walk_at "ev"
        refine ifE (fun w => ?_) (fun w => ?_)
        · have w : l = 0 := w
          have hf : fmL pv l = .fixed := by unfold fmL; rw [if_neg z, if_pos y, if_pos w]
          rw [hf] at hnx
          walk_at "ev"
          exact hnx _ _
        · have w : l ≠ 0 := w
          have hf : fmL pv l = .live := by unfold fmL; rw [if_neg z, if_pos y, if_neg w]
          rw [hf] at hnx
          walk_at "ev"
          exact hnx _ _
      · have hf : fmL pv l = .free := by unfold fmL; rw [if_neg z, if_neg y]
        rw [hf] at hnx
        walk_at "ev"
        exact hnx _ _
theorem p_least_letter (N : List Str) (hN : N.length = 2) : ∀ ds G q dw, sp_least_letter ds G q dw → t_least_letter dw { nx := fun _ G' => q (.val .non) G', rt := q } (start3 N ds) G := by
  intro ds G q dw h
  unfold t_least_letter start3
  rw [hN]
  obtain ⟨f, l, rfl, h⟩ := h
  walk_at "ev"
  refine ⟨sh_tx f, sh_tx .first, ?_⟩
  walk_at "ev"
  refine ifQ (eqv_tx f .first) (fun y => ?_) (fun y => ?_)
  · subst y
    walk_at "ev"
    exact h
  walk_at "ev"
  refine ⟨sh_tx f, sh_tx .fixed, ?_⟩
  walk_at "ev"
  refine ifQ (eqv_tx f .fixed) (fun y => ?_) (fun y => ?_)
  · subst y
    walk_at "ev"
    exact h
  walk_at "ev"
  refine ⟨sh_tx f, sh_tx .live, ?_⟩
  walk_at "ev"
  refine ifQ (eqv_tx f .live) (fun y => ?_) (fun y => ?_)
  · subst y
    walk_at "ev"
    exact h
  · have : f = .free := by cases f <;> simp_all
    subst this
    walk_at "ev"
    exact h
theorem zip_forms : ∀ (fs : List Fm) (ws : List Int), zipN [fs.map (fun f => D.str (tx f)), ws.map D.int] = (fs.zip ws).map fun p => D.tup [.str (tx p.1), .int p.2]
  | [], ws => by unfold zipN minLen minLen; simp
  | f :: fs, [] => by unfold zipN minLen minLen; simp
  | f :: fs, w :: ws => by rw [List.map_cons, List.map_cons, LM.zip2_cons, zip_forms fs ws]; rfl
def lsF : D → Option D
  | .tup [.str s, .int l] => some (.int (if s = tx .first then -1 else if s = tx .fixed then l else if s = tx .live then 1 else 0))
  | _ => none
theorem lsF_tx (f : Fm) (l : Int) : lsF (.tup [.str (tx f), .int l]) = some (.int (leastF f l)) := by
  unfold lsF
  cases f <;> rfl
theorem zipWith_fg : ∀ (fs : List Fm) (ws : List Int), List.zipWith leastF fs ws = (fs.zip ws).map fun p => leastF p.1 p.2
  | [], ws => by simp
  | f :: fs, [] => by simp
  | f :: fs, w :: ws => by rw [List.zipWith_cons_cons, zipWith_fg fs ws]; rfl
theorem zip_take : ∀ (n : Nat) (fs : List Fm) (ws : List Int), List.zipWith leastF (fs.take n) ws = (List.zipWith leastF fs ws).take n
  | 0, fs, ws => by simp
  | n + 1, [], ws => by simp
  | n + 1, f :: fs, [] => by simp
  | n + 1, f :: fs, w :: ws => by rw [List.take_succ_cons, List.zipWith_cons_cons, List.zipWith_cons_cons, List.take_succ_cons, zip_take n fs ws]
theorem kind_zip (ws : List Int) {n : Nat} (hn : trim1 (nw ws) = (nw ws).take n) : (((forms ws).take n).zip ws).map (fun p => leastF p.1 p.2) = kindW ws := by
  unfold kindW
  rw [hn, ← forms_nw, ← zip_take, zipWith_fg]
theorem ls_fm : ∀ (l : List (Fm × Int)), (l.map fun p => D.tup [.str (tx p.1), .int p.2]).filterMap lsF = (l.map fun p => leastF p.1 p.2).map D.int
  | [] => rfl
  | p :: l => by rw [List.map_cons, List.filterMap_cons, lsF_tx, ls_fm l]; rfl
theorem at_gen {α : Type} {xs : List α} {j : Nat} (h : j < xs.length) : atI xs ((j : Nat) : Int) = some xs[j] := by
  unfold atI
  rw [ix_nat h]
  exact List.getElem?_eq_getElem h
theorem kind_end {Dn : Ends3} {ws : List Int} {G : Reg} {n : Nat} (hl : ws.length ≤ 1000) (hn : trim1 (nw ws) = (nw ws).take n) (h : Dn.rt (.val (pt (kindW ws))) G) :
    dRet (dCB bTuple (dPCons (dLc (dZipN (dCons (dSl oSl (dVar 1) dNoPart (dPart (dVar 2))) (dCons (dVar 0) dNil))) (gTp 2 (gsCons (gNm 3) (gsCons (gNm 4) gsNil))) dYes (dCall sp_least_letter dw0 (dCons (dVar 3) (dCons (dVar 4) dNil))) [3, 4]) dNil)) Dn
      [.val (pt ws), .own ((forms ws).map fun f => D.str (tx f)), .val (.int (n : Int)), .no, .no] G := by
  have hS := sizeLine_eq
  have hk := kind_zip ws hn
  walk_at "ev"
  refine ⟨.inl rfl, ?_⟩
  rw [cut_to, ← List.map_take, zip_forms]
  refine ⟨by rw [List.length_map, List.length_zip, List.length_take, hS]; omega, ?_⟩
  refine lc_pure0 (fun d => ∃ (f : Fm) (l : Int), d = .tup [.str (tx f), .int l]) lsF (fun d k1 k2 hd e1 e2 => ?_) (fun d hd => ?_) ?_
  · obtain ⟨f, l, rfl⟩ := hd
    clear h
    walk_at "ev"
    exact e1 _ _ (lsF_tx f l) rfl
  · obtain ⟨p, _, rfl⟩ := List.mem_map.mp hd
    exact ⟨p.1, p.2, rfl⟩
  rw [ls_fm, hk]
  walk_at "ev"
  exact h
theorem p_kind_in (N : List Str) (hN : N.length = 5) : ∀ ds G q dw, sp_kind_in ds G q dw → t_kind_in dw { nx := fun _ G' => q (.val .non) G', rt := q } (start3 N ds) G := by
  intro ds G q dw h
  unfold t_kind_in start3
  rw [hN]
  obtain ⟨ws, rfl, hl, h⟩ := h
  have hS := sizeLine_eq
  obtain ⟨n, n1, n2, n3, n4⟩ := trim1_take (nw ws)
  rw [nw_len] at n1
  walk_at "ev"
  rw [List.length_map, forms_len]
  refine ⟨ws.length + 1, ?_⟩
  refine wh_ind (fun m E G' => G' = G ∧ ∃ k : Nat, n ≤ k ∧ k ≤ ws.length ∧ k ≤ m ∧ E = [.val (pt ws), .own ((forms ws).map fun f => D.str (tx f)), .val (.int (k : Int)), .no, .no]) (fun m E G1 nx hI hn => ?_) _ _ _ ⟨rfl, ws.length, n1, Nat.le_refl _, Nat.le_refl _, rfl⟩
  obtain ⟨rfl, k, k1, k2, k3, rfl⟩ := hI
  walk_at "ev"
  refine ifD (fun z => ?_) (fun z => ?_)
  · have z : (0 : Int) < (k : Int) := z
    obtain ⟨j, rfl⟩ : ∃ j, k = j + 1 := ⟨k - 1, by omega⟩
    have hj : j < (forms ws).length := by rw [forms_len]; omega
    have hat : atI ((forms ws).map fun f => D.str (tx f)) (((j + 1 : Nat) : Int) - 1) = some (.str (tx (forms ws)[j])) := by
      rw [show ((j + 1 : Nat) : Int) - 1 = (j : Int) by omega]
      rw [at_gen (by rw [List.length_map]; exact hj), List.getElem_map]
    have hlv := forms_live ws j
    rw [List.getElem?_eq_getElem hj] at hlv
    generalize (forms ws)[j] = f at hat hlv
    walk_at "ev"
    refine ⟨_, hat, ?_⟩
    walk_at "ev"
    refine ⟨sh_tx f, sh_tx .live, ?_⟩
    walk_at "ev"
    rw [show D.str (Str.ofString "not zero") = .str (tx .live) from rfl, eqv_tx]
    by_cases hf : f = .live
    · have h1 := hlv.mp (by rw [hf])
      have : n = j + 1 := by
        by_cases y : n ≤ j
        · exact absurd h1 (n4 j y)
        · omega
      subst this
      rw [decide_eq_true hf]
      exact kind_end hl n2 h
    · have hlt : n ≤ j := by
        by_cases y : n = j + 1
        · rcases n3 with n3 | n3
          · omega
          · rw [y, Nat.add_sub_cancel] at n3
            exact absurd (Option.some.inj (hlv.mpr n3)) hf
        · omega
      rw [decide_eq_false hf]
      walk_at "ev"
      refine hn _ _ (m - 1) (by omega) ⟨rfl, j, hlt, by omega, by omega, ?_⟩
      rw [show ((j + 1 : Nat) : Int) - 1 = (j : Int) by omega]; rfl
  · have z : ¬ (0 : Int) < (k : Int) := z
    have : k = n := by omega
    subst this
    exact kind_end hl n2 h
theorem p_kind_of (N : List Str) (hN : N.length = 1) : ∀ ds G q dw, sp_kind_of ds G q dw → t_kind_of dw { nx := fun _ G' => q (.val .non) G', rt := q } (start3 N ds) G := by
  intro ds G q dw h
  unfold t_kind_of start3
  rw [hN]
  obtain ⟨p, ws, s, rfl, hl, h⟩ := h
  walk_at "ev"
  exact h
end LK

set_option Elab.async false
set_option maxRecDepth 100000
set_option maxHeartbeats 4000000
/-! K47: plain: the words of a kind, letter by letter. -/
namespace K47
open LO LC LG LW LW2 LX LY LK
open K11 (lets grow)
/-- what a form lets -/
def letF (p : Nat) : Fm → Int → List Int
  | .first, _ => lets (-1) (p + 1)
  | .fixed, l => [l]
  | .live, _ => lets 1 (p - 1)
  | .free, _ => lets 0 p
def lenF (p : Nat) : Fm → Nat
  | .first => p + 1
  | .fixed => 1
  | .live => p - 1
  | .free => p
theorem mem_lets {a : Int} {n : Nat} {x : Int} : x ∈ lets a n ↔ a ≤ x ∧ x < a + n := by
  unfold lets
  rw [List.mem_map]
  constructor
  · rintro ⟨k, hk, rfl⟩
    have := List.mem_range.mp hk
    omega
  · rintro ⟨h1, h2⟩
    exact ⟨(x - a).toNat, List.mem_range.mpr (by omega), by omega⟩
theorem len_lets (a : Int) (n : Nat) : (lets a n).length = n := by unfold lets; rw [List.length_map, List.length_range]
theorem pw_lets (a : Int) (n : Nat) : (lets a n).Pairwise (· < ·) := by
  unfold lets
  rw [List.pairwise_map]
  exact List.Pairwise.imp (fun {x y} h => by omega) List.pairwise_lt_range
theorem len_letF {p : Nat} (f : Fm) (l : Int) : (letF p f l).length = lenF p f := by
  cases f with
  | fixed => rfl
  | _ => exact len_lets _ _
theorem pw_letF (p : Nat) (f : Fm) (l : Int) : (letF p f l).Pairwise (· < ·) := by
  cases f with
  | fixed => exact List.pairwise_singleton _ _
  | _ => exact pw_lets _ _
/-- a word letter by letter -/
def Fits : List Int → List (List Int) → Prop
  | [], [] => True
  | l :: v, r :: rs => l ∈ r ∧ Fits v rs
  | _, _ => False
theorem fits_len : ∀ {v : List Int} {rs : List (List Int)}, Fits v rs → v.length = rs.length
  | [], [], _ => rfl
  | _ :: v, _ :: rs, h => by rw [List.length_cons, List.length_cons, fits_len h.2]
  | [], _ :: _, h => h.elim
  | _ :: _, [], h => h.elim
theorem fits_snoc : ∀ {v : List Int} {rs : List (List Int)} {l : Int} {r : List Int}, Fits (v ++ [l]) (rs ++ [r]) ↔ Fits v rs ∧ l ∈ r
  | [], [], l, r => ⟨fun h => ⟨trivial, h.1⟩, fun h => ⟨h.2, trivial⟩⟩
  | [], [_], l, r => ⟨fun h => h.2.elim, fun h => h.1.elim⟩
  | [], _ :: _ :: _, l, r => ⟨fun h => h.2.elim, fun h => h.1.elim⟩
  | [_], [], l, r => ⟨fun h => h.2.elim, fun h => h.1.elim⟩
  | _ :: _ :: _, [], l, r => ⟨fun h => h.2.elim, fun h => h.1.elim⟩
  | a :: v, b :: rs, l, r => by
    show (a ∈ b ∧ Fits (v ++ [l]) (rs ++ [r])) ↔ (a ∈ b ∧ Fits v rs) ∧ l ∈ r
    rw [fits_snoc, and_assoc]
def growN (W : List (List Int)) (r : List Int) : List (List Int) := if r = [] then W else grow r W
def prods (rs : List (List Int)) : List (List Int) := rs.foldl growN [[]]
theorem prods_snoc (rs : List (List Int)) (r : List Int) : prods (rs ++ [r]) = growN (prods rs) r := by
  unfold prods; rw [List.foldl_append]; rfl
theorem mem_grow {r : List Int} {W : List (List Int)} {x : List Int} : x ∈ grow r W ↔ ∃ w ∈ W, ∃ l ∈ r, x = w ++ [l] := by
  unfold grow
  rw [List.mem_flatMap]
  constructor
  · rintro ⟨w, hw, h⟩
    obtain ⟨l, hl, rfl⟩ := List.mem_map.mp h
    exact ⟨w, hw, l, hl, rfl⟩
  · rintro ⟨w, hw, l, hl, rfl⟩
    exact ⟨w, hw, List.mem_map.mpr ⟨l, hl, rfl⟩⟩
theorem rev_indL {α : Type} {P : List α → Prop} (h0 : P []) (hs : ∀ ws l, P ws → P (ws ++ [l])) (ws : List α) : P ws := by
  have : ∀ vs : List α, P vs.reverse := by
    intro vs
    induction vs with
    | nil => exact h0
    | cons a r ih => rw [List.reverse_cons]; exact hs _ _ ih
  have q := this ws.reverse
  rwa [List.reverse_reverse] at q
theorem snoc_of {α : Type} {xs : List α} {n : Nat} (h : xs.length = n + 1) : ∃ ys y, xs = ys ++ [y] ∧ ys.length = n := by
  have hn : xs ≠ [] := fun e => by rw [e] at h; cases h
  refine ⟨xs.dropLast, xs.getLast hn, (List.dropLast_concat_getLast hn).symm, by rw [List.length_dropLast, h]; rfl⟩
theorem mem_prods (rs : List (List Int)) : (∀ r ∈ rs, r ≠ []) → ∀ x, x ∈ prods rs ↔ Fits x rs := by
  refine rev_indL (P := fun rs => (∀ r ∈ rs, r ≠ []) → ∀ x, x ∈ prods rs ↔ Fits x rs) (fun _ x => ?_) (fun rs r ih h x => ?_) rs
  · show x ∈ [[]] ↔ _
    rw [List.mem_singleton]
    cases x with
    | nil => exact ⟨fun _ => trivial, fun _ => rfl⟩
    | cons a x => exact ⟨fun h => (nomatch h), fun h => h.elim⟩
  · rw [prods_snoc, growN, if_neg (h r (by simp)), mem_grow]
    have ih := ih fun r hr => h r (List.mem_append.mpr (.inl hr))
    constructor
    · rintro ⟨w, hw, l, hl, rfl⟩
      exact fits_snoc.mpr ⟨(ih w).mp hw, hl⟩
    · intro hx
      have hl := fits_len hx
      rw [List.length_append, List.length_singleton] at hl
      obtain ⟨w, l, rfl, _⟩ := snoc_of hl
      obtain ⟨h1, h2⟩ := fits_snoc.mp hx
      exact ⟨w, (ih w).mpr h1, l, h2, rfl⟩
theorem pw_grow {r : List Int} {W : List (List Int)} {m : Nat} (hr : r.Pairwise (· < ·)) (hm : ∀ w ∈ W, w.length = m) (hW : W.Pairwise (· < ·)) : (grow r W).Pairwise (· < ·) := by
  unfold grow
  rw [List.pairwise_flatMap]
  refine ⟨fun w _ => ?_, List.Pairwise.imp_of_mem (fun {a b} ha hb h x hx y hy => ?_) hW⟩
  · rw [List.pairwise_map]
    exact hr.imp fun h => List.append_left_lt (K11.one_lt h)
  · obtain ⟨l, _, rfl⟩ := List.mem_map.mp hx
    obtain ⟨k, _, rfl⟩ := List.mem_map.mp hy
    exact K11.app_lt _ _ (by rw [hm a ha, hm b hb]) h
theorem pw_prods (rs : List (List Int)) : (∀ r ∈ rs, r ≠ [] ∧ r.Pairwise (· < ·)) → (prods rs).Pairwise (· < ·) := by
  refine rev_indL (P := fun rs => (∀ r ∈ rs, r ≠ [] ∧ r.Pairwise (· < ·)) → (prods rs).Pairwise (· < ·)) (fun _ => List.pairwise_singleton _ _) (fun rs r ih h => ?_) rs
  have h' := fun x hx => h x (List.mem_append.mpr (.inl hx))
  have hr := h r (by simp)
  rw [prods_snoc, growN, if_neg hr.1]
  exact pw_grow hr.2 (fun w hw => fits_len ((mem_prods rs (fun r hr => (h' r hr).1) w).mp hw)) (ih h')
def lens (rs : List (List Int)) : Nat := rs.foldl (fun n r => n * r.length) 1
theorem lens_snoc (rs : List (List Int)) (r : List Int) : lens (rs ++ [r]) = lens rs * r.length := by
  unfold lens; rw [List.foldl_append]; rfl
theorem len_grow (r : List Int) : ∀ W : List (List Int), (grow r W).length = W.length * r.length
  | [] => by rw [List.length_nil, Nat.zero_mul]; rfl
  | w :: W => by
    have : grow r (w :: W) = grow r [w] ++ grow r W := K11.grow_app r [w] W
    rw [this, List.length_append, len_grow r W, K11.grow_one, List.length_map, List.length_cons, Nat.add_mul, Nat.one_mul, Nat.add_comm]
theorem len_prods (rs : List (List Int)) : (∀ r ∈ rs, r ≠ []) → (prods rs).length = lens rs := by
  refine rev_indL (P := fun rs => (∀ r ∈ rs, r ≠ []) → (prods rs).length = lens rs) (fun _ => rfl) (fun rs r ih h => ?_) rs
  rw [prods_snoc, growN, if_neg (h r (by simp)), len_grow, lens_snoc, ih fun r hr => h r (List.mem_append.mpr (.inl hr))]
/-! ### forms let just the words with the same least letters -/
theorem fits_nf {p : Nat} (hp : 2 ≤ p) : ∀ (X w : List Int) (pv : Fm) (fx : Bool), pv ≠ .fixed ∧ fx = false ∨ pv = .fixed ∧ fx = true → nf fx X = X →
    (Fits w (List.zipWith (letF p) (fms pv X) X) ↔ nf fx w = X ∧ ∀ x ∈ w, -1 ≤ x ∧ x < p)
  | [], [], pv, fx, _, _ => ⟨fun _ => ⟨rfl, fun x h => (nomatch h)⟩, fun _ => trivial⟩
  | [], l :: w, pv, fx, _, _ => ⟨fun h => h.elim, fun h => by
      have := congrArg List.length h.1
      rw [nf_len] at this
      cases this⟩
  | c :: X, [], pv, fx, _, _ => ⟨fun h => h.elim, fun h => by cases h.1⟩
  | c :: X, l :: w, pv, fx, hpv, hX => by
    show (l ∈ letF p (fmL pv c) c ∧ Fits w (List.zipWith (letF p) (fms (fmL pv c) X) X)) ↔ _
    have tl : (∀ x ∈ l :: w, -1 ≤ x ∧ x < (p : Int)) ↔ (-1 ≤ l ∧ l < (p : Int)) ∧ ∀ x ∈ w, -1 ≤ x ∧ x < (p : Int) := by
      constructor
      · exact fun h => ⟨h l List.mem_cons_self, fun x hx => h x (List.mem_cons_of_mem _ hx)⟩
      · rintro ⟨h1, h2⟩ x hx
        rcases List.mem_cons.mp hx with rfl | hx
        · exact h1
        · exact h2 x hx
    rw [tl]
    rw [nf] at hX
    rw [nf]
    by_cases h1 : c = -1
    · rw [if_pos h1] at hX
      have hX : nf true X = X := (List.cons.inj hX).2
      have ih := fits_nf hp X w .fixed true (.inr ⟨rfl, rfl⟩) hX
      have e : fmL pv c = .fixed := by unfold fmL; rw [if_pos h1]
      rw [e, ih]
      show (l ∈ [c] ∧ _) ↔ _
      rw [List.mem_singleton]
      constructor
      · rintro ⟨rfl, h2, h3⟩
        rw [if_pos h1, h2, h1]
        exact ⟨rfl, ⟨by omega, by omega⟩, h3⟩
      · rintro ⟨h2, h3, h4⟩
        by_cases hl : l = -1
        · rw [if_pos hl] at h2
          exact ⟨by omega, (List.cons.inj h2).2, h4⟩
        · rw [if_neg hl] at h2
          subst h1
          split at h2
          · split at h2
            · exact absurd (List.cons.inj h2).1 (by decide)
            · exact absurd (List.cons.inj h2).1 (by decide)
          · exact absurd (List.cons.inj h2).1 (by decide)
    · rw [if_neg h1] at hX
      rcases hpv with ⟨hpv, rfl⟩ | ⟨rfl, rfl⟩
      · rw [if_neg (by decide)] at hX
        obtain ⟨hc, hX⟩ := List.cons.inj hX
        have e : fmL pv c = .free := by unfold fmL; rw [if_neg h1, if_neg hpv]
        have ih := fits_nf hp X w .free false (.inl ⟨by decide, rfl⟩) hX
        rw [e, ih, if_neg (show ¬ (false = true) by decide)]
        show (l ∈ lets 0 p ∧ _) ↔ _
        rw [mem_lets]
        constructor
        · rintro ⟨⟨h2, h3⟩, h4, h5⟩
          rw [if_neg (by omega), h4, ← hc]
          exact ⟨rfl, ⟨by omega, by omega⟩, h5⟩
        · rintro ⟨h2, h3, h4⟩
          by_cases hl : l = -1
          · rw [if_pos hl] at h2
            exact absurd (List.cons.inj h2).1.symm h1
          · rw [if_neg hl] at h2
            exact ⟨⟨by omega, by omega⟩, (List.cons.inj h2).2, h4⟩
      · rw [if_pos rfl] at hX
        rw [if_pos (show (true = true) from rfl)]
        by_cases h0 : c = 0
        · rw [if_pos h0] at hX
          have hX : nf true X = X := (List.cons.inj hX).2
          have e : fmL .fixed c = .fixed := by unfold fmL; rw [if_neg h1, if_pos rfl, if_pos h0]
          have ih := fits_nf hp X w .fixed true (.inr ⟨rfl, rfl⟩) hX
          rw [e, ih]
          show (l ∈ [c] ∧ _) ↔ _
          rw [List.mem_singleton]
          constructor
          · rintro ⟨rfl, h2, h3⟩
            rw [if_neg h1, if_pos h0, h2, h0]
            exact ⟨rfl, ⟨by omega, by omega⟩, h3⟩
          · rintro ⟨h2, h3, h4⟩
            by_cases hl : l = -1
            · rw [if_pos hl] at h2
              exact absurd (List.cons.inj h2).1.symm h1
            · rw [if_neg hl] at h2
              by_cases hl0 : l = 0
              · rw [if_pos hl0] at h2
                exact ⟨by omega, (List.cons.inj h2).2, h4⟩
              · rw [if_neg hl0] at h2
                have := (List.cons.inj h2).1
                omega
        · rw [if_neg h0] at hX
          obtain ⟨hc, hX⟩ := List.cons.inj hX
          have e : fmL .fixed c = .live := by unfold fmL; rw [if_neg h1, if_pos rfl, if_neg h0]
          have ih := fits_nf hp X w .live false (.inl ⟨by decide, rfl⟩) hX
          rw [e, ih]
          show (l ∈ lets 1 (p - 1) ∧ _) ↔ _
          rw [mem_lets]
          constructor
          · rintro ⟨⟨h2, h3⟩, h4, h5⟩
            rw [if_neg (by omega), if_neg (by omega), h4, ← hc]
            exact ⟨rfl, ⟨by omega, by omega⟩, h5⟩
          · rintro ⟨h2, h3, h4⟩
            by_cases hl : l = -1
            · rw [if_pos hl] at h2
              have := (List.cons.inj h2).1
              omega
            · rw [if_neg hl] at h2
              by_cases hl0 : l = 0
              · rw [if_pos hl0] at h2
                have := (List.cons.inj h2).1
                omega
              · rw [if_neg hl0] at h2
                exact ⟨⟨by omega, by omega⟩, (List.cons.inj h2).2, h4⟩
/-- a kind with so many letters -/
def pad (K : List Int) (n : Nat) : List Int := if K = [] then (if n = 0 then [] else -1 :: List.replicate (n - 1) 0) else K ++ List.replicate (n - K.length) 0
def rows0 (p : Nat) (K : List Int) (n : Nat) : List (List Int) := List.zipWith (letF p) (forms (pad K n)) (pad K n)
def lastP (n : Nat) (l : Int) : Bool := decide (l ≠ 0) && (decide (0 < l) || decide (n = 1))
def rowsOf (p : Nat) (K : List Int) (n : Nat) : List (List Int) := if n = 0 then [] else (rows0 p K n).dropLast ++ [((rows0 p K n).getLast?.getD []).filter (lastP n)]
/-- a kind: its own kind -/
def Kd (K : List Int) : Prop := Wd K ∧ kindW K = K
theorem kd_kind {ws : List Int} (h : Wd ws) : Kd (kindW ws) := ⟨kind_wd ws, kind_kind h⟩
theorem kd_tail {K : List Int} (h : Kd K) : nf false K.tail = K.tail ∧ trim1 K.tail = K.tail := by
  have e := kind_tail K
  rw [h.2] at e
  obtain ⟨m, hm⟩ := trim_pad false (wd_tail h.1)
  rw [← e] at hm
  have hl := congrArg List.length hm
  rw [nf_len, List.length_append, List.length_replicate] at hl
  have : m = 0 := by omega
  subst this
  rw [List.replicate_zero, List.append_nil] at hm
  exact ⟨hm, by rw [hm] at e; exact e.symm⟩
theorem kd_cons {K : List Int} (h : Kd K) (hn : K ≠ []) : K = -1 :: K.tail ∧ K.tail ≠ [] := by
  have e := kind_eq K
  rw [h.2, (kd_tail h).1, (kd_tail h).2] at e
  by_cases z : K.tail = []
  · rw [if_pos z] at e; exact absurd e hn
  · rw [if_neg z] at e; exact ⟨e, z⟩
theorem pad_len {K : List Int} {n : Nat} (h : K.length ≤ n) : (pad K n).length = n := by
  unfold pad
  by_cases z : K = []
  · rw [if_pos z]
    by_cases hn : n = 0
    · rw [if_pos hn, hn]; rfl
    · rw [if_neg hn, List.length_cons, List.length_replicate]; omega
  · rw [if_neg z, List.length_append, List.length_replicate]; omega
theorem pad_tail {K : List Int} {n : Nat} (hn : 1 ≤ n) (hl : K.length ≤ n) : ∃ m, (pad K n).tail = K.tail ++ List.replicate m 0 := by
  unfold pad
  by_cases z : K = []
  · rw [if_pos z, if_neg (by omega), z]; exact ⟨n - 1, rfl⟩
  · rw [if_neg z]
    cases K with
    | nil => exact absurd rfl z
    | cons a K => exact ⟨n - (a :: K).length, rfl⟩
theorem pad_cons {K : List Int} {n : Nat} (hk : Kd K) (hn : 1 ≤ n) : ∃ t, pad K n = -1 :: t := by
  unfold pad
  by_cases z : K = []
  · rw [if_pos z, if_neg (by omega)]; exact ⟨_, rfl⟩
  · rw [if_neg z, (kd_cons hk z).1]; exact ⟨_, rfl⟩
theorem nf_padt {K : List Int} {n : Nat} (hk : Kd K) (hn : 1 ≤ n) (hl : K.length ≤ n) : nf false (pad K n).tail = (pad K n).tail := by
  obtain ⟨m, e⟩ := pad_tail hn hl
  rw [e, nf_pad, (kd_tail hk).1]
theorem kind_pad {K w : List Int} {n : Nat} (hk : Kd K) (hl : K.length ≤ n) (hw : Wd w) (hn : w.length = n) : kindW w = K ↔ nf false w.tail = (pad K n).tail := by
  constructor
  · intro e
    cases w with
    | nil =>
      have : n = 0 := hn.symm
      subst this
      have : K = [] := List.length_eq_zero_iff.mp (by omega)
      subst this
      rfl
    | cons l t =>
      obtain ⟨m, hm⟩ := trim_pad false (wd_tail hw)
      have hn1 : 1 ≤ n := by rw [← hn, List.length_cons]; omega
      obtain ⟨m', e'⟩ := pad_tail hn1 hl
      have e2 := kind_tail (l :: t)
      rw [e] at e2
      rw [← e2] at hm
      rw [hm, e']
      have h1 := congrArg List.length hm
      have h2 := congrArg List.length e'
      rw [nf_len, List.length_append, List.length_replicate, List.length_tail] at h1
      rw [List.length_tail, pad_len hl, List.length_append, List.length_replicate] at h2
      rw [show m = m' by omega]
  · intro e
    rw [kind_eq, e]
    by_cases hn0 : n = 0
    · subst hn0
      have : K = [] := List.length_eq_zero_iff.mp (by omega)
      subst this
      rfl
    obtain ⟨m, e'⟩ := pad_tail (by omega) hl
    rw [e', trim1_zeros, (kd_tail hk).2]
    by_cases z : K = []
    · rw [z]; rfl
    · rw [if_neg (kd_cons hk z).2, ← (kd_cons hk z).1]
theorem fits_rows0 {p : Nat} (hp : 2 ≤ p) {K : List Int} {n : Nat} (hk : Kd K) (hn : 1 ≤ n) (hl : K.length ≤ n) (w : List Int) :
    Fits w (rows0 p K n) ↔ w.length = n ∧ nf false w.tail = (pad K n).tail ∧ ∀ x ∈ w, -1 ≤ x ∧ x < p := by
  unfold rows0
  have hX := nf_padt hk hn hl
  have hpl := pad_len hl
  obtain ⟨X, e⟩ := pad_cons hk hn
  rw [e] at hX hpl ⊢
  show Fits w (lets (-1) (p + 1) :: List.zipWith (letF p) (fms .first X) X) ↔ _
  cases w with
  | nil => exact ⟨fun h => h.elim, fun h => by have : 0 = n := h.1; omega⟩
  | cons l t =>
    show (l ∈ lets (-1) (p + 1) ∧ Fits t (List.zipWith (letF p) (fms .first X) X)) ↔ _
    rw [fits_nf hp X t .first false (.inl ⟨by decide, rfl⟩) hX, mem_lets]
    show _ ↔ (l :: t).length = n ∧ nf false t = X ∧ _
    constructor
    · rintro ⟨⟨h1, h2⟩, h3, h4⟩
      refine ⟨?_, h3, fun x hx => ?_⟩
      · rw [← hpl, List.length_cons, List.length_cons, ← h3, nf_len]
      · rcases List.mem_cons.mp hx with rfl | hx
        · exact ⟨h1, by omega⟩
        · exact h4 x hx
    · rintro ⟨_, h3, h4⟩
      have := h4 l List.mem_cons_self
      exact ⟨⟨by omega, by omega⟩, h3, fun x hx => h4 x (List.mem_cons_of_mem _ hx)⟩
theorem rows0_len {p : Nat} {K : List Int} {n : Nat} (hl : K.length ≤ n) : (rows0 p K n).length = n := by
  unfold rows0
  rw [List.length_zipWith, forms_len, pad_len hl, Nat.min_self]
theorem fits_rows {p : Nat} (hp : 2 ≤ p) {K : List Int} {n : Nat} (hk : Kd K) (hl : K.length ≤ n) (w : List Int) :
    Fits w (rowsOf p K n) ↔ w.length = n ∧ Wd w ∧ kindW w = K ∧ ∀ x ∈ w, -1 ≤ x ∧ x < p := by
  by_cases hn : n = 0
  · subst hn
    have : K = [] := List.length_eq_zero_iff.mp (by omega)
    subst this
    unfold rowsOf
    rw [if_pos rfl]
    cases w with
    | nil => exact ⟨fun _ => ⟨rfl, .inl rfl, rfl, fun x h => (nomatch h)⟩, fun _ => trivial⟩
    | cons l w => exact ⟨fun h => h.elim, fun h => by cases h.1⟩
  have hn1 : 1 ≤ n := by omega
  obtain ⟨rs, r, e, hrs⟩ := snoc_of (xs := rows0 p K n) (n := n - 1) (by rw [rows0_len hl]; omega)
  have er : rowsOf p K n = rs ++ [r.filter (lastP n)] := by
    unfold rowsOf
    rw [if_neg hn, e, List.dropLast_concat, List.getLast?_concat]; rfl
  rw [er]
  have F := fits_rows0 hp hk hn1 hl (p := p)
  rw [e] at F
  have W : ∀ (v : List Int) (l : Int), (v ++ [l]).length = n → -1 ≤ l → (lastP n l = true ↔ Wd (v ++ [l])) := by
    intro v l hv hl1
    rw [List.length_append, List.length_singleton] at hv
    unfold lastP Wd
    rw [Bool.and_eq_true, Bool.or_eq_true, decide_eq_true_eq, decide_eq_true_eq, decide_eq_true_eq, List.getLast?_concat]
    constructor
    · rintro ⟨h1, h2 | h2⟩
      · exact .inr (.inr ⟨l, rfl, h2⟩)
      · by_cases h3 : 0 < l
        · exact .inr (.inr ⟨l, rfl, h3⟩)
        · have : v = [] := List.length_eq_zero_iff.mp (by omega)
          rw [this, show l = -1 by omega]
          exact .inr (.inl rfl)
    · rintro (h | h | ⟨k, h, h3⟩)
      · simp at h
      · have hl := congrArg List.length h
        rw [List.length_append] at hl
        have hv0 : v = [] := List.length_eq_zero_iff.mp (by simpa using hl)
        rw [hv0] at h
        have : l = -1 := by simpa using h
        rw [hv0] at hv
        exact ⟨by omega, .inr (by simpa using hv.symm)⟩
      · have : l = k := by simpa using h
        exact ⟨by omega, .inl (by omega)⟩
  constructor
  · intro h
    have hlen := fits_len h
    rw [List.length_append, List.length_singleton] at hlen
    obtain ⟨v, l, rfl, _⟩ := snoc_of hlen
    obtain ⟨h1, h2⟩ := fits_snoc.mp h
    obtain ⟨h2, h3⟩ := List.mem_filter.mp h2
    obtain ⟨g1, g2, g3⟩ := (F _).mp (fits_snoc.mpr ⟨h1, h2⟩)
    have hw := (W v l g1 (g3 l (by simp)).1).mp h3
    exact ⟨g1, hw, (kind_pad hk hl hw g1).mpr g2, g3⟩
  · rintro ⟨g1, hw, g2, g3⟩
    obtain ⟨v, l, rfl, _⟩ := snoc_of (xs := w) (n := n - 1) (by omega)
    obtain ⟨h1, h2⟩ := fits_snoc.mp ((F _).mpr ⟨g1, (kind_pad hk hl hw g1).mp g2, g3⟩)
    exact fits_snoc.mpr ⟨h1, List.mem_filter.mpr ⟨h2, (W v l g1 (g3 l (by simp)).1).mpr hw⟩⟩
/-! ### rows are not empty, and go up -/
theorem form_last {K : List Int} (hk : Kd K) (hn : K ≠ []) : (forms K)[K.length - 1]? = some .live := by
  rw [forms_live]
  have e := (kd_cons hk hn).1
  have h : nw K = K := by rw [e]; show -1 :: nf false K.tail = -1 :: K.tail; rw [(kd_tail hk).1]
  rw [h]
  have ht := (kd_tail hk).2
  rcases trim_last K.tail with z | z
  · rw [ht] at z; exact absurd z (kd_cons hk hn).2
  · rw [ht] at z
    have : K.getLast? = some 1 := by rw [e, List.getLast?_cons, z]; rfl
    rw [List.getLast?_eq_getElem?] at this
    rw [List.getD_eq_getElem?_getD, this]; rfl
theorem forms_app : ∀ (xs : List Int) (pv : Fm) (m : Nat), fms pv (xs ++ List.replicate m 0) = fms pv xs ++ fms ((fms pv xs).getLast?.getD pv) (List.replicate m 0)
  | [], pv, m => rfl
  | x :: xs, pv, m => by
    show fmL pv x :: fms (fmL pv x) (xs ++ List.replicate m 0) = fmL pv x :: (fms (fmL pv x) xs ++ _)
    rw [forms_app xs (fmL pv x) m]
    congr 2
    show _ = fms (((fmL pv x) :: fms (fmL pv x) xs).getLast?.getD pv) _
    rw [List.getLast?_cons]; rfl
theorem fms_free {pv : Fm} (h : pv ≠ .fixed) : ∀ m, fms pv (List.replicate m 0) = List.replicate m .free
  | 0 => rfl
  | m + 1 => by
    rw [List.replicate_succ, List.replicate_succ]
    show fmL pv 0 :: fms (fmL pv 0) _ = _
    have : fmL pv 0 = .free := by unfold fmL; rw [if_neg (by decide), if_neg h]
    rw [this, fms_free (by decide) m]
theorem zw_free (p : Nat) : ∀ m, List.zipWith (letF p) (List.replicate m .free) (List.replicate m 0) = List.replicate m (lets 0 p)
  | 0 => rfl
  | m + 1 => by rw [List.replicate_succ, List.replicate_succ, List.zipWith_cons_cons, zw_free p m, List.replicate_succ]; rfl
theorem rows0_nil (p : Nat) {n : Nat} (hn : 1 ≤ n) : rows0 p [] n = lets (-1) (p + 1) :: List.replicate (n - 1) (lets 0 p) := by
  unfold rows0 pad
  rw [if_pos rfl, if_neg (by omega)]
  show lets (-1) (p + 1) :: List.zipWith (letF p) (fms .first (List.replicate (n - 1) 0)) (List.replicate (n - 1) 0) = _
  rw [fms_free (by decide), zw_free]
theorem rows0_kd (p : Nat) {K : List Int} (hk : Kd K) (hn : K ≠ []) (n : Nat) : rows0 p K n = List.zipWith (letF p) (forms K) K ++ List.replicate (n - K.length) (lets 0 p) := by
  have hf := form_last hk hn
  unfold rows0 pad
  rw [if_neg hn]
  obtain ⟨e1, e2⟩ := kd_cons hk hn
  have hforms : forms (K ++ List.replicate (n - K.length) 0) = forms K ++ List.replicate (n - K.length) .free := by
    rw [e1]
    show Fm.first :: fms .first (K.tail ++ List.replicate (n - (-1 :: K.tail).length) 0) = Fm.first :: (fms .first K.tail ++ _)
    rw [forms_app, fms_free]
    rw [e1] at hf
    have hl : K.tail.length ≠ 0 := fun h => e2 (List.length_eq_zero_iff.mp h)
    have hf : (Fm.first :: fms .first K.tail)[K.tail.length]? = some .live := hf
    obtain ⟨j, hj⟩ : ∃ j, K.tail.length = j + 1 := ⟨K.tail.length - 1, by omega⟩
    rw [hj, List.getElem?_cons_succ] at hf
    rw [List.getLast?_eq_getElem?, fms_len, hj, Nat.add_sub_cancel, hf]
    decide
  rw [hforms, List.zipWith_append (by rw [forms_len]), zw_free]
theorem lets_ne {a : Int} {n : Nat} (h : 1 ≤ n) : lets a n ≠ [] := fun e => by
  have := len_lets a n
  rw [e] at this
  have : 0 = n := this
  omega
theorem filt_free (p n : Nat) (hn : n ≠ 1) : (lets 0 p).filter (lastP n) = lets 1 (p - 1) := by
  cases p with
  | zero => rfl
  | succ p =>
    unfold lets
    rw [List.range_succ_eq_map, List.map_cons, List.map_map, List.filter_cons]
    have : lastP n (0 + ((0 : Nat) : Int)) = false := by unfold lastP; simp
    rw [this, if_neg (by decide)]
    rw [List.filter_eq_self.mpr]
    · rw [show p + 1 - 1 = p by omega]
      refine List.map_congr_left fun k _ => ?_
      show (0 : Int) + ((k + 1 : Nat) : Int) = 1 + (k : Int)
      omega
    · intro x hx
      obtain ⟨k, _, rfl⟩ := List.mem_map.mp hx
      show lastP n ((0 : Int) + ((k + 1 : Nat) : Int)) = true
      unfold lastP
      rw [Bool.and_eq_true, Bool.or_eq_true, decide_eq_true_eq, decide_eq_true_eq, decide_eq_true_eq]
      exact ⟨by omega, .inl (by omega)⟩
theorem filt_live (p n : Nat) : (lets 1 p).filter (lastP n) = lets 1 p := by
  rw [List.filter_eq_self]
  intro x hx
  have := mem_lets.mp hx
  unfold lastP
  rw [Bool.and_eq_true, Bool.or_eq_true, decide_eq_true_eq, decide_eq_true_eq, decide_eq_true_eq]
  exact ⟨by omega, .inl (by omega)⟩
theorem filt_first (p : Nat) : (lets (-1) (p + 1)).filter (lastP 1) = -1 :: lets 1 (p - 1) := by
  have e : lets (-1) (p + 1) = -1 :: lets 0 p := by
    unfold lets
    rw [List.range_succ_eq_map, List.map_cons, List.map_map]
    congr 1
    refine List.map_congr_left fun k _ => ?_
    show (-1 : Int) + ((k + 1 : Nat) : Int) = 0 + (k : Int)
    omega
  rw [e, List.filter_cons, if_pos (by decide)]
  congr 1
  rw [show (lets 0 p).filter (lastP 1) = (lets 0 p).filter (lastP 2) from ?_, filt_free p 2 (by decide)]
  refine List.filter_congr fun x hx => ?_
  have := mem_lets.mp hx
  unfold lastP
  by_cases h : x = 0
  · subst h; rfl
  · rw [decide_eq_true h, decide_eq_true (show 0 < x by omega)]; rfl
/-- the rows, told -/
theorem rows_told (p : Nat) {K : List Int} (hk : Kd K) {n : Nat} (hl : K.length ≤ n) :
    rowsOf p K n = if K = [] then (if n = 0 then [] else if n = 1 then [-1 :: lets 1 (p - 1)] else lets (-1) (p + 1) :: (List.replicate (n - 2) (lets 0 p) ++ [lets 1 (p - 1)]))
      else if n = K.length then List.zipWith (letF p) (forms K) K else List.zipWith (letF p) (forms K) K ++ (List.replicate (n - K.length - 1) (lets 0 p) ++ [lets 1 (p - 1)]) := by
  by_cases z : K = []
  · rw [if_pos z, z]
    unfold rowsOf
    by_cases h0 : n = 0
    · rw [if_pos h0, if_pos h0]
    rw [if_neg h0, if_neg h0]
    rw [rows0_nil p (by omega)]
    by_cases h1 : n = 1
    · rw [if_pos h1, h1]
      show [] ++ [(lets (-1) (p + 1)).filter (lastP 1)] = _
      rw [filt_first]; rfl
    · rw [if_neg h1]
      obtain ⟨m, rfl⟩ : ∃ m, n = m + 2 := ⟨n - 2, by omega⟩
      rw [show m + 2 - 1 = m + 1 by omega, show m + 2 - 2 = m by omega, List.replicate_succ', ← List.cons_append, List.dropLast_concat, List.getLast?_concat]
      show _ ++ [(lets 0 p).filter _] = _
      rw [filt_free p _ h1, List.cons_append]
  · rw [if_neg z]
    unfold rowsOf
    have hK : 1 ≤ K.length := by
      cases K with
      | nil => exact absurd rfl z
      | cons a K => rw [List.length_cons]; omega
    rw [if_neg (by omega), rows0_kd p hk z]
    by_cases h1 : n = K.length
    · rw [if_pos h1, h1, Nat.sub_self, List.replicate_zero, List.append_nil]
      obtain ⟨rs, r, e, hrs⟩ := snoc_of (xs := List.zipWith (letF p) (forms K) K) (n := K.length - 1) (by rw [List.length_zipWith, forms_len]; omega)
      have hr : r = lets 1 (p - 1) := by
        have := congrArg (fun x => x[K.length - 1]?) e
        have : (List.zipWith (letF p) (forms K) K)[K.length - 1]? = (rs ++ [r])[K.length - 1]? := this
        rw [List.getElem?_zipWith, form_last hk z, List.getElem?_append_right (by omega), hrs, Nat.sub_self, List.getElem?_eq_getElem (by omega)] at this
        exact (Option.some.inj this).symm
      rw [e, List.dropLast_concat, List.getLast?_concat]
      show _ ++ [r.filter _] = _
      rw [hr, filt_live]
    · rw [if_neg h1]
      obtain ⟨m, hm⟩ : ∃ m, n - K.length = m + 1 := ⟨n - K.length - 1, by omega⟩
      rw [hm, show m + 1 - 1 = m by omega, List.replicate_succ', ← List.append_assoc, List.dropLast_concat, List.getLast?_concat]
      show _ ++ [(lets 0 p).filter _] = _
      rw [filt_free p _ (by omega), List.append_assoc]
theorem letF_ok {p : Nat} (hp : 2 ≤ p) (f : Fm) (l : Int) : letF p f l ≠ [] ∧ (letF p f l).Pairwise (· < ·) := by
  refine ⟨?_, pw_letF p f l⟩
  cases f with
  | fixed => exact List.cons_ne_nil _ _
  | _ => exact lets_ne (by omega)
theorem rows_ok {p : Nat} (hp : 2 ≤ p) {K : List Int} (hk : Kd K) {n : Nat} (hl : K.length ≤ n) : ∀ r ∈ rowsOf p K n, r ≠ [] ∧ r.Pairwise (· < ·) := by
  have zw : ∀ r ∈ List.zipWith (letF p) (forms K) K, r ≠ [] ∧ r.Pairwise (· < ·) := fun r hr => by
    rw [← List.map_uncurry_zip_eq_zipWith] at hr
    obtain ⟨⟨f, l⟩, _, rfl⟩ := List.mem_map.mp hr
    exact letF_ok hp f l
  have f0 : (lets 0 p) ≠ [] ∧ (lets 0 p).Pairwise (· < ·) := ⟨lets_ne (by omega), pw_lets _ _⟩
  have f1 : (lets 1 (p - 1)) ≠ [] ∧ (lets 1 (p - 1)).Pairwise (· < ·) := ⟨lets_ne (by omega), pw_lets _ _⟩
  have f2 : (lets (-1) (p + 1)) ≠ [] ∧ (lets (-1) (p + 1)).Pairwise (· < ·) := ⟨lets_ne (by omega), pw_lets _ _⟩
  have rp : ∀ m, ∀ r ∈ List.replicate m (lets 0 p) ++ [lets 1 (p - 1)], r ≠ [] ∧ r.Pairwise (· < ·) := fun m r hr => by
    rcases List.mem_append.mp hr with h | h
    · rw [(List.mem_replicate.mp h).2]; exact f0
    · rw [List.mem_singleton.mp h]; exact f1
  rw [rows_told p hk hl]
  intro r hr
  split at hr
  · split at hr
    · cases hr
    · split at hr
      · rw [List.mem_singleton.mp hr]
        refine ⟨List.cons_ne_nil _ _, List.pairwise_cons.mpr ⟨fun x hx => ?_, pw_lets _ _⟩⟩
        have := mem_lets.mp hx
        omega
      · rcases List.mem_cons.mp hr with h | h
        · rw [h]; exact f2
        · exact rp _ r h
  · split at hr
    · exact zw r hr
    · rcases List.mem_append.mp hr with h | h
      · exact zw r h
      · exact rp _ r h
/-! ### the words of a kind, listed and counted -/
theorem mem_allW {p n : Nat} (hp : 2 ≤ p) (w : List Int) : w ∈ K11.allW p n ↔ w.length = n ∧ Wd w ∧ ∀ x ∈ w, -1 ≤ x ∧ x < p := by
  unfold K11.allW
  rw [List.mem_map]
  constructor
  · rintro ⟨k, hk, rfl⟩
    have h := K11.wrd_word hp (List.mem_range.mp hk)
    exact ⟨K11.wrd_len _ _ _, h.2, h.1⟩
  · rintro ⟨h1, h2, h3⟩
    obtain ⟨k, _, hk, e⟩ := K11.num_bd hp (ws := w) ⟨h3, h2⟩
    rw [h1] at hk e
    exact ⟨k, List.mem_range.mpr hk, e⟩
theorem allW_lt {p n : Nat} (hp : 2 ≤ p) : (K11.allW p n).Pairwise (· < ·) := by
  unfold K11.allW
  rw [List.pairwise_map]
  exact List.Pairwise.imp_of_mem (R := (· < ·)) (fun {a b} ha hb h => K11.wrd_lt hp h (List.mem_range.mp hb)) List.pairwise_lt_range
theorem lt_ext {xs ys : List (List Int)} (hx : xs.Pairwise (· < ·)) (hy : ys.Pairwise (· < ·)) (h : ∀ x, x ∈ xs ↔ x ∈ ys) : xs = ys := by
  have nd : ∀ {zs : List (List Int)}, zs.Pairwise (· < ·) → zs.Nodup := fun {zs} h => h.imp fun {a b} h e => by
    subst e; exact List.lt_irrefl _ h
  refine List.Perm.eq_of_pairwise (le := fun a b : List Int => a ≤ b) (fun a b _ _ h1 h2 => List.le_antisymm h1 h2) (hx.imp fun h => List.le_of_lt h) (hy.imp fun h => List.le_of_lt h) ?_
  exact (List.perm_ext_iff_of_nodup (nd hx) (nd hy)).mpr h
/-- the words with so many letters and the generators of a word -/
def some_ (p : Nat) (ws : List Int) (n : Nat) : List (List Int) := (K11.allW p n).filter fun w => decide (gensW w = gensW ws)
theorem listed {p : Nat} (hp : 2 ≤ p) {ws : List Int} (hw : Wd ws) {n : Nat} (hl : (kindW ws).length ≤ n) : prods (rowsOf p (kindW ws) n) = some_ p ws n := by
  have hk := kd_kind hw
  have ok := rows_ok hp hk hl
  refine lt_ext (pw_prods _ ok) ((allW_lt hp).filter _) fun w => ?_
  rw [mem_prods _ (fun r hr => (ok r hr).1), fits_rows hp hk hl, some_, List.mem_filter, mem_allW hp, decide_eq_true_eq]
  constructor
  · rintro ⟨h1, h2, h3, h4⟩
    exact ⟨⟨h1, h2, h4⟩, (kind_gens h2 hw).mp h3⟩
  · rintro ⟨⟨h1, h2, h4⟩, h3⟩
    exact ⟨h1, h2, (kind_gens h2 hw).mpr h3, h4⟩
theorem listed_none {p : Nat} (hp : 2 ≤ p) {ws : List Int} (hw : Wd ws) {n : Nat} (hl : n < (kindW ws).length) : some_ p ws n = [] := by
  unfold some_
  rw [List.filter_eq_nil_iff]
  intro w h
  obtain ⟨h1, h2, _⟩ := (mem_allW hp w).mp h
  rw [decide_eq_true_eq]
  intro e
  have := kind_len w
  rw [(kind_gens h2 hw).mpr e] at this
  omega
def cntK (p : Nat) (K : List Int) : Nat := ((forms K).map (lenF p)).foldl (· * ·) 1
def many (p : Nat) (K : List Int) (n : Nat) : Nat :=
  if n < K.length then 0 else if K = [] then (if n = 0 then 1 else if n = 1 then p else (p + 1) * p ^ (n - 2) * (p - 1))
  else if n = K.length then cntK p K else cntK p K * p ^ (n - K.length - 1) * (p - 1)
theorem lens_foldl : ∀ (rs : List (List Int)) (a : Nat), rs.foldl (fun n r => n * r.length) a = (rs.map List.length).foldl (· * ·) a
  | [], _ => rfl
  | r :: rs, a => lens_foldl rs (a * r.length)
theorem zw_lens (p : Nat) : ∀ (fs : List Fm) (ls : List Int), fs.length = ls.length → (List.zipWith (letF p) fs ls).map List.length = fs.map (lenF p)
  | [], [], _ => rfl
  | f :: fs, l :: ls, h => by
    rw [List.zipWith_cons_cons, List.map_cons, List.map_cons, len_letF, zw_lens p fs ls (by simpa using h)]
  | [], _ :: _, h => by cases h
  | _ :: _, [], h => by cases h
theorem lens_app (rs qs : List (List Int)) : lens (rs ++ qs) = lens rs * lens qs := by
  refine rev_indL (P := fun qs => lens (rs ++ qs) = lens rs * lens qs) (by rw [List.append_nil]; exact (Nat.mul_one _).symm) (fun qs q ih => ?_) qs
  rw [← List.append_assoc, lens_snoc, lens_snoc, ih, Nat.mul_assoc]
theorem lens_repl (r : List Int) : ∀ m, lens (List.replicate m r) = r.length ^ m
  | 0 => rfl
  | m + 1 => by rw [List.replicate_succ', lens_snoc, lens_repl r m, Nat.pow_succ]
theorem lens_rows {p : Nat} (hp : 2 ≤ p) {K : List Int} (hk : Kd K) {n : Nat} (hl : K.length ≤ n) : lens (rowsOf p K n) = many p K n := by
  unfold many
  rw [if_neg (by omega), rows_told p hk hl]
  have hc : lens (List.zipWith (letF p) (forms K) K) = cntK p K := by
    unfold lens cntK
    rw [lens_foldl, zw_lens p _ _ (by rw [forms_len])]
  by_cases z : K = []
  · rw [if_pos z, if_pos z]
    by_cases h0 : n = 0
    · rw [if_pos h0, if_pos h0]; rfl
    rw [if_neg h0, if_neg h0]
    by_cases h1 : n = 1
    · rw [if_pos h1, if_pos h1]
      show 1 * (lets 1 (p - 1)).length.succ = p
      rw [len_lets]; omega
    · rw [if_neg h1, if_neg h1]
      rw [← List.cons_append, lens_snoc, len_lets]
      have : lets (-1) (p + 1) :: List.replicate (n - 2) (lets 0 p) = [lets (-1) (p + 1)] ++ List.replicate (n - 2) (lets 0 p) := rfl
      rw [this, lens_app, lens_repl, len_lets]
      show 1 * (lets (-1) (p + 1)).length * _ * _ = _
      rw [len_lets, Nat.one_mul]
  · rw [if_neg z, if_neg z]
    by_cases h1 : n = K.length
    · rw [if_pos h1, if_pos h1, hc]
    · rw [if_neg h1, if_neg h1, ← List.append_assoc, lens_snoc, len_lets, lens_app, lens_repl, len_lets, hc]
theorem counted {p : Nat} (hp : 2 ≤ p) {ws : List Int} (hw : Wd ws) (n : Nat) : (some_ p ws n).length = many p (kindW ws) n := by
  by_cases hl : (kindW ws).length ≤ n
  · rw [← listed hp hw hl, len_prods _ (fun r hr => (rows_ok hp (kd_kind hw) hl r hr).1), lens_rows hp (kd_kind hw) hl]
  · rw [listed_none hp hw (by omega), many, if_pos (by omega)]; rfl
/-! ### forms by corners -/
theorem fms_sf : ∀ (t : List Int) (pv : Fm) (j : Nat), j < t.length → (fms pv t)[j]? = some (if sf (decide (pv = .fixed)) t (j + 1) then Fm.fixed else if sf (decide (pv = .fixed)) t j then .live else .free)
  | [], _, _, h => by cases h
  | l :: t, pv, 0, _ => by
    show some (fmL pv l) = _
    rw [sf_step]
    show _ = some (if (decide (l = -1) || (decide (pv = .fixed) && decide (l = 0))) = true then _ else if decide (pv = .fixed) = true then _ else _)
    unfold fmL
    by_cases h1 : l = -1
    · rw [if_pos h1, decide_eq_true h1]; rfl
    · rw [if_neg h1, decide_eq_false h1]
      by_cases h2 : pv = .fixed
      · rw [if_pos h2, decide_eq_true h2]
        by_cases h0 : l = 0
        · rw [if_pos h0, decide_eq_true h0]; rfl
        · rw [if_neg h0, decide_eq_false h0]; rfl
      · rw [if_neg h2, decide_eq_false h2]; rfl
  | l :: t, pv, j + 1, h => by
    show (fms (fmL pv l) t)[j]? = _
    rw [fms_sf t (fmL pv l) j (by rw [List.length_cons] at h; omega)]
    have e : decide (fmL pv l = .fixed) = (decide (l = -1) || (decide (pv = .fixed) && decide (l = 0))) := by
      unfold fmL
      by_cases h1 : l = -1
      · rw [if_pos h1, decide_eq_true h1]; rfl
      · rw [if_neg h1, decide_eq_false h1]
        by_cases h2 : pv = .fixed
        · rw [if_pos h2, decide_eq_true h2]
          by_cases h0 : l = 0
          · rw [if_pos h0, decide_eq_true h0]; rfl
          · rw [if_neg h0, decide_eq_false h0]; rfl
        · rw [if_neg h2, decide_eq_false h2]; rfl
    rw [e]
    rfl
theorem forms_crn {K : List Int} (hw : Wd K) {i : Nat} (h1 : 1 ≤ i) (h2 : i < K.length) :
    (Crn K (i + 1) → (forms K)[i]? = some .fixed) ∧ (¬ Crn K (i + 1) → Crn K i → (forms K)[i]? = some .live) ∧ (¬ Crn K (i + 1) → ¬ Crn K i → (forms K)[i]? = some .free) := by
  obtain ⟨j, rfl⟩ : ∃ j, i = j + 1 := ⟨i - 1, by omega⟩
  have c1 := crn_tail hw (j + 1)
  have c0 := crn_tail hw j
  rw [c1, c0]
  cases K with
  | nil => cases h2
  | cons l t =>
    have e : (forms (l :: t))[j + 1]? = (fms .first t)[j]? := rfl
    rw [e, fms_sf t .first j (by rw [List.length_cons] at h2; omega)]
    show (sf false t (j + 1) = true → some (if sf false t (j + 1) = true then _ else _) = _) ∧ _
    refine ⟨fun h => by rw [if_pos h], fun h h' => ?_, fun h h' => ?_⟩
    · have h : ¬ sf false t (j + 1) = true := h
      have h' : sf false t j = true := h'
      show some (if sf false t (j + 1) = true then Fm.fixed else if sf false t j = true then .live else .free) = _
      rw [if_neg h, if_pos h']
    · have h : ¬ sf false t (j + 1) = true := h
      have h' : ¬ sf false t j = true := h'
      show some (if sf false t (j + 1) = true then Fm.fixed else if sf false t j = true then .live else .free) = _
      rw [if_neg h, if_neg h']
def cntT (p : Nat) (K : List Int) (i : Nat) : Nat := (((forms K).take i).map (lenF p)).foldl (· * ·) 1
theorem cntT_one (p : Nat) {K : List Int} (h : K ≠ []) : cntT p K 1 = p + 1 := by
  cases K with
  | nil => exact absurd rfl h
  | cons l t => show 1 * (p + 1) = p + 1; omega
theorem cntT_step {p : Nat} {K : List Int} {i : Nat} {f : Fm} (h : (forms K)[i]? = some f) : cntT p K (i + 1) = cntT p K i * lenF p f := by
  unfold cntT
  rw [List.take_succ, h, Option.toList_some, List.map_append, List.foldl_append]; rfl
theorem cntT_all (p : Nat) (K : List Int) : cntT p K K.length = cntK p K := by
  unfold cntT cntK
  rw [List.take_of_length_le (by rw [forms_len]; exact Nat.le_refl _)]
end K47

set_option Elab.async false
set_option maxRecDepth 100000
set_option maxHeartbeats 4000000
/-! K11: reckoned defs (printed by gen5.py) -/
namespace K11
open PySem PySem.Spec PyProof.Rows L2 L3
end K11

set_option Elab.async false
set_option maxRecDepth 100000
set_option maxHeartbeats 4000000
/-! K11: what each def promises -/
namespace K11
open PySem PySem.Spec PyProof.Rows L2 L3 LD LN LO LB LP
abbrev sp_require_count : DSp := LF.sp_require_count
theorem len_require_count : ∀ ds G q e, sp_require_count ds G q e → ds.length = 3 := LF.len_require_count
abbrev t_require_count := LF.t_require_count
theorem p_require_count (N : List Str) (hN : N.length = 3) : ∀ ds G q dw, sp_require_count ds G q dw → t_require_count dw { nx := fun _ G' => q (.val .non) G', rt := q } (start3 N ds) G := LF.p_require_count N hN
def sp_each_word : DSpG := fun ds G q _ => ∃ p n : Nat, ds = [.int (p : Int), .int (n : Int)] ∧ Pr p ∧ n ≤ 60 ∧ manyW p n ≤ 3000 ∧ q ((allW p n).map pt) G
def sp_word_at : DSp := fun ds G q _ => ∃ p n k : Nat, ds = [.int (p : Int), .int (n : Int), .int (k : Int)] ∧ Pr p ∧ n ≤ 60 ∧ k < manyW p n ∧ LN.Lim (k : Int) ∧ q (.val (pt (wrd p n k))) G
def sp_number_of : DSp := fun ds G q _ => ∃ (p : Nat) (ws : List Int) (s : Str), ds = [br p ws s] ∧ Pr p ∧ Pt p ws ∧ q (.val (.int (numW p ws))) G
def sp__law_wd_all : DSp := fun ds G q _ => ∃ p n : Nat, ds = [.int (p : Int), .int (n : Int)] ∧ 2 ≤ p ∧ p ≤ 31 ∧ n ≤ 60 ∧ (p + 1) ^ n ≤ 100000 ∧ q (.fr ((allW p n).map pt)) G
def sp__law_list_right : DSp := fun ds G q _ => ∃ (a : Addr) (R : Reg), ds = [.ref a] ∧ Dice a R G ∧ ∀ G', Dice a R G' → q (.val (.bl true)) G'
def sp__law_far_right : DSp := sp__law_list_right
def sp_law : DSp := fun ds G q _ => ∃ ns : List Int, ds = [.scr ns] ∧ ns.length ≤ 63 ∧ ∀ G', q (.val (.bl true)) G'
theorem len__law_wd_all : ∀ ds G q e, sp__law_wd_all ds G q e → ds.length = 2 := fun ds G q e ⟨_, _, h, _⟩ => by rw [h]; rfl
theorem len_law : ∀ ds G q e, sp_law ds G q e → ds.length = 1 := fun ds G q e ⟨_, h, _⟩ => by rw [h]; rfl
theorem law_holds : ∀ ns : List Int, ns.length ≤ 63 → sp_law [.scr ns] [] (fun r _ => r = .val (.bl true)) fun _ _ => False := fun ns hn => ⟨ns, rfl, hn, fun _ => rfl⟩
end K11

set_option Elab.async false
set_option maxRecDepth 100000
set_option maxHeartbeats 4000000
/-! K11: the plain readings (printed by gen5.py) -/
namespace K11
open PySem PySem.Spec PyProof.Rows L2 L3 LD LN LO LB LP
def t__law_wd_all (dw : Exc3 → Reg → Prop) : DSt :=
  (dSeq (dIfS (dTest (dOp oEq (dVar 1) (dC (.int (0))))) (dRet (dLst (dCons (dTup dNil) dNil))) dNext)
    (dSeq (dSet 2 (dLst (dCons (dTup dNil) dNil)))
    (dSeq (dFor (dRng1 (dCons (dOp oSub (dVar 1) (dC (.int (1)))) dNil)) (gNm 3) (dSeq (dSet 4 (dLst dNil))
    (dSeq (dFor (dIter (dCB bList (dPCons (dVar 2) dNil))) (gNm 5) (dDrop (dExt 4 (dLc (dRng2 (dCons (dUn uNeg (dC (.int (1)))) (dCons (dVar 0) dNil))) (gNm 7) dYes (dOp oAdd (dVar 5) (dTup (dCons (dVar 7) dNil))) [7]))))
    (dSet 2 (dVar 4)))))
    (dSeq (dSet 6 (dLst dNil))
    (dSeq (dFor (dIter (dVar 2)) (gNm 5) (dDrop (dExt 6 (dLc (dRng2 (dCons (dC (.int (1))) (dCons (dVar 0) dNil))) (gNm 7) dYes (dOp oAdd (dVar 5) (dTup (dCons (dVar 7) dNil))) [7]))))
    (dRet (dCB bSortW (dPCons (dOp oAdd (dVar 6) (dIf (dTest (dOp oEq (dVar 1) (dC (.int (1))))) (dLst (dCons (dTup (dCons (dUn uNeg (dC (.int (1)))) dNil)) dNil)) (dLst dNil))) dNil))))))))
def t_law (dw : Exc3 → Reg → Prop) : DSt :=
  (dSeq (dFor (dRng1 (dCons (dCB bMax (dPCons (dC (.int (1))) (dPCons (dCB bMin (dPCons (dC (.int (3))) (dPCons (dCB bLen (dPCons (dVar 0) dNil)) dNil))) dNil))) dNil)) (gNm 1) (dSeq (dSetReg 2 (dCall sp__law_dice (fun x _ G => dw x G) (dCons (dVar 0) (dCons (dVar 1) dNil))))
    (dIfS (dOr (dNot (dTest (dCall sp__law_list_right (fun x _ G => dw x G) (dCons (dVar 2) dNil)))) (dOr (dNot (dTest (dCall sp__law_far_right (fun x _ G => dw x G) (dCons (dVar 2) dNil)))) (dNot (dTest (dCall sp__law_far_right (fun x _ G => dw x G) (dCons (dVar 2) dNil)))))) (dRet (dC (.bl false))) dNext)))
    (dSeq (dSet 3 (dLst (dCons (dListG sp_each_word [] (fun x _ G => dw x G) (dCons (dC (.int (2))) (dCons (dC (.int (0))) dNil))) (dCons (dListG sp_each_word [] (fun x _ G => dw x G) (dCons (dC (.int (2))) (dCons (dC (.int (1))) dNil))) (dCons (dListG sp_each_word [] (fun x _ G => dw x G) (dCons (dC (.int (3))) (dCons (dC (.int (1))) dNil))) (dCons (dCall sp_word_at (fun x _ G => dw x G) (dCons (dC (.int (3))) (dCons (dC (.int (3))) (dCons (dC (.int (4))) dNil)))) dNil))))))
    (dRet (dAndV (dOp oEq (dVar 3) (dLst (dCons (dLst (dCons (dTup dNil) dNil)) (dCons (dLst (dCons (dTup (dCons (dUn uNeg (dC (.int (1)))) dNil)) (dCons (dTup (dCons (dC (.int (1))) dNil)) dNil))) (dCons (dLst (dCons (dTup (dCons (dUn uNeg (dC (.int (1)))) dNil)) (dCons (dTup (dCons (dC (.int (1))) dNil)) (dCons (dTup (dCons (dC (.int (2))) dNil)) dNil)))) (dCons (dTup (dCons (dUn uNeg (dC (.int (1)))) (dCons (dC (.int (1))) (dCons (dC (.int (1))) dNil)))) dNil)))))) (dOp oEq (dCall sp_number_of (fun x _ G => dw x G) (dCons (dMake "Branch" sp_Branch_init (dCons (dC (.int (3))) (dCons (dTup (dCons (dC (.int (0))) (dCons (dUn uNeg (dC (.int (1)))) (dCons (dC (.int (1))) dNil)))) dNil))) dNil)) (dC (.int (8))))))))
end K11

set_option Elab.async false
set_option maxRecDepth 100000
set_option maxHeartbeats 4000000
set_option exponentiation.threshold 2000
/-! K11: words by number -/
namespace K11
open PySem PySem.Spec PyProof.Rows L2 L3 LD LP LO LB
open LN (Pt Pr pt sh_pt eqv_pt sh_ints eqv_ints among_pts tru)
open LF (zi)
open LM (ifTq ifFq)
open LG (ifND)
local macro_rules | `(tactic| walk_at "ev") => `(tactic| repeat (first | refine lc_stop ?_ | refine for_stop ?_ | refine ⟨_, rfl, ?_⟩ | refine ⟨_, _, rfl, ?_⟩ | refine ⟨rfl, ?_⟩ | refine And.intro (by assumption) ?_ | refine ⟨by decide, ?_⟩ | refine ⟨ltL rfl, ?_⟩ | refine ⟨_, at0, ?_⟩ | refine ⟨_, at1, ?_⟩ | refine ⟨_, at2, ?_⟩ | refine ifT ?_ | refine ifF ?_ | refine ⟨_, _, _, rfl, ?_⟩ | refine ⟨⟨_, rfl⟩, ?_⟩ | refine ⟨_, _, _, _, rfl, ?_⟩))
theorem rng_len (n : Nat) : (rangeD 0 n).length = n := by unfold rangeD; rw [List.length_map, List.length_range]
theorem pow_big {b m : Nat} (hb : b ≤ 32) (hm : m ≤ 60) : b ^ m ≤ 2 ^ 300 := by
  refine Nat.le_trans (Nat.pow_le_pow_left hb m) ?_
  rw [show (32 : Nat) = 2 ^ 5 from rfl, ← Nat.pow_mul]
  exact Nat.pow_le_pow_right (by decide) (by omega)
theorem mulOk_r {i j : Int} (h1 : -(2 ^ 64) < j) (h2 : j < 2 ^ 64) : MulOk i j := .inl (.inr ⟨h1, h2⟩)
/-- the letters, least significant first -/
def low (b : Nat) : Nat → Nat → List Int
  | 0, _ => []
  | m + 1, x => (((x % b : Nat) : Int) - 1) :: low b m (x / b)
theorem pr_nat {p : Nat} (h : Pr (p : Int)) : 2 ≤ p ∧ p ≤ 31 := by
  have h : (p : Int) ∈ LN.primes := h
  have : (p : Int) ∈ ([2, 3, 5, 7, 11, 13, 17, 19, 23, 29, 31] : List Int) := h
  simp only [List.mem_cons, List.not_mem_nil, or_false] at this
  omega
end K11

set_option Elab.async false
set_option maxRecDepth 100000
set_option maxHeartbeats 4000000
set_option exponentiation.threshold 2000
/-! K11: all words in order, the law's defs -/
namespace K11
open PySem PySem.Spec PyProof.Rows L2 L3 LD LP LO LB
open LN (Pt Pr pt sh_pt eqv_pt sh_ints eqv_ints among_pts tru)
open LF (zi)
open LM (ifTq ifFq)
open LG (ifND)
local macro_rules | `(tactic| walk_at "ev") => `(tactic| repeat (first | refine lc_stop ?_ | refine for_stop ?_ | refine ⟨_, rfl, ?_⟩ | refine ⟨_, _, rfl, ?_⟩ | refine ⟨rfl, ?_⟩ | refine And.intro (by assumption) ?_ | refine ⟨by decide, ?_⟩ | refine ⟨ltL rfl, ?_⟩ | refine ⟨_, at0, ?_⟩ | refine ⟨_, at1, ?_⟩ | refine ⟨_, at2, ?_⟩ | refine ifT ?_ | refine ifF ?_ | refine ⟨_, _, _, rfl, ?_⟩ | refine ⟨⟨_, rfl⟩, ?_⟩ | refine ⟨_, _, _, _, rfl, ?_⟩))
theorem mem_lets {a : Int} {n : Nat} {x : Int} : x ∈ lets a n ↔ a ≤ x ∧ x < a + n := by
  unfold lets
  rw [List.mem_map]
  constructor
  · rintro ⟨k, hk, rfl⟩
    have := List.mem_range.mp hk
    omega
  · rintro ⟨h1, h2⟩
    exact ⟨(x - a).toNat, List.mem_range.mpr (by omega), by omega⟩
theorem grow_len (ls : List Int) (W : List (List Int)) : (grow ls W).length = W.length * ls.length := by
  unfold grow
  induction W with
  | nil => simp
  | cons w W ih => rw [List.flatMap_cons, List.length_append, ih, List.length_map, List.length_cons, Nat.add_mul, Nat.one_mul, Nat.add_comm]
theorem mem_grow {ls : List Int} {W : List (List Int)} {v : List Int} : v ∈ grow ls W ↔ ∃ w ∈ W, ∃ l ∈ ls, v = w ++ [l] := by
  unfold grow
  rw [List.mem_flatMap]
  constructor
  · rintro ⟨w, hw, hv⟩
    obtain ⟨l, hl, rfl⟩ := List.mem_map.mp hv
    exact ⟨w, hw, l, hl, rfl⟩
  · rintro ⟨w, hw, l, hl, rfl⟩
    exact ⟨w, hw, List.mem_map.mpr ⟨l, hl, rfl⟩⟩
theorem allw_len (p : Nat) : ∀ i, (allw p i).length = (p + 1) ^ i
  | 0 => rfl
  | i + 1 => by rw [allw, grow_len, allw_len p i, show (lets (-1) (p + 1)).length = p + 1 by unfold lets; rw [List.length_map, List.length_range], Nat.pow_succ]
theorem mem_allw (p : Nat) : ∀ (i : Nat) (w : List Int), w ∈ allw p i ↔ w.length = i ∧ ∀ x ∈ w, -1 ≤ x ∧ x < p
  | 0, w => by
    rw [allw, List.mem_singleton]
    constructor
    · rintro rfl
      exact ⟨rfl, fun x hx => (nomatch hx)⟩
    · rintro ⟨e, _⟩
      exact List.length_eq_zero_iff.mp e
  | i + 1, w => by
    rw [allw, mem_grow]
    constructor
    · rintro ⟨v, hv, l, hl, rfl⟩
      obtain ⟨h1, h2⟩ := (mem_allw p i v).mp hv
      have hl := mem_lets.mp hl
      refine ⟨by rw [List.length_append, h1]; rfl, fun x hx => ?_⟩
      rcases List.mem_append.mp hx with hx | hx
      · exact h2 x hx
      · rw [List.mem_singleton.mp hx]; omega
    · rintro ⟨h1, h2⟩
      cases hq : w.getLast? with
      | none =>
        rw [List.getLast?_eq_none_iff.mp hq] at h1
        cases h1
      | some l =>
        obtain ⟨ys, rfl⟩ := List.getLast?_eq_some_iff.mp hq
        rw [List.length_append] at h1
        have h1 : ys.length + 1 = i + 1 := h1
        have := h2 l (List.mem_append.mpr (.inr List.mem_cons_self))
        exact ⟨ys, (mem_allw p i _).mpr ⟨by omega, fun x hx => h2 x (List.mem_append.mpr (.inl hx))⟩, l, mem_lets.mpr (by omega), rfl⟩
theorem rng_lets (a : Int) (n : Nat) : rangeD a n = (lets a n).map D.int := by
  unfold rangeD lets
  rw [List.map_map]; rfl
def appF (w : List Int) : D → Option D
  | .int l => some (pt (w ++ [l]))
  | _ => none
theorem app_fm (w : List Int) : ∀ ls : List Int, (ls.map D.int).filterMap (appF w) = (ls.map fun l => w ++ [l]).map pt
  | [] => rfl
  | l :: ls => by rw [List.map_cons, List.filterMap_cons, show appF w (.int l) = some (pt (w ++ [l])) from rfl, app_fm w ls]; rfl
theorem p__law_wd_all : ∀ ds G q dw, sp__law_wd_all ds G q dw → t__law_wd_all dw { nx := fun _ G' => q (.val .non) G', rt := q } (start3 ["_law_prime", "_law_length_here", "_law_found", "_law_turn", "_law_longer", "_law_begun", "_law_words", "_law_letter_here"] ds) G := by
  intro ds G q dw h
  unfold t__law_wd_all
  obtain ⟨p, n, rfl, hp2, hp31, hn, hb, h⟩ := h
  have hS := sizeLine_eq
  walk_at "ev"
  by_cases h0 : n = 0
  · subst h0
    walk_at "ev"
    exact h
  rw [← sort_all hp2 (by omega : 1 ≤ n)] at h
  refine ifFq (by show D.eqv (.int (n : Int)) (.int 0) = false; rw [eqv_int]; exact decide_eq_false (by omega)) ?_
  walk_at "ev"
  refine ⟨by omega, by omega, ?_⟩
  rw [show ((n : Int) - 1).toNat = n - 1 by omega]
  have hrl : (rangeD 0 (n - 1)).length = n - 1 := by unfold rangeD; rw [List.length_map, List.length_range]
  have hpw : ∀ i, i ≤ n - 1 → (p + 1) ^ i * (p + 1) ≤ 100000 := fun i hi => by
    rw [← Nat.pow_succ]
    exact Nat.le_trans (Nat.pow_le_pow_right (by omega) (by omega)) hb
  refine for_stop (.go ?_)
  refine for_ind (fun ds E G2 => G2 = G ∧ ∃ (i : Nat) (s2 s3 s4 s5 : Sl3), i + ds.length = n - 1 ∧ (s2 = .own ((allw p i).map pt) ∨ s2 = .val (.lst ((allw p i).map pt))) ∧ E = [.val (.int (p : Int)), .val (.int (n : Int)), s2, s3, s4, s5, .no, .no]) (fun E G2 hI => ?_) (fun d ds E G2 nx hI hn => ?_) _ _ _ ⟨rfl, 0, _, _, _, _, by rw [hrl]; omega, .inl rfl, rfl⟩
  · obtain ⟨rfl, i, s2, s3, s4, s5, hi, hs2, rfl⟩ := hI
    have hi : i = n - 1 := by simpa using hi
    subst hi
    have hfin := h
    have hal := allw_len p (n - 1)
    have hpl := hpw (n - 1) (Nat.le_refl _)
    have hmem := mem_allw p (n - 1)
    generalize allw p (n - 1) = W at hs2 hfin hal hmem
    have go : ∀ s2 s4 s5 : Sl3, dForL (gNm 5) (dDrop (dExt 6 (dLc (dRng2 (dCons (dC (.int (1))) (dCons (dVar 0) dNil))) (gNm 7) dYes (dOp oAdd (dVar 5) (dTup (dCons (dVar 7) dNil))) [7]))) (W.map pt)
        { nx := dRet (dCB bSortW (dPCons (dOp oAdd (dVar 6) (dIf (dTest (dOp oEq (dVar 1) (dC (.int (1))))) (dLst (dCons (dTup (dCons (dUn uNeg (dC (.int (1)))) dNil)) dNil)) (dLst dNil))) dNil)) { nx := fun _ G' => q (.val .non) G', rt := q }, rt := q }
        [.val (.int (p : Int)), .val (.int (n : Int)), s2, s3, s4, s5, .own [], .no] G2 := fun s2 s4 s5 => by
      refine for_ind (fun ds E G3 => G3 = G2 ∧ ∃ (done rest : List (List Int)) (s5 : Sl3), W = done ++ rest ∧ ds = rest.map pt ∧ E = [.val (.int (p : Int)), .val (.int (n : Int)), s2, s3, s4, s5, .own ((grow (lets 1 (p - 1)) done).map pt), .no]) (fun E G3 hI => ?_) (fun d ds E G3 nx hI hn => ?_) _ _ _ ⟨rfl, [], W, _, rfl, rfl, rfl⟩
      · obtain ⟨rfl, done, rest, s5, e, e2, rfl⟩ := hI
        have : rest = [] := List.map_eq_nil_iff.mp e2.symm
        subst this
        rw [List.append_nil] at e
        subst e
        walk_at "ev"
        have hgl : (grow (lets 1 (p - 1)) W).length ≤ 100000 := by
          rw [grow_len, hal, show (lets 1 (p - 1)).length = p - 1 by unfold lets; rw [List.length_map, List.length_range]]
          exact Nat.le_trans (Nat.mul_le_mul_left _ (by omega)) hpl
        have hgne : ∀ w ∈ grow (lets 1 (p - 1)) W, w ≠ [] := fun w hw z => by
          obtain ⟨v, _, l, _, e⟩ := mem_grow.mp hw
          rw [z] at e
          exact absurd e.symm (by simp)
        by_cases hn1 : n = 1
        · rw [if_pos hn1] at hfin
          refine ifTq (by show D.eqv (.int (n : Int)) (.int 1) = true; rw [eqv_int]; exact decide_eq_true (by omega)) ?_
          walk_at "ev"
          refine ⟨by rw [List.length_map, hS]; show _ + 1 ≤ _; omega, ?_⟩
          walk_at "ev"
          refine ⟨grow (lets 1 (p - 1)) W ++ [[-1]], by rw [List.map_append]; rfl, fun w hw => ?_, ?_⟩
          · rcases List.mem_append.mp hw with hw | hw
            · exact hgne w hw
            · rw [List.mem_singleton.mp hw]; simp
          walk_at "ev"
          exact hfin
        · rw [if_neg hn1, List.append_nil] at hfin
          refine ifFq (by show D.eqv (.int (n : Int)) (.int 1) = false; rw [eqv_int]; exact decide_eq_false (by omega)) ?_
          walk_at "ev"
          refine ⟨by rw [List.length_map, hS]; show _ + 0 ≤ _; omega, ?_⟩
          walk_at "ev"
          refine ⟨grow (lets 1 (p - 1)) W, by rw [List.append_nil]; rfl, hgne, ?_⟩
          walk_at "ev"
          exact hfin
      · obtain ⟨rfl, done, rest, s5, e, e2, rfl⟩ := hI
        cases rest with
        | nil => cases e2
        | cons w rest =>
          obtain ⟨e3, e4⟩ := List.cons.inj e2
          subst e3 e4
          have hwl : w.length ≤ 60 := by
            have := ((hmem w).mp (by rw [e]; simp)).1
            omega
          have hdl : (grow (lets 1 (p - 1)) (done ++ [w])).length ≤ 100000 := by
            rw [grow_len, show (lets 1 (p - 1)).length = p - 1 by unfold lets; rw [List.length_map, List.length_range]]
            have hle : (done ++ [w]).length ≤ W.length := by rw [e]; simp only [List.length_append, List.length_cons, List.length_nil]; omega
            exact Nat.le_trans (Nat.mul_le_mul hle (show p - 1 ≤ p + 1 by omega)) (by rw [hal]; exact hpl)
          rw [grow_app, grow_one, List.length_append] at hdl
          clear h hfin
          walk_at "ev"
          refine ⟨⟨by decide, by decide, by omega, by omega⟩, ?_⟩
          rw [show ((p : Int) - 1).toNat = p - 1 by omega, rng_lets]
          refine ⟨by rw [List.length_map, hS]; unfold lets; rw [List.length_map, List.length_range]; omega, ?_⟩
          refine lc_pure0 (fun d => ∃ i : Int, d = .int i) (appF w) (fun d k1 k2 hd e1 e2 => ?_) (fun d hd => ?_) ?_
          · obtain ⟨i, rfl⟩ := hd
            clear hn
            walk_at "ev"
            refine ⟨by rw [List.length_map, hS]; show _ + 1 ≤ _; omega, ?_⟩
            walk_at "ev"
            refine e1 _ _ ?_ rfl
            show some (pt (w ++ [i])) = _
            unfold pt
            rw [List.map_append]; rfl
          · obtain ⟨i, _, rfl⟩ := List.mem_map.mp hd
            exact ⟨i, rfl⟩
          rw [app_fm]
          walk_at "ev"
          refine ⟨by rw [List.length_map, List.length_map, hS]; omega, ?_⟩
          refine hn _ _ ⟨rfl, done ++ [w], rest, .val (pt w), by rw [e]; simp, rfl, ?_⟩
          rw [grow_app, grow_one, List.map_append]; rfl
    rcases hs2 with rfl | rfl
    · walk_at "ev"
      exact .go (go _ _ _)
    · walk_at "ev"
      exact .go (go _ _ _)
  · obtain ⟨rfl, i, s2, s3, s4, s5, hi, hs2, rfl⟩ := hI
    rw [List.length_cons] at hi
    clear h
    have hnx : ∀ s3 s4 s5 : Sl3, nx [.val (.int (p : Int)), .val (.int (n : Int)), .val (.lst ((allw p (i + 1)).map pt)), s3, s4, s5, .no, .no] G2 := fun s3 s4 s5 => hn _ _ ⟨rfl, i + 1, _, s3, s4, s5, by omega, .inr rfl, rfl⟩
    clear hn
    have hal := allw_len p i
    have hpl := hpw i (by omega)
    have hmem := mem_allw p i
    rw [allw] at hnx
    generalize allw p i = W at hs2 hnx hal hmem
    have go : ∀ (s2 s3 s5 : Sl3) (Dn : Ends3), (∀ s5 : Sl3, Dn.nx [.val (.int (p : Int)), .val (.int (n : Int)), s2, s3, .own ((grow (lets (-1) (p + 1)) W).map pt), s5, .no, .no] G2) →
        dForL (gNm 5) (dDrop (dExt 4 (dLc (dRng2 (dCons (dUn uNeg (dC (.int (1)))) (dCons (dVar 0) dNil))) (gNm 7) dYes (dOp oAdd (dVar 5) (dTup (dCons (dVar 7) dNil))) [7]))) (W.map pt) Dn
        [.val (.int (p : Int)), .val (.int (n : Int)), s2, s3, .own [], s5, .no, .no] G2 := fun s2 s3 s5 Dn hD => by
      refine for_ind (fun ds E G3 => G3 = G2 ∧ ∃ (done rest : List (List Int)) (s5 : Sl3), W = done ++ rest ∧ ds = rest.map pt ∧ E = [.val (.int (p : Int)), .val (.int (n : Int)), s2, s3, .own ((grow (lets (-1) (p + 1)) done).map pt), s5, .no, .no]) (fun E G3 hI => ?_) (fun d ds E G3 nx hI hn => ?_) _ _ _ ⟨rfl, [], W, _, rfl, rfl, rfl⟩
      · obtain ⟨rfl, done, rest, s5, e, e2, rfl⟩ := hI
        have : rest = [] := List.map_eq_nil_iff.mp e2.symm
        subst this
        rw [List.append_nil] at e
        subst e
        exact hD _
      · obtain ⟨rfl, done, rest, s5, e, e2, rfl⟩ := hI
        cases rest with
        | nil => cases e2
        | cons w rest =>
          obtain ⟨e3, e4⟩ := List.cons.inj e2
          subst e3 e4
          have hwl : w.length ≤ 60 := by
            have := ((hmem w).mp (by rw [e]; simp)).1
            omega
          have hdl : (grow (lets (-1) (p + 1)) (done ++ [w])).length ≤ 100000 := by
            rw [grow_len, show (lets (-1) (p + 1)).length = p + 1 by unfold lets; rw [List.length_map, List.length_range]]
            have hle : (done ++ [w]).length ≤ W.length := by rw [e]; simp only [List.length_append, List.length_cons, List.length_nil]; omega
            exact Nat.le_trans (Nat.mul_le_mul_right _ hle) (by rw [hal]; exact hpl)
          rw [grow_app, grow_one, List.length_append] at hdl
          clear hD hnx
          walk_at "ev"
          refine ⟨⟨by decide, by decide, by omega, by omega⟩, ?_⟩
          rw [show ((p : Int) - -1).toNat = p + 1 by omega, rng_lets]
          refine ⟨by rw [List.length_map, hS]; unfold lets; rw [List.length_map, List.length_range]; omega, ?_⟩
          refine lc_pure0 (fun d => ∃ i : Int, d = .int i) (appF w) (fun d k1 k2 hd e1 e2 => ?_) (fun d hd => ?_) ?_
          · obtain ⟨i, rfl⟩ := hd
            clear hn
            walk_at "ev"
            refine ⟨by rw [List.length_map, hS]; show _ + 1 ≤ _; omega, ?_⟩
            walk_at "ev"
            refine e1 _ _ ?_ rfl
            show some (pt (w ++ [i])) = _
            unfold pt
            rw [List.map_append]; rfl
          · obtain ⟨i, _, rfl⟩ := List.mem_map.mp hd
            exact ⟨i, rfl⟩
          rw [app_fm]
          walk_at "ev"
          refine ⟨by rw [List.length_map, List.length_map, hS]; omega, ?_⟩
          refine hn _ _ ⟨rfl, done ++ [w], rest, .val (pt w), by rw [e]; simp, rfl, ?_⟩
          rw [grow_app, grow_one, List.map_append]; rfl
    rcases hs2 with rfl | rfl
    · walk_at "ev"
      refine .go ?_
      refine go _ _ _ _ ?_
      intro s5
      walk_at "ev"
      exact hnx _ _ _
    · walk_at "ev"
      refine .go ?_
      refine go _ _ _ _ ?_
      intro s5
      walk_at "ev"
      exact hnx _ _ _
theorem lt_big {t : Int} (h : t < 2 ^ 62) : t < BIG := Int.lt_of_lt_of_le h (by unfold BIG; decide +kernel)
theorem sh_pts (W : List (List Int)) : (D.lst (W.map pt)).sh = true := by
  rw [sh_lst, List.all_map, List.all_eq_true]
  intro w _
  show (List.map D.int w).all (shl (shl (shl sh0))) = true
  exact all_shl_ints w
theorem eqv_pts (W V : List (List Int)) : D.eqv (.lst (W.map pt)) (.lst (V.map pt)) = decide (W = V) := by rw [eqv_lst]; exact LN.eqvL_pts W V
theorem allW_len (p n : Nat) : (allW p n).length = manyW p n := by unfold allW; rw [List.length_map, List.length_range]
theorem mem_allW {p n : Nat} {w : List Int} (h : w ∈ allW p n) : ∃ k, k < manyW p n ∧ wrd p n k = w := by
  unfold allW at h
  obtain ⟨k, hk, e⟩ := List.mem_map.mp h
  exact ⟨k, List.mem_range.mp hk, e⟩
theorem manyW_bd {p n : Nat} (hp : p ≤ 7) (hn : n ≤ 60) : manyW p n ≤ 7 * 8 ^ 59 := by
  unfold manyW
  split
  · exact Nat.le_trans (show 1 ≤ 7 * 8 ^ 0 by decide) (Nat.mul_le_mul_left _ (Nat.pow_le_pow_right (by decide) (by decide)))
  split
  · exact Nat.le_trans (show p ≤ 7 * 8 ^ 0 by omega) (Nat.mul_le_mul_left _ (Nat.pow_le_pow_right (by decide) (by decide)))
  · exact Nat.mul_le_mul (by omega) (Nat.le_trans (Nat.pow_le_pow_left (show p + 1 ≤ 8 by omega) _) (Nat.pow_le_pow_right (by decide) (by omega)))
theorem lim_of {p n k : Nat} (hp : p ≤ 7) (hn : n ≤ 60) (hk : k < manyW p n) : LN.Lim (k : Int) := by
  have h1 := Nat.lt_of_lt_of_le hk (manyW_bd hp hn)
  refine ⟨Int.lt_of_lt_of_le (by decide) (Int.natCast_nonneg k), ?_⟩
  exact Int.lt_of_lt_of_le (Int.ofNat_lt.mpr h1) (show ((7 * 8 ^ 59 : Nat) : Int) ≤ 10 ^ 60 by decide +kernel)
theorem f20 : manyW 2 0 ≤ 3000 := by decide
theorem f21 : manyW 2 1 ≤ 3000 := by decide
theorem f31 : manyW 3 1 ≤ 3000 := by decide
theorem f33 : 4 < manyW 3 3 := by decide
theorem a20 : allW 2 0 = [[]] := by decide
theorem a21 : allW 2 1 = [[-1], [1]] := by decide
theorem a31 : allW 3 1 = [[-1], [1], [2]] := by decide
theorem w334 : wrd 3 3 4 = [-1, 1, 1] := by decide
theorem n3 : numW 3 [0, -1, 1] = 8 := by decide
theorem p_law : ∀ ds G q dw, sp_law ds G q dw → t_law dw { nx := fun _ G' => q (.val .non) G', rt := q } (start3 ["_law_script", "_law_spot", "_law_dice_here", "_law_told"] ds) G := by
  intro ds G q dw h
  unfold t_law
  obtain ⟨ns, rfl, hn, h⟩ := h
  walk_at "ev"
  have hM := spots_le (m := 3) (n := (ns.length : Int)) (by decide) (by decide)
  refine ⟨Int.le_trans (by decide) hM.1, Int.lt_of_le_of_lt hM.2 (by decide), ?_⟩
  refine for_stop (.go ?_)
  refine for_ind (fun ds E G => (∀ d ∈ ds, ∃ k : Nat, d = .int (k : Int)) ∧ ∃ s1 s2, E = [.val (.scr ns), s1, s2, .no]) (fun E G hI => ?_) (fun d ds E G nx hI hn => ?_) _ _ _ ⟨fun d hd => ?_, _, _, rfl⟩
  · obtain ⟨_, s1, s2, rfl⟩ := hI
    walk_at "ev"
    refine ⟨(show (2 : Int) ∈ LN.primes by decide), by decide, f20, ?_⟩
    walk_at "ev"
    refine ⟨(show (2 : Int) ∈ LN.primes by decide), by decide, f21, ?_⟩
    walk_at "ev"
    refine ⟨(show (3 : Int) ∈ LN.primes by decide), by decide, f31, ?_⟩
    walk_at "ev"
    refine ⟨(show (3 : Int) ∈ LN.primes by decide), by decide, f33, lim_of (by decide) (by decide) f33, ?_⟩
    rw [a20, a21, a31, w334]
    walk_at "ev"
    have hp3 : Pr (((3 : Nat) : Int)) := (show (3 : Int) ∈ LN.primes by decide)
    have hpt3 : Pt (((3 : Nat) : Int)) [0, -1, 1] := ⟨by decide, by decide⟩
    have hwd3 : Wd [0, -1, 1] := .inr (.inr ⟨1, rfl, by decide⟩)
    refine ⟨3, [0, -1, 1], rfl, hp3, hpt3, hwd3, fun s => ?_⟩
    walk_at "ev"
    rw [show numW ((3 : Nat) : Int) [0, -1, 1] = 8 from n3]
    exact h _
  · obtain ⟨hd, s1, s2, rfl⟩ := hI
    obtain ⟨k, rfl⟩ := hd d List.mem_cons_self
    walk_at "ev"
    intro l m c
    walk_at "ev"
    intro a
    walk_at "ev"
    refine ⟨a, G, rfl, ⟨l, m, c, rfl⟩, fun G1 hd1 => ?_⟩
    walk_at "ev"
    refine ⟨a, G, rfl, hd1, fun G2 hd2 => ?_⟩
    walk_at "ev"
    refine ⟨a, G, rfl, hd2, fun G3 hd3 => ?_⟩
    walk_at "ev"
    exact hn _ _ ⟨fun z hz => hd z (List.mem_cons_of_mem _ hz), _, _, rfl⟩
  · unfold rangeD at hd
    obtain ⟨k, _, rfl⟩ := List.mem_map.mp hd
    exact ⟨k, by rw [Int.zero_add]⟩
end K11

set_option Elab.async false
set_option maxRecDepth 100000
set_option maxHeartbeats 4000000
/-! K47: what each def promises -/
namespace K47
open PySem PySem.Spec PyProof.Rows L2 L3 LD LN LP LO LB LC LV LW LX LK LY
abbrev sp_require_count : DSp := LF.sp_require_count
theorem len_require_count : ∀ ds G q e, sp_require_count ds G q e → ds.length = 3 := LF.len_require_count
abbrev t_require_count := LF.t_require_count
theorem p_require_count (N : List Str) (hN : N.length = 3) : ∀ ds G q dw, sp_require_count ds G q dw → t_require_count dw { nx := fun _ G' => q (.val .non) G', rt := q } (start3 N ds) G := LF.p_require_count N hN
abbrev sp__law_wd_all : DSp := K11.sp__law_wd_all
theorem len__law_wd_all : ∀ ds G q e, sp__law_wd_all ds G q e → ds.length = 2 := K11.len__law_wd_all
abbrev t__law_wd_all := K11.t__law_wd_all
def lst (r : List Int) : D := .lst (r.map D.int)
def sp_is_kind_word : DSp := fun ds G q _ => ∃ K : List Int, ds = [pt K] ∧ Kd K ∧ K.length ≤ 60 ∧ tru q G
def sp_require_asked : DSp := fun ds G q _ => ∃ (p : Nat) (K : List Int) (n : Nat), ds = [.int (p : Int), pt K, .int (n : Int)] ∧ Pr (p : Int) ∧ Kd K ∧ K.length ≤ 60 ∧ n ≤ 60 ∧ q (.val .non) G
def sp_letters_let : DSp := fun ds G q _ => ∃ (p : Nat) (f : Fm) (l : Int), ds = [.int (p : Int), .str (tx f), .int l] ∧ 2 ≤ p ∧ p ≤ 31 ∧ q (.fr ((letF p f l).map D.int)) G
def sp_product_of : DSp := fun ds G q _ => ∃ rs : List (List Int), ds = [.lst (rs.map lst)] ∧ (∀ r ∈ rs, r.length ≤ 1000) ∧ rs.length ≤ 1000 ∧ q (.val (.int (lens rs : Nat))) G
def sp_choices : DSp := fun ds G q _ => ∃ (p : Nat) (K : List Int) (n : Nat), ds = [.int (p : Int), pt K, .int (n : Int)] ∧ 2 ≤ p ∧ p ≤ 31 ∧ Kd K ∧ K.length ≤ 60 ∧ n ≤ 60 ∧ (n < K.length → q (.val .non) G) ∧ (K.length ≤ n → q (.fr ((rowsOf p K n).map lst)) G)
def sp_many_of_kind : DSp := fun ds G q _ => ∃ (p : Nat) (K : List Int) (n : Nat), ds = [.int (p : Int), pt K, .int (n : Int)] ∧ 2 ≤ p ∧ p ≤ 31 ∧ Kd K ∧ K.length ≤ 60 ∧ n ≤ 60 ∧ q (.val (.int (many p K n : Nat))) G
def sp_count_of_kind : DSp := fun ds G q _ => ∃ (p : Nat) (K : List Int) (n : Nat), ds = [.int (p : Int), pt K, .int (n : Int)] ∧ Pr (p : Int) ∧ Kd K ∧ K.length ≤ 60 ∧ n ≤ 60 ∧ q (.val (.int (many p K n : Nat))) G
/-- the words of a kind, as they are listed -/
def wordsK (p : Nat) (K : List Int) (n : Nat) : List (List Int) := if n < K.length then [] else prods (rowsOf p K n)
def sp_each_of_kind : DSpG := fun ds G q _ => ∃ (p : Nat) (K : List Int) (n : Nat), ds = [.int (p : Int), pt K, .int (n : Int)] ∧ Pr (p : Int) ∧ Kd K ∧ K.length ≤ 60 ∧ n ≤ 60 ∧ many p K n ≤ 3000 ∧ q ((wordsK p K n).map pt) G
def sp__law_kd_raised : DSp := fun ds G q _ => ∃ p n : Nat, ds = [.int (p : Int), .int (n : Int)] ∧ p ≤ 31 ∧ n ≤ 60 ∧ q (.val (.int (p ^ n : Nat))) G
def sp__law_counted : DSp := fun ds G q _ => ∃ (p : Nat) (K : List Int) (n : Nat), ds = [.int (p : Int), pt K, .int (n : Int)] ∧ 2 ≤ p ∧ p ≤ 31 ∧ Kd K ∧ K.length ≤ 60 ∧ n ≤ 60 ∧ q (.val (.int (many p K n : Nat))) G
def sp__law_wd_pair : DSp := fun ds G q _ => ∃ (a : Addr) (R : Reg), ds = [.ref a] ∧ Dice a R G ∧ ∀ (p : Nat) (ws : List Int) G', Pr (p : Int) → Pt p ws → Wd ws → ws.length ≤ 9 → Dice a R G' → q (.val (.tup [.int (p : Int), pt ws])) G'
def sp__law_is_listed : DSp := fun ds G q _ => ∃ (a : Addr) (R : Reg), ds = [.ref a] ∧ Dice a R G ∧ ∀ G', Dice a R G' → q (.val (.bl true)) G'
def sp__law_is_counted : DSp := sp__law_is_listed
def sp_law : DSp := fun ds G q _ => ∃ ns : List Int, ds = [.scr ns] ∧ ns.length ≤ 63 ∧ ∀ G', q (.val (.bl true)) G'
theorem len_is_kind_word : ∀ ds G q e, sp_is_kind_word ds G q e → ds.length = 1 := fun ds G q e ⟨_, h, _⟩ => by rw [h]; rfl
theorem len_require_asked : ∀ ds G q e, sp_require_asked ds G q e → ds.length = 3 := fun ds G q e ⟨_, _, _, h, _⟩ => by rw [h]; rfl
theorem len_letters_let : ∀ ds G q e, sp_letters_let ds G q e → ds.length = 3 := fun ds G q e ⟨_, _, _, h, _⟩ => by rw [h]; rfl
theorem len_product_of : ∀ ds G q e, sp_product_of ds G q e → ds.length = 1 := fun ds G q e ⟨_, h, _⟩ => by rw [h]; rfl
theorem len_choices : ∀ ds G q e, sp_choices ds G q e → ds.length = 3 := fun ds G q e ⟨_, _, _, h, _⟩ => by rw [h]; rfl
theorem len_many_of_kind : ∀ ds G q e, sp_many_of_kind ds G q e → ds.length = 3 := fun ds G q e ⟨_, _, _, h, _⟩ => by rw [h]; rfl
theorem len_count_of_kind : ∀ ds G q e, sp_count_of_kind ds G q e → ds.length = 3 := fun ds G q e ⟨_, _, _, h, _⟩ => by rw [h]; rfl
theorem len_each_of_kind : ∀ ds G q e, sp_each_of_kind ds G q e → ds.length = 3 := fun ds G q e ⟨_, _, _, h, _⟩ => by rw [h]; rfl
theorem len__law_kd_raised : ∀ ds G q e, sp__law_kd_raised ds G q e → ds.length = 2 := fun ds G q e ⟨_, _, h, _⟩ => by rw [h]; rfl
theorem len__law_counted : ∀ ds G q e, sp__law_counted ds G q e → ds.length = 3 := fun ds G q e ⟨_, _, _, h, _⟩ => by rw [h]; rfl
theorem len__law_wd_pair : ∀ ds G q e, sp__law_wd_pair ds G q e → ds.length = 1 := fun ds G q e ⟨_, _, h, _⟩ => by rw [h]; rfl
theorem len__law_is_listed : ∀ ds G q e, sp__law_is_listed ds G q e → ds.length = 1 := fun ds G q e ⟨_, _, h, _⟩ => by rw [h]; rfl
theorem len__law_is_counted : ∀ ds G q e, sp__law_is_counted ds G q e → ds.length = 1 := len__law_is_listed
theorem len_law : ∀ ds G q e, sp_law ds G q e → ds.length = 1 := fun ds G q e ⟨_, h, _⟩ => by rw [h]; rfl
theorem law_holds : ∀ ns : List Int, ns.length ≤ 63 → sp_law [.scr ns] [] (fun r _ => r = .val (.bl true)) fun _ _ => False := fun ns hn => ⟨ns, rfl, hn, fun _ => rfl⟩
end K47

set_option Elab.async false
set_option maxRecDepth 100000
set_option maxHeartbeats 4000000
/-! K47: the plain readings (printed by gen5.py) -/
namespace K47
open PySem PySem.Spec PyProof.Rows L2 L3 LD LN LP LO LB LC LV LK
def t_letters_let (dw : Exc3 → Reg → Prop) : DSt :=
  (dSeq (dIfS (dTest (dOp oEq (dVar 1) (dC (.str "fixed")))) (dRet (dLst (dCons (dVar 2) dNil))) dNext)
    (dRet (dLstRg (dOp oIxU (dC (.dcK [.inr "first", .inr "not zero", .inr "free"] [.int (-1), .int (1), .int (0)])) (dVar 1)) (dVar 0))))
def t_product_of (dw : Exc3 → Reg → Prop) : DSt :=
  (dSeq (dSet 1 (dC (.int (1))))
    (dSeq (dFor (dIter (dVar 0)) (gNm 2) (dAug 1 oMulI (dCB bLen (dPCons (dVar 2) dNil))))
    (dRet (dVar 1))))
def t__law_kd_raised (dw : Exc3 → Reg → Prop) : DSt :=
  (dSeq (dSet 2 (dC (.int (1))))
    (dSeq (dFor (dRng1 (dCons (dVar 1) dNil)) (gNm 3) (dSet 2 (dOp oMul (dVar 2) (dVar 0))))
    (dRet (dVar 2))))
def t_choices (dw : Exc3 → Reg → Prop) : DSt :=
  (dSeq (dIfS (dTest (dOp oLt (dVar 2) (dCB bLen (dPCons (dVar 1) dNil)))) (dRet (dC .non)) dNext)
    (dSeq (dIfS (dAnd (dTest (dOp oEq (dVar 1) (dTup dNil))) (dTest (dOp oGt (dVar 2) (dC (.int (0)))))) (dSet 3 (dLst (dCons (dLstRg (dC (.int (-1))) (dVar 0)) (dStar (dLc (dRng1 (dCons (dOp oSub (dVar 2) (dC (.int (1)))) dNil)) (gNm 4) dYes (dLstRg1 (dVar 0)) [4]) dNil)))) (dSeq (dSet 3 (dLc (dZipN (dCons (dCall sp_forms_of (fun x _ G => dw x G) (dCons (dVar 1) dNil)) (dCons (dVar 1) dNil))) (gTp 2 (gsCons (gNm 5) (gsCons (gNm 6) gsNil))) dYes (dCall sp_letters_let dw0 (dCons (dVar 0) (dCons (dVar 5) (dCons (dVar 6) dNil)))) [5, 6]))
    (dSet 3 (dLst (dStar (dVar 3) (dStar (dLc (dRng1 (dCons (dOp oSub (dVar 2) (dCB bLen (dPCons (dVar 1) dNil))) dNil)) (gNm 4) dYes (dLstRg1 (dVar 0)) [4]) dNil))))))
    (dSeq (dIfS (dTest (dOp oGt (dVar 2) (dC (.int (0))))) (dStore (dLc (dIter (dOp oIx (dVar 3) (dUn uNeg (dC (.int (1)))))) (gNm 6) (dAnd (dTest (dOp oNe (dVar 6) (dC (.int (0))))) (dOr (dTest (dOp oGt (dVar 6) (dC (.int (0))))) (dTest (dOp oEq (dVar 2) (dC (.int (1))))))) (dVar 6) [6]) (dVar 3) (dUn uNeg (dC (.int (1))))) dNext)
    (dRet (dVar 3)))))
def t_many_of_kind (dw : Exc3 → Reg → Prop) : DSt :=
  (dSeq (dSet 3 (dCall sp_choices (fun x _ G => dw x G) (dCons (dVar 0) (dCons (dVar 1) (dCons (dVar 2) dNil)))))
    (dRet (dIf (dTest (dOp (oIs false) (dVar 3) (dC .non))) (dC (.int (0))) (dCall sp_product_of (fun x _ G => dw x G) (dCons (dVar 3) dNil)))))
def t__law_counted (dw : Exc3 → Reg → Prop) : DSt :=
  (dSeq (dIfS (dTest (dOp oEq (dVar 1) (dTup dNil))) (dSeq (dIfS (dTest (dOp oLt (dVar 2) (dC (.int (2))))) (dRet (dIf (dTest (dOp oEq (dVar 2) (dC (.int (0))))) (dC (.int (1))) (dVar 0))) dNext)
    (dRet (dOp oMul (dOp oMul (dOp oAdd (dVar 0) (dC (.int (1)))) (dCall sp__law_kd_raised (fun x _ G => dw x G) (dCons (dVar 0) (dCons (dOp oSub (dVar 2) (dC (.int (2)))) dNil)))) (dOp oSub (dVar 0) (dC (.int (1))))))) dNext)
    (dSeq (dIfS (dTest (dOp oLt (dVar 2) (dCB bLen (dPCons (dVar 1) dNil)))) (dRet (dC (.int (0)))) dNext)
    (dSeq (dPar 3 4 (dCall sp__law_corner_heights (fun x _ G => dw x G) (dCons (dVar 1) dNil)) (dOp oAdd (dVar 0) (dC (.int (1)))))
    (dSeq (dFor (dRng2 (dCons (dC (.int (1))) (dCons (dCB bLen (dPCons (dVar 1) dNil)) dNil))) (gNm 5) (dIfS (dTest (dOp (oIn true) (dOp oAdd (dVar 5) (dC (.int (1)))) (dVar 3))) (dSet 4 (dOp oMul (dVar 4) (dIf (dTest (dOp (oIn false) (dVar 5) (dVar 3))) (dOp oSub (dVar 0) (dC (.int (1)))) (dVar 0)))) dNext))
    (dSeq (dSet 6 (dOp oSub (dVar 2) (dCB bLen (dPCons (dVar 1) dNil))))
    (dRet (dIf (dTest (dOp oEq (dVar 6) (dC (.int (0))))) (dVar 4) (dOp oMul (dOp oMul (dVar 4) (dCall sp__law_kd_raised (fun x _ G => dw x G) (dCons (dVar 0) (dCons (dOp oSub (dVar 6) (dC (.int (1)))) dNil)))) (dOp oSub (dVar 0) (dC (.int (1))))))))))))
def t_is_kind_word (dw : Exc3 → Reg → Prop) : DSt :=
  (dRet (dAndV (dCall sp_are_letters (fun x _ G => dw x G) (dCons (dC (.int (2))) (dCons (dVar 0) dNil))) (dAndV (dCall sp_ends_as_word (fun x _ G => dw x G) (dCons (dVar 0) dNil)) (dOp oEq (dCall sp_kind_in (fun x _ G => dw x G) (dCons (dVar 0) dNil)) (dVar 0)))))
def t__law_wd_pair (dw : Exc3 → Reg → Prop) : DSt :=
  (dSeq (dSet 1 (dCall sp__law_pick (fun x _ G => dw x G) (dCons (dVar 0) (dCons (dLst (dCons (dC (.int (2))) (dCons (dC (.int (3))) (dCons (dC (.int (3))) (dCons (dC (.int (5))) (dCons (dC (.int (7))) (dCons (dC (.int (31))) dNil))))))) dNil))))
    (dRet (dTup (dCons (dVar 1) (dCons (dCall sp__law_word_drawn (fun x _ G => dw x G) (dCons (dVar 0) (dCons (dVar 1) (dCons (dC (.int (9))) dNil)))) dNil)))))
def t_require_asked (dw : Exc3 → Reg → Prop) : DSt :=
  (dSeq (dDrop (dCall sp_require_prime (fun x _ G => dw x G) (dCons (dVar 0) dNil)))
    (dSeq (dIfS (dNot (dTest (dCall sp_is_kind_word (fun x _ G => dw x G) (dCons (dVar 1) dNil)))) dNever dNext)
    (dDrop (dCall sp_require_count (fun x _ G => dw x G) (dCons (dVar 2) (dCons (dC (.int (0))) (dCons (dC (.int (60))) dNil)))))))
def t_count_of_kind (dw : Exc3 → Reg → Prop) : DSt :=
  (dSeq (dDrop (dCall sp_require_asked (fun x _ G => dw x G) (dCons (dVar 0) (dCons (dVar 1) (dCons (dVar 2) dNil)))))
    (dRet (dCall sp_many_of_kind (fun x _ G => dw x G) (dCons (dVar 0) (dCons (dVar 1) (dCons (dVar 2) dNil))))))
def t_each_of_kind (dw : Exc3 → Reg → Prop) : DGn :=
  (dGSeq (dGPlain (dDrop (dCall sp_require_asked (fun x _ G => dw x G) (dCons (dVar 0) (dCons (dVar 1) (dCons (dVar 2) dNil))))))
    (dGSeq (dGPlain (dIfS (dTest (dOp oGt (dCall sp_many_of_kind (fun x _ G => dw x G) (dCons (dVar 0) (dCons (dVar 1) (dCons (dVar 2) dNil)))) (dC (.int (3000))))) dNever dNext))
    (dGSeq (dGPlain (dSet 3 (dLst (dCons (dTup dNil) dNil))))
    (dGSeq (dGPlain (dFor (dIter (dOrA (dCall sp_choices (fun x _ G => dw x G) (dCons (dVar 0) (dCons (dVar 1) (dCons (dVar 2) dNil)))) (dLst (dCons (dLst dNil) dNil)))) (gNm 4) (dSet 3 (dIf (dTest (dOp oNe (dVar 4) (dLst dNil))) (dLc2 (dIter (dVar 3)) (gNm 5) dYes (dIter (dVar 4)) (gNm 6) dYes (dTup (dStar (dVar 5) (dCons (dVar 6) dNil))) [5, 6] [6]) (dVar 3)))))
    (dGSeq (dGIf (dTest (dOp oGe (dVar 2) (dCB bLen (dPCons (dVar 1) dNil)))) (dGSeq (dGFor (dIter (dVar 3)) (gNm 5) (dGSeq (dGYield (dVar 5))
    dGNil))
    dGNil) dGNil)
    dGNil)))))
def t__law_is_counted (dw : Exc3 → Reg → Prop) : DSt :=
  (dSeq (dAsg (dCall sp__law_wd_pair (fun x _ G => dw x G) (dCons (dVar 0) dNil)) (gTp 2 (gsCons (gNm 1) (gsCons (gNm 2) gsNil))))
    (dSeq (dPar 3 4 (dCall sp_kind_of (fun x _ G => dw x G) (dCons (dMake "Branch" sp_Branch_init (dCons (dVar 1) (dCons (dVar 2) dNil))) dNil)) (dCall sp__law_roll (fun x _ G => dw x G) (dCons (dVar 0) (dCons (dC (.int (61))) dNil))))
    (dSeq (dIfS (dTest (dOp oNe (dCall sp_count_of_kind (fun x _ G => dw x G) (dCons (dVar 1) (dCons (dVar 3) (dCons (dVar 4) dNil)))) (dCall sp__law_counted (fun x _ G => dw x G) (dCons (dVar 1) (dCons (dVar 3) (dCons (dVar 4) dNil)))))) (dRet (dC (.bl false))) dNext)
    (dRet (dOp oEq (dCall sp_count_of_kind (fun x _ G => dw x G) (dCons (dVar 1) (dCons (dVar 3) (dCons (dCB bLen (dPCons (dVar 3) dNil)) dNil)))) (dCall sp__law_counted (fun x _ G => dw x G) (dCons (dVar 1) (dCons (dVar 3) (dCons (dCB bLen (dPCons (dVar 3) dNil)) dNil)))))))))
def t__law_is_listed (dw : Exc3 → Reg → Prop) : DSt :=
  (dSeq (dAsg (dCall sp__law_pick (fun x _ G => dw x G) (dCons (dVar 0) (dCons (dLst (dCons (dTup (dCons (dC (.int (2))) (dCons (dC (.int (6))) dNil))) (dCons (dTup (dCons (dC (.int (2))) (dCons (dC (.int (5))) dNil))) (dCons (dTup (dCons (dC (.int (3))) (dCons (dC (.int (5))) dNil))) (dCons (dTup (dCons (dC (.int (5))) (dCons (dC (.int (3))) dNil))) dNil))))) dNil))) (gTp 2 (gsCons (gNm 1) (gsCons (gNm 2) gsNil))))
    (dSeq (dPar 3 4 (dCall sp__law_word_drawn (fun x _ G => dw x G) (dCons (dVar 0) (dCons (dVar 1) (dCons (dVar 2) dNil)))) (dCall sp__law_roll (fun x _ G => dw x G) (dCons (dVar 0) (dCons (dOp oAdd (dVar 2) (dC (.int (1)))) dNil))))
    (dSeq (dSet 4 (dIf (dTest (dOp oEq (dCall sp__law_roll (fun x _ G => dw x G) (dCons (dVar 0) (dCons (dC (.int (2))) dNil))) (dC (.int (0))))) (dCB bLen (dPCons (dVar 3) dNil)) (dVar 4)))
    (dSeq (dAsg (dTup (dCons (dCall sp_kind_of (fun x _ G => dw x G) (dCons (dMake "Branch" sp_Branch_init (dCons (dVar 1) (dCons (dVar 3) dNil))) dNil)) (dCons (dCall sp__law_generators (fun x _ G => dw x G) (dCons (dVar 3) dNil)) dNil))) (gTp 2 (gsCons (gNm 5) (gsCons (gNm 6) gsNil))))
    (dSeq (dSet 7 (dLc (dIter (dCall sp__law_wd_all (fun x _ G => dw x G) (dCons (dVar 1) (dCons (dVar 4) dNil)))) (gNm 8) (dTest (dOp oEq (dCall sp__law_generators dw0 (dCons (dVar 8) dNil)) (dVar 6))) (dVar 8) [8]))
    (dRet (dAndV (dOp oEq (dListG sp_each_of_kind [] (fun x _ G => dw x G) (dCons (dVar 1) (dCons (dVar 5) (dCons (dVar 4) dNil)))) (dVar 7)) (dOp oEq (dCall sp_count_of_kind (fun x _ G => dw x G) (dCons (dVar 1) (dCons (dVar 5) (dCons (dVar 4) dNil)))) (dCB bLen (dPCons (dVar 7) dNil))))))))))
def t_law (dw : Exc3 → Reg → Prop) : DSt :=
  (dSeq (dFor (dRng1 (dCons (dCB bMax (dPCons (dC (.int (1))) (dPCons (dCB bMin (dPCons (dC (.int (3))) (dPCons (dCB bLen (dPCons (dVar 0) dNil)) dNil))) dNil))) dNil)) (gNm 1) (dSeq (dSetReg 2 (dCall sp__law_dice (fun x _ G => dw x G) (dCons (dVar 0) (dCons (dVar 1) dNil))))
    (dIfS (dOr (dNot (dTest (dCall sp__law_is_listed (fun x _ G => dw x G) (dCons (dVar 2) dNil)))) (dOr (dNot (dTest (dCall sp__law_is_listed (fun x _ G => dw x G) (dCons (dVar 2) dNil)))) (dOr (dNot (dTest (dCall sp__law_is_counted (fun x _ G => dw x G) (dCons (dVar 2) dNil)))) (dNot (dTest (dCall sp__law_is_counted (fun x _ G => dw x G) (dCons (dVar 2) dNil))))))) (dRet (dC (.bl false))) dNext)))
    (dSeq (dSet 3 (dLc (dIter (dTup (dCons (dC (.int (2))) (dCons (dC (.int (3))) (dCons (dC (.int (4))) dNil))))) (gNm 5) dYes (dCall sp_count_of_kind dw0 (dCons (dC (.int (3))) (dCons (dTup (dCons (dUn uNeg (dC (.int (1)))) (dCons (dUn uNeg (dC (.int (1)))) (dCons (dC (.int (1))) dNil)))) (dCons (dVar 5) dNil)))) [5]))
    (dSeq (dSet 4 (dLst (dCons (dTup (dCons (dUn uNeg (dC (.int (1)))) (dCons (dUn uNeg (dC (.int (1)))) (dCons (dC (.int (1))) dNil)))) (dCons (dTup (dCons (dC (.int (0))) (dCons (dUn uNeg (dC (.int (1)))) (dCons (dC (.int (1))) dNil)))) (dCons (dTup (dCons (dC (.int (1))) (dCons (dUn uNeg (dC (.int (1)))) (dCons (dC (.int (1))) dNil)))) dNil)))))
    (dRet (dAndV (dOp oEq (dVar 3) (dLst (dCons (dC (.int (0))) (dCons (dC (.int (8))) (dCons (dC (.int (16))) dNil))))) (dAndV (dOp oEq (dCall sp_count_of_kind (fun x _ G => dw x G) (dCons (dC (.int (2))) (dCons (dTup dNil) (dCons (dC (.int (3))) dNil)))) (dC (.int (6)))) (dOp oEq (dListG sp_each_of_kind [] (fun x _ G => dw x G) (dCons (dC (.int (2))) (dCons (dTup (dCons (dUn uNeg (dC (.int (1)))) (dCons (dUn uNeg (dC (.int (1)))) (dCons (dC (.int (1))) dNil)))) (dCons (dC (.int (3))) dNil)))) (dVar 4))))))))
end K47

set_option Elab.async false
set_option maxRecDepth 100000
set_option maxHeartbeats 4000000
/-! L52: a comprehension over a mapped list, told by what each item gives, or nothing. -/
namespace L3
open PySem PySem.Spec PyProof.Rows L2
theorem lc_fltL {α : Type} {g : DG} {tt : DT} {te : DE} {vs : List Nat} {E : Env3} {G : Reg} (F : α → D) (f : α → Option D) (P : α → Prop)
    (step : ∀ a (k1 : D → Env3 → Reg → Prop) (k2 : Env3 → Reg → Prop), P a → (∀ w Ew, f a = some w → wipe3 Ew vs = E → k1 w Ew G) → (∀ Ew, f a = none → wipe3 Ew vs = E → k2 Ew G) →
      g (F a) E G fun E1 G1 => tt E1 G1 fun b E2 G2 => if b = true then te E2 G2 fun r E3 G3 => ∃ x E4, r.ice E3 = some (x, E4) ∧ k1 x E4 G3 else k2 E2 G2) :
    ∀ (l : List α) (acc : List D) (k : List D → Env3 → Reg → Prop), (∀ a ∈ l, P a) → k (acc ++ l.filterMap f) E G → dLcL g tt te vs (l.map F) acc E G k
  | [], acc, k, _, h => by simpa using h
  | d :: ds, acc, k, hp, h => step d _ _ (hp d List.mem_cons_self) (fun w Ew hq e => by
      rw [e]
      refine lc_fltL F f P step ds _ k (fun z hz => hp z (List.mem_cons_of_mem _ hz)) ?_
      rw [List.filterMap_cons_some hq] at h
      rw [List.append_assoc]
      exact h) fun Ew hq e => by
      rw [e]
      refine lc_fltL F f P step ds _ k (fun z hz => hp z (List.mem_cons_of_mem _ hz)) ?_
      rw [List.filterMap_cons_none hq] at h
      exact h
theorem lc_flt {α : Type} {g : DG} {tt : DT} {te : DE} {vs : List Nat} {E : Env3} {G : Reg} (F : α → D) (f : α → Option D) (P : α → Prop)
    (step : ∀ a (k1 : D → Env3 → Reg → Prop) (k2 : Env3 → Reg → Prop), P a → (∀ w Ew, f a = some w → wipe3 Ew vs = E → k1 w Ew G) → (∀ Ew, f a = none → wipe3 Ew vs = E → k2 Ew G) →
      g (F a) E G fun E1 G1 => tt E1 G1 fun b E2 G2 => if b = true then te E2 G2 fun r E3 G3 => ∃ x E4, r.ice E3 = some (x, E4) ∧ k1 x E4 G3 else k2 E2 G2)
    {l : List α} {k : List D → Env3 → Reg → Prop} (hp : ∀ a ∈ l, P a) (h : k (l.filterMap f) E G) : dLcL g tt te vs (l.map F) [] E G k :=
  lc_fltL F f P step l [] k hp h
end L3

set_option Elab.async false
set_option maxRecDepth 100000
set_option maxHeartbeats 4000000
set_option exponentiation.threshold 2000
/-! K47: words of a kind -/
namespace K47
open PySem PySem.Spec PyProof.Rows L2 L3 LD LP LO LB LC LV LW LW2 LX LK LY
open LN (Pt Pr pt sh_pt eqv_pt sh_ints eqv_ints among_pts tru)
open LF (zi)
open LM (ifTq ifFq lc_map0)
open LG (ifND ifNB)
open K11 (lets grow rng_lets mulOk_r rng_len pr_nat)
local macro_rules | `(tactic| walk_at "ev") => `(tactic| repeat (first | refine lc_stop ?_ | refine for_stop ?_ | refine ⟨_, rfl, ?_⟩ | refine ⟨_, _, rfl, ?_⟩ | refine ⟨rfl, ?_⟩ | refine And.intro (by assumption) ?_ | refine ⟨by decide, ?_⟩ | refine ⟨ltL rfl, ?_⟩ | refine ⟨_, at0, ?_⟩ | refine ⟨_, at1, ?_⟩ | refine ⟨_, at2, ?_⟩ | refine ifT ?_ | refine ifF ?_ | refine ⟨_, _, _, rfl, ?_⟩ | refine ⟨⟨_, rfl⟩, ?_⟩ | refine ⟨_, _, _, _, rfl, ?_⟩))
theorem start3_eq {N M : List Str} (h : N.length = M.length) (ds : List D) : start3 N ds = start3 M ds := by unfold start3; rw [h]
theorem p__law_wd_all (N : List Str) (hN : N.length = 8) : ∀ ds G q dw, sp__law_wd_all ds G q dw → t__law_wd_all dw { nx := fun _ G' => q (.val .non) G', rt := q } (start3 N ds) G := fun ds G q dw h => by
  rw [start3_eq (M := ["_law_prime", "_law_length_here", "_law_found", "_law_turn", "_law_longer", "_law_begun", "_law_words", "_law_letter_here"]) hN]
  exact K11.p__law_wd_all ds G q dw h
theorem p_is_kind_word : ∀ ds G q dw, sp_is_kind_word ds G q dw → t_is_kind_word dw { nx := fun _ G' => q (.val .non) G', rt := q } (start3 ["value"] ds) G := by
  intro ds G q dw h
  unfold t_is_kind_word
  obtain ⟨K, rfl, hk, hl, h⟩ := h
  have hp2 : Pr 2 := (show (2 : Int) ∈ LN.primes by decide)
  have hpt : Pt 2 K := ⟨hl, fun x hx => by
    rw [← hk.2] at hx
    rcases kind_mem K x hx with rfl | rfl | rfl <;> omega⟩
  have hw := hk.1
  have hl2 : K.length ≤ 1000 := by omega
  walk_at "ev"
  rw [hk.2]
  refine ⟨sh_pt _, sh_pt _, ?_⟩
  rw [eqv_pt, decide_eq_true rfl]
  walk_at "ev"
  exact h
theorem p_require_asked : ∀ ds G q dw, sp_require_asked ds G q dw → t_require_asked dw { nx := fun _ G' => q (.val .non) G', rt := q } (start3 ["prime", "kind", "length"] ds) G := by
  intro ds G q dw h
  unfold t_require_asked
  obtain ⟨p, K, n, rfl, hp, hk, hl, hn, h⟩ := h
  walk_at "ev"
  refine ⟨by omega, by omega, ⟨by omega, by omega⟩, ?_⟩
  walk_at "ev"
  exact h
theorem p_letters_let : ∀ ds G q dw, sp_letters_let ds G q dw → t_letters_let dw { nx := fun _ G' => q (.val .non) G', rt := q } (start3 ["prime", "form", "letter"] ds) G := by
  intro ds G q dw h
  unfold t_letters_let
  obtain ⟨p, f, l, rfl, hp2, hp31, h⟩ := h
  walk_at "ev"
  refine ⟨sh_tx f, sh_tx .fixed, ?_⟩
  walk_at "ev"
  rw [show D.str (Str.ofString "fixed") = .str (tx .fixed) from rfl, eqv_tx]
  cases f with
  | fixed =>
    walk_at "ev"
    exact h
  | first =>
    walk_at "ev"
    refine ⟨⟨by decide, by decide, by omega, by omega, by omega⟩, ?_⟩
    walk_at "ev"
    rw [show ((p : Int) - -1).toNat = p + 1 by omega, rng_lets]
    exact h
  | live =>
    walk_at "ev"
    refine ⟨⟨by decide, by decide, by omega, by omega, by omega⟩, ?_⟩
    walk_at "ev"
    rw [show ((p : Int) - 1).toNat = p - 1 by omega, rng_lets]
    exact h
  | free =>
    walk_at "ev"
    refine ⟨⟨by decide, by decide, by omega, by omega, by omega⟩, ?_⟩
    walk_at "ev"
    rw [show ((p : Int) - 0).toNat = p by omega, rng_lets]
    exact h
theorem p_product_of : ∀ ds G q dw, sp_product_of ds G q dw → t_product_of dw { nx := fun _ G' => q (.val .non) G', rt := q } (start3 ["rows", "found", "row"] ds) G := by
  intro ds G q dw h
  unfold t_product_of
  obtain ⟨rs, rfl, hr, hl, h⟩ := h
  walk_at "ev"
  refine Stop.go ?_
  refine for_ind (fun ds E G2 => G2 = G ∧ ∃ (done rest : List (List Int)) (s2 : Sl3), done ++ rest = rs ∧ ds = rest.map lst ∧ E = [.val (.lst (rs.map lst)), .val (.int (lens done : Nat)), s2]) (fun E G2 hI => ?_) (fun d ds E G2 nx hI hn => ?_) _ _ _ ⟨rfl, [], rs, _, rfl, rfl, rfl⟩
  · obtain ⟨rfl, done, rest, s2, e, hd, rfl⟩ := hI
    have : rest = [] := List.map_eq_nil_iff.mp hd.symm
    subst this
    rw [List.append_nil] at e
    subst e
    walk_at "ev"
    exact h
  · obtain ⟨rfl, done, rest, s2, e, hd, rfl⟩ := hI
    cases rest with
    | nil => cases hd
    | cons r rest =>
      obtain ⟨e3, e4⟩ := List.cons.inj hd
      subst e3 e4
      have hrl := hr r (by rw [← e]; simp)
      walk_at "ev"
      rw [List.length_map]
      refine ⟨mulOk_r (by omega) (by omega), ?_⟩
      walk_at "ev"
      exact hn _ _ ⟨rfl, done ++ [r], rest, .val (lst r), by rw [List.append_assoc]; exact e, rfl, by rw [lens_snoc]; push_cast; rfl⟩
theorem p__law_kd_raised : ∀ ds G q dw, sp__law_kd_raised ds G q dw → t__law_kd_raised dw { nx := fun _ G' => q (.val .non) G', rt := q } (start3 ["_law_number", "_law_times", "_law_found", "_law_turn"] ds) G := by
  intro ds G q dw h
  unfold t__law_kd_raised
  obtain ⟨p, n, rfl, hp, hn, h⟩ := h
  walk_at "ev"
  refine ⟨by omega, by omega, ?_⟩
  rw [show ((n : Int)).toNat = n by omega]
  refine for_stop (.go ?_)
  refine for_ind (fun ds E G2 => G2 = G ∧ ∃ (i : Nat) (s3 : Sl3), i + ds.length = n ∧ E = [.val (.int (p : Int)), .val (.int (n : Int)), .val (.int ((p ^ i : Nat) : Int)), s3]) (fun E G2 hI => ?_) (fun d ds E G2 nx hI hn => ?_) _ _ _ ⟨rfl, 0, _, by rw [rng_len]; omega, rfl⟩
  · obtain ⟨rfl, i, s3, hi, rfl⟩ := hI
    have hi : i = n := by simpa using hi
    subst hi
    walk_at "ev"
    exact h
  · obtain ⟨rfl, i, s3, hi, rfl⟩ := hI
    walk_at "ev"
    refine ⟨mulOk_r (by omega) (by omega), ?_⟩
    walk_at "ev"
    have e : ((p ^ i : Nat) : Int) * (p : Int) = ((p ^ (i + 1) : Nat) : Int) := by
      rw [Nat.pow_succ, Int.natCast_mul (p ^ i) p]
    rw [e]
    exact hn _ _ ⟨rfl, i + 1, _, by rw [List.length_cons] at hi; omega, rfl⟩
theorem eqv_nil (K : List Int) : D.eqv (pt K) (.tup []) = decide (K = []) := eqv_pt K []
def keepF (n : Nat) (l : Int) : Option D := if lastP n l = true then some (.int l) else none
theorem keep_fm (n : Nat) : ∀ r : List Int, r.filterMap (keepF n) = (r.filter (lastP n)).map D.int
  | [] => rfl
  | l :: r => by
    rw [List.filterMap_cons, List.filter_cons, keepF]
    by_cases z : lastP n l = true
    · rw [if_pos z, if_pos z, List.map_cons, keep_fm n r]
    · rw [if_neg z, if_neg z, keep_fm n r]
theorem rows0_small {p n : Nat} {K : List Int} (hl : K.length ≤ n) : ∀ r ∈ rows0 p K n, r.length ≤ p + 1 := fun r hr => by
  unfold rows0 at hr
  rw [← List.map_uncurry_zip_eq_zipWith] at hr
  obtain ⟨⟨f, l⟩, _, rfl⟩ := List.mem_map.mp hr
  show (letF p f l).length ≤ _
  rw [len_letF]
  cases f
  · exact Nat.le_refl _
  · show 1 ≤ p + 1; omega
  · show p - 1 ≤ p + 1; omega
  · show p ≤ p + 1; omega
theorem choices_end {Dn : Ends3} {p n : Nat} {K : List Int} {G : Reg} (hn : n ≤ 60) (hl : K.length ≤ n) (hp : p ≤ 31) (h : Dn.rt (.fr ((rowsOf p K n).map lst)) G) :
    (dSeq (dIfS (dTest (dOp oGt (dVar 2) (dC (.int (0))))) (dStore (dLc (dIter (dOp oIx (dVar 3) (dUn uNeg (dC (.int (1)))))) (gNm 6) (dAnd (dTest (dOp oNe (dVar 6) (dC (.int (0))))) (dOr (dTest (dOp oGt (dVar 6) (dC (.int (0))))) (dTest (dOp oEq (dVar 2) (dC (.int (1))))))) (dVar 6) [6]) (dVar 3) (dUn uNeg (dC (.int (1))))) dNext)
    (dRet (dVar 3))) Dn [.val (.int (p : Int)), .val (pt K), .val (.int (n : Int)), .own ((rows0 p K n).map lst), .no, .no, .no] G := by
  have hS := sizeLine_eq
  walk_at "ev"
  refine ifD (fun z => ?_) (fun z => ?_)
  · have z : (n : Int) > 0 := z
    obtain ⟨rs, r, e, hrs⟩ := snoc_of (xs := rows0 p K n) (n := n - 1) (by rw [rows0_len hl]; omega)
    have er : rowsOf p K n = rs ++ [r.filter (lastP n)] := by
      unfold rowsOf
      rw [if_neg (by omega), e, List.dropLast_concat, List.getLast?_concat]; rfl
    rw [er] at h
    rw [e]
    walk_at "ev"
    refine ⟨lst r, LG.atm1 (by rw [List.map_append, List.getLast?_append]; rfl), ?_⟩
    have hr := rows0_small hl r (by rw [e]; simp)
    have hlen : rs.length < (rs.map lst ++ [lst r]).length := by rw [List.length_append, List.length_map, List.length_singleton]; omega
    walk_at "ev"
    refine ⟨by rw [List.length_map, hS]; omega, ?_⟩
    refine lc_flt (fun l : Int => D.int l) (keepF n) (fun _ => True) (fun l k1 k2 _ e1 e2 => ?_) (fun _ _ => trivial) ?_
    · clear h
      have hk : keepF n l = if (decide (l ≠ 0) && (decide (0 < l) || decide (n = 1))) = true then some (.int l) else none := rfl
      walk_at "ev"
      refine ifNE (fun z0 => ?_) (fun z0 => ?_)
      · walk_at "ev"
        refine ifD (fun z1 => ?_) (fun z1 => ?_)
        · have z1 : l > 0 := z1
          walk_at "ev"
          refine e1 _ _ ?_ rfl
          rw [hk, decide_eq_true z0, decide_eq_true z1]; rfl
        · have z1 : ¬ l > 0 := z1
          walk_at "ev"
          by_cases z2 : n = 1
          · refine ifTq (by show D.eqv (.int (n : Int)) (.int 1) = true; rw [eqv_int]; exact decide_eq_true (by omega)) ?_
            walk_at "ev"
            refine e1 _ _ ?_ rfl
            rw [hk, decide_eq_true z0, decide_eq_true z2, Bool.or_true]; rfl
          · refine ifFq (by show D.eqv (.int (n : Int)) (.int 1) = false; rw [eqv_int]; exact decide_eq_false (by omega)) ?_
            refine e2 _ ?_ rfl
            rw [hk, decide_eq_false (show ¬ 0 < l from z1), decide_eq_false z2, Bool.or_false, Bool.and_false]; rfl
      · walk_at "ev"
        refine e2 _ ?_ rfl
        rw [hk, decide_eq_false (show ¬ l ≠ 0 from fun h => h z0)]; rfl
    rw [keep_fm]
    walk_at "ev"
    refine ⟨rs.length, ?_, ?_⟩
    · unfold ixN
      rw [if_neg (by decide), List.length_map, List.length_append, List.length_singleton, if_pos (by omega)]
      congr 1; omega
    · walk_at "ev"
      have es : (List.map lst (rs ++ [r])).set rs.length (.lst ((r.filter (lastP n)).map D.int)) = (rs ++ [r.filter (lastP n)]).map lst := by
        rw [List.map_append, List.map_append, List.set_append_right _ _ (by rw [List.length_map]; exact Nat.le_refl _), List.length_map, Nat.sub_self]; rfl
      rw [es]
      exact h
  · have z : ¬ (n : Int) > 0 := z
    have hn0 : n = 0 := by omega
    subst hn0
    walk_at "ev"
    have e : rowsOf p K 0 = [] := rfl
    have e0 : rows0 p K 0 = [] := List.length_eq_zero_iff.mp (rows0_len hl)
    rw [e] at h
    rw [e0]
    exact h
def letD (p : Nat) (x : Fm × Int) : D := lst (letF p x.1 x.2)
theorem zip_let (p : Nat) : ∀ (fs : List Fm) (ls : List Int), (fs.zip ls).map (letD p) = (List.zipWith (letF p) fs ls).map lst
  | [], _ => rfl
  | _ :: _, [] => rfl
  | f :: fs, l :: ls => by rw [List.zip_cons_cons, List.map_cons, List.zipWith_cons_cons, List.map_cons, zip_let p fs ls]; rfl
theorem free_map (p m : Nat) : (List.range m).map (fun (_ : Nat) => lst (lets 0 p)) = (List.replicate m (lets 0 p)).map lst := by
  rw [List.map_replicate]
  exact List.map_const' (l := List.range m) ▸ by rw [List.length_range]
theorem rows0_any (p : Nat) {K : List Int} (hk : Kd K) {n : Nat} (hl : K.length ≤ n) (h : ¬ (K = [] ∧ 0 < n)) : rows0 p K n = List.zipWith (letF p) (forms K) K ++ List.replicate (n - K.length) (lets 0 p) := by
  by_cases z : K = []
  · have : n = 0 := by
      by_cases hn : n = 0
      · exact hn
      · exact absurd ⟨z, by omega⟩ h
    subst this z
    rfl
  · exact rows0_kd p hk z n
theorem p_choices : ∀ ds G q dw, sp_choices ds G q dw → t_choices dw { nx := fun _ G' => q (.val .non) G', rt := q } (start3 ["prime", "kind", "length", "found", "place", "form", "letter"] ds) G := by
  intro ds G q dw h
  unfold t_choices
  obtain ⟨p, K, n, rfl, hp2, hp31, hk, hl60, hn60, hnone, h⟩ := h
  have hS := sizeLine_eq
  walk_at "ev"
  rw [List.length_map]
  refine ifD (fun z => ?_) (fun z => ?_)
  · have z : (n : Int) < (K.length : Int) := z
    walk_at "ev"
    exact hnone (by omega)
  have z : ¬ (n : Int) < (K.length : Int) := z
  have hl : K.length ≤ n := by omega
  have h := h hl
  walk_at "ev"
  refine ⟨sh_pt _, sh_pt [], ?_⟩
  have B : ¬ (K = [] ∧ 0 < n) → (dSeq (dSet 3 (dLc (dZipN (dCons (dCall sp_forms_of (fun x _ G => dw x G) (dCons (dVar 1) dNil)) (dCons (dVar 1) dNil))) (gTp 2 (gsCons (gNm 5) (gsCons (gNm 6) gsNil))) dYes (dCall sp_letters_let dw0 (dCons (dVar 0) (dCons (dVar 5) (dCons (dVar 6) dNil)))) [5, 6]))
    (dSet 3 (dLst (dStar (dVar 3) (dStar (dLc (dRng1 (dCons (dOp oSub (dVar 2) (dCB bLen (dPCons (dVar 1) dNil))) dNil)) (gNm 4) dYes (dLstRg1 (dVar 0)) [4]) dNil)))))
      { nx := dSeq (dIfS (dTest (dOp oGt (dVar 2) (dC (.int (0))))) (dStore (dLc (dIter (dOp oIx (dVar 3) (dUn uNeg (dC (.int (1)))))) (gNm 6) (dAnd (dTest (dOp oNe (dVar 6) (dC (.int (0))))) (dOr (dTest (dOp oGt (dVar 6) (dC (.int (0))))) (dTest (dOp oEq (dVar 2) (dC (.int (1))))))) (dVar 6) [6]) (dVar 3) (dUn uNeg (dC (.int (1))))) dNext) (dRet (dVar 3)) { nx := fun x G' => q (Res.val D.non) G', rt := q }, rt := q } [.val (.int (p : Int)), .val (pt K), .val (.int (n : Int)), .no, .no, .no, .no] G := fun hz => by
    have hfin := choices_end (Dn := { nx := fun x G' => q (Res.val D.non) G', rt := q }) hn60 hl hp31 (G := G) (p := p) h
    rw [rows0_any p hk hl hz] at hfin
    clear h hnone
    have hl1000 : K.length ≤ 1000 := by omega
    walk_at "ev"
    refine ⟨.inl rfl, ?_⟩
    rw [zip_forms]
    refine ⟨by rw [List.length_map, List.length_zip, forms_len, hS]; omega, ?_⟩
    refine lc_map0 (fun x : Fm × Int => D.tup [.str (tx x.1), .int x.2]) (letD p) (fun _ => True) (fun x k1 k2 _ e1 => ?_) (fun _ _ => trivial) ?_
    · obtain ⟨f, l⟩ := x
      clear hfin
      walk_at "ev"
      exact e1 _ rfl
    rw [zip_let]
    walk_at "ev"
    refine ⟨by rw [List.length_map]; omega, by rw [List.length_map]; omega, ?_⟩
    rw [List.length_map, show ((n : Int) - (K.length : Int)).toNat = n - K.length by omega]
    refine ⟨by rw [rng_len, hS]; omega, ?_⟩
    rw [rangeD_map]
    refine lc_map0 (fun k : Nat => D.int (k : Int)) (fun _ => lst (lets 0 p)) (fun _ => True) (fun m k1 k2 _ e1 => ?_) (fun _ _ => trivial) ?_
    · clear hfin
      walk_at "ev"
      refine ⟨⟨by decide, by decide, by omega, by omega, by omega⟩, ?_⟩
      walk_at "ev"
      rw [show ((p : Int)).toNat = p by omega, rng_lets]
      exact e1 _ rfl
    rw [free_map]
    rw [List.map_append] at hfin
    walk_at "ev"
    refine ⟨by rw [List.append_nil, List.length_append, List.length_map, List.length_map, List.length_zipWith, forms_len, List.length_replicate, hS]; omega, ?_⟩
    rw [List.append_nil]
    exact ⟨show 3 < 7 by decide, _, rfl, hfin⟩
  refine ⟨_, rfl, ?_⟩
  refine ifQ (eqv_nil K) (fun zK => ?_) (fun zK => ?_)
  · walk_at "ev"
    refine ifD (fun zn => ?_) (fun zn => ?_)
    · have zn : (n : Int) > 0 := zn
      subst zK
      have hfin := choices_end (Dn := { nx := fun x G' => q (Res.val D.non) G', rt := q }) hn60 hl hp31 (G := G) (p := p) h
      rw [rows0_nil p (by omega)] at hfin
      clear h hnone B
      walk_at "ev"
      refine ⟨⟨by decide, by decide, by omega, by omega, by omega⟩, ?_⟩
      walk_at "ev"
      refine ⟨by omega, by omega, ?_⟩
      rw [show ((n : Int) - 1).toNat = n - 1 by omega]
      refine ⟨by rw [rng_len, hS]; omega, ?_⟩
      rw [rangeD_map]
      refine lc_map0 (fun k : Nat => D.int (k : Int)) (fun _ => lst (lets 0 p)) (fun _ => True) (fun m k1 k2 _ e1 => ?_) (fun _ _ => trivial) ?_
      · clear hfin
        walk_at "ev"
        refine ⟨⟨by decide, by decide, by omega, by omega, by omega⟩, ?_⟩
        walk_at "ev"
        rw [show ((p : Int)).toNat = p by omega, rng_lets]
        exact e1 _ rfl
      rw [free_map, show ((p : Int) - -1).toNat = p + 1 by omega, rng_lets]
      rw [List.map_cons] at hfin
      walk_at "ev"
      refine ⟨by rw [List.append_nil, List.length_cons, List.length_map, List.length_replicate, hS]; omega, ?_⟩
      rw [List.append_nil]
      exact ⟨show 3 < 7 by decide, _, rfl, hfin⟩
    · have zn : ¬ (n : Int) > 0 := zn
      exact B (fun z => zn (by omega))
  · exact B (fun z => zK z.1)
theorem rows_small {p n : Nat} {K : List Int} (z : K.length ≤ n) (hp31 : p ≤ 31) : ∀ r ∈ rowsOf p K n, r.length ≤ 1000 := fun r hr => by
      unfold rowsOf at hr
      split at hr
      · cases hr
      · rename_i hn0
        rcases List.mem_append.mp hr with hr | hr
        · exact Nat.le_trans (rows0_small z r ((List.dropLast_subset _) hr)) (by omega)
        · rw [List.mem_singleton.mp hr]
          refine Nat.le_trans (List.length_filter_le _ _) ?_
          obtain ⟨rs, r', e, hrs⟩ := snoc_of (xs := rows0 p K n) (n := n - 1) (by rw [rows0_len z]; omega)
          have := rows0_small z r' (by rw [e]; simp)
          rw [e, List.getLast?_concat]
          show r'.length ≤ _
          omega
theorem rows_len {p n : Nat} {K : List Int} (z : K.length ≤ n) (hn60 : n ≤ 60) : (rowsOf p K n).length ≤ 1000 := by
  unfold rowsOf
  split
  · exact Nat.zero_le _
  · rw [List.length_append, List.length_dropLast, rows0_len z]; show n - 1 + 1 ≤ 1000; omega
theorem p_many_of_kind : ∀ ds G q dw, sp_many_of_kind ds G q dw → t_many_of_kind dw { nx := fun _ G' => q (.val .non) G', rt := q } (start3 ["prime", "kind", "length", "rows"] ds) G := by
  intro ds G q dw h
  unfold t_many_of_kind
  obtain ⟨p, K, n, rfl, hp2, hp31, hk, hl60, hn60, h⟩ := h
  walk_at "ev"
  refine ⟨fun z => ?_, fun z => ?_⟩
  · unfold many at h
    rw [if_pos z] at h
    walk_at "ev"
    exact h
  · have hlen : (rowsOf p K n).length ≤ 1000 := by
      unfold rowsOf
      split
      · exact Nat.zero_le _
      · rw [List.length_append, List.length_dropLast, rows0_len z]; show n - 1 + 1 ≤ 1000; omega
    have hsm := rows_small (p := p) (K := K) (n := n) z hp31
    have e := lens_rows hp2 hk z
    rw [← e] at h
    walk_at "ev"
    exact h
theorem p_count_of_kind : ∀ ds G q dw, sp_count_of_kind ds G q dw → t_count_of_kind dw { nx := fun _ G' => q (.val .non) G', rt := q } (start3 ["prime", "kind", "length"] ds) G := by
  intro ds G q dw h
  unfold t_count_of_kind
  obtain ⟨p, K, n, rfl, hp, hk, hl60, hn60, h⟩ := h
  obtain ⟨hp2, hp31⟩ := pr_nat hp
  walk_at "ev"
  exact h
def snocD (x : List Int) (l : Int) : D := pt (x ++ [l])
theorem grow_D (r : List Int) (W : List (List Int)) : (W.flatMap fun w => r.map fun l => snocD w l) = (grow r W).map pt := by
  unfold grow
  rw [List.map_flatMap]
  refine congrArg (W.flatMap ·) (funext fun w => ?_)
  rw [List.map_map]; rfl
theorem lens_pos {rs : List (List Int)} : (∀ r ∈ rs, r ≠ []) → 1 ≤ lens rs := by
  refine rev_indL (P := fun rs => (∀ r ∈ rs, r ≠ []) → 1 ≤ lens rs) (fun _ => Nat.le_refl _) (fun rs r ih h => ?_) rs
  rw [lens_snoc]
  have h1 := ih fun r hr => h r (List.mem_append.mpr (.inl hr))
  have h2 : 1 ≤ r.length := Nat.pos_of_ne_zero fun z => h r (by simp) (List.length_eq_zero_iff.mp z)
  exact Nat.mul_pos h1 h2
theorem lst_nil (r : List Int) : D.eqv (lst r) (.lst []) = decide (r = []) := by
  cases r with
  | nil => rfl
  | cons a r => rfl
theorem prods_mlen (rs : List (List Int)) : ∀ w ∈ prods rs, w.length ≤ rs.length := by
  refine rev_indL (P := fun rs => ∀ w ∈ prods rs, w.length ≤ rs.length) (fun w hw => ?_) (fun rs r ih w hw => ?_) rs
  · rw [List.mem_singleton.mp hw]; exact Nat.le_refl _
  · rw [prods_snoc, growN] at hw
    rw [List.length_append]
    show _ ≤ rs.length + 1
    split at hw
    · have := ih w hw; omega
    · obtain ⟨v, hv, l, _, rfl⟩ := mem_grow.mp hw
      have := ih v hv
      rw [List.length_append]
      show v.length + 1 ≤ _
      omega
theorem grow_loop {Dn : Ends3} {p n : Nat} {K : List Int} {G : Reg} (rs : List (List Int)) (hrl : rs.length ≤ 1000) (hs : ∀ i, (prods (rs.take i)).length ≤ 3000) (hr : ∀ r ∈ rs, r.length ≤ 1000)
    (hN : ∀ s3 s4 : Sl3, (s3 = .own ((prods rs).map pt) ∨ s3 = .val (.lst ((prods rs).map pt))) → Dn.nx [.val (.int (p : Int)), .val (pt K), .val (.int (n : Int)), s3, s4, .no, .no] G) :
    dForL (gNm 4) (dSet 3 (dIf (dTest (dOp oNe (dVar 4) (dLst dNil))) (dLc2 (dIter (dVar 3)) (gNm 5) dYes (dIter (dVar 4)) (gNm 6) dYes (dTup (dStar (dVar 5) (dCons (dVar 6) dNil))) [5, 6] [6]) (dVar 3))) (rs.map lst) Dn
      [.val (.int (p : Int)), .val (pt K), .val (.int (n : Int)), .own [pt []], .no, .no, .no] G := by
  have hS := sizeLine_eq
  refine for_ind (fun ds E G2 => G2 = G ∧ ∃ (done rest : List (List Int)) (s3 s4 : Sl3), done ++ rest = rs ∧ ds = rest.map lst ∧ (s3 = .own ((prods done).map pt) ∨ s3 = .val (.lst ((prods done).map pt))) ∧ E = [.val (.int (p : Int)), .val (pt K), .val (.int (n : Int)), s3, s4, .no, .no]) (fun E G2 hI => ?_) (fun d ds E G2 nx hI hn => ?_) _ _ _ ⟨rfl, [], rs, _, _, rfl, rfl, .inl rfl, rfl⟩
  · obtain ⟨rfl, done, rest, s3, s4, e, hd, h3, rfl⟩ := hI
    have : rest = [] := List.map_eq_nil_iff.mp hd.symm
    subst this
    rw [List.append_nil] at e
    subst e
    exact hN s3 s4 h3
  · obtain ⟨rfl, done, rest, s3, s4, e, hd, h3, rfl⟩ := hI
    cases rest with
    | nil => cases hd
    | cons r rest =>
      obtain ⟨e3, e4⟩ := List.cons.inj hd
      subst e3 e4
      have hrl := hr r (by rw [← e]; simp)
      have hz : (prods (done ++ [r])).length ≤ 3000 := by
        have := hs (done.length + 1)
        rw [← e, show done ++ r :: rest = (done ++ [r]) ++ rest by simp, List.take_left' (by rw [List.length_append]; rfl)] at this
        exact this
      have hn' : ∀ s3 : Sl3, (s3 = .own ((prods (done ++ [r])).map pt) ∨ s3 = .val (.lst ((prods (done ++ [r])).map pt))) → nx [.val (.int (p : Int)), .val (pt K), .val (.int (n : Int)), s3, .val (lst r), .no, .no] G2 := fun s3 h3 =>
        hn _ _ ⟨rfl, done ++ [r], rest, s3, _, by rw [List.append_assoc]; exact e, rfl, h3, rfl⟩
      rw [prods_snoc] at hz hn'
      have hWm : ∀ w ∈ prods done, w.length ≤ 1000 := fun w hw => Nat.le_trans (prods_mlen done w hw) (by
        have := congrArg List.length e
        rw [List.length_append] at this
        omega)
      generalize prods done = W at h3 hz hn' hWm
      unfold growN at hz hn'
      by_cases z : r = []
      · rw [if_pos z] at hn'
        rcases h3 with rfl | rfl
        · walk_at "ev"
          refine ⟨sh_ints _, sh_ints [], ?_⟩
          refine ⟨_, rfl, ?_⟩
          refine ifNQ (lst_nil r) (fun zz => absurd z zz) (fun _ => ?_)
          walk_at "ev"
          exact hn' _ (.inr rfl)
        · walk_at "ev"
          refine ⟨sh_ints _, sh_ints [], ?_⟩
          refine ⟨_, rfl, ?_⟩
          refine ifNQ (lst_nil r) (fun zz => absurd z zz) (fun _ => ?_)
          walk_at "ev"
          exact hn' _ (.inr rfl)
      · rw [if_neg z] at hn' hz
        have hWl : W.length ≤ 3000 := by
          rw [len_grow] at hz
          have : 1 ≤ r.length := Nat.pos_of_ne_zero fun zz => z (List.length_eq_zero_iff.mp zz)
          exact Nat.le_trans (Nat.le_mul_of_pos_right _ this) hz
        have core : ∀ (E : Env3) (k : List D → Env3 → Reg → Prop), E = [.val (.int (p : Int)), .val (pt K), .val (.int (n : Int)), .val (.lst (W.map pt)), .val (lst r), .no, .no] → k ((grow r W).map pt) E G2 →
            dLcO (gNm 5) dYes (dIter (dVar 4)) (gNm 6) dYes (dTup (dStar (dVar 5) (dCons (dVar 6) dNil))) [5, 6] [6] (W.map pt) [] E G2 k := fun E k hE hk => by
          subst hE
          refine lcO_map pt (fun w => r.map (snocD w)) (fun w => w.length ≤ 1000) (fun w acc k1 k2 hw hz e1 => ?_) W [] _ hWm ?_ ?_
          · walk_at "ev"
            refine lcI_map D.int (snocD w) (fun _ => True) (fun l Z k3 k4 _ hZ e2 => ?_) r acc k1 (fun _ _ => trivial) ?_ (e1 _ rfl)
            · clear hn hn' hN hk
              walk_at "ev"
              refine ⟨by rw [List.length_append, List.length_map, hS]; show w.length + 1 ≤ _; omega, ?_⟩
              have ew : w.map D.int ++ [D.int l] = (w ++ [l]).map D.int := by rw [List.map_append]; rfl
              rw [ew]
              walk_at "ev"
              exact e2 _ rfl
            · rw [List.length_map] at hz
              exact hz
          · rw [grow_D, List.length_map]
            show 0 + _ ≤ _
            omega
          · rw [grow_D]; exact hk
        rcases h3 with rfl | rfl
        · walk_at "ev"
          refine ⟨sh_ints _, sh_ints [], ?_⟩
          refine ⟨_, rfl, ?_⟩
          refine ifNQ (lst_nil r) (fun _ => ?_) (fun zz => absurd zz z)
          walk_at "ev"
          exact core _ _ rfl ⟨show 3 < 7 by decide, _, rfl, hn' _ (.inl rfl)⟩
        · walk_at "ev"
          refine ⟨sh_ints _, sh_ints [], ?_⟩
          refine ⟨_, rfl, ?_⟩
          refine ifNQ (lst_nil r) (fun _ => ?_) (fun zz => absurd zz z)
          walk_at "ev"
          exact core _ _ rfl ⟨show 3 < 7 by decide, _, rfl, hn' _ (.inl rfl)⟩
theorem p_each_of_kind : ∀ ds G q dw, sp_each_of_kind ds G q dw → t_each_of_kind dw { nx := fun ys _ G' => q ys G', rt := fun ys r G' => r = .val .non ∧ q ys G' } [] (start3 ["prime", "kind", "length", "found", "row", "word", "letter"] ds) G := by
  intro ds G q dw h
  unfold t_each_of_kind
  obtain ⟨p, K, n, rfl, hp, hk, hl60, hn60, hm, h⟩ := h
  obtain ⟨hp2, hp31⟩ := pr_nat hp
  have hS := sizeLine_eq
  walk_at "ev"
  refine ifD (fun z => ?_) (fun z => ?_)
  · have z : ((many p K n : Nat) : Int) > 3000 := z
    omega
  walk_at "ev"
  refine ⟨fun z => ?_, fun z => ?_⟩
  · unfold wordsK at h
    rw [if_pos z] at h
    show orK (.val .non) _ _
    walk_at "ev"
    refine Stop.go ?_
    refine grow_loop (p := p) (n := n) (K := K) (G := G) [[]] (by decide) (fun i => ?_) (fun r hr => ?_) (fun s3 s4 h3 => ?_)
    · cases i with
      | zero => show 1 ≤ 3000; decide
      | succ i => rw [List.take_succ_cons, List.take_nil]; show 1 ≤ 3000; decide
    · rw [List.mem_singleton.mp hr]; exact Nat.zero_le _
    clear h3
    have hge : decide ((((List.map D.int K).length : Nat) : Int) ≤ (n : Int)) = false := by rw [List.length_map]; exact decide_eq_false (by omega)
    walk_at "ev"
    refine ifFq hge ?_
    exact h
  · unfold wordsK at h
    rw [if_neg (by omega)] at h
    have hge : decide ((((List.map D.int K).length : Nat) : Int) ≤ (n : Int)) = true := by rw [List.length_map]; exact decide_eq_true (by omega)
    have fin : ∀ (W : List (List Int)) (s3 s4 : Sl3), s3 = .own (W.map pt) ∨ s3 = .val (.lst (W.map pt)) → W.length ≤ 3000 → q (W.map pt) G →
        dGSeq (dGIf (dTest (dOp oGe (dVar 2) (dCB bLen (dPCons (dVar 1) dNil)))) (dGSeq (dGFor (dIter (dVar 3)) (gNm 5) (dGSeq (dGYield (dVar 5)) dGNil)) dGNil) dGNil) dGNil { nx := fun ys x G' => q ys G', rt := fun ys r G' => r = Res.val D.non ∧ q ys G' } []
          [.val (.int (p : Int)), .val (pt K), .val (.int (n : Int)), s3, s4, .no, .no] G := fun W s3 s4 h3 hW h => by
      have key : ∀ s3 : Sl3, dGForL (gNm 5) (dGSeq (dGYield (dVar 5)) dGNil) (W.map pt) { nx := fun ys E1 G1 => dGNil { nx := fun ys E1 G1 => dGNil { nx := fun ys x G' => q ys G', rt := fun ys r G' => r = Res.val D.non ∧ q ys G' } ys E1 G1, rt := fun ys r G' => r = Res.val D.non ∧ q ys G' } ys E1 G1, rt := fun ys r G' => r = Res.val D.non ∧ q ys G' } []
          [.val (.int (p : Int)), .val (pt K), .val (.int (n : Int)), s3, s4, .no, .no] G := fun s3 => by
        refine gfor_ind (fun ds ys E G2 => G2 = G ∧ ∃ (done rest : List (List Int)) (s5 : Sl3), done ++ rest = W ∧ ds = rest.map pt ∧ ys = done.map pt ∧
          E = [.val (.int (p : Int)), .val (pt K), .val (.int (n : Int)), s3, s4, s5, .no]) (fun ys E G2 hI => ?_) (fun d ds ys E G2 nx hI hnx => ?_) _ _ _ _ ⟨rfl, [], W, _, rfl, rfl, rfl, rfl⟩
        · obtain ⟨rfl, done, rest, s5, e, hd, rfl, rfl⟩ := hI
          have : rest = [] := List.map_eq_nil_iff.mp hd.symm
          subst this
          rw [List.append_nil] at e
          subst e
          exact h
        · obtain ⟨rfl, done, rest, s5, e, hd, rfl, rfl⟩ := hI
          cases rest with
          | nil => cases hd
          | cons w rest =>
            obtain ⟨e3, e4⟩ := List.cons.inj hd
            subst e3 e4
            have hdl : done.length < sizeLine := by
              have := congrArg List.length e
              rw [List.length_append, List.length_cons] at this
              omega
            refine And.intro (show 5 < 7 by decide) ?_
            exact ⟨by rw [List.length_map]; exact hdl, _, _, rfl, hnx _ _ _ ⟨rfl, done ++ [w], rest, .val (pt w), by rw [List.append_assoc]; exact e, rfl, by rw [List.map_append]; rfl, rfl⟩⟩
      rcases h3 with rfl | rfl
      · walk_at "ev"
        refine ifTq hge ?_
        exact ⟨_, _, rfl, _, rfl, key _⟩
      · walk_at "ev"
        refine ifTq hge ?_
        exact ⟨_, _, rfl, _, rfl, key _⟩
    have hpl : ∀ i, (prods ((rowsOf p K n).take i)).length ≤ 3000 := fun i => by
      have ok := fun r hr => (rows_ok hp2 hk z r hr).1
      rw [len_prods _ (fun r hr => ok r (List.mem_of_mem_take hr))]
      refine Nat.le_trans ?_ hm
      rw [← lens_rows hp2 hk z]
      conv => rhs; rw [← List.take_append_drop i (rowsOf p K n)]
      rw [lens_app]
      exact Nat.le_mul_of_pos_right _ (lens_pos fun r hr => ok r (List.mem_of_mem_drop hr))
    have hsm := rows_small (p := p) (K := K) (n := n) z hp31
    have hrlen := rows_len (p := p) (K := K) z hn60
    have hall := hpl (rowsOf p K n).length
    rw [List.take_length] at hall
    by_cases hr0 : rowsOf p K n = []
    · rw [hr0] at h ⊢
      walk_at "ev"
      refine Stop.go ?_
      refine grow_loop (p := p) (n := n) (K := K) (G := G) [[]] (by decide) (fun i => ?_) (fun r hr => ?_) (fun s3 s4 h3 => ?_)
      · cases i with
        | zero => show 1 ≤ 3000; decide
        | succ i => rw [List.take_succ_cons, List.take_nil]; show 1 ≤ 3000; decide
      · rw [List.mem_singleton.mp hr]; exact Nat.zero_le _
      exact fin [[]] s3 s4 h3 (by decide) h
    · have hor : ∀ (a b : Prop), a → orK (.fr ((rowsOf p K n).map lst)) a b := fun a b ha => by
        show if ((rowsOf p K n).map lst).isEmpty = true then b else a
        rw [if_neg (by rw [List.isEmpty_iff, List.map_eq_nil_iff]; exact hr0)]
        exact ha
      refine hor _ _ ?_
      walk_at "ev"
      refine Stop.go ?_
      exact grow_loop (p := p) (n := n) (K := K) (G := G) (rowsOf p K n) hrlen hpl hsm fun s3 s4 h3 => fin _ s3 s4 h3 hall h
theorem cntK_le {p : Nat} {K : List Int} (hp : p ≤ 31) (hl : K.length ≤ 60) : cntK p K ≤ 2 ^ 300 := by
  have h : ∀ (fs : List Fm), (fs.map (lenF p)).foldl (· * ·) 1 ≤ 32 ^ fs.length := by
    refine fun fs => rev_indL (P := fun fs : List Fm => (fs.map (lenF p)).foldl (· * ·) 1 ≤ 32 ^ fs.length) (Nat.le_refl _) (fun fs f ih => ?_) fs
    rw [List.map_append, List.foldl_append, List.length_append]
    show _ * lenF p f ≤ 32 ^ (fs.length + 1)
    rw [Nat.pow_succ]
    refine Nat.mul_le_mul ih ?_
    cases f
    · show p + 1 ≤ 32; omega
    · show 1 ≤ 32; omega
    · show p - 1 ≤ 32; omega
    · show p ≤ 32; omega
  refine Nat.le_trans (h (forms K)) ?_
  rw [forms_len]
  exact K11.pow_big (by decide) hl
theorem mul_wide {a b : Nat} (ha : a ≤ 2 ^ 300) (hb : b ≤ 2 ^ 300) : MulOk (a : Int) (b : Int) := by
  have g : ∀ x : Nat, x ≤ 2 ^ 300 → ((x : Int)).natAbs.log2 ≤ 300 := fun x hx => by
    show x.log2 ≤ 300
    by_cases z : x = 0
    · subst z; decide
    · have := (Nat.log2_lt z (k := 301)).mpr (Nat.lt_of_le_of_lt hx (Nat.pow_lt_pow_right (by decide) (by decide)))
      omega
  refine .inr ?_
  show _ + _ < 1000000
  have := g a ha
  have := g b hb
  omega
theorem p__law_counted : ∀ ds G q dw, sp__law_counted ds G q dw → t__law_counted dw { nx := fun _ G' => q (.val .non) G', rt := q } (start3 ["_law_prime", "_law_kind", "_law_length", "_law_corners", "_law_found", "_law_at", "_law_more"] ds) G := by
  intro ds G q dw h
  unfold t__law_counted
  obtain ⟨p, K, n, rfl, hp2, hp31, hk, hl60, hn60, h⟩ := h
  have hS := sizeLine_eq
  walk_at "ev"
  refine ⟨sh_pt _, sh_pt [], ?_⟩
  refine ⟨_, rfl, ?_⟩
  refine ifQ (eqv_nil K) (fun zK => ?_) (fun zK => ?_)
  · subst zK
    unfold many at h
    rw [if_neg (by show ¬ n < 0; omega), if_pos rfl] at h
    walk_at "ev"
    refine ifD (fun z => ?_) (fun z => ?_)
    · have z : (n : Int) < 2 := z
      walk_at "ev"
      by_cases h0 : n = 0
      · subst h0
        walk_at "ev"
        exact h
      · have : n = 1 := by omega
        subst this
        walk_at "ev"
        exact h
    · have z : ¬ (n : Int) < 2 := z
      rw [if_neg (by omega), if_neg (by omega)] at h
      walk_at "ev"
      refine ⟨p, n - 2, by rw [show ((n - 2 : Nat) : Int) = (n : Int) - 2 by omega], hp31, by omega, ?_⟩
      walk_at "ev"
      refine ⟨.inl (.inl (by omega)), ?_⟩
      walk_at "ev"
      refine ⟨.inl (.inr (by omega)), ?_⟩
      walk_at "ev"
      have e : ((p : Int) + 1) * ((p ^ (n - 2) : Nat) : Int) * ((p : Int) - 1) = (((p + 1) * p ^ (n - 2) * (p - 1) : Nat) : Int) := by
        rw [Int.natCast_mul ((p + 1) * p ^ (n - 2)) (p - 1), Int.natCast_mul (p + 1) (p ^ (n - 2)), show ((p - 1 : Nat) : Int) = (p : Int) - 1 by omega]; rfl
      rw [e]
      exact h
  · walk_at "ev"
    rw [List.length_map]
    refine ifD (fun z => ?_) (fun z => ?_)
    · have z : (n : Int) < (K.length : Int) := z
      unfold many at h
      rw [if_pos (by omega)] at h
      walk_at "ev"
      exact h
    have z : ¬ (n : Int) < (K.length : Int) := z
    have hK1 : 1 ≤ K.length := Nat.pos_of_ne_zero fun zz => zK (List.length_eq_zero_iff.mp zz)
    walk_at "ev"
    rw [List.length_map]
    refine ⟨⟨by omega, by omega, by omega, by omega⟩, ?_⟩
    rw [show ((K.length : Int) - 1).toNat = K.length - 1 by omega]
    refine for_ind (fun ds E G2 => G2 = G ∧ ∃ (i : Nat) (s5 : Sl3), i + ds.length = K.length ∧ 1 ≤ i ∧ ds = (List.range' i ds.length).map (fun k => D.int ((k : Nat) : Int)) ∧
      E = [.val (.int (p : Int)), .val (pt K), .val (.int (n : Int)), .own ((zi (crn K)).map D.int), .val (.int (cntT p K i : Nat)), s5, .no]) (fun E G2 hI => ?_) (fun d ds E G2 nx hI hnx => ?_) _ _ _ ⟨rfl, 1, .no, ?_, Nat.le_refl _, ?_, ?_⟩
    · obtain ⟨rfl, i, s5, hi, hi1, hd, rfl⟩ := hI
      have hi : i = K.length := by simpa using hi
      subst hi
      rw [cntT_all]
      walk_at "ev"
      rw [List.length_map]
      unfold many at h
      rw [if_neg (by omega), if_neg zK] at h
      by_cases hm : n = K.length
      · rw [if_pos hm] at h
        refine ifTq (by show D.eqv (.int _) (.int 0) = true; rw [eqv_int]; exact decide_eq_true (by omega)) ?_
        walk_at "ev"
        exact h
      · rw [if_neg hm] at h
        refine ifFq (by show D.eqv (.int _) (.int 0) = false; rw [eqv_int]; exact decide_eq_false (by omega)) ?_
        walk_at "ev"
        refine ⟨p, n - K.length - 1, by rw [show ((n - K.length - 1 : Nat) : Int) = (n : Int) - K.length - 1 by omega], hp31, by omega, ?_⟩
        walk_at "ev"
        refine ⟨mul_wide (cntK_le hp31 hl60) (K11.pow_big (by omega) (by omega)), ?_⟩
        walk_at "ev"
        refine ⟨mulOk_r (by omega) (by omega), ?_⟩
        walk_at "ev"
        have e : ((cntK p K : Nat) : Int) * ((p ^ (n - K.length - 1) : Nat) : Int) * ((p : Int) - 1) = ((cntK p K * p ^ (n - K.length - 1) * (p - 1) : Nat) : Int) := by
          rw [Int.natCast_mul (cntK p K * p ^ (n - K.length - 1)) (p - 1), Int.natCast_mul (cntK p K) (p ^ (n - K.length - 1)), show ((p - 1 : Nat) : Int) = (p : Int) - 1 by omega]
        rw [e]
        exact h
    · obtain ⟨rfl, i, s5, hi, hi1, hd, rfl⟩ := hI
      rw [List.length_cons] at hi hd
      rw [List.range'_succ, List.map_cons] at hd
      obtain ⟨e1, e2⟩ := List.cons.inj hd
      subst e1
      obtain ⟨f1, f2, f3⟩ := forms_crn (i := i) hk.1 hi1 (by omega)
      have a1 : D.among (.int ((i : Int) + 1)) ((zi (crn K)).map D.int) = decide (Crn K (i + 1)) := among_crn K (i + 1)
      have a0 : D.among (.int (i : Int)) ((zi (crn K)).map D.int) = decide (Crn K i) := among_crn K i
      have done : ∀ (f : Fm) (s5 : Sl3), (forms K)[i]? = some f → nx [.val (.int (p : Int)), .val (pt K), .val (.int (n : Int)), .own ((zi (crn K)).map D.int), .val (.int (cntT p K i * lenF p f : Nat)), .val (.int (i : Int)), .no] G2 := fun f s5 hf => by
        rw [← cntT_step hf]
        exact hnx _ _ ⟨rfl, i + 1, _, by omega, by omega, e2, rfl⟩
      have done1 : ∀ (f : Fm) (v : Int), (forms K)[i]? = some f → ((lenF p f : Nat) : Int) = v → nx [.val (.int (p : Int)), .val (pt K), .val (.int (n : Int)), .own ((zi (crn K)).map D.int), .val (.int ((cntT p K i : Nat) * v)), .val (.int (i : Int)), .no] G2 := fun f v hf hv => by
        have := done f .no hf
        rw [Int.natCast_mul (cntT p K i) (lenF p f), hv] at this
        exact this
      walk_at "ev"
      refine ⟨sh_ints _, ?_⟩
      rw [a1]
      refine ⟨_, rfl, ?_⟩
      refine ifND (fun c1 => ?_) (fun c1 => ?_)
      · walk_at "ev"
        refine ⟨sh_ints _, ?_⟩
        rw [a0]
        refine ⟨_, rfl, ?_⟩
        refine ifD (fun c0 => ?_) (fun c0 => ?_)
        · walk_at "ev"
          refine ⟨mulOk_r (by omega) (by omega), ?_⟩
          walk_at "ev"
          exact done1 .live _ (f2 c1 c0) (by show ((p - 1 : Nat) : Int) = _; omega)
        · walk_at "ev"
          refine ⟨mulOk_r (by omega) (by omega), ?_⟩
          walk_at "ev"
          exact done1 .free _ (f3 c1 c0) rfl
      · walk_at "ev"
        have := done1 .fixed 1 (f1 c1) rfl
        rw [Int.mul_one] at this
        exact this
    · unfold rangeD; rw [List.length_map, List.length_range]; omega
    · unfold rangeD
      rw [List.length_map, List.length_range, List.range'_eq_map_range, List.map_map]
      exact List.map_congr_left fun k _ => by show D.int _ = D.int _; congr 1
    · rw [cntT_one p zK]; rfl
theorem p__law_wd_pair : ∀ ds G q dw, sp__law_wd_pair ds G q dw → t__law_wd_pair dw { nx := fun _ G' => q (.val .non) G', rt := q } (start3 ["_law_dice_here", "_law_prime"] ds) G := by
  intro ds G q dw h
  unfold t__law_wd_pair
  obtain ⟨a, R, rfl, hd, h⟩ := h
  walk_at "ev"
  refine ⟨a, R, _, rfl, hd, by simp, (show 6 ≤ 1000 by decide), fun d G1 hm hd1 => ?_⟩
  obtain ⟨p, rfl, hp⟩ : ∃ p : Nat, d = .int (p : Int) ∧ Pr (p : Int) := by
    simp only [List.mem_cons, List.not_mem_nil, or_false] at hm
    rcases hm with rfl | rfl | rfl | rfl | rfl | rfl
    · exact ⟨2, rfl, (show (2 : Int) ∈ LN.primes by decide)⟩
    · exact ⟨3, rfl, (show (3 : Int) ∈ LN.primes by decide)⟩
    · exact ⟨3, rfl, (show (3 : Int) ∈ LN.primes by decide)⟩
    · exact ⟨5, rfl, (show (5 : Int) ∈ LN.primes by decide)⟩
    · exact ⟨7, rfl, (show (7 : Int) ∈ LN.primes by decide)⟩
    · exact ⟨31, rfl, (show (31 : Int) ∈ LN.primes by decide)⟩
  walk_at "ev"
  refine ⟨a, R, (p : Int), 9, rfl, hd1, hp, by decide, by decide, fun ws G2 hl hpt hw hd2 => ?_⟩
  walk_at "ev"
  exact h p ws G2 hp hpt hw (by omega) hd2
theorem p__law_is_counted : ∀ ds G q dw, sp__law_is_counted ds G q dw → t__law_is_counted dw { nx := fun _ G' => q (.val .non) G', rt := q } (start3 ["_law_dice_here", "_law_prime", "_law_word", "_law_kind", "_law_length"] ds) G := by
  intro ds G q dw h
  unfold t__law_is_counted
  obtain ⟨a, R, rfl, hd, h⟩ := h
  walk_at "ev"
  refine ⟨a, R, rfl, hd, fun p ws G1 hp hpt hw hl9 hd1 => ?_⟩
  obtain ⟨hp2, hp31⟩ := pr_nat hp
  have hl1000 : ws.length ≤ 1000 := by omega
  have hkl := kind_len ws
  have hkd := kd_kind hw
  walk_at "ev"
  intro s
  walk_at "ev"
  refine ⟨a, R, 61, rfl, hd1, by decide, K11.lt_big (by decide), fun n0 G2 h0 h1 hd2 => ?_⟩
  obtain ⟨n, rfl⟩ : ∃ n : Nat, n0 = (n : Int) := ⟨n0.toNat, by omega⟩
  have hn60 : n ≤ 60 := by omega
  walk_at "ev"
  refine ⟨by omega, hn60, ?_⟩
  have hk60 : (kindW ws).length ≤ 60 := by omega
  walk_at "ev"
  refine ifNE (fun z => absurd rfl z) (fun _ => ?_)
  have hk60' : ((kindW ws).map D.int).length ≤ 60 := by rw [List.length_map]; exact hk60
  walk_at "ev"
  rw [eqv_int, decide_eq_true rfl]
  exact h _ hd2
def genF (ws w : List Int) : Option D := if decide (gensW w = gensW ws) = true then some (pt w) else none
theorem gen_fm (p n : Nat) (ws : List Int) : (K11.allW p n).filterMap (genF ws) = (some_ p ws n).map pt := by
  unfold some_
  induction K11.allW p n with
  | nil => rfl
  | cons w W ih =>
    rw [List.filterMap_cons, List.filter_cons, genF]
    by_cases z : gensW w = gensW ws
    · rw [decide_eq_true z, if_pos rfl, if_pos rfl, List.map_cons, ih]
    · rw [decide_eq_false z, if_neg (by decide), if_neg (by decide), ih]
@[irreducible] def tL (dw : Exc3 → Reg → Prop) : DSt :=
  (dSeq (dAsg (dTup (dCons (dCall sp_kind_of (fun x _ G => dw x G) (dCons (dMake "Branch" sp_Branch_init (dCons (dVar 1) (dCons (dVar 3) dNil))) dNil)) (dCons (dCall sp__law_generators (fun x _ G => dw x G) (dCons (dVar 3) dNil)) dNil))) (gTp 2 (gsCons (gNm 5) (gsCons (gNm 6) gsNil))))
    (dSeq (dSet 7 (dLc (dIter (dCall sp__law_wd_all (fun x _ G => dw x G) (dCons (dVar 1) (dCons (dVar 4) dNil)))) (gNm 8) (dTest (dOp oEq (dCall sp__law_generators dw0 (dCons (dVar 8) dNil)) (dVar 6))) (dVar 8) [8]))
    (dRet (dAndV (dOp oEq (dListG sp_each_of_kind [] (fun x _ G => dw x G) (dCons (dVar 1) (dCons (dVar 5) (dCons (dVar 4) dNil)))) (dVar 7)) (dOp oEq (dCall sp_count_of_kind (fun x _ G => dw x G) (dCons (dVar 1) (dCons (dVar 5) (dCons (dVar 4) dNil)))) (dCB bLen (dPCons (dVar 7) dNil)))))))
theorem tL_eq (dw : Exc3 → Reg → Prop) : tL dw = (dSeq (dAsg (dTup (dCons (dCall sp_kind_of (fun x _ G => dw x G) (dCons (dMake "Branch" sp_Branch_init (dCons (dVar 1) (dCons (dVar 3) dNil))) dNil)) (dCons (dCall sp__law_generators (fun x _ G => dw x G) (dCons (dVar 3) dNil)) dNil))) (gTp 2 (gsCons (gNm 5) (gsCons (gNm 6) gsNil))))
    (dSeq (dSet 7 (dLc (dIter (dCall sp__law_wd_all (fun x _ G => dw x G) (dCons (dVar 1) (dCons (dVar 4) dNil)))) (gNm 8) (dTest (dOp oEq (dCall sp__law_generators dw0 (dCons (dVar 8) dNil)) (dVar 6))) (dVar 8) [8]))
    (dRet (dAndV (dOp oEq (dListG sp_each_of_kind [] (fun x _ G => dw x G) (dCons (dVar 1) (dCons (dVar 5) (dCons (dVar 4) dNil)))) (dVar 7)) (dOp oEq (dCall sp_count_of_kind (fun x _ G => dw x G) (dCons (dVar 1) (dCons (dVar 5) (dCons (dVar 4) dNil)))) (dCB bLen (dPCons (dVar 7) dNil))))))) := by unfold tL; rfl
theorem listed_tail {dw : Exc3 → Reg → Prop} {q : Res → Reg → Prop} {a : Addr} {p m n : Nat} {ws : List Int} {G : Reg} (hp : Pr (p : Int)) (hp5 : p ≤ 5) (hm : m ≤ 6) (hn : n ≤ m) (hb : (p + 1) ^ m ≤ 3000) (hl : ws.length ≤ m) (hpt : Pt p ws) (hw : Wd ws) (h : q (.val (.bl true)) G) :
    tL dw { nx := fun _ G' => q (.val .non) G', rt := q } [.val (.ref a), .val (.int (p : Int)), .val (.int (m : Int)), .val (pt ws), .val (.int (n : Int)), .no, .no, .no, .no] G := by
  rw [tL_eq]
  have hS := sizeLine_eq
  obtain ⟨hp2, hp31⟩ := pr_nat hp
  have hl1000 : ws.length ≤ 1000 := by omega
  have hkl := kind_len ws
  have hkd := kd_kind hw
  have hn60 : n ≤ 60 := by omega
  have hbn : (p + 1) ^ n ≤ 100000 := Nat.le_trans (Nat.pow_le_pow_right (by omega) hn) (by omega)
  have hl60 : ws.length ≤ 60 := by omega
  have hk60 : (kindW ws).length ≤ 60 := by omega
  have hm : many p (kindW ws) n ≤ 3000 := by
    rw [← counted hp2 hw n]
    refine Nat.le_trans (List.length_filter_le _ _) ?_
    rw [K11.allW_len]
    refine Nat.le_trans ?_ (Nat.le_trans (Nat.pow_le_pow_right (by omega) hn) hb)
    unfold K11.manyW
    split
    · exact Nat.pow_pos (by omega)
    · split
      · rename_i h1
        subst h1
        rw [Nat.pow_one]; omega
      · obtain ⟨j, rfl⟩ : ∃ j, n = j + 1 := ⟨n - 1, by omega⟩
        rw [show j + 1 - 1 = j by omega, Nat.pow_succ, Nat.mul_comm]
        exact Nat.mul_le_mul_left _ (by omega)
  have hal : (K11.allW p n).length ≤ 3000 + 100000 := by
    rw [K11.allW_len]
    unfold K11.manyW
    split
    · omega
    · split
      · omega
      · refine Nat.le_trans ?_ (Nat.le_trans hbn (by omega))
        obtain ⟨j, rfl⟩ : ∃ j, n = j + 1 := ⟨n - 1, by omega⟩
        rw [show j + 1 - 1 = j by omega, Nat.pow_succ, Nat.mul_comm]
        exact Nat.mul_le_mul_left _ (by omega)
  walk_at "ev"
  intro s
  walk_at "ev"
  refine ⟨by rw [List.length_map, hS]; omega, ?_⟩
  refine lc_flt pt (genF ws) (fun w => w.length ≤ 60 ∧ Wd w) (fun w k1 k2 hP e1 e2 => ?_) (fun w hw => ?_) ?_
  · obtain ⟨hP1, hP2⟩ := hP
    clear h
    walk_at "ev"
    refine ⟨sh_pt _, sh_pt _, ?_⟩
    refine ⟨_, rfl, ?_⟩
    refine ifQ (eqv_pt _ _) (fun z => ?_) (fun z => ?_)
    · walk_at "ev"
      exact e1 _ _ (by unfold genF; rw [decide_eq_true z, if_pos rfl]) rfl
    · exact e2 _ (by unfold genF; rw [decide_eq_false z, if_neg (by decide)]) rfl
  · obtain ⟨h1, h2, _⟩ := (mem_allW hp2 w).mp hw
    exact ⟨by omega, h2⟩
  rw [gen_fm]
  have hwk : wordsK p (kindW ws) n = some_ p ws n := by
    unfold wordsK
    split
    · rename_i hz
      rw [listed_none hp2 hw hz]
    · exact listed hp2 hw (by omega)
  have hk60 : (kindW ws).length ≤ 60 := by omega
  walk_at "ev"
  rw [hwk]
  refine ⟨K11.sh_pts _, K11.sh_pts _, ?_⟩
  rw [K11.eqv_pts, decide_eq_true rfl]
  walk_at "ev"
  rw [List.length_map, counted hp2 hw n, eqv_int, decide_eq_true rfl]
  exact h
theorem p__law_is_listed : ∀ ds G q dw, sp__law_is_listed ds G q dw → t__law_is_listed dw { nx := fun _ G' => q (.val .non) G', rt := q } (start3 ["_law_dice_here", "_law_prime", "_law_most", "_law_word", "_law_length", "_law_kind", "_law_due", "_law_some", "_law_one"] ds) G := by
  intro ds G q dw h
  unfold t__law_is_listed
  obtain ⟨a, R, rfl, hd, h⟩ := h
  walk_at "ev"
  refine ⟨a, R, _, rfl, hd, by simp, (show 4 ≤ 1000 by decide), fun e G1 he d1 => ?_⟩
  have hp : ∃ p m : Nat, e = .tup [.int (p : Int), .int (m : Int)] ∧ LN.Pr (p : Int) ∧ 2 ≤ p ∧ p ≤ 5 ∧ 3 ≤ m ∧ m ≤ 6 ∧ (p + 1) ^ m ≤ 3000 := by
    simp only [List.mem_cons, List.not_mem_nil, or_false] at he
    rcases he with rfl | rfl | rfl | rfl
    · exact ⟨2, 6, rfl, show (2 : Int) ∈ LN.primes by decide, by decide⟩
    · exact ⟨2, 5, rfl, show (2 : Int) ∈ LN.primes by decide, by decide⟩
    · exact ⟨3, 5, rfl, show (3 : Int) ∈ LN.primes by decide, by decide⟩
    · exact ⟨5, 3, rfl, show (5 : Int) ∈ LN.primes by decide, by decide⟩
  obtain ⟨p, m, rfl, hp, p2, p5, m3, m6, hb⟩ := hp
  walk_at "ev"
  refine ⟨a, R, (p : Int), (m : Int), rfl, d1, hp, by omega, by omega, fun ws G2 hl hpt hw d2 => ?_⟩
  have hl1000 : ws.length ≤ 1000 := by omega
  have hkl := kind_len ws
  have hkd := kd_kind hw
  walk_at "ev"
  refine ⟨a, R, (m : Int) + 1, rfl, d2, by omega, K11.lt_big (by omega), fun n0 G3 h0 h1 d3 => ?_⟩
  obtain ⟨n1, rfl⟩ : ∃ n : Nat, n0 = (n : Int) := ⟨n0.toNat, by omega⟩
  walk_at "ev"
  refine ⟨a, R, 2, rfl, d3, by decide, K11.lt_big (by decide), fun c G4 _ _ d4 => ?_⟩
  rw [← tL_eq]
  walk_at "ev"
  refine ifE (fun _ => ?_) (fun _ => ?_)
  · walk_at "ev"
    rw [List.length_map]
    exact listed_tail hp (by omega) (by omega) (by omega) hb (by omega) hpt hw (h _ d4)
  · walk_at "ev"
    exact listed_tail hp (by omega) (by omega) (by omega) hb (by omega) hpt hw (h _ d4)
theorem kd3 : Kd [-1, -1, 1] := ⟨.inr (.inr ⟨1, rfl, by decide⟩), by decide⟩
theorem kd0 : Kd [] := ⟨.inl rfl, rfl⟩
theorem m2 : many 3 [-1, -1, 1] 2 = 0 := by decide
theorem m3 : many 3 [-1, -1, 1] 3 = 8 := by decide
theorem m4 : many 3 [-1, -1, 1] 4 = 16 := by decide
theorem m5 : many 2 [] 3 = 6 := by decide
theorem m6 : many 2 [-1, -1, 1] 3 ≤ 3000 := by decide
theorem w6 : wordsK 2 [-1, -1, 1] 3 = [[-1, -1, 1], [0, -1, 1], [1, -1, 1]] := by decide
theorem pr2 : Pr (((2 : Nat) : Int)) := (show (2 : Int) ∈ LN.primes by decide)
theorem pr3 : Pr (((3 : Nat) : Int)) := (show (3 : Int) ∈ LN.primes by decide)
theorem p_law : ∀ ds G q dw, sp_law ds G q dw → t_law dw { nx := fun _ G' => q (.val .non) G', rt := q } (start3 ["_law_script", "_law_spot", "_law_dice_here", "_law_told", "_law_words", "_law_length"] ds) G := by
  intro ds G q dw h
  unfold t_law
  obtain ⟨ns, rfl, hns, h⟩ := h
  walk_at "ev"
  have hM := spots_le (m := 3) (n := (ns.length : Int)) (by decide) (by decide)
  refine ⟨Int.le_trans (by decide) hM.1, Int.lt_of_le_of_lt hM.2 (by decide), ?_⟩
  refine for_stop (.go ?_)
  refine for_ind (fun ds E G => (∀ d ∈ ds, ∃ k : Nat, d = .int (k : Int)) ∧ ∃ s1 s2, E = [.val (.scr ns), s1, s2, .no, .no, .no]) (fun E G hI => ?_) (fun d ds E G nx hI hn => ?_) _ _ _ ⟨fun d hd => ?_, _, _, rfl⟩
  · obtain ⟨_, s1, s2, rfl⟩ := hI
    walk_at "ev"
    refine Stop.go ?_
    refine lc_map0 (fun n : Nat => D.int (n : Int)) (fun n : Nat => D.int ((many 3 [-1, -1, 1] n : Nat) : Int)) (fun n => n ≤ 60) (l := [2, 3, 4]) (fun n k1 k2 hn e1 => ?_) (fun n hn => ?_) ?_
    · clear h
      walk_at "ev"
      refine ⟨3, [-1, -1, 1], n, rfl, pr3, kd3, (show 3 ≤ 60 by decide), hn, ?_⟩
      walk_at "ev"
      exact e1 _ rfl
    · simp only [List.mem_cons, List.not_mem_nil, or_false] at hn
      omega
    rw [show ([2, 3, 4] : List Nat).map (fun n : Nat => D.int ((many 3 [-1, -1, 1] n : Nat) : Int)) = [.int 0, .int 8, .int 16] by rw [List.map_cons, List.map_cons, List.map_cons, m2, m3, m4]; rfl]
    walk_at "ev"
    refine ⟨2, [], 3, rfl, pr2, kd0, (show 0 ≤ 60 by decide), (show 3 ≤ 60 by decide), ?_⟩
    rw [m5]
    walk_at "ev"
    refine ⟨2, [-1, -1, 1], 3, rfl, pr2, kd3, (show 3 ≤ 60 by decide), (show 3 ≤ 60 by decide), m6, ?_⟩
    rw [w6]
    walk_at "ev"
    have e : D.eqv (.lst ([[-1, -1, 1], [0, -1, 1], [1, -1, 1]].map pt)) (.lst ([[-1, -1, 1], [0, -1, 1], [1, -1, 1]].map pt)) = true := by rw [K11.eqv_pts, decide_eq_true rfl]
    refine (congrArg (fun b => q (.val (.bl b)) G) e).mpr ?_
    exact h _
  · obtain ⟨hd, s1, s2, rfl⟩ := hI
    obtain ⟨k, rfl⟩ := hd d List.mem_cons_self
    walk_at "ev"
    intro l m c
    walk_at "ev"
    intro a
    walk_at "ev"
    refine ⟨a, G, rfl, ⟨l, m, c, rfl⟩, fun G1 hd1 => ?_⟩
    walk_at "ev"
    refine ⟨a, G, rfl, hd1, fun G2 hd2 => ?_⟩
    walk_at "ev"
    refine ⟨a, G, rfl, hd2, fun G3 hd3 => ?_⟩
    walk_at "ev"
    refine ⟨a, G, rfl, hd3, fun G4 hd4 => ?_⟩
    walk_at "ev"
    exact hn _ _ ⟨fun z hz => hd z (List.mem_cons_of_mem _ hz), _, _, rfl⟩
  · unfold rangeD at hd
    obtain ⟨k, _, rfl⟩ := List.mem_map.mp hd
    exact ⟨k, by rw [Int.zero_add]⟩
end K47

set_option Elab.async false
set_option maxRecDepth 100000
set_option maxHeartbeats 4000000
/-! K47: the derivations (printed by gen5.py) -/
namespace K47
open PySem PySem.Spec PyProof.Rows L2 L3 LamX LD LN LP LO LB LC LV LK
def topS (i : Nat) : Stmt := PySem.Challenge.pw_touchtowers_k47_whole_words_of_a_kind.main.body.getD i (.Pass ⟨0, 0, 0, 0⟩)
structure Txt (P : Program) (K : PySem.W.Frag) (mg : Str → Option Value) : Prop where
  no_ : True
  n_abs : mg "abs" = none
  n_all : mg "all" = none
  n_bool : mg "bool" = none
  n_enumerate : mg "enumerate" = none
  n_int : mg "int" = none
  n_isinstance : mg "isinstance" = none
  n_len : mg "len" = none
  n_list : mg "list" = none
  n_max : mg "max" = none
  n_min : mg "min" = none
  n_range : mg "range" = none
  n_sorted : mg "sorted" = none
  n_str : mg "str" = none
  n_tuple : mg "tuple" = none
  n_zip : mg "zip" = none
  g_BLANK : ∃ t, mg "BLANK" = some (.str " " t)
  g_FIRST : ∃ t, mg "FIRST" = some (.str "first" t)
  g_FIXED : ∃ t, mg "FIXED" = some (.str "fixed" t)
  g_FREE : ∃ t, mg "FREE" = some (.str "free" t)
  g_GREAT : ∃ t, mg "GREAT" = some (.int (1000000000000000000000000000000000000000000000000000000000000) t)
  g_LIVE : ∃ t, mg "LIVE" = some (.str "not zero" t)
  g_MAX_LETTERS_kinds : ∃ t, mg "MAX_LETTERS_kinds" = some (.int (60) t)
  g_MAX_LETTERS_words : ∃ t, mg "MAX_LETTERS_words" = some (.int (60) t)
  g_MAX_LISTED : ∃ t, mg "MAX_LISTED" = some (.int (3000) t)
  g_ORIGIN_TEXT : ∃ t, mg "ORIGIN_TEXT" = some (.str "." t)
  g_PRIMES : TupAt K mg "PRIMES" [2, 3, 5, 7, 11, 13, 17, 19, 23, 29, 31]
  g_TURN : ∃ t, mg "TURN" = some (.int (-1) t)
  g_TURN_TEXT : ∃ t, mg "TURN_TEXT" = some (.str "t" t)
  sl_Branch_own_prime : SlotAt K "Branch" "own_prime" 0
  sl_Branch_own_text : SlotAt K "Branch" "own_text" 1
  sl_Branch_own_word : SlotAt K "Branch" "own_word" 2
  isi_Branch_Branch : Isi3 K "Branch" "Branch" true
  k_Branch : ∃ C, ClsN K "Branch" C ∧ mg "Branch" = some (.ref C)
section
variable {P : Program} {w : World} {K : PySem.W.Frag} {mg : Str → Option Value} {base : Heap}
abbrev s_is_whole : Stmt := topS 11
abbrev N_is_whole : List Str := ["value"]
theorem sc_is_whole : FnScope N_is_whole ["value"] (defScope s_is_whole) := ⟨rfl, rfl, rfl, by decide +kernel, rfl, by decide +kernel, by decide +kernel⟩
abbrev s_is_integer : Stmt := topS 12
abbrev N_is_integer : List Str := ["value"]
theorem sc_is_integer : FnScope N_is_integer ["value"] (defScope s_is_integer) := ⟨rfl, rfl, rfl, by decide +kernel, rfl, by decide +kernel, by decide +kernel⟩
abbrev s_is_prime : Stmt := topS 13
abbrev N_is_prime : List Str := ["value"]
theorem sc_is_prime : FnScope N_is_prime ["value"] (defScope s_is_prime) := ⟨rfl, rfl, rfl, by decide +kernel, rfl, by decide +kernel, by decide +kernel⟩
abbrev s_require_prime : Stmt := topS 20
abbrev N_require_prime : List Str := ["value"]
theorem sc_require_prime : FnScope N_require_prime ["value"] (defScope s_require_prime) := ⟨rfl, rfl, rfl, by decide +kernel, rfl, by decide +kernel, by decide +kernel⟩
abbrev s_require_count : Stmt := topS 21
abbrev N_require_count : List Str := ["value", "least", "most"]
theorem sc_require_count : FnScope N_require_count ["value", "least", "most"] (defScope s_require_count) := ⟨rfl, rfl, rfl, by decide +kernel, rfl, by decide +kernel, by decide +kernel⟩
abbrev s_is_letter : Stmt := topS 22
abbrev N_is_letter : List Str := ["prime", "value"]
theorem sc_is_letter : FnScope N_is_letter ["prime", "value"] (defScope s_is_letter) := ⟨rfl, rfl, rfl, by decide +kernel, rfl, by decide +kernel, by decide +kernel⟩
abbrev s_are_letters : Stmt := topS 23
abbrev N_are_letters : List Str := ["prime", "value", "letter"]
theorem sc_are_letters : FnScope N_are_letters ["prime", "value"] (defScope s_are_letters) := ⟨rfl, rfl, rfl, by decide +kernel, rfl, by decide +kernel, by decide +kernel⟩
abbrev s_ends_as_word : Stmt := topS 24
abbrev N_ends_as_word : List Str := ["point"]
theorem sc_ends_as_word : FnScope N_ends_as_word ["point"] (defScope s_ends_as_word) := ⟨rfl, rfl, rfl, by decide +kernel, rfl, by decide +kernel, by decide +kernel⟩
abbrev s_letters_text : Stmt := topS 25
abbrev N_letters_text : List Str := ["point", "letter"]
theorem sc_letters_text : FnScope N_letters_text ["point"] (defScope s_letters_text) := ⟨rfl, rfl, rfl, by decide +kernel, rfl, by decide +kernel, by decide +kernel⟩
abbrev s_Branch_init : Stmt := inClass (topS 28) 1
abbrev N_Branch_init : List Str := ["self", "prime", "word"]
theorem sc_Branch_init : FnScope N_Branch_init ["self", "prime", "word"] (defScope s_Branch_init) := ⟨rfl, rfl, rfl, by decide +kernel, rfl, by decide +kernel, by decide +kernel⟩
abbrev s_require_branch : Stmt := topS 30
abbrev N_require_branch : List Str := ["value"]
theorem sc_require_branch : FnScope N_require_branch ["value"] (defScope s_require_branch) := ⟨rfl, rfl, rfl, by decide +kernel, rfl, by decide +kernel, by decide +kernel⟩
abbrev s_forms_of : Stmt := topS 38
abbrev N_forms_of : List Str := ["word", "found", "at", "letter"]
theorem sc_forms_of : FnScope N_forms_of ["word"] (defScope s_forms_of) := ⟨rfl, rfl, rfl, by decide +kernel, rfl, by decide +kernel, by decide +kernel⟩
abbrev s_least_letter : Stmt := topS 39
abbrev N_least_letter : List Str := ["form", "letter"]
theorem sc_least_letter : FnScope N_least_letter ["form", "letter"] (defScope s_least_letter) := ⟨rfl, rfl, rfl, by decide +kernel, rfl, by decide +kernel, by decide +kernel⟩
abbrev s_kind_in : Stmt := topS 40
abbrev N_kind_in : List Str := ["word", "forms", "size", "form", "letter"]
theorem sc_kind_in : FnScope N_kind_in ["word"] (defScope s_kind_in) := ⟨rfl, rfl, rfl, by decide +kernel, rfl, by decide +kernel, by decide +kernel⟩
abbrev s_kind_of : Stmt := topS 41
abbrev N_kind_of : List Str := ["branch"]
theorem sc_kind_of : FnScope N_kind_of ["branch"] (defScope s_kind_of) := ⟨rfl, rfl, rfl, by decide +kernel, rfl, by decide +kernel, by decide +kernel⟩
abbrev s_is_kind_word : Stmt := topS 42
abbrev N_is_kind_word : List Str := ["value"]
theorem sc_is_kind_word : FnScope N_is_kind_word ["value"] (defScope s_is_kind_word) := ⟨rfl, rfl, rfl, by decide +kernel, rfl, by decide +kernel, by decide +kernel⟩
abbrev s_require_asked : Stmt := topS 43
abbrev N_require_asked : List Str := ["prime", "kind", "length"]
theorem sc_require_asked : FnScope N_require_asked ["prime", "kind", "length"] (defScope s_require_asked) := ⟨rfl, rfl, rfl, by decide +kernel, rfl, by decide +kernel, by decide +kernel⟩
abbrev s_letters_let : Stmt := topS 44
abbrev N_letters_let : List Str := ["prime", "form", "letter"]
theorem sc_letters_let : FnScope N_letters_let ["prime", "form", "letter"] (defScope s_letters_let) := ⟨rfl, rfl, rfl, by decide +kernel, rfl, by decide +kernel, by decide +kernel⟩
abbrev s_choices : Stmt := topS 45
abbrev N_choices : List Str := ["prime", "kind", "length", "found", "place", "form", "letter"]
theorem sc_choices : FnScope N_choices ["prime", "kind", "length"] (defScope s_choices) := ⟨rfl, rfl, rfl, by decide +kernel, rfl, by decide +kernel, by decide +kernel⟩
abbrev s_product_of : Stmt := topS 46
abbrev N_product_of : List Str := ["rows", "found", "row"]
theorem sc_product_of : FnScope N_product_of ["rows"] (defScope s_product_of) := ⟨rfl, rfl, rfl, by decide +kernel, rfl, by decide +kernel, by decide +kernel⟩
abbrev s_many_of_kind : Stmt := topS 47
abbrev N_many_of_kind : List Str := ["prime", "kind", "length", "rows"]
theorem sc_many_of_kind : FnScope N_many_of_kind ["prime", "kind", "length"] (defScope s_many_of_kind) := ⟨rfl, rfl, rfl, by decide +kernel, rfl, by decide +kernel, by decide +kernel⟩
abbrev s_count_of_kind : Stmt := topS 48
abbrev N_count_of_kind : List Str := ["prime", "kind", "length"]
theorem sc_count_of_kind : FnScope N_count_of_kind ["prime", "kind", "length"] (defScope s_count_of_kind) := ⟨rfl, rfl, rfl, by decide +kernel, rfl, by decide +kernel, by decide +kernel⟩
abbrev s_each_of_kind : Stmt := topS 49
abbrev N_each_of_kind : List Str := ["prime", "kind", "length", "found", "row", "word", "letter"]
theorem sc_each_of_kind : GScope N_each_of_kind ["prime", "kind", "length"] (defScope s_each_of_kind) := ⟨rfl, rfl, rfl, by decide +kernel, rfl, by decide +kernel, by decide +kernel⟩
abbrev s__law_dice : Stmt := topS 51
abbrev N__law_dice : List Str := ["_law_script", "_law_spot", "_law_cell", "_law_left"]
theorem sc__law_dice : FnScope N__law_dice ["_law_script", "_law_spot"] (defScope s__law_dice) := ⟨rfl, rfl, rfl, by decide +kernel, rfl, by decide +kernel, by decide +kernel⟩
abbrev s__law_roll : Stmt := topS 52
abbrev N__law_roll : List Str := ["_law_dice_here", "_law_total", "_law_found", "_law_one", "_law_two"]
theorem sc__law_roll : FnScope N__law_roll ["_law_dice_here", "_law_total"] (defScope s__law_roll) := ⟨rfl, rfl, rfl, by decide +kernel, rfl, by decide +kernel, by decide +kernel⟩
abbrev s__law_pick : Stmt := topS 53
abbrev N__law_pick : List Str := ["_law_dice_here", "_law_items"]
theorem sc__law_pick : FnScope N__law_pick ["_law_dice_here", "_law_items"] (defScope s__law_pick) := ⟨rfl, rfl, rfl, by decide +kernel, rfl, by decide +kernel, by decide +kernel⟩
abbrev s__law_letter : Stmt := topS 54
abbrev N__law_letter : List Str := ["_law_dice_here", "_law_prime", "_law_way"]
theorem sc__law_letter : FnScope N__law_letter ["_law_dice_here", "_law_prime"] (defScope s__law_letter) := ⟨rfl, rfl, rfl, by decide +kernel, rfl, by decide +kernel, by decide +kernel⟩
abbrev s__law_point_drawn : Stmt := topS 55
abbrev N__law_point_drawn : List Str := ["_law_dice_here", "_law_prime", "_law_most", "_law_size", "_law_turn"]
theorem sc__law_point_drawn : FnScope N__law_point_drawn ["_law_dice_here", "_law_prime", "_law_most"] (defScope s__law_point_drawn) := ⟨rfl, rfl, rfl, by decide +kernel, rfl, by decide +kernel, by decide +kernel⟩
abbrev s__law_word_drawn : Stmt := topS 56
abbrev N__law_word_drawn : List Str := ["_law_dice_here", "_law_prime", "_law_most", "_law_begun"]
theorem sc__law_word_drawn : FnScope N__law_word_drawn ["_law_dice_here", "_law_prime", "_law_most"] (defScope s__law_word_drawn) := ⟨rfl, rfl, rfl, by decide +kernel, rfl, by decide +kernel, by decide +kernel⟩
abbrev s__law_orders : Stmt := topS 57
abbrev N__law_orders : List Str := ["_law_word", "_law_found", "_law_letter_here", "_law_one", "_law_other"]
theorem sc__law_orders : FnScope N__law_orders ["_law_word"] (defScope s__law_orders) := ⟨rfl, rfl, rfl, by decide +kernel, rfl, by decide +kernel, by decide +kernel⟩
abbrev s__law_counts : Stmt := topS 58
abbrev N__law_counts : List Str := ["_law_word", "_law_size", "_law_found", "_law_one", "_law_other", "_law_order"]
theorem sc__law_counts : FnScope N__law_counts ["_law_word", "_law_size"] (defScope s__law_counts) := ⟨rfl, rfl, rfl, by decide +kernel, rfl, by decide +kernel, by decide +kernel⟩
abbrev s__law_second : Stmt := topS 59
abbrev N__law_second : List Str := ["_law_point", "_law_size"]
theorem sc__law_second : FnScope N__law_second ["_law_point"] (defScope s__law_second) := ⟨rfl, rfl, rfl, by decide +kernel, rfl, by decide +kernel, by decide +kernel⟩
abbrev s__law_nears : Stmt := topS 60
abbrev N__law_nears : List Str := ["_law_point", "_law_second_here"]
theorem sc__law_nears : FnScope N__law_nears ["_law_point"] (defScope s__law_nears) := ⟨rfl, rfl, rfl, by decide +kernel, rfl, by decide +kernel, by decide +kernel⟩
abbrev s__law_corner_heights : Stmt := topS 61
abbrev N__law_corner_heights : List Str := ["_law_word", "_law_found", "_law_height"]
theorem sc__law_corner_heights : FnScope N__law_corner_heights ["_law_word"] (defScope s__law_corner_heights) := ⟨rfl, rfl, rfl, by decide +kernel, rfl, by decide +kernel, by decide +kernel⟩
abbrev s__law_generators : Stmt := topS 62
abbrev N__law_generators : List Str := ["_law_word", "_law_counts_here", "_law_corners", "_law_found", "_law_shared", "_law_squares", "_law_height", "_law_count"]
theorem sc__law_generators : FnScope N__law_generators ["_law_word"] (defScope s__law_generators) := ⟨rfl, rfl, rfl, by decide +kernel, rfl, by decide +kernel, by decide +kernel⟩
abbrev s__law_wd_all : Stmt := topS 63
abbrev N__law_wd_all : List Str := ["_law_prime", "_law_length", "_law_found", "_law_turn", "_law_longer", "_law_begun", "_law_words", "_law_letter_here"]
theorem sc__law_wd_all : FnScope N__law_wd_all ["_law_prime", "_law_length"] (defScope s__law_wd_all) := ⟨rfl, rfl, rfl, by decide +kernel, rfl, by decide +kernel, by decide +kernel⟩
abbrev s__law_wd_pair : Stmt := topS 64
abbrev N__law_wd_pair : List Str := ["_law_dice_here", "_law_prime"]
theorem sc__law_wd_pair : FnScope N__law_wd_pair ["_law_dice_here"] (defScope s__law_wd_pair) := ⟨rfl, rfl, rfl, by decide +kernel, rfl, by decide +kernel, by decide +kernel⟩
abbrev s__law_is_listed : Stmt := topS 65
abbrev N__law_is_listed : List Str := ["_law_dice_here", "_law_prime", "_law_most", "_law_word", "_law_length", "_law_kind", "_law_due", "_law_some", "_law_one"]
theorem sc__law_is_listed : FnScope N__law_is_listed ["_law_dice_here"] (defScope s__law_is_listed) := ⟨rfl, rfl, rfl, by decide +kernel, rfl, by decide +kernel, by decide +kernel⟩
abbrev s__law_counted : Stmt := topS 66
abbrev N__law_counted : List Str := ["_law_prime", "_law_kind", "_law_length", "_law_corners", "_law_found", "_law_at", "_law_more"]
theorem sc__law_counted : FnScope N__law_counted ["_law_prime", "_law_kind", "_law_length"] (defScope s__law_counted) := ⟨rfl, rfl, rfl, by decide +kernel, rfl, by decide +kernel, by decide +kernel⟩
abbrev s__law_kd_raised : Stmt := topS 67
abbrev N__law_kd_raised : List Str := ["_law_number", "_law_times", "_law_found", "_law_turn"]
theorem sc__law_kd_raised : FnScope N__law_kd_raised ["_law_number", "_law_times"] (defScope s__law_kd_raised) := ⟨rfl, rfl, rfl, by decide +kernel, rfl, by decide +kernel, by decide +kernel⟩
abbrev s__law_is_counted : Stmt := topS 68
abbrev N__law_is_counted : List Str := ["_law_dice_here", "_law_prime", "_law_word", "_law_kind", "_law_length"]
theorem sc__law_is_counted : FnScope N__law_is_counted ["_law_dice_here"] (defScope s__law_is_counted) := ⟨rfl, rfl, rfl, by decide +kernel, rfl, by decide +kernel, by decide +kernel⟩
abbrev s_law : Stmt := topS 69
abbrev N_law : List Str := ["_law_script", "_law_spot", "_law_dice_here", "_law_told", "_law_words", "_law_length"]
theorem sc_law : FnScope N_law ["_law_script"] (defScope s_law) := ⟨rfl, rfl, rfl, by decide +kernel, rfl, by decide +kernel, by decide +kernel⟩
theorem ok_is_whole (T : Txt P K mg) (d_is_whole : DefAt K mg "is_whole" s_is_whole)  : Cal3 P w K mg base "is_whole" 2 ["value"] sp_is_whole :=
  cal3 d_is_whole (fun _ _ _ _ _ _ us hl => match us, hl with | [_], _ => rfl) sc_is_whole len_is_whole fun f cdv A outer s H E B dw hr wk => ⟨t_is_whole dw,
    (lss_one (ls_ret (le_and (le_isi (by rfl) T.n_isinstance (lp_cons (le_pv (pv 0)) (lp_cons (le_ty (by rfl) T.n_int (by decide +kernel)) lp_nil))) (le_one (le_not (le_isi (by rfl) T.n_isinstance (lp_cons (le_pv (pv 0)) (lp_cons (le_ty (by rfl) T.n_bool (by decide +kernel)) lp_nil)))))))),
    fun ds G q h => p_is_whole N_is_whole rfl ds G q dw h⟩
theorem ok_ends_as_word (T : Txt P K mg) (d_ends_as_word : DefAt K mg "ends_as_word" s_ends_as_word)  : Cal3 P w K mg base "ends_as_word" 2 ["point"] sp_ends_as_word :=
  cal3 d_ends_as_word (fun _ _ _ _ _ _ us hl => match us, hl with | [_], _ => rfl) sc_ends_as_word len_ends_as_word fun f cdv A outer s H E B dw hr wk => ⟨t_ends_as_word dw,
    (lss_one (ls_ret (le_or (le_in hr (le_pv (pv 0)) (le_tup (la_cons (le_tup la_nil) (la_cons (le_tup (la_cons (le_gint (by rfl) T.g_TURN) la_nil)) la_nil)))) (le_one (le_gt (le_item (le_pv (pv 0)) (le_neg le_int)) le_int))))),
    fun ds G q h => p_ends_as_word N_ends_as_word rfl ds G q dw h⟩
theorem ok_letters_text (T : Txt P K mg) (d_letters_text : DefAt K mg "letters_text" s_letters_text)  : Cal3 P w K mg base "letters_text" 2 ["point"] sp_letters_text :=
  cal3 d_letters_text (fun _ _ _ _ _ _ us hl => match us, hl with | [_], _ => rfl) sc_letters_text len_letters_text fun f cdv A outer s H E B dw hr wk => ⟨t_letters_text dw,
    (lss_cons (ls_if (lt_eq hr (le_pv (pv 0)) (le_tup la_nil)) (lss_one (ls_ret (le_gstr (by rfl) T.g_ORIGIN_TEXT))) lss_nil)
      (lss_one (ls_ret (le_join (le_gstr (by rfl) T.g_BLANK) (le_lc (own := [("letter", 1)]) rfl sc_letters_text.nd (li_seq (le_pv (pv 0))) (blkOk_by (N := N_letters_text) (sc := defScope s_letters_text) (by decide +kernel)) (fun _ _ _ _ _ => (lg_name (i := 1) sc_letters_text.nd rfl (by first | exact Or.inl rfl | exact Or.inr rfl) (by decide))) (fun _ _ _ _ _ => lts_nil) (fun _ _ _ _ _ => (le_ifExp (lt_eq hr (le_pv (pv 1)) (le_gint (by rfl) T.g_TURN)) (le_gstr (by rfl) T.g_TURN_TEXT) (le_strOf (by rfl) T.n_str (lp_cons (le_pv (pv 1)) lp_nil))))))))),
    fun ds G q h => p_letters_text N_letters_text rfl ds G q dw h⟩
theorem ok_require_branch (T : Txt P K mg) (d_require_branch : DefAt K mg "require_branch" s_require_branch)  : Cal3 P w K mg base "require_branch" 2 ["value"] sp_require_branch :=
  cal3 d_require_branch (fun _ _ _ _ _ _ us hl => match us, hl with | [_], _ => rfl) sc_require_branch len_require_branch fun f cdv A outer s H E B dw hr wk => ⟨t_require_branch dw,
    (lss_one (ls_if (lt_not (lt_val (le_isiC [(("Branch", "Branch"), true)] (isi_cons T.isi_Branch_Branch isi_nil) (by rfl) T.n_isinstance (lp_cons (le_pv (pv 0)) (lp_cons (le_cls (by rfl) T.k_Branch) lp_nil))))) (lss_one ls_never) lss_nil)),
    fun ds G q h => p_require_branch N_require_branch rfl ds G q dw h⟩
theorem ok_forms_of (T : Txt P K mg) (d_forms_of : DefAt K mg "forms_of" s_forms_of)  : Cal3 P w K mg base "forms_of" 2 ["word"] sp_forms_of :=
  cal3 d_forms_of (fun _ _ _ _ _ _ us hl => match us, hl with | [_], _ => rfl) sc_forms_of len_forms_of fun f cdv A outer s H E B dw hr wk => ⟨t_forms_of dw,
    (lss_cons (ls_set (i := 1) sc_forms_of.nd rfl (by first | exact Or.inl rfl | exact Or.inr rfl) (le_lst la_nil))
      (lss_cons (ls_for (vs := [2, 3]) (passes_of rfl) rfl (li_enumA (by rfl) T.n_enumerate (la_cons (le_pv (pv 0)) la_nil)) (lg_tup rfl (lgs_cons (lg_name (i := 2) sc_forms_of.nd rfl (by first | exact Or.inl rfl | exact Or.inr rfl) (by decide)) (lgs_cons (lg_name (i := 3) sc_forms_of.nd rfl (by first | exact Or.inl rfl | exact Or.inr rfl) (by decide)) lgs_nil))) (lss_one (ls_if (lt_eq hr (le_pv (pv 2)) le_int) (lss_one (ls_expr (le_append (pv 1) (le_gstr (by rfl) T.g_FIRST)))) (lss_one (ls_if (lt_eq hr (le_pv (pv 3)) (le_gint (by rfl) T.g_TURN)) (lss_one (ls_expr (le_append (pv 1) (le_gstr (by rfl) T.g_FIXED)))) (lss_one (ls_if (lt_eq hr (le_item (le_pv (pv 1)) (le_neg le_int)) (le_gstr (by rfl) T.g_FIXED)) (lss_one (ls_expr (le_append (pv 1) (le_ifExp (lt_eq hr (le_pv (pv 3)) le_int) (le_gstr (by rfl) T.g_FIXED) (le_gstr (by rfl) T.g_LIVE))))) (lss_one (ls_expr (le_append (pv 1) (le_gstr (by rfl) T.g_FREE)))))))))))
      (lss_one (ls_ret (le_pv (pv 1)))))),
    fun ds G q h => p_forms_of N_forms_of rfl ds G q dw h⟩
theorem ok_least_letter (T : Txt P K mg) (d_least_letter : DefAt K mg "least_letter" s_least_letter)  : Cal3 P w K mg base "least_letter" 2 ["form", "letter"] sp_least_letter :=
  cal3 d_least_letter (fun _ _ _ _ _ _ us hl => match us, hl with | [_, _], _ => rfl) sc_least_letter len_least_letter fun f cdv A outer s H E B dw hr wk => ⟨t_least_letter dw,
    (lss_cons (ls_if (lt_eq hr (le_pv (pv 0)) (le_gstr (by rfl) T.g_FIRST)) (lss_one (ls_ret (le_gint (by rfl) T.g_TURN))) lss_nil)
      (lss_cons (ls_if (lt_eq hr (le_pv (pv 0)) (le_gstr (by rfl) T.g_FIXED)) (lss_one (ls_ret (le_pv (pv 1)))) lss_nil)
      (lss_one (ls_ret (le_ifExp (lt_eq hr (le_pv (pv 0)) (le_gstr (by rfl) T.g_LIVE)) le_int le_int))))),
    fun ds G q h => p_least_letter N_least_letter rfl ds G q dw h⟩
theorem ok_letters_let (T : Txt P K mg) (d_letters_let : DefAt K mg "letters_let" s_letters_let)  : Cal3 P w K mg base "letters_let" 2 ["prime", "form", "letter"] sp_letters_let :=
  cal3 d_letters_let (fun _ _ _ _ _ _ us hl => match us, hl with | [_, _, _], _ => rfl) sc_letters_let len_letters_let fun f cdv A outer s H E B dw hr wk => ⟨t_letters_let dw,
    (lss_cons (ls_if (lt_eq hr (le_pv (pv 1)) (le_gstr (by rfl) T.g_FIXED)) (lss_one (ls_ret (le_lst (la_cons (le_pv (pv 2)) la_nil)))) lss_nil)
      (lss_one (ls_ret (le_listRg rfl (by rfl) T.n_list (by rfl) T.n_range (le_itemU (room1 hr) (le_dictS3 (pc_gstr (by rfl) T.g_FIRST) (pc_gint (by rfl) T.g_TURN) (pc_gstr (by rfl) T.g_LIVE) pe_int (pc_gstr (by rfl) T.g_FREE) pe_int (by first | rfl | decide +kernel)) (le_pv (pv 1))) (le_pv (pv 0)))))),
    fun ds G q h => p_letters_let ds G q dw h⟩
theorem ok_product_of (T : Txt P K mg) (d_product_of : DefAt K mg "product_of" s_product_of)  : Cal3 P w K mg base "product_of" 2 ["rows"] sp_product_of :=
  cal3 d_product_of (fun _ _ _ _ _ _ us hl => match us, hl with | [_], _ => rfl) sc_product_of len_product_of fun f cdv A outer s H E B dw hr wk => ⟨t_product_of dw,
    (lss_cons (ls_set (i := 1) sc_product_of.nd rfl (by first | exact Or.inl rfl | exact Or.inr rfl) le_int)
      (lss_cons (ls_for (vs := [2]) (passes_of rfl) rfl (li_seq (le_pv (pv 0))) (lg_name (i := 2) sc_product_of.nd rfl (by first | exact Or.inl rfl | exact Or.inr rfl) (by decide)) (lss_one (ls_aug (i := 1) sc_product_of.nd rfl (by first | exact Or.inl rfl | exact Or.inr rfl) (le_len (by rfl) T.n_len (lp_cons (le_pv (pv 2)) lp_nil)) ip_mulI r_mulI)))
      (lss_one (ls_ret (le_pv (pv 1)))))),
    fun ds G q h => p_product_of ds G q dw h⟩
theorem ok__law_dice (T : Txt P K mg) (d__law_dice : DefAt K mg "_law_dice" s__law_dice)  : Cal3 P w K mg base "_law_dice" 2 ["_law_script", "_law_spot"] sp__law_dice :=
  cal3 d__law_dice (fun _ _ _ _ _ _ us hl => match us, hl with | [_, _], _ => rfl) sc__law_dice len__law_dice fun f cdv A outer s H E B dw hr wk => ⟨t__law_dice dw,
    (lss_cons (ls_set (i := 2) sc__law_dice.nd rfl (by first | exact Or.inl rfl | exact Or.inr rfl) (le_ifExp (lt_lt (le_pv (pv 1)) (le_len (by rfl) T.n_len (lp_cons (le_pv (pv 0)) lp_nil))) (le_intOf (by rfl) T.n_int (lp_cons (le_item (le_pv (pv 0)) (le_pv (pv 1))) lp_nil)) (le_add (le_mul le_int (le_pv (pv 1))) le_int)))
      (lss_cons (ls_set (i := 3) sc__law_dice.nd rfl (by first | exact Or.inl rfl | exact Or.inr rfl) (le_mod (le_max2 rfl (by rfl) T.n_max (lp_cons le_int (lp_cons (le_sub (le_abs (by rfl) T.n_abs (lp_cons (le_pv (pv 2)) lp_nil)) (le_pow le_int le_int)) lp_nil))) (le_mul (le_pow le_int le_int) (le_pow le_int le_int))))
      (lss_one (ls_ret (le_lst (la_cons (le_pv (pv 3)) (la_cons (le_add (le_add (le_add (le_mul (le_mod (le_abs (by rfl) T.n_abs (lp_cons (le_pv (pv 2)) lp_nil)) le_int) le_int) (le_mul le_int (le_pv (pv 1)))) (le_mul le_int (le_intOf (by rfl) T.n_int (lp_cons (le_lt (le_pv (pv 2)) le_int) lp_nil)))) le_int) (la_cons le_int la_nil)))))))),
    fun ds G q h => p__law_dice N__law_dice rfl ds G q dw h⟩
theorem ok__law_roll (T : Txt P K mg) (d__law_roll : DefAt K mg "_law_roll" s__law_roll)  : Cal3 P w K mg base "_law_roll" 2 ["_law_dice_here", "_law_total"] sp__law_roll :=
  cal3 d__law_roll (fun _ _ _ _ _ _ us hl => match us, hl with | [_, _], _ => rfl) sc__law_roll len__law_roll fun f cdv A outer s H E B dw hr wk => ⟨t__law_roll dw,
    (lss_cons (ls_if (lt_gt (le_item (le_pv (pv 0)) le_int) le_int) (lss_cons (ls_set (i := 2) sc__law_roll.nd rfl (by first | exact Or.inl rfl | exact Or.inr rfl) (le_mod (le_intOf (by rfl) T.n_int (lp_cons (le_item (le_pv (pv 0)) le_int) lp_nil)) (le_pv (pv 1))))
      (lss_cons (ls_store (le_fdiv (le_item (le_pv (pv 0)) le_int) (le_pv (pv 1))) (le_pv (pv 0)) le_int)
      (lss_one (ls_ret (le_pv (pv 2)))))) lss_nil)
      (lss_cons (ls_store (le_add (le_item (le_pv (pv 0)) le_int) le_int) (le_pv (pv 0)) le_int)
      (lss_cons (ls_set (i := 3) sc__law_roll.nd rfl (by first | exact Or.inl rfl | exact Or.inr rfl) (le_mod (le_intOf (by rfl) T.n_int (lp_cons (le_add (le_item (le_pv (pv 0)) le_int) (le_mul le_int (le_item (le_pv (pv 0)) le_int))) lp_nil)) le_int))
      (lss_cons (ls_set (i := 4) sc__law_roll.nd rfl (by first | exact Or.inl rfl | exact Or.inr rfl) (le_add (le_mul (le_mod (le_intOf (by rfl) T.n_int (lp_cons (le_add (le_mul (le_pv (pv 3)) (le_pv (pv 3))) (le_mul le_int (le_item (le_pv (pv 0)) le_int))) lp_nil)) le_int) le_int) (le_pv (pv 3))))
      (lss_one (ls_ret (le_mod (le_intOf (by rfl) T.n_int (lp_cons (le_fdiv (le_pv (pv 4)) le_int) lp_nil)) (le_pv (pv 1))))))))),
    fun ds G q h => p__law_roll N__law_roll rfl ds G q dw h⟩
theorem ok__law_orders (T : Txt P K mg) (d__law_orders : DefAt K mg "_law_orders" s__law_orders)  : Cal3 P w K mg base "_law_orders" 2 ["_law_word"] sp__law_orders :=
  cal3 d__law_orders (fun _ _ _ _ _ _ us hl => match us, hl with | [_], _ => rfl) sc__law_orders len__law_orders fun f cdv A outer s H E B dw hr wk => ⟨t__law_orders dw,
    (lss_cons (ls_set (i := 1) sc__law_orders.nd rfl (by first | exact Or.inl rfl | exact Or.inr rfl) (le_lst (la_cons (le_tup (la_cons le_int (la_cons le_non la_nil))) la_nil)))
      (lss_cons (ls_for (vs := [2]) (passes_of rfl) rfl (li_seq (le_revA (le_pv (pv 0)))) (lg_name (i := 2) sc__law_orders.nd rfl (by first | exact Or.inl rfl | exact Or.inr rfl) (by decide)) (lss_cons (ls_asg (vs := [3, 4]) (le_item (le_pv (pv 1)) (le_neg le_int)) (lg_tup rfl (lgs_cons (lg_name (i := 3) sc__law_orders.nd rfl (by first | exact Or.inl rfl | exact Or.inr rfl) (by decide)) (lgs_cons (lg_name (i := 4) sc__law_orders.nd rfl (by first | exact Or.inl rfl | exact Or.inr rfl) (by decide)) lgs_nil))))
      (lss_one (ls_if (lt_eq hr (le_pv (pv 2)) (le_neg le_int)) (lss_one (ls_expr (le_append (pv 1) (le_tup (la_cons (le_ifExp (lt_isN (le_pv (pv 4)) le_non) le_non (le_add (le_pv (pv 3)) (le_pv (pv 4)))) (la_cons (le_pv (pv 3)) la_nil)))))) (lss_one (ls_if (lt_eq hr (le_pv (pv 2)) le_int) (lss_one (ls_expr (le_append (pv 1) (le_tup (la_cons (le_pv (pv 3)) (la_cons (le_ifExp (lt_isN (le_pv (pv 4)) le_non) le_non (le_add (le_pv (pv 3)) (le_pv (pv 4)))) la_nil)))))) (lss_one (ls_expr (le_append (pv 1) (le_tup (la_cons (le_pv (pv 3)) (la_cons (le_pv (pv 3)) la_nil))))))))))))
      (lss_one (ls_ret (le_revA (le_pv (pv 1))))))),
    fun ds G q h => p__law_orders N__law_orders rfl ds G q dw h⟩
theorem ok__law_second (T : Txt P K mg) (d__law_second : DefAt K mg "_law_second" s__law_second)  : Cal3 P w K mg base "_law_second" 2 ["_law_point"] sp__law_second :=
  cal3 d__law_second (fun _ _ _ _ _ _ us hl => match us, hl with | [_], _ => rfl) sc__law_second len__law_second fun f cdv A outer s H E B dw hr wk => ⟨t__law_second dw,
    (lss_cons (ls_set (i := 1) sc__law_second.nd rfl (by first | exact Or.inl rfl | exact Or.inr rfl) (le_len (by rfl) T.n_len (lp_cons (le_pv (pv 0)) lp_nil)))
      (lss_cons (ls_while (passes_of rfl) (LW.lt (lw_and (lt_gt (le_pv (pv 1)) le_int) (lw_and1 (lt_eq hr (le_item (le_pv (pv 0)) (le_sub (le_pv (pv 1)) le_int)) le_int)))) (lss_one (ls_set (i := 1) sc__law_second.nd rfl (by first | exact Or.inl rfl | exact Or.inr rfl) (le_sub (le_pv (pv 1)) le_int))))
      (lss_cons (ls_if (LW.lt (lw_or (lt_lt (le_pv (pv 1)) le_int) (lw_or1 (lt_ne hr (le_item (le_pv (pv 0)) (le_sub (le_pv (pv 1)) le_int)) (le_neg le_int))))) (lss_one (ls_ret le_non)) lss_nil)
      (lss_one (ls_ret (le_tuple (by rfl) T.n_tuple (lp_cons (le_cut (le_pv (pv 0)) lo_none (lo_some (le_sub (le_pv (pv 1)) le_int))) lp_nil))))))),
    fun ds G q h => p__law_second N__law_second rfl ds G q dw h⟩
theorem ok__law_wd_all (T : Txt P K mg) (d__law_wd_all : DefAt K mg "_law_wd_all" s__law_wd_all)  : Cal3 P w K mg base "_law_wd_all" 2 ["_law_prime", "_law_length"] sp__law_wd_all :=
  cal3 d__law_wd_all (fun _ _ _ _ _ _ us hl => match us, hl with | [_, _], _ => rfl) sc__law_wd_all len__law_wd_all fun f cdv A outer s H E B dw hr wk => ⟨t__law_wd_all dw,
    (lss_cons (ls_if (lt_eq hr (le_pv (pv 1)) le_int) (lss_one (ls_ret (le_lst (la_cons (le_tup la_nil) la_nil)))) lss_nil)
      (lss_cons (ls_set (i := 2) sc__law_wd_all.nd rfl (by first | exact Or.inl rfl | exact Or.inr rfl) (le_lst (la_cons (le_tup la_nil) la_nil)))
      (lss_cons (ls_for (vs := [3]) (passes_of rfl) rfl (li_range1 (by rfl) T.n_range (la_cons (le_sub (le_pv (pv 1)) le_int) la_nil)) (lg_name (i := 3) sc__law_wd_all.nd rfl (by first | exact Or.inl rfl | exact Or.inr rfl) (by decide)) (lss_cons (ls_set (i := 4) sc__law_wd_all.nd rfl (by first | exact Or.inl rfl | exact Or.inr rfl) (le_lst la_nil))
      (lss_cons (ls_for (vs := [5]) (passes_of rfl) rfl (li_seq (le_list (by rfl) T.n_list (lp_cons (le_pv (pv 2)) lp_nil))) (lg_name (i := 5) sc__law_wd_all.nd rfl (by first | exact Or.inl rfl | exact Or.inr rfl) (by decide)) (lss_one (ls_expr (le_extend (i := 4) (pv 4) (le_lc (own := [("_law_letter_here", 7)]) rfl sc__law_wd_all.nd (li_range2 (by rfl) T.n_range (la_cons (le_neg le_int) (la_cons (le_pv (pv 0)) la_nil))) (blkOk_by (N := N__law_wd_all) (sc := defScope s__law_wd_all) (by decide +kernel)) (fun _ _ _ _ _ => (lg_name (i := 7) sc__law_wd_all.nd rfl (by first | exact Or.inl rfl | exact Or.inr rfl) (by decide))) (fun _ _ _ _ _ => lts_nil) (fun _ _ _ _ _ => (le_add (le_pv (pv 5)) (le_tup (la_cons (le_pv (pv 7)) la_nil)))))))))
      (lss_one (ls_set (i := 2) sc__law_wd_all.nd rfl (by first | exact Or.inl rfl | exact Or.inr rfl) (le_pv (pv 4)))))))
      (lss_cons (ls_set (i := 6) sc__law_wd_all.nd rfl (by first | exact Or.inl rfl | exact Or.inr rfl) (le_lst la_nil))
      (lss_cons (ls_for (vs := [5]) (passes_of rfl) rfl (li_seq (le_pv (pv 2))) (lg_name (i := 5) sc__law_wd_all.nd rfl (by first | exact Or.inl rfl | exact Or.inr rfl) (by decide)) (lss_one (ls_expr (le_extend (i := 6) (pv 6) (le_lc (own := [("_law_letter_here", 7)]) rfl sc__law_wd_all.nd (li_range2 (by rfl) T.n_range (la_cons le_int (la_cons (le_pv (pv 0)) la_nil))) (blkOk_by (N := N__law_wd_all) (sc := defScope s__law_wd_all) (by decide +kernel)) (fun _ _ _ _ _ => (lg_name (i := 7) sc__law_wd_all.nd rfl (by first | exact Or.inl rfl | exact Or.inr rfl) (by decide))) (fun _ _ _ _ _ => lts_nil) (fun _ _ _ _ _ => (le_add (le_pv (pv 5)) (le_tup (la_cons (le_pv (pv 7)) la_nil)))))))))
      (lss_one (ls_ret (le_sortW hr (by rfl) T.n_sorted (lp_cons (le_add (le_pv (pv 6)) (le_ifExp (lt_eq hr (le_pv (pv 1)) le_int) (le_lst (la_cons (le_tup (la_cons (le_neg le_int) la_nil)) la_nil)) (le_lst la_nil))) lp_nil))))))))),
    fun ds G q h => p__law_wd_all N__law_wd_all rfl ds G q dw h⟩
theorem ok__law_kd_raised (T : Txt P K mg) (d__law_kd_raised : DefAt K mg "_law_kd_raised" s__law_kd_raised)  : Cal3 P w K mg base "_law_kd_raised" 2 ["_law_number", "_law_times"] sp__law_kd_raised :=
  cal3 d__law_kd_raised (fun _ _ _ _ _ _ us hl => match us, hl with | [_, _], _ => rfl) sc__law_kd_raised len__law_kd_raised fun f cdv A outer s H E B dw hr wk => ⟨t__law_kd_raised dw,
    (lss_cons (ls_set (i := 2) sc__law_kd_raised.nd rfl (by first | exact Or.inl rfl | exact Or.inr rfl) le_int)
      (lss_cons (ls_for (vs := [3]) (passes_of rfl) rfl (li_range1 (by rfl) T.n_range (la_cons (le_pv (pv 1)) la_nil)) (lg_name (i := 3) sc__law_kd_raised.nd rfl (by first | exact Or.inl rfl | exact Or.inr rfl) (by decide)) (lss_one (ls_set (i := 2) sc__law_kd_raised.nd rfl (by first | exact Or.inl rfl | exact Or.inr rfl) (le_mul (le_pv (pv 2)) (le_pv (pv 0))))))
      (lss_one (ls_ret (le_pv (pv 2)))))),
    fun ds G q h => p__law_kd_raised ds G q dw h⟩
theorem ok_is_integer (T : Txt P K mg) (d_is_integer : DefAt K mg "is_integer" s_is_integer) (c_is_whole : Cal3 P w K mg base "is_whole" 2 ["value"] sp_is_whole) : Cal3 P w K mg base "is_integer" 3 ["value"] sp_is_integer :=
  cal3 d_is_integer (fun _ _ _ _ _ _ us hl => match us, hl with | [_], _ => rfl) sc_is_integer len_is_integer fun f cdv A outer s H E B dw hr wk => ⟨t_is_integer dw,
    (lss_one (ls_ret (le_and (le_callC c_is_whole hr (by decide) wk.ok (by rfl) (la_cons (le_pv (pv 0)) la_nil)) (le_one (le_ch on_lt on_lt (le_neg (le_gint (by rfl) T.g_GREAT)) (le_pv (pv 0)) (le_gint (by rfl) T.g_GREAT)))))),
    fun ds G q h => p_is_integer N_is_integer rfl ds G q dw h⟩
theorem ok_is_prime (T : Txt P K mg) (d_is_prime : DefAt K mg "is_prime" s_is_prime) (c_is_whole : Cal3 P w K mg base "is_whole" 2 ["value"] sp_is_whole) : Cal3 P w K mg base "is_prime" 3 ["value"] sp_is_prime :=
  cal3 d_is_prime (fun _ _ _ _ _ _ us hl => match us, hl with | [_], _ => rfl) sc_is_prime len_is_prime fun f cdv A outer s H E B dw hr wk => ⟨t_is_prime dw,
    (lss_one (ls_ret (le_and (le_callC c_is_whole hr (by decide) wk.ok (by rfl) (la_cons (le_pv (pv 0)) la_nil)) (le_one (le_in hr (le_pv (pv 0)) (le_gtup (by rfl) T.g_PRIMES)))))),
    fun ds G q h => p_is_prime N_is_prime rfl ds G q dw h⟩
theorem ok_kind_in (T : Txt P K mg) (d_kind_in : DefAt K mg "kind_in" s_kind_in) (c_forms_of : Cal3 P w K mg base "forms_of" 2 ["word"] sp_forms_of) (c_least_letter : Cal3 P w K mg base "least_letter" 2 ["form", "letter"] sp_least_letter) : Cal3 P w K mg base "kind_in" 3 ["word"] sp_kind_in :=
  cal3 d_kind_in (fun _ _ _ _ _ _ us hl => match us, hl with | [_], _ => rfl) sc_kind_in len_kind_in fun f cdv A outer s H E B dw hr wk => ⟨t_kind_in dw,
    (lss_cons (ls_set (i := 1) sc_kind_in.nd rfl (by first | exact Or.inl rfl | exact Or.inr rfl) (le_callC c_forms_of hr (by decide) wk.ok (by rfl) (la_cons (le_pv (pv 0)) la_nil)))
      (lss_cons (ls_set (i := 2) sc_kind_in.nd rfl (by first | exact Or.inl rfl | exact Or.inr rfl) (le_len (by rfl) T.n_len (lp_cons (le_pv (pv 1)) lp_nil)))
      (lss_cons (ls_while (passes_of rfl) (LW.lt (lw_and (lt_gt (le_pv (pv 2)) le_int) (lw_and1 (lt_ne hr (le_item (le_pv (pv 1)) (le_sub (le_pv (pv 2)) le_int)) (le_gstr (by rfl) T.g_LIVE))))) (lss_one (ls_aug (i := 2) sc_kind_in.nd rfl (by first | exact Or.inl rfl | exact Or.inr rfl) le_int ip_subI r_sub3)))
      (lss_one (ls_ret (le_tuple (by rfl) T.n_tuple (lp_cons (le_lc (own := [("form", 3), ("letter", 4)]) rfl sc_kind_in.nd (li_zipN (by rfl) T.n_zip (la_cons (le_cut (le_pv (pv 1)) lo_none (lo_some (le_pv (pv 2)))) (la_cons (le_pv (pv 0)) la_nil))) (blkOk_by (N := N_kind_in) (sc := defScope s_kind_in) (by decide +kernel)) (fun _ _ _ _ _ => (lg_tup rfl (lgs_cons (lg_name (i := 3) sc_kind_in.nd rfl (by first | exact Or.inl rfl | exact Or.inr rfl) (by decide)) (lgs_cons (lg_name (i := 4) sc_kind_in.nd rfl (by first | exact Or.inl rfl | exact Or.inr rfl) (by decide)) lgs_nil)))) (fun _ _ _ _ _ => lts_nil) (fun _ _ _ _ _ => (le_callC c_least_letter hr (by decide) wok0 (by rfl) (la_cons (le_pv (pv 3)) (la_cons (le_pv (pv 4)) la_nil))))) lp_nil))))))),
    fun ds G q h => p_kind_in N_kind_in rfl ds G q dw h⟩
theorem ok_choices (T : Txt P K mg) (d_choices : DefAt K mg "choices" s_choices) (c_forms_of : Cal3 P w K mg base "forms_of" 2 ["word"] sp_forms_of) (c_letters_let : Cal3 P w K mg base "letters_let" 2 ["prime", "form", "letter"] sp_letters_let) : Cal3 P w K mg base "choices" 3 ["prime", "kind", "length"] sp_choices :=
  cal3 d_choices (fun _ _ _ _ _ _ us hl => match us, hl with | [_, _, _], _ => rfl) sc_choices len_choices fun f cdv A outer s H E B dw hr wk => ⟨t_choices dw,
    (lss_cons (ls_if (lt_lt (le_pv (pv 2)) (le_len (by rfl) T.n_len (lp_cons (le_pv (pv 1)) lp_nil))) (lss_one (ls_ret le_non)) lss_nil)
      (lss_cons (ls_if (LW.lt (lw_and (lt_eq hr (le_pv (pv 1)) (le_tup la_nil)) (lw_and1 (lt_gt (le_pv (pv 2)) le_int)))) (lss_one (ls_set (i := 3) sc_choices.nd rfl (by first | exact Or.inl rfl | exact Or.inr rfl) (le_lst (la_cons (le_listRg rfl (by rfl) T.n_list (by rfl) T.n_range (le_gint (by rfl) T.g_TURN) (le_pv (pv 0))) (la_star (le_lc (own := [("place", 4)]) rfl sc_choices.nd (li_range1 (by rfl) T.n_range (la_cons (le_sub (le_pv (pv 2)) le_int) la_nil)) (blkOk_by (N := N_choices) (sc := defScope s_choices) (by decide +kernel)) (fun _ _ _ _ _ => (lg_name (i := 4) sc_choices.nd rfl (by first | exact Or.inl rfl | exact Or.inr rfl) (by decide))) (fun _ _ _ _ _ => lts_nil) (fun _ _ _ _ _ => (le_listRg1 rfl (by rfl) T.n_list (by rfl) T.n_range (le_pv (pv 0))))) la_nil))))) (lss_cons (ls_setLc (i := 3) (own := [("form", 5), ("letter", 6)]) rfl sc_choices.nd rfl rfl (sw_true rfl rfl rfl (by decide +kernel)) (li_zipN (by rfl) T.n_zip (la_cons (le_callC c_forms_of hr (by decide) wk.ok (by rfl) (la_cons (le_pv (pv 1)) la_nil)) (la_cons (le_pv (pv 1)) la_nil))) (blkOk_by (N := N_choices) (sc := defScope s_choices) (by decide +kernel)) (fun _ _ _ _ _ => (lg_tup rfl (lgs_cons (lg_name (i := 5) sc_choices.nd rfl (by first | exact Or.inl rfl | exact Or.inr rfl) (by decide)) (lgs_cons (lg_name (i := 6) sc_choices.nd rfl (by first | exact Or.inl rfl | exact Or.inr rfl) (by decide)) lgs_nil)))) (fun _ _ _ _ _ => lts_nil) (fun _ _ _ _ _ => (le_callC c_letters_let hr (by decide) wok0 (by rfl) (la_cons (le_pv (pv 0)) (la_cons (le_pv (pv 5)) (la_cons (le_pv (pv 6)) la_nil))))))
      (lss_one (ls_set (i := 3) sc_choices.nd rfl (by first | exact Or.inl rfl | exact Or.inr rfl) (le_lst (la_star (le_pv (pv 3)) (la_star (le_lc (own := [("place", 4)]) rfl sc_choices.nd (li_range1 (by rfl) T.n_range (la_cons (le_sub (le_pv (pv 2)) (le_len (by rfl) T.n_len (lp_cons (le_pv (pv 1)) lp_nil))) la_nil)) (blkOk_by (N := N_choices) (sc := defScope s_choices) (by decide +kernel)) (fun _ _ _ _ _ => (lg_name (i := 4) sc_choices.nd rfl (by first | exact Or.inl rfl | exact Or.inr rfl) (by decide))) (fun _ _ _ _ _ => lts_nil) (fun _ _ _ _ _ => (le_listRg1 rfl (by rfl) T.n_list (by rfl) T.n_range (le_pv (pv 0))))) la_nil)))))))
      (lss_cons (ls_if (lt_gt (le_pv (pv 2)) le_int) (lss_one (ls_store (le_lc (own := [("letter", 6)]) rfl sc_choices.nd (li_seq (le_item (le_pv (pv 3)) (le_neg le_int))) (blkOk_by (N := N_choices) (sc := defScope s_choices) (by decide +kernel)) (fun _ _ _ _ _ => (lg_name (i := 6) sc_choices.nd rfl (by first | exact Or.inl rfl | exact Or.inr rfl) (by decide))) (fun _ _ _ _ _ => (lts_one (LW.lt (lw_and (lt_ne hr (le_pv (pv 6)) le_int) (lw_and1 (LW.lt (lw_or (lt_gt (le_pv (pv 6)) le_int) (lw_or1 (lt_eq hr (le_pv (pv 2)) le_int))))))))) (fun _ _ _ _ _ => (le_pv (pv 6)))) (le_pv (pv 3)) (le_neg le_int))) lss_nil)
      (lss_one (ls_ret (le_pv (pv 3))))))),
    fun ds G q h => p_choices ds G q dw h⟩
theorem ok__law_pick (T : Txt P K mg) (d__law_pick : DefAt K mg "_law_pick" s__law_pick) (c__law_roll : Cal3 P w K mg base "_law_roll" 2 ["_law_dice_here", "_law_total"] sp__law_roll) : Cal3 P w K mg base "_law_pick" 3 ["_law_dice_here", "_law_items"] sp__law_pick :=
  cal3 d__law_pick (fun _ _ _ _ _ _ us hl => match us, hl with | [_, _], _ => rfl) sc__law_pick len__law_pick fun f cdv A outer s H E B dw hr wk => ⟨t__law_pick dw,
    (lss_one (ls_ret (le_item (le_pv (pv 1)) (le_callC c__law_roll hr (by decide) wk.ok (by rfl) (la_cons (le_pv (pv 0)) (la_cons (le_len (by rfl) T.n_len (lp_cons (le_pv (pv 1)) lp_nil)) la_nil)))))),
    fun ds G q h => p__law_pick N__law_pick rfl ds G q dw h⟩
theorem ok__law_letter (T : Txt P K mg) (d__law_letter : DefAt K mg "_law_letter" s__law_letter) (c__law_roll : Cal3 P w K mg base "_law_roll" 2 ["_law_dice_here", "_law_total"] sp__law_roll) : Cal3 P w K mg base "_law_letter" 3 ["_law_dice_here", "_law_prime"] sp__law_letter :=
  cal3 d__law_letter (fun _ _ _ _ _ _ us hl => match us, hl with | [_, _], _ => rfl) sc__law_letter len__law_letter fun f cdv A outer s H E B dw hr wk => ⟨t__law_letter dw,
    (lss_cons (ls_set (i := 2) sc__law_letter.nd rfl (by first | exact Or.inl rfl | exact Or.inr rfl) (le_callC c__law_roll hr (by decide) wk.ok (by rfl) (la_cons (le_pv (pv 0)) (la_cons le_int la_nil))))
      (lss_one (ls_ret (le_ifExp (lt_lt (le_pv (pv 2)) le_int) (le_neg le_int) (le_ifExp (lt_eq hr (le_pv (pv 2)) le_int) le_int (le_callC c__law_roll hr (by decide) wk.ok (by rfl) (la_cons (le_pv (pv 0)) (la_cons (le_pv (pv 1)) la_nil)))))))),
    fun ds G q h => p__law_letter N__law_letter rfl ds G q dw h⟩
theorem ok__law_counts (T : Txt P K mg) (d__law_counts : DefAt K mg "_law_counts" s__law_counts) (c__law_orders : Cal3 P w K mg base "_law_orders" 2 ["_law_word"] sp__law_orders) : Cal3 P w K mg base "_law_counts" 3 ["_law_word", "_law_size"] sp__law_counts :=
  cal3 d__law_counts (fun _ _ _ _ _ _ us hl => match us, hl with | [_, _], _ => rfl) sc__law_counts len__law_counts fun f cdv A outer s H E B dw hr wk => ⟨t__law_counts dw,
    (lss_cons (ls_set (i := 2) sc__law_counts.nd rfl (by first | exact Or.inl rfl | exact Or.inr rfl) (le_lst la_nil))
      (lss_cons (ls_for (vs := [3, 4]) (passes_of rfl) rfl (li_seq (le_callC c__law_orders hr (by decide) wk.ok (by rfl) (la_cons (le_pv (pv 0)) la_nil))) (lg_tup rfl (lgs_cons (lg_name (i := 3) sc__law_counts.nd rfl (by first | exact Or.inl rfl | exact Or.inr rfl) (by decide)) (lgs_cons (lg_name (i := 4) sc__law_counts.nd rfl (by first | exact Or.inl rfl | exact Or.inr rfl) (by decide)) lgs_nil))) (lss_one (ls_expr (le_append (pv 2) (le_minL rfl (by rfl) T.n_min (lp_cons (le_lc (own := [("_law_order", 5)]) rfl sc__law_counts.nd (li_seq (le_tup (la_cons (le_pv (pv 3)) (la_cons (le_pv (pv 4)) la_nil)))) (blkOk_by (N := N__law_counts) (sc := defScope s__law_counts) (by decide +kernel)) (fun _ _ _ _ _ => (lg_name (i := 5) sc__law_counts.nd rfl (by first | exact Or.inl rfl | exact Or.inr rfl) (by decide))) (fun _ _ _ _ _ => (lts_one (lt_notN (le_pv (pv 5)) le_non))) (fun _ _ _ _ _ => (le_pv (pv 5)))) lp_nil))))))
      (lss_one (ls_ret (le_cut (le_add (le_pv (pv 2)) (le_mul (le_lst (la_cons le_int la_nil)) (le_pv (pv 1)))) lo_none (lo_some (le_pv (pv 1)))))))),
    fun ds G q h => p__law_counts N__law_counts rfl ds G q dw h⟩
theorem ok__law_nears (T : Txt P K mg) (d__law_nears : DefAt K mg "_law_nears" s__law_nears) (c__law_second : Cal3 P w K mg base "_law_second" 2 ["_law_point"] sp__law_second) : Cal3 P w K mg base "_law_nears" 3 ["_law_point"] sp__law_nears :=
  cal3 d__law_nears (fun _ _ _ _ _ _ us hl => match us, hl with | [_], _ => rfl) sc__law_nears len__law_nears fun f cdv A outer s H E B dw hr wk => ⟨t__law_nears dw,
    (lss_cons (ls_if (lt_eq hr (le_pv (pv 0)) (le_tup la_nil)) (lss_one (ls_ret (le_lst la_nil))) lss_nil)
      (lss_cons (ls_set (i := 1) sc__law_nears.nd rfl (by first | exact Or.inl rfl | exact Or.inr rfl) (le_callC c__law_second hr (by decide) wk.ok (by rfl) (la_cons (le_pv (pv 0)) la_nil)))
      (lss_one (ls_ret (le_add (le_lst (la_cons (le_tuple (by rfl) T.n_tuple (lp_cons (le_cut (le_pv (pv 0)) lo_none (lo_some (le_neg le_int))) lp_nil)) la_nil)) (le_ifExp (lt_isN (le_pv (pv 1)) le_non) (le_lst la_nil) (le_lst (la_cons (le_pv (pv 1)) la_nil)))))))),
    fun ds G q h => p__law_nears N__law_nears rfl ds G q dw h⟩
theorem ok_require_prime (T : Txt P K mg) (d_require_prime : DefAt K mg "require_prime" s_require_prime) (c_is_prime : Cal3 P w K mg base "is_prime" 3 ["value"] sp_is_prime) : Cal3 P w K mg base "require_prime" 4 ["value"] sp_require_prime :=
  cal3 d_require_prime (fun _ _ _ _ _ _ us hl => match us, hl with | [_], _ => rfl) sc_require_prime len_require_prime fun f cdv A outer s H E B dw hr wk => ⟨t_require_prime dw,
    (lss_one (ls_if (lt_not (lt_val (le_callC c_is_prime hr (by decide) wk.ok (by rfl) (la_cons (le_pv (pv 0)) la_nil)))) (lss_one ls_never) lss_nil)),
    fun ds G q h => p_require_prime N_require_prime rfl ds G q dw h⟩
theorem ok_require_count (T : Txt P K mg) (d_require_count : DefAt K mg "require_count" s_require_count) (c_is_integer : Cal3 P w K mg base "is_integer" 3 ["value"] sp_is_integer) : Cal3 P w K mg base "require_count" 4 ["value", "least", "most"] sp_require_count :=
  cal3 d_require_count (fun _ _ _ _ _ _ us hl => match us, hl with | [_, _, _], _ => rfl) sc_require_count len_require_count fun f cdv A outer s H E B dw hr wk => ⟨t_require_count dw,
    (lss_one (ls_if (LW.lt (lw_or (lt_not (lt_val (le_callC c_is_integer hr (by decide) wk.ok (by rfl) (la_cons (le_pv (pv 0)) la_nil)))) (lw_or1 (lt_not (lt_ch on_le on_le (le_pv (pv 1)) (le_pv (pv 0)) (le_pv (pv 2))))))) (lss_one ls_never) lss_nil)),
    fun ds G q h => p_require_count N_require_count rfl ds G q dw h⟩
theorem ok_is_letter (T : Txt P K mg) (d_is_letter : DefAt K mg "is_letter" s_is_letter) (c_is_integer : Cal3 P w K mg base "is_integer" 3 ["value"] sp_is_integer) : Cal3 P w K mg base "is_letter" 4 ["prime", "value"] sp_is_letter :=
  cal3 d_is_letter (fun _ _ _ _ _ _ us hl => match us, hl with | [_, _], _ => rfl) sc_is_letter len_is_letter fun f cdv A outer s H E B dw hr wk => ⟨t_is_letter dw,
    (lss_one (ls_ret (le_and (le_callC c_is_integer hr (by decide) wk.ok (by rfl) (la_cons (le_pv (pv 1)) la_nil)) (le_one (le_ch on_le on_lt (le_gint (by rfl) T.g_TURN) (le_pv (pv 1)) (le_pv (pv 0))))))),
    fun ds G q h => p_is_letter N_is_letter rfl ds G q dw h⟩
theorem ok_kind_of (T : Txt P K mg) (d_kind_of : DefAt K mg "kind_of" s_kind_of) (c_require_branch : Cal3 P w K mg base "require_branch" 2 ["value"] sp_require_branch) (c_kind_in : Cal3 P w K mg base "kind_in" 3 ["word"] sp_kind_in) : Cal3 P w K mg base "kind_of" 4 ["branch"] sp_kind_of :=
  cal3 d_kind_of (fun _ _ _ _ _ _ us hl => match us, hl with | [_], _ => rfl) sc_kind_of len_kind_of fun f cdv A outer s H E B dw hr wk => ⟨t_kind_of dw,
    (lss_cons (ls_expr (le_callC c_require_branch hr (by decide) wk.ok (by rfl) (la_cons (le_pv (pv 0)) la_nil)))
      (lss_one (ls_ret (le_callC c_kind_in hr (by decide) wk.ok (by rfl) (la_cons (le_attr [("Branch", 2)] (tbl_cons T.sl_Branch_own_word tbl_nil) (le_pv (pv 0))) la_nil))))),
    fun ds G q h => p_kind_of N_kind_of rfl ds G q dw h⟩
theorem ok_many_of_kind (T : Txt P K mg) (d_many_of_kind : DefAt K mg "many_of_kind" s_many_of_kind) (c_choices : Cal3 P w K mg base "choices" 3 ["prime", "kind", "length"] sp_choices) (c_product_of : Cal3 P w K mg base "product_of" 2 ["rows"] sp_product_of) : Cal3 P w K mg base "many_of_kind" 4 ["prime", "kind", "length"] sp_many_of_kind :=
  cal3 d_many_of_kind (fun _ _ _ _ _ _ us hl => match us, hl with | [_, _, _], _ => rfl) sc_many_of_kind len_many_of_kind fun f cdv A outer s H E B dw hr wk => ⟨t_many_of_kind dw,
    (lss_cons (ls_set (i := 3) sc_many_of_kind.nd rfl (by first | exact Or.inl rfl | exact Or.inr rfl) (le_callC c_choices hr (by decide) wk.ok (by rfl) (la_cons (le_pv (pv 0)) (la_cons (le_pv (pv 1)) (la_cons (le_pv (pv 2)) la_nil)))))
      (lss_one (ls_ret (le_ifExp (lt_isN (le_pv (pv 3)) le_non) le_int (le_callC c_product_of hr (by decide) wk.ok (by rfl) (la_cons (le_pv (pv 3)) la_nil)))))),
    fun ds G q h => p_many_of_kind ds G q dw h⟩
theorem ok__law_point_drawn (T : Txt P K mg) (d__law_point_drawn : DefAt K mg "_law_point_drawn" s__law_point_drawn) (c__law_roll : Cal3 P w K mg base "_law_roll" 2 ["_law_dice_here", "_law_total"] sp__law_roll) (c__law_letter : Cal3 P w K mg base "_law_letter" 3 ["_law_dice_here", "_law_prime"] sp__law_letter) : Cal3 P w K mg base "_law_point_drawn" 4 ["_law_dice_here", "_law_prime", "_law_most"] sp__law_point_drawn :=
  cal3 d__law_point_drawn (fun _ _ _ _ _ _ us hl => match us, hl with | [_, _, _], _ => rfl) sc__law_point_drawn len__law_point_drawn fun f cdv A outer s H E B dw hr wk => ⟨t__law_point_drawn dw,
    (lss_cons (ls_set (i := 3) sc__law_point_drawn.nd rfl (by first | exact Or.inl rfl | exact Or.inr rfl) (le_max2 rfl (by rfl) T.n_max (lp_cons (le_callC c__law_roll hr (by decide) wk.ok (by rfl) (la_cons (le_pv (pv 0)) (la_cons (le_add (le_pv (pv 2)) le_int) la_nil))) (lp_cons (le_callC c__law_roll hr (by decide) wk.ok (by rfl) (la_cons (le_pv (pv 0)) (la_cons (le_add (le_pv (pv 2)) le_int) la_nil))) lp_nil))))
      (lss_one (ls_ret (le_tuple (by rfl) T.n_tuple (lp_cons (le_lc (own := [("_law_turn", 4)]) rfl sc__law_point_drawn.nd (li_range1 (by rfl) T.n_range (la_cons (le_pv (pv 3)) la_nil)) (blkOk_by (N := N__law_point_drawn) (sc := defScope s__law_point_drawn) (by decide +kernel)) (fun _ _ _ _ _ => (lg_name (i := 4) sc__law_point_drawn.nd rfl (by first | exact Or.inl rfl | exact Or.inr rfl) (by decide))) (fun _ _ _ _ _ => lts_nil) (fun _ _ _ _ _ => (le_callC c__law_letter hr (by decide) wok0 (by rfl) (la_cons (le_pv (pv 0)) (la_cons (le_pv (pv 1)) la_nil))))) lp_nil))))),
    fun ds G q h => p__law_point_drawn N__law_point_drawn rfl ds G q dw h⟩
theorem ok__law_corner_heights (T : Txt P K mg) (d__law_corner_heights : DefAt K mg "_law_corner_heights" s__law_corner_heights) (c__law_nears : Cal3 P w K mg base "_law_nears" 3 ["_law_point"] sp__law_nears) : Cal3 P w K mg base "_law_corner_heights" 4 ["_law_word"] sp__law_corner_heights :=
  cal3 d__law_corner_heights (fun _ _ _ _ _ _ us hl => match us, hl with | [_], _ => rfl) sc__law_corner_heights len__law_corner_heights fun f cdv A outer s H E B dw hr wk => ⟨t__law_corner_heights dw,
    (lss_cons (ls_set (i := 1) sc__law_corner_heights.nd rfl (by first | exact Or.inl rfl | exact Or.inr rfl) (le_lst la_nil))
      (lss_cons (ls_for (vs := [2]) (passes_of rfl) rfl (li_range1 (by rfl) T.n_range (la_cons (le_add (le_len (by rfl) T.n_len (lp_cons (le_pv (pv 0)) lp_nil)) le_int) la_nil)) (lg_name (i := 2) sc__law_corner_heights.nd rfl (by first | exact Or.inl rfl | exact Or.inr rfl) (by decide)) (lss_one (ls_if (lt_eq hr (le_len (by rfl) T.n_len (lp_cons (le_callC c__law_nears hr (by decide) wk.ok (by rfl) (la_cons (le_tuple (by rfl) T.n_tuple (lp_cons (le_cut (le_pv (pv 0)) lo_none (lo_some (le_pv (pv 2)))) lp_nil)) la_nil)) lp_nil)) le_int) (lss_one (ls_expr (le_append (pv 1) (le_pv (pv 2))))) lss_nil)))
      (lss_one (ls_ret (le_pv (pv 1)))))),
    fun ds G q h => p__law_corner_heights N__law_corner_heights rfl ds G q dw h⟩
theorem ok_are_letters (T : Txt P K mg) (d_are_letters : DefAt K mg "are_letters" s_are_letters) (c_is_letter : Cal3 P w K mg base "is_letter" 4 ["prime", "value"] sp_is_letter) : Cal3 P w K mg base "are_letters" 5 ["prime", "value"] sp_are_letters :=
  cal3 d_are_letters (fun _ _ _ _ _ _ us hl => match us, hl with | [_, _], _ => rfl) sc_are_letters len_are_letters fun f cdv A outer s H E B dw hr wk => ⟨t_are_letters dw,
    (lss_cons (ls_if (LW.lt (lw_or (lt_not (lt_val (le_isi (by rfl) T.n_isinstance (lp_cons (le_pv (pv 1)) (lp_cons (le_ty (by rfl) T.n_tuple (by decide +kernel)) lp_nil))))) (lw_or1 (lt_gt (le_len (by rfl) T.n_len (lp_cons (le_pv (pv 1)) lp_nil)) (le_gint (by rfl) T.g_MAX_LETTERS_words))))) (lss_one (ls_ret le_bl)) lss_nil)
      (lss_one (ls_ret (le_all rfl (by rfl) T.n_all (lp_cons (le_lc (own := [("letter", 2)]) rfl sc_are_letters.nd (li_seq (le_pv (pv 1))) (blkOk_by (N := N_are_letters) (sc := defScope s_are_letters) (by decide +kernel)) (fun _ _ _ _ _ => (lg_name (i := 2) sc_are_letters.nd rfl (by first | exact Or.inl rfl | exact Or.inr rfl) (by decide))) (fun _ _ _ _ _ => lts_nil) (fun _ _ _ _ _ => (le_callC c_is_letter hr (by decide) wok0 (by rfl) (la_cons (le_pv (pv 0)) (la_cons (le_pv (pv 2)) la_nil))))) lp_nil))))),
    fun ds G q h => p_are_letters N_are_letters rfl ds G q dw h⟩
theorem ok__law_word_drawn (T : Txt P K mg) (d__law_word_drawn : DefAt K mg "_law_word_drawn" s__law_word_drawn) (c__law_point_drawn : Cal3 P w K mg base "_law_point_drawn" 4 ["_law_dice_here", "_law_prime", "_law_most"] sp__law_point_drawn) (c__law_roll : Cal3 P w K mg base "_law_roll" 2 ["_law_dice_here", "_law_total"] sp__law_roll) (c__law_pick : Cal3 P w K mg base "_law_pick" 3 ["_law_dice_here", "_law_items"] sp__law_pick) : Cal3 P w K mg base "_law_word_drawn" 5 ["_law_dice_here", "_law_prime", "_law_most"] sp__law_word_drawn :=
  cal3 d__law_word_drawn (fun _ _ _ _ _ _ us hl => match us, hl with | [_, _, _], _ => rfl) sc__law_word_drawn len__law_word_drawn fun f cdv A outer s H E B dw hr wk => ⟨t__law_word_drawn dw,
    (lss_cons (ls_set (i := 3) sc__law_word_drawn.nd rfl (by first | exact Or.inl rfl | exact Or.inr rfl) (le_callC c__law_point_drawn hr (by decide) wk.ok (by rfl) (la_cons (le_pv (pv 0)) (la_cons (le_pv (pv 1)) (la_cons (le_sub (le_pv (pv 2)) le_int) la_nil)))))
      (lss_cons (ls_if (LW.lt (lw_and (lt_eq hr (le_pv (pv 3)) (le_tup la_nil)) (lw_and1 (lt_eq hr (le_callC c__law_roll hr (by decide) wk.ok (by rfl) (la_cons (le_pv (pv 0)) (la_cons le_int la_nil))) le_int)))) (lss_one (ls_ret (le_callC c__law_pick hr (by decide) wk.ok (by rfl) (la_cons (le_pv (pv 0)) (la_cons (le_lst (la_cons (le_tup la_nil) (la_cons (le_tup (la_cons (le_neg le_int) la_nil)) la_nil))) la_nil))))) lss_nil)
      (lss_one (ls_ret (le_add (le_pv (pv 3)) (le_tup (la_cons (le_ifExp (lt_gt (le_pv (pv 1)) le_int) (le_add le_int (le_callC c__law_roll hr (by decide) wk.ok (by rfl) (la_cons (le_pv (pv 0)) (la_cons (le_sub (le_pv (pv 1)) le_int) la_nil)))) le_int) la_nil))))))),
    fun ds G q h => p__law_word_drawn N__law_word_drawn rfl ds G q dw h⟩
theorem ok__law_generators (T : Txt P K mg) (d__law_generators : DefAt K mg "_law_generators" s__law_generators) (c__law_counts : Cal3 P w K mg base "_law_counts" 3 ["_law_word", "_law_size"] sp__law_counts) (c__law_corner_heights : Cal3 P w K mg base "_law_corner_heights" 4 ["_law_word"] sp__law_corner_heights) : Cal3 P w K mg base "_law_generators" 5 ["_law_word"] sp__law_generators :=
  cal3 d__law_generators (fun _ _ _ _ _ _ us hl => match us, hl with | [_], _ => rfl) sc__law_generators len__law_generators fun f cdv A outer s H E B dw hr wk => ⟨t__law_generators dw,
    (lss_cons (ls_par (i := 1) (j := 2) rfl sc__law_generators.nd rfl rfl (by decide) rfl rfl (le_callC c__law_counts hr (by decide) wk.ok (by rfl) (la_cons (le_pv (pv 0)) (la_cons (le_add (le_len (by rfl) T.n_len (lp_cons (le_pv (pv 0)) lp_nil)) le_int) la_nil))) (le_callC c__law_corner_heights hr (by decide) wk.ok (by rfl) (la_cons (le_pv (pv 0)) la_nil)) rfl)
      (lss_cons (ls_par3F (i := 3) (j := 4) (l := 5) rfl sc__law_generators.nd rfl rfl rfl (by decide) (by decide) (by decide) rfl rfl rfl (le_lst (la_cons (le_item (le_pv (pv 1)) le_int) la_nil)) (le_item (le_pv (pv 1)) le_int) le_int rfl)
      (lss_cons (ls_for (vs := [6, 7]) (passes_of rfl) rfl (li_enumA (by rfl) T.n_enumerate (la_cons (le_pv (pv 1)) la_nil)) (lg_tup rfl (lgs_cons (lg_name (i := 6) sc__law_generators.nd rfl (by first | exact Or.inl rfl | exact Or.inr rfl) (by decide)) (lgs_cons (lg_name (i := 7) sc__law_generators.nd rfl (by first | exact Or.inl rfl | exact Or.inr rfl) (by decide)) lgs_nil))) (lss_cons (ls_set (i := 5) sc__law_generators.nd rfl (by first | exact Or.inl rfl | exact Or.inr rfl) (le_add (le_pv (pv 5)) (le_mul (le_pv (pv 7)) (le_pv (pv 7)))))
      (lss_one (ls_if (LW.lt (lw_and (lt_in hr (le_pv (pv 6)) (le_pv (pv 2))) (lw_and1 (lt_notIn hr (le_add (le_pv (pv 6)) le_int) (le_pv (pv 2)))))) (lss_cons (ls_expr (le_append (pv 3) (le_fdiv (le_pv (pv 5)) (le_pv (pv 4)))))
      (lss_one (ls_set (i := 4) sc__law_generators.nd rfl (by first | exact Or.inl rfl | exact Or.inr rfl) (le_pv (pv 7))))) lss_nil))))
      (lss_one (ls_ret (le_tuple (by rfl) T.n_tuple (lp_cons (le_pv (pv 3)) lp_nil))))))),
    fun ds G q h => p__law_generators N__law_generators rfl ds G q dw h⟩
theorem ok__law_counted (T : Txt P K mg) (d__law_counted : DefAt K mg "_law_counted" s__law_counted) (c__law_kd_raised : Cal3 P w K mg base "_law_kd_raised" 2 ["_law_number", "_law_times"] sp__law_kd_raised) (c__law_corner_heights : Cal3 P w K mg base "_law_corner_heights" 4 ["_law_word"] sp__law_corner_heights) : Cal3 P w K mg base "_law_counted" 5 ["_law_prime", "_law_kind", "_law_length"] sp__law_counted :=
  cal3 d__law_counted (fun _ _ _ _ _ _ us hl => match us, hl with | [_, _, _], _ => rfl) sc__law_counted len__law_counted fun f cdv A outer s H E B dw hr wk => ⟨t__law_counted dw,
    (lss_cons (ls_if (lt_eq hr (le_pv (pv 1)) (le_tup la_nil)) (lss_cons (ls_if (lt_lt (le_pv (pv 2)) le_int) (lss_one (ls_ret (le_ifExp (lt_eq hr (le_pv (pv 2)) le_int) le_int (le_pv (pv 0))))) lss_nil)
      (lss_one (ls_ret (le_mul (le_mul (le_add (le_pv (pv 0)) le_int) (le_callC c__law_kd_raised hr (by decide) wk.ok (by rfl) (la_cons (le_pv (pv 0)) (la_cons (le_sub (le_pv (pv 2)) le_int) la_nil)))) (le_sub (le_pv (pv 0)) le_int))))) lss_nil)
      (lss_cons (ls_if (lt_lt (le_pv (pv 2)) (le_len (by rfl) T.n_len (lp_cons (le_pv (pv 1)) lp_nil))) (lss_one (ls_ret le_int)) lss_nil)
      (lss_cons (ls_par (i := 3) (j := 4) rfl sc__law_counted.nd rfl rfl (by decide) rfl rfl (le_callC c__law_corner_heights hr (by decide) wk.ok (by rfl) (la_cons (le_pv (pv 1)) la_nil)) (le_add (le_pv (pv 0)) le_int) rfl)
      (lss_cons (ls_for (vs := [5]) (passes_of rfl) rfl (li_range2 (by rfl) T.n_range (la_cons le_int (la_cons (le_len (by rfl) T.n_len (lp_cons (le_pv (pv 1)) lp_nil)) la_nil))) (lg_name (i := 5) sc__law_counted.nd rfl (by first | exact Or.inl rfl | exact Or.inr rfl) (by decide)) (lss_one (ls_if (lt_notIn hr (le_add (le_pv (pv 5)) le_int) (le_pv (pv 3))) (lss_one (ls_set (i := 4) sc__law_counted.nd rfl (by first | exact Or.inl rfl | exact Or.inr rfl) (le_mul (le_pv (pv 4)) (le_ifExp (lt_in hr (le_pv (pv 5)) (le_pv (pv 3))) (le_sub (le_pv (pv 0)) le_int) (le_pv (pv 0)))))) lss_nil)))
      (lss_cons (ls_set (i := 6) sc__law_counted.nd rfl (by first | exact Or.inl rfl | exact Or.inr rfl) (le_sub (le_pv (pv 2)) (le_len (by rfl) T.n_len (lp_cons (le_pv (pv 1)) lp_nil))))
      (lss_one (ls_ret (le_ifExp (lt_eq hr (le_pv (pv 6)) le_int) (le_pv (pv 4)) (le_mul (le_mul (le_pv (pv 4)) (le_callC c__law_kd_raised hr (by decide) wk.ok (by rfl) (la_cons (le_pv (pv 0)) (la_cons (le_sub (le_pv (pv 6)) le_int) la_nil)))) (le_sub (le_pv (pv 0)) le_int)))))))))),
    fun ds G q h => p__law_counted ds G q dw h⟩
theorem ok_Branch_init (T : Txt P K mg) (d_Branch_init : MethAt K "Branch" "__init__" "Branch.__init__" s_Branch_init) (m_Branch : MakeAt K mg "Branch") (c_require_prime : Cal3 P w K mg base "require_prime" 4 ["value"] sp_require_prime) (c_are_letters : Cal3 P w K mg base "are_letters" 5 ["prime", "value"] sp_are_letters) (c_ends_as_word : Cal3 P w K mg base "ends_as_word" 2 ["point"] sp_ends_as_word) (c_letters_text : Cal3 P w K mg base "letters_text" 2 ["point"] sp_letters_text) : New3 P w K mg base "Branch" 6 sp_Branch_init :=
  new3 m_Branch d_Branch_init (fun _ _ _ _ _ _ us hl => match us, hl with | [_, _, _], _ => rfl) sc_Branch_init (by decide) len_Branch_init fun f cdv A outer s H E B dw hr wk => ⟨t_Branch_init dw,
    (lss_cons (ls_expr (le_callC c_require_prime hr (by decide) wk.ok (by rfl) (la_cons (le_pv (pv 1)) la_nil)))
      (lss_cons (ls_if (LW.lt (lw_or (lt_not (lt_val (le_callC c_are_letters hr (by decide) wk.ok (by rfl) (la_cons (le_pv (pv 1)) (la_cons (le_pv (pv 2)) la_nil))))) (lw_or1 (lt_not (lt_val (le_callC c_ends_as_word hr (by decide) wk.ok (by rfl) (la_cons (le_pv (pv 2)) la_nil))))))) (lss_one ls_never) lss_nil)
      (lss_cons (ls_attr [("Branch", 0)] (tbl_cons T.sl_Branch_own_prime tbl_nil) (pv 0) (le_pv (pv 1)))
      (lss_cons (ls_attr [("Branch", 2)] (tbl_cons T.sl_Branch_own_word tbl_nil) (pv 0) (le_pv (pv 2)))
      (lss_one (ls_attr [("Branch", 1)] (tbl_cons T.sl_Branch_own_text tbl_nil) (pv 0) (le_fstr (.cons (le_fmt (le_callC c_letters_text hr (by decide) wk.ok (by rfl) (la_cons (le_pv (pv 2)) la_nil))) (.cons le_str (.cons (le_fmt (le_pv (pv 1))) .nil)))))))))),
    fun ds G q h => p_Branch_init N_Branch_init rfl ds G q dw h⟩
theorem ok_is_kind_word (T : Txt P K mg) (d_is_kind_word : DefAt K mg "is_kind_word" s_is_kind_word) (c_are_letters : Cal3 P w K mg base "are_letters" 5 ["prime", "value"] sp_are_letters) (c_ends_as_word : Cal3 P w K mg base "ends_as_word" 2 ["point"] sp_ends_as_word) (c_kind_in : Cal3 P w K mg base "kind_in" 3 ["word"] sp_kind_in) : Cal3 P w K mg base "is_kind_word" 6 ["value"] sp_is_kind_word :=
  cal3 d_is_kind_word (fun _ _ _ _ _ _ us hl => match us, hl with | [_], _ => rfl) sc_is_kind_word len_is_kind_word fun f cdv A outer s H E B dw hr wk => ⟨t_is_kind_word dw,
    (lss_one (ls_ret (le_and (le_callC c_are_letters hr (by decide) wk.ok (by rfl) (la_cons le_int (la_cons (le_pv (pv 0)) la_nil))) (le_and (le_callC c_ends_as_word hr (by decide) wk.ok (by rfl) (la_cons (le_pv (pv 0)) la_nil)) (le_one (le_eq hr (le_callC c_kind_in hr (by decide) wk.ok (by rfl) (la_cons (le_pv (pv 0)) la_nil)) (le_pv (pv 0)))))))),
    fun ds G q h => p_is_kind_word ds G q dw h⟩
theorem ok__law_wd_pair (T : Txt P K mg) (d__law_wd_pair : DefAt K mg "_law_wd_pair" s__law_wd_pair) (c__law_pick : Cal3 P w K mg base "_law_pick" 3 ["_law_dice_here", "_law_items"] sp__law_pick) (c__law_word_drawn : Cal3 P w K mg base "_law_word_drawn" 5 ["_law_dice_here", "_law_prime", "_law_most"] sp__law_word_drawn) : Cal3 P w K mg base "_law_wd_pair" 6 ["_law_dice_here"] sp__law_wd_pair :=
  cal3 d__law_wd_pair (fun _ _ _ _ _ _ us hl => match us, hl with | [_], _ => rfl) sc__law_wd_pair len__law_wd_pair fun f cdv A outer s H E B dw hr wk => ⟨t__law_wd_pair dw,
    (lss_cons (ls_set (i := 1) sc__law_wd_pair.nd rfl (by first | exact Or.inl rfl | exact Or.inr rfl) (le_callC c__law_pick hr (by decide) wk.ok (by rfl) (la_cons (le_pv (pv 0)) (la_cons (le_lst (la_cons le_int (la_cons le_int (la_cons le_int (la_cons le_int (la_cons le_int (la_cons le_int la_nil))))))) la_nil))))
      (lss_one (ls_ret (le_tup (la_cons (le_pv (pv 1)) (la_cons (le_callC c__law_word_drawn hr (by decide) wk.ok (by rfl) (la_cons (le_pv (pv 0)) (la_cons (le_pv (pv 1)) (la_cons le_int la_nil)))) la_nil)))))),
    fun ds G q h => p__law_wd_pair ds G q dw h⟩
theorem ok_require_asked (T : Txt P K mg) (d_require_asked : DefAt K mg "require_asked" s_require_asked) (c_require_prime : Cal3 P w K mg base "require_prime" 4 ["value"] sp_require_prime) (c_is_kind_word : Cal3 P w K mg base "is_kind_word" 6 ["value"] sp_is_kind_word) (c_require_count : Cal3 P w K mg base "require_count" 4 ["value", "least", "most"] sp_require_count) : Cal3 P w K mg base "require_asked" 7 ["prime", "kind", "length"] sp_require_asked :=
  cal3 d_require_asked (fun _ _ _ _ _ _ us hl => match us, hl with | [_, _, _], _ => rfl) sc_require_asked len_require_asked fun f cdv A outer s H E B dw hr wk => ⟨t_require_asked dw,
    (lss_cons (ls_expr (le_callC c_require_prime hr (by decide) wk.ok (by rfl) (la_cons (le_pv (pv 0)) la_nil)))
      (lss_cons (ls_if (lt_not (lt_val (le_callC c_is_kind_word hr (by decide) wk.ok (by rfl) (la_cons (le_pv (pv 1)) la_nil)))) (lss_one ls_never) lss_nil)
      (lss_one (ls_expr (le_callC c_require_count hr (by decide) wk.ok (by rfl) (la_cons (le_pv (pv 2)) (la_cons le_int (la_cons (le_gint (by rfl) T.g_MAX_LETTERS_kinds) la_nil)))))))),
    fun ds G q h => p_require_asked ds G q dw h⟩
theorem ok_count_of_kind (T : Txt P K mg) (d_count_of_kind : DefAt K mg "count_of_kind" s_count_of_kind) (c_require_asked : Cal3 P w K mg base "require_asked" 7 ["prime", "kind", "length"] sp_require_asked) (c_many_of_kind : Cal3 P w K mg base "many_of_kind" 4 ["prime", "kind", "length"] sp_many_of_kind) : Cal3 P w K mg base "count_of_kind" 8 ["prime", "kind", "length"] sp_count_of_kind :=
  cal3 d_count_of_kind (fun _ _ _ _ _ _ us hl => match us, hl with | [_, _, _], _ => rfl) sc_count_of_kind len_count_of_kind fun f cdv A outer s H E B dw hr wk => ⟨t_count_of_kind dw,
    (lss_cons (ls_expr (le_callC c_require_asked hr (by decide) wk.ok (by rfl) (la_cons (le_pv (pv 0)) (la_cons (le_pv (pv 1)) (la_cons (le_pv (pv 2)) la_nil)))))
      (lss_one (ls_ret (le_callC c_many_of_kind hr (by decide) wk.ok (by rfl) (la_cons (le_pv (pv 0)) (la_cons (le_pv (pv 1)) (la_cons (le_pv (pv 2)) la_nil))))))),
    fun ds G q h => p_count_of_kind ds G q dw h⟩
theorem ok_each_of_kind (T : Txt P K mg) (d_each_of_kind : DefAt K mg "each_of_kind" s_each_of_kind) (c_choices : Cal3 P w K mg base "choices" 3 ["prime", "kind", "length"] sp_choices) (c_many_of_kind : Cal3 P w K mg base "many_of_kind" 4 ["prime", "kind", "length"] sp_many_of_kind) (c_require_asked : Cal3 P w K mg base "require_asked" 7 ["prime", "kind", "length"] sp_require_asked) : CalGn P w K mg base "each_of_kind" 8 ["prime", "kind", "length"] sp_each_of_kind :=
  calGn d_each_of_kind (fun _ _ _ _ _ _ us hl => match us, hl with | [_, _, _], _ => rfl) sc_each_of_kind len_each_of_kind fun f cdv A outer s H E pn B dw hr wk => ⟨t_each_of_kind dw,
    (lgss_cons (lgs_plain (ls_expr (le_callC c_require_asked hr (by decide) wk.ok (by rfl) (la_cons (le_pv (pv 0)) (la_cons (le_pv (pv 1)) (la_cons (le_pv (pv 2)) la_nil))))))
      (lgss_cons (lgs_plain (ls_if (lt_gt (le_callC c_many_of_kind hr (by decide) wk.ok (by rfl) (la_cons (le_pv (pv 0)) (la_cons (le_pv (pv 1)) (la_cons (le_pv (pv 2)) la_nil)))) (le_gint (by rfl) T.g_MAX_LISTED)) (lss_one ls_never) lss_nil))
      (lgss_cons (lgs_plain (ls_set (i := 3) sc_each_of_kind.nd rfl (by first | exact Or.inl rfl | exact Or.inr rfl) (le_lst (la_cons (le_tup la_nil) la_nil))))
      (lgss_cons (lgs_plain (ls_for (vs := [4]) (passes_of rfl) rfl (li_seq (le_orA (le_callC c_choices hr (by decide) wk.ok (by rfl) (la_cons (le_pv (pv 0)) (la_cons (le_pv (pv 1)) (la_cons (le_pv (pv 2)) la_nil)))) (le_one (le_lst (la_cons (le_lst la_nil) la_nil))))) (lg_name (i := 4) sc_each_of_kind.nd rfl (by first | exact Or.inl rfl | exact Or.inr rfl) (by decide)) (lss_one (ls_set (i := 3) sc_each_of_kind.nd rfl (by first | exact Or.inl rfl | exact Or.inr rfl) (le_ifExp (lt_ne hr (le_pv (pv 4)) (le_lst la_nil)) (le_lc2 (own := [("word", 5), ("letter", 6)]) (vs1 := [6]) rfl sc_each_of_kind.nd (li_seq (le_pv (pv 3))) (blkOk_by (N := N_each_of_kind) (sc := defScope s_each_of_kind) (by decide +kernel)) (by decide) (fun _ _ _ _ _ => (lg_name (i := 5) sc_each_of_kind.nd rfl (by first | exact Or.inl rfl | exact Or.inr rfl) (by decide))) (fun _ _ _ _ _ => lts_nil) (fun _ _ _ _ _ => (li_seq (le_pv (pv 4)))) (fun _ _ _ _ _ => (lg_name (i := 6) sc_each_of_kind.nd rfl (by first | exact Or.inl rfl | exact Or.inr rfl) (by decide))) (fun _ _ _ _ _ => lts_nil) (fun _ _ _ _ _ => (le_tup (la_star (le_pv (pv 5)) (la_cons (le_pv (pv 6)) la_nil))))) (le_pv (pv 3)))))))
      (lgss_cons (lgs_if (lt_ge (le_pv (pv 2)) (le_len (by rfl) T.n_len (lp_cons (le_pv (pv 1)) lp_nil))) (lgss_cons (lgs_for (vs := [5]) owns_gcx rfl (li_seq (le_pv (pv 3))) (lg_name (i := 5) sc_each_of_kind.nd rfl (by first | exact Or.inl rfl | exact Or.inr rfl) (by decide)) (lgss_cons (lgs_yield (le_pv (pv 5)))
      lgss_nil))
      lgss_nil) lgss_nil)
      lgss_nil))))),
    fun ds G q h => p_each_of_kind ds G q dw h⟩
theorem ok__law_is_counted (T : Txt P K mg) (d__law_is_counted : DefAt K mg "_law_is_counted" s__law_is_counted) (c__law_wd_pair : Cal3 P w K mg base "_law_wd_pair" 6 ["_law_dice_here"] sp__law_wd_pair) (c_kind_of : Cal3 P w K mg base "kind_of" 4 ["branch"] sp_kind_of) (c_Branch_init : New3 P w K mg base "Branch" 6 sp_Branch_init) (c__law_roll : Cal3 P w K mg base "_law_roll" 2 ["_law_dice_here", "_law_total"] sp__law_roll) (c_count_of_kind : Cal3 P w K mg base "count_of_kind" 8 ["prime", "kind", "length"] sp_count_of_kind) (c__law_counted : Cal3 P w K mg base "_law_counted" 5 ["_law_prime", "_law_kind", "_law_length"] sp__law_counted) : Cal3 P w K mg base "_law_is_counted" 9 ["_law_dice_here"] sp__law_is_counted :=
  cal3 d__law_is_counted (fun _ _ _ _ _ _ us hl => match us, hl with | [_], _ => rfl) sc__law_is_counted len__law_is_counted fun f cdv A outer s H E B dw hr wk => ⟨t__law_is_counted dw,
    (lss_cons (ls_asg (vs := [1, 2]) (le_callC c__law_wd_pair hr (by decide) wk.ok (by rfl) (la_cons (le_pv (pv 0)) la_nil)) (lg_tup rfl (lgs_cons (lg_name (i := 1) sc__law_is_counted.nd rfl (by first | exact Or.inl rfl | exact Or.inr rfl) (by decide)) (lgs_cons (lg_name (i := 2) sc__law_is_counted.nd rfl (by first | exact Or.inl rfl | exact Or.inr rfl) (by decide)) lgs_nil))))
      (lss_cons (ls_par (i := 3) (j := 4) rfl sc__law_is_counted.nd rfl rfl (by decide) rfl rfl (le_callC c_kind_of hr (by decide) wk.ok (by rfl) (la_cons (le_make c_Branch_init hr (by decide) (by rfl) (la_cons (le_pv (pv 1)) (la_cons (le_pv (pv 2)) la_nil))) la_nil)) (le_callC c__law_roll hr (by decide) wk.ok (by rfl) (la_cons (le_pv (pv 0)) (la_cons le_int la_nil))) rfl)
      (lss_cons (ls_if (lt_ne hr (le_callC c_count_of_kind hr (by decide) wk.ok (by rfl) (la_cons (le_pv (pv 1)) (la_cons (le_pv (pv 3)) (la_cons (le_pv (pv 4)) la_nil)))) (le_callC c__law_counted hr (by decide) wk.ok (by rfl) (la_cons (le_pv (pv 1)) (la_cons (le_pv (pv 3)) (la_cons (le_pv (pv 4)) la_nil))))) (lss_one (ls_ret le_bl)) lss_nil)
      (lss_one (ls_ret (le_eq hr (le_callC c_count_of_kind hr (by decide) wk.ok (by rfl) (la_cons (le_pv (pv 1)) (la_cons (le_pv (pv 3)) (la_cons (le_len (by rfl) T.n_len (lp_cons (le_pv (pv 3)) lp_nil)) la_nil)))) (le_callC c__law_counted hr (by decide) wk.ok (by rfl) (la_cons (le_pv (pv 1)) (la_cons (le_pv (pv 3)) (la_cons (le_len (by rfl) T.n_len (lp_cons (le_pv (pv 3)) lp_nil)) la_nil)))))))))),
    fun ds G q h => p__law_is_counted ds G q dw h⟩
theorem ok__law_is_listed (T : Txt P K mg) (d__law_is_listed : DefAt K mg "_law_is_listed" s__law_is_listed) (c__law_pick : Cal3 P w K mg base "_law_pick" 3 ["_law_dice_here", "_law_items"] sp__law_pick) (c__law_word_drawn : Cal3 P w K mg base "_law_word_drawn" 5 ["_law_dice_here", "_law_prime", "_law_most"] sp__law_word_drawn) (c__law_roll : Cal3 P w K mg base "_law_roll" 2 ["_law_dice_here", "_law_total"] sp__law_roll) (c__law_generators : Cal3 P w K mg base "_law_generators" 5 ["_law_word"] sp__law_generators) (c_kind_of : Cal3 P w K mg base "kind_of" 4 ["branch"] sp_kind_of) (c_Branch_init : New3 P w K mg base "Branch" 6 sp_Branch_init) (c__law_wd_all : Cal3 P w K mg base "_law_wd_all" 2 ["_law_prime", "_law_length"] sp__law_wd_all) (c_each_of_kind : CalGn P w K mg base "each_of_kind" 8 ["prime", "kind", "length"] sp_each_of_kind) (c_count_of_kind : Cal3 P w K mg base "count_of_kind" 8 ["prime", "kind", "length"] sp_count_of_kind) : Cal3 P w K mg base "_law_is_listed" 12 ["_law_dice_here"] sp__law_is_listed :=
  cal3 d__law_is_listed (fun _ _ _ _ _ _ us hl => match us, hl with | [_], _ => rfl) sc__law_is_listed len__law_is_listed fun f cdv A outer s H E B dw hr wk => ⟨t__law_is_listed dw,
    (lss_cons (ls_asg (vs := [1, 2]) (le_callC c__law_pick hr (by decide) wk.ok (by rfl) (la_cons (le_pv (pv 0)) (la_cons (le_lst (la_cons (le_tup (la_cons le_int (la_cons le_int la_nil))) (la_cons (le_tup (la_cons le_int (la_cons le_int la_nil))) (la_cons (le_tup (la_cons le_int (la_cons le_int la_nil))) (la_cons (le_tup (la_cons le_int (la_cons le_int la_nil))) la_nil))))) la_nil))) (lg_tup rfl (lgs_cons (lg_name (i := 1) sc__law_is_listed.nd rfl (by first | exact Or.inl rfl | exact Or.inr rfl) (by decide)) (lgs_cons (lg_name (i := 2) sc__law_is_listed.nd rfl (by first | exact Or.inl rfl | exact Or.inr rfl) (by decide)) lgs_nil))))
      (lss_cons (ls_par (i := 3) (j := 4) rfl sc__law_is_listed.nd rfl rfl (by decide) rfl rfl (le_callC c__law_word_drawn hr (by decide) wk.ok (by rfl) (la_cons (le_pv (pv 0)) (la_cons (le_pv (pv 1)) (la_cons (le_pv (pv 2)) la_nil)))) (le_callC c__law_roll hr (by decide) wk.ok (by rfl) (la_cons (le_pv (pv 0)) (la_cons (le_add (le_pv (pv 2)) le_int) la_nil))) rfl)
      (lss_cons (ls_set (i := 4) sc__law_is_listed.nd rfl (by first | exact Or.inl rfl | exact Or.inr rfl) (le_ifExp (lt_eq hr (le_callC c__law_roll hr (by decide) wk.ok (by rfl) (la_cons (le_pv (pv 0)) (la_cons le_int la_nil))) le_int) (le_len (by rfl) T.n_len (lp_cons (le_pv (pv 3)) lp_nil)) (le_pv (pv 4))))
      (lss_cons (ls_asg (vs := [5, 6]) (le_tup (la_cons (le_callC c_kind_of hr (by decide) wk.ok (by rfl) (la_cons (le_make c_Branch_init hr (by decide) (by rfl) (la_cons (le_pv (pv 1)) (la_cons (le_pv (pv 3)) la_nil))) la_nil)) (la_cons (le_callC c__law_generators hr (by decide) wk.ok (by rfl) (la_cons (le_pv (pv 3)) la_nil)) la_nil))) (lg_tup rfl (lgs_cons (lg_name (i := 5) sc__law_is_listed.nd rfl (by first | exact Or.inl rfl | exact Or.inr rfl) (by decide)) (lgs_cons (lg_name (i := 6) sc__law_is_listed.nd rfl (by first | exact Or.inl rfl | exact Or.inr rfl) (by decide)) lgs_nil))))
      (lss_cons (ls_setLc (i := 7) (own := [("_law_one", 8)]) rfl sc__law_is_listed.nd rfl rfl (sw_true rfl rfl rfl (by decide +kernel)) (li_seq (le_callC c__law_wd_all hr (by decide) wk.ok (by rfl) (la_cons (le_pv (pv 1)) (la_cons (le_pv (pv 4)) la_nil)))) (blkOk_by (N := N__law_is_listed) (sc := defScope s__law_is_listed) (by decide +kernel)) (fun _ _ _ _ _ => (lg_name (i := 8) sc__law_is_listed.nd rfl (by first | exact Or.inl rfl | exact Or.inr rfl) (by decide))) (fun _ _ _ _ _ => (lts_one (lt_eq hr (le_callC c__law_generators hr (by decide) wok0 (by rfl) (la_cons (le_pv (pv 8)) la_nil)) (le_pv (pv 6))))) (fun _ _ _ _ _ => (le_pv (pv 8))))
      (lss_one (ls_ret (le_and (le_eq hr (le_listGn c_each_of_kind hr (by decide) wk nsN_nil (by rfl) (by rfl) T.n_list (la_cons (le_pv (pv 1)) (la_cons (le_pv (pv 5)) (la_cons (le_pv (pv 4)) la_nil)))) (le_pv (pv 7))) (le_one (le_eq hr (le_callC c_count_of_kind hr (by decide) wk.ok (by rfl) (la_cons (le_pv (pv 1)) (la_cons (le_pv (pv 5)) (la_cons (le_pv (pv 4)) la_nil)))) (le_len (by rfl) T.n_len (lp_cons (le_pv (pv 7)) lp_nil)))))))))))),
    fun ds G q h => p__law_is_listed ds G q dw h⟩
theorem ok_law (T : Txt P K mg) (d_law : DefAt K mg "law" s_law) (c__law_dice : Cal3 P w K mg base "_law_dice" 2 ["_law_script", "_law_spot"] sp__law_dice) (c__law_is_listed : Cal3 P w K mg base "_law_is_listed" 12 ["_law_dice_here"] sp__law_is_listed) (c__law_is_counted : Cal3 P w K mg base "_law_is_counted" 9 ["_law_dice_here"] sp__law_is_counted) (c_count_of_kind : Cal3 P w K mg base "count_of_kind" 8 ["prime", "kind", "length"] sp_count_of_kind) (c_each_of_kind : CalGn P w K mg base "each_of_kind" 8 ["prime", "kind", "length"] sp_each_of_kind) : Cal3 P w K mg base "law" 13 ["_law_script"] sp_law :=
  cal3 d_law (fun _ _ _ _ _ _ us hl => match us, hl with | [_], _ => rfl) sc_law len_law fun f cdv A outer s H E B dw hr wk => ⟨t_law dw,
    (lss_cons (ls_for (vs := [1]) (passes_of rfl) rfl (li_range1 (by rfl) T.n_range (la_cons (le_max2 rfl (by rfl) T.n_max (lp_cons le_int (lp_cons (le_min2 rfl (by rfl) T.n_min (lp_cons le_int (lp_cons (le_len (by rfl) T.n_len (lp_cons (le_pv (pv 0)) lp_nil)) lp_nil))) lp_nil))) la_nil)) (lg_name (i := 1) sc_law.nd rfl (by first | exact Or.inl rfl | exact Or.inr rfl) (by decide)) (lss_cons (ls_setReg (i := 2) sc_law.nd rfl (by first | exact Or.inl rfl | exact Or.inr rfl) (le_callC c__law_dice hr (by decide) wk.ok (by rfl) (la_cons (le_pv (pv 0)) (la_cons (le_pv (pv 1)) la_nil))))
      (lss_one (ls_if (LW.lt (lw_or (lt_not (lt_val (le_callC c__law_is_listed hr (by decide) wk.ok (by rfl) (la_cons (le_pv (pv 2)) la_nil)))) (lw_or (lt_not (lt_val (le_callC c__law_is_listed hr (by decide) wk.ok (by rfl) (la_cons (le_pv (pv 2)) la_nil)))) (lw_or (lt_not (lt_val (le_callC c__law_is_counted hr (by decide) wk.ok (by rfl) (la_cons (le_pv (pv 2)) la_nil)))) (lw_or1 (lt_not (lt_val (le_callC c__law_is_counted hr (by decide) wk.ok (by rfl) (la_cons (le_pv (pv 2)) la_nil))))))))) (lss_one (ls_ret le_bl)) lss_nil))))
      (lss_cons (ls_setLc (i := 3) (own := [("_law_length", 5)]) rfl sc_law.nd rfl rfl (sw_true rfl rfl rfl (by decide +kernel)) (li_seq (le_tup (la_cons le_int (la_cons le_int (la_cons le_int la_nil))))) (blkOk_by (N := N_law) (sc := defScope s_law) (by decide +kernel)) (fun _ _ _ _ _ => (lg_name (i := 5) sc_law.nd rfl (by first | exact Or.inl rfl | exact Or.inr rfl) (by decide))) (fun _ _ _ _ _ => lts_nil) (fun _ _ _ _ _ => (le_callC c_count_of_kind hr (by decide) wok0 (by rfl) (la_cons le_int (la_cons (le_tup (la_cons (le_neg le_int) (la_cons (le_neg le_int) (la_cons le_int la_nil)))) (la_cons (le_pv (pv 5)) la_nil))))))
      (lss_cons (ls_set (i := 4) sc_law.nd rfl (by first | exact Or.inl rfl | exact Or.inr rfl) (le_lst (la_cons (le_tup (la_cons (le_neg le_int) (la_cons (le_neg le_int) (la_cons le_int la_nil)))) (la_cons (le_tup (la_cons le_int (la_cons (le_neg le_int) (la_cons le_int la_nil)))) (la_cons (le_tup (la_cons le_int (la_cons (le_neg le_int) (la_cons le_int la_nil)))) la_nil)))))
      (lss_one (ls_ret (le_and (le_eq hr (le_pv (pv 3)) (le_lst (la_cons le_int (la_cons le_int (la_cons le_int la_nil))))) (le_and (le_eq hr (le_callC c_count_of_kind hr (by decide) wk.ok (by rfl) (la_cons le_int (la_cons (le_tup la_nil) (la_cons le_int la_nil)))) le_int) (le_one (le_eq hr (le_listGn c_each_of_kind hr (by decide) wk nsN_nil (by rfl) (by rfl) T.n_list (la_cons le_int (la_cons (le_tup (la_cons (le_neg le_int) (la_cons (le_neg le_int) (la_cons le_int la_nil)))) (la_cons le_int la_nil)))) (le_pv (pv 4))))))))))),
    fun ds G q h => p_law ds G q dw h⟩
theorem all_law (T : Txt P K mg) (d_is_whole : DefAt K mg "is_whole" s_is_whole) (d_ends_as_word : DefAt K mg "ends_as_word" s_ends_as_word) (d_letters_text : DefAt K mg "letters_text" s_letters_text) (d_require_branch : DefAt K mg "require_branch" s_require_branch) (d_forms_of : DefAt K mg "forms_of" s_forms_of) (d_least_letter : DefAt K mg "least_letter" s_least_letter) (d_letters_let : DefAt K mg "letters_let" s_letters_let) (d_product_of : DefAt K mg "product_of" s_product_of) (d__law_dice : DefAt K mg "_law_dice" s__law_dice) (d__law_roll : DefAt K mg "_law_roll" s__law_roll) (d__law_orders : DefAt K mg "_law_orders" s__law_orders) (d__law_second : DefAt K mg "_law_second" s__law_second) (d__law_wd_all : DefAt K mg "_law_wd_all" s__law_wd_all) (d__law_kd_raised : DefAt K mg "_law_kd_raised" s__law_kd_raised) (d_is_integer : DefAt K mg "is_integer" s_is_integer) (d_is_prime : DefAt K mg "is_prime" s_is_prime) (d_kind_in : DefAt K mg "kind_in" s_kind_in) (d_choices : DefAt K mg "choices" s_choices) (d__law_pick : DefAt K mg "_law_pick" s__law_pick) (d__law_letter : DefAt K mg "_law_letter" s__law_letter) (d__law_counts : DefAt K mg "_law_counts" s__law_counts) (d__law_nears : DefAt K mg "_law_nears" s__law_nears) (d_require_prime : DefAt K mg "require_prime" s_require_prime) (d_require_count : DefAt K mg "require_count" s_require_count) (d_is_letter : DefAt K mg "is_letter" s_is_letter) (d_kind_of : DefAt K mg "kind_of" s_kind_of) (d_many_of_kind : DefAt K mg "many_of_kind" s_many_of_kind) (d__law_point_drawn : DefAt K mg "_law_point_drawn" s__law_point_drawn) (d__law_corner_heights : DefAt K mg "_law_corner_heights" s__law_corner_heights) (d_are_letters : DefAt K mg "are_letters" s_are_letters) (d__law_word_drawn : DefAt K mg "_law_word_drawn" s__law_word_drawn) (d__law_generators : DefAt K mg "_law_generators" s__law_generators) (d__law_counted : DefAt K mg "_law_counted" s__law_counted) (d_Branch_init : MethAt K "Branch" "__init__" "Branch.__init__" s_Branch_init) (m_Branch : MakeAt K mg "Branch") (d_is_kind_word : DefAt K mg "is_kind_word" s_is_kind_word) (d__law_wd_pair : DefAt K mg "_law_wd_pair" s__law_wd_pair) (d_require_asked : DefAt K mg "require_asked" s_require_asked) (d_count_of_kind : DefAt K mg "count_of_kind" s_count_of_kind) (d_each_of_kind : DefAt K mg "each_of_kind" s_each_of_kind) (d__law_is_counted : DefAt K mg "_law_is_counted" s__law_is_counted) (d__law_is_listed : DefAt K mg "_law_is_listed" s__law_is_listed) (d_law : DefAt K mg "law" s_law) : Cal3 P w K mg base "law" 13 ["_law_script"] sp_law := by
  have c_is_whole : Cal3 P w K mg base "is_whole" 2 ["value"] sp_is_whole := ok_is_whole T d_is_whole 
  have c_ends_as_word : Cal3 P w K mg base "ends_as_word" 2 ["point"] sp_ends_as_word := ok_ends_as_word T d_ends_as_word 
  have c_letters_text : Cal3 P w K mg base "letters_text" 2 ["point"] sp_letters_text := ok_letters_text T d_letters_text 
  have c_require_branch : Cal3 P w K mg base "require_branch" 2 ["value"] sp_require_branch := ok_require_branch T d_require_branch 
  have c_forms_of : Cal3 P w K mg base "forms_of" 2 ["word"] sp_forms_of := ok_forms_of T d_forms_of 
  have c_least_letter : Cal3 P w K mg base "least_letter" 2 ["form", "letter"] sp_least_letter := ok_least_letter T d_least_letter 
  have c_letters_let : Cal3 P w K mg base "letters_let" 2 ["prime", "form", "letter"] sp_letters_let := ok_letters_let T d_letters_let 
  have c_product_of : Cal3 P w K mg base "product_of" 2 ["rows"] sp_product_of := ok_product_of T d_product_of 
  have c__law_dice : Cal3 P w K mg base "_law_dice" 2 ["_law_script", "_law_spot"] sp__law_dice := ok__law_dice T d__law_dice 
  have c__law_roll : Cal3 P w K mg base "_law_roll" 2 ["_law_dice_here", "_law_total"] sp__law_roll := ok__law_roll T d__law_roll 
  have c__law_orders : Cal3 P w K mg base "_law_orders" 2 ["_law_word"] sp__law_orders := ok__law_orders T d__law_orders 
  have c__law_second : Cal3 P w K mg base "_law_second" 2 ["_law_point"] sp__law_second := ok__law_second T d__law_second 
  have c__law_wd_all : Cal3 P w K mg base "_law_wd_all" 2 ["_law_prime", "_law_length"] sp__law_wd_all := ok__law_wd_all T d__law_wd_all 
  have c__law_kd_raised : Cal3 P w K mg base "_law_kd_raised" 2 ["_law_number", "_law_times"] sp__law_kd_raised := ok__law_kd_raised T d__law_kd_raised 
  have c_is_integer : Cal3 P w K mg base "is_integer" 3 ["value"] sp_is_integer := ok_is_integer T d_is_integer c_is_whole
  have c_is_prime : Cal3 P w K mg base "is_prime" 3 ["value"] sp_is_prime := ok_is_prime T d_is_prime c_is_whole
  have c_kind_in : Cal3 P w K mg base "kind_in" 3 ["word"] sp_kind_in := ok_kind_in T d_kind_in c_forms_of c_least_letter
  have c_choices : Cal3 P w K mg base "choices" 3 ["prime", "kind", "length"] sp_choices := ok_choices T d_choices c_forms_of c_letters_let
  have c__law_pick : Cal3 P w K mg base "_law_pick" 3 ["_law_dice_here", "_law_items"] sp__law_pick := ok__law_pick T d__law_pick c__law_roll
  have c__law_letter : Cal3 P w K mg base "_law_letter" 3 ["_law_dice_here", "_law_prime"] sp__law_letter := ok__law_letter T d__law_letter c__law_roll
  have c__law_counts : Cal3 P w K mg base "_law_counts" 3 ["_law_word", "_law_size"] sp__law_counts := ok__law_counts T d__law_counts c__law_orders
  have c__law_nears : Cal3 P w K mg base "_law_nears" 3 ["_law_point"] sp__law_nears := ok__law_nears T d__law_nears c__law_second
  have c_require_prime : Cal3 P w K mg base "require_prime" 4 ["value"] sp_require_prime := ok_require_prime T d_require_prime c_is_prime
  have c_require_count : Cal3 P w K mg base "require_count" 4 ["value", "least", "most"] sp_require_count := ok_require_count T d_require_count c_is_integer
  have c_is_letter : Cal3 P w K mg base "is_letter" 4 ["prime", "value"] sp_is_letter := ok_is_letter T d_is_letter c_is_integer
  have c_kind_of : Cal3 P w K mg base "kind_of" 4 ["branch"] sp_kind_of := ok_kind_of T d_kind_of c_require_branch c_kind_in
  have c_many_of_kind : Cal3 P w K mg base "many_of_kind" 4 ["prime", "kind", "length"] sp_many_of_kind := ok_many_of_kind T d_many_of_kind c_choices c_product_of
  have c__law_point_drawn : Cal3 P w K mg base "_law_point_drawn" 4 ["_law_dice_here", "_law_prime", "_law_most"] sp__law_point_drawn := ok__law_point_drawn T d__law_point_drawn c__law_roll c__law_letter
  have c__law_corner_heights : Cal3 P w K mg base "_law_corner_heights" 4 ["_law_word"] sp__law_corner_heights := ok__law_corner_heights T d__law_corner_heights c__law_nears
  have c_are_letters : Cal3 P w K mg base "are_letters" 5 ["prime", "value"] sp_are_letters := ok_are_letters T d_are_letters c_is_letter
  have c__law_word_drawn : Cal3 P w K mg base "_law_word_drawn" 5 ["_law_dice_here", "_law_prime", "_law_most"] sp__law_word_drawn := ok__law_word_drawn T d__law_word_drawn c__law_point_drawn c__law_roll c__law_pick
  have c__law_generators : Cal3 P w K mg base "_law_generators" 5 ["_law_word"] sp__law_generators := ok__law_generators T d__law_generators c__law_counts c__law_corner_heights
  have c__law_counted : Cal3 P w K mg base "_law_counted" 5 ["_law_prime", "_law_kind", "_law_length"] sp__law_counted := ok__law_counted T d__law_counted c__law_kd_raised c__law_corner_heights
  have c_Branch_init : New3 P w K mg base "Branch" 6 sp_Branch_init := ok_Branch_init T d_Branch_init m_Branch c_require_prime c_are_letters c_ends_as_word c_letters_text
  have c_is_kind_word : Cal3 P w K mg base "is_kind_word" 6 ["value"] sp_is_kind_word := ok_is_kind_word T d_is_kind_word c_are_letters c_ends_as_word c_kind_in
  have c__law_wd_pair : Cal3 P w K mg base "_law_wd_pair" 6 ["_law_dice_here"] sp__law_wd_pair := ok__law_wd_pair T d__law_wd_pair c__law_pick c__law_word_drawn
  have c_require_asked : Cal3 P w K mg base "require_asked" 7 ["prime", "kind", "length"] sp_require_asked := ok_require_asked T d_require_asked c_require_prime c_is_kind_word c_require_count
  have c_count_of_kind : Cal3 P w K mg base "count_of_kind" 8 ["prime", "kind", "length"] sp_count_of_kind := ok_count_of_kind T d_count_of_kind c_require_asked c_many_of_kind
  have c_each_of_kind : CalGn P w K mg base "each_of_kind" 8 ["prime", "kind", "length"] sp_each_of_kind := ok_each_of_kind T d_each_of_kind c_choices c_many_of_kind c_require_asked
  have c__law_is_counted : Cal3 P w K mg base "_law_is_counted" 9 ["_law_dice_here"] sp__law_is_counted := ok__law_is_counted T d__law_is_counted c__law_wd_pair c_kind_of c_Branch_init c__law_roll c_count_of_kind c__law_counted
  have c__law_is_listed : Cal3 P w K mg base "_law_is_listed" 12 ["_law_dice_here"] sp__law_is_listed := ok__law_is_listed T d__law_is_listed c__law_pick c__law_word_drawn c__law_roll c__law_generators c_kind_of c_Branch_init c__law_wd_all c_each_of_kind c_count_of_kind
  have c_law : Cal3 P w K mg base "law" 13 ["_law_script"] sp_law := ok_law T d_law c__law_dice c__law_is_listed c__law_is_counted c_count_of_kind c_each_of_kind
  exact c_law
end
end K47

set_option Elab.async false
namespace K47
open PySem PySem.Spec PyProof.Rows L2 L3 LamX LD LN LP LO LB LC LV LK
theorem all_mk {P : Program} {w : World} {K : PySem.W.Frag} {h : Heap} {mg : Str → Option Value} {fa : Addr} (X : K.In h) (G : h.Ns mainGlobals mg) (hfa : mg "law" = some (.ref fa))
    (n_abs : PySem.W.nsIn K mainGlobals "abs" = some none)
    (n_all : PySem.W.nsIn K mainGlobals "all" = some none)
    (n_bool : PySem.W.nsIn K mainGlobals "bool" = some none)
    (n_enumerate : PySem.W.nsIn K mainGlobals "enumerate" = some none)
    (n_int : PySem.W.nsIn K mainGlobals "int" = some none)
    (n_isinstance : PySem.W.nsIn K mainGlobals "isinstance" = some none)
    (n_len : PySem.W.nsIn K mainGlobals "len" = some none)
    (n_list : PySem.W.nsIn K mainGlobals "list" = some none)
    (n_max : PySem.W.nsIn K mainGlobals "max" = some none)
    (n_min : PySem.W.nsIn K mainGlobals "min" = some none)
    (n_range : PySem.W.nsIn K mainGlobals "range" = some none)
    (n_sorted : PySem.W.nsIn K mainGlobals "sorted" = some none)
    (n_str : PySem.W.nsIn K mainGlobals "str" = some none)
    (n_tuple : PySem.W.nsIn K mainGlobals "tuple" = some none)
    (n_zip : PySem.W.nsIn K mainGlobals "zip" = some none)
    {tk_BLANK : Tok} (g_BLANK : PySem.W.nsIn K mainGlobals "BLANK" = some (some (.str " " tk_BLANK)))
    {tk_FIRST : Tok} (g_FIRST : PySem.W.nsIn K mainGlobals "FIRST" = some (some (.str "first" tk_FIRST)))
    {tk_FIXED : Tok} (g_FIXED : PySem.W.nsIn K mainGlobals "FIXED" = some (some (.str "fixed" tk_FIXED)))
    {tk_FREE : Tok} (g_FREE : PySem.W.nsIn K mainGlobals "FREE" = some (some (.str "free" tk_FREE)))
    {tk_GREAT : Tok} (g_GREAT : PySem.W.nsIn K mainGlobals "GREAT" = some (some (.int (1000000000000000000000000000000000000000000000000000000000000) tk_GREAT)))
    {tk_LIVE : Tok} (g_LIVE : PySem.W.nsIn K mainGlobals "LIVE" = some (some (.str "not zero" tk_LIVE)))
    {tk_MAX_LETTERS_kinds : Tok} (g_MAX_LETTERS_kinds : PySem.W.nsIn K mainGlobals "MAX_LETTERS_kinds" = some (some (.int (60) tk_MAX_LETTERS_kinds)))
    {tk_MAX_LETTERS_words : Tok} (g_MAX_LETTERS_words : PySem.W.nsIn K mainGlobals "MAX_LETTERS_words" = some (some (.int (60) tk_MAX_LETTERS_words)))
    {tk_MAX_LISTED : Tok} (g_MAX_LISTED : PySem.W.nsIn K mainGlobals "MAX_LISTED" = some (some (.int (3000) tk_MAX_LISTED)))
    {tk_ORIGIN_TEXT : Tok} (g_ORIGIN_TEXT : PySem.W.nsIn K mainGlobals "ORIGIN_TEXT" = some (some (.str "." tk_ORIGIN_TEXT)))
    {ad_PRIMES : Addr} {dd_PRIMES : Option Addr} {n_PRIMES_ : Nat} {sl_PRIMES : Array (Option Value)} {tk_PRIMES_0 tk_PRIMES_1 tk_PRIMES_2 tk_PRIMES_3 tk_PRIMES_4 tk_PRIMES_5 tk_PRIMES_6 tk_PRIMES_7 tk_PRIMES_8 tk_PRIMES_9 tk_PRIMES_10 : Tok} (g_PRIMES : PySem.W.nsIn K mainGlobals "PRIMES" = some (some (.ref ad_PRIMES))) (l_PRIMES : K.lookup ad_PRIMES = some ⟨.type "tuple", dd_PRIMES, .seq #[.int (2) tk_PRIMES_0, .int (3) tk_PRIMES_1, .int (5) tk_PRIMES_2, .int (7) tk_PRIMES_3, .int (11) tk_PRIMES_4, .int (13) tk_PRIMES_5, .int (17) tk_PRIMES_6, .int (19) tk_PRIMES_7, .int (23) tk_PRIMES_8, .int (29) tk_PRIMES_9, .int (31) tk_PRIMES_10] n_PRIMES_, sl_PRIMES⟩)
    {tk_TURN : Tok} (g_TURN : PySem.W.nsIn K mainGlobals "TURN" = some (some (.int (-1) tk_TURN)))
    {tk_TURN_TEXT : Tok} (g_TURN_TEXT : PySem.W.nsIn K mainGlobals "TURN_TEXT" = some (some (.str "t" tk_TURN_TEXT)))
    {C_Branch : Addr} (a_Branch : PySem.W.nsIn K mainGlobals "Branch" = some (some (.ref C_Branch)))
    (pg_Branch : PySem.W.plainGet K C_Branch Str.empty = true) (ic_Branch : PySem.W.isClsIn K C_Branch = true) (po_Branch : PySem.W.plainOver K C_Branch = true) (sa_Branch : PySem.W.findIn K (.ref C_Branch) "__setattr__" = some (some (.builtin "object.__setattr__")))
    {p_Branch_own_prime : Addr} (sat_Branch_own_prime : PySem.W.findIn K (.ref C_Branch) "own_prime" = some (some (.ref p_Branch_own_prime))) (sge_Branch_own_prime : PySem.W.specialIn K (.ref p_Branch_own_prime) "__get__" = some (some (.builtin "member_descriptor.__get__"))) (stk_Branch_own_prime : PySem.W.takesIn K (.ref p_Branch_own_prime) = some true) (sty_Branch_own_prime : PySem.W.typeIn K (.ref p_Branch_own_prime) = some (.type "member_descriptor")) (six_Branch_own_prime : PySem.W.slotIn K p_Branch_own_prime C_Branch = some 0)
    {p_Branch_own_text : Addr} (sat_Branch_own_text : PySem.W.findIn K (.ref C_Branch) "own_text" = some (some (.ref p_Branch_own_text))) (sge_Branch_own_text : PySem.W.specialIn K (.ref p_Branch_own_text) "__get__" = some (some (.builtin "member_descriptor.__get__"))) (stk_Branch_own_text : PySem.W.takesIn K (.ref p_Branch_own_text) = some true) (sty_Branch_own_text : PySem.W.typeIn K (.ref p_Branch_own_text) = some (.type "member_descriptor")) (six_Branch_own_text : PySem.W.slotIn K p_Branch_own_text C_Branch = some 1)
    {p_Branch_own_word : Addr} (sat_Branch_own_word : PySem.W.findIn K (.ref C_Branch) "own_word" = some (some (.ref p_Branch_own_word))) (sge_Branch_own_word : PySem.W.specialIn K (.ref p_Branch_own_word) "__get__" = some (some (.builtin "member_descriptor.__get__"))) (stk_Branch_own_word : PySem.W.takesIn K (.ref p_Branch_own_word) = some true) (sty_Branch_own_word : PySem.W.typeIn K (.ref p_Branch_own_word) = some (.type "member_descriptor")) (six_Branch_own_word : PySem.W.slotIn K p_Branch_own_word C_Branch = some 2)
    (icn : PySem.W.specialIn K (.builtin "object.__class__") "__get__" = some (some (.builtin "getset_descriptor.__get__"))) (ict : PySem.W.takesIn K (.builtin "object.__class__") = some true)
    (ica_Branch : PySem.W.findIn K (.ref C_Branch) "__class__" = some (some (.builtin "object.__class__"))) (icm_Branch : PySem.W.mroIn K C_Branch (.type "object") = some true)
    (ik_Branch_Branch : PySem.W.kitOne K (.ref C_Branch) (.ref C_Branch) = some true)
    {f_is_whole : Addr} {oc_is_whole : Value} {od_is_whole an_is_whole : Option Addr} {sl_is_whole : Array (Option Value)} {kV_is_whole dc_is_whole pm_is_whole ct_is_whole : Value} {cd_is_whole : Value} (a_is_whole : PySem.W.nsIn K mainGlobals "is_whole" = some (some (.ref f_is_whole))) (l_is_whole : K.lookup f_is_whole = some ⟨oc_is_whole, od_is_whole, .func (PySem.W.fnOf "is_whole" "is_whole" (defArgs s_is_whole) (defBody s_is_whole) (defScope s_is_whole) .none kV_is_whole dc_is_whole pm_is_whole an_is_whole cd_is_whole ct_is_whole), sl_is_whole⟩) (c_is_whole : PySem.W.codeIn K cd_is_whole "is_whole" = true) (k_is_whole : PySem.W.keepIn K (.ref f_is_whole) = true)
    {f_ends_as_word : Addr} {oc_ends_as_word : Value} {od_ends_as_word an_ends_as_word : Option Addr} {sl_ends_as_word : Array (Option Value)} {kV_ends_as_word dc_ends_as_word pm_ends_as_word ct_ends_as_word : Value} {cd_ends_as_word : Value} (a_ends_as_word : PySem.W.nsIn K mainGlobals "ends_as_word" = some (some (.ref f_ends_as_word))) (l_ends_as_word : K.lookup f_ends_as_word = some ⟨oc_ends_as_word, od_ends_as_word, .func (PySem.W.fnOf "ends_as_word" "ends_as_word" (defArgs s_ends_as_word) (defBody s_ends_as_word) (defScope s_ends_as_word) .none kV_ends_as_word dc_ends_as_word pm_ends_as_word an_ends_as_word cd_ends_as_word ct_ends_as_word), sl_ends_as_word⟩) (c_ends_as_word : PySem.W.codeIn K cd_ends_as_word "ends_as_word" = true) (k_ends_as_word : PySem.W.keepIn K (.ref f_ends_as_word) = true)
    {f_letters_text : Addr} {oc_letters_text : Value} {od_letters_text an_letters_text : Option Addr} {sl_letters_text : Array (Option Value)} {kV_letters_text dc_letters_text pm_letters_text ct_letters_text : Value} {cd_letters_text : Value} (a_letters_text : PySem.W.nsIn K mainGlobals "letters_text" = some (some (.ref f_letters_text))) (l_letters_text : K.lookup f_letters_text = some ⟨oc_letters_text, od_letters_text, .func (PySem.W.fnOf "letters_text" "letters_text" (defArgs s_letters_text) (defBody s_letters_text) (defScope s_letters_text) .none kV_letters_text dc_letters_text pm_letters_text an_letters_text cd_letters_text ct_letters_text), sl_letters_text⟩) (c_letters_text : PySem.W.codeIn K cd_letters_text "letters_text" = true) (k_letters_text : PySem.W.keepIn K (.ref f_letters_text) = true)
    {f_require_branch : Addr} {oc_require_branch : Value} {od_require_branch an_require_branch : Option Addr} {sl_require_branch : Array (Option Value)} {kV_require_branch dc_require_branch pm_require_branch ct_require_branch : Value} {cd_require_branch : Value} (a_require_branch : PySem.W.nsIn K mainGlobals "require_branch" = some (some (.ref f_require_branch))) (l_require_branch : K.lookup f_require_branch = some ⟨oc_require_branch, od_require_branch, .func (PySem.W.fnOf "require_branch" "require_branch" (defArgs s_require_branch) (defBody s_require_branch) (defScope s_require_branch) .none kV_require_branch dc_require_branch pm_require_branch an_require_branch cd_require_branch ct_require_branch), sl_require_branch⟩) (c_require_branch : PySem.W.codeIn K cd_require_branch "require_branch" = true) (k_require_branch : PySem.W.keepIn K (.ref f_require_branch) = true)
    {f_forms_of : Addr} {oc_forms_of : Value} {od_forms_of an_forms_of : Option Addr} {sl_forms_of : Array (Option Value)} {kV_forms_of dc_forms_of pm_forms_of ct_forms_of : Value} {cd_forms_of : Value} (a_forms_of : PySem.W.nsIn K mainGlobals "forms_of" = some (some (.ref f_forms_of))) (l_forms_of : K.lookup f_forms_of = some ⟨oc_forms_of, od_forms_of, .func (PySem.W.fnOf "forms_of" "forms_of" (defArgs s_forms_of) (defBody s_forms_of) (defScope s_forms_of) .none kV_forms_of dc_forms_of pm_forms_of an_forms_of cd_forms_of ct_forms_of), sl_forms_of⟩) (c_forms_of : PySem.W.codeIn K cd_forms_of "forms_of" = true) (k_forms_of : PySem.W.keepIn K (.ref f_forms_of) = true)
    {f_least_letter : Addr} {oc_least_letter : Value} {od_least_letter an_least_letter : Option Addr} {sl_least_letter : Array (Option Value)} {kV_least_letter dc_least_letter pm_least_letter ct_least_letter : Value} {cd_least_letter : Value} (a_least_letter : PySem.W.nsIn K mainGlobals "least_letter" = some (some (.ref f_least_letter))) (l_least_letter : K.lookup f_least_letter = some ⟨oc_least_letter, od_least_letter, .func (PySem.W.fnOf "least_letter" "least_letter" (defArgs s_least_letter) (defBody s_least_letter) (defScope s_least_letter) .none kV_least_letter dc_least_letter pm_least_letter an_least_letter cd_least_letter ct_least_letter), sl_least_letter⟩) (c_least_letter : PySem.W.codeIn K cd_least_letter "least_letter" = true) (k_least_letter : PySem.W.keepIn K (.ref f_least_letter) = true)
    {f_letters_let : Addr} {oc_letters_let : Value} {od_letters_let an_letters_let : Option Addr} {sl_letters_let : Array (Option Value)} {kV_letters_let dc_letters_let pm_letters_let ct_letters_let : Value} {cd_letters_let : Value} (a_letters_let : PySem.W.nsIn K mainGlobals "letters_let" = some (some (.ref f_letters_let))) (l_letters_let : K.lookup f_letters_let = some ⟨oc_letters_let, od_letters_let, .func (PySem.W.fnOf "letters_let" "letters_let" (defArgs s_letters_let) (defBody s_letters_let) (defScope s_letters_let) .none kV_letters_let dc_letters_let pm_letters_let an_letters_let cd_letters_let ct_letters_let), sl_letters_let⟩) (c_letters_let : PySem.W.codeIn K cd_letters_let "letters_let" = true) (k_letters_let : PySem.W.keepIn K (.ref f_letters_let) = true)
    {f_product_of : Addr} {oc_product_of : Value} {od_product_of an_product_of : Option Addr} {sl_product_of : Array (Option Value)} {kV_product_of dc_product_of pm_product_of ct_product_of : Value} {cd_product_of : Value} (a_product_of : PySem.W.nsIn K mainGlobals "product_of" = some (some (.ref f_product_of))) (l_product_of : K.lookup f_product_of = some ⟨oc_product_of, od_product_of, .func (PySem.W.fnOf "product_of" "product_of" (defArgs s_product_of) (defBody s_product_of) (defScope s_product_of) .none kV_product_of dc_product_of pm_product_of an_product_of cd_product_of ct_product_of), sl_product_of⟩) (c_product_of : PySem.W.codeIn K cd_product_of "product_of" = true) (k_product_of : PySem.W.keepIn K (.ref f_product_of) = true)
    {f__law_dice : Addr} {oc__law_dice : Value} {od__law_dice an__law_dice : Option Addr} {sl__law_dice : Array (Option Value)} {kV__law_dice dc__law_dice pm__law_dice ct__law_dice : Value} {cd__law_dice : Value} (a__law_dice : PySem.W.nsIn K mainGlobals "_law_dice" = some (some (.ref f__law_dice))) (l__law_dice : K.lookup f__law_dice = some ⟨oc__law_dice, od__law_dice, .func (PySem.W.fnOf "_law_dice" "_law_dice" (defArgs s__law_dice) (defBody s__law_dice) (defScope s__law_dice) .none kV__law_dice dc__law_dice pm__law_dice an__law_dice cd__law_dice ct__law_dice), sl__law_dice⟩) (c__law_dice : PySem.W.codeIn K cd__law_dice "_law_dice" = true) (k__law_dice : PySem.W.keepIn K (.ref f__law_dice) = true)
    {f__law_roll : Addr} {oc__law_roll : Value} {od__law_roll an__law_roll : Option Addr} {sl__law_roll : Array (Option Value)} {kV__law_roll dc__law_roll pm__law_roll ct__law_roll : Value} {cd__law_roll : Value} (a__law_roll : PySem.W.nsIn K mainGlobals "_law_roll" = some (some (.ref f__law_roll))) (l__law_roll : K.lookup f__law_roll = some ⟨oc__law_roll, od__law_roll, .func (PySem.W.fnOf "_law_roll" "_law_roll" (defArgs s__law_roll) (defBody s__law_roll) (defScope s__law_roll) .none kV__law_roll dc__law_roll pm__law_roll an__law_roll cd__law_roll ct__law_roll), sl__law_roll⟩) (c__law_roll : PySem.W.codeIn K cd__law_roll "_law_roll" = true) (k__law_roll : PySem.W.keepIn K (.ref f__law_roll) = true)
    {f__law_orders : Addr} {oc__law_orders : Value} {od__law_orders an__law_orders : Option Addr} {sl__law_orders : Array (Option Value)} {kV__law_orders dc__law_orders pm__law_orders ct__law_orders : Value} {cd__law_orders : Value} (a__law_orders : PySem.W.nsIn K mainGlobals "_law_orders" = some (some (.ref f__law_orders))) (l__law_orders : K.lookup f__law_orders = some ⟨oc__law_orders, od__law_orders, .func (PySem.W.fnOf "_law_orders" "_law_orders" (defArgs s__law_orders) (defBody s__law_orders) (defScope s__law_orders) .none kV__law_orders dc__law_orders pm__law_orders an__law_orders cd__law_orders ct__law_orders), sl__law_orders⟩) (c__law_orders : PySem.W.codeIn K cd__law_orders "_law_orders" = true) (k__law_orders : PySem.W.keepIn K (.ref f__law_orders) = true)
    {f__law_second : Addr} {oc__law_second : Value} {od__law_second an__law_second : Option Addr} {sl__law_second : Array (Option Value)} {kV__law_second dc__law_second pm__law_second ct__law_second : Value} {cd__law_second : Value} (a__law_second : PySem.W.nsIn K mainGlobals "_law_second" = some (some (.ref f__law_second))) (l__law_second : K.lookup f__law_second = some ⟨oc__law_second, od__law_second, .func (PySem.W.fnOf "_law_second" "_law_second" (defArgs s__law_second) (defBody s__law_second) (defScope s__law_second) .none kV__law_second dc__law_second pm__law_second an__law_second cd__law_second ct__law_second), sl__law_second⟩) (c__law_second : PySem.W.codeIn K cd__law_second "_law_second" = true) (k__law_second : PySem.W.keepIn K (.ref f__law_second) = true)
    {f__law_wd_all : Addr} {oc__law_wd_all : Value} {od__law_wd_all an__law_wd_all : Option Addr} {sl__law_wd_all : Array (Option Value)} {kV__law_wd_all dc__law_wd_all pm__law_wd_all ct__law_wd_all : Value} {cd__law_wd_all : Value} (a__law_wd_all : PySem.W.nsIn K mainGlobals "_law_wd_all" = some (some (.ref f__law_wd_all))) (l__law_wd_all : K.lookup f__law_wd_all = some ⟨oc__law_wd_all, od__law_wd_all, .func (PySem.W.fnOf "_law_wd_all" "_law_wd_all" (defArgs s__law_wd_all) (defBody s__law_wd_all) (defScope s__law_wd_all) .none kV__law_wd_all dc__law_wd_all pm__law_wd_all an__law_wd_all cd__law_wd_all ct__law_wd_all), sl__law_wd_all⟩) (c__law_wd_all : PySem.W.codeIn K cd__law_wd_all "_law_wd_all" = true) (k__law_wd_all : PySem.W.keepIn K (.ref f__law_wd_all) = true)
    {f__law_kd_raised : Addr} {oc__law_kd_raised : Value} {od__law_kd_raised an__law_kd_raised : Option Addr} {sl__law_kd_raised : Array (Option Value)} {kV__law_kd_raised dc__law_kd_raised pm__law_kd_raised ct__law_kd_raised : Value} {cd__law_kd_raised : Value} (a__law_kd_raised : PySem.W.nsIn K mainGlobals "_law_kd_raised" = some (some (.ref f__law_kd_raised))) (l__law_kd_raised : K.lookup f__law_kd_raised = some ⟨oc__law_kd_raised, od__law_kd_raised, .func (PySem.W.fnOf "_law_kd_raised" "_law_kd_raised" (defArgs s__law_kd_raised) (defBody s__law_kd_raised) (defScope s__law_kd_raised) .none kV__law_kd_raised dc__law_kd_raised pm__law_kd_raised an__law_kd_raised cd__law_kd_raised ct__law_kd_raised), sl__law_kd_raised⟩) (c__law_kd_raised : PySem.W.codeIn K cd__law_kd_raised "_law_kd_raised" = true) (k__law_kd_raised : PySem.W.keepIn K (.ref f__law_kd_raised) = true)
    {f_is_integer : Addr} {oc_is_integer : Value} {od_is_integer an_is_integer : Option Addr} {sl_is_integer : Array (Option Value)} {kV_is_integer dc_is_integer pm_is_integer ct_is_integer : Value} {cd_is_integer : Value} (a_is_integer : PySem.W.nsIn K mainGlobals "is_integer" = some (some (.ref f_is_integer))) (l_is_integer : K.lookup f_is_integer = some ⟨oc_is_integer, od_is_integer, .func (PySem.W.fnOf "is_integer" "is_integer" (defArgs s_is_integer) (defBody s_is_integer) (defScope s_is_integer) .none kV_is_integer dc_is_integer pm_is_integer an_is_integer cd_is_integer ct_is_integer), sl_is_integer⟩) (c_is_integer : PySem.W.codeIn K cd_is_integer "is_integer" = true) (k_is_integer : PySem.W.keepIn K (.ref f_is_integer) = true)
    {f_is_prime : Addr} {oc_is_prime : Value} {od_is_prime an_is_prime : Option Addr} {sl_is_prime : Array (Option Value)} {kV_is_prime dc_is_prime pm_is_prime ct_is_prime : Value} {cd_is_prime : Value} (a_is_prime : PySem.W.nsIn K mainGlobals "is_prime" = some (some (.ref f_is_prime))) (l_is_prime : K.lookup f_is_prime = some ⟨oc_is_prime, od_is_prime, .func (PySem.W.fnOf "is_prime" "is_prime" (defArgs s_is_prime) (defBody s_is_prime) (defScope s_is_prime) .none kV_is_prime dc_is_prime pm_is_prime an_is_prime cd_is_prime ct_is_prime), sl_is_prime⟩) (c_is_prime : PySem.W.codeIn K cd_is_prime "is_prime" = true) (k_is_prime : PySem.W.keepIn K (.ref f_is_prime) = true)
    {f_kind_in : Addr} {oc_kind_in : Value} {od_kind_in an_kind_in : Option Addr} {sl_kind_in : Array (Option Value)} {kV_kind_in dc_kind_in pm_kind_in ct_kind_in : Value} {cd_kind_in : Value} (a_kind_in : PySem.W.nsIn K mainGlobals "kind_in" = some (some (.ref f_kind_in))) (l_kind_in : K.lookup f_kind_in = some ⟨oc_kind_in, od_kind_in, .func (PySem.W.fnOf "kind_in" "kind_in" (defArgs s_kind_in) (defBody s_kind_in) (defScope s_kind_in) .none kV_kind_in dc_kind_in pm_kind_in an_kind_in cd_kind_in ct_kind_in), sl_kind_in⟩) (c_kind_in : PySem.W.codeIn K cd_kind_in "kind_in" = true) (k_kind_in : PySem.W.keepIn K (.ref f_kind_in) = true)
    {f_choices : Addr} {oc_choices : Value} {od_choices an_choices : Option Addr} {sl_choices : Array (Option Value)} {kV_choices dc_choices pm_choices ct_choices : Value} {cd_choices : Value} (a_choices : PySem.W.nsIn K mainGlobals "choices" = some (some (.ref f_choices))) (l_choices : K.lookup f_choices = some ⟨oc_choices, od_choices, .func (PySem.W.fnOf "choices" "choices" (defArgs s_choices) (defBody s_choices) (defScope s_choices) .none kV_choices dc_choices pm_choices an_choices cd_choices ct_choices), sl_choices⟩) (c_choices : PySem.W.codeIn K cd_choices "choices" = true) (k_choices : PySem.W.keepIn K (.ref f_choices) = true)
    {f__law_pick : Addr} {oc__law_pick : Value} {od__law_pick an__law_pick : Option Addr} {sl__law_pick : Array (Option Value)} {kV__law_pick dc__law_pick pm__law_pick ct__law_pick : Value} {cd__law_pick : Value} (a__law_pick : PySem.W.nsIn K mainGlobals "_law_pick" = some (some (.ref f__law_pick))) (l__law_pick : K.lookup f__law_pick = some ⟨oc__law_pick, od__law_pick, .func (PySem.W.fnOf "_law_pick" "_law_pick" (defArgs s__law_pick) (defBody s__law_pick) (defScope s__law_pick) .none kV__law_pick dc__law_pick pm__law_pick an__law_pick cd__law_pick ct__law_pick), sl__law_pick⟩) (c__law_pick : PySem.W.codeIn K cd__law_pick "_law_pick" = true) (k__law_pick : PySem.W.keepIn K (.ref f__law_pick) = true)
    {f__law_letter : Addr} {oc__law_letter : Value} {od__law_letter an__law_letter : Option Addr} {sl__law_letter : Array (Option Value)} {kV__law_letter dc__law_letter pm__law_letter ct__law_letter : Value} {cd__law_letter : Value} (a__law_letter : PySem.W.nsIn K mainGlobals "_law_letter" = some (some (.ref f__law_letter))) (l__law_letter : K.lookup f__law_letter = some ⟨oc__law_letter, od__law_letter, .func (PySem.W.fnOf "_law_letter" "_law_letter" (defArgs s__law_letter) (defBody s__law_letter) (defScope s__law_letter) .none kV__law_letter dc__law_letter pm__law_letter an__law_letter cd__law_letter ct__law_letter), sl__law_letter⟩) (c__law_letter : PySem.W.codeIn K cd__law_letter "_law_letter" = true) (k__law_letter : PySem.W.keepIn K (.ref f__law_letter) = true)
    {f__law_counts : Addr} {oc__law_counts : Value} {od__law_counts an__law_counts : Option Addr} {sl__law_counts : Array (Option Value)} {kV__law_counts dc__law_counts pm__law_counts ct__law_counts : Value} {cd__law_counts : Value} (a__law_counts : PySem.W.nsIn K mainGlobals "_law_counts" = some (some (.ref f__law_counts))) (l__law_counts : K.lookup f__law_counts = some ⟨oc__law_counts, od__law_counts, .func (PySem.W.fnOf "_law_counts" "_law_counts" (defArgs s__law_counts) (defBody s__law_counts) (defScope s__law_counts) .none kV__law_counts dc__law_counts pm__law_counts an__law_counts cd__law_counts ct__law_counts), sl__law_counts⟩) (c__law_counts : PySem.W.codeIn K cd__law_counts "_law_counts" = true) (k__law_counts : PySem.W.keepIn K (.ref f__law_counts) = true)
    {f__law_nears : Addr} {oc__law_nears : Value} {od__law_nears an__law_nears : Option Addr} {sl__law_nears : Array (Option Value)} {kV__law_nears dc__law_nears pm__law_nears ct__law_nears : Value} {cd__law_nears : Value} (a__law_nears : PySem.W.nsIn K mainGlobals "_law_nears" = some (some (.ref f__law_nears))) (l__law_nears : K.lookup f__law_nears = some ⟨oc__law_nears, od__law_nears, .func (PySem.W.fnOf "_law_nears" "_law_nears" (defArgs s__law_nears) (defBody s__law_nears) (defScope s__law_nears) .none kV__law_nears dc__law_nears pm__law_nears an__law_nears cd__law_nears ct__law_nears), sl__law_nears⟩) (c__law_nears : PySem.W.codeIn K cd__law_nears "_law_nears" = true) (k__law_nears : PySem.W.keepIn K (.ref f__law_nears) = true)
    {f_require_prime : Addr} {oc_require_prime : Value} {od_require_prime an_require_prime : Option Addr} {sl_require_prime : Array (Option Value)} {kV_require_prime dc_require_prime pm_require_prime ct_require_prime : Value} {cd_require_prime : Value} (a_require_prime : PySem.W.nsIn K mainGlobals "require_prime" = some (some (.ref f_require_prime))) (l_require_prime : K.lookup f_require_prime = some ⟨oc_require_prime, od_require_prime, .func (PySem.W.fnOf "require_prime" "require_prime" (defArgs s_require_prime) (defBody s_require_prime) (defScope s_require_prime) .none kV_require_prime dc_require_prime pm_require_prime an_require_prime cd_require_prime ct_require_prime), sl_require_prime⟩) (c_require_prime : PySem.W.codeIn K cd_require_prime "require_prime" = true) (k_require_prime : PySem.W.keepIn K (.ref f_require_prime) = true)
    {f_require_count : Addr} {oc_require_count : Value} {od_require_count an_require_count : Option Addr} {sl_require_count : Array (Option Value)} {kV_require_count dc_require_count pm_require_count ct_require_count : Value} {cd_require_count : Value} (a_require_count : PySem.W.nsIn K mainGlobals "require_count" = some (some (.ref f_require_count))) (l_require_count : K.lookup f_require_count = some ⟨oc_require_count, od_require_count, .func (PySem.W.fnOf "require_count" "require_count" (defArgs s_require_count) (defBody s_require_count) (defScope s_require_count) .none kV_require_count dc_require_count pm_require_count an_require_count cd_require_count ct_require_count), sl_require_count⟩) (c_require_count : PySem.W.codeIn K cd_require_count "require_count" = true) (k_require_count : PySem.W.keepIn K (.ref f_require_count) = true)
    {f_is_letter : Addr} {oc_is_letter : Value} {od_is_letter an_is_letter : Option Addr} {sl_is_letter : Array (Option Value)} {kV_is_letter dc_is_letter pm_is_letter ct_is_letter : Value} {cd_is_letter : Value} (a_is_letter : PySem.W.nsIn K mainGlobals "is_letter" = some (some (.ref f_is_letter))) (l_is_letter : K.lookup f_is_letter = some ⟨oc_is_letter, od_is_letter, .func (PySem.W.fnOf "is_letter" "is_letter" (defArgs s_is_letter) (defBody s_is_letter) (defScope s_is_letter) .none kV_is_letter dc_is_letter pm_is_letter an_is_letter cd_is_letter ct_is_letter), sl_is_letter⟩) (c_is_letter : PySem.W.codeIn K cd_is_letter "is_letter" = true) (k_is_letter : PySem.W.keepIn K (.ref f_is_letter) = true)
    {f_kind_of : Addr} {oc_kind_of : Value} {od_kind_of an_kind_of : Option Addr} {sl_kind_of : Array (Option Value)} {kV_kind_of dc_kind_of pm_kind_of ct_kind_of : Value} {cd_kind_of : Value} (a_kind_of : PySem.W.nsIn K mainGlobals "kind_of" = some (some (.ref f_kind_of))) (l_kind_of : K.lookup f_kind_of = some ⟨oc_kind_of, od_kind_of, .func (PySem.W.fnOf "kind_of" "kind_of" (defArgs s_kind_of) (defBody s_kind_of) (defScope s_kind_of) .none kV_kind_of dc_kind_of pm_kind_of an_kind_of cd_kind_of ct_kind_of), sl_kind_of⟩) (c_kind_of : PySem.W.codeIn K cd_kind_of "kind_of" = true) (k_kind_of : PySem.W.keepIn K (.ref f_kind_of) = true)
    {f_many_of_kind : Addr} {oc_many_of_kind : Value} {od_many_of_kind an_many_of_kind : Option Addr} {sl_many_of_kind : Array (Option Value)} {kV_many_of_kind dc_many_of_kind pm_many_of_kind ct_many_of_kind : Value} {cd_many_of_kind : Value} (a_many_of_kind : PySem.W.nsIn K mainGlobals "many_of_kind" = some (some (.ref f_many_of_kind))) (l_many_of_kind : K.lookup f_many_of_kind = some ⟨oc_many_of_kind, od_many_of_kind, .func (PySem.W.fnOf "many_of_kind" "many_of_kind" (defArgs s_many_of_kind) (defBody s_many_of_kind) (defScope s_many_of_kind) .none kV_many_of_kind dc_many_of_kind pm_many_of_kind an_many_of_kind cd_many_of_kind ct_many_of_kind), sl_many_of_kind⟩) (c_many_of_kind : PySem.W.codeIn K cd_many_of_kind "many_of_kind" = true) (k_many_of_kind : PySem.W.keepIn K (.ref f_many_of_kind) = true)
    {f__law_point_drawn : Addr} {oc__law_point_drawn : Value} {od__law_point_drawn an__law_point_drawn : Option Addr} {sl__law_point_drawn : Array (Option Value)} {kV__law_point_drawn dc__law_point_drawn pm__law_point_drawn ct__law_point_drawn : Value} {cd__law_point_drawn : Value} (a__law_point_drawn : PySem.W.nsIn K mainGlobals "_law_point_drawn" = some (some (.ref f__law_point_drawn))) (l__law_point_drawn : K.lookup f__law_point_drawn = some ⟨oc__law_point_drawn, od__law_point_drawn, .func (PySem.W.fnOf "_law_point_drawn" "_law_point_drawn" (defArgs s__law_point_drawn) (defBody s__law_point_drawn) (defScope s__law_point_drawn) .none kV__law_point_drawn dc__law_point_drawn pm__law_point_drawn an__law_point_drawn cd__law_point_drawn ct__law_point_drawn), sl__law_point_drawn⟩) (c__law_point_drawn : PySem.W.codeIn K cd__law_point_drawn "_law_point_drawn" = true) (k__law_point_drawn : PySem.W.keepIn K (.ref f__law_point_drawn) = true)
    {f__law_corner_heights : Addr} {oc__law_corner_heights : Value} {od__law_corner_heights an__law_corner_heights : Option Addr} {sl__law_corner_heights : Array (Option Value)} {kV__law_corner_heights dc__law_corner_heights pm__law_corner_heights ct__law_corner_heights : Value} {cd__law_corner_heights : Value} (a__law_corner_heights : PySem.W.nsIn K mainGlobals "_law_corner_heights" = some (some (.ref f__law_corner_heights))) (l__law_corner_heights : K.lookup f__law_corner_heights = some ⟨oc__law_corner_heights, od__law_corner_heights, .func (PySem.W.fnOf "_law_corner_heights" "_law_corner_heights" (defArgs s__law_corner_heights) (defBody s__law_corner_heights) (defScope s__law_corner_heights) .none kV__law_corner_heights dc__law_corner_heights pm__law_corner_heights an__law_corner_heights cd__law_corner_heights ct__law_corner_heights), sl__law_corner_heights⟩) (c__law_corner_heights : PySem.W.codeIn K cd__law_corner_heights "_law_corner_heights" = true) (k__law_corner_heights : PySem.W.keepIn K (.ref f__law_corner_heights) = true)
    {f_are_letters : Addr} {oc_are_letters : Value} {od_are_letters an_are_letters : Option Addr} {sl_are_letters : Array (Option Value)} {kV_are_letters dc_are_letters pm_are_letters ct_are_letters : Value} {cd_are_letters : Value} (a_are_letters : PySem.W.nsIn K mainGlobals "are_letters" = some (some (.ref f_are_letters))) (l_are_letters : K.lookup f_are_letters = some ⟨oc_are_letters, od_are_letters, .func (PySem.W.fnOf "are_letters" "are_letters" (defArgs s_are_letters) (defBody s_are_letters) (defScope s_are_letters) .none kV_are_letters dc_are_letters pm_are_letters an_are_letters cd_are_letters ct_are_letters), sl_are_letters⟩) (c_are_letters : PySem.W.codeIn K cd_are_letters "are_letters" = true) (k_are_letters : PySem.W.keepIn K (.ref f_are_letters) = true)
    {f__law_word_drawn : Addr} {oc__law_word_drawn : Value} {od__law_word_drawn an__law_word_drawn : Option Addr} {sl__law_word_drawn : Array (Option Value)} {kV__law_word_drawn dc__law_word_drawn pm__law_word_drawn ct__law_word_drawn : Value} {cd__law_word_drawn : Value} (a__law_word_drawn : PySem.W.nsIn K mainGlobals "_law_word_drawn" = some (some (.ref f__law_word_drawn))) (l__law_word_drawn : K.lookup f__law_word_drawn = some ⟨oc__law_word_drawn, od__law_word_drawn, .func (PySem.W.fnOf "_law_word_drawn" "_law_word_drawn" (defArgs s__law_word_drawn) (defBody s__law_word_drawn) (defScope s__law_word_drawn) .none kV__law_word_drawn dc__law_word_drawn pm__law_word_drawn an__law_word_drawn cd__law_word_drawn ct__law_word_drawn), sl__law_word_drawn⟩) (c__law_word_drawn : PySem.W.codeIn K cd__law_word_drawn "_law_word_drawn" = true) (k__law_word_drawn : PySem.W.keepIn K (.ref f__law_word_drawn) = true)
    {f__law_generators : Addr} {oc__law_generators : Value} {od__law_generators an__law_generators : Option Addr} {sl__law_generators : Array (Option Value)} {kV__law_generators dc__law_generators pm__law_generators ct__law_generators : Value} {cd__law_generators : Value} (a__law_generators : PySem.W.nsIn K mainGlobals "_law_generators" = some (some (.ref f__law_generators))) (l__law_generators : K.lookup f__law_generators = some ⟨oc__law_generators, od__law_generators, .func (PySem.W.fnOf "_law_generators" "_law_generators" (defArgs s__law_generators) (defBody s__law_generators) (defScope s__law_generators) .none kV__law_generators dc__law_generators pm__law_generators an__law_generators cd__law_generators ct__law_generators), sl__law_generators⟩) (c__law_generators : PySem.W.codeIn K cd__law_generators "_law_generators" = true) (k__law_generators : PySem.W.keepIn K (.ref f__law_generators) = true)
    {f__law_counted : Addr} {oc__law_counted : Value} {od__law_counted an__law_counted : Option Addr} {sl__law_counted : Array (Option Value)} {kV__law_counted dc__law_counted pm__law_counted ct__law_counted : Value} {cd__law_counted : Value} (a__law_counted : PySem.W.nsIn K mainGlobals "_law_counted" = some (some (.ref f__law_counted))) (l__law_counted : K.lookup f__law_counted = some ⟨oc__law_counted, od__law_counted, .func (PySem.W.fnOf "_law_counted" "_law_counted" (defArgs s__law_counted) (defBody s__law_counted) (defScope s__law_counted) .none kV__law_counted dc__law_counted pm__law_counted an__law_counted cd__law_counted ct__law_counted), sl__law_counted⟩) (c__law_counted : PySem.W.codeIn K cd__law_counted "_law_counted" = true) (k__law_counted : PySem.W.keepIn K (.ref f__law_counted) = true)
    {f_Branch_init : Addr} {oc_Branch_init : Value} {od_Branch_init an_Branch_init : Option Addr} {sl_Branch_init : Array (Option Value)} {kV_Branch_init dc_Branch_init pm_Branch_init ct_Branch_init : Value} {cd_Branch_init : Value} (fi_Branch_init : PySem.W.findIn K (.ref C_Branch) "__init__" = some (some (.ref f_Branch_init))) (fn_Branch_init : PySem.W.isFn K (.ref f_Branch_init) = true) (l_Branch_init : K.lookup f_Branch_init = some ⟨oc_Branch_init, od_Branch_init, .func (PySem.W.fnOf "__init__" "Branch.__init__" (defArgs s_Branch_init) (defBody s_Branch_init) (defScope s_Branch_init) .none kV_Branch_init dc_Branch_init pm_Branch_init an_Branch_init cd_Branch_init ct_Branch_init), sl_Branch_init⟩) (c_Branch_init : PySem.W.codeIn K cd_Branch_init "Branch.__init__" = true) (k_Branch_init : PySem.W.keepIn K (.ref f_Branch_init) = true)
    (mk_Branch : PySem.W.makesIn K C_Branch = true) (kc_Branch : PySem.W.keepIn K (.ref C_Branch) = true)
    {f_is_kind_word : Addr} {oc_is_kind_word : Value} {od_is_kind_word an_is_kind_word : Option Addr} {sl_is_kind_word : Array (Option Value)} {kV_is_kind_word dc_is_kind_word pm_is_kind_word ct_is_kind_word : Value} {cd_is_kind_word : Value} (a_is_kind_word : PySem.W.nsIn K mainGlobals "is_kind_word" = some (some (.ref f_is_kind_word))) (l_is_kind_word : K.lookup f_is_kind_word = some ⟨oc_is_kind_word, od_is_kind_word, .func (PySem.W.fnOf "is_kind_word" "is_kind_word" (defArgs s_is_kind_word) (defBody s_is_kind_word) (defScope s_is_kind_word) .none kV_is_kind_word dc_is_kind_word pm_is_kind_word an_is_kind_word cd_is_kind_word ct_is_kind_word), sl_is_kind_word⟩) (c_is_kind_word : PySem.W.codeIn K cd_is_kind_word "is_kind_word" = true) (k_is_kind_word : PySem.W.keepIn K (.ref f_is_kind_word) = true)
    {f__law_wd_pair : Addr} {oc__law_wd_pair : Value} {od__law_wd_pair an__law_wd_pair : Option Addr} {sl__law_wd_pair : Array (Option Value)} {kV__law_wd_pair dc__law_wd_pair pm__law_wd_pair ct__law_wd_pair : Value} {cd__law_wd_pair : Value} (a__law_wd_pair : PySem.W.nsIn K mainGlobals "_law_wd_pair" = some (some (.ref f__law_wd_pair))) (l__law_wd_pair : K.lookup f__law_wd_pair = some ⟨oc__law_wd_pair, od__law_wd_pair, .func (PySem.W.fnOf "_law_wd_pair" "_law_wd_pair" (defArgs s__law_wd_pair) (defBody s__law_wd_pair) (defScope s__law_wd_pair) .none kV__law_wd_pair dc__law_wd_pair pm__law_wd_pair an__law_wd_pair cd__law_wd_pair ct__law_wd_pair), sl__law_wd_pair⟩) (c__law_wd_pair : PySem.W.codeIn K cd__law_wd_pair "_law_wd_pair" = true) (k__law_wd_pair : PySem.W.keepIn K (.ref f__law_wd_pair) = true)
    {f_require_asked : Addr} {oc_require_asked : Value} {od_require_asked an_require_asked : Option Addr} {sl_require_asked : Array (Option Value)} {kV_require_asked dc_require_asked pm_require_asked ct_require_asked : Value} {cd_require_asked : Value} (a_require_asked : PySem.W.nsIn K mainGlobals "require_asked" = some (some (.ref f_require_asked))) (l_require_asked : K.lookup f_require_asked = some ⟨oc_require_asked, od_require_asked, .func (PySem.W.fnOf "require_asked" "require_asked" (defArgs s_require_asked) (defBody s_require_asked) (defScope s_require_asked) .none kV_require_asked dc_require_asked pm_require_asked an_require_asked cd_require_asked ct_require_asked), sl_require_asked⟩) (c_require_asked : PySem.W.codeIn K cd_require_asked "require_asked" = true) (k_require_asked : PySem.W.keepIn K (.ref f_require_asked) = true)
    {f_count_of_kind : Addr} {oc_count_of_kind : Value} {od_count_of_kind an_count_of_kind : Option Addr} {sl_count_of_kind : Array (Option Value)} {kV_count_of_kind dc_count_of_kind pm_count_of_kind ct_count_of_kind : Value} {cd_count_of_kind : Value} (a_count_of_kind : PySem.W.nsIn K mainGlobals "count_of_kind" = some (some (.ref f_count_of_kind))) (l_count_of_kind : K.lookup f_count_of_kind = some ⟨oc_count_of_kind, od_count_of_kind, .func (PySem.W.fnOf "count_of_kind" "count_of_kind" (defArgs s_count_of_kind) (defBody s_count_of_kind) (defScope s_count_of_kind) .none kV_count_of_kind dc_count_of_kind pm_count_of_kind an_count_of_kind cd_count_of_kind ct_count_of_kind), sl_count_of_kind⟩) (c_count_of_kind : PySem.W.codeIn K cd_count_of_kind "count_of_kind" = true) (k_count_of_kind : PySem.W.keepIn K (.ref f_count_of_kind) = true)
    {f_each_of_kind : Addr} {oc_each_of_kind : Value} {od_each_of_kind an_each_of_kind : Option Addr} {sl_each_of_kind : Array (Option Value)} {kV_each_of_kind dc_each_of_kind pm_each_of_kind ct_each_of_kind : Value} {cd_each_of_kind : Value} (a_each_of_kind : PySem.W.nsIn K mainGlobals "each_of_kind" = some (some (.ref f_each_of_kind))) (l_each_of_kind : K.lookup f_each_of_kind = some ⟨oc_each_of_kind, od_each_of_kind, .func (PySem.W.fnOf "each_of_kind" "each_of_kind" (defArgs s_each_of_kind) (defBody s_each_of_kind) (defScope s_each_of_kind) .none kV_each_of_kind dc_each_of_kind pm_each_of_kind an_each_of_kind cd_each_of_kind ct_each_of_kind), sl_each_of_kind⟩) (c_each_of_kind : PySem.W.codeIn K cd_each_of_kind "each_of_kind" = true) (k_each_of_kind : PySem.W.keepIn K (.ref f_each_of_kind) = true)
    {f__law_is_counted : Addr} {oc__law_is_counted : Value} {od__law_is_counted an__law_is_counted : Option Addr} {sl__law_is_counted : Array (Option Value)} {kV__law_is_counted dc__law_is_counted pm__law_is_counted ct__law_is_counted : Value} {cd__law_is_counted : Value} (a__law_is_counted : PySem.W.nsIn K mainGlobals "_law_is_counted" = some (some (.ref f__law_is_counted))) (l__law_is_counted : K.lookup f__law_is_counted = some ⟨oc__law_is_counted, od__law_is_counted, .func (PySem.W.fnOf "_law_is_counted" "_law_is_counted" (defArgs s__law_is_counted) (defBody s__law_is_counted) (defScope s__law_is_counted) .none kV__law_is_counted dc__law_is_counted pm__law_is_counted an__law_is_counted cd__law_is_counted ct__law_is_counted), sl__law_is_counted⟩) (c__law_is_counted : PySem.W.codeIn K cd__law_is_counted "_law_is_counted" = true) (k__law_is_counted : PySem.W.keepIn K (.ref f__law_is_counted) = true)
    {f__law_is_listed : Addr} {oc__law_is_listed : Value} {od__law_is_listed an__law_is_listed : Option Addr} {sl__law_is_listed : Array (Option Value)} {kV__law_is_listed dc__law_is_listed pm__law_is_listed ct__law_is_listed : Value} {cd__law_is_listed : Value} (a__law_is_listed : PySem.W.nsIn K mainGlobals "_law_is_listed" = some (some (.ref f__law_is_listed))) (l__law_is_listed : K.lookup f__law_is_listed = some ⟨oc__law_is_listed, od__law_is_listed, .func (PySem.W.fnOf "_law_is_listed" "_law_is_listed" (defArgs s__law_is_listed) (defBody s__law_is_listed) (defScope s__law_is_listed) .none kV__law_is_listed dc__law_is_listed pm__law_is_listed an__law_is_listed cd__law_is_listed ct__law_is_listed), sl__law_is_listed⟩) (c__law_is_listed : PySem.W.codeIn K cd__law_is_listed "_law_is_listed" = true) (k__law_is_listed : PySem.W.keepIn K (.ref f__law_is_listed) = true)
    {f_law : Addr} {oc_law : Value} {od_law an_law : Option Addr} {sl_law : Array (Option Value)} {kV_law dc_law pm_law ct_law : Value} {cd_law : Value} (a_law : PySem.W.nsIn K mainGlobals "law" = some (some (.ref f_law))) (l_law : K.lookup f_law = some ⟨oc_law, od_law, .func (PySem.W.fnOf "law" "law" (defArgs s_law) (defBody s_law) (defScope s_law) .none kV_law dc_law pm_law an_law cd_law ct_law), sl_law⟩) (c_law : PySem.W.codeIn K cd_law "law" = true) (k_law : PySem.W.keepIn K (.ref f_law) = true) :
    ∃ fd : FuncData, (∀ (s : Shared) (v : Value), BindsTo s fd ⟨[v], []⟩ [("_law_script", v)]) ∧ ∀ base : Heap, K.In base → base.Ns mainGlobals mg → FnOk P w K mg base (L2.CX P w) 13 fa fd ["_law_script"] (LSp K sp_law) := by
  have q_Branch : SClsN K "Branch" := scls_mk a_Branch pg_Branch ic_Branch po_Branch sa_Branch
  have T : Txt P K mg := ⟨trivial, PySem.W.mg_none_of X G n_abs, PySem.W.mg_none_of X G n_all, PySem.W.mg_none_of X G n_bool, PySem.W.mg_none_of X G n_enumerate, PySem.W.mg_none_of X G n_int, PySem.W.mg_none_of X G n_isinstance, PySem.W.mg_none_of X G n_len, PySem.W.mg_none_of X G n_list, PySem.W.mg_none_of X G n_max, PySem.W.mg_none_of X G n_min, PySem.W.mg_none_of X G n_range, PySem.W.mg_none_of X G n_sorted, PySem.W.mg_none_of X G n_str, PySem.W.mg_none_of X G n_tuple, PySem.W.mg_none_of X G n_zip, ⟨_, PySem.W.mg_of X G g_BLANK⟩, ⟨_, PySem.W.mg_of X G g_FIRST⟩, ⟨_, PySem.W.mg_of X G g_FIXED⟩, ⟨_, PySem.W.mg_of X G g_FREE⟩, ⟨_, PySem.W.mg_of X G g_GREAT⟩, ⟨_, PySem.W.mg_of X G g_LIVE⟩, ⟨_, PySem.W.mg_of X G g_MAX_LETTERS_kinds⟩, ⟨_, PySem.W.mg_of X G g_MAX_LETTERS_words⟩, ⟨_, PySem.W.mg_of X G g_MAX_LISTED⟩, ⟨_, PySem.W.mg_of X G g_ORIGIN_TEXT⟩, tupAt_mk (its := [.int (2) tk_PRIMES_0, .int (3) tk_PRIMES_1, .int (5) tk_PRIMES_2, .int (7) tk_PRIMES_3, .int (11) tk_PRIMES_4, .int (13) tk_PRIMES_5, .int (17) tk_PRIMES_6, .int (19) tk_PRIMES_7, .int (23) tk_PRIMES_8, .int (29) tk_PRIMES_9, .int (31) tk_PRIMES_10]) X G g_PRIMES l_PRIMES (.cons ⟨_, rfl⟩ (.cons ⟨_, rfl⟩ (.cons ⟨_, rfl⟩ (.cons ⟨_, rfl⟩ (.cons ⟨_, rfl⟩ (.cons ⟨_, rfl⟩ (.cons ⟨_, rfl⟩ (.cons ⟨_, rfl⟩ (.cons ⟨_, rfl⟩ (.cons ⟨_, rfl⟩ (.cons ⟨_, rfl⟩ .nil))))))))))) (by rw [sizeLine_eq]; exact Nat.le_of_ble_eq_true rfl), ⟨_, PySem.W.mg_of X G g_TURN⟩, ⟨_, PySem.W.mg_of X G g_TURN_TEXT⟩, slot_mk q_Branch a_Branch sat_Branch_own_prime sge_Branch_own_prime stk_Branch_own_prime sty_Branch_own_prime six_Branch_own_prime (by decide), slot_mk q_Branch a_Branch sat_Branch_own_text sge_Branch_own_text stk_Branch_own_text sty_Branch_own_text six_Branch_own_text (by decide), slot_mk q_Branch a_Branch sat_Branch_own_word sge_Branch_own_word stk_Branch_own_word sty_Branch_own_word six_Branch_own_word (by decide), isi_mk q_Branch a_Branch a_Branch ica_Branch icn ict icm_Branch ik_Branch_Branch, cls_mk X G a_Branch⟩
  have e := hfa.symm.trans (PySem.W.mg_of X G a_law)
  cases e
  refine ⟨PySem.W.fnOf "law" "law" (defArgs s_law) (defBody s_law) (defScope s_law) .none kV_law dc_law pm_law an_law cd_law ct_law, fun s v => .of_eq rfl, fun base _ _ => ?_⟩
  exact ok_at (all_law (P := P) (w := w) (base := base) T (defAt_mk X G a_is_whole l_is_whole c_is_whole k_is_whole) (defAt_mk X G a_ends_as_word l_ends_as_word c_ends_as_word k_ends_as_word) (defAt_mk X G a_letters_text l_letters_text c_letters_text k_letters_text) (defAt_mk X G a_require_branch l_require_branch c_require_branch k_require_branch) (defAt_mk X G a_forms_of l_forms_of c_forms_of k_forms_of) (defAt_mk X G a_least_letter l_least_letter c_least_letter k_least_letter) (defAt_mk X G a_letters_let l_letters_let c_letters_let k_letters_let) (defAt_mk X G a_product_of l_product_of c_product_of k_product_of) (defAt_mk X G a__law_dice l__law_dice c__law_dice k__law_dice) (defAt_mk X G a__law_roll l__law_roll c__law_roll k__law_roll) (defAt_mk X G a__law_orders l__law_orders c__law_orders k__law_orders) (defAt_mk X G a__law_second l__law_second c__law_second k__law_second) (defAt_mk X G a__law_wd_all l__law_wd_all c__law_wd_all k__law_wd_all) (defAt_mk X G a__law_kd_raised l__law_kd_raised c__law_kd_raised k__law_kd_raised) (defAt_mk X G a_is_integer l_is_integer c_is_integer k_is_integer) (defAt_mk X G a_is_prime l_is_prime c_is_prime k_is_prime) (defAt_mk X G a_kind_in l_kind_in c_kind_in k_kind_in) (defAt_mk X G a_choices l_choices c_choices k_choices) (defAt_mk X G a__law_pick l__law_pick c__law_pick k__law_pick) (defAt_mk X G a__law_letter l__law_letter c__law_letter k__law_letter) (defAt_mk X G a__law_counts l__law_counts c__law_counts k__law_counts) (defAt_mk X G a__law_nears l__law_nears c__law_nears k__law_nears) (defAt_mk X G a_require_prime l_require_prime c_require_prime k_require_prime) (defAt_mk X G a_require_count l_require_count c_require_count k_require_count) (defAt_mk X G a_is_letter l_is_letter c_is_letter k_is_letter) (defAt_mk X G a_kind_of l_kind_of c_kind_of k_kind_of) (defAt_mk X G a_many_of_kind l_many_of_kind c_many_of_kind k_many_of_kind) (defAt_mk X G a__law_point_drawn l__law_point_drawn c__law_point_drawn k__law_point_drawn) (defAt_mk X G a__law_corner_heights l__law_corner_heights c__law_corner_heights k__law_corner_heights) (defAt_mk X G a_are_letters l_are_letters c_are_letters k_are_letters) (defAt_mk X G a__law_word_drawn l__law_word_drawn c__law_word_drawn k__law_word_drawn) (defAt_mk X G a__law_generators l__law_generators c__law_generators k__law_generators) (defAt_mk X G a__law_counted l__law_counted c__law_counted k__law_counted) (methAt_mk a_Branch fi_Branch_init fn_Branch_init l_Branch_init c_Branch_init k_Branch_init) (make_mk X G a_Branch mk_Branch kc_Branch) (defAt_mk X G a_is_kind_word l_is_kind_word c_is_kind_word k_is_kind_word) (defAt_mk X G a__law_wd_pair l__law_wd_pair c__law_wd_pair k__law_wd_pair) (defAt_mk X G a_require_asked l_require_asked c_require_asked k_require_asked) (defAt_mk X G a_count_of_kind l_count_of_kind c_count_of_kind k_count_of_kind) (defAt_mk X G a_each_of_kind l_each_of_kind c_each_of_kind k_each_of_kind) (defAt_mk X G a__law_is_counted l__law_is_counted c__law_is_counted k__law_is_counted) (defAt_mk X G a__law_is_listed l__law_is_listed c__law_is_listed k__law_is_listed) (defAt_mk X G a_law l_law c_law k_law)) (PySem.W.mg_of X G a_law) l_law
end K47
def PySem.W.Fast.tw7408269207301823308 : Nat := 0
def PySem.W.Fast.tw5357319092729745532 : Nat := 0
def PySem.W.Fast.tw8827371313311389913 : Nat := 0
def PySem.W.Fast.tw13737443617393319900 : Nat := 0
def PySem.W.Fast.tw10199950714795420859 : Nat := 0
def PySem.W.Fast.tw11170310111414466390 : Nat := 0
def PySem.W.Fast.tw5449920064592652498 : Nat := 0
def PySem.W.Fast.tw12320350493707879478 : Nat := 0
def PySem.W.Fast.tw12277799012707556008 : Nat := 0
def PySem.W.Fast.tw3487229446644760739 : Nat := 0
def PySem.W.Fast.tw11255910468195764919 : Nat := 0
def PySem.W.Fast.tw16139662614649294112 : Nat := 0
def PySem.W.Fast.tw18193269489916413488 : Nat := 0
def PySem.W.Fast.tw9227568416394523411 : Nat := 0
def PySem.W.Fast.tw2836584227291133772 : Nat := 0
def PySem.W.Fast.tw17037186103649832407 : Nat := 0
def PySem.W.Fast.tw6326221675943947847 : Nat := 0
def PySem.W.Fast.tw17719235836739638017 : Nat := 0
def PySem.W.Fast.tw16342629472005453621 : Nat := 0
open PySem PySem.W PyProof.Rows in
set_option maxRecDepth 100000 in
set_option maxHeartbeats 0 in
theorem PySem.Challenge.cw_touchtowers_k47_whole_words_of_a_kind_holds : PySem.Challenge.rw_touchtowers_k47_whole_words_of_a_kind.Holds := by
  w_on; o_law; k_head; (case hw => w_witness2)
  k_fill
  refine L3.walk3 (l := PySem.Challenge.rw_touchtowers_k47_whole_words_of_a_kind) (k := 13) (x := "_law_script") (sp := K47.sp_law) rfl (by decide) rfl ⟨rfl, by decide, by decide⟩ (fun w h Y => PySem.W.kIn_of Y) ?F K47.law_holds
  case F =>
    intro w mg fa h KX G hmg
    refine' K47.all_mk KX G hmg ?n_abs ?n_all ?n_bool ?n_enumerate ?n_int ?n_isinstance ?n_len ?n_list ?n_max ?n_min ?n_range ?n_sorted ?n_str ?n_tuple ?n_zip ?g_BLANK ?g_FIRST ?g_FIXED ?g_FREE ?g_GREAT ?g_LIVE ?g_MAX_LETTERS_kinds ?g_MAX_LETTERS_words ?g_MAX_LISTED ?g_ORIGIN_TEXT ?g_PRIMES ?l_PRIMES ?g_TURN ?g_TURN_TEXT ?a_Branch ?pg_Branch ?ic_Branch ?po_Branch ?sa_Branch ?sat_Branch_own_prime ?sge_Branch_own_prime ?stk_Branch_own_prime ?sty_Branch_own_prime ?six_Branch_own_prime ?sat_Branch_own_text ?sge_Branch_own_text ?stk_Branch_own_text ?sty_Branch_own_text ?six_Branch_own_text ?sat_Branch_own_word ?sge_Branch_own_word ?stk_Branch_own_word ?sty_Branch_own_word ?six_Branch_own_word ?icn ?ict ?ica_Branch ?icm_Branch ?ik_Branch_Branch ?a_is_whole ?l_is_whole ?c_is_whole ?k_is_whole ?a_ends_as_word ?l_ends_as_word ?c_ends_as_word ?k_ends_as_word ?a_letters_text ?l_letters_text ?c_letters_text ?k_letters_text ?a_require_branch ?l_require_branch ?c_require_branch ?k_require_branch ?a_forms_of ?l_forms_of ?c_forms_of ?k_forms_of ?a_least_letter ?l_least_letter ?c_least_letter ?k_least_letter ?a_letters_let ?l_letters_let ?c_letters_let ?k_letters_let ?a_product_of ?l_product_of ?c_product_of ?k_product_of ?a__law_dice ?l__law_dice ?c__law_dice ?k__law_dice ?a__law_roll ?l__law_roll ?c__law_roll ?k__law_roll ?a__law_orders ?l__law_orders ?c__law_orders ?k__law_orders ?a__law_second ?l__law_second ?c__law_second ?k__law_second ?a__law_wd_all ?l__law_wd_all ?c__law_wd_all ?k__law_wd_all ?a__law_kd_raised ?l__law_kd_raised ?c__law_kd_raised ?k__law_kd_raised ?a_is_integer ?l_is_integer ?c_is_integer ?k_is_integer ?a_is_prime ?l_is_prime ?c_is_prime ?k_is_prime ?a_kind_in ?l_kind_in ?c_kind_in ?k_kind_in ?a_choices ?l_choices ?c_choices ?k_choices ?a__law_pick ?l__law_pick ?c__law_pick ?k__law_pick ?a__law_letter ?l__law_letter ?c__law_letter ?k__law_letter ?a__law_counts ?l__law_counts ?c__law_counts ?k__law_counts ?a__law_nears ?l__law_nears ?c__law_nears ?k__law_nears ?a_require_prime ?l_require_prime ?c_require_prime ?k_require_prime ?a_require_count ?l_require_count ?c_require_count ?k_require_count ?a_is_letter ?l_is_letter ?c_is_letter ?k_is_letter ?a_kind_of ?l_kind_of ?c_kind_of ?k_kind_of ?a_many_of_kind ?l_many_of_kind ?c_many_of_kind ?k_many_of_kind ?a__law_point_drawn ?l__law_point_drawn ?c__law_point_drawn ?k__law_point_drawn ?a__law_corner_heights ?l__law_corner_heights ?c__law_corner_heights ?k__law_corner_heights ?a_are_letters ?l_are_letters ?c_are_letters ?k_are_letters ?a__law_word_drawn ?l__law_word_drawn ?c__law_word_drawn ?k__law_word_drawn ?a__law_generators ?l__law_generators ?c__law_generators ?k__law_generators ?a__law_counted ?l__law_counted ?c__law_counted ?k__law_counted ?fi_Branch_init ?fn_Branch_init ?l_Branch_init ?c_Branch_init ?k_Branch_init ?mk_Branch ?kc_Branch ?a_is_kind_word ?l_is_kind_word ?c_is_kind_word ?k_is_kind_word ?a__law_wd_pair ?l__law_wd_pair ?c__law_wd_pair ?k__law_wd_pair ?a_require_asked ?l_require_asked ?c_require_asked ?k_require_asked ?a_count_of_kind ?l_count_of_kind ?c_count_of_kind ?k_count_of_kind ?a_each_of_kind ?l_each_of_kind ?c_each_of_kind ?k_each_of_kind ?a__law_is_counted ?l__law_is_counted ?c__law_is_counted ?k__law_is_counted ?a__law_is_listed ?l__law_is_listed ?c__law_is_listed ?k__law_is_listed ?a_law ?l_law ?c_law ?k_law
    (case n_abs => k_is)
    (case n_all => k_is)
    (case n_bool => k_is)
    (case n_enumerate => k_is)
    (case n_int => k_is)
    (case n_isinstance => k_is)
    (case n_len => k_is)
    (case n_list => k_is)
    (case n_max => k_is)
    (case n_min => k_is)
    (case n_range => k_is)
    (case n_sorted => k_is)
    (case n_str => k_is)
    (case n_tuple => k_is)
    (case n_zip => k_is)
    (case g_BLANK => k_is)
    (case g_FIRST => k_is)
    (case g_FIXED => k_is)
    (case g_FREE => k_is)
    (case g_GREAT => k_is)
    (case g_LIVE => k_is)
    (case g_MAX_LETTERS_kinds => k_is)
    (case g_MAX_LETTERS_words => k_is)
    (case g_MAX_LISTED => k_is)
    (case g_ORIGIN_TEXT => k_is)
    (case g_PRIMES => k_is)
    (case l_PRIMES => k_is)
    (case g_TURN => k_is)
    (case g_TURN_TEXT => k_is)
    (case a_Branch => k_is)
    (case pg_Branch => k_is)
    (case ic_Branch => k_is)
    (case po_Branch => k_is)
    (case sa_Branch => k_is)
    (case sat_Branch_own_prime => k_is)
    (case sge_Branch_own_prime => k_is)
    (case stk_Branch_own_prime => k_is)
    (case sty_Branch_own_prime => k_is)
    (case six_Branch_own_prime => k_is)
    (case sat_Branch_own_text => k_is)
    (case sge_Branch_own_text => k_is)
    (case stk_Branch_own_text => k_is)
    (case sty_Branch_own_text => k_is)
    (case six_Branch_own_text => k_is)
    (case sat_Branch_own_word => k_is)
    (case sge_Branch_own_word => k_is)
    (case stk_Branch_own_word => k_is)
    (case sty_Branch_own_word => k_is)
    (case six_Branch_own_word => k_is)
    (case icn => k_is)
    (case ict => k_is)
    (case ica_Branch => k_is)
    (case icm_Branch => k_is)
    (case ik_Branch_Branch => first | rfl | decide +kernel | k_is)
    (case a_is_whole => k_is)
    (case l_is_whole => k_is)
    (case c_is_whole => k_is)
    (case k_is_whole => k_is)
    (case a_ends_as_word => k_is)
    (case l_ends_as_word => k_is)
    (case c_ends_as_word => k_is)
    (case k_ends_as_word => k_is)
    (case a_letters_text => k_is)
    (case l_letters_text => k_is)
    (case c_letters_text => k_is)
    (case k_letters_text => k_is)
    (case a_require_branch => k_is)
    (case l_require_branch => k_is)
    (case c_require_branch => k_is)
    (case k_require_branch => k_is)
    (case a_forms_of => k_is)
    (case l_forms_of => k_is)
    (case c_forms_of => k_is)
    (case k_forms_of => k_is)
    (case a_least_letter => k_is)
    (case l_least_letter => k_is)
    (case c_least_letter => k_is)
    (case k_least_letter => k_is)
    (case a_letters_let => k_is)
    (case l_letters_let => k_is)
    (case c_letters_let => k_is)
    (case k_letters_let => k_is)
    (case a_product_of => k_is)
    (case l_product_of => k_is)
    (case c_product_of => k_is)
    (case k_product_of => k_is)
    (case a__law_dice => k_is)
    (case l__law_dice => k_is)
    (case c__law_dice => k_is)
    (case k__law_dice => k_is)
    (case a__law_roll => k_is)
    (case l__law_roll => k_is)
    (case c__law_roll => k_is)
    (case k__law_roll => k_is)
    (case a__law_orders => k_is)
    (case l__law_orders => k_is)
    (case c__law_orders => k_is)
    (case k__law_orders => k_is)
    (case a__law_second => k_is)
    (case l__law_second => k_is)
    (case c__law_second => k_is)
    (case k__law_second => k_is)
    (case a__law_wd_all => k_is)
    (case l__law_wd_all => k_is)
    (case c__law_wd_all => k_is)
    (case k__law_wd_all => k_is)
    (case a__law_kd_raised => k_is)
    (case l__law_kd_raised => k_is)
    (case c__law_kd_raised => k_is)
    (case k__law_kd_raised => k_is)
    (case a_is_integer => k_is)
    (case l_is_integer => k_is)
    (case c_is_integer => k_is)
    (case k_is_integer => k_is)
    (case a_is_prime => k_is)
    (case l_is_prime => k_is)
    (case c_is_prime => k_is)
    (case k_is_prime => k_is)
    (case a_kind_in => k_is)
    (case l_kind_in => k_is)
    (case c_kind_in => k_is)
    (case k_kind_in => k_is)
    (case a_choices => k_is)
    (case l_choices => k_is)
    (case c_choices => k_is)
    (case k_choices => k_is)
    (case a__law_pick => k_is)
    (case l__law_pick => k_is)
    (case c__law_pick => k_is)
    (case k__law_pick => k_is)
    (case a__law_letter => k_is)
    (case l__law_letter => k_is)
    (case c__law_letter => k_is)
    (case k__law_letter => k_is)
    (case a__law_counts => k_is)
    (case l__law_counts => k_is)
    (case c__law_counts => k_is)
    (case k__law_counts => k_is)
    (case a__law_nears => k_is)
    (case l__law_nears => k_is)
    (case c__law_nears => k_is)
    (case k__law_nears => k_is)
    (case a_require_prime => k_is)
    (case l_require_prime => k_is)
    (case c_require_prime => k_is)
    (case k_require_prime => k_is)
    (case a_require_count => k_is)
    (case l_require_count => k_is)
    (case c_require_count => k_is)
    (case k_require_count => k_is)
    (case a_is_letter => k_is)
    (case l_is_letter => k_is)
    (case c_is_letter => k_is)
    (case k_is_letter => k_is)
    (case a_kind_of => k_is)
    (case l_kind_of => k_is)
    (case c_kind_of => k_is)
    (case k_kind_of => k_is)
    (case a_many_of_kind => k_is)
    (case l_many_of_kind => k_is)
    (case c_many_of_kind => k_is)
    (case k_many_of_kind => k_is)
    (case a__law_point_drawn => k_is)
    (case l__law_point_drawn => k_is)
    (case c__law_point_drawn => k_is)
    (case k__law_point_drawn => k_is)
    (case a__law_corner_heights => k_is)
    (case l__law_corner_heights => k_is)
    (case c__law_corner_heights => k_is)
    (case k__law_corner_heights => k_is)
    (case a_are_letters => k_is)
    (case l_are_letters => k_is)
    (case c_are_letters => k_is)
    (case k_are_letters => k_is)
    (case a__law_word_drawn => k_is)
    (case l__law_word_drawn => k_is)
    (case c__law_word_drawn => k_is)
    (case k__law_word_drawn => k_is)
    (case a__law_generators => k_is)
    (case l__law_generators => k_is)
    (case c__law_generators => k_is)
    (case k__law_generators => k_is)
    (case a__law_counted => k_is)
    (case l__law_counted => k_is)
    (case c__law_counted => k_is)
    (case k__law_counted => k_is)
    (case fi_Branch_init => k_is)
    (case fn_Branch_init => k_is)
    (case l_Branch_init => k_is)
    (case c_Branch_init => k_is)
    (case k_Branch_init => k_is)
    (case mk_Branch => k_is)
    (case kc_Branch => k_is)
    (case a_is_kind_word => k_is)
    (case l_is_kind_word => k_is)
    (case c_is_kind_word => k_is)
    (case k_is_kind_word => k_is)
    (case a__law_wd_pair => k_is)
    (case l__law_wd_pair => k_is)
    (case c__law_wd_pair => k_is)
    (case k__law_wd_pair => k_is)
    (case a_require_asked => k_is)
    (case l_require_asked => k_is)
    (case c_require_asked => k_is)
    (case k_require_asked => k_is)
    (case a_count_of_kind => k_is)
    (case l_count_of_kind => k_is)
    (case c_count_of_kind => k_is)
    (case k_count_of_kind => k_is)
    (case a_each_of_kind => k_is)
    (case l_each_of_kind => k_is)
    (case c_each_of_kind => k_is)
    (case k_each_of_kind => k_is)
    (case a__law_is_counted => k_is)
    (case l__law_is_counted => k_is)
    (case c__law_is_counted => k_is)
    (case k__law_is_counted => k_is)
    (case a__law_is_listed => k_is)
    (case l__law_is_listed => k_is)
    (case c__law_is_listed => k_is)
    (case k__law_is_listed => k_is)
    (case a_law => k_is)
    (case l_law => k_is)
    (case c_law => k_is)
    (case k_law => k_is)

